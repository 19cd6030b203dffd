import PyProof.Rows.All
import Wide.All
import OpenK.AllK
import Wide.FinOn
import HandS.ForMost
import PyProof.TableCode
import HandS.Text
import HandS.ForExc
import HandS.Lambda
import HandS.TupAny
import HandS.IsInst
import HandS.Deep
import HandS.Conv
import HandS.NoneIn
import HandS.Flow
import HandS.Star
import KE.SortData
import KE.IntTextLaws
import HandS.FStr
import HandS.RaiseMore
import HandS.Style
import HandS.ExcOwn
import HandS.ExcInit
import HandS.ExcField
import HandS.TryMany
import HandS.EndTab
import KE.KNestM
import KE.KLam
import PySem.Challenge.RW_iceyards_k81_whole_texts_of_deeds
set_option Elab.async false
set_option linter.all false
set_option maxRecDepth 1000000
set_option maxHeartbeats 0
/-! Mi0: values as trees, the IR, the interpreter. Plain Lean. -/
namespace Mi

/-- a value: frozen data, or a place of the heap of things that change -/
inductive PV where
  | non | bl (b : Bool) | int (i : Int) | str (s : List Nat)
  | tup (xs : List PV) | lst (xs : List PV) | frz (xs : List PV)
  | loc (n : Nat)
  deriving Inhabited

def PV.isD : PV → Bool
  | .loc _ => false
  | _ => true
def allD : List PV → Bool
  | [] => true
  | v :: vs => match v.isD with | true => allD vs | false => false

/-- things that change -/
inductive Ob where
  | gone | lst (xs : List PV)

/-- an end: a value, an exception (its class, what it keeps), or none that is told -/
inductive R (α : Type) where
  | ok (a : α) (h : List Ob)
  | ex (c : Nat) (fs : List PV) (h : List Ob)
  | no
def R.bind {α β : Type} (r : R α) (k : α → List Ob → R β) : R β :=
  match r with
  | .ok a h => k a h
  | .ex c fs h => .ex c fs h
  | .no => .no

abbrev Sl := List (Option PV)
def nth : Sl → Nat → Option PV
  | [], _ => none
  | v :: _, 0 => v
  | _ :: r, i + 1 => nth r i
def put : Sl → Nat → Option PV → Sl
  | [], _, _ => []
  | _ :: r, 0, v => v :: r
  | w :: r, i + 1, v => w :: put r i v
def wipe (σ : Sl) : List Nat → Sl
  | [] => σ
  | i :: is => put (wipe σ is) i none

def obAt : List Ob → Nat → Ob
  | [], _ => .gone
  | o :: _, 0 => o
  | _ :: r, i + 1 => obAt r i
def obSet : List Ob → Nat → Ob → List Ob
  | [], _, _ => []
  | _ :: r, 0, v => v :: r
  | w :: r, i + 1, v => w :: obSet r i v

def line : Nat := 16777216
def two63 : Int := 9223372036854775808
def two64 : Int := 18446744073709551616

inductive BOp where | add | sub | mul | fdiv | mod | pow | shl
inductive COp where | eq | ne | lt | le | gt | ge | isN | notN | isIn | notIn
/-- a built-in type of isinstance -/
inductive Ty where | int | bool | str | tuple | list
/-- a built-in that is called with values -/
inductive Bi where
  | len | int | abs | sum | sorted (m : Bool) | tuple | list (m : Bool) | all | any | min2 | max2 | divmod | isi (t : Ty) | min1 | max1 | str1
inductive Me where
  | append | join | split (m : Bool) | upper

mutual
inductive Ex where
  | cst (v : PV)
  | var (i : Nat)
  | glb (i : Nat)
  | bin (m : Bool) (op : BOp) (a b : Ex)
  | neg (a : Ex)
  | not (a : Ex)
  | and (a b : Ex)
  | or (a b : Ex)
  | cmp (op : COp) (a b : Ex)
  | cmp2 (op op2 : COp) (a b c : Ex)
  | ife (c a b : Ex)
  | tup (es : Exs)
  | lst (m : Bool) (es : Exs)
  | call (f : Nat) (es : Exs)
  | callk (f : Nat) (es ks : Exs) (perm : List Nat)
  | bi (b : Bi) (es : Exs)
  | tupR (es : Exs)
  | lstR (m : Bool) (es : Exs)
  | ix (a b : Ex)
  | sl (m : Bool) (a : Ex) (lo hi : Exs)
  | lc (m : Bool) (own : List Nat) (it : It) (p : Pat) (c : Ex) (e : Ex)
  | me (k : Me) (o : Ex) (es : Exs)
  | fz (a : Ex)
  | lam (f : Nat) (e : Ex)
  | rev (m : Bool) (a : Ex)
  | fmt (a : Ex)
  | fs (es : Exs)
inductive Exs where
  | nil
  | cons (star : Bool) (e : Ex) (r : Exs)
inductive It where
  | rng (es : Exs)
  | plain (e : Ex)
inductive Pat where
  | nm (i : Nat)
  | tp (ps : Pats)
  | sx (o i : Ex)
inductive Pats where
  | nil
  | cons (p : Pat) (r : Pats)
end

inductive Sx where
  | pass
  | seq (a b : Sx)
  | asg (p : Pat) (e : Ex)
  | par (i j : Nat) (a b : Ex)
  | expr (e : Ex)
  | ret (e : Ex)
  | retN
  | ife (c : Ex) (a b : Sx)
  | for (it : It) (p : Pat) (b : Sx)
  | whl (n : Nat) (c : Ex) (b : Sx)
  | rse (c : Nat) (e : Ex)
  | stuck

inductive Fl where
  | nx (σ : Sl) | bk (σ : Sl) | ct (σ : Sl) | rt (v : PV) | rs (c : Nat) (fs : List PV) (σ : Sl)

/-! ### values -/
/-- the signs of a text -/
def signs : List Nat → List PV
  | [] => []
  | c :: r => .str [c] :: signs r
/-- the items of a list (frozen, locked, or a list that changes) -/
def lstOf (h : List Ob) : PV → Option (List PV)
  | .lst xs => some xs
  | .frz xs => some xs
  | .loc n => match obAt h n with | .lst xs => some xs | .gone => none
  | _ => none
/-- a list that is no locked one -/
def lstOf' (h : List Ob) : PV → Option (List PV)
  | .lst xs => some xs
  | .loc n => match obAt h n with | .lst xs => some xs | .gone => none
  | _ => none
def seqOf (h : List Ob) : PV → Option (List PV)
  | .tup xs => some xs
  | v => lstOf h v

def nonE {α : Type} : List α → Bool
  | [] => false
  | _ :: _ => true
def truth (h : List Ob) : PV → Option Bool
  | .non => some false
  | .bl b => some b
  | .int i => some (match i with | .ofNat 0 => false | _ => true)
  | .str s => some (nonE s)
  | .tup xs => some (nonE xs)
  | v => match lstOf h v with | some xs => some (nonE xs) | none => none

mutual
def PV.eqv : PV → PV → Bool
  | .non, b => match b with | .non => true | _ => false
  | .bl a, b => match b with | .bl c => a == c | .int j => (if a then 1 else 0) == j | _ => false
  | .int i, b => match b with | .bl c => i == (if c then 1 else 0) | .int j => i == j | _ => false
  | .str x, b => match b with | .str y => x == y | _ => false
  | .tup xs, b => match b with | .tup ys => eqvAll xs ys | _ => false
  | .lst xs, b => match b with | .lst ys => eqvAll xs ys | .frz ys => eqvAll xs ys | _ => false
  | .frz xs, b => match b with | .lst ys => eqvAll xs ys | .frz ys => eqvAll xs ys | _ => false
  | .loc _, _ => false
def eqvAll : List PV → List PV → Bool
  | [], ys => match ys with | [] => true | _ :: _ => false
  | x :: xs, ys => match ys with | [] => false | y :: ys => match x.eqv y with | true => eqvAll xs ys | false => false
end

mutual
/-- data not deeper than n -/
def PV.dep : PV → Nat → Bool
  | .tup xs, n => match n with | 0 => false | n + 1 => depAll xs n
  | .lst xs, n => match n with | 0 => false | n + 1 => depAll xs n
  | .frz xs, n => match n with | 0 => false | n + 1 => depAll xs n
  | .loc _, _ => false
  | _, _ => true
def depAll : List PV → Nat → Bool
  | [], _ => true
  | x :: xs, n => match x.dep n with | true => depAll xs n | false => false
end

def deref (h : List Ob) : PV → PV
  | .loc n => match obAt h n with | .lst xs => .lst xs | .gone => .loc n
  | v => v

def eqV (h : List Ob) (a b : PV) : Option Bool :=
  match (deref h a).dep 60, (deref h b).dep 60 with
  | true, true => some ((deref h a).eqv (deref h b))
  | _, _ => none

def memN (c : Nat) : List Nat → Bool
  | [] => false
  | d :: r => match Nat.beq c d with | true => true | false => memN c r
def anyEq (x : PV) : List PV → Bool
  | [] => false
  | y :: ys => match y.eqv x with | true => true | false => anyEq x ys

/-- the ints of a list -/
def intsOf : List PV → Option (List Int)
  | [] => some []
  | .int i :: r => match intsOf r with | some is => some (i :: is) | none => none
  | _ :: _ => none
def boolsOf : List PV → Option (List Bool)
  | [] => some []
  | .bl i :: r => match boolsOf r with | some is => some (i :: is) | none => none
  | _ :: _ => none

def leastI (i : Int) : List Int → Int
  | [] => i
  | j :: r => leastI (if j < i then j else i) r
def mostI (i : Int) : List Int → Int
  | [] => i
  | j :: r => mostI (if j > i then j else i) r
def sumI : List Int → Int
  | [] => 0
  | i :: r => i + sumI r

/-! sorting: data of one shape -/
mutual
/-- of one shape -/
def sm : PV → PV → Bool
  | .non, b => match b with | .non => true | _ => false
  | .bl _, b => match b with | .bl _ => true | _ => false
  | .int _, b => match b with | .int _ => true | _ => false
  | .str _, b => match b with | .str _ => true | _ => false
  | .tup xs, b => match b with | .tup ys => smAll xs ys | _ => false
  | .lst xs, b => match b with | .lst ys => smAll xs ys | _ => false
  | .frz _, _ => false
  | .loc _, _ => false
def smAll : List PV → List PV → Bool
  | [], ys => match ys with | [] => true | _ :: _ => false
  | x :: xs, ys => match ys with | [] => false | y :: ys => match sm x y with | true => smAll xs ys | false => false
end
mutual
/-- that can be compared -/
def alP : PV → PV → Bool
  | .non, b => match b with | .non => true | _ => false
  | .bl _, b => match b with | .bl _ => true | _ => false
  | .int _, b => match b with | .int _ => true | _ => false
  | .str _, b => match b with | .str _ => true | _ => false
  | .tup xs, b => match b with | .tup ys => alAll xs ys | _ => false
  | .lst xs, b => match b with | .lst ys => alAll xs ys | _ => false
  | .frz _, _ => false
  | .loc _, _ => false
def alAll : List PV → List PV → Bool
  | [], _ => true
  | x :: xs, ys => match ys with | [] => true | y :: ys => match alP x y with | true => alAll xs ys | false => false
end
mutual
/-- x < y, alike data -/
def ltP : PV → PV → Bool
  | .non, _ => false
  | .bl a, b => match b with | .bl c => !a && c | _ => false
  | .int a, b => match b with | .int c => decide (a < c) | _ => false
  | .str a, b => match b with | .str c => decide (a < c) | _ => false
  | .tup xs, b => match b with | .tup ys => ltAll xs ys | _ => false
  | .lst xs, b => match b with | .lst ys => ltAll xs ys | _ => false
  | .frz _, _ => false
  | .loc _, _ => false
def ltAll : List PV → List PV → Bool
  | [], ys => match ys with | [] => false | _ :: _ => true
  | x :: xs, ys => match ys with | [] => false | y :: ys => match x.eqv y with | true => ltAll xs ys | false => ltP x y
end
def insP (x : PV) : List PV → List PV
  | [] => [x]
  | y :: ys => match ltP y x with | true => y :: insP x ys | false => x :: y :: ys
def sortL : List PV → List PV
  | [] => []
  | x :: xs => insP x (sortL xs)
def alikes (xs : List PV) : Bool := match xs with
  | [] => true
  | x :: _ => xs.all (sm x) || xs.all fun a => xs.all (alP a)
def isRow : PV → Bool
  | .tup (_ :: _) => true
  | _ => false
def isAtom : PV → Bool
  | .non => false
  | .tup _ => false
  | _ => true
def sortP (xs : List PV) : Option (List PV) :=
  match alikes xs && (xs.all isRow || xs.all isAtom) && depAll xs 60 with
  | true => some (sortL xs)
  | false => none

def isTy (h : List Ob) (t : Ty) (v : PV) : Option Bool :=
  match t, v with
  | .int, .int _ => some true
  | .int, .bl _ => some true
  | .bool, .bl _ => some true
  | .str, .str _ => some true
  | .tuple, .tup _ => some true
  | .list, .lst _ => some true
  | .list, .frz _ => some true
  | _, .loc n => match obAt h n with | .lst _ => some (match t with | .list => true | _ => false) | .gone => none
  | _, _ => some false

def mkL (m : Bool) (xs : List PV) (h : List Ob) : R PV :=
  match m with
  | true => .ok (.loc h.length) (h ++ [.lst xs])
  | false => .ok (.lst xs) h

def ixN (n : Nat) (i : Int) : Option Nat :=
  match i with
  | .ofNat k => if k < n then some k else none
  | .negSucc k => if k < n then some (n - (k + 1)) else none
def atI {α : Type} (xs : List α) (i : Int) : Option α :=
  match i with
  | .ofNat k => xs[k]?
  | .negSucc k => if k < xs.length then xs[xs.length - (k + 1)]? else none
/-- a slice's bound -/
def slIx (n d : Nat) : Option Int → Nat
  | none => d
  | some (.ofNat k) => if k ≤ n then k else n
  | some (.negSucc k) => n - (k + 1)
def cut {α : Type} (xs : List α) (lo hi : Option Int) : List α :=
  (xs.drop (slIx xs.length 0 lo)).take (slIx xs.length xs.length hi - slIx xs.length 0 lo)

def rep {α : Type} (xs : List α) : Nat → List α
  | 0 => []
  | n + 1 => xs ++ rep xs n

def small64 (i : Int) : Bool := decide (-two64 < i) && decide (i < two64)

def apBin (m : Bool) (op : BOp) (a b : PV) (h : List Ob) : R PV :=
  match op with
  | .add => match a, b with
    | .int i, .int j => .ok (.int (i + j)) h
    | .str x, .str y => if x.length + y.length ≤ line then .ok (.str (x ++ y)) h else .no
    | .tup xs, .tup ys => if xs.length + ys.length ≤ line then .ok (.tup (xs ++ ys)) h else .no
    | a, b => match lstOf' h a, lstOf' h b with
      | some xs, some ys => if xs.length + ys.length ≤ line then mkL m (xs ++ ys) h else .no
      | _, _ => .no
  | .sub => match a, b with
    | .int i, .int j => .ok (.int (i - j)) h
    | _, _ => .no
  | .mul => match a, b with
    | .int i, .int j => if small64 i || small64 j then .ok (.int (i * j)) h else .no
    | a, .int k => match lstOf' h a with
      | some xs => if 0 ≤ k ∧ k < two63 ∧ xs.length * k.toNat ≤ line then mkL m (rep xs k.toNat) h else .no
      | none => .no
    | _, _ => .no
  | .fdiv => match a, b with
    | .int i, .int j => if 0 < j ∧ j < 1073741824 then .ok (.int (i / j)) h else .no
    | _, _ => .no
  | .mod => match a, b with
    | .int i, .int j => if 0 < j then .ok (.int (i % j)) h else .no
    | _, _ => .no
  | .pow => match a, b with
    | .int i, .int j => if 0 ≤ j ∧ j ≤ 1000000 ∧ i.natAbs < 18446744073709551616 then .ok (.int (i ^ j.toNat)) h else .no
    | _, _ => .no
  | .shl => .no

def apCmp (op : COp) (a b : PV) (h : List Ob) : R PV :=
  match op with
  | .eq => match eqV h a b with | some r => .ok (.bl r) h | none => .no
  | .ne => match eqV h a b with | some r => .ok (.bl (!r)) h | none => .no
  | .lt => match a, b with
    | .int i, .int j => .ok (.bl (decide (i < j))) h
    | _, _ => .no
  | .le => match a, b with
    | .int i, .int j => .ok (.bl (decide (i ≤ j))) h
    | _, _ => .no
  | .gt => match a, b with
    | .int i, .int j => .ok (.bl (decide (j < i))) h
    | _, _ => .no
  | .ge => match a, b with
    | .int i, .int j => .ok (.bl (decide (j ≤ i))) h
    | _, _ => .no
  | .isN => match a, b with
    | .non, .non => .ok (.bl true) h
    | _, .non => .ok (.bl false) h
    | _, _ => .no
  | .notN => match a, b with
    | .non, .non => .ok (.bl false) h
    | _, .non => .ok (.bl true) h
    | _, _ => .no
  | .isIn => match b with
    | .str s => match a with
      | .str [c] => .ok (.bl (memN c s)) h
      | _ => .no
    | b => match seqOf h b with
      | some ys => if a.dep 60 && depAll ys 60 then .ok (.bl (anyEq a ys)) h else .no
      | none => .no
  | .notIn => match b with
    | .str s => match a with
      | .str [c] => .ok (.bl (!memN c s)) h
      | _ => .no
    | b => match seqOf h b with
      | some ys => if a.dep 60 && depAll ys 60 then .ok (.bl (!anyEq a ys)) h else .no
      | none => .no

/-! numbers as texts -/
def decN : Nat → Nat → List Nat → List Nat
  | 0, _, acc => acc
  | f + 1, n, acc => match n / 10 with
    | 0 => (48 + n % 10) :: acc
    | m + 1 => decN f (m + 1) ((48 + n % 10) :: acc)
def decI (i : Int) : List Nat := match i with
  | .ofNat n => decN (n + 1) n []
  | .negSucc n => 45 :: decN (n + 2) (n + 1) []
def big100 : Nat := 10 ^ 100
/-- a text or an int, as a text -/
def fmtV : PV → Option (List Nat)
  | .str s => some s
  | .int i => match Nat.blt i.natAbs big100 with | true => some (decI i) | false => none
  | _ => none
def digs : List Nat → Bool
  | [] => true
  | c :: r => match Nat.ble 48 c && Nat.ble c 57 with | true => digs r | false => false
def valD (a : Nat) : List Nat → Nat
  | [] => a
  | c :: r => valD (a * 10 + (c - 48)) r
/-- int(text): digits, or - and digits -/
def intT (s : List Nat) : Option Int := match Nat.ble s.length 640 with
  | true => match s with
    | [] => none
    | 45 :: r => match nonE r && digs r with | true => some (-((valD 0 r : Nat) : Int)) | false => none
    | c :: r => match digs (c :: r) with | true => some ((valD 0 (c :: r) : Nat) : Int) | false => none
  | false => none
def low128 : List Nat → Bool
  | [] => true
  | c :: r => match Nat.blt c 128 with | true => low128 r | false => false
def upC (c : Nat) : Nat := match Nat.ble 97 c && Nat.ble c 122 with | true => c - 32 | false => c
def upT : List Nat → List Nat
  | [] => []
  | c :: r => upC c :: upT r

/-- range(..): its ends and step -/
def rngOf : List PV → Option (Int × Int × Int)
  | [.int n] => some (0, n, 1)
  | [.int a, .int b] => some (a, b, 1)
  | [.int a, .int b, .int c] => some (a, b, c)
  | _ => none
def up (a : Int) : Nat → List PV
  | 0 => []
  | n + 1 => .int a :: up (a + 1) n
def down (a : Int) : Nat → List PV
  | 0 => []
  | n + 1 => .int a :: down (a - 1) n
def two62 : Int := 4611686018427387904
def in62 (a : Int) : Bool := decide (-two62 ≤ a) && decide (a < two62)
/-- the ints of a range with the step 1 or - 1 -/
def rngItems (vs : List PV) : Option (List PV) :=
  match rngOf vs with
    | some (a, b, c) => if in62 a && in62 b then
        (if c = 1 then (if (b - a).toNat ≤ line then some (up a (b - a).toNat) else none)
         else if c = -1 then (if (a - b).toNat ≤ line then some (down a (a - b).toNat) else none) else none) else none
    | none => none

def apBi (b : Bi) (vs : List PV) (h : List Ob) : R PV :=
  match b with
  | .len => match vs with
    | [.str s] => .ok (.int s.length) h
    | [v] => match seqOf h v with | some xs => .ok (.int xs.length) h | none => .no
    | _ => .no
  | .int => match vs with
    | [.int i] => .ok (.int i) h
    | [.bl b] => .ok (.int (if b then 1 else 0)) h
    | [.str s] => match intT s with | some i => .ok (.int i) h | none => .no
    | _ => .no
  | .str1 => match vs with
    | [v] => match fmtV v with | some s => .ok (.str s) h | none => .no
    | _ => .no
  | .abs => match vs with
    | [.int i] => .ok (.int (if i < 0 then -i else i)) h
    | _ => .no
  | .sum => match vs with
    | [v] => match lstOf h v with
      | some xs => match intsOf xs with | some is => .ok (.int (sumI is)) h | none => .no
      | none => .no
    | _ => .no
  | .sorted m => match vs with
    | [v] => match seqOf h v with
      | some xs => match sortP xs with | some ys => mkL m ys h | none => .no
      | none => .no
    | _ => .no
  | .tuple => match vs with
    | [.tup xs] => .ok (.tup xs) h
    | [v] => match lstOf h v with | some xs => .ok (.tup xs) h | none => .no
    | _ => .no
  | .list m => match vs with
    | [v] => match seqOf h v with | some xs => mkL m xs h | none => .no
    | _ => .no
  | .all => match vs with
    | [v] => match lstOf h v with
      | some xs => match boolsOf xs with | some bs => .ok (.bl (bs.all id)) h | none => .no
      | none => .no
    | _ => .no
  | .any => match vs with
    | [v] => match lstOf h v with
      | some xs => match boolsOf xs with | some bs => .ok (.bl (bs.any id)) h | none => .no
      | none => .no
    | _ => .no
  | .min2 => match vs with
    | [.int i, .int j] => .ok (.int (if j < i then j else i)) h
    | _ => .no
  | .max2 => match vs with
    | [.int i, .int j] => .ok (.int (if j > i then j else i)) h
    | _ => .no
  | .min1 => match vs with
    | [v] => match lstOf h v with
      | some xs => match intsOf xs with | some (i :: is) => .ok (.int (leastI i is)) h | _ => .no
      | none => .no
    | _ => .no
  | .max1 => match vs with
    | [v] => match lstOf h v with
      | some xs => match intsOf xs with | some (i :: is) => .ok (.int (mostI i is)) h | _ => .no
      | none => .no
    | _ => .no
  | .divmod => match vs with
    | [.int i, .int j] => if 0 < j ∧ j < 1073741824 then .ok (.tup [.int (i / j), .int (i % j)]) h else .no
    | _ => .no
  | .isi t => match vs with
    | [v] => match isTy h t v with | some b => .ok (.bl b) h | none => .no
    | _ => .no

def apIx (a b : PV) (h : List Ob) : R PV :=
  match b with
  | .int i => match a with
    | .str s => match atI s i with | some c => .ok (.str [c]) h | none => .no
    | a => match seqOf h a with
      | some xs => match atI xs i with | some v => .ok v h | none => .no
      | none => .no
  | _ => .no

def bound : List PV → Option (Option Int)
  | [] => some none
  | [.int i] => some (some i)
  | _ => none
def bndR (x : R (List PV)) : R (Option Int) :=
  match x with
  | .ok xs h => match bound xs with | some b => .ok b h | none => .no
  | .ex c fs h => .ex c fs h
  | .no => .no
def apSl (m : Bool) (a : PV) (l u : Option Int) (h : List Ob) : R PV :=
  match a with
  | .str s => .ok (.str (cut s l u)) h
  | .tup xs => .ok (.tup (cut xs l u)) h
  | a => match lstOf h a with | some xs => mkL m (cut xs l u) h | none => .no

/-- o[i] = v -/
def setIx (o i v : PV) (h : List Ob) : Option (List Ob) :=
  match o, i with
  | .loc n, .int k => match obAt h n with
    | .lst xs => match ixN xs.length k, v.isD with
      | some j, true => some (obSet h n (.lst (xs.set j v)))
      | _, _ => none
    | .gone => none
  | _, _ => none

/-- a[::-1] -/
def apRev (m : Bool) (a : PV) (h : List Ob) : R PV :=
  match lstOf h a with
  | some xs => mkL m xs.reverse h
  | none => .no
/-- what becomes of a call with a thunk: its end, told to the def -/
def okR (r : R PV) : R PV := match r with
  | .ok v h => .ok v h
  | _ => .no
def lamR (r : R PV) (k : PV → List Ob → R PV) : R PV := match r with
  | .ok v h1 => match v.isD with | true => okR (k (.tup [.bl true, v]) h1) | false => .no
  | .ex c fs h1 => okR (k (.tup [.bl false, .int c, .tup fs]) h1)
  | .no => .no
def strsOf : List PV → Option (List (List Nat))
  | [] => some []
  | .str s :: r => match strsOf r with | some ss => some (s :: ss) | none => none
  | _ :: _ => none
def joinN (sep : List Nat) : List (List Nat) → List Nat
  | [] => []
  | [s] => s
  | s :: t :: r => s ++ (sep ++ joinN sep (t :: r))
def lens : List (List Nat) → Nat
  | [] => 0
  | s :: r => s.length + lens r
def low256 : List Nat → Bool
  | [] => true
  | c :: r => match Nat.blt c 256 with | true => low256 r | false => false
/-- the type of a method's object -/
def meTy (k : Me) (o : PV) (h : List Ob) : Bool :=
  match k with
  | .join => match o with
    | .str _ => true
    | _ => false
  | .split _ => match o with
    | .str _ => true
    | _ => false
  | .upper => match o with
    | .str _ => true
    | _ => false
  | .append => match o with
    | .loc n => match obAt h n with | .lst _ => true | .gone => false
    | _ => false
def apMe (k : Me) (o : PV) (vs : List PV) (h : List Ob) : R PV :=
  match k with
  | .upper => match o, vs with
    | .str s, [] => if low128 s && decide (s.length ≤ 1000) then .ok (.str (upT s)) h else .no
    | _, _ => .no
  | .split m => match o, vs with
    | .str s, [.str S] => if nonE S && low256 S && decide (s.length + 2 ≤ line) then mkL m ((TL.spl S 0 [] s).map .str) h else .no
    | _, _ => .no
  | .join => match o, vs with
    | .str sep, [v] => match seqOf h v with
      | some xs => match strsOf xs with
        | some ss => if lens ss + ss.length * sep.length ≤ line then .ok (.str (joinN sep ss)) h else .no
        | none => .no
      | none => .no
    | _, _ => .no
  | .append => match o, vs with
    | .loc n, [v] => match obAt h n with
      | .lst xs => match v.isD with
        | true => if xs.length < line then .ok .non (obSet h n (.lst (xs ++ [v]))) else .no
        | false => .no
      | .gone => .no
    | _, _ => .no

def permOf {α : Type} (vs : List α) : List Nat → Option (List α)
  | [] => some []
  | i :: is => match vs[i]?, permOf vs is with
    | some v, some r => some (v :: r)
    | _, _ => none

/-- the loops -/
def forL (asg : PV → Sl → List Ob → R Sl) (body : Sl → List Ob → R Fl) : List PV → Sl → List Ob → R Fl
  | [], σ, h => .ok (.nx σ) h
  | v :: vs, σ, h => match asg v σ h with
    | .ok σ1 h1 => match body σ1 h1 with
      | .ok f h2 => match f with
        | .nx σ2 => forL asg body vs σ2 h2
        | .ct σ2 => forL asg body vs σ2 h2
        | .bk σ2 => .ok (.nx σ2) h2
        | .rt v => .ok (.rt v) h2
        | .rs c fs σ2 => .ok (.rs c fs σ2) h2
      | _ => .no
    | _ => .no
def whlL (c : Sl → List Ob → R Bool) (body : Sl → List Ob → R Fl) : Nat → Sl → List Ob → R Fl
  | 0, _, _ => .no
  | n + 1, σ, h => match c σ h with
    | .ok b h1 => match b with
      | true => match body σ h1 with
        | .ok f h2 => match f with
          | .nx σ2 => whlL c body n σ2 h2
          | .ct σ2 => whlL c body n σ2 h2
          | .bk σ2 => .ok (.nx σ2) h2
          | .rt v => .ok (.rt v) h2
          | .rs c fs σ2 => .ok (.rs c fs σ2) h2
        | _ => .no
      | false => .ok (.nx σ) h1
    | .ex c fs h1 => .ok (.rs c fs σ) h1
    | .no => .no
/-- the items of a comprehension: each turn from the slots σ; no exception leaves -/
def lcL (asg : PV → Sl → List Ob → R Sl) (c : Sl → List Ob → R Bool) (e : Sl → List Ob → R PV) (σ : Sl) : List PV → List Ob → R (List PV)
  | [], h => .ok [] h
  | v :: vs, h => match asg v σ h with
    | .ok σ1 h1 => match c σ1 h1 with
      | .ok true h2 => match e σ1 h2 with
        | .ok x h3 => match x.isD with
          | true => match lcL asg c e σ vs h3 with
            | .ok xs h4 => .ok (x :: xs) h4
            | _ => .no
          | false => .no
        | _ => .no
      | .ok false h2 => lcL asg c e σ vs h2
      | _ => .no
    | _ => .no

def test (r : R PV) : R Bool :=
  match r with
  | .ok v h => match truth h v with | some b => .ok b h | none => .no
  | .ex c fs h => .ex c fs h
  | .no => .no

section
variable (G : Nat → Option PV) (cl : Nat → List PV → List Ob → R PV)
mutual
def ev : Ex → Sl → List Ob → R PV
  | .cst v, _, h => .ok v h
  | .var i, σ, h => match nth σ i with | some v => .ok v h | none => .no
  | .glb i, _, h => match G i with | some v => .ok v h | none => .no
  | .bin m op a b, σ, h => match ev a σ h with
    | .ok x h1 => match ev b σ h1 with
      | .ok y h2 => apBin m op x y h2
      | .ex c fs h2 => .ex c fs h2
      | .no => .no
    | .ex c fs h1 => .ex c fs h1
    | .no => .no
  | .neg a, σ, h => match ev a σ h with
    | .ok (.int i) h1 => .ok (.int (-i)) h1
    | .ex c fs h1 => .ex c fs h1
    | _ => .no
  | .not a, σ, h => match test (ev a σ h) with
    | .ok b h1 => .ok (.bl (!b)) h1
    | .ex c fs h1 => .ex c fs h1
    | .no => .no
  | .and a b, σ, h => match ev a σ h with
    | .ok x h1 => match truth h1 x with
      | some true => ev b σ h1
      | some false => .ok x h1
      | none => .no
    | .ex c fs h1 => .ex c fs h1
    | .no => .no
  | .or a b, σ, h => match ev a σ h with
    | .ok x h1 => match truth h1 x with
      | some true => .ok x h1
      | some false => ev b σ h1
      | none => .no
    | .ex c fs h1 => .ex c fs h1
    | .no => .no
  | .cmp op a b, σ, h => match ev a σ h with
    | .ok x h1 => match ev b σ h1 with
      | .ok y h2 => apCmp op x y h2
      | .ex c fs h2 => .ex c fs h2
      | .no => .no
    | .ex c fs h1 => .ex c fs h1
    | .no => .no
  | .cmp2 op op2 a b c, σ, h => match ev a σ h with
    | .ok x h1 => match ev b σ h1 with
      | .ok y h2 => match apCmp op x y h2 with
        | .ok (.bl true) h3 => match ev c σ h3 with
          | .ok z h4 => apCmp op2 y z h4
          | .ex c fs h4 => .ex c fs h4
          | .no => .no
        | .ok (.bl false) h3 => .ok (.bl false) h3
        | _ => .no
      | .ex c fs h2 => .ex c fs h2
      | .no => .no
    | .ex c fs h1 => .ex c fs h1
    | .no => .no
  | .ife c a b, σ, h => match test (ev c σ h) with
    | .ok true h1 => ev a σ h1
    | .ok false h1 => ev b σ h1
    | .ex c fs h1 => .ex c fs h1
    | .no => .no
  | .tup es, σ, h => match evs es σ h with
    | .ok xs h1 => if allD xs && decide (xs.length ≤ line) then .ok (.tup xs) h1 else .no
    | .ex c fs h1 => .ex c fs h1
    | .no => .no
  | .lst m es, σ, h => match evs es σ h with
    | .ok xs h1 => if allD xs && decide (xs.length ≤ line) then mkL m xs h1 else .no
    | .ex c fs h1 => .ex c fs h1
    | .no => .no
  | .call f es, σ, h => match evs es σ h with
    | .ok xs h1 => cl f xs h1
    | .ex c fs h1 => .ex c fs h1
    | .no => .no
  | .callk f es ks perm, σ, h => match evs es σ h with
    | .ok xs h1 => match evs ks σ h1 with
      | .ok ys h2 => match permOf (xs ++ ys) perm with | some zs => cl f zs h2 | none => .no
      | .ex c fs h2 => .ex c fs h2
      | .no => .no
    | .ex c fs h1 => .ex c fs h1
    | .no => .no
  | .bi b es, σ, h => match evs es σ h with
    | .ok xs h1 => apBi b xs h1
    | .ex c fs h1 => .ex c fs h1
    | .no => .no
  | .tupR es, σ, h => match evs es σ h with
    | .ok xs h1 => match rngItems xs with | some ys => .ok (.tup ys) h1 | none => .no
    | .ex c fs h1 => .ex c fs h1
    | .no => .no
  | .lstR m es, σ, h => match evs es σ h with
    | .ok xs h1 => match rngItems xs with | some ys => mkL m ys h1 | none => .no
    | .ex c fs h1 => .ex c fs h1
    | .no => .no
  | .ix a b, σ, h => match ev a σ h with
    | .ok x h1 => match ev b σ h1 with
      | .ok y h2 => apIx x y h2
      | .ex c fs h2 => .ex c fs h2
      | .no => .no
    | .ex c fs h1 => .ex c fs h1
    | .no => .no
  | .sl m a lo hi, σ, h => match ev a σ h with
    | .ok x h1 => match bndR (evs lo σ h1) with
      | .ok y h2 => match bndR (evs hi σ h2) with
        | .ok z h3 => apSl m x y z h3
        | .ex c fs h3 => .ex c fs h3
        | .no => .no
      | .ex c fs h2 => .ex c fs h2
      | .no => .no
    | .ex c fs h1 => .ex c fs h1
    | .no => .no
  | .lc m own it p c e, σ, h => match evI it σ h with
    | .ok xs h1 => match lcL (evP p) (fun σ h => test (ev c σ h)) (ev e) (wipe σ own) xs h1 with
      | .ok ys h2 => match Nat.ble ys.length line with | true => mkL m ys h2 | false => .no
      | _ => .no
    | .ex c fs h1 => .ex c fs h1
    | .no => .no
  | .me k o es, σ, h => match ev o σ h with
    | .ok x h1 => match meTy k x h1 with
      | true => match evs es σ h1 with
        | .ok vs h2 => apMe k x vs h2
        | .ex c fs h2 => .ex c fs h2
        | .no => .no
      | false => .no
    | .ex c fs h1 => .ex c fs h1
    | .no => .no
  | .fz a, σ, h => match ev a σ h with
    | .ok (.loc n) h1 => match obAt h1 n with
      | .lst xs => .ok (.lst xs) (obSet h1 n .gone)
      | .gone => .no
    | r => r
  | .lam f e, σ, h => lamR (ev e σ h) fun v h1 => cl f [v] h1
  | .rev m a, σ, h => match ev a σ h with
    | .ok x h1 => apRev m x h1
    | .ex c fs h1 => .ex c fs h1
    | .no => .no
  | .fmt a, σ, h => match ev a σ h with
    | .ok x h1 => match fmtV x with | some s => .ok (.str s) h1 | none => .no
    | .ex c fs h1 => .ex c fs h1
    | .no => .no
  | .fs es, σ, h => evF es σ [] h
/-- the pieces of a text -/
def evF : Exs → Sl → List Nat → List Ob → R PV
  | .nil, _, acc, h => .ok (.str acc) h
  | .cons star e r, σ, acc, h => match star with
    | true => .no
    | false => match ev e σ h with
      | .ok x h1 => match x with
        | .str s => if acc.length + s.length ≤ line then evF r σ (acc ++ s) h1 else .no
        | _ => .no
      | .ex c fs h1 => .ex c fs h1
      | .no => .no
def evs : Exs → Sl → List Ob → R (List PV)
  | .nil, _, h => .ok [] h
  | .cons star e r, σ, h => match ev e σ h with
    | .ok x h1 => match star with
      | false => match evs r σ h1 with
        | .ok xs h2 => .ok (x :: xs) h2
        | .ex c fs h2 => .ex c fs h2
        | .no => .no
      | true => match seqOf h1 x with
        | some ys => match evs r σ h1 with
          | .ok xs h2 => .ok (ys ++ xs) h2
          | .ex c fs h2 => .ex c fs h2
          | .no => .no
        | none => .no
    | .ex c fs h1 => .ex c fs h1
    | .no => .no
/-- what a loop walks -/
def evI : It → Sl → List Ob → R (List PV)
  | .rng es, σ, h => match evs es σ h with
    | .ok xs h1 => match rngItems xs with | some ys => .ok ys h1 | none => .no
    | .ex c fs h1 => .ex c fs h1
    | .no => .no
  | .plain e, σ, h => match ev e σ h with
    | .ok (.tup xs) h1 => .ok xs h1
    | .ok (.lst xs) h1 => .ok xs h1
    | .ok (.frz xs) h1 => .ok xs h1
    | .ok (.str s) h1 => .ok (signs s) h1
    | .ok _ _ => .no
    | .ex c fs h1 => .ex c fs h1
    | .no => .no
/-- a target is stored -/
def evP : Pat → PV → Sl → List Ob → R Sl
  | .nm i, v, σ, h => .ok (put σ i (some v)) h
  | .tp ps, v, σ, h => match v with
    | .tup xs => evPs ps xs σ h
    | .lst xs => evPs ps xs σ h
    | _ => .no
  | .sx o i, v, σ, h => match ev o σ h with
    | .ok x h1 => match ev i σ h1 with
      | .ok y h2 => match setIx x y v h2 with
        | some h3 => .ok σ h3
        | none => .no
      | _ => .no
    | _ => .no
def evPs : Pats → List PV → Sl → List Ob → R Sl
  | .nil, vs, σ, h => match vs with
    | [] => .ok σ h
    | _ :: _ => .no
  | .cons p r, vs, σ, h => match vs with
    | v :: vs => match evP p v σ h with
      | .ok σ1 h1 => evPs r vs σ1 h1
      | _ => .no
    | [] => .no
end

def exec : Sx → Sl → List Ob → R Fl
  | .pass, σ, h => .ok (.nx σ) h
  | .seq a b, σ, h => match exec a σ h with
    | .ok f h1 => match f with
      | .nx σ1 => exec b σ1 h1
      | f => .ok f h1
    | _ => .no
  | .asg p e, σ, h => match ev G cl e σ h with
    | .ok v h1 => match evP G cl p v σ h1 with
      | .ok σ1 h2 => .ok (.nx σ1) h2
      | _ => .no
    | .ex c fs h1 => .ok (.rs c fs σ) h1
    | .no => .no
  | .par i j a b, σ, h => match ev G cl a σ h with
    | .ok x h1 => match ev G cl b σ h1 with
      | .ok y h2 => .ok (.nx (put (put σ i (some x)) j (some y))) h2
      | .ex c fs h2 => .ok (.rs c fs σ) h2
      | .no => .no
    | .ex c fs h1 => .ok (.rs c fs σ) h1
    | .no => .no
  | .expr e, σ, h => match ev G cl e σ h with
    | .ok _ h1 => .ok (.nx σ) h1
    | .ex c fs h1 => .ok (.rs c fs σ) h1
    | .no => .no
  | .ret e, σ, h => match ev G cl e σ h with
    | .ok v h1 => .ok (.rt v) h1
    | .ex c fs h1 => .ok (.rs c fs σ) h1
    | .no => .no
  | .retN, _, h => .ok (.rt .non) h
  | .ife c a b, σ, h => match test (ev G cl c σ h) with
    | .ok k h1 => match k with
      | true => exec a σ h1
      | false => exec b σ h1
    | .ex c fs h1 => .ok (.rs c fs σ) h1
    | .no => .no
  | .for it p b, σ, h => match evI G cl it σ h with
    | .ok xs h1 => forL (evP G cl p) (exec b) xs σ h1
    | .ex c fs h1 => .ok (.rs c fs σ) h1
    | .no => .no
  | .whl n c b, σ, h => whlL (fun σ h => test (ev G cl c σ h)) (exec b) n σ h
  | .rse c e, σ, h => match ev G cl e σ h with
    | .ok v h1 => match v.isD with | true => .ok (.rs c [v] σ) h1 | false => .no
    | .ex c fs h1 => .ok (.rs c fs σ) h1
    | .no => .no
  | .stuck, _, _ => .no
end

/-- a def: how many parameters, slots, its body; keep: a list that changes may be handed back -/
structure Fn where
  pars : Nat
  slots : Nat
  body : Sx
  keep : Bool

def startSl (args : List PV) (n : Nat) : Sl := args.map some ++ List.replicate n none

/-- a call's end: what the call made and does not hand back is forgotten -/
def fin (keep : Bool) (m : Nat) (v : PV) (h : List Ob) : R PV :=
  match v with
  | .loc n => if n < m then .ok v (h.take m) else
    match obAt h n with
    | .lst xs => match keep with
      | true => if (h.take m).length = m then .ok (.loc m) (h.take m ++ [.lst xs]) else .no
      | false => .ok (.lst xs) (h.take m)
    | .gone => .no
  | v => .ok v (h.take m)

/-- .. of a call with data alone: it runs over an empty heap; h is the caller's -/
def fin0 (keep : Bool) (v : PV) (hc h : List Ob) : R PV :=
  match v with
  | .loc n => match obAt hc n with
    | .lst xs => match keep with
      | true => .ok (.loc h.length) (h ++ [.lst xs])
      | false => .ok (.lst xs) h
    | .gone => .no
  | v => .ok v h

def runFn (G : Nat → Option PV) (cl : Nat → List PV → List Ob → R PV) (f : Fn) (args : List PV) (h : List Ob) : R PV :=
  match Nat.beq args.length f.pars with
  | true => match allD args with
    | true => match exec G cl f.body (startSl args (f.slots - f.pars)) [] with
      | .ok (.rt v) h1 => fin0 f.keep v h1 h
      | .ok (.nx _) _ => .ok .non h
      | .ok (.rs c fs _) _ => .ex c fs h
      | _ => .no
    | false => match exec G cl f.body (startSl args (f.slots - f.pars)) h with
      | .ok (.rt v) h1 => fin f.keep h.length v h1
      | .ok (.nx _) h1 => .ok .non (h1.take h.length)
      | .ok (.rs c fs _) h1 => .ex c fs (h1.take h.length)
      | _ => .no
  | false => .no

def fnAt : List Fn → Nat → Option Fn
  | [], _ => none
  | f :: _, 0 => some f
  | _ :: r, i + 1 => fnAt r i

def call (G : Nat → Option PV) (T : List Fn) : Nat → Nat → List PV → List Ob → R PV
  | 0, _, _, _ => .no
  | n + 1, f, args, h => match fnAt T f with
    | some fn => runFn G (call G T n) fn args h
    | none => .no
end Mi

/-! Mi1: what a tree is in the hand layer's heap; worlds, how they grow. -/
namespace Mi
open PySem L2

def toStr (s : List Nat) : Str := ⟨s.toArray⟩
theorem toStr_length (s : List Nat) : (toStr s).length = s.length := by simp [toStr, Str.length]
/-- code points -/
structure SOk (s : List Nat) : Prop where
  cp : ∀ c ∈ s, c < 1114112
  ln : s.length ≤ line
theorem toStr_inj {a b : List Nat} (h : toStr a = toStr b) : a = b := by
  have := congrArg (fun x : Str => x.cps.toList) h
  simpa [toStr] using this

/-- the written part, the tables of code objects -/
structure Kt where
  fr : PySem.W.Frag
  T : List (Addr × Str)
instance : Coe Kt PySem.W.Frag := ⟨Kt.fr⟩
/-- no table -/
abbrev NT (u : HO) : Prop := ∀ ps, u ≠ .tbl ps
theorem nt_lst {xs : List V} : NT (.lst xs) := fun _ e => nomatch e
theorem nt_tup {xs : List V} : NT (.tup xs) := fun _ e => nomatch e
theorem nt_frz {o : Obj} {u : HO} : NT (.frz o u) := fun _ e => nomatch e
/-- a world: where the changing things stand, what they hold, the abstract heap, what others may change -/
structure Wd where
  ρ : Nat → Addr
  h : List Ob
  H : Hp
  F : Addr → Prop

def Own (w : Wd) (a : Addr) : Prop := ∃ k xs, obAt w.h k = .lst xs ∧ w.ρ k = a
/-- not to be changed -/
def Fz (w : Wd) (a : Addr) : Prop := ¬ Own w a ∧ ¬ w.F a

section
variable (K : Kt)
/-- a list, a tuple of the module's own part -/
def KL (a : Addr) (xs : List V) : Prop := ∃ (o : Obj) (its : Array Value) (n : Nat), K.fr.lookup a = some o ∧ o.cls = .type "list" ∧ o.dict = none ∧ o.data = .seq its n ∧ its.size ≤ sizeLine ∧ Vals xs its.toList
def KT (a : Addr) (xs : List V) : Prop := ∃ (o : Obj) (its : Array Value) (n : Nat), K.fr.lookup a = some o ∧ o.cls = .type "tuple" ∧ o.data = .seq its n ∧ its.size ≤ sizeLine ∧ Vals xs its.toList
def TupAt (w : Wd) (a : Addr) (xs : List V) : Prop := (w.H a = some (.tup xs) ∧ Fz w a) ∨ KT K a xs
def FrzAt (w : Wd) (a : Addr) (xs : List V) : Prop := ((∃ o, w.H a = some (.frz o (.lst xs))) ∧ Fz w a) ∨ KL K a xs
mutual
inductive Rp (w : Wd) : PV → V → Prop
  | non : Rp w .non .non
  | bl (b : Bool) : Rp w (.bl b) (.bl b)
  | int (i : Int) : Rp w (.int i) (.int i)
  | str (s : List Nat) (o : SOk s) : Rp w (.str s) (.str (toStr s))
  | tup {xs : List PV} {a : Addr} {vs : List V} : TupAt K w a vs → Rps w xs vs → Rp w (.tup xs) (.ref a)
  | lst {xs : List PV} {a : Addr} {vs : List V} : w.H a = some (.lst vs) → Fz w a → Rps w xs vs → Rp w (.lst xs) (.ref a)
  | frz {xs : List PV} {a : Addr} {vs : List V} : FrzAt K w a vs → Rps w xs vs → Rp w (.frz xs) (.ref a)
inductive Rps (w : Wd) : List PV → List V → Prop
  | nil : Rps w [] []
  | cons {x : PV} {v : V} {xs : List PV} {vs : List V} : Rp w x v → Rps w xs vs → Rps w (x :: xs) (v :: vs)
end
end

theorem TupAt.sq {K : Kt} {w : Wd} {a : Addr} {xs : List V} (h : TupAt K w a xs) : SqT K.fr w.H a xs := by
  rcases h with ⟨h, _⟩ | h
  · exact .inl (.inl h)
  · exact .inr h
theorem FrzAt.sq {K : Kt} {w : Wd} {a : Addr} {xs : List V} (h : FrzAt K w a xs) : SqL K.fr w.H a xs := by
  rcases h with ⟨⟨o, h⟩, _⟩ | h
  · exact .inl (.inr ⟨o, h⟩)
  · exact .inr h

/-- a later world: the places stay, what must not be changed stays -/
structure Le (w w' : Wd) : Prop where
  pl : ∀ k, k < w.h.length → w'.ρ k = w.ρ k
  ln : w.h.length ≤ w'.h.length
  F : ∀ a, (w.F a → w'.F a) ∧ ∀ u, NT u → w.H a = some u → ¬ Own w a → w'.F a → w.F a
  kp : ∀ a u, NT u → w.H a = some u → ¬ Own w a → w'.H a = some u ∧ ¬ Own w' a
theorem Le.refl (w : Wd) : Le w w := ⟨fun _ _ => rfl, Nat.le_refl _, fun _ => ⟨id, fun _ _ _ _ h => h⟩, fun _ _ _ h n => ⟨h, n⟩⟩
theorem Le.trans {w w1 w2 : Wd} (a : Le w w1) (b : Le w1 w2) : Le w w2 where
  pl := fun k hk => (b.pl k (Nat.lt_of_lt_of_le hk a.ln)).trans (a.pl k hk)
  ln := Nat.le_trans a.ln b.ln
  F := fun c => ⟨fun h => (b.F c).1 ((a.F c).1 h), fun u nt h n z => let ⟨h1, n1⟩ := a.kp c u nt h n; (a.F c).2 u nt h n ((b.F c).2 u nt h1 n1 z)⟩
  kp := fun c u nt h n => let ⟨h1, n1⟩ := a.kp c u nt h n; b.kp c u nt h1 n1
theorem Le.fz {w w' : Wd} (l : Le w w') {a : Addr} {u : HO} (nt : NT u) (h : w.H a = some u) (f : Fz w a) : w'.H a = some u ∧ Fz w' a := by
  obtain ⟨h1, n1⟩ := l.kp a u nt h f.1
  exact ⟨h1, n1, fun z => f.2 ((l.F a).2 u nt h f.1 z)⟩
theorem Le.tup {K : Kt} {w w' : Wd} (l : Le w w') {a : Addr} {xs : List V} (h : TupAt K w a xs) : TupAt K w' a xs := by
  rcases h with ⟨h, f⟩ | h
  · exact .inl (l.fz nt_tup h f)
  · exact .inr h
theorem Le.frz {K : Kt} {w w' : Wd} (l : Le w w') {a : Addr} {xs : List V} (h : FrzAt K w a xs) : FrzAt K w' a xs := by
  rcases h with ⟨⟨o, h⟩, f⟩ | h
  · obtain ⟨h1, f1⟩ := l.fz nt_frz h f
    exact .inl ⟨⟨o, h1⟩, f1⟩
  · exact .inr h
mutual
theorem Rp.mono {K : Kt} {w w' : Wd} (l : Le w w') : ∀ {x : PV} {v : V}, Rp K w x v → Rp K w' x v
  | _, _, .non => .non
  | _, _, .bl b => .bl b
  | _, _, .int i => .int i
  | _, _, .str s o => .str s o
  | _, _, .tup h r => .tup (l.tup h) (Rps.mono l r)
  | _, _, .lst h f r => .lst (l.fz nt_lst h f).1 (l.fz nt_lst h f).2 (Rps.mono l r)
  | _, _, .frz h r => .frz (l.frz h) (Rps.mono l r)
theorem Rps.mono {K : Kt} {w w' : Wd} (l : Le w w') : ∀ {xs : List PV} {vs : List V}, Rps K w xs vs → Rps K w' xs vs
  | _, _, .nil => .nil
  | _, _, .cons h r => .cons (Rp.mono l h) (Rps.mono l r)
end
theorem Rps.length {K : Kt} {w : Wd} : ∀ {xs : List PV} {vs : List V}, Rps K w xs vs → xs.length = vs.length
  | _, _, .nil => rfl
  | _, _, .cons _ r => by rw [List.length_cons, List.length_cons, Rps.length r]
theorem Rps.get {K : Kt} {w : Wd} : ∀ {xs : List PV} {vs : List V} {i : Nat} {x : PV}, Rps K w xs vs → xs[i]? = some x → ∃ v, vs[i]? = some v ∧ Rp K w x v
  | _, _, _, _, .nil, e => by simp at e
  | _, _, 0, _, .cons h _, e => by simp at e; subst e; exact ⟨_, rfl, h⟩
  | _, _, i + 1, x, .cons _ r, e => by
    obtain ⟨v, h1, h2⟩ := Rps.get (i := i) (x := x) r (by simpa using e)
    exact ⟨v, by simpa using h1, h2⟩
theorem Rps.append {K : Kt} {w : Wd} : ∀ {xs ys : List PV} {vs us : List V}, Rps K w xs vs → Rps K w ys us → Rps K w (xs ++ ys) (vs ++ us)
  | _, _, _, _, .nil, r => r
  | _, _, _, _, .cons h t, r => .cons h (Rps.append t r)
theorem Rps.take {K : Kt} {w : Wd} : ∀ {xs : List PV} {vs : List V} (n : Nat), Rps K w xs vs → Rps K w (xs.take n) (vs.take n)
  | _, _, 0, _ => .nil
  | _, _, _ + 1, .nil => .nil
  | _, _, n + 1, .cons h t => .cons h (Rps.take n t)
theorem Rps.drop {K : Kt} {w : Wd} : ∀ {xs : List PV} {vs : List V} (n : Nat), Rps K w xs vs → Rps K w (xs.drop n) (vs.drop n)
  | _, _, 0, r => r
  | _, _, _ + 1, .nil => .nil
  | _, _, n + 1, .cons _ t => Rps.drop n t
theorem Rps.set {K : Kt} {w : Wd} {x : PV} {v : V} (h : Rp K w x v) : ∀ {xs : List PV} {vs : List V} (i : Nat), Rps K w xs vs → Rps K w (xs.set i x) (vs.set i v)
  | _, _, _, .nil => .nil
  | _, _, 0, .cons _ t => .cons h t
  | _, _, i + 1, .cons q t => .cons q (Rps.set h i t)
theorem Rps.rep {K : Kt} {w : Wd} {xs : List PV} {vs : List V} (h : Rps K w xs vs) : ∀ n : Nat, Rps K w (rep xs n) (List.replicate n vs).flatten
  | 0 => .nil
  | n + 1 => by
    rw [List.replicate_succ, List.flatten_cons]
    exact h.append (Rps.rep h n)

/-- a value: data, or a place -/
def Rv (K : Kt) (w : Wd) : PV → V → Prop
  | .loc n, v => n < w.h.length ∧ v = .ref (w.ρ n)
  | x, v => Rp K w x v
theorem Rv.of {K : Kt} {w : Wd} {x : PV} {v : V} (h : Rp K w x v) : Rv K w x v := by
  cases x <;> first | exact h | cases h
theorem Rv.data {K : Kt} {w : Wd} {x : PV} {v : V} (h : Rv K w x v) (d : x.isD = true) : Rp K w x v := by
  cases x <;> first | exact h | (simp [PV.isD] at d)
theorem Rv.mono {K : Kt} {w w' : Wd} (l : Le w w') {x : PV} {v : V} (h : Rv K w x v) : Rv K w' x v := by
  cases x with
  | loc n => exact ⟨Nat.lt_of_lt_of_le h.1 l.ln, by rw [l.pl n h.1]; exact h.2⟩
  | _ => exact Rp.mono l h
inductive Rvs (K : Kt) (w : Wd) : List PV → List V → Prop
  | nil : Rvs K w [] []
  | cons {x : PV} {v : V} {xs : List PV} {vs : List V} : Rv K w x v → Rvs K w xs vs → Rvs K w (x :: xs) (v :: vs)
theorem Rvs.mono {K : Kt} {w w' : Wd} (l : Le w w') : ∀ {xs : List PV} {vs : List V}, Rvs K w xs vs → Rvs K w' xs vs
  | _, _, .nil => .nil
  | _, _, .cons h r => .cons (Rv.mono l h) (Rvs.mono l r)
theorem Rvs.of {K : Kt} {w : Wd} : ∀ {xs : List PV} {vs : List V}, Rps K w xs vs → Rvs K w xs vs
  | _, _, .nil => .nil
  | _, _, .cons h r => .cons (.of h) (Rvs.of r)
theorem Rvs.data {K : Kt} {w : Wd} : ∀ {xs : List PV} {vs : List V}, Rvs K w xs vs → allD xs = true → Rps K w xs vs
  | _, _, .nil, _ => .nil
  | _, _, .cons (x := x) h r, d => by
    unfold allD at d
    cases e : x.isD with
    | true => rw [e] at d; exact .cons (h.data e) (Rvs.data r d)
    | false => rw [e] at d; cases d
theorem Rvs.append {K : Kt} {w : Wd} : ∀ {xs ys : List PV} {vs us : List V}, Rvs K w xs vs → Rvs K w ys us → Rvs K w (xs ++ ys) (vs ++ us)
  | _, _, _, _, .nil, r => r
  | _, _, _, _, .cons h t, r => .cons h (Rvs.append t r)
theorem Rvs.length {K : Kt} {w : Wd} : ∀ {xs : List PV} {vs : List V}, Rvs K w xs vs → xs.length = vs.length
  | _, _, .nil => rfl
  | _, _, .cons _ r => by rw [List.length_cons, List.length_cons, Rvs.length r]
theorem Rvs.get {K : Kt} {w : Wd} : ∀ {xs : List PV} {vs : List V} {i : Nat} {x : PV}, Rvs K w xs vs → xs[i]? = some x → ∃ v, vs[i]? = some v ∧ Rv K w x v
  | _, _, _, _, .nil, e => by simp at e
  | _, _, 0, _, .cons h _, e => by simp at e; subst e; exact ⟨_, rfl, h⟩
  | _, _, i + 1, x, .cons _ r, e => by
    obtain ⟨v, h1, h2⟩ := Rvs.get (i := i) (x := x) r (by simpa using e)
    exact ⟨v, by simpa using h1, h2⟩

/-- the world is as it is told -/
structure Ok (K : Kt) (w : Wd) : Prop where
  at_ : ∀ k xs, obAt w.h k = .lst xs → ∃ vs, w.H (w.ρ k) = some (.lst vs) ∧ Rps K w xs vs
  inj : ∀ j k xs ys, obAt w.h j = .lst xs → obAt w.h k = .lst ys → w.ρ j = w.ρ k → j = k
  fr : ∀ a, w.F a → ∃ xs, w.H a = some (.lst xs)
  no : ∀ a, w.F a → ¬ Own w a
  tb : LamX.Tabs K.T w.H

theorem codeO_lst {c : Addr} {q : Str} (xs : List V) : LamX.CodeO c q ≠ .lst xs := fun z => by
  unfold LamX.CodeO at z
  cases z
theorem tabs_keep {T : List (Addr × Str)} {H H' : Hp} (t : LamX.Tabs T H) (e : ∀ b o, (∀ xs, o ≠ .lst xs) → H b = some o → H' b = some o) : LamX.Tabs T H' := fun p hp => by
  obtain ⟨ps, h1, h2, h3⟩ := t p hp
  refine ⟨ps, e _ _ (fun xs z => nomatch z) h1, h2, fun pos cv hc => ?_⟩
  obtain ⟨c, e1, e2⟩ := h3 pos cv hc
  exact ⟨c, e1, e _ _ codeO_lst e2⟩
theorem tabs_lay {T : List (Addr × Str)} {H : Hp} {p : Addr} {o : HO} (t : LamX.Tabs T H) (n : H p = none) : LamX.Tabs T (upd H p o) := t.ext fun b u h => by rw [upd_ne (ne_of_none h n)]; exact h
theorem tabs_chg {T : List (Addr × Str)} {H : Hp} {p : Addr} {xs : List V} {o : HO} (t : LamX.Tabs T H) (n : H p = some (.lst xs)) : LamX.Tabs T (upd H p o) := tabs_keep t fun b u nl h => by
  rw [upd_ne fun z => nl xs (by rw [z, n] at h; exact (Option.some.inj h).symm)]; exact h
theorem obAt_lt : ∀ {h : List Ob} {k : Nat} {xs : List PV}, obAt h k = .lst xs → k < h.length
  | [], _, _, e => by simp [obAt] at e
  | _ :: _, 0, _, _ => Nat.zero_lt_succ _
  | _ :: r, k + 1, _, e => Nat.succ_lt_succ (obAt_lt (h := r) e)
theorem obAt_app : ∀ {h : List Ob} {k : Nat} {o : Ob}, k < h.length → obAt (h ++ [o]) k = obAt h k
  | [], _, _, l => absurd l (Nat.not_lt_zero _)
  | _ :: _, 0, _, _ => rfl
  | _ :: r, k + 1, _, l => obAt_app (h := r) (Nat.lt_of_succ_lt_succ l)
theorem obAt_last : ∀ {h : List Ob} {o : Ob}, obAt (h ++ [o]) h.length = o
  | [], _ => rfl
  | _ :: r, _ => obAt_last (h := r)
theorem obAt_past : ∀ {h : List Ob} {k : Nat}, h.length ≤ k → obAt h k = .gone
  | [], _, _ => rfl
  | _ :: _, 0, l => absurd l (Nat.not_succ_le_zero _)
  | _ :: r, k + 1, l => obAt_past (h := r) (Nat.le_of_succ_le_succ l)
theorem obSet_length : ∀ (h : List Ob) (k : Nat) (o : Ob), (obSet h k o).length = h.length
  | [], _, _ => rfl
  | _ :: _, 0, _ => rfl
  | _ :: r, k + 1, o => by simp [obSet, obSet_length r k o]
theorem obAt_set_same : ∀ {h : List Ob} {k : Nat} {o : Ob}, k < h.length → obAt (obSet h k o) k = o
  | [], _, _, l => absurd l (Nat.not_lt_zero _)
  | _ :: _, 0, _, _ => rfl
  | _ :: r, k + 1, _, l => obAt_set_same (h := r) (Nat.lt_of_succ_lt_succ l)
theorem obAt_set_ne : ∀ {h : List Ob} {j k : Nat} {o : Ob}, j ≠ k → obAt (obSet h k o) j = obAt h j
  | [], _, _, _, _ => rfl
  | _ :: _, 0, 0, _, n => absurd rfl n
  | _ :: _, 0, _ + 1, _, _ => rfl
  | _ :: _, _ + 1, 0, _, _ => rfl
  | _ :: r, j + 1, k + 1, o, n => obAt_set_ne (h := r) fun e => n (by rw [e])
theorem obAt_take : ∀ {h : List Ob} {m k : Nat} {xs : List PV}, obAt (h.take m) k = .lst xs → obAt h k = .lst xs ∧ k < m
  | [], _, _, _, e => by simp [obAt] at e
  | _ :: _, 0, _, _, e => by simp [obAt] at e
  | _ :: _, _ + 1, 0, _, e => ⟨e, Nat.zero_lt_succ _⟩
  | _ :: r, m + 1, k + 1, _, e => by
    obtain ⟨h1, h2⟩ := obAt_take (h := r) (m := m) (k := k) e
    exact ⟨h1, Nat.succ_lt_succ h2⟩

theorem own_app {w : Wd} {o : Ob} {ρ' : Nat → Addr} {H' : Hp} {a : Addr} (hρ : ∀ k, k < w.h.length → ρ' k = w.ρ k) (ho : Own ⟨ρ', w.h ++ [o], H', w.F⟩ a) : Own w a ∨ (a = ρ' w.h.length ∧ ∃ xs, o = .lst xs) := by
  obtain ⟨k, xs, e, r⟩ := ho
  have hk := obAt_lt e
  simp only [List.length_append, List.length_cons, List.length_nil] at hk
  by_cases h : k < w.h.length
  · rw [show obAt (w.h ++ [o]) k = obAt w.h k from obAt_app h] at e
    exact .inl ⟨k, xs, e, by rw [← hρ k h]; exact r⟩
  · have e2 : k = w.h.length := by omega
    subst e2
    exact .inr ⟨r.symm, xs, by rw [← e]; exact obAt_last.symm⟩

section
variable {K : Kt} {w : Wd}
theorem Ok.free (ok : Ok K w) {p : Addr} (n : w.H p = none) : ¬ Own w p ∧ ¬ w.F p := by
  refine ⟨fun ⟨k, xs, e, r⟩ => ?_, fun f => ?_⟩
  · obtain ⟨vs, h, _⟩ := ok.at_ k xs e
    rw [r, n] at h; cases h
  · obtain ⟨u, h⟩ := ok.fr p f
    rw [n] at h; cases h

/-- a thing that never changes is laid at p -/
def lay (w : Wd) (p : Addr) (o : HO) : Wd := { w with H := upd w.H p o }
theorem lay_le (ok : Ok K w) {p : Addr} (n : w.H p = none) (o : HO) : Le w (lay w p o) where
  pl := fun _ _ => rfl
  ln := Nat.le_refl _
  F := fun _ => ⟨id, fun _ _ _ _ h => h⟩
  kp := fun a u nt h no => ⟨by show upd w.H p o a = _; rw [upd_ne (ne_of_none h n)]; exact h, no⟩
theorem lay_ok (ok : Ok K w) {p : Addr} (n : w.H p = none) (o : HO) : Ok K (lay w p o) where
  at_ := fun k xs e => by
    obtain ⟨vs, h, r⟩ := ok.at_ k xs e
    exact ⟨vs, by show upd w.H p o (w.ρ k) = _; rw [upd_ne (ne_of_none h n)]; exact h, r.mono (lay_le ok n o)⟩
  inj := ok.inj
  fr := fun a f => by
    obtain ⟨u, h⟩ := ok.fr a f
    exact ⟨u, by show upd w.H p o a = _; rw [upd_ne (ne_of_none h n)]; exact h⟩
  no := ok.no
  tb := tabs_lay ok.tb n
theorem lay_fz (ok : Ok K w) {p : Addr} (n : w.H p = none) (o : HO) : Fz (lay w p o) p := ok.free n

/-- a list that may change is laid at p -/
def layM (w : Wd) (p : Addr) (xs : List PV) (vs : List V) : Wd :=
  { w with ρ := fun k => if k = w.h.length then p else w.ρ k, h := w.h ++ [.lst xs], H := upd w.H p (.lst vs) }
theorem layM_ρ (p : Addr) (xs : List PV) (vs : List V) : ∀ k, k < w.h.length → (layM w p xs vs).ρ k = w.ρ k := fun k hk => by
  show (if k = w.h.length then p else w.ρ k) = w.ρ k
  rw [if_neg (Nat.ne_of_lt hk)]
theorem layM_last (p : Addr) (xs : List PV) (vs : List V) : (layM w p xs vs).ρ w.h.length = p := if_pos rfl
theorem layM_le (ok : Ok K w) {p : Addr} (n : w.H p = none) (xs : List PV) (vs : List V) : Le w (layM w p xs vs) where
  pl := layM_ρ p xs vs
  ln := by show w.h.length ≤ (w.h ++ [Ob.lst xs]).length; simp
  F := fun _ => ⟨id, fun _ _ _ _ h => h⟩
  kp := fun a u nt h no => by
    refine ⟨by show upd w.H p (.lst vs) a = _; rw [upd_ne (ne_of_none h n)]; exact h, fun ho => ?_⟩
    rcases own_app (layM_ρ p xs vs) ho with z | ⟨z, _⟩
    · exact no z
    · have z' : a = p := z.trans (layM_last p xs vs)
      rw [z', n] at h; cases h
theorem layM_ok (ok : Ok K w) {p : Addr} (n : w.H p = none) {xs : List PV} {vs : List V} (r : Rps K w xs vs) : Ok K (layM w p xs vs) where
  at_ := fun k ys e => by
    have hk := obAt_lt e
    have hk' : k < (w.h ++ [Ob.lst xs]).length := hk
    simp only [List.length_append, List.length_cons, List.length_nil] at hk'
    by_cases h : k < w.h.length
    · have e' : obAt w.h k = .lst ys := by
        have q : obAt (w.h ++ [Ob.lst xs]) k = .lst ys := e
        rw [obAt_app h] at q; exact q
      obtain ⟨us, h1, h2⟩ := ok.at_ k ys e'
      refine ⟨us, ?_, h2.mono (layM_le ok n xs vs)⟩
      show upd w.H p (.lst vs) ((layM w p xs vs).ρ k) = _
      rw [layM_ρ p xs vs k h, upd_ne (ne_of_none h1 n)]; exact h1
    · have e2 : k = w.h.length := by omega
      subst e2
      have q : obAt (w.h ++ [Ob.lst xs]) w.h.length = .lst ys := e
      rw [obAt_last] at q; cases q
      refine ⟨vs, ?_, r.mono (layM_le ok n xs vs)⟩
      show upd w.H p (.lst vs) ((layM w p xs vs).ρ w.h.length) = _
      rw [layM_last]; exact upd_same
  inj := fun j k ys zs e1 e2 e => by
    have hj := obAt_lt e1
    have hk := obAt_lt e2
    have hj' : j < (w.h ++ [Ob.lst xs]).length := hj
    have hk' : k < (w.h ++ [Ob.lst xs]).length := hk
    simp only [List.length_append, List.length_cons, List.length_nil] at hj' hk'
    have q1 : obAt (w.h ++ [Ob.lst xs]) j = .lst ys := e1
    have q2 : obAt (w.h ++ [Ob.lst xs]) k = .lst zs := e2
    by_cases a : j < w.h.length
    · rw [obAt_app a] at q1
      obtain ⟨us, h1, _⟩ := ok.at_ j ys q1
      by_cases b : k < w.h.length
      · rw [obAt_app b] at q2
        rw [layM_ρ p xs vs j a, layM_ρ p xs vs k b] at e
        exact ok.inj j k ys zs q1 q2 e
      · have : k = w.h.length := by omega
        subst this
        rw [layM_ρ p xs vs j a, layM_last] at e
        rw [e, n] at h1; cases h1
    · have : j = w.h.length := by omega
      subst this
      by_cases b : k < w.h.length
      · rw [obAt_app b] at q2
        obtain ⟨us, h1, _⟩ := ok.at_ k zs q2
        rw [layM_ρ p xs vs k b, layM_last] at e
        rw [← e, n] at h1; cases h1
      · omega
  fr := fun a f => by
    obtain ⟨u, h⟩ := ok.fr a f
    exact ⟨u, by show upd w.H p (.lst vs) a = _; rw [upd_ne (ne_of_none h n)]; exact h⟩
  no := fun a f ho => by
    rcases own_app (layM_ρ p xs vs) ho with z | ⟨z, _⟩
    · exact ok.no a f z
    · have z' : a = p := z.trans (layM_last p xs vs)
      exact (ok.free n).2 (z' ▸ f)
  tb := tabs_lay ok.tb n

/-- the list at the place k is changed -/
def chg (w : Wd) (k : Nat) (xs : List PV) (vs : List V) : Wd := { w with h := obSet w.h k (.lst xs), H := upd w.H (w.ρ k) (.lst vs) }
theorem own_chg {k : Nat} {xs ys : List PV} {vs : List V} (e : obAt w.h k = .lst ys) {a : Addr} : Own (chg w k xs vs) a ↔ Own w a := by
  constructor
  · rintro ⟨j, zs, q, r⟩
    by_cases hj : j = k
    · subst hj; exact ⟨j, ys, e, r⟩
    · have q' : obAt (obSet w.h k (.lst xs)) j = .lst zs := q
      rw [obAt_set_ne hj] at q'
      exact ⟨j, zs, q', r⟩
  · rintro ⟨j, zs, q, r⟩
    by_cases hj : j = k
    · subst hj; exact ⟨j, xs, obAt_set_same (obAt_lt e), r⟩
    · exact ⟨j, zs, by show obAt (obSet w.h k (.lst xs)) j = _; rw [obAt_set_ne hj]; exact q, r⟩
theorem chg_le {k : Nat} {xs ys : List PV} (vs : List V) (e : obAt w.h k = .lst ys) : Le w (chg w k xs vs) where
  pl := fun _ _ => rfl
  ln := by show w.h.length ≤ (obSet w.h k (.lst xs)).length; rw [obSet_length]; exact Nat.le_refl _
  F := fun _ => ⟨id, fun _ _ _ _ h => h⟩
  kp := fun a u nt h no => by
    have ne : a ≠ w.ρ k := fun z => no ⟨k, ys, e, z.symm⟩
    exact ⟨by show upd w.H (w.ρ k) _ a = _; rw [upd_ne ne]; exact h, fun z => no ((own_chg e).mp z)⟩
theorem chg_ok (ok : Ok K w) {k : Nat} {xs ys : List PV} {vs : List V} (e : obAt w.h k = .lst ys) (r : Rps K w xs vs) : Ok K (chg w k xs vs) where
  at_ := fun j zs q => by
    have q' : obAt (obSet w.h k (.lst xs)) j = .lst zs := q
    by_cases hj : j = k
    · subst hj
      rw [obAt_set_same (obAt_lt e)] at q'; cases q'
      exact ⟨vs, upd_same, r.mono (chg_le vs e)⟩
    · rw [obAt_set_ne hj] at q'
      obtain ⟨us, h1, h2⟩ := ok.at_ j zs q'
      refine ⟨us, ?_, h2.mono (chg_le vs e)⟩
      show upd w.H (w.ρ k) _ (w.ρ j) = _
      rw [upd_ne fun z => hj (ok.inj j k zs ys q' e z)]; exact h1
  inj := fun i j zs us q1 q2 z => by
    have h1 : ∃ zs, obAt w.h i = .lst zs := by
      by_cases hi : i = k
      · exact ⟨ys, hi ▸ e⟩
      · exact ⟨zs, by have q' : obAt (obSet w.h k (.lst xs)) i = .lst zs := q1; rw [obAt_set_ne hi] at q'; exact q'⟩
    have h2 : ∃ zs, obAt w.h j = .lst zs := by
      by_cases hi : j = k
      · exact ⟨ys, hi ▸ e⟩
      · exact ⟨us, by have q' : obAt (obSet w.h k (.lst xs)) j = .lst us := q2; rw [obAt_set_ne hi] at q'; exact q'⟩
    obtain ⟨_, h1⟩ := h1
    obtain ⟨_, h2⟩ := h2
    exact ok.inj i j _ _ h1 h2 z
  fr := fun a f => by
    obtain ⟨u, h⟩ := ok.fr a f
    by_cases z : a = w.ρ k
    · exact ⟨_, by rw [z]; exact upd_same⟩
    · exact ⟨u, by show upd w.H (w.ρ k) _ a = _; rw [upd_ne z]; exact h⟩
  no := fun a f ho => ok.no a f ((own_chg e).mp ho)
  tb := let ⟨_, h, _⟩ := ok.at_ k ys e; tabs_chg ok.tb h

/-- the list at the place k is no longer changed -/
def drp (w : Wd) (k : Nat) : Wd := { w with h := obSet w.h k .gone }
theorem own_drp {k : Nat} {a : Addr} (h : Own (drp w k) a) : ∃ j zs, j ≠ k ∧ obAt w.h j = .lst zs ∧ w.ρ j = a := by
  obtain ⟨j, zs, q, r⟩ := h
  have q' : obAt (obSet w.h k .gone) j = .lst zs := q
  by_cases hj : j = k
  · subst hj
    by_cases hl : j < w.h.length
    · rw [obAt_set_same hl] at q'; cases q'
    · rw [obAt_past (by rw [obSet_length]; omega)] at q'; cases q'
  · rw [obAt_set_ne hj] at q'
    exact ⟨j, zs, hj, q', r⟩
theorem drp_le (k : Nat) : Le w (drp w k) where
  pl := fun _ _ => rfl
  ln := by show w.h.length ≤ (obSet w.h k .gone).length; rw [obSet_length]; exact Nat.le_refl _
  F := fun _ => ⟨id, fun _ _ _ _ h => h⟩
  kp := fun a u nt h no => ⟨h, fun z => let ⟨j, zs, _, q, r⟩ := own_drp z; no ⟨j, zs, q, r⟩⟩
theorem drp_ok (ok : Ok K w) (k : Nat) : Ok K (drp w k) where
  at_ := fun j zs q => by
    obtain ⟨us, h1, h2⟩ := ok.at_ j zs (by
      have q' : obAt (obSet w.h k .gone) j = .lst zs := q
      by_cases hj : j = k
      · subst hj
        by_cases hl : j < w.h.length
        · rw [obAt_set_same hl] at q'; cases q'
        · rw [obAt_past (by rw [obSet_length]; omega)] at q'; cases q'
      · rw [obAt_set_ne hj] at q'; exact q')
    exact ⟨us, h1, h2.mono (drp_le k)⟩
  inj := fun i j zs us q1 q2 z => by
    have f : ∀ {i zs}, obAt (obSet w.h k .gone) i = .lst zs → obAt w.h i = .lst zs := fun {i zs} q => by
      by_cases hj : i = k
      · subst hj
        by_cases hl : i < w.h.length
        · rw [obAt_set_same hl] at q; cases q
        · rw [obAt_past (by rw [obSet_length]; omega)] at q; cases q
      · rw [obAt_set_ne hj] at q; exact q
    exact ok.inj i j _ _ (f q1) (f q2) z
  fr := ok.fr
  no := fun a f ho => by
    obtain ⟨j, zs, _, q, r⟩ := own_drp ho
    exact ok.no a f ⟨j, zs, q, r⟩
  tb := ok.tb
theorem drp_fz (ok : Ok K w) {k : Nat} {xs : List PV} (e : obAt w.h k = .lst xs) : Fz (drp w k) (w.ρ k) := by
  refine ⟨fun z => ?_, fun z => ok.no _ z ⟨k, xs, e, rfl⟩⟩
  obtain ⟨j, zs, hj, q, r⟩ := own_drp z
  exact hj (ok.inj j k zs xs q e r)

/-- the slots -/
def RelS (K : Kt) (w : Wd) (st : Sl) (σ : L2.St) : Prop := st.length = σ.length ∧ ∀ i v, nth st i = some v → ∃ u, σ[i]? = some (some u) ∧ Rv K w v u
theorem RelS.mono {w' : Wd} {st : Sl} {σ : L2.St} (r : RelS K w st σ) (l : Le w w') : RelS K w' st σ :=
  ⟨r.1, fun i v e => let ⟨u, h1, h2⟩ := r.2 i v e; ⟨u, h1, h2.mono l⟩⟩
theorem nth_lt : ∀ {st : Sl} {i : Nat} {v : PV}, nth st i = some v → i < st.length
  | [], _, _, e => by simp [nth] at e
  | _ :: _, 0, _, _ => Nat.zero_lt_succ _
  | _ :: r, i + 1, _, e => Nat.succ_lt_succ (nth_lt (st := r) e)
theorem put_length : ∀ (st : Sl) (i : Nat) (v : Option PV), (put st i v).length = st.length
  | [], _, _ => rfl
  | _ :: _, 0, _ => rfl
  | _ :: r, i + 1, v => by simp [put, put_length r i v]
theorem nth_put : ∀ {st : Sl} {i j : Nat} {v : Option PV} {u : PV}, nth (put st i v) j = some u → (j = i ∧ v = some u) ∨ (j ≠ i ∧ nth st j = some u)
  | [], _, _, _, _, e => by simp [put, nth] at e
  | _ :: _, 0, 0, _, _, e => .inl ⟨rfl, e⟩
  | _ :: _, 0, j + 1, _, _, e => .inr ⟨Nat.succ_ne_zero _, e⟩
  | _ :: _, i + 1, 0, _, _, e => .inr ⟨(Nat.succ_ne_zero _).symm, e⟩
  | _ :: r, i + 1, j + 1, v, u, e => by
    rcases nth_put (st := r) (i := i) (j := j) e with ⟨h1, h2⟩ | ⟨h1, h2⟩
    · exact .inl ⟨by rw [h1], h2⟩
    · exact .inr ⟨fun z => h1 (Nat.succ.inj z), h2⟩
theorem RelS.put {st : Sl} {σ : L2.St} (r : RelS K w st σ) {i : Nat} {x : PV} {v : V} (h : Rv K w x v) : RelS K w (put st i (some x)) (σ.set i (some v)) := by
  refine ⟨by rw [put_length, List.length_set]; exact r.1, fun j u e => ?_⟩
  have hl := nth_lt e
  rw [put_length, r.1] at hl
  rcases nth_put e with ⟨rfl, e2⟩ | ⟨n, e2⟩
  · cases e2
    exact ⟨v, by rw [List.getElem?_set_self hl], h⟩
  · obtain ⟨u', h1, h2⟩ := r.2 j u e2
    exact ⟨u', by rw [List.getElem?_set_ne (Ne.symm n)]; exact h1, h2⟩
theorem RelS.forget {st : Sl} {σ : L2.St} (r : RelS K w st σ) (i : Nat) : RelS K w (Mi.put st i none) (σ.set i none) := by
  refine ⟨by rw [put_length, List.length_set]; exact r.1, fun j u e => ?_⟩
  rcases nth_put e with ⟨_, e2⟩ | ⟨n, e2⟩
  · cases e2
  · obtain ⟨u', h1, h2⟩ := r.2 j u e2
    exact ⟨u', by rw [List.getElem?_set_ne (Ne.symm n)]; exact h1, h2⟩
theorem RelS.wipe {st : Sl} {σ : L2.St} (r : RelS K w st σ) : ∀ vs : List Nat, RelS K w (Mi.wipe st vs) (L2.wipe σ vs)
  | [] => r
  | v :: vs => (RelS.wipe r vs).forget v
end
end Mi

/-! Mi2: readings by the interpreter; values by values. -/
namespace Mi
open PySem L2 PySem.Spec PyProof.Rows

/-! ### judgements, weakened -/
section
variable {X : Cx}
theorem _root_.L2.PE.imp {e : Expr} {t t' : TE} (h : PE X e t) (i : ∀ σ H Q, t' σ H Q → t σ H Q) : PE X e t' := ⟨fun pins s σ H Q I q => h.run pins s σ H Q I (i _ _ _ q)⟩
theorem _root_.L2.PT.imp {e : Expr} {t t' : TT} (h : PT X e t) (i : ∀ σ H Q, t' σ H Q → t σ H Q) : PT X e t' := ⟨fun pins s σ H Q I q => h.run pins s σ H Q I (i _ _ _ q)⟩
theorem _root_.L2.PW.imp {e : Expr} {t t' : TT} (h : PW X e t) (i : ∀ σ H Q, t' σ H Q → t σ H Q) : PW X e t' := ⟨fun wh pins s σ H Q I q => h.run wh pins s σ H Q I (i _ _ _ q)⟩
theorem _root_.L2.PA.imp {e : List Expr} {t t' : TA} (h : PA X e t) (i : ∀ σ H Q, t' σ H Q → t σ H Q) : PA X e t' := ⟨fun p pins s σ H Q I q => h.run p pins s σ H Q I (i _ _ _ q)⟩
theorem _root_.L2.PS.imp {e : Stmt} {t t' : TS} (h : PS X e t) (i : ∀ D σ H, t' D σ H → t D σ H) : PS X e t' := ⟨fun pins s σ H D I q => h.run pins s σ H D I (i _ _ _ q)⟩
theorem _root_.L2.PSs.imp {e : List Stmt} {t t' : TS} (h : PSs X e t) (i : ∀ D σ H, t' D σ H → t D σ H) : PSs X e t' := ⟨fun pins s σ H D I q => h.run pins s σ H D I (i _ _ _ q)⟩
theorem _root_.L2.PG.imp {e : Expr} {t t' : TG} (h : PG X e t) (i : ∀ v σ H Q, t' v σ H Q → t v σ H Q) : PG X e t' := ⟨fun pins s σ H v u Q I r q => h.run pins s σ H v u Q I r (i _ _ _ _ q)⟩
theorem _root_.L2.PGs.imp {e : List Expr} {t t' : TGs} (h : PGs X e t) (i : ∀ v σ H Q, t' v σ H Q → t v σ H Q) : PGs X e t' := ⟨fun pins s σ H v u Q I r q => h.run pins s σ H v u Q I r (i _ _ _ _ q)⟩
theorem _root_.L2.PI.imp {tg e : Expr} {t t' : TI} (h : PI X tg e t) (i : ∀ σ H R, t' σ H R → t σ H R) : PI X tg e t' := ⟨fun pins s σ H R I q => h.run pins s σ H R I (i _ _ _ q)⟩
theorem _root_.L2.PTs.imp {e : List Expr} {t t' : TT} (h : PTs X e t) (i : ∀ σ H Q, t' σ H Q → t σ H Q) : PTs X e t' := ⟨fun pins s σ H Q I q => h.run pins s σ H Q I (i _ _ _ q)⟩
end

/-- what readings hang on: the written part, how an exception lies, what is wanted of one -/
structure Zc where
  K : Kt
  ER : Nat → List PV → Wd → Value → Option Addr → Prop
  W : WX

section
variable (Z : Zc)
/-- an end of an evaluation leads to Q -/
def Po {α β : Type} (Rel : Wd → α → β → Prop) (w : Wd) (σ : L2.St) (r : R α) (Q : β → Hp → Prop) : Prop :=
  match r with
  | .ok a h => ∀ w' b, Le w w' → w'.h = h → Ok Z.K w' → Rel w' a b → Q b w'.H
  | .ex c fs h => ∀ w' cls d, Le w w' → w'.h = h → Ok Z.K w' → Z.ER c fs w' cls d → Z.W cls d σ w'.H
  | .no => False
abbrev PoE (w : Wd) (σ : L2.St) (r : R PV) (Q : VK) : Prop := Po Z (Rv Z.K) w σ r Q
abbrev PoB (w : Wd) (σ : L2.St) (r : R Bool) (Q : Bool → Hp → Prop) : Prop := Po Z (fun _ (a b : Bool) => a = b) w σ r Q
abbrev PoA (w : Wd) (σ : L2.St) (r : R (List PV)) (Q : List V → Hp → Prop) : Prop := Po Z (Rvs Z.K) w σ r Q
def tE (r : Sl → List Ob → R PV) : TE := fun σ H Q => ∃ w st, w.H = H ∧ Ok Z.K w ∧ RelS Z.K w st σ ∧ PoE Z w σ (r st w.h) Q
def tB (r : Sl → List Ob → R Bool) : TT := fun σ H Q => ∃ w st, w.H = H ∧ Ok Z.K w ∧ RelS Z.K w st σ ∧ PoB Z w σ (r st w.h) Q
def tA (r : Sl → List Ob → R (List PV)) : TA := fun σ H Q => ∃ w st, w.H = H ∧ Ok Z.K w ∧ RelS Z.K w st σ ∧ PoA Z w σ (r st w.h) Q
end
variable {Z : Zc}

theorem Po.up {α β : Type} {Rel : Wd → α → β → Prop} {w w1 : Wd} {σ : L2.St} {r : R α} {Q : β → Hp → Prop} (l : Le w w1) (h : Po Z Rel w σ r Q) : Po Z Rel w1 σ r Q := by
  cases r with
  | ok a h' => exact fun w' b l' e o q => h w' b (l.trans l') e o q
  | ex c fs h' => exact fun w' cls d l' e o q => h w' cls d (l.trans l') e o q
  | no => exact h
theorem Po.imp {α β : Type} {Rel : Wd → α → β → Prop} {w : Wd} {σ : L2.St} {r : R α} {Q Q' : β → Hp → Prop} (h : Po Z Rel w σ r Q) (i : ∀ b H, Q b H → Q' b H) : Po Z Rel w σ r Q' := by
  cases r with
  | ok a h' => exact fun w' b l' e o q => i _ _ (h w' b l' e o q)
  | ex c fs h' => exact h
  | no => exact h
/-- what is told at once -/
theorem Po.here {α β : Type} {Rel : Wd → α → β → Prop} {w : Wd} {σ : L2.St} {a : α} {b : β} {Q : β → Hp → Prop} (h : Po Z Rel w σ (.ok a w.h) Q) (o : Ok Z.K w) (r : Rel w a b) : Q b w.H := h w b (Le.refl w) rfl o r
/-- .. at a later world -/
theorem Po.at_ {α β : Type} {Rel : Wd → α → β → Prop} {w w' : Wd} {σ : L2.St} {a : α} {b : β} {h : List Ob} {Q : β → Hp → Prop} (p : Po Z Rel w σ (.ok a h) Q) (l : Le w w') (e : w'.h = h) (o : Ok Z.K w') (r : Rel w' a b) : Q b w'.H := p w' b l e o r

section
variable {X : Cx} {a b c : Expr} {ra rb rc : Sl → List Ob → R PV} {pos : Pos}

/-! ### atoms -/
theorem s_cst {v : PV} {u : V} {e : Expr} (h : PE X e (tC u)) (r : ∀ w, Rp Z.K w v u) : PE X e (tE Z fun _ h => .ok v h) := h.imp fun σ H Q ⟨w, st, e, ok, rs, p⟩ => by
  subst e
  exact p.here ok (.of (r w))
theorem s_var {i : Nat} {e : Expr} (h : PE X e (tVar i)) : PE X e (tE Z fun σ h => match nth σ i with | some v => .ok v h | none => .no) := h.imp fun σ H Q ⟨w, st, e, ok, rs, p⟩ => by
  subst e
  cases q : nth st i with
  | none => simp only [q] at p; exact p.elim
  | some v =>
    simp only [q] at p
    obtain ⟨u, h1, h2⟩ := rs.2 i v q
    exact ⟨u, h1, p.here ok h2⟩

/-! ### operators by values -/
/-- an operation by values does what the interpreter's does -/
def OpS (Z : Zc) (ap : PV → PV → List Ob → R PV) (r : R2) : Prop := ∀ (w : Wd) (x y : PV) (V U : L2.V) (σ : L2.St) (Q : VK), Ok Z.K w → Rv Z.K w x V → Rv Z.K w y U → PoE Z w σ (ap x y w.h) Q → r V U w.H Q
theorem s_bin {op : Operator} {r : R2} {ap : PV → PV → List Ob → R PV} (ho : OpR X (binaryOp op) r) (hs : OpS Z ap r) (ha : PE X a (tE Z ra)) (hb : PE X b (tE Z rb)) :
    PE X (.BinOp a op b pos) (tE Z fun σ h => match ra σ h with
      | .ok x h1 => match rb σ h1 with
        | .ok y h2 => ap x y h2
        | .ex c fs h2 => .ex c fs h2
        | .no => .no
      | .ex c fs h1 => .ex c fs h1
      | .no => .no) := (pe_op ho ha hb).imp fun σ H Q ⟨w, st, e, ok, rs, p⟩ => by
  subst e
  refine ⟨w, st, rfl, ok, rs, ?_⟩
  cases q : ra st w.h with
  | no => simp only [q] at p; exact p.elim
  | ex c fs h1 => simp only [q] at p; exact p
  | ok x h1 =>
    simp only [q] at p
    intro w1 V l1 e1 ok1 r1
    refine ⟨w1, st, rfl, ok1, rs.mono l1, ?_⟩
    rw [e1]
    cases q2 : rb st h1 with
    | no => simp only [q2] at p; exact p.elim
    | ex c fs h2 => simp only [q2] at p; exact Po.up l1 p
    | ok y h2 =>
      simp only [q2] at p
      intro w2 U l2 e2 ok2 r2
      refine hs w2 x y V U σ Q ok2 (r1.mono l2) r2 ?_
      rw [e2]
      exact Po.up (l1.trans l2) p
/-- the same for anything that takes two values -/
theorem s_two {r : R2} {ap : PV → PV → List Ob → R PV} {e : Expr} (h : PE X e (tOp r (tE Z ra) (tE Z rb))) (hs : OpS Z ap r) :
    PE X e (tE Z fun σ h => match ra σ h with
      | .ok x h1 => match rb σ h1 with
        | .ok y h2 => ap x y h2
        | .ex c fs h2 => .ex c fs h2
        | .no => .no
      | .ex c fs h1 => .ex c fs h1
      | .no => .no) := h.imp fun σ H Q ⟨w, st, e, ok, rs, p⟩ => by
  subst e
  refine ⟨w, st, rfl, ok, rs, ?_⟩
  cases q : ra st w.h with
  | no => simp only [q] at p; exact p.elim
  | ex c fs h1 => simp only [q] at p; exact p
  | ok x h1 =>
    simp only [q] at p
    intro w1 V l1 e1 ok1 r1
    refine ⟨w1, st, rfl, ok1, rs.mono l1, ?_⟩
    rw [e1]
    cases q2 : rb st h1 with
    | no => simp only [q2] at p; exact p.elim
    | ex c fs h2 => simp only [q2] at p; exact Po.up l1 p
    | ok y h2 =>
      simp only [q2] at p
      intro w2 U l2 e2 ok2 r2
      refine hs w2 x y V U σ Q ok2 (r1.mono l2) r2 ?_
      rw [e2]
      exact Po.up (l1.trans l2) p

/-! ### fresh things -/
theorem Rp.lay {w : Wd} {p : Addr} {xs : List PV} {vs : List V} (ok : Ok Z.K w) (n : w.H p = none) (r : Rps Z.K w xs vs) : Rp Z.K (lay w p (.lst vs)) (.lst xs) (.ref p) :=
  .lst upd_same (lay_fz ok n _) (r.mono (lay_le ok n _))
theorem Rp.layT {w : Wd} {p : Addr} {xs : List PV} {vs : List V} (ok : Ok Z.K w) (n : w.H p = none) (r : Rps Z.K w xs vs) : Rp Z.K (Mi.lay w p (.tup vs)) (.tup xs) (.ref p) :=
  .tup (.inl ⟨upd_same, lay_fz ok n _⟩) (r.mono (lay_le ok n _))
/-- a new list, to be changed or not -/
theorem fresh_mkL {w : Wd} {m : Bool} {xs : List PV} {vs : List V} {σ : L2.St} {Q : VK} (ok : Ok Z.K w) (r : Rps Z.K w xs vs) (p : PoE Z w σ (mkL m xs w.h) Q) (a : Addr) (n : w.H a = none) : Q (.ref a) (upd w.H a (.lst vs)) := by
  cases m with
  | false => exact p (Mi.lay w a (.lst vs)) (.ref a) (lay_le ok n _) rfl (lay_ok ok n _) (.of (Rp.lay ok n r))
  | true =>
    refine p (layM w a xs vs) (.ref a) (layM_le ok n xs vs) rfl (layM_ok ok n r) ⟨?_, ?_⟩
    · show w.h.length < (w.h ++ [Ob.lst xs]).length
      simp
    · rw [layM_last]
theorem fresh_tup {w : Wd} {xs : List PV} {vs : List V} {σ : L2.St} {Q : VK} (ok : Ok Z.K w) (r : Rps Z.K w xs vs) (p : PoE Z w σ (.ok (.tup xs) w.h) Q) (a : Addr) (n : w.H a = none) : Q (.ref a) (upd w.H a (.tup vs)) :=
  p (Mi.lay w a (.tup vs)) (.ref a) (lay_le ok n _) rfl (lay_ok ok n _) (.of (Rp.layT ok n r))

/-! ### lists and tuples behind values -/
theorem lstOf_sq {w : Wd} {x : PV} {v : V} {xs : List PV} (ok : Ok Z.K w) (r : Rv Z.K w x v) (e : lstOf w.h x = some xs) : ∃ a vs, v = .ref a ∧ SqL Z.K w.H a vs ∧ Rps Z.K w xs vs := by
  cases x with
  | lst ys =>
    simp only [lstOf, Option.some.injEq] at e; subst e
    cases r with
    | lst h f rr => exact ⟨_, _, rfl, .of h, rr⟩
  | frz ys =>
    simp only [lstOf, Option.some.injEq] at e; subst e
    cases r with
    | frz h rr => exact ⟨_, _, rfl, h.sq, rr⟩
  | loc n =>
    simp only [lstOf] at e
    cases q : obAt w.h n with
    | gone => rw [q] at e; cases e
    | lst ys =>
      rw [q] at e; cases e
      obtain ⟨vs, h1, h2⟩ := ok.at_ n _ q
      exact ⟨_, vs, r.2, .of h1, h2⟩
  | _ => simp [lstOf] at e
theorem lstOf'_lst {w : Wd} {x : PV} {v : V} {xs : List PV} (ok : Ok Z.K w) (r : Rv Z.K w x v) (e : lstOf' w.h x = some xs) : ∃ a vs, v = .ref a ∧ w.H a = some (.lst vs) ∧ Rps Z.K w xs vs := by
  cases x with
  | lst ys =>
    simp only [lstOf', Option.some.injEq] at e; subst e
    cases r with
    | lst h f rr => exact ⟨_, _, rfl, h, rr⟩
  | loc n =>
    simp only [lstOf'] at e
    cases q : obAt w.h n with
    | gone => rw [q] at e; cases e
    | lst ys =>
      rw [q] at e; cases e
      obtain ⟨vs, h1, h2⟩ := ok.at_ n _ q
      exact ⟨_, vs, r.2, h1, h2⟩
  | _ => simp [lstOf'] at e
theorem tup_sq {w : Wd} {v : V} {xs : List PV} (r : Rv Z.K w (.tup xs) v) : ∃ a vs, v = .ref a ∧ SqT Z.K w.H a vs ∧ Rps Z.K w xs vs := by
  cases r with
  | tup h rr => exact ⟨_, _, rfl, h.sq, rr⟩
theorem seqOf_sq {w : Wd} {x : PV} {v : V} {xs : List PV} (ok : Ok Z.K w) (r : Rv Z.K w x v) (e : seqOf w.h x = some xs) : ∃ a vs, v = .ref a ∧ (SqL Z.K w.H a vs ∨ SqT Z.K w.H a vs) ∧ Rps Z.K w xs vs := by
  cases x with
  | tup ys =>
    simp only [seqOf, Option.some.injEq] at e; subst e
    obtain ⟨a, vs, h1, h2, h3⟩ := tup_sq r
    exact ⟨a, vs, h1, .inr h2, h3⟩
  | _ =>
    obtain ⟨a, vs, h1, h2, h3⟩ := lstOf_sq ok r (by simpa [seqOf] using e)
    exact ⟨a, vs, h1, .inl h2, h3⟩
end
theorem line_eq : line = sizeLine := sizeLine_eq.symm
theorem Rv.int_inv {K : Kt} {w : Wd} {i : Int} {v : V} (r : Rv K w (.int i) v) : v = .int i := by cases r; rfl
theorem Rv.bl_inv {K : Kt} {w : Wd} {i : Bool} {v : V} (r : Rv K w (.bl i) v) : v = .bl i := by cases r; rfl
theorem Rv.non_inv {K : Kt} {w : Wd} {v : V} (r : Rv K w .non v) : v = .non := by cases r; rfl
theorem Rv.str_inv {K : Kt} {w : Wd} {i : List Nat} {v : V} (r : Rv K w (.str i) v) : v = .str (toStr i) ∧ SOk i := by cases r with | str _ o => exact ⟨rfl, o⟩
end Mi

/-! MiT: numbers as texts, capitals. -/
namespace Mi
open PySem L2 PySem.Spec PyProof.Rows
theorem decN_eq : ∀ (f n : Nat) (acc : List Nat), n < f → decN f n acc = TL.numL n ++ acc
  | 0, n, acc, h => absurd h (Nat.not_lt_zero _)
  | f + 1, n, acc, h => by
    unfold decN
    split
    · rename_i e
      have : n < 10 := by omega
      rw [TL.numL_lt this, Nat.mod_eq_of_lt this]; rfl
    · rename_i m e
      have h10 : 10 ≤ n := by omega
      rw [decN_eq f (m + 1) _ (by omega), TL.numL_step h10, e, List.append_assoc]; rfl
theorem ofString_cps (s : String) : (Str.ofString s).cps.toList = s.toList.map Char.toNat := by
  exact signs_ofString s
theorem toString_pos (n : Nat) : Str.ofString (toString ((n : Nat) : Int)) = toStr (TL.numL n) := by
  have h := TL.tl_num n
  have e : (Str.ofString (toString ((n : Nat) : Int))).cps.toList = TL.numL n := h
  unfold toStr
  rw [← e, Array.toArray_toList]
theorem toString_neg (n : Nat) : Str.ofString (toString (Int.negSucc n)) = toStr (45 :: TL.numL (n + 1)) := by
  have e : (Str.ofString (toString (Int.negSucc n))).cps.toList = 45 :: TL.numL (n + 1) := by
    have h1 : toString (Int.negSucc n) = "-" ++ Nat.repr (n + 1) := rfl
    rw [ofString_cps, h1, String.toList_append, List.map_append]
    have h2 := TL.tl_num (n + 1)
    have h3 : (Str.ofString (toString (((n + 1 : Nat)) : Int))).cps.toList = TL.numL (n + 1) := h2
    rw [ofString_cps] at h3
    have h4 : toString (((n + 1 : Nat)) : Int) = Nat.repr (n + 1) := rfl
    rw [h4] at h3
    rw [h3]
    rfl
  unfold toStr
  rw [← e, Array.toArray_toList]
theorem decI_eq (i : Int) : Str.ofString (toString i) = toStr (decI i) := by
  cases i with
  | ofNat n =>
    unfold decI
    simp only
    rw [decN_eq _ _ _ (Nat.lt_succ_self n), List.append_nil]
    exact toString_pos n
  | negSucc n =>
    unfold decI
    simp only
    rw [decN_eq _ _ _ (Nat.lt_succ_self (n + 1)), List.append_nil]
    exact toString_neg n
set_option exponentiation.threshold 3000 in
theorem big_log {i : Int} (h : Nat.blt i.natAbs big100 = true) : i.natAbs.log2 < 1920 := by
  have h' : i.natAbs < 10 ^ 100 := Nat.le_of_ble_eq_true h
  by_cases h0 : i.natAbs = 0
  · rw [h0]; decide
  · exact (Nat.log2_lt h0).mpr (Nat.lt_of_lt_of_le h' (by decide +kernel))
theorem numL_cp (n : Nat) : ∀ c ∈ TL.numL n, 48 ≤ c ∧ c ≤ 57 := by
  induction n using Nat.strongRecOn with
  | ind n ih =>
    intro c hc
    by_cases h : n < 10
    · rw [TL.numL_lt h] at hc
      have := List.mem_singleton.mp hc
      omega
    · rw [TL.numL_step (by omega)] at hc
      rcases List.mem_append.mp hc with q | q
      · exact ih (n / 10) (by omega) c q
      · have := List.mem_singleton.mp q
        have := Nat.mod_lt n (show 0 < 10 by decide)
        omega
theorem numL_len : ∀ (k n : Nat), n < 10 ^ (k + 1) → (TL.numL n).length ≤ k + 1
  | 0, n, h => by rw [TL.numL_lt (by simpa using h)]; exact Nat.le_refl _
  | k + 1, n, h => by
    by_cases h' : n < 10
    · rw [TL.numL_lt h']; exact Nat.le_add_left _ _
    · rw [TL.numL_step (by omega), List.length_append]
      have := numL_len k (n / 10) (by rw [Nat.pow_succ] at h; omega)
      show _ + 1 ≤ _
      omega
theorem decI_ok {i : Int} (h : Nat.blt i.natAbs big100 = true) : SOk (decI i) := by
  have h' : i.natAbs < 10 ^ 100 := Nat.le_of_ble_eq_true h
  cases i with
  | ofNat n =>
    unfold decI
    simp only
    rw [decN_eq _ _ _ (Nat.lt_succ_self n), List.append_nil]
    refine ⟨fun c hc => by have := numL_cp n c hc; omega, ?_⟩
    have := numL_len 99 n h'
    show _ ≤ 16777216
    omega
  | negSucc n =>
    unfold decI
    simp only
    rw [decN_eq _ _ _ (Nat.lt_succ_self (n + 1)), List.append_nil]
    refine ⟨fun c hc => ?_, ?_⟩
    · rcases List.mem_cons.mp hc with q | q
      · omega
      · have := numL_cp (n + 1) c q; omega
    · have := numL_len 99 (n + 1) h'
      show (TL.numL (n + 1)).length + 1 ≤ 16777216
      omega
theorem digs_all : ∀ {s : List Nat}, digs s = true → NumText.AllDigits s
  | [], _ => fun c hc => by cases hc
  | c :: r, h => by
    unfold digs at h
    split at h
    · rename_i q
      obtain ⟨q1, q2⟩ := (Bool.and_eq_true _ _).mp q
      intro d hd
      rcases List.mem_cons.mp hd with e | hd
      · rw [e]; exact ⟨Nat.le_of_ble_eq_true q1, Nat.le_of_ble_eq_true q2⟩
      · exact digs_all h d hd
    · cases h
theorem valD_cons (a c : Nat) (r : List Nat) : valD a (c :: r) = valD (a * 10 + (c - 48)) r := by
  conv => lhs; unfold valD
theorem valD_eq (s : List Nat) : ∀ a : Nat, valD a s = s.foldl (fun acc c => acc * 10 + (c - 48)) a := by
  induction s with
  | nil => intro a; unfold valD; rfl
  | cons c r ih => intro a; rw [valD_cons, ih, List.foldl_cons]
theorem toStr_cps (s : List Nat) : (toStr s).cps.toList = s := by simp [toStr]
theorem intT_eq {s : List Nat} {i : Int} (h : intT s = some i) : intText? (toStr s) = some i ∧ (toStr s).length ≤ 640 := by
  unfold intT at h
  split at h
  · rename_i hl
    have hl' : s.length ≤ 640 := Nat.le_of_ble_eq_true hl
    have hl2 : (toStr s).length ≤ 640 := by rw [toStr_length]; exact hl'
    refine ⟨?_, hl2⟩
    split at h
    · cases h
    · rename_i r
      split at h
      · rename_i q
        obtain ⟨q1, q2⟩ := (Bool.and_eq_true _ _).mp q
        cases h
        rw [valD_eq]
        exact intText_neg (toStr_cps _) (digs_all q2) (by intro e; subst e; cases q1) (by omega)
      · cases h
    · rename_i c r _
      split at h
      · rename_i q
        cases h
        rw [valD_eq]
        have := intText_digits (x := toStr (c :: r)) (by rw [toStr_cps]; exact digs_all q) (by rw [toStr_cps]; simp) (by omega)
        rw [toStr_cps] at this
        exact this
      · cases h
  · cases h
theorem low128_all : ∀ {s : List Nat}, low128 s = true → ∀ c ∈ s, c < 128
  | [], _, c, hc => by cases hc
  | d :: r, h, c, hc => by
    unfold low128 at h
    split at h
    · rename_i q
      rcases List.mem_cons.mp hc with e | hc
      · rw [e]; exact Nat.le_of_ble_eq_true q
      · exact low128_all h c hc
    · cases h
theorem upT_len : ∀ s : List Nat, (upT s).length = s.length
  | [] => rfl
  | _ :: r => by rw [upT, List.length_cons, List.length_cons, upT_len r]
theorem upT_map : ∀ s : List Nat, upT s = s.map upC
  | [] => rfl
  | _ :: r => by rw [upT, List.map_cons, upT_map r]
theorem upC_eq (c : Nat) : upC c = up1 c := by
  unfold upC up1
  by_cases h : 97 ≤ c ∧ c ≤ 122
  · have e : (Nat.ble 97 c && Nat.ble c 122) = true := by rw [Nat.ble_eq_true_of_le h.1, Nat.ble_eq_true_of_le h.2]; rfl
    rw [e, if_pos h]
  · have e : (Nat.ble 97 c && Nat.ble c 122) = false := by
      cases q : (Nat.ble 97 c && Nat.ble c 122) with
      | false => rfl
      | true =>
        obtain ⟨q1, q2⟩ := (Bool.and_eq_true _ _).mp q
        exact absurd ⟨Nat.le_of_ble_eq_true q1, Nat.le_of_ble_eq_true q2⟩ h
    rw [e, if_neg h]
theorem upper_eq {s : List Nat} (h : low128 s = true) : Txt.upper (toStr s) = toStr (upT s) := by
  rw [upper_ascii (fun c hc => low128_all h c (by rw [toStr_cps] at hc; exact hc)), upT_map]
  unfold toStr
  simp [funext upC_eq]
theorem upT_cp {s : List Nat} (h : low128 s = true) : ∀ c ∈ upT s, c < 1114112 := by
  rw [upT_map]
  intro c hc
  obtain ⟨d, hd, rfl⟩ := List.mem_map.mp hc
  have := low128_all h d hd
  unfold upC
  split <;> omega
theorem fmtV_of {Z : Zc} {w : Wd} {x : PV} {v : V} {s : List Nat} (r : Rv Z.K w x v) (e : fmtV x = some s) : SOk s ∧ ((x = .str s ∧ v = .str (toStr s)) ∨ ∃ i, x = .int i ∧ v = .int i ∧ i.natAbs.log2 < 1920 ∧ Str.ofString (toString i) = toStr s) := by
  cases x with
  | str t =>
    simp only [fmtV, Option.some.injEq] at e
    subst e
    obtain ⟨h1, h2⟩ := r.str_inv
    exact ⟨h2, .inl ⟨rfl, h1⟩⟩
  | int i =>
    unfold fmtV at e
    simp only at e
    cases q : Nat.blt i.natAbs big100 with
    | true =>
      rw [q] at e
      cases e
      exact ⟨decI_ok q, .inr ⟨i, rfl, r.int_inv, big_log q, decI_eq i⟩⟩
    | false => rw [q] at e; cases e
  | _ => cases e
end Mi

/-! Mi3: operators and comparisons, by values. -/
namespace Mi
open PySem L2 PySem.Spec PyProof.Rows
variable {Z : Zc}

/-! ### data -/
mutual
def toD : PV → PyData
  | .non => .none
  | .bl b => .bool b
  | .int i => .int i
  | .str s => .str (toStr s)
  | .tup xs => .tuple (toDs xs)
  | .lst xs => .list (toDs xs)
  | .frz xs => .list (toDs xs)
  | .loc _ => .none
def toDs : List PV → List PyData
  | [] => []
  | x :: xs => toD x :: toDs xs
end
mutual
theorem Rp.dp {K : Kt} {w : Wd} : ∀ {x : PV} {v : V}, Rp K w x v → Dp K w.H v (toD x)
  | _, _, .non => by simp only [toD]; exact .non
  | _, _, .bl b => by simp only [toD]; exact .bl b
  | _, _, .int i => by simp only [toD]; exact .int i
  | _, _, .str s _ => by simp only [toD]; exact .str _
  | _, _, .tup h r => by simp only [toD]; exact .tup h.sq (Rps.dp r)
  | _, _, .lst h f r => by simp only [toD]; exact .lst (.of h) (Rps.dp r)
  | _, _, .frz h r => by simp only [toD]; exact .lst h.sq (Rps.dp r)
theorem Rps.dp {K : Kt} {w : Wd} : ∀ {xs : List PV} {vs : List V}, Rps K w xs vs → DpAll K w.H vs (toDs xs)
  | _, _, .nil => by simp only [toDs]; exact .nil
  | _, _, .cons h r => by simp only [toDs]; exact .cons (Rp.dp h) (Rps.dp r)
end
theorem sOk_strOk {s : List Nat} (h : SOk s) : PyData.strOk (toStr s) = true := by
  unfold PyData.strOk toStr
  rw [Array.all_eq_true']
  intro c hc
  have : c ∈ s := by simpa using hc
  simpa using h.cp c this
mutual
theorem Rp.lay0 {K : Kt} {w : Wd} : ∀ {x : PV} {v : V}, Rp K w x v → (toD x).canLay0 = true
  | _, _, .non => by simp [toD, PyData.canLay0]
  | _, _, .bl b => by simp [toD, PyData.canLay0]
  | _, _, .int i => by simp [toD, PyData.canLay0]
  | _, _, .str s o => by simp only [toD, PyData.canLay0]; exact sOk_strOk o
  | _, _, .tup h r => by simp only [toD, PyData.canLay0]; exact Rps.lay0 r
  | _, _, .lst h f r => by simp only [toD, PyData.canLay0]; exact Rps.lay0 r
  | _, _, .frz h r => by simp only [toD, PyData.canLay0]; exact Rps.lay0 r
theorem Rps.lay0 {K : Kt} {w : Wd} : ∀ {xs : List PV} {vs : List V}, Rps K w xs vs → PyData.canLayAll0 (toDs xs) = true
  | _, _, .nil => by simp [toDs, PyData.canLayAll0]
  | _, _, .cons h r => by simp only [toDs, PyData.canLayAll0, Rp.lay0 h, Rps.lay0 r]; rfl
end
mutual
theorem dep_le : ∀ (x : PV) (n : Nat), x.dep n = true → (toD x).depth ≤ n
  | .non, _, _ => by simp [toD, PyData.depth]
  | .bl _, _, _ => by simp [toD, PyData.depth]
  | .int _, _, _ => by simp [toD, PyData.depth]
  | .str _, _, _ => by simp [toD, PyData.depth]
  | .tup xs, 0, h => by simp [PV.dep] at h
  | .tup xs, n + 1, h => by
    have := depAll_le xs n (by simpa [PV.dep] using h)
    simp only [toD, PyData.depth]; omega
  | .lst xs, 0, h => by simp [PV.dep] at h
  | .lst xs, n + 1, h => by
    have := depAll_le xs n (by simpa [PV.dep] using h)
    simp only [toD, PyData.depth]; omega
  | .frz xs, 0, h => by simp [PV.dep] at h
  | .frz xs, n + 1, h => by
    have := depAll_le xs n (by simpa [PV.dep] using h)
    simp only [toD, PyData.depth]; omega
  | .loc _, _, h => by simp [PV.dep] at h
theorem depAll_le : ∀ (xs : List PV) (n : Nat), depAll xs n = true → PyData.depthAll (toDs xs) ≤ n
  | [], _, _ => by simp [toDs, PyData.depthAll]
  | x :: xs, n, h => by
    have h' : x.dep n = true ∧ depAll xs n = true := by
      unfold depAll at h
      cases e : x.dep n with
      | true => rw [e] at h; exact ⟨rfl, h⟩
      | false => rw [e] at h; cases h
    have h1 := dep_le x n h'.1
    have h2 := depAll_le xs n h'.2
    simp only [toDs, PyData.depthAll]; omega
end
theorem depAll_cons {x : PV} {xs : List PV} {n : Nat} (h : depAll (x :: xs) n = true) : x.dep n = true ∧ depAll xs n = true := by
  unfold depAll at h
  cases e : x.dep n with
  | true => rw [e] at h; exact ⟨rfl, h⟩
  | false => rw [e] at h; cases h
theorem beq_toStr (a b : List Nat) : (toStr a == toStr b) = (a == b) := by
  by_cases h : a = b
  · subst h; simp
  · have : toStr a ≠ toStr b := fun e => h (toStr_inj e)
    rw [beq_eq_false_iff_ne.mpr this, beq_eq_false_iff_ne.mpr h]
mutual
theorem eqv_D : ∀ (x y : PV) (n m : Nat), x.dep n = true → y.dep m = true → x.eqv y = PyData.eqv (toD x) (toD y)
  | .non, y, n, m, hx, hy => by cases y <;> simp [PV.eqv, toD, PyData.eqv, PV.dep] at *
  | .bl a, y, n, m, hx, hy => by cases y <;> simp [PV.eqv, toD, PyData.eqv, PV.dep] at *
  | .int i, y, n, m, hx, hy => by cases y <;> simp [PV.eqv, toD, PyData.eqv, PV.dep] at *
  | .str s, y, n, m, hx, hy => by
    cases y <;> simp only [PV.eqv, toD, PyData.eqv]
    exact (beq_toStr _ _).symm
  | .tup xs, y, 0, m, hx, hy => by simp [PV.dep] at hx
  | .tup xs, y, n + 1, m, hx, hy => by
    have hx' : depAll xs n = true := by simpa [PV.dep] using hx
    cases y with
    | tup ys =>
      cases m with
      | zero => simp [PV.dep] at hy
      | succ m =>
        simp only [PV.eqv, toD, PyData.eqv]
        exact eqvAll_D xs ys n m hx' (by simpa [PV.dep] using hy)
    | loc k => simp [PV.dep] at hy
    | _ => simp only [PV.eqv, toD, PyData.eqv]
  | .lst xs, y, 0, m, hx, hy => by simp [PV.dep] at hx
  | .lst xs, y, n + 1, m, hx, hy => by
    have hx' : depAll xs n = true := by simpa [PV.dep] using hx
    cases y with
    | lst ys =>
      cases m with
      | zero => simp [PV.dep] at hy
      | succ m =>
        simp only [PV.eqv, toD, PyData.eqv]
        exact eqvAll_D xs ys n m hx' (by simpa [PV.dep] using hy)
    | frz ys =>
      cases m with
      | zero => simp [PV.dep] at hy
      | succ m =>
        simp only [PV.eqv, toD, PyData.eqv]
        exact eqvAll_D xs ys n m hx' (by simpa [PV.dep] using hy)
    | loc k => simp [PV.dep] at hy
    | _ => simp only [PV.eqv, toD, PyData.eqv]
  | .frz xs, y, 0, m, hx, hy => by simp [PV.dep] at hx
  | .frz xs, y, n + 1, m, hx, hy => by
    have hx' : depAll xs n = true := by simpa [PV.dep] using hx
    cases y with
    | lst ys =>
      cases m with
      | zero => simp [PV.dep] at hy
      | succ m =>
        simp only [PV.eqv, toD, PyData.eqv]
        exact eqvAll_D xs ys n m hx' (by simpa [PV.dep] using hy)
    | frz ys =>
      cases m with
      | zero => simp [PV.dep] at hy
      | succ m =>
        simp only [PV.eqv, toD, PyData.eqv]
        exact eqvAll_D xs ys n m hx' (by simpa [PV.dep] using hy)
    | loc k => simp [PV.dep] at hy
    | _ => simp only [PV.eqv, toD, PyData.eqv]
  | .loc _, y, n, m, hx, hy => by simp [PV.dep] at hx
theorem eqvAll_D : ∀ (xs ys : List PV) (n m : Nat), depAll xs n = true → depAll ys m = true → eqvAll xs ys = PyData.eqvAll (toDs xs) (toDs ys)
  | [], ys, n, m, hx, hy => by cases ys <;> simp [eqvAll, toDs, PyData.eqvAll]
  | x :: xs, ys, n, m, hx, hy => by
    obtain ⟨h1, h2⟩ := depAll_cons hx
    cases ys with
    | nil => simp [eqvAll, toDs, PyData.eqvAll]
    | cons y ys =>
      obtain ⟨k1, k2⟩ := depAll_cons hy
      have e1 := eqv_D x y n m h1 k1
      have e2 := eqvAll_D xs ys n m h2 k2
      simp only [eqvAll, toDs, PyData.eqvAll]
      rw [← e1, ← e2]
      cases x.eqv y <;> simp
end
theorem anyEq_D (x : PV) (n : Nat) (hx : x.dep n = true) : ∀ (ys : List PV) (m : Nat), depAll ys m = true → anyEq x ys = (toDs ys).any fun z => PyData.eqv z (toD x)
  | [], _, _ => by simp [anyEq, toDs]
  | y :: ys, m, h => by
    obtain ⟨h1, h2⟩ := depAll_cons h
    have e1 := eqv_D y x m n h1 hx
    have e2 := anyEq_D x n hx ys m h2
    simp only [anyEq, toDs, List.any_cons]
    rw [← e1, ← e2]
    cases y.eqv x <;> simp
/-- a value as data, lists that change as they are now -/
theorem deref_dp {w : Wd} {x : PV} {v : V} (ok : Ok Z.K w) (r : Rv Z.K w x v) {n : Nat} (h : (deref w.h x).dep n = true) : Dp Z.K w.H v (toD (deref w.h x)) ∧ (toD (deref w.h x)).canLay0 = true := by
  cases x with
  | loc k =>
    cases q : obAt w.h k with
    | gone => simp [deref, q, PV.dep] at h
    | lst xs =>
      obtain ⟨vs, h1, h2⟩ := ok.at_ k xs q
      simp only [deref, q, toD, PyData.canLay0]
      refine ⟨?_, h2.lay0⟩
      rw [r.2]
      exact .lst (.of h1) h2.dp
  | _ => exact ⟨Rp.dp r, Rp.lay0 r⟩
theorem shaped_of {x : PV} (h : x.dep 60 = true) (l : (toD x).canLay0 = true) : SeqAt.shaped (toD x) = true := by
  have := dep_le x 60 h
  unfold SeqAt.shaped
  rw [l, Bool.true_and]
  exact decide_eq_true (by omega)

/-! ### binary operators -/
def rAddA (K : PySem.W.Frag) : R2 := fun x y H Q => rI0 (fun i j => .int (i + j)) x y H Q ∨ (∃ i j, x = .str i ∧ y = .str j ∧ i.length + j.length ≤ sizeLine ∧ Q (.str (i ++ j)) H) ∨ rCatA K x y H Q ∨ rCat x y H Q
theorem op_addA {X : Cx} : OpR X (binaryOp .Add) (rAddA X.K) := op_add.or (op_add_str.or (op_catA.or op_cat))
theorem toStr_app (a b : List Nat) : toStr a ++ toStr b = toStr (a ++ b) := by
  show Str.append _ _ = _
  simp [Str.append, toStr]
theorem SOk.app {a b : List Nat} (h : SOk a) (h' : SOk b) (l : a.length + b.length ≤ line) : SOk (a ++ b) := ⟨fun c hc => (List.mem_append.mp hc).elim (h.cp c) (h'.cp c), by rw [List.length_append]; exact l⟩
theorem opS_add (m : Bool) : OpS Z (apBin m .add) (rAddA Z.K) := by
  intro w x y V U σ Q ok rx ry p
  unfold apBin at p
  simp only at p
  split at p
  · cases rx.int_inv; cases ry.int_inv
    exact .inl ⟨_, _, rfl, rfl, p.here ok (.int _)⟩
  · obtain ⟨rfl, o1⟩ := rx.str_inv
    obtain ⟨rfl, o2⟩ := ry.str_inv
    split at p
    · rename_i hl
      refine .inr (.inl ⟨_, _, rfl, rfl, by rw [toStr_length, toStr_length, ← line_eq]; exact hl, ?_⟩)
      rw [toStr_app]
      exact p.here ok (.str _ (o1.app o2 hl))
    · exact p.elim
  · obtain ⟨a, vs, rfl, ha, r1⟩ := tup_sq rx
    obtain ⟨b, us, rfl, hb, r2⟩ := tup_sq ry
    split at p
    · rename_i xs ys _ _ hl
      have l1 := r1.length
      have l2 := r2.length
      refine .inr (.inr (.inl ⟨a, b, vs, us, rfl, rfl, ha, hb, by rw [← l1, ← l2, ← line_eq]; exact hl, fun e => ?_, fun e e' => ?_, fun e e' q n => ?_⟩))
      · subst e
        cases r1
        exact p.here ok ry
      · subst e'
        cases r2
        rw [List.append_nil] at p
        exact p.here ok rx
      · exact fresh_tup ok (r1.append r2) p q n
    · exact p.elim
  · split at p
    · rename_i e1 e2
      obtain ⟨a, vs, rfl, ha, r1⟩ := lstOf'_lst ok rx e1
      obtain ⟨b, us, rfl, hb, r2⟩ := lstOf'_lst ok ry e2
      split at p
      · rename_i hl
        have l1 := r1.length
        have l2 := r2.length
        exact .inr (.inr (.inr ⟨a, b, vs, us, rfl, rfl, ha, hb, by rw [← l1, ← l2, ← line_eq]; exact hl, fun q n => fresh_mkL ok (r1.append r2) p q n⟩))
      · exact p.elim
    · exact p.elim
theorem opS_sub (m : Bool) : OpS Z (apBin m .sub) (rI0 fun i j => .int (i - j)) := by
  intro w x y V U σ Q ok rx ry p
  unfold apBin at p
  simp only at p
  split at p
  · cases rx.int_inv; cases ry.int_inv
    exact ⟨_, _, rfl, rfl, p.here ok (.int _)⟩
  · exact p.elim
def rMulA : R2 := fun x y H Q => rI CMul (fun i j => .int (i * j)) x y H Q ∨ rRep x y H Q
theorem op_mulA {X : Cx} : OpR X (binaryOp .Mult) rMulA := op_mul.or op_rep
theorem small64_ok {i : Int} (h : small64 i = true) : -(2 ^ 64) < i ∧ i < 2 ^ 64 := by
  simp only [small64, two64, Bool.and_eq_true, decide_eq_true_eq] at h
  have e : (2 : Int) ^ 64 = 18446744073709551616 := by decide
  rw [e]
  exact ⟨of_decide_eq_true h.1, of_decide_eq_true h.2⟩
theorem opS_mul (m : Bool) : OpS Z (apBin m .mul) rMulA := by
  intro w x y V U σ Q ok rx ry p
  unfold apBin at p
  simp only at p
  split at p
  · cases rx.int_inv; cases ry.int_inv
    split at p
    · rename_i i j _ _ hl
      refine .inl ⟨_, _, rfl, rfl, ?_, p.here ok (.int _)⟩
      rcases (Bool.or_eq_true _ _).mp hl with z | z
      · exact .inl (small64_ok z)
      · exact .inr (small64_ok z)
    · exact p.elim
  · cases ry.int_inv
    split at p
    · rename_i xs e1
      obtain ⟨a, vs, rfl, ha, r1⟩ := lstOf'_lst ok rx e1
      split at p
      · rename_i hl
        obtain ⟨h0, h1, h2⟩ := hl
        have l1 := r1.length
        have e63 : (2 : Int) ^ 63 = 9223372036854775808 := by decide
        refine .inr ⟨a, _, vs, rfl, rfl, ha, by rw [e63]; omega, by rw [e63]; exact h1, by rw [← l1, ← line_eq]; exact h2, ?_⟩
        intro q n
        exact fresh_mkL ok (r1.rep _) p q n
      · exact p.elim
    · exact p.elim
  · exact p.elim
theorem opS_fdiv (m : Bool) : OpS Z (apBin m .fdiv) (rI CDiv fun i j => .int (i / j)) := by
  intro w x y V U σ Q ok rx ry p
  unfold apBin at p
  simp only at p
  split at p
  · cases rx.int_inv; cases ry.int_inv
    split at p
    · rename_i hl
      exact ⟨_, _, rfl, rfl, hl, p.here ok (.int _)⟩
    · exact p.elim
  · exact p.elim
theorem opS_mod (m : Bool) : OpS Z (apBin m .mod) (rI (fun _ j => 0 < j) fun i j => .int (i % j)) := by
  intro w x y V U σ Q ok rx ry p
  unfold apBin at p
  simp only at p
  split at p
  · cases rx.int_inv; cases ry.int_inv
    split at p
    · rename_i hl
      exact ⟨_, _, rfl, rfl, hl, p.here ok (.int _)⟩
    · exact p.elim
  · exact p.elim
theorem opS_pow (m : Bool) : OpS Z (apBin m .pow) (rI CPow fun i j => .int (i ^ j.toNat)) := by
  intro w x y V U σ Q ok rx ry p
  unfold apBin at p
  simp only at p
  split at p
  · cases rx.int_inv; cases ry.int_inv
    split at p
    · rename_i hl
      obtain ⟨h0, h1, h2⟩ := hl
      exact ⟨_, _, rfl, rfl, ⟨h0, h1, by omega⟩, p.here ok (.int _)⟩
    · exact p.elim
  · exact p.elim

/-! ### comparisons -/
theorem eqV_some {w : Wd} {x y : PV} {V U : L2.V} {k : Bool} (ok : Ok Z.K w) (rx : Rv Z.K w x V) (ry : Rv Z.K w y U) (e : eqV w.h x y = some k) :
    ∃ d e, Dp Z.K w.H V d ∧ Dp Z.K w.H U e ∧ SeqAt.shaped d = true ∧ SeqAt.shaped e = true ∧ PyData.eqv d e = k := by
  unfold eqV at e
  split at e
  · rename_i h1 h2
    obtain ⟨d1, l1⟩ := deref_dp ok rx h1
    obtain ⟨d2, l2⟩ := deref_dp ok ry h2
    refine ⟨_, _, d1, d2, shaped_of h1 l1, shaped_of h2 l2, ?_⟩
    rw [← eqv_D _ _ _ _ h1 h2]
    exact Option.some.inj e
  · cases e
theorem opS_eq : OpS Z (apCmp .eq) (rEqD Z.K) := by
  intro w x y V U σ Q ok rx ry p
  unfold apCmp at p
  simp only at p
  split at p
  · rename_i k e
    obtain ⟨d, d', h1, h2, h3, h4, h5⟩ := eqV_some ok rx ry e
    exact ⟨d, d', h1, h2, h3, h4, by rw [h5]; exact p.here ok (.bl _)⟩
  · exact p.elim
theorem opS_ne : OpS Z (apCmp .ne) (rNeD Z.K) := by
  intro w x y V U σ Q ok rx ry p
  unfold apCmp at p
  simp only at p
  split at p
  · rename_i k e
    obtain ⟨d, d', h1, h2, h3, h4, h5⟩ := eqV_some ok rx ry e
    exact ⟨d, d', h1, h2, h3, h4, by rw [h5]; exact p.here ok (.bl _)⟩
  · exact p.elim
theorem opS_lt : OpS Z (apCmp .lt) (rI0 fun i j => .bl (decide (i < j))) := by
  intro w x y V U σ Q ok rx ry p
  unfold apCmp at p
  simp only at p
  split at p
  · cases rx.int_inv; cases ry.int_inv
    exact ⟨_, _, rfl, rfl, p.here ok (.bl _)⟩
  · exact p.elim
theorem opS_le : OpS Z (apCmp .le) (rI0 fun i j => .bl (decide (i ≤ j))) := by
  intro w x y V U σ Q ok rx ry p
  unfold apCmp at p
  simp only at p
  split at p
  · cases rx.int_inv; cases ry.int_inv
    exact ⟨_, _, rfl, rfl, p.here ok (.bl _)⟩
  · exact p.elim
theorem opS_gt : OpS Z (apCmp .gt) (rI0 fun i j => .bl (decide (j < i))) := by
  intro w x y V U σ Q ok rx ry p
  unfold apCmp at p
  simp only at p
  split at p
  · cases rx.int_inv; cases ry.int_inv
    exact ⟨_, _, rfl, rfl, p.here ok (.bl _)⟩
  · exact p.elim
theorem opS_ge : OpS Z (apCmp .ge) (rI0 fun i j => .bl (decide (j ≤ i))) := by
  intro w x y V U σ Q ok rx ry p
  unfold apCmp at p
  simp only at p
  split at p
  · cases rx.int_inv; cases ry.int_inv
    exact ⟨_, _, rfl, rfl, p.here ok (.bl _)⟩
  · exact p.elim
theorem Rv.non_iff {w : Wd} {x : PV} {v : V} (r : Rv Z.K w x v) : v = .non ↔ x = .non := by
  constructor
  · intro e; subst e
    cases x with
    | loc n => exact absurd r.2 (fun z => nomatch z)
    | _ => first | rfl | cases r
  · intro e; subst e; exact r.non_inv
theorem opS_isN : OpS Z (apCmp .isN) (fun x y H Q => y = .non ∧ Q (.bl (decide (x = .non))) H) := by
  intro w x y V U σ Q ok rx ry p
  unfold apCmp at p
  simp only at p
  split at p
  · cases rx.non_inv; cases ry.non_inv
    exact ⟨rfl, p.here ok (.bl _)⟩
  · rename_i n
    cases ry.non_inv
    refine ⟨rfl, ?_⟩
    have : decide (V = .non) = false := decide_eq_false fun z => n (rx.non_iff.mp z) 
    rw [this]
    exact p.here ok (.bl _)
  · exact p.elim
theorem opS_notN : OpS Z (apCmp .notN) (fun x y H Q => y = .non ∧ Q (.bl (!decide (x = .non))) H) := by
  intro w x y V U σ Q ok rx ry p
  unfold apCmp at p
  simp only at p
  split at p
  · cases rx.non_inv; cases ry.non_inv
    exact ⟨rfl, p.here ok (.bl _)⟩
  · rename_i n
    cases ry.non_inv
    refine ⟨rfl, ?_⟩
    have : decide (V = .non) = false := decide_eq_false fun z => n (rx.non_iff.mp z) 
    rw [this]
    exact p.here ok (.bl _)
  · exact p.elim
theorem seqOf_dp {w : Wd} {y : PV} {U : V} {ys : List PV} (ok : Ok Z.K w) (ry : Rv Z.K w y U) (e : seqOf w.h y = some ys) : (Dp Z.K w.H U (.list (toDs ys)) ∨ Dp Z.K w.H U (.tuple (toDs ys))) ∧ PyData.canLayAll0 (toDs ys) = true := by
  obtain ⟨a, vs, rfl, h, r⟩ := seqOf_sq ok ry e
  exact ⟨h.elim (fun h => .inl (.lst h r.dp)) (fun h => .inr (.tup h r.dp)), r.lay0⟩
/-- x in a list or a tuple of data of any depth; neg: not in -/
def rInA (K : PySem.W.Frag) (neg : Bool) : R2 := fun x y H Q => ∃ d ds, Dp K H x d ∧ (Dp K H y (.list ds) ∨ Dp K H y (.tuple ds)) ∧ SeqAt.shaped d = true ∧ PyData.canLayAll0 ds = true ∧ Q (.bl (if neg = true then !(ds.any fun z => PyData.eqv z d) else (ds.any fun z => PyData.eqv z d))) H
theorem op_inA {X : Cx} (hu : X.A.units + 65 < cLine) : OpR X (compareOp .In) (rInA X.K false) := by
  intro pins s σ H V U v u Q J rV rU ⟨dx, dy, hx, hy, okx, oky, q⟩
  obtain ⟨ax, rx⟩ := Dp.reads J dx V v hx rV
  have lx := SeqAt.canLay_of_shaped okx
  have room := room_in_shaped (xs := dy) okx hu
  rcases hy with hy | hy
  · obtain ⟨ay, ry⟩ := Dp.reads J (.list dy) U u hy rU
    exact SeqAt.in_list_reads ry rx oky lx room ⟨.bl _, H, J, rfl, q⟩
  · obtain ⟨ay, ry⟩ := Dp.reads J (.tuple dy) U u hy rU
    exact SeqAt.in_tuple_reads ry rx oky lx room ⟨.bl _, H, J, rfl, q⟩
theorem op_notInA {X : Cx} (hu : X.A.units + 65 < cLine) : OpR X (compareOp .NotIn) (rInA X.K true) := by
  intro pins s σ H V U v u Q J rV rU ⟨dx, dy, hx, hy, okx, oky, q⟩
  obtain ⟨ax, rx⟩ := Dp.reads J dx V v hx rV
  have lx := SeqAt.canLay_of_shaped okx
  have room := room_in_shaped (xs := dy) okx hu
  rcases hy with hy | hy
  · obtain ⟨ay, ry⟩ := Dp.reads J (.list dy) U u hy rU
    exact SeqAt.notIn_list_reads ry rx oky lx room ⟨.bl _, H, J, rfl, q⟩
  · obtain ⟨ay, ry⟩ := Dp.reads J (.tuple dy) U u hy rU
    exact SeqAt.notIn_tuple_reads ry rx oky lx room ⟨.bl _, H, J, rfl, q⟩
theorem in_some {w : Wd} {x y : PV} {V U : L2.V} {ys : List PV} (ok : Ok Z.K w) (rx : Rv Z.K w x V) (ry : Rv Z.K w y U) (e : seqOf w.h y = some ys) (hd : (x.dep 60 && depAll ys 60) = true) :
    ∃ d ds, Dp Z.K w.H V d ∧ (Dp Z.K w.H U (.list ds) ∨ Dp Z.K w.H U (.tuple ds)) ∧ SeqAt.shaped d = true ∧ PyData.canLayAll0 ds = true ∧ (ds.any fun z => PyData.eqv z d) = anyEq x ys := by
  obtain ⟨h1, h2⟩ := (Bool.and_eq_true _ _).mp hd
  obtain ⟨d2, l2⟩ := seqOf_dp ok ry e
  have rx' : Rp Z.K w x V := rx.data (by cases x <;> simp [PV.dep, PV.isD] at *)
  exact ⟨_, _, rx'.dp, d2, shaped_of h1 rx'.lay0, l2, (anyEq_D x 60 h1 ys 60 h2).symm⟩
theorem memN_eq (c : Nat) : ∀ s : List Nat, memN c s = decide (c ∈ s)
  | [] => by simp [memN]
  | d :: r => by
    unfold memN
    cases q : Nat.beq c d with
    | true =>
      have e := Nat.eq_of_beq_eq_true q
      simp [e]
    | false =>
      have e : c ≠ d := fun z => by rw [z, Nat.beq_refl] at q; cases q
      simp only [memN_eq c r, List.mem_cons, e, false_or]
def rInT (K : PySem.W.Frag) (neg : Bool) : R2 := fun x y H Q => rInA K neg x y H Q ∨ ∃ (c : Nat) (z : Str), x = .str ⟨#[c]⟩ ∧ y = .str z ∧ Q (.bl (if neg = true then !decide (c ∈ z.cps.toList) else decide (c ∈ z.cps.toList))) H
theorem op_inT {X : Cx} (hu : X.A.units + 65 < cLine) : OpR X (compareOp .In) (rInT X.K false) := (op_inA hu).or op_in_sign
theorem op_notInT {X : Cx} (hu : X.A.units + 65 < cLine) : OpR X (compareOp .NotIn) (rInT X.K true) := (op_notInA hu).or op_notIn_sign
theorem opS_in : OpS Z (apCmp .isIn) (rInT Z.K false) := by
  intro w x y V U σ Q ok rx ry p
  unfold apCmp at p
  simp only at p
  split at p
  · split at p
    · rename_i s _ c
      obtain ⟨rfl, o1⟩ := rx.str_inv
      obtain ⟨rfl, o2⟩ := ry.str_inv
      refine .inr ⟨c, toStr s, rfl, rfl, ?_⟩
      have q := p.here ok (.of (.bl _))
      rw [memN_eq] at q
      exact q
    · exact p.elim
  · split at p
    · rename_i ys e
      split at p
      · rename_i hd
        obtain ⟨d, ds, h1, h2, h3, h4, h5⟩ := in_some ok rx ry e hd
        exact .inl ⟨d, ds, h1, h2, h3, h4, by rw [h5]; exact p.here ok (.bl _)⟩
      · exact p.elim
    · exact p.elim
theorem opS_notIn : OpS Z (apCmp .notIn) (rInT Z.K true) := by
  intro w x y V U σ Q ok rx ry p
  unfold apCmp at p
  simp only at p
  split at p
  · split at p
    · rename_i s _ c
      obtain ⟨rfl, o1⟩ := rx.str_inv
      obtain ⟨rfl, o2⟩ := ry.str_inv
      refine .inr ⟨c, toStr s, rfl, rfl, ?_⟩
      have q := p.here ok (.of (.bl _))
      rw [memN_eq] at q
      exact q
    · exact p.elim
  · split at p
    · rename_i ys e
      split at p
      · rename_i hd
        obtain ⟨d, ds, h1, h2, h3, h4, h5⟩ := in_some ok rx ry e hd
        exact .inl ⟨d, ds, h1, h2, h3, h4, by rw [h5]; exact p.here ok (.bl _)⟩
      · exact p.elim
    · exact p.elim
/-- the reading of a comparison by the interpreter's -/
def rCmp (K : PySem.W.Frag) : COp → R2
  | .eq => rEqD K | .ne => rNeD K
  | .lt => rI0 fun i j => .bl (decide (i < j)) | .le => rI0 fun i j => .bl (decide (i ≤ j)) | .gt => rI0 fun i j => .bl (decide (j < i)) | .ge => rI0 fun i j => .bl (decide (j ≤ i))
  | .isN => fun x y H Q => y = .non ∧ Q (.bl (decide (x = .non))) H
  | .notN => fun x y H Q => y = .non ∧ Q (.bl (!decide (x = .non))) H
  | .isIn => rInT K false | .notIn => rInT K true
theorem opS_cmp : ∀ op : COp, OpS Z (apCmp op) (rCmp Z.K op)
  | .eq => opS_eq | .ne => opS_ne | .lt => opS_lt | .le => opS_le | .gt => opS_gt | .ge => opS_ge | .isN => opS_isN | .notN => opS_notN | .isIn => opS_in | .notIn => opS_notIn
def cop : CmpOp → Option COp
  | .Eq => some .eq | .NotEq => some .ne | .Lt => some .lt | .LtE => some .le | .Gt => some .gt | .GtE => some .ge | .Is => some .isN | .IsNot => some .notN | .In => some .isIn | .NotIn => some .notIn
theorem op_cmp {X : Cx} (hu : X.A.units + 65 < cLine) {op : CmpOp} {c : COp} (h : cop op = some c) : OpR X (compareOp op) (rCmp X.K c) := by
  cases op <;> simp only [cop, Option.some.injEq] at h <;> subst h
  · exact op_eqD (by omega)
  · exact op_neD (by omega)
  · exact op_lt
  · exact op_le
  · exact op_gt
  · exact op_ge
  · exact op_isN
  · exact op_notN
  · exact op_inT hu
  · exact op_notInT hu
/-- a comparison's answer is a bool -/
theorem apCmp_bl {op : COp} {a b v : PV} {h h' : List Ob} (e : apCmp op a b h = .ok v h') : ∃ k, v = .bl k := by
  unfold apCmp at e
  repeat' split at e
  all_goals first | (cases e; exact ⟨_, rfl⟩) | cases e
theorem apCmp_noex {op : COp} {a b : PV} {h h' : List Ob} {c : Nat} {fs : List PV} (e : apCmp op a b h = .ex c fs h') : False := by
  unfold apCmp at e
  repeat' split at e
  all_goals cases e
end Mi

/-! Mi4: tests, displays, calls of built-ins, subscripts. -/
namespace Mi
open PySem L2 PySem.Spec PyProof.Rows
variable {Z : Zc}
section
variable {X : Cx} {a b c : Expr} {ra rb rc : Sl → List Ob → R PV} {pos : Pos}

theorem isEmpty_len {α β : Type} {xs : List α} {vs : List β} (h : xs.length = vs.length) : nonE xs = !vs.isEmpty := by
  cases xs <;> cases vs <;> simp [nonE] at h ⊢
theorem truth_ok {w : Wd} {x : PV} {v : V} {k : Bool} (ok : Ok Z.K w) (r : Rv Z.K w x v) (e : truth w.h x = some k) : TruV Z.K v w.H k := by
  cases x with
  | non => cases r.non_inv; simp only [truth, Option.some.injEq] at e; subst e; rfl
  | bl b => cases r.bl_inv; simp only [truth, Option.some.injEq] at e; subst e; rfl
  | int i =>
    cases r.int_inv
    simp only [truth, Option.some.injEq] at e; subst e
    show _ = (i != 0)
    cases i with
    | ofNat n => cases n <;> rfl
    | negSucc n => rfl
  | str s =>
    obtain ⟨rfl, o⟩ := r.str_inv
    simp only [truth, Option.some.injEq] at e; subst e
    refine ⟨by rw [toStr_length, ← line_eq]; exact o.ln, ?_⟩
    rw [toStr_length]
    cases s with
    | nil => rfl
    | cons c s => 
      have : ((s.length + 1 : Nat) : Int) ≠ 0 := by omega
      simp only [List.length_cons]
      exact (bne_iff_ne.mpr this).symm
  | tup xs =>
    simp only [truth, Option.some.injEq] at e; subst e
    obtain ⟨a, vs, rfl, h, rr⟩ := tup_sq r
    exact .inr (.inl ⟨vs, h, isEmpty_len rr.length⟩)
  | _ =>
    simp only [truth] at e
    split at e
    · rename_i xs q
      obtain ⟨a, vs, rfl, h, rr⟩ := lstOf_sq ok r q
      exact .inl ⟨vs, h, by rw [← isEmpty_len rr.length]; exact (Option.some.inj e).symm⟩
    · cases e

/-! ### tests -/
theorem t_truth (ha : PE X a (tE Z ra)) (hK : X.K = Z.K) (he : ∀ whole, isTrue a X.env whole = (do let v ← whole; standAt a.pos; holding [v] (truthy v))) : PT X a (tB Z fun σ h => test (ra σ h)) :=
  (pt_truth ha he).imp fun σ H Q ⟨w, st, e, ok, rs, p⟩ => by
    subst e
    refine ⟨w, st, rfl, ok, rs, ?_⟩
    cases q : ra st w.h with
    | no => simp only [q] at p; exact p.elim
    | ex c fs h1 => simp only [q] at p; exact p
    | ok x h1 =>
      simp only [q] at p
      intro w1 V l1 e1 ok1 r1
      cases q2 : truth h1 x with
      | none => simp only [test, q2] at p; exact p.elim
      | some k =>
        simp only [test, q2] at p
        subst e1
        exact ⟨k, by rw [hK]; exact truth_ok ok1 r1 q2, p.at_ l1 rfl ok1 rfl⟩
def nots (r : R PV) : R PV := match test r with
  | .ok b h1 => .ok (.bl (!b)) h1
  | .ex c fs h1 => .ex c fs h1
  | .no => .no
theorem nots_ok {r : R PV} {b : Bool} {h : List Ob} (e : test r = .ok b h) : nots r = .ok (.bl (!b)) h := by unfold nots; rw [e]
theorem nots_ex {r : R PV} {c : Nat} {fs : List PV} {h : List Ob} (e : test r = .ex c fs h) : nots r = .ex c fs h := by unfold nots; rw [e]
theorem nots_no {r : R PV} (e : test r = .no) : nots r = .no := by unfold nots; rw [e]
theorem t_not (ha : PT X a (tB Z fun σ h => test (ra σ h))) : PT X (.UnaryOp .Not a pos) (tB Z fun σ h => test (nots (ra σ h))) :=
  (pt_not ha).imp fun σ H Q ⟨w, st, e, ok, rs, p⟩ => by
    subst e
    refine ⟨w, st, rfl, ok, rs, ?_⟩
    have p' : PoB Z w σ (test (nots (ra st w.h))) Q := p
    show PoB Z w σ (test (ra st w.h)) _
    cases q : test (ra st w.h) with
    | no => rw [nots_no q] at p'; exact p'.elim
    | ex c fs h1 => rw [nots_ex q] at p'; exact p'
    | ok k h1 =>
      rw [nots_ok q] at p'
      intro w1 V l1 e1 ok1 r1
      subst r1
      exact Po.at_ (a := !k) (b := !k) p' l1 e1 ok1 rfl
theorem s_not (ha : PE X a (tE Z ra)) (hK : X.K = Z.K) : PE X (.UnaryOp .Not a pos) (tE Z fun σ h => nots (ra σ h)) :=
  (pe_notT ha).imp fun σ H Q ⟨w, st, e, ok, rs, p⟩ => by
    subst e
    refine ⟨w, st, rfl, ok, rs, ?_⟩
    cases q : ra st w.h with
    | no => simp only [nots, test, q] at p; exact p.elim
    | ex c fs h1 => simp only [nots, test, q] at p; exact p
    | ok x h1 =>
      simp only [nots, q, test] at p
      intro w1 V l1 e1 ok1 r1
      cases q2 : truth h1 x with
      | none => simp only [q2] at p; exact p.elim
      | some k =>
        simp only [q2] at p
        subst e1
        exact ⟨k, by rw [hK]; exact truth_ok ok1 r1 q2, p.at_ l1 rfl ok1 (.of (.bl _))⟩
theorem s_neg (ha : PE X a (tE Z ra)) : PE X (.UnaryOp .USub a pos) (tE Z fun σ h => match ra σ h with
      | .ok (.int i) h1 => .ok (.int (-i)) h1
      | .ex c fs h1 => .ex c fs h1
      | _ => .no) :=
  (pe_un un_neg ha).imp fun σ H Q ⟨w, st, e, ok, rs, p⟩ => by
    subst e
    refine ⟨w, st, rfl, ok, rs, ?_⟩
    cases q : ra st w.h with
    | no => simp only [q] at p; exact p.elim
    | ex c fs h1 => simp only [q] at p; exact p
    | ok x h1 =>
      simp only [q] at p
      intro w1 V l1 e1 ok1 r1
      cases x <;> simp only at p <;> try exact p.elim
      cases r1.int_inv
      exact ⟨_, rfl, p.at_ l1 e1 ok1 (.of (.int _))⟩

/-! ### and, or -/
variable {rest : List Expr}
def ands (x : R PV) (y : List Ob → R PV) : R PV := match x with
  | .ok x h1 => match truth h1 x with
    | some true => y h1
    | some false => .ok x h1
    | none => .no
  | .ex c fs h1 => .ex c fs h1
  | .no => .no
def ors (x : R PV) (y : List Ob → R PV) : R PV := match x with
  | .ok x h1 => match truth h1 x with
    | some true => .ok x h1
    | some false => y h1
    | none => .no
  | .ex c fs h1 => .ex c fs h1
  | .no => .no
theorem s_and (ha : PE X a (tE Z ra)) (hb : PE X (.BoolOp .And (b :: rest) pos) (tE Z rb)) (hK : X.K = Z.K) : PE X (.BoolOp .And (a :: b :: rest) pos) (tE Z fun σ h => ands (ra σ h) (rb σ)) :=
  (pe_andT ha hb).imp fun σ H Q ⟨w, st, e, ok, rs, p⟩ => by
    subst e
    refine ⟨w, st, rfl, ok, rs, ?_⟩
    cases q : ra st w.h with
    | no => simp only [ands, q] at p; exact p.elim
    | ex c fs h1 => simp only [ands, q] at p; exact p
    | ok x h1 =>
      simp only [ands, q] at p
      intro w1 V l1 e1 ok1 r1
      subst e1
      cases q2 : truth w1.h x with
      | none => simp only [q2] at p; exact p.elim
      | some k =>
        refine ⟨k, by rw [hK]; exact truth_ok ok1 r1 q2, ?_⟩
        cases k with
        | true =>
          simp only [q2] at p
          rw [if_pos rfl]
          exact ⟨w1, st, rfl, ok1, rs.mono l1, Po.up l1 p⟩
        | false =>
          simp only [q2] at p
          rw [if_neg Bool.false_ne_true]
          exact p.at_ l1 rfl ok1 r1
theorem s_or (ha : PE X a (tE Z ra)) (hb : PE X (.BoolOp .Or (b :: rest) pos) (tE Z rb)) (hK : X.K = Z.K) : PE X (.BoolOp .Or (a :: b :: rest) pos) (tE Z fun σ h => ors (ra σ h) (rb σ)) :=
  (pe_orT ha hb).imp fun σ H Q ⟨w, st, e, ok, rs, p⟩ => by
    subst e
    refine ⟨w, st, rfl, ok, rs, ?_⟩
    cases q : ra st w.h with
    | no => simp only [ors, q] at p; exact p.elim
    | ex c fs h1 => simp only [ors, q] at p; exact p
    | ok x h1 =>
      simp only [ors, q] at p
      intro w1 V l1 e1 ok1 r1
      subst e1
      cases q2 : truth w1.h x with
      | none => simp only [q2] at p; exact p.elim
      | some k =>
        refine ⟨k, by rw [hK]; exact truth_ok ok1 r1 q2, ?_⟩
        cases k with
        | false =>
          simp only [q2] at p
          rw [if_neg Bool.false_ne_true]
          exact ⟨w1, st, rfl, ok1, rs.mono l1, Po.up l1 p⟩
        | true =>
          simp only [q2] at p
          rw [if_pos rfl]
          exact p.at_ l1 rfl ok1 r1
theorem t_and (ha : PT X a (tB Z fun σ h => test (ra σ h))) (hb : PW X (.BoolOp .And (b :: rest) pos) (tB Z fun σ h => test (rb σ h))) : PW X (.BoolOp .And (a :: b :: rest) pos) (tB Z fun σ h => test (ands (ra σ h) (rb σ))) :=
  (pw_and ha hb).imp fun σ H Q ⟨w, st, e, ok, rs, p⟩ => by
    subst e
    refine ⟨w, st, rfl, ok, rs, ?_⟩
    have p' : PoB Z w σ (test (ands (ra st w.h) (rb st))) Q := p
    show PoB Z w σ (test (ra st w.h)) _
    cases q : ra st w.h with
    | no => rw [q] at p'; exact p'.elim
    | ex c fs h1 => rw [q] at p'; exact p'
    | ok x h1 =>
      rw [q] at p'
      cases q2 : truth h1 x with
      | none =>
        have e : ands (.ok x h1) (rb st) = .no := by simp only [ands, q2]
        rw [e] at p'; exact p'.elim
      | some k =>
        have e0 : test (.ok x h1) = .ok k h1 := by simp only [test, q2]
        rw [e0]
        intro w1 V l1 e1 ok1 r1
        subst r1
        cases k with
        | true =>
          have e : ands (.ok x h1) (rb st) = rb st h1 := by simp only [ands, q2]
          rw [e] at p'
          rw [if_pos rfl]
          exact ⟨w1, st, rfl, ok1, rs.mono l1, by rw [e1]; exact Po.up l1 p'⟩
        | false =>
          have e : ands (.ok x h1) (rb st) = .ok x h1 := by simp only [ands, q2]
          rw [e, e0] at p'
          rw [if_neg Bool.false_ne_true]
          exact p'.at_ l1 e1 ok1 rfl
theorem t_or (ha : PT X a (tB Z fun σ h => test (ra σ h))) (hb : PW X (.BoolOp .Or (b :: rest) pos) (tB Z fun σ h => test (rb σ h))) : PW X (.BoolOp .Or (a :: b :: rest) pos) (tB Z fun σ h => test (ors (ra σ h) (rb σ))) :=
  (pw_or ha hb).imp fun σ H Q ⟨w, st, e, ok, rs, p⟩ => by
    subst e
    refine ⟨w, st, rfl, ok, rs, ?_⟩
    have p' : PoB Z w σ (test (ors (ra st w.h) (rb st))) Q := p
    show PoB Z w σ (test (ra st w.h)) _
    cases q : ra st w.h with
    | no => rw [q] at p'; exact p'.elim
    | ex c fs h1 => rw [q] at p'; exact p'
    | ok x h1 =>
      rw [q] at p'
      cases q2 : truth h1 x with
      | none =>
        have e : ors (.ok x h1) (rb st) = .no := by simp only [ors, q2]
        rw [e] at p'; exact p'.elim
      | some k =>
        have e0 : test (.ok x h1) = .ok k h1 := by simp only [test, q2]
        rw [e0]
        intro w1 V l1 e1 ok1 r1
        subst r1
        cases k with
        | false =>
          have e : ors (.ok x h1) (rb st) = rb st h1 := by simp only [ors, q2]
          rw [e] at p'
          rw [if_neg Bool.false_ne_true]
          exact ⟨w1, st, rfl, ok1, rs.mono l1, by rw [e1]; exact Po.up l1 p'⟩
        | true =>
          have e : ors (.ok x h1) (rb st) = .ok x h1 := by simp only [ors, q2]
          rw [e, e0] at p'
          rw [if_pos rfl]
          exact p'.at_ l1 e1 ok1 rfl

/-! ### comparisons -/
def two (x : R PV) (y : List Ob → R PV) (ap : PV → PV → List Ob → R PV) : R PV := match x with
  | .ok x h1 => match y h1 with
    | .ok y h2 => ap x y h2
    | .ex c fs h2 => .ex c fs h2
    | .no => .no
  | .ex c fs h1 => .ex c fs h1
  | .no => .no
theorem s_cmp {op : CmpOp} {k : COp} (hk : cop op = some k) (hu : X.A.units + 65 < cLine) (ha : PE X a (tE Z ra)) (hb : PE X b (tE Z rb)) (hK : X.K = Z.K) (hm : behindInMarks op b = false) :
    PE X (.Compare a [op] [b] pos) (tE Z fun σ h => two (ra σ h) (rb σ) (apCmp k)) := by
  have ho : OpR X (compareOp op) (rCmp Z.K k) := by rw [← hK]; exact op_cmp hu hk
  exact s_two (pe_cmpR ho ha hb hm) (opS_cmp k)
theorem t_cmp {op : CmpOp} {k : COp} (hk : cop op = some k) (hu : X.A.units + 65 < cLine) (ha : PE X a (tE Z ra)) (hb : PE X b (tE Z rb)) (hK : X.K = Z.K) (hm : behindInMarks op b = false) :
    PT X (.Compare a [op] [b] pos) (tB Z fun σ h => test (two (ra σ h) (rb σ) (apCmp k))) := by
  have ho : OpR X (compareOp op) (rCmp Z.K k) := by rw [← hK]; exact op_cmp hu hk
  refine (pt_cmpR ho ha hb hm).imp fun σ H Q ⟨w, st, e, ok, rs, p⟩ => ?_
  subst e
  refine ⟨w, st, rfl, ok, rs, ?_⟩
  cases q : ra st w.h with
  | no => simp only [two, test, q] at p; exact p.elim
  | ex c fs h1 => simp only [two, test, q] at p; exact p
  | ok x h1 =>
    simp only [two, q] at p
    intro w1 V l1 e1 ok1 r1
    refine ⟨w1, st, rfl, ok1, rs.mono l1, ?_⟩
    rw [e1]
    cases q2 : rb st h1 with
    | no => simp only [q2, test] at p; exact p.elim
    | ex c fs h2 => simp only [q2, test] at p; exact Po.up l1 p
    | ok y h2 =>
      simp only [q2] at p
      intro w2 U l2 e2 ok2 r2
      refine opS_cmp k w2 x y V U σ _ ok2 (r1.mono l2) r2 ?_
      rw [e2]
      cases q3 : apCmp k x y h2 with
      | no => simp only [q3, test] at p; exact p.elim
      | ex c fs h3 => exact (apCmp_noex q3).elim
      | ok z h3 =>
        obtain ⟨kb, rfl⟩ := apCmp_bl q3
        simp only [q3, test, truth] at p
        intro w3 T l3 e3 ok3 r3
        cases r3.bl_inv
        exact ⟨kb, rfl, p.at_ ((l1.trans l2).trans l3) e3 ok3 rfl⟩
/-- a op b op2 c -/
def chains (x : R PV) (y z : List Ob → R PV) (k k2 : COp) : R PV := match x with
  | .ok x h1 => match y h1 with
    | .ok y h2 => match apCmp k x y h2 with
      | .ok (.bl true) h3 => match z h3 with
        | .ok z h4 => apCmp k2 y z h4
        | .ex c fs h4 => .ex c fs h4
        | .no => .no
      | .ok (.bl false) h3 => .ok (.bl false) h3
      | _ => .no
    | .ex c fs h2 => .ex c fs h2
    | .no => .no
  | .ex c fs h1 => .ex c fs h1
  | .no => .no
theorem chain_core {k k2 : COp} {σ : L2.St} {Q : VK} {w : Wd} {st : Sl} (ok : Ok Z.K w) (rs : RelS Z.K w st σ) (p : PoE Z w σ (chains (ra st w.h) (rb st) (rc st) k k2) Q) :
    tChain (rCmp Z.K k) (rCmp Z.K k2) (tE Z ra) (tE Z rb) (tE Z rc) σ w.H Q := by
  refine ⟨w, st, rfl, ok, rs, ?_⟩
  cases q : ra st w.h with
  | no => simp only [chains, q] at p; exact p.elim
  | ex c fs h1 => simp only [chains, q] at p; exact p
  | ok x h1 =>
    simp only [chains, q] at p
    intro w1 V l1 e1 ok1 r1
    refine ⟨w1, st, rfl, ok1, rs.mono l1, ?_⟩
    rw [e1]
    cases q2 : rb st h1 with
    | no => simp only [q2] at p; exact p.elim
    | ex c fs h2 => simp only [q2] at p; exact Po.up l1 p
    | ok y h2 =>
      simp only [q2] at p
      intro w2 U l2 e2 ok2 r2
      refine opS_cmp k w2 x y V U σ _ ok2 (r1.mono l2) r2 ?_
      rw [e2]
      cases q3 : apCmp k x y h2 with
      | no => simp only [q3] at p; exact p.elim
      | ex c fs h3 => exact (apCmp_noex q3).elim
      | ok z h3 =>
        obtain ⟨kb, rfl⟩ := apCmp_bl q3
        intro w3 T l3 e3 ok3 r3
        cases r3.bl_inv
        refine ⟨kb, rfl, ?_⟩
        cases kb with
        | false =>
          simp only [q3] at p
          rw [if_neg Bool.false_ne_true]
          exact p.at_ ((l1.trans l2).trans l3) e3 ok3 (.of (.bl _))
        | true =>
          simp only [q3] at p
          rw [if_pos rfl]
          refine ⟨w3, st, rfl, ok3, rs.mono ((l1.trans l2).trans l3), ?_⟩
          rw [e3]
          cases q4 : rc st h3 with
          | no => simp only [q4] at p; exact p.elim
          | ex c fs h4 => simp only [q4] at p; exact Po.up ((l1.trans l2).trans l3) p
          | ok u h4 =>
            simp only [q4] at p
            intro w4 S l4 e4 ok4 r4
            refine opS_cmp k2 w4 y u U S σ _ ok4 (r2.mono (l3.trans l4)) r4 ?_
            rw [e4]
            exact Po.up (((l1.trans l2).trans l3).trans l4) p
theorem s_cmp2 {op op2 : CmpOp} {k k2 : COp} (hk : cop op = some k) (hk2 : cop op2 = some k2) (hu : X.A.units + 65 < cLine) (ha : PE X a (tE Z ra)) (hb : PE X b (tE Z rb)) (hc : PE X c (tE Z rc)) (hK : X.K = Z.K) (hm : lastMarks [op, op2] [b, c] = false) :
    PE X (.Compare a [op, op2] [b, c] pos) (tE Z fun σ h => chains (ra σ h) (rb σ) (rc σ) k k2) := by
  have ho : OpR X (compareOp op) (rCmp Z.K k) := by rw [← hK]; exact op_cmp hu hk
  have ho2 : OpR X (compareOp op2) (rCmp Z.K k2) := by rw [← hK]; exact op_cmp hu hk2
  refine (pe_chain ho ho2 ha hb hc hm).imp fun σ H Q ⟨w, st, e, ok, rs, p⟩ => ?_
  subst e
  exact chain_core ok rs p
theorem chains_bl {x : R PV} {y z : List Ob → R PV} {k k2 : COp} {v : PV} {h : List Ob} (e : chains x y z k k2 = .ok v h) : ∃ b, v = .bl b := by
  unfold chains at e
  repeat' split at e
  all_goals first | (cases e; exact ⟨_, rfl⟩) | cases e | exact apCmp_bl e
theorem t_cmp2 {op op2 : CmpOp} {k k2 : COp} (hk : cop op = some k) (hk2 : cop op2 = some k2) (hu : X.A.units + 65 < cLine) (ha : PE X a (tE Z ra)) (hb : PE X b (tE Z rb)) (hc : PE X c (tE Z rc)) (hK : X.K = Z.K) (hm : lastMarks [op, op2] [b, c] = false) :
    PT X (.Compare a [op, op2] [b, c] pos) (tB Z fun σ h => test (chains (ra σ h) (rb σ) (rc σ) k k2)) := by
  have ho : OpR X (compareOp op) (rCmp Z.K k) := by rw [← hK]; exact op_cmp hu hk
  have ho2 : OpR X (compareOp op2) (rCmp Z.K k2) := by rw [← hK]; exact op_cmp hu hk2
  refine (pt_chain ho ho2 ha hb hc hm).imp fun σ H Q ⟨w, st, e, ok, rs, p⟩ => ?_
  subst e
  refine chain_core ok rs ?_
  cases q : chains (ra st w.h) (rb st) (rc st) k k2 with
  | no => simp only [q, test] at p; exact p.elim
  | ex c fs h1 => simp only [q, test] at p; exact p
  | ok z h3 =>
    obtain ⟨kb, rfl⟩ := chains_bl q
    simp only [q, test, truth] at p
    intro w3 T l3 e3 ok3 r3
    cases r3.bl_inv
    exact ⟨kb, rfl, p.at_ l3 e3 ok3 rfl⟩
/-- a if c else b -/
def ifs (c : R PV) (x y : List Ob → R PV) : R PV := match test c with
  | .ok true h1 => x h1
  | .ok false h1 => y h1
  | .ex c fs h1 => .ex c fs h1
  | .no => .no
theorem s_ife (hc : PT X c (tB Z fun σ h => test (rc σ h))) (ha : PE X a (tE Z ra)) (hb : PE X b (tE Z rb)) : PE X (.IfExp c a b pos) (tE Z fun σ h => ifs (rc σ h) (ra σ) (rb σ)) :=
  (pe_ifExp hc ha hb).imp fun σ H Q ⟨w, st, e, ok, rs, p⟩ => by
    subst e
    refine ⟨w, st, rfl, ok, rs, ?_⟩
    have p' : PoE Z w σ (ifs (rc st w.h) (ra st) (rb st)) Q := p
    show PoB Z w σ (test (rc st w.h)) _
    unfold ifs at p'
    cases q : test (rc st w.h) with
    | no => simp only [q] at p'; exact p'.elim
    | ex c fs h1 => simp only [q] at p'; exact p'
    | ok k h1 =>
      intro w1 V l1 e1 ok1 r1
      subst r1
      cases k with
      | true =>
        simp only [q] at p'
        rw [if_pos rfl]
        exact ⟨w1, st, rfl, ok1, rs.mono l1, by rw [e1]; exact Po.up l1 p'⟩
      | false =>
        simp only [q] at p'
        rw [if_neg Bool.false_ne_true]
        exact ⟨w1, st, rfl, ok1, rs.mono l1, by rw [e1]; exact Po.up l1 p'⟩
end
end Mi

/-! Mi5: arguments, displays, built-ins, subscripts, slices, methods. -/
namespace Mi
open PySem L2 PySem.Spec PyProof.Rows
variable {Z : Zc}
section
variable {X : Cx} {a b c e : Expr} {es : List Expr} {ra rb rc : Sl → List Ob → R PV} {rs rs2 : Sl → List Ob → R (List PV)} {pos p2 : Pos}

/-! ### argument lists -/
def consR (x : R PV) (r : List Ob → R (List PV)) : R (List PV) := match x with
  | .ok x h1 => match r h1 with
    | .ok xs h2 => .ok (x :: xs) h2
    | .ex c fs h2 => .ex c fs h2
    | .no => .no
  | .ex c fs h1 => .ex c fs h1
  | .no => .no
def starR (x : R PV) (r : List Ob → R (List PV)) : R (List PV) := match x with
  | .ok x h1 => match seqOf h1 x with
    | some ys => match r h1 with
      | .ok xs h2 => .ok (ys ++ xs) h2
      | .ex c fs h2 => .ex c fs h2
      | .no => .no
    | none => .no
  | .ex c fs h1 => .ex c fs h1
  | .no => .no
theorem a_nil : PA X [] (tA Z fun _ h => .ok [] h) := pa_nil.imp fun σ H Q ⟨w, st, e, ok, rs, p⟩ => by
  subst e
  exact p.here ok .nil
theorem consR_core {σ : L2.St} {Q : List V → Hp → Prop} {w : Wd} {st : Sl} (ok : Ok Z.K w) (rS : RelS Z.K w st σ) (p : PoA Z w σ (consR (ra st w.h) (rs st)) Q) : tCons (tE Z ra) (tA Z rs) σ w.H Q := by
  refine ⟨w, st, rfl, ok, rS, ?_⟩
  cases q : ra st w.h with
  | no => simp only [consR, q] at p; exact p.elim
  | ex c fs h1 => simp only [consR, q] at p; exact p
  | ok x h1 =>
    simp only [consR, q] at p
    intro w1 V l1 e1 ok1 r1
    refine ⟨w1, st, rfl, ok1, rS.mono l1, ?_⟩
    rw [e1]
    cases q2 : rs st h1 with
    | no => simp only [q2] at p; exact p.elim
    | ex c fs h2 => simp only [q2] at p; exact Po.up l1 p
    | ok y h2 =>
      simp only [q2] at p
      intro w2 U l2 e2 ok2 r2
      exact p.at_ (l1.trans l2) e2 ok2 (.cons (r1.mono l2) r2)
theorem a_cons (ha : PE X e (tE Z ra)) (hr : PA X es (tA Z rs)) (hs : starEach (e :: es) X.env = (false, eval e X.env) :: starEach es X.env) : PA X (e :: es) (tA Z fun σ h => consR (ra σ h) (rs σ)) :=
  (pa_cons ha hr hs).imp fun σ H Q ⟨w, st, e, ok, rS, p⟩ => by
    subst e
    exact consR_core ok rS p
theorem a_star (ha : PE X e (tE Z ra)) (hr : PA X es (tA Z rs)) (hK : X.K = Z.K) : PA X (.Starred e p2 :: es) (tA Z fun σ h => starR (ra σ h) (rs σ)) :=
  (StX.pa_star ha hr).imp fun σ H Q ⟨w, st, e, ok, rS, p⟩ => by
    subst e
    refine ⟨w, st, rfl, ok, rS, ?_⟩
    cases q : ra st w.h with
    | no => simp only [starR, q] at p; exact p.elim
    | ex c fs h1 => simp only [starR, q] at p; exact p
    | ok x h1 =>
      simp only [starR, q] at p
      intro w1 V l1 e1 ok1 r1
      subst e1
      cases q0 : seqOf w1.h x with
      | none => simp only [q0] at p; exact p.elim
      | some ys =>
        simp only [q0] at p
        obtain ⟨ad, vs, rfl, hq, rr⟩ := seqOf_sq ok1 r1 q0
        refine ⟨ad, vs, rfl, by rw [hK]; exact hq.symm, w1, st, rfl, ok1, rS.mono l1, ?_⟩
        cases q2 : rs st w1.h with
        | no => simp only [q2] at p; exact p.elim
        | ex c fs h2 => simp only [q2] at p; exact Po.up l1 p
        | ok y h2 =>
          simp only [q2] at p
          intro w2 U l2 e2 ok2 r2
          exact p.at_ (l1.trans l2) e2 ok2 (.append (.of (rr.mono l2)) r2)

/-- what takes all arguments -/
def argsR (x : R (List PV)) (ap : List PV → List Ob → R PV) : R PV := match x with
  | .ok xs h1 => ap xs h1
  | .ex c fs h1 => .ex c fs h1
  | .no => .no
def BiS (Z : Zc) (ap : List PV → List Ob → R PV) (r : List V → Hp → VK → Prop) : Prop := ∀ (w : Wd) (xs : List PV) (vs : List L2.V) (σ : L2.St) (Q : VK), Ok Z.K w → Rvs Z.K w xs vs → PoE Z w σ (ap xs w.h) Q → r vs w.H Q
theorem args_core {r : List V → Hp → VK → Prop} {ap : List PV → List Ob → R PV} {σ : L2.St} {Q : VK} {w : Wd} {st : Sl} (hs : BiS Z ap r) (ok : Ok Z.K w) (rS : RelS Z.K w st σ) (p : PoE Z w σ (argsR (rs st w.h) ap) Q) :
    tA Z rs σ w.H fun vs H1 => r vs H1 Q := by
  refine ⟨w, st, rfl, ok, rS, ?_⟩
  cases q : rs st w.h with
  | no => simp only [argsR, q] at p; exact p.elim
  | ex c fs h1 => simp only [argsR, q] at p; exact p
  | ok x h1 =>
    simp only [argsR, q] at p
    intro w1 V l1 e1 ok1 r1
    subst e1
    exact hs w1 x V σ Q ok1 r1 (Po.up l1 p)
theorem s_bi {r : List V → Hp → VK → Prop} {ap : List PV → List Ob → R PV} (h : PE X e (tCB r (tA Z rs))) (hs : BiS Z ap r) : PE X e (tE Z fun σ h => argsR (rs σ h) ap) :=
  h.imp fun σ H Q ⟨w, st, e, ok, rS, p⟩ => by
    subst e
    exact args_core hs ok rS p

/-! ### displays -/
def dispT (xs : List PV) (h : List Ob) : R PV := if allD xs && decide (xs.length ≤ line) then .ok (.tup xs) h else .no
def dispL (m : Bool) (xs : List PV) (h : List Ob) : R PV := if allD xs && decide (xs.length ≤ line) then mkL m xs h else .no
theorem s_tup {x1 : Nat} (ha : PA X es (tA Z rs)) : PE X (.Tuple es x1 pos) (tE Z fun σ h => argsR (rs σ h) dispT) :=
  s_bi (r := fun xs H1 Q => xs.length ≤ sizeLine ∧ ∀ p, H1 p = none → Q (.ref p) (upd H1 p (.tup xs))) (pe_tup ha) fun w xs vs σ Q ok r p => by
    unfold dispT at p
    split at p
    · rename_i hl
      obtain ⟨h1, h2⟩ := (Bool.and_eq_true _ _).mp hl
      refine ⟨by rw [← r.length, ← line_eq]; exact of_decide_eq_true h2, fun q n => fresh_tup ok (r.data h1) p q n⟩
    · exact p.elim
theorem s_lst (m : Bool) (ha : PA X es (tA Z rs)) : PE X (.List es pos) (tE Z fun σ h => argsR (rs σ h) (dispL m)) :=
  s_bi (r := fun xs H1 Q => xs.length ≤ sizeLine ∧ ∀ p, H1 p = none → Q (.ref p) (upd H1 p (.lst xs))) (pe_lst ha) fun w xs vs σ Q ok r p => by
    unfold dispL at p
    split at p
    · rename_i hl
      obtain ⟨h1, h2⟩ := (Bool.and_eq_true _ _).mp hl
      refine ⟨by rw [← r.length, ← line_eq]; exact of_decide_eq_true h2, fun q n => fresh_mkL ok (r.data h1) p q n⟩
    · exact p.elim

/-! ### built-ins by values -/
theorem Rvs.one {w : Wd} {x : PV} {vs : List V} (r : Rvs Z.K w [x] vs) : ∃ v, vs = [v] ∧ Rv Z.K w x v := by
  cases r with
  | cons h t => cases t; exact ⟨_, rfl, h⟩
theorem Rvs.two {w : Wd} {x y : PV} {vs : List V} (r : Rvs Z.K w [x, y] vs) : ∃ v u, vs = [v, u] ∧ Rv Z.K w x v ∧ Rv Z.K w y u := by
  cases r with
  | cons h t => 
    cases t with
    | cons h2 t2 => cases t2; exact ⟨_, _, rfl, h, h2⟩
theorem bi_len : BiS Z (apBi .len) (fun xs H Q => ∃ x n, xs = [x] ∧ LenV Z.K x H n ∧ Q (.int n) H) := by
  intro w xs vs σ Q ok r p
  simp only [apBi] at p
  split at p
  · obtain ⟨v, rfl, rv⟩ := r.one
    obtain ⟨rfl, o⟩ := rv.str_inv
    refine ⟨_, _, rfl, ⟨by rw [toStr_length, ← line_eq]; exact o.ln, rfl⟩, ?_⟩
    rw [toStr_length]
    exact p.here ok (.of (.int _))
  · obtain ⟨v, rfl, rv⟩ := r.one
    split at p
    · rename_i ys e
      obtain ⟨a, us, rfl, h, rr⟩ := seqOf_sq ok rv e
      refine ⟨_, us.length, rfl, ?_, by rw [← rr.length]; exact p.here ok (.of (.int _))⟩
      rcases h with h | h
      · exact .inl ⟨us, h, rfl⟩
      · exact .inr ⟨us, h, rfl⟩
    · exact p.elim
  · exact p.elim
theorem bi_int : BiS Z (apBi .int) (fun xs H Q => ((∃ i, xs = [.int i] ∧ Q (.int i) H) ∨ ∃ k, xs = [.bl k] ∧ Q (.int (if k then 1 else 0)) H) ∨ ∃ a n, xs = [.str a] ∧ PySem.intText? a = some n ∧ a.length ≤ 640 ∧ Q (.int n) H) := by
  intro w xs vs σ Q ok r p
  simp only [apBi] at p
  split at p
  · obtain ⟨v, rfl, rv⟩ := r.one
    cases rv.int_inv
    exact .inl (.inl ⟨_, rfl, p.here ok (.of (.int _))⟩)
  · obtain ⟨v, rfl, rv⟩ := r.one
    cases rv.bl_inv
    exact .inl (.inr ⟨_, rfl, p.here ok (.of (.int _))⟩)
  · rename_i s
    obtain ⟨v, rfl, rv⟩ := r.one
    obtain ⟨rfl, o⟩ := rv.str_inv
    split at p
    · rename_i i e
      obtain ⟨h1, h2⟩ := intT_eq e
      exact .inr ⟨_, _, rfl, h1, h2, p.here ok (.of (.int _))⟩
    · exact p.elim
  · exact p.elim
theorem bi_str1 : BiS Z (apBi .str1) (fun xs H Q => (∃ i, xs = [.int i] ∧ i.natAbs.log2 < 1920 ∧ Q (.str (toString i)) H) ∨ ∃ a, xs = [.str a] ∧ Q (.str a) H) := by
  intro w xs vs σ Q ok r p
  simp only [apBi] at p
  split at p
  · obtain ⟨v, rfl, rv⟩ := r.one
    split at p
    · rename_i s e
      obtain ⟨o, h⟩ := fmtV_of rv e
      have q := p.here ok (.of (.str _ o))
      rcases h with ⟨rfl, rfl⟩ | ⟨i, rfl, rfl, hl, es⟩
      · exact .inr ⟨_, rfl, q⟩
      · refine .inl ⟨_, rfl, hl, ?_⟩
        show Q (.str (Str.ofString (toString i))) _
        rw [es]; exact q
    · exact p.elim
  · exact p.elim
theorem bi_abs : BiS Z (apBi .abs) (fun xs H Q => ∃ i, xs = [.int i] ∧ Q (.int (if i < 0 then -i else i)) H) := by
  intro w xs vs σ Q ok r p
  simp only [apBi] at p
  split at p
  · obtain ⟨v, rfl, rv⟩ := r.one
    cases rv.int_inv
    exact ⟨_, rfl, p.here ok (.of (.int _))⟩
  · exact p.elim
theorem intsOf_eq : ∀ {xs : List PV} {is : List Int}, intsOf xs = some is → xs = is.map .int
  | [], is, e => by simp only [intsOf, Option.some.injEq] at e; subst e; rfl
  | x :: xs, is, e => by
    unfold intsOf at e
    cases x <;> simp only [reduceCtorEq] at e
    rename_i i
    cases q : intsOf xs with
    | none => simp [q] at e
    | some js =>
      simp only [q, Option.some.injEq] at e
      subst e
      rw [intsOf_eq q]; rfl
theorem boolsOf_eq : ∀ {xs : List PV} {is : List Bool}, boolsOf xs = some is → xs = is.map .bl
  | [], is, e => by simp only [boolsOf, Option.some.injEq] at e; subst e; rfl
  | x :: xs, is, e => by
    unfold boolsOf at e
    cases x <;> simp only [reduceCtorEq] at e
    rename_i i
    cases q : boolsOf xs with
    | none => simp [q] at e
    | some js =>
      simp only [q, Option.some.injEq] at e
      subst e
      rw [boolsOf_eq q]; rfl
theorem Rps.ints {w : Wd} : ∀ {is : List Int} {vs : List V}, Rps Z.K w (is.map .int) vs → vs = is.map V.int
  | [], _, .nil => rfl
  | i :: is, _, .cons h r => by cases h; rw [Rps.ints r]; rfl
theorem Rps.bls {w : Wd} : ∀ {is : List Bool} {vs : List V}, Rps Z.K w (is.map .bl) vs → vs = is.map V.bl
  | [], _, .nil => rfl
  | i :: is, _, .cons h r => by cases h; rw [Rps.bls r]; rfl
theorem sumI_eq : ∀ is : List Int, sumI is = is.sum
  | [] => rfl
  | i :: is => by rw [List.sum_cons, ← sumI_eq is]; rfl
theorem bi_sum : BiS Z (apBi .sum) (rSum Z.K) := by
  intro w xs vs σ Q ok r p
  simp only [apBi] at p
  split at p
  · obtain ⟨v, rfl, rv⟩ := r.one
    split at p
    · rename_i ys e
      obtain ⟨a, us, rfl, h, rr⟩ := lstOf_sq ok rv e
      split at p
      · rename_i is e2
        rw [intsOf_eq e2] at rr
        rw [rr.ints] at h
        exact ⟨a, is, rfl, h, by rw [← sumI_eq]; exact p.here ok (.of (.int _))⟩
      · exact p.elim
    · exact p.elim
  · exact p.elim
theorem bi_all : BiS Z (apBi .all) (rAll Z.K) := by
  intro w xs vs σ Q ok r p
  simp only [apBi] at p
  split at p
  · obtain ⟨v, rfl, rv⟩ := r.one
    split at p
    · rename_i ys e
      obtain ⟨a, us, rfl, h, rr⟩ := lstOf_sq ok rv e
      split at p
      · rename_i is e2
        rw [boolsOf_eq e2] at rr
        rw [rr.bls] at h
        exact ⟨a, is, rfl, h, p.here ok (.of (.bl _))⟩
      · exact p.elim
    · exact p.elim
  · exact p.elim
theorem bi_any : BiS Z (apBi .any) (rAny Z.K) := by
  intro w xs vs σ Q ok r p
  simp only [apBi] at p
  split at p
  · obtain ⟨v, rfl, rv⟩ := r.one
    split at p
    · rename_i ys e
      obtain ⟨a, us, rfl, h, rr⟩ := lstOf_sq ok rv e
      split at p
      · rename_i is e2
        rw [boolsOf_eq e2] at rr
        rw [rr.bls] at h
        exact ⟨a, is, rfl, h, p.here ok (.of (.bl _))⟩
      · exact p.elim
    · exact p.elim
  · exact p.elim
theorem bi_tuple : BiS Z (apBi .tuple) (fun xs H Q => ∃ p ys, xs = [.ref p] ∧ ((SqL Z.K H p ys ∧ ∀ l, H l = none → Q (.ref l) (upd H l (.tup ys))) ∨ (SqT Z.K H p ys ∧ Q (.ref p) H))) := by
  intro w xs vs σ Q ok r p
  simp only [apBi] at p
  split at p
  · obtain ⟨v, rfl, rv⟩ := r.one
    obtain ⟨a, us, rfl, h, rr⟩ := tup_sq rv
    exact ⟨a, us, rfl, .inr ⟨h, p.here ok rv⟩⟩
  · obtain ⟨v, rfl, rv⟩ := r.one
    split at p
    · rename_i ys e
      obtain ⟨a, us, rfl, h, rr⟩ := lstOf_sq ok rv e
      exact ⟨a, us, rfl, .inl ⟨h, fun q n => fresh_tup ok rr p q n⟩⟩
    · exact p.elim
  · exact p.elim
theorem bi_list (m : Bool) : BiS Z (apBi (.list m)) (fun xs H Q => ∃ p ys, xs = [.ref p] ∧ (SqL Z.K H p ys ∨ SqT Z.K H p ys) ∧ ∀ l, H l = none → Q (.ref l) (upd H l (.lst ys))) := by
  intro w xs vs σ Q ok r p
  simp only [apBi] at p
  split at p
  · obtain ⟨v, rfl, rv⟩ := r.one
    split at p
    · rename_i ys e
      obtain ⟨a, us, rfl, h, rr⟩ := seqOf_sq ok rv e
      exact ⟨a, us, rfl, h, fun q n => fresh_mkL ok rr p q n⟩
    · exact p.elim
  · exact p.elim
theorem bi_max2 : BiS Z (apBi .max2) (fun xs H Q => ∃ i j, xs = [.int i, .int j] ∧ Q (.int (if j > i then j else i)) H) := by
  intro w xs vs σ Q ok r p
  simp only [apBi] at p
  split at p
  · obtain ⟨v, u, rfl, rv, ru⟩ := r.two
    cases rv.int_inv; cases ru.int_inv
    exact ⟨_, _, rfl, p.here ok (.of (.int _))⟩
  · exact p.elim
theorem bi_min2 : BiS Z (apBi .min2) (fun xs H Q => ∃ i j, xs = [.int i, .int j] ∧ Q (.int (if j < i then j else i)) H) := by
  intro w xs vs σ Q ok r p
  simp only [apBi] at p
  split at p
  · obtain ⟨v, u, rfl, rv, ru⟩ := r.two
    cases rv.int_inv; cases ru.int_inv
    exact ⟨_, _, rfl, p.here ok (.of (.int _))⟩
  · exact p.elim
theorem leastI_ok : ∀ (is : List Int) (i : Int), leastI i is ∈ i :: is ∧ ∀ y ∈ i :: is, leastI i is ≤ y
  | [], i => ⟨List.mem_cons_self, fun y hy => by rw [List.mem_singleton.mp hy]; exact Int.le_refl _⟩
  | j :: r, i => by
    unfold leastI
    by_cases h : j < i
    · rw [if_pos h]
      obtain ⟨h1, h2⟩ := leastI_ok r j
      refine ⟨List.mem_cons_of_mem _ h1, fun y hy => ?_⟩
      rcases List.mem_cons.mp hy with e | hy
      · subst e
        have := h2 j List.mem_cons_self
        omega
      · exact h2 y hy
    · rw [if_neg h]
      obtain ⟨h1, h2⟩ := leastI_ok r i
      refine ⟨?_, fun y hy => ?_⟩
      · rcases List.mem_cons.mp h1 with e | h1
        · rw [e]; exact List.mem_cons_self
        · exact List.mem_cons_of_mem _ (List.mem_cons_of_mem _ h1)
      · rcases List.mem_cons.mp hy with e | hy
        · subst e; exact h2 y List.mem_cons_self
        · rcases List.mem_cons.mp hy with e | hy
          · subst e
            have := h2 i List.mem_cons_self
            omega
          · exact h2 y (List.mem_cons_of_mem _ hy)
theorem mostI_ok : ∀ (is : List Int) (i : Int), mostI i is ∈ i :: is ∧ ∀ y ∈ i :: is, y ≤ mostI i is
  | [], i => ⟨List.mem_cons_self, fun y hy => by rw [List.mem_singleton.mp hy]; exact Int.le_refl _⟩
  | j :: r, i => by
    unfold mostI
    by_cases h : j > i
    · rw [if_pos h]
      obtain ⟨h1, h2⟩ := mostI_ok r j
      refine ⟨List.mem_cons_of_mem _ h1, fun y hy => ?_⟩
      rcases List.mem_cons.mp hy with e | hy
      · subst e
        have := h2 j List.mem_cons_self
        omega
      · exact h2 y hy
    · rw [if_neg h]
      obtain ⟨h1, h2⟩ := mostI_ok r i
      refine ⟨?_, fun y hy => ?_⟩
      · rcases List.mem_cons.mp h1 with e | h1
        · rw [e]; exact List.mem_cons_self
        · exact List.mem_cons_of_mem _ (List.mem_cons_of_mem _ h1)
      · rcases List.mem_cons.mp hy with e | hy
        · subst e; exact h2 y List.mem_cons_self
        · rcases List.mem_cons.mp hy with e | hy
          · subst e
            have := h2 i List.mem_cons_self
            omega
          · exact h2 y (List.mem_cons_of_mem _ hy)
theorem bi_min1 : BiS Z (apBi .min1) (rMin Z.K) := by
  intro w xs vs σ Q ok r p
  unfold apBi at p
  simp only at p
  split at p
  · rename_i v
    obtain ⟨V, rfl, rv⟩ := r.one
    split at p
    · rename_i xs e
      obtain ⟨a, us, rfl, hs, rs⟩ := lstOf_sq ok rv e
      split at p
      · rename_i i is q
        rw [intsOf_eq q] at rs
        rw [rs.ints] at hs
        refine ⟨a, i :: is, rfl, hs, by simp, fun m hm hl => ?_⟩
        obtain ⟨h1, h2⟩ := leastI_ok is i
        have : m = leastI i is := by have a1 := hl _ h1; have a2 := h2 _ hm; omega
        rw [this]
        exact p.here ok (.of (.int _))
      · exact p.elim
    · exact p.elim
  · exact p.elim
theorem bi_max1 : BiS Z (apBi .max1) (rMax Z.K) := by
  intro w xs vs σ Q ok r p
  unfold apBi at p
  simp only at p
  split at p
  · rename_i v
    obtain ⟨V, rfl, rv⟩ := r.one
    split at p
    · rename_i xs e
      obtain ⟨a, us, rfl, hs, rs⟩ := lstOf_sq ok rv e
      split at p
      · rename_i i is q
        rw [intsOf_eq q] at rs
        rw [rs.ints] at hs
        refine ⟨a, i :: is, rfl, hs, by simp, fun m hm hl => ?_⟩
        obtain ⟨h1, h2⟩ := mostI_ok is i
        have : m = mostI i is := by have a1 := hl _ h1; have a2 := h2 _ hm; omega
        rw [this]
        exact p.here ok (.of (.int _))
      · exact p.elim
    · exact p.elim
  · exact p.elim
theorem bi_divmod : BiS Z (apBi .divmod) (fun xs H Q => ∃ i j, xs = [.int i, .int j] ∧ CDiv i j ∧ ∀ p, H p = none → Q (.ref p) (upd H p (.tup [.int (i / j), .int (i % j)]))) := by
  intro w xs vs σ Q ok r p
  simp only [apBi] at p
  split at p
  · obtain ⟨v, u, rfl, rv, ru⟩ := r.two
    cases rv.int_inv; cases ru.int_inv
    split at p
    · rename_i hl
      exact ⟨_, _, rfl, hl, fun q n => fresh_tup ok (.cons (.int _) (.cons (.int _) .nil)) p q n⟩
    · exact p.elim
  · exact p.elim

/-! ### isinstance -/
def tyStr : Ty → String
  | .int => "int" | .bool => "bool" | .str => "str" | .tuple => "tuple" | .list => "list"
theorem isTy_ok {w : Wd} {t : Ty} {x : PV} {v : V} {k : Bool} (ok : Ok Z.K w) (r : Rv Z.K w x v) (e : isTy w.h t x = some k) : ∃ n, TyX Z.K w.H v (.type n) ∧ kitB n (tyStr t) = some k := by
  cases x with
  | non => cases r.non_inv; refine ⟨_, .base .non, ?_⟩; cases t <;> simp only [isTy, Option.some.injEq] at e <;> subst e <;> decide +kernel
  | bl b => cases r.bl_inv; refine ⟨_, .base (.bl b), ?_⟩; cases t <;> simp only [isTy, Option.some.injEq] at e <;> subst e <;> decide +kernel
  | int i => cases r.int_inv; refine ⟨_, .base (.int i), ?_⟩; cases t <;> simp only [isTy, Option.some.injEq] at e <;> subst e <;> decide +kernel
  | str s => obtain ⟨rfl, _⟩ := r.str_inv; refine ⟨_, .base (.str _), ?_⟩; cases t <;> simp only [isTy, Option.some.injEq] at e <;> subst e <;> decide +kernel
  | tup xs =>
    have h2 : kitB "tuple" (tyStr t) = some k := by cases t <;> simp only [isTy, Option.some.injEq] at e <;> subst e <;> decide +kernel
    cases r with
    | tup h rr =>
      rcases h with ⟨h, _⟩ | ⟨o, its, n, h1, hc, _⟩
      · exact ⟨_, .base (.tup h), h2⟩
      · exact ⟨_, .kTuple h1 hc, h2⟩
  | lst xs =>
    have h2 : kitB "list" (tyStr t) = some k := by cases t <;> simp only [isTy, Option.some.injEq] at e <;> subst e <;> decide +kernel
    cases r with
    | lst h f rr => exact ⟨_, .base (.lst h), h2⟩
  | frz xs =>
    have h2 : kitB "list" (tyStr t) = some k := by cases t <;> simp only [isTy, Option.some.injEq] at e <;> subst e <;> decide +kernel
    cases r with
    | frz h rr =>
      rcases h with ⟨⟨o, h⟩, _⟩ | ⟨o, its, n, h1, hc, _⟩
      · exact ⟨_, .base (.frz h), h2⟩
      · exact ⟨_, .kList h1 hc, h2⟩
  | loc n =>
    cases q : obAt w.h n with
    | gone => cases t <;> simp [isTy, q] at e
    | lst xs =>
      have h2 : kitB "list" (tyStr t) = some k := by cases t <;> simp only [isTy, q, Option.some.injEq] at e <;> subst e <;> decide +kernel
      obtain ⟨vs, h, _⟩ := ok.at_ n xs q
      rw [r.2]
      exact ⟨_, .base (.lst h), h2⟩
theorem s_isi {t : Ty} {T : Str} {x : Str} {p p3 : Pos} (hK : X.K = Z.K) (ha : PE X a (tE Z ra)) (hT : PE X b (tC (.ty (tyStr t)))) (hb : PE X e (tCB (rIsi X.K) (tCons (tE Z ra) (tCons (tC (.ty (tyStr t))) tNil)))) :
    PE X e (tE Z fun σ h => argsR (consR (ra σ h) fun h => .ok [] h) (apBi (.isi t))) := hb.imp fun σ H Q ⟨w, st, e, ok, rS, p⟩ => by
  subst e
  refine ⟨w, st, rfl, ok, rS, ?_⟩
  cases q : ra st w.h with
  | no => simp only [argsR, consR, q] at p; exact p.elim
  | ex c fs h1 => simp only [argsR, consR, q] at p; exact p
  | ok x h1 =>
    simp only [argsR, consR, q, apBi] at p
    intro w1 V l1 e1 ok1 r1
    subst e1
    cases q2 : isTy w1.h t x with
    | none => simp only [q2] at p; exact p.elim
    | some k =>
      simp only [q2] at p
      obtain ⟨n, h1, h2⟩ := isTy_ok ok1 r1 q2
      exact ⟨V, .ty (tyStr t), .type n, .type (tyStr t), k, rfl, .ty _, by rw [hK]; exact h1, kit_ty h2, p.at_ l1 rfl ok1 (.of (.bl _))⟩

/-! ### subscripts -/
theorem ixN_of (n k : Nat) : L2.ixN n (Int.ofNat k) = if k < n then some k else none := by
  unfold L2.ixN
  rw [if_pos (show (0 : Int) ≤ Int.ofNat k from Int.natCast_nonneg k)]
  by_cases h : k < n
  · rw [if_pos h, if_pos (show Int.ofNat k < (n : Int) from Int.ofNat_lt.mpr h)]; rfl
  · rw [if_neg h, if_neg (show ¬ Int.ofNat k < (n : Int) from fun z => h (Int.ofNat_lt.mp z))]
theorem ixN_neg (n k : Nat) : L2.ixN n (Int.negSucc k) = if k < n then some (n - (k + 1)) else none := by
  have e : Int.negSucc k = -((k : Int) + 1) := rfl
  unfold L2.ixN
  rw [if_neg (show ¬ (0 : Int) ≤ Int.negSucc k by rw [e]; omega)]
  by_cases h : k < n
  · rw [if_pos h, if_pos (show -(n : Int) ≤ Int.negSucc k by rw [e]; omega)]
    congr 1
    rw [e]; omega
  · rw [if_neg h, if_neg (show ¬ -(n : Int) ≤ Int.negSucc k by rw [e]; omega)]
theorem ixN_eq (n : Nat) (i : Int) : Mi.ixN n i = L2.ixN n i := by
  cases i with
  | ofNat k => exact (ixN_of n k).symm
  | negSucc k => exact (ixN_neg n k).symm
theorem atI_eq {α : Type} (xs : List α) (i : Int) : Mi.atI xs i = L2.atI xs i := by
  cases i with
  | ofNat k =>
    show xs[k]? = (L2.ixN xs.length (Int.ofNat k)).bind fun j => xs[j]?
    rw [ixN_of]
    by_cases h : k < xs.length
    · rw [if_pos h]; rfl
    · rw [if_neg h, List.getElem?_eq_none (Nat.le_of_not_lt h)]; rfl
  | negSucc k =>
    show (if k < xs.length then xs[xs.length - (k + 1)]? else none) = (L2.ixN xs.length (Int.negSucc k)).bind fun j => xs[j]?
    rw [ixN_neg]
    by_cases h : k < xs.length
    · rw [if_pos h, if_pos h]; rfl
    · rw [if_neg h, if_neg h]; rfl
theorem atI_mem {α : Type} {xs : List α} {i : Int} {x : α} (e : Mi.atI xs i = some x) : x ∈ xs := by
  cases i with
  | ofNat k => exact List.mem_of_getElem? e
  | negSucc k =>
    simp only [Mi.atI] at e
    split at e
    · exact List.mem_of_getElem? e
    · cases e
theorem atI_rps {w : Wd} {xs : List PV} {vs : List V} {i : Int} {x : PV} (r : Rps Z.K w xs vs) (e : Mi.atI xs i = some x) : ∃ v, L2.atI vs i = some v ∧ Rp Z.K w x v := by
  rw [← atI_eq]
  cases i with
  | ofNat k => exact r.get e
  | negSucc k =>
    simp only [Mi.atI] at e ⊢
    rw [← r.length]
    by_cases h : k < xs.length
    · rw [if_pos h] at e ⊢
      exact r.get e
    · rw [if_neg h] at e; cases e
theorem opS_ix : OpS Z apIx (rIx Z.K) := by
  intro w x y V U σ Q ok rx ry p
  unfold apIx at p
  split at p
  · cases ry.int_inv
    split at p
    · obtain ⟨rfl, o⟩ := rx.str_inv
      split at p
      · rename_i c e
        refine .inr (.inr ⟨_, _, c, rfl, rfl, by rw [toStr_length, ← line_eq]; exact o.ln, by rw [← atI_eq]; simpa [toStr] using e, ?_⟩)
        have hm : c < 1114112 := o.cp c (atI_mem e)
        exact p.here ok (.of (.str [c] ⟨fun d hd => by rw [List.mem_singleton.mp hd]; exact hm, by show 1 ≤ line; decide⟩))
      · exact p.elim
    · split at p
      · rename_i ys e
        obtain ⟨a, us, rfl, h, rr⟩ := seqOf_sq ok rx e
        split at p
        · rename_i v e2
          obtain ⟨u, h1, h2⟩ := atI_rps rr e2
          rcases h with h | h
          · exact .inl ⟨a, us, _, u, rfl, rfl, h, h1, p.here ok (.of h2)⟩
          · exact .inr (.inl ⟨a, us, _, u, rfl, rfl, h, h1, p.here ok (.of h2)⟩)
        · exact p.elim
      · exact p.elim
  · exact p.elim
end
end Mi

/-! Mi6: slices, stores, methods, ranges, targets. -/
namespace Mi
open PySem L2 PySem.Spec PyProof.Rows
variable {Z : Zc}
section
variable {X : Cx} {a b c e o i : Expr} {es : List Expr} {ra rb rc ro ri : Sl → List Ob → R PV} {rs rs2 : Sl → List Ob → R (List PV)} {pos p2 : Pos}

/-! ### slices -/
def tO (Z : Zc) (r : Sl → List Ob → R (Option Int)) : TO := fun σ H Q => ∃ w st, w.H = H ∧ Ok Z.K w ∧ RelS Z.K w st σ ∧ Po Z (fun _ (a b : Option Int) => a = b) w σ (r st w.h) Q
theorem o_none : PO X none (tO Z fun _ h => bndR (.ok [] h)) := ⟨fun pins s σ H Q I ⟨w, st, e, ok, rs, p⟩ => po_none.run pins s σ H Q I (by
  subst e
  exact p.here ok rfl)⟩
theorem o_some (ha : PE X a (tE Z ra)) : PO X (some a) (tO Z fun σ h => bndR (consR (ra σ h) fun h => .ok [] h)) := ⟨fun pins s σ H Q I ⟨w, st, e, ok, rs, p⟩ => (po_some ha).run pins s σ H Q I (by
  subst e
  refine ⟨w, st, rfl, ok, rs, ?_⟩
  cases q : ra st w.h with
  | no => simp only [bndR, consR, q] at p; exact p.elim
  | ex c fs h1 => simp only [bndR, consR, q] at p; exact p
  | ok x h1 =>
    simp only [bndR, consR, q] at p
    intro w1 V l1 e1 ok1 r1
    cases x <;> simp only [bound] at p <;> try exact p.elim
    cases r1.int_inv
    exact ⟨_, rfl, p.at_ l1 e1 ok1 rfl⟩)⟩
theorem sIx_eq (n d : Nat) (o : Option Int) : Mi.slIx n d o = HT.sIx n d o := by
  cases o with
  | none => rfl
  | some v =>
    cases v with
    | ofNat k =>
      show (if k ≤ n then k else n) = if Int.ofNat k < 0 then (Int.ofNat k + (n : Int)).toNat else min (Int.ofNat k).toNat n
      rw [if_neg (show ¬ Int.ofNat k < 0 by have : Int.ofNat k = (k : Int) := rfl; omega)]
      show _ = min k n
      by_cases h : k ≤ n
      · rw [if_pos h]; omega
      · rw [if_neg h]; omega
    | negSucc k =>
      have e : Int.negSucc k = -((k : Int) + 1) := rfl
      show n - (k + 1) = if Int.negSucc k < 0 then (Int.negSucc k + (n : Int)).toNat else min (Int.negSucc k).toNat n
      rw [if_pos (show Int.negSucc k < 0 by rw [e]; omega), e]
      omega
theorem cut_rps {w : Wd} {xs : List PV} {vs : List V} (r : Rps Z.K w xs vs) (lo hi : Option Int) : Rps Z.K w (cut xs lo hi) (cutV vs lo hi) := by
  unfold cut cutV
  rw [sIx_eq, sIx_eq, r.length]
  exact (r.drop _).take _
theorem cut_str (s : List Nat) (lo hi : Option Int) : cutS (toStr s) lo hi = toStr (cut s lo hi) := by
  unfold cutS cut
  rw [sIx_eq, sIx_eq, toStr_length]
  rfl
theorem SOk.cut {s : List Nat} (o : SOk s) (lo hi : Option Int) : SOk (Mi.cut s lo hi) := ⟨fun c hc => o.cp c (List.mem_of_mem_drop (List.mem_of_mem_take hc)), by
  have := o.ln
  unfold Mi.cut
  rw [List.length_take, List.length_drop]
  omega⟩
def rSlAll (K : PySem.W.Frag) : V → Option Int → Option Int → Hp → VK → Prop := fun x lo hi H Q => rSlL K x lo hi H Q ∨ rSlA K x lo hi H Q ∨ rSlS x lo hi H Q
theorem sl_all : SlR X (rSlAll X.K) := sl_list.or (sl_tupA.or sl_str)
def slR (x : R PV) (lo hi : List Ob → R (Option Int)) (m : Bool) : R PV := match x with
  | .ok x h1 => match lo h1 with
    | .ok y h2 => match hi h2 with
      | .ok z h3 => apSl m x y z h3
      | .ex c fs h3 => .ex c fs h3
      | .no => .no
    | .ex c fs h2 => .ex c fs h2
    | .no => .no
  | .ex c fs h1 => .ex c fs h1
  | .no => .no
theorem sl_val {w : Wd} {m : Bool} {x : PV} {V : L2.V} {l u : Option Int} {σ : L2.St} {Q : VK} (ok : Ok Z.K w) (rx : Rv Z.K w x V) (p : PoE Z w σ (apSl m x l u w.h) Q) : rSlAll Z.K V l u w.H Q := by
  unfold apSl at p
  split at p
  · obtain ⟨rfl, o⟩ := rx.str_inv
    refine .inr (.inr ⟨_, rfl, by rw [toStr_length, ← line_eq]; exact o.ln, ?_⟩)
    rw [cut_str]
    exact p.here ok (.of (.str _ (o.cut l u)))
  · rename_i xs
    obtain ⟨a, vs, rfl, h, r⟩ := tup_sq rx
    refine .inr (.inl ⟨a, vs, rfl, h, fun ⟨h1, h2⟩ => ?_, fun _ q n => fresh_tup ok (cut_rps r l u) p q n⟩)
    have e : cut xs l u = xs := by
      unfold cut
      rw [sIx_eq, sIx_eq, r.length, h1, h2, List.drop_zero, Nat.sub_zero, ← r.length, List.take_length]
    rw [e] at p
    exact p.here ok rx
  · split at p
    · rename_i xs e
      obtain ⟨a, vs, rfl, h, r⟩ := lstOf_sq ok rx e
      exact .inl ⟨a, vs, rfl, h, fun q n => fresh_mkL ok (cut_rps r l u) p q n⟩
    · exact p.elim
theorem s_sl {lo hi : Option Expr} {rl rh : Sl → List Ob → R (Option Int)} (m : Bool) (hK : X.K = Z.K) (ha : PE X a (tE Z ra)) (hl : PO X lo (tO Z rl)) (hh : PO X hi (tO Z rh)) :
    PE X (.Subscript a (.Slice lo hi none p2) pos) (tE Z fun σ h => slR (ra σ h) (rl σ) (rh σ) m) :=
  (pe_slice sl_all ha hl hh).imp fun σ H Q ⟨w, st, e, ok, rS, p⟩ => by
    subst e
    refine ⟨w, st, rfl, ok, rS, ?_⟩
    cases q : ra st w.h with
    | no => simp only [slR, q] at p; exact p.elim
    | ex c fs h1 => simp only [slR, q] at p; exact p
    | ok x h1 =>
      simp only [slR, q] at p
      intro w1 V l1 e1 ok1 r1
      refine ⟨w1, st, rfl, ok1, rS.mono l1, ?_⟩
      rw [e1]
      cases q2 : rl st h1 with
      | no => simp only [q2] at p; exact p.elim
      | ex c fs h2 => simp only [q2] at p; exact Po.up l1 p
      | ok l h2 =>
        simp only [q2] at p
        intro w2 l' l2 e2 ok2 r2
        subst r2
        refine ⟨w2, st, rfl, ok2, rS.mono (l1.trans l2), ?_⟩
        rw [e2]
        cases q3 : rh st h2 with
        | no => simp only [q3] at p; exact p.elim
        | ex c fs h3 => simp only [q3] at p; exact Po.up (l1.trans l2) p
        | ok u h3 =>
          simp only [q3] at p
          intro w3 u' l3 e3 ok3 r3
          subst r3
          rw [hK]
          refine sl_val (m := m) (σ := σ) ok3 (r1.mono (l2.trans l3)) ?_
          rw [e3]
          exact Po.up ((l1.trans l2).trans l3) p

/-! ### a list no longer changed -/
def fzR (x : R PV) : R PV := match x with
  | .ok (.loc n) h1 => match obAt h1 n with
    | .lst xs => .ok (.lst xs) (obSet h1 n .gone)
    | .gone => .no
  | r => r
theorem s_fz (ha : PE X a (tE Z ra)) : PE X a (tE Z fun σ h => fzR (ra σ h)) := ha.imp fun σ H Q ⟨w, st, e, ok, rS, p⟩ => by
  subst e
  refine ⟨w, st, rfl, ok, rS, ?_⟩
  cases q : ra st w.h with
  | no => simp only [fzR, q] at p; exact p
  | ex c fs h1 => simp only [fzR, q] at p; exact p
  | ok x h1 =>
    intro w1 V l1 e1 ok1 r1
    have p' : PoE Z w σ (fzR (.ok x h1)) Q := by rw [← q]; exact p
    cases x with
    | loc n =>
      unfold fzR at p'
      simp only at p'
      cases q2 : obAt h1 n with
      | gone => rw [q2] at p'; exact p'.elim
      | lst xs =>
        rw [q2] at p'
        subst e1
        obtain ⟨vs, h2, h3⟩ := ok1.at_ n xs q2
        refine p' (drp w1 n) V (l1.trans (drp_le n)) rfl (drp_ok ok1 n) ?_
        rw [r1.2]
        exact .of (.lst h2 (drp_fz ok1 q2) (h3.mono (drp_le n)))
    | _ => exact p' w1 V l1 e1 ok1 r1

/-! ### o[i] = v, append -/
theorem set_lst_val {w : Wd} {o i v : PV} {O I U : L2.V} {h' : List Ob} {Q : Hp → Prop} (ok : Ok Z.K w) (ro : Rv Z.K w o O) (ri : Rv Z.K w i I) (rv : Rv Z.K w v U) (e : setIx o i v w.h = some h')
    (q : ∀ w', Le w w' → w'.h = h' → Ok Z.K w' → Q w'.H) : rSetL O I U w.H Q := by
  unfold setIx at e
  split at e
  · rename_i n k
    cases ri.int_inv
    split at e
    · rename_i xs hx
      split at e
      · rename_i j hj hd
        cases e
        obtain ⟨vs, h1, h2⟩ := ok.at_ n xs hx
        have r' := rv.data hd
        refine ⟨w.ρ n, vs, k, j, ro.2, rfl, h1, by rw [← h2.length, ← ixN_eq]; exact hj, ?_⟩
        exact q (chg w n (xs.set j v) (vs.set j U)) (chg_le _ hx) rfl (chg_ok ok hx (h2.set r' j))
      · cases e
    · cases e
  · cases e
/-- a method of a built-in type: its object's type, what it does -/
structure MeS (Z : Zc) (k : Me) (T : String) (r : V → List V → Hp → VK → Prop) : Prop where
  ty : ∀ {w : Wd} {x : PV} {U : L2.V}, Ok Z.K w → Rv Z.K w x U → meTy k x w.h = true → tyV Z.K T U w.H
  ap : ∀ {w : Wd} {x : PV} {U : L2.V} {xs : List PV} {us : List L2.V} {σ : L2.St} {Q : VK}, Ok Z.K w → Rv Z.K w x U → Rvs Z.K w xs us → PoE Z w σ (apMe k x xs w.h) Q → r U us w.H Q
theorem s_me {k : Me} {T : String} {r : V → List V → Hp → VK → Prop} {rs : Sl → List Ob → R (List PV)} (M : MeS Z k T r) (hK : X.K = Z.K) (h : PE X e (tBM X.K T r (tE Z ro) (tA Z rs))) :
    PE X e (tE Z fun σ h => match ro σ h with
      | .ok x h1 => match meTy k x h1 with
        | true => match rs σ h1 with
          | .ok vs h2 => apMe k x vs h2
          | .ex c fs h2 => .ex c fs h2
          | .no => .no
        | false => .no
      | .ex c fs h1 => .ex c fs h1
      | .no => .no) := h.imp fun σ H Q ⟨w, st, e, ok, rS, p⟩ => by
  subst e
  refine ⟨w, st, rfl, ok, rS, ?_⟩
  cases q : ro st w.h with
  | no => simp only [q] at p; exact p.elim
  | ex c fs h1 => simp only [q] at p; exact p
  | ok x h1 =>
    simp only [q] at p
    intro w1 U l1 e1 ok1 r1
    subst e1
    cases q0 : meTy k x w1.h with
    | false => simp only [q0] at p; exact p.elim
    | true =>
      simp only [q0] at p
      refine ⟨by rw [hK]; exact M.ty ok1 r1 q0, w1, st, rfl, ok1, rS.mono l1, ?_⟩
      cases q2 : rs st w1.h with
      | no => simp only [q2] at p; exact p.elim
      | ex c fs h2 => simp only [q2] at p; exact Po.up l1 p
      | ok vs h2 =>
        simp only [q2] at p
        intro w2 us l2 e2 ok2 r2
        subst e2
        exact M.ap ok2 (r1.mono l2) r2 (Po.up (l1.trans l2) p)
theorem s_me0 {k : Me} {T : String} {r : V → List V → Hp → VK → Prop} (M : MeS Z k T r) (hK : X.K = Z.K) (h : PE X e (tBM0 X.K T r (tE Z ro))) :
    PE X e (tE Z fun σ h => match ro σ h with
      | .ok x h1 => match meTy k x h1 with
        | true => match (R.ok [] h1 : R (List PV)) with
          | .ok vs h2 => apMe k x vs h2
          | .ex c fs h2 => .ex c fs h2
          | .no => .no
        | false => .no
      | .ex c fs h1 => .ex c fs h1
      | .no => .no) := h.imp fun σ H Q ⟨w, st, e, ok, rS, p⟩ => by
  subst e
  refine ⟨w, st, rfl, ok, rS, ?_⟩
  cases q : ro st w.h with
  | no => simp only [q] at p; exact p.elim
  | ex c fs h1 => simp only [q] at p; exact p
  | ok x h1 =>
    simp only [q] at p
    intro w1 U l1 e1 ok1 r1
    subst e1
    cases q0 : meTy k x w1.h with
    | false => simp only [q0] at p; exact p.elim
    | true =>
      simp only [q0] at p
      exact ⟨by rw [hK]; exact M.ty ok1 r1 q0, M.ap ok1 r1 .nil (Po.up l1 p)⟩
theorem me_upper : MeS Z .upper "str" (fun x xs H Q => ∃ a, x = .str a ∧ xs = [] ∧ a.length ≤ 5592405 ∧ Q (.str (Txt.upper a)) H) where
  ty := fun {w x U} ok r q0 => by
    cases x <;> simp only [meTy, reduceCtorEq] at q0
    rw [r.str_inv.1]
    rfl
  ap := fun {w x U xs us σ Q} ok r rs p => by
    unfold apMe at p
    simp only at p
    split at p
    · rename_i s
      cases rs
      obtain ⟨rfl, os⟩ := r.str_inv
      split at p
      · rename_i hc
        obtain ⟨c1, c2⟩ := (Bool.and_eq_true _ _).mp hc
        have c2' : s.length ≤ 1000 := of_decide_eq_true c2
        refine ⟨_, rfl, rfl, by rw [toStr_length]; omega, ?_⟩
        rw [upper_eq c1]
        exact p.here ok (.of (.str _ ⟨upT_cp c1, by rw [upT_len]; show _ ≤ 16777216; omega⟩))
      · exact p.elim
    · exact p.elim
/-! ### a[::-1], f-strings -/
def revR (m : Bool) (x : R PV) : R PV := match x with
  | .ok x h1 => apRev m x h1
  | .ex c fs h1 => .ex c fs h1
  | .no => .no
theorem Rps.rev {w : Wd} : ∀ {xs : List PV} {vs : List V}, Rps Z.K w xs vs → Rps Z.K w xs.reverse vs.reverse
  | _, _, .nil => .nil
  | _, _, .cons h r => by rw [List.reverse_cons, List.reverse_cons]; exact (Rps.rev r).append (.cons h .nil)
theorem s_rev {k : Nat} {p1 p2 p3 : Pos} (m : Bool) (hK : X.K = Z.K) (ha : PE X a (tE Z ra)) : PE X (.Subscript a (.Slice none none (some (.UnaryOp .USub (.Constant (.int 1) k p1) p2)) p3) pos) (tE Z fun σ h => revR m (ra σ h)) :=
  (pe_revL ha).imp fun σ H Q ⟨w, st, e, ok, rS, p⟩ => by
    subst e
    refine ⟨w, st, rfl, ok, rS, ?_⟩
    cases q : ra st w.h with
    | no => simp only [revR, q] at p; exact p.elim
    | ex c fs h1 => simp only [revR, q] at p; exact p
    | ok x h1 =>
      simp only [revR, q] at p
      intro w1 V l1 e1 ok1 r1
      subst e1
      unfold apRev at p
      cases q2 : lstOf w1.h x with
      | none => rw [q2] at p; exact p.elim
      | some xs =>
        rw [q2] at p
        obtain ⟨ad, vs, rfl, h, r⟩ := lstOf_sq ok1 r1 q2
        rw [hK]
        exact ⟨ad, vs, rfl, h, fun q n => fresh_mkL ok1 r.rev (Po.up l1 p) q n⟩
def fmtR (x : R PV) : R PV := match x with
  | .ok x h1 => match fmtV x with | some s => .ok (.str s) h1 | none => .no
  | .ex c fs h1 => .ex c fs h1
  | .no => .no
theorem s_fmt (ha : PE X a (tE Z ra)) : PE X (.FormattedValue a (-1) none pos) (tE Z fun σ h => fmtR (ra σ h)) := (pe_fmt ha).imp fun σ H Q ⟨w, st, e, ok, rS, p⟩ => by
  subst e
  refine ⟨w, st, rfl, ok, rS, ?_⟩
  cases q : ra st w.h with
  | no => simp only [fmtR, q] at p; exact p.elim
  | ex c fs h1 => simp only [fmtR, q] at p; exact p
  | ok x h1 =>
    simp only [fmtR, q] at p
    intro w1 V l1 e1 ok1 r1
    subst e1
    cases q2 : fmtV x with
    | none => rw [q2] at p; exact p.elim
    | some s =>
      rw [q2] at p
      obtain ⟨o, h⟩ := fmtV_of r1 q2
      have q3 := p.at_ l1 rfl ok1 (.of (.str _ o))
      rcases h with ⟨rfl, rfl⟩ | ⟨i, rfl, rfl, hl, es⟩
      · exact .inl ⟨_, rfl, by rw [toStr_length, ← line_eq]; exact o.ln, q3⟩
      · refine .inr ⟨_, rfl, hl, ?_⟩
        show Q (.str (Str.ofString (toString i))) _
        rw [es]; exact q3
/-- the pieces, one behind another -/
def fsL : List (Sl → List Ob → R PV) → Sl → List Nat → List Ob → R PV
  | [], _, acc, h => .ok (.str acc) h
  | r :: rs, σ, acc, h => match r σ h with
    | .ok x h1 => match x with
      | .str s => if acc.length + s.length ≤ line then fsL rs σ (acc ++ s) h1 else .no
      | _ => .no
    | .ex c fs h1 => .ex c fs h1
    | .no => .no
theorem fs_core : ∀ (rs : List (Sl → List Ob → R PV)) {acc : List Nat} {σ : L2.St} {Q : VK} {w : Wd} {st : Sl}, Ok Z.K w → RelS Z.K w st σ → SOk acc → PoE Z w σ (fsL rs st acc w.h) Q →
    tJs (rs.map (tE Z)) (toStr acc) σ w.H fun out H1 => Q (.str out) H1
  | [], acc, σ, Q, w, st, ok, rS, o, p => p.here ok (.of (.str _ o))
  | r :: rs, acc, σ, Q, w, st, ok, rS, o, p => by
    refine ⟨w, st, rfl, ok, rS, ?_⟩
    have p' : PoE Z w σ (match r st w.h with
      | .ok x h1 => match x with
        | .str s => if acc.length + s.length ≤ line then fsL rs st (acc ++ s) h1 else .no
        | _ => .no
      | .ex c fs h1 => .ex c fs h1
      | .no => .no) Q := p
    cases q : r st w.h with
    | no => rw [q] at p'; exact p'.elim
    | ex c fs h1 => rw [q] at p'; exact p'
    | ok x h1 =>
      rw [q] at p'
      intro w1 V l1 e1 ok1 r1
      subst e1
      cases x <;> simp only at p' <;> try exact p'.elim
      rename_i s
      obtain ⟨rfl, os⟩ := r1.str_inv
      by_cases hl : acc.length + s.length ≤ line
      · rw [if_pos hl] at p'
        refine ⟨_, rfl, ?_, ?_⟩
        · rw [toStr_app, toStr_length, List.length_append, ← line_eq]; exact hl
        · rw [toStr_app]
          exact fs_core rs ok1 (rS.mono l1) (o.app os hl) (Po.up l1 p')
      · rw [if_neg hl] at p'; exact p'.elim
theorem sok_nil : SOk [] := ⟨fun c hc => (by cases hc), Nat.zero_le _⟩
theorem s_fs {v1 v2 : Expr} {rest : List Expr} {rs : List (Sl → List Ob → R PV)} (h : PJ X (v1 :: v2 :: rest) (rs.map (tE Z))) : PE X (.JoinedStr (v1 :: v2 :: rest) pos) (tE Z fun σ h => fsL rs σ [] h) := (pe_joined h).imp fun σ H Q ⟨w, st, e, ok, rS, p⟩ => by
  subst e
  exact fs_core rs ok rS sok_nil p
theorem s_fs1 {r : Sl → List Ob → R PV} (h : PE X a (tE Z r)) : PE X (.JoinedStr [a] pos) (tE Z fun σ h => fsL [r] σ [] h) := (pe_joined1 h).imp fun σ H Q ⟨w, st, e, ok, rS, p⟩ => by
  subst e
  refine ⟨w, st, rfl, ok, rS, ?_⟩
  have p' : PoE Z w σ (match r st w.h with
      | .ok x h1 => match x with
        | .str s => if ([] : List Nat).length + s.length ≤ line then fsL [] st ([] ++ s) h1 else .no
        | _ => .no
      | .ex c fs h1 => .ex c fs h1
      | .no => .no) Q := p
  cases q : r st w.h with
  | no => rw [q] at p'; exact p'.elim
  | ex c fs h1 => rw [q] at p'; exact p'
  | ok x h1 =>
    rw [q] at p'
    intro w1 V l1 e1 ok1 r1
    cases x <;> simp only at p' <;> try exact p'.elim
    split at p'
    · exact p'.at_ l1 e1 ok1 r1
    · exact p'.elim
theorem me_append : MeS Z .append "list" rAppend where
  ty := fun {w x U} ok r q0 => by
    cases x <;> simp only [meTy, reduceCtorEq] at q0
    rename_i n
    cases z : obAt w.h n with
    | gone => simp [z] at q0
    | lst xs =>
      obtain ⟨vs0, hh, _⟩ := ok.at_ n xs z
      rw [r.2]
      exact .inl ⟨rfl, vs0, .of hh⟩
  ap := fun {w x U xs us σ Q} ok r rs p => by
    unfold apMe at p
    simp only at p
    split at p
    · rename_i n v
      obtain ⟨u, rfl, ru⟩ := rs.one
      split at p
      · rename_i ys hy
        split at p
        · rename_i hd
          split at p
          · rename_i hl
            obtain ⟨vs, g1, g2⟩ := ok.at_ n ys hy
            refine ⟨w.ρ n, vs, u, r.2, rfl, g1, by rw [← g2.length, ← line_eq]; exact hl, ?_⟩
            exact p.at_ (chg_le (xs := ys ++ [v]) (vs ++ [u]) hy) rfl (chg_ok ok hy (g2.append (.cons (ru.data hd) .nil))) (.of .non)
          · exact p.elim
        · exact p.elim
      · exact p.elim
    · exact p.elim
theorem strsOf_eq : ∀ {xs : List PV} {ss : List (List Nat)}, strsOf xs = some ss → xs = ss.map .str
  | [], ss, e => by simp only [strsOf, Option.some.injEq] at e; subst e; rfl
  | x :: xs, ss, e => by
    unfold strsOf at e
    cases x <;> simp only [reduceCtorEq] at e
    cases q : strsOf xs with
    | none => simp [q] at e
    | some rs =>
      simp only [q, Option.some.injEq] at e
      subst e
      rw [strsOf_eq q]; rfl
theorem Rps.strs {w : Wd} : ∀ {ss : List (List Nat)} {vs : List V}, Rps Z.K w (ss.map .str) vs → vs = (ss.map toStr).map V.str ∧ ∀ s ∈ ss, SOk s
  | [], _, .nil => ⟨rfl, fun s hs => by cases hs⟩
  | s :: ss, _, .cons h r => by
    obtain ⟨e, o⟩ := Rps.strs r
    cases h with
    | str _ os =>
      refine ⟨by rw [e]; rfl, fun t ht => ?_⟩
      rcases List.mem_cons.mp ht with q | ht
      · rw [q]; exact os
      · exact o t ht
theorem lens_eq : ∀ ss : List (List Nat), ((ss.map toStr).map (·.length)).sum = lens ss
  | [] => rfl
  | s :: ss => by rw [List.map_cons, List.map_cons, List.sum_cons, lens_eq ss, toStr_length]; rfl
theorem joinN_eq (sep : List Nat) : ∀ ss : List (List Nat), Str.join (toStr sep) (ss.map toStr) = toStr (joinN sep ss)
  | [] => rfl
  | [s] => rfl
  | s :: t :: r => by
    show toStr s ++ toStr sep ++ Str.join (toStr sep) ((t :: r).map toStr) = _
    rw [joinN_eq sep (t :: r), toStr_app, toStr_app, List.append_assoc]
    rfl
theorem joinN_len (sep : List Nat) : ∀ ss : List (List Nat), (joinN sep ss).length ≤ lens ss + ss.length * sep.length
  | [] => Nat.zero_le _
  | [s] => by show s.length ≤ s.length + 0 + _; omega
  | s :: t :: r => by
    have := joinN_len sep (t :: r)
    show (s ++ (sep ++ joinN sep (t :: r))).length ≤ s.length + lens (t :: r) + ((t :: r).length + 1) * sep.length
    rw [List.length_append, List.length_append, Nat.succ_mul]
    omega
theorem joinN_cp (sep : List Nat) (o : ∀ c ∈ sep, c < 1114112) : ∀ ss : List (List Nat), (∀ s ∈ ss, ∀ c ∈ s, c < 1114112) → ∀ c ∈ joinN sep ss, c < 1114112
  | [], _, c, hc => by cases hc
  | [s], h, c, hc => h s List.mem_cons_self c hc
  | s :: t :: r, h, c, hc => by
    have hc : c ∈ s ++ (sep ++ joinN sep (t :: r)) := hc
    rcases List.mem_append.mp hc with q | q
    · exact h s List.mem_cons_self c q
    · rcases List.mem_append.mp q with q | q
      · exact o c q
      · exact joinN_cp sep o (t :: r) (fun s hs => h s (List.mem_cons_of_mem _ hs)) c q
def rJoinA (K : PySem.W.Frag) : V → List V → Hp → VK → Prop := fun x xs H Q => ∃ a p, ∃ ys : List Str, x = .str a ∧ xs = [.ref p] ∧ (SqL K H p (ys.map V.str) ∨ SqT K H p (ys.map V.str)) ∧ (ys.map (·.length)).sum + ys.length * a.length ≤ 16777216 ∧ Q (.str (Txt.join a ys)) H
theorem me_join : MeS Z .join "str" (rJoinA Z.K) where
  ty := fun {w x U} ok r q0 => by
    cases x <;> simp only [meTy, reduceCtorEq] at q0
    rw [r.str_inv.1]
    rfl
  ap := fun {w x U xs us σ Q} ok r rs p => by
    unfold apMe at p
    simp only at p
    split at p
    · rename_i sep v
      obtain ⟨u, rfl, ru⟩ := rs.one
      obtain ⟨rfl, os⟩ := r.str_inv
      split at p
      · rename_i ys e
        split at p
        · rename_i ss e2
          split at p
          · rename_i hl
            obtain ⟨a, vs, rfl, hs, rr⟩ := seqOf_sq ok ru e
            rw [strsOf_eq e2] at rr
            obtain ⟨rfl, oss⟩ := rr.strs
            refine ⟨toStr sep, a, ss.map toStr, rfl, rfl, hs, by rw [lens_eq, List.length_map, toStr_length]; exact hl, ?_⟩
            have ej : Txt.join (toStr sep) (ss.map toStr) = toStr (joinN sep ss) := (StrLaws.glued_eq_join _ _).trans (joinN_eq sep ss)
            rw [ej]
            exact p.here ok (.of (.str _ ⟨joinN_cp sep os.cp ss fun s hs => (oss s hs).cp, Nat.le_trans (joinN_len sep ss) hl⟩))
          · exact p.elim
        · exact p.elim
      · exact p.elim
    · exact p.elim
open TL in
theorem low256_all : ∀ {s : List Nat}, low256 s = true → (toStr s).cps.all (· < 256) = true := fun {s} h => by
  have key : ∀ s : List Nat, low256 s = true → s.all (· < 256) = true := fun s => by
    induction s with
    | nil => intro _; rfl
    | cons c r ih =>
      intro h
      unfold low256 at h
      split at h
      · rename_i q
        rw [List.all_cons, ih h, Bool.and_true]
        exact decide_eq_true (Nat.le_of_ble_eq_true q)
      · cases h
  have := key s h
  simpa [toStr] using this
open TL in
theorem spl_mem (S : List Nat) : ∀ (l : List Nat) (k : Nat) (acc : List Nat) (p : List Nat), p ∈ spl S k acc l → ∀ c ∈ p, c ∈ acc ∨ c ∈ l
  | [], k, acc, p, hp, c, hc => by
    rw [spl_nil] at hp
    rw [List.mem_singleton.mp hp] at hc
    exact .inl hc
  | d :: r, 0, acc, p, hp, c, hc => by
    rw [spl] at hp
    split at hp
    · rcases List.mem_cons.mp hp with e | hp
      · rw [e] at hc; exact .inl hc
      · rcases spl_mem S r _ _ p hp c hc with q | q
        · cases q
        · exact .inr (List.mem_cons_of_mem _ q)
    · rcases spl_mem S r _ _ p hp c hc with q | q
      · rcases List.mem_append.mp q with q | q
        · exact .inl q
        · rw [List.mem_singleton.mp q]; exact .inr List.mem_cons_self
      · exact .inr (List.mem_cons_of_mem _ q)
  | d :: r, k + 1, acc, p, hp, c, hc => by
    rw [spl] at hp
    rcases spl_mem S r _ _ p hp c hc with q | q
    · exact .inl q
    · exact .inr (List.mem_cons_of_mem _ q)
open TL in
theorem spl_len (S : List Nat) : ∀ (l : List Nat) (k : Nat) (acc : List Nat) (p : List Nat), p ∈ spl S k acc l → p.length ≤ acc.length + l.length
  | [], k, acc, p, hp => by
    rw [spl_nil] at hp
    rw [List.mem_singleton.mp hp]; exact Nat.le_add_right _ _
  | d :: r, 0, acc, p, hp => by
    rw [spl] at hp
    split at hp
    · rcases List.mem_cons.mp hp with e | hp
      · rw [e]; exact Nat.le_add_right _ _
      · have := spl_len S r _ _ p hp
        simp only [List.length_cons, List.length_nil] at this ⊢
        omega
    · have := spl_len S r _ _ p hp
      simp only [List.length_cons, List.length_append, List.length_nil] at this ⊢
      omega
  | d :: r, k + 1, acc, p, hp => by
    rw [spl] at hp
    have := spl_len S r _ _ p hp
    simp only [List.length_cons] at this ⊢
    omega
theorem rps_strs {w : Wd} : ∀ {ss : List (List Nat)}, (∀ s ∈ ss, SOk s) → Rps Z.K w (ss.map .str) ((ss.map toStr).map V.str)
  | [], _ => .nil
  | s :: ss, h => .cons (.str s (h s List.mem_cons_self)) (rps_strs fun t ht => h t (List.mem_cons_of_mem _ ht))
def rSplitA : V → List V → Hp → VK → Prop := fun x xs H Q => ∃ a b, x = .str a ∧ xs = [.str b] ∧ (b.length == 0) = false ∧ a.length + 2 ≤ sizeLine ∧ rNewStrs (Txt.split a b) H Q
open TL in
theorem me_split (m : Bool) : MeS Z (.split m) "str" rSplitA where
  ty := fun {w x U} ok r q0 => by
    cases x <;> simp only [meTy, reduceCtorEq] at q0
    rw [r.str_inv.1]
    rfl
  ap := fun {w x U xs us σ Q} ok r rs p => by
    unfold apMe at p
    simp only at p
    split at p
    · rename_i s S
      obtain ⟨u, rfl, ru⟩ := rs.one
      obtain ⟨rfl, os⟩ := r.str_inv
      obtain ⟨rfl, oS⟩ := ru.str_inv
      split at p
      · rename_i hc
        simp only [Bool.and_eq_true, decide_eq_true_eq] at hc
        obtain ⟨⟨c1, c2⟩, c3⟩ := hc
        have hne : S ≠ [] := by intro e; subst e; cases c1
        have tS : tl (toStr S) = S := rfl
        have ts : tl (toStr s) = s := rfl
        have e : (Txt.split (toStr s) (toStr S)).map tl = spl S 0 [] s := split_spl (toStr s) (toStr S) (by rw [tS]; exact hne) (kind_ok (low256_all c2))
        have e2 : Txt.split (toStr s) (toStr S) = (spl S 0 [] s).map toStr := map_tl_inj (by rw [e, List.map_map]; exact (List.map_id _).symm)
        refine ⟨toStr s, toStr S, rfl, rfl, ?_, by rw [toStr_length, ← line_eq]; exact c3, fun ad hn => ?_⟩
        · rw [toStr_length]
          cases S with
          | nil => exact absurd rfl hne
          | cons a b => rfl
        · rw [e2]
          refine fresh_mkL ok (rps_strs fun t ht => ⟨fun c hc => ?_, ?_⟩) p ad hn
          · rcases spl_mem S s 0 [] t ht c hc with q | q
            · cases q
            · exact os.cp c q
          · have := spl_len S s 0 [] t ht
            simp only [List.length_nil] at this
            omega
      · exact p.elim
    · exact p.elim
end
end Mi

/-! Mi7: what is walked, targets, loops, comprehensions. -/
namespace Mi
open PySem L2 PySem.Spec PyProof.Rows
variable {Z : Zc}
section
variable {X : Cx} {a b c e o i tg iter : Expr} {es : List Expr} {ra rb rc ro ri : Sl → List Ob → R PV} {rs rs2 : Sl → List Ob → R (List PV)} {pos p2 p : Pos}

/-! ### what a loop walks -/
/-- from w on the iterator J yields xs -/
def Walks (K : Kt) (J : L2.It) (xs : List PV) (w : Wd) : Prop :=
  ∀ w1, Le w w1 → Ok K w1 → (∀ i x, xs[i]? = some x → J.go i w1.H ∧ ∀ V H', J.yld i w1.H V H' → ∃ w2, Le w1 w2 ∧ w2.h = w1.h ∧ w2.H = H' ∧ w2.F = w1.F ∧ Ok K w2 ∧ Rv K w2 x V) ∧ J.stop xs.length w1.H
def tI (Z : Zc) (r : Sl → List Ob → R (List PV)) : TI := fun σ H Rr => ∃ w st, w.H = H ∧ Ok Z.K w ∧ RelS Z.K w st σ ∧ Po Z (fun w xs (J : L2.It) => Walks Z.K J xs w) w σ (r st w.h) Rr
/-- a list or a tuple, whichever it is -/
def iSeq (K : PySem.W.Frag) (tl : TE) : TI := fun σ H R => tl σ H fun x H1 => ∃ a, x = .ref a ∧ (((∃ xs, SqL K H1 a xs) ∧ R (Itl K a) H1) ∨ ((∃ xs, SqT K H1 a xs) ∧ R (Itt K a) H1))
theorem pi_seq {l : Expr} {tl : TE} (hl : PE X l tl) : PI X tg l (iSeq X.K tl) := by
  constructor
  intro pins s σ H R I hh
  refine thn (hl.run pins s σ H _ I hh) fun v t hv => ?_
  obtain ⟨x, H1, J, rx, a, ex, hq⟩ := hv
  subst ex
  cases rx
  have nw : H1 t.heap.objs.size = none := J.hok.fresh (Nat.le_refl _)
  have fp : ∀ b, b ∈ [t.heap.objs.size] → FpOk X pins H1 b := fun b hb => by
    have eb : b = t.heap.objs.size := List.mem_singleton.mp hb
    rw [eb]; exact J.fpOk (Nat.le_refl _) nw
  have old : ∀ (ob : Obj) b o, t.heap.get? b = some o → (t.heap.push ob).get? b = some o := fun ob b o q => Heap.get?_push_of_some _ q
  rcases hq with ⟨⟨xs, sq⟩, q⟩ | ⟨⟨xs, sq⟩, q⟩
  · obtain ⟨us, rv, pl, _⟩ := J.list sq
    refine wpAny_pyIter_list pl.isList ⟨t.heap.objs.size, [t.heap.objs.size], _, _, H1, rfl, J.kept (t' := t.toks) (old _), turn_list a _, ?_, fp, q⟩
    exact ⟨_, Heap.get?_push_size _ rfl, rfl, rfl⟩
  · obtain ⟨us, rv, pl, _⟩ := J.tuple sq
    refine wpAny_pyIter_tuple (show t.heap.IsTuple a us.toArray from pl) ⟨t.heap.objs.size, [t.heap.objs.size], _, _, H1, rfl, J.kept (t' := t.toks) (old _), turn_tuple a _, ?_, fp, q⟩
    exact ⟨_, Heap.get?_push_size _ rfl, rfl, rfl⟩
theorem walks_l {w : Wd} {x : PV} {xs : List PV} {ad : Addr} (r : Rp Z.K w x (.ref ad)) (hx : x = .lst xs ∨ x = .frz xs) : (∃ vs, SqL Z.K w.H ad vs) ∧ Walks Z.K (Itl Z.K ad) xs w := by
  have key : ∀ w1, Le w w1 → ∃ vs, SqL Z.K w1.H ad vs ∧ Rps Z.K w1 xs vs := fun w1 l => by
    have r1 := r.mono l
    rcases hx with rfl | rfl
    · cases r1 with
      | lst h f rr => exact ⟨_, .of h, rr⟩
    · cases r1 with
      | frz h rr => exact ⟨_, h.sq, rr⟩
  refine ⟨let ⟨vs, h, _⟩ := key w (Le.refl w); ⟨vs, h⟩, fun w1 l ok1 => ?_⟩
  obtain ⟨vs, h, rr⟩ := key w1 l
  refine ⟨fun i x e => ?_, ⟨vs, h, by rw [rr.length]; exact Nat.le_refl _⟩⟩
  obtain ⟨v, e1, r1⟩ := rr.get e
  refine ⟨⟨vs, v, h, e1⟩, fun V H' ⟨e2, y⟩ => ⟨w1, Le.refl w1, rfl, e2.symm, rfl, ok1, ?_⟩⟩
  have := y vs h
  rw [e1] at this; cases this
  exact .of r1
theorem walks_t {w : Wd} {xs : List PV} {ad : Addr} (r : Rp Z.K w (.tup xs) (.ref ad)) : (∃ vs, SqT Z.K w.H ad vs) ∧ Walks Z.K (Itt Z.K ad) xs w := by
  have key : ∀ w1, Le w w1 → ∃ vs, SqT Z.K w1.H ad vs ∧ Rps Z.K w1 xs vs := fun w1 l => by
    have r1 := r.mono l
    cases r1 with
    | tup h rr => exact ⟨_, h.sq, rr⟩
  refine ⟨let ⟨vs, h, _⟩ := key w (Le.refl w); ⟨vs, h⟩, fun w1 l ok1 => ?_⟩
  obtain ⟨vs, h, rr⟩ := key w1 l
  refine ⟨fun i x e => ?_, ⟨vs, h, by rw [rr.length]; exact Nat.le_refl _⟩⟩
  obtain ⟨v, e1, r1⟩ := rr.get e
  refine ⟨⟨vs, v, h, e1⟩, fun V H' ⟨e2, y⟩ => ⟨w1, Le.refl w1, rfl, e2.symm, rfl, ok1, ?_⟩⟩
  have := y vs h
  rw [e1] at this; cases this
  exact .of r1
def plainI (x : R PV) : R (List PV) := match x with
  | .ok (.tup xs) h1 => .ok xs h1
  | .ok (.lst xs) h1 => .ok xs h1
  | .ok (.frz xs) h1 => .ok xs h1
  | .ok (.str s) h1 => .ok (signs s) h1
  | .ok _ _ => .no
  | .ex c fs h1 => .ex c fs h1
  | .no => .no
theorem _root_.L2.PI.or {t u : TI} (h : PI X tg e t) (h' : PI X tg e u) : PI X tg e fun σ H R => t σ H R ∨ u σ H R := ⟨fun pins s σ H R I q => q.elim (h.run pins s σ H R I) (h'.run pins s σ H R I)⟩
theorem signs_get : ∀ {s : List Nat} {i : Nat} {x : PV}, (signs s)[i]? = some x → ∃ c, s[i]? = some c ∧ x = .str [c]
  | [], i, x, e => by simp [signs] at e
  | c :: r, 0, x, e => by simp [signs] at e; exact ⟨c, rfl, e.symm⟩
  | c :: r, i + 1, x, e => by
    obtain ⟨d, h1, h2⟩ := signs_get (s := r) (i := i) (x := x) (by simpa [signs] using e)
    exact ⟨d, by simpa using h1, h2⟩
theorem signs_length : ∀ s : List Nat, (signs s).length = s.length
  | [] => rfl
  | _ :: r => by rw [signs, List.length_cons, List.length_cons, signs_length r]
theorem walks_s {w : Wd} {s : List Nat} (o : SOk s) : Walks Z.K (Its (toStr s)) (signs s) w := fun w1 l ok1 => by
  have sz : (toStr s).cps.size = s.length := by simp [toStr]
  refine ⟨fun i x e => ?_, by rw [signs_length]; show (toStr s).cps.size ≤ s.length; rw [sz]; exact Nat.le_refl _⟩
  obtain ⟨c, h1, rfl⟩ := signs_get e
  have hi : i < s.length := (List.getElem?_eq_some_iff.mp h1).1
  refine ⟨by show i < (toStr s).cps.size; rw [sz]; exact hi, fun V H' y => ?_⟩
  obtain ⟨eH, d, hd, rfl⟩ := y
  have ed : d = c := by
    have q : s[i]? = some d := by simpa [toStr] using hd
    rw [h1] at q; cases q; rfl
  subst ed
  refine ⟨w1, Le.refl w1, rfl, eH.symm, rfl, ok1, .of (.str [d] ⟨fun b hb => ?_, by show 1 ≤ 16777216; decide⟩)⟩
  rw [List.mem_singleton.mp hb]
  exact o.cp d (List.mem_of_getElem? h1)
theorem i_plain (hK : X.K = Z.K) (ha : PE X a (tE Z ra)) : PI X tg a (tI Z fun σ h => plainI (ra σ h)) := ((pi_seq ha).or (pi_str ha)).imp fun σ H Rr ⟨w, st, e, ok, rS, p⟩ => by
  subst e
  by_cases hs : ∃ s h1, ra st w.h = .ok (.str s) h1
  · obtain ⟨s, h1, q⟩ := hs
    refine .inr ⟨w, st, rfl, ok, rS, ?_⟩
    simp only [plainI, q] at p
    rw [q]
    intro w1 V l1 e1 ok1 r1
    obtain ⟨rfl, o⟩ := r1.str_inv
    exact ⟨_, rfl, p w1 _ l1 e1 ok1 (walks_s o)⟩
  refine .inl ⟨w, st, rfl, ok, rS, ?_⟩
  cases q : ra st w.h with
  | no => simp only [plainI, q] at p; exact p.elim
  | ex c fs h1 => simp only [plainI, q] at p; exact p
  | ok x h1 =>
    simp only [q] at p
    intro w1 V l1 e1 ok1 r1
    rw [hK]
    cases x with
    | tup xs =>
      obtain ⟨ad, vs, rfl, _, _⟩ := tup_sq r1
      obtain ⟨g1, g2⟩ := walks_t (r1.data rfl)
      exact ⟨ad, rfl, .inr ⟨g1, p w1 _ l1 e1 ok1 g2⟩⟩
    | lst xs =>
      obtain ⟨ad, vs, rfl, _, _⟩ := lstOf_sq ok1 r1 rfl
      obtain ⟨g1, g2⟩ := walks_l (r1.data rfl) (.inl rfl)
      exact ⟨ad, rfl, .inl ⟨g1, p w1 _ l1 e1 ok1 g2⟩⟩
    | frz xs =>
      obtain ⟨ad, vs, rfl, _, _⟩ := lstOf_sq ok1 r1 rfl
      obtain ⟨g1, g2⟩ := walks_l (r1.data rfl) (.inr rfl)
      exact ⟨ad, rfl, .inl ⟨g1, p w1 _ l1 e1 ok1 g2⟩⟩
    | str s => exact absurd ⟨s, h1, q⟩ hs
    | _ => exact p.elim

/-! ### ranges -/
theorem up_get : ∀ (n : Nat) (a : Int) (i : Nat) (x : PV), (up a n)[i]? = some x → i < n ∧ x = .int (a + i)
  | 0, _, _, _, e => by simp [up] at e
  | n + 1, a, 0, x, e => by simp [up] at e; subst e; exact ⟨Nat.zero_lt_succ _, by simp⟩
  | n + 1, a, i + 1, x, e => by
    obtain ⟨h1, h2⟩ := up_get n (a + 1) i x (by simpa [up] using e)
    exact ⟨by omega, by rw [h2]; congr 1; omega⟩
theorem up_length : ∀ (n : Nat) (a : Int), (up a n).length = n
  | 0, _ => rfl
  | n + 1, a => by rw [up, List.length_cons, up_length n]
theorem down_get : ∀ (n : Nat) (a : Int) (i : Nat) (x : PV), (down a n)[i]? = some x → i < n ∧ x = .int (a + (i : Nat) * (-1 : Int))
  | 0, _, _, _, e => by simp [down] at e
  | n + 1, a, 0, x, e => by simp [down] at e; subst e; exact ⟨Nat.zero_lt_succ _, by simp⟩
  | n + 1, a, i + 1, x, e => by
    obtain ⟨h1, h2⟩ := down_get n (a - 1) i x (by simpa [down] using e)
    exact ⟨by omega, by rw [h2]; congr 1; omega⟩
theorem down_length : ∀ (n : Nat) (a : Int), (down a n).length = n
  | 0, _ => rfl
  | n + 1, a => by rw [down, List.length_cons, down_length n]
theorem walks_r {w : Wd} {lo : Int} {n : Nat} : Walks Z.K (Itr lo n) (up lo n) w := fun w1 l ok1 =>
  ⟨fun i x e => let ⟨h1, h2⟩ := up_get n lo i x e; ⟨h1, fun V H' ⟨e2, e3⟩ => ⟨w1, Le.refl w1, rfl, e2.symm, rfl, ok1, by rw [h2, e3]; exact .of (.int _)⟩⟩, by rw [up_length]; exact Nat.le_refl n⟩
theorem walks_c1 {w : Wd} {lo : Int} {n : Nat} : Walks Z.K (Itc lo 1 n) (up lo n) w := fun w1 l ok1 =>
  ⟨fun i x e => let ⟨h1, h2⟩ := up_get n lo i x e; ⟨h1, fun V H' ⟨e2, e3⟩ => ⟨w1, Le.refl w1, rfl, e2.symm, rfl, ok1, by rw [h2, e3, Int.mul_one]; exact .of (.int _)⟩⟩, by rw [up_length]; exact Nat.le_refl n⟩
theorem walks_d {w : Wd} {lo : Int} {n : Nat} : Walks Z.K (Itc lo (-1) n) (down lo n) w := fun w1 l ok1 =>
  ⟨fun i x e => let ⟨h1, h2⟩ := down_get n lo i x e; ⟨h1, fun V H' ⟨e2, e3⟩ => ⟨w1, Le.refl w1, rfl, e2.symm, rfl, ok1, by rw [h2, e3]; exact .of (.int _)⟩⟩, by rw [down_length]; exact Nat.le_refl n⟩
theorem in62_ok {a : Int} (h : in62 a = true) : -(2 ^ 62) ≤ a ∧ a < 2 ^ 62 := by
  simp only [in62, two62, Bool.and_eq_true] at h
  have e : (2 : Int) ^ 62 = 4611686018427387904 := by decide
  rw [e]
  exact ⟨of_decide_eq_true h.1, of_decide_eq_true h.2⟩
def rngI (x : R (List PV)) : R (List PV) := match x with
  | .ok xs h1 => match rngItems xs with | some ys => .ok ys h1 | none => .no
  | .ex c fs h1 => .ex c fs h1
  | .no => .no
/-- the three forms of range's arguments -/
theorem rng_cases {vs ys : List PV} (e : rngItems vs = some ys) : (∃ n, vs = [.int n] ∧ in62 n = true ∧ ys = up 0 n.toNat ∧ n.toNat ≤ line) ∨
    (∃ i j, vs = [.int i, .int j] ∧ in62 i = true ∧ in62 j = true ∧ ys = up i (j - i).toNat ∧ (j - i).toNat ≤ line) ∨
    (∃ i j, vs = [.int i, .int j, .int 1] ∧ in62 i = true ∧ in62 j = true ∧ ys = up i (j - i).toNat ∧ (j - i).toNat ≤ line) ∨
    (∃ i j, vs = [.int i, .int j, .int (-1)] ∧ in62 i = true ∧ in62 j = true ∧ ys = down i (i - j).toNat ∧ (i - j).toNat ≤ line) := by
  unfold rngItems at e
  split at e
  · rename_i a b c e0
    split at e
    · rename_i h
      obtain ⟨h1, h2⟩ := (Bool.and_eq_true _ _).mp h
      unfold rngOf at e0
      split at e0
      · cases e0
        rw [if_pos rfl] at e
        split at e
        · cases e
          rename_i hl
          rw [Int.sub_zero] at hl ⊢
          exact .inl ⟨_, rfl, h2, rfl, hl⟩
        · cases e
      · cases e0
        rw [if_pos rfl] at e
        split at e
        · cases e
          exact .inr (.inl ⟨_, _, rfl, h1, h2, rfl, by assumption⟩)
        · cases e
      · cases e0
        split at e
        · rename_i hc
          subst hc
          split at e
          · cases e
            exact .inr (.inr (.inl ⟨_, _, rfl, h1, h2, rfl, by assumption⟩))
          · cases e
        · split at e
          · rename_i hc
            subst hc
            split at e
            · cases e
              exact .inr (.inr (.inr ⟨_, _, rfl, h1, h2, rfl, by assumption⟩))
            · cases e
          · cases e
      · cases e0
    · cases e
  · cases e
/-- a range by its arguments' values, as a thing to walk: by one rule for each number of arguments -/
theorem i_rng1 (h : PI X tg e (iRng1 (tA Z rs))) (h1 : ∀ σ hh ys h', rs σ hh = .ok ys h' → ∃ x, ys = [x]) : PI X tg e (tI Z fun σ h => rngI (rs σ h)) := h.imp fun σ H Rr ⟨w, st, e, ok, rS, p⟩ => by
  subst e
  refine ⟨w, st, rfl, ok, rS, ?_⟩
  cases q : rs st w.h with
  | no => simp only [rngI, q] at p; exact p.elim
  | ex c fs h1 => simp only [rngI, q] at p; exact p
  | ok x h1' =>
    simp only [rngI, q] at p
    intro w1 V l1 e1 ok1 r1
    obtain ⟨x1, rfl⟩ := h1 _ _ _ _ q
    obtain ⟨v, rfl, rv⟩ := r1.one
    cases q2 : rngItems [x1] with
    | none => simp only [q2] at p; exact p.elim
    | some ys =>
      simp only [q2] at p
      rcases rng_cases q2 with ⟨n, z1, z2, rfl, _⟩ | ⟨i, j, z1, _⟩ | ⟨i, j, z1, _⟩ | ⟨i, j, z1, _⟩
      · cases z1
        cases rv.int_inv
        obtain ⟨b1, b2⟩ := in62_ok z2
        exact ⟨n, rfl, b1, b2, p w1 _ l1 e1 ok1 walks_r⟩
      all_goals cases z1
theorem i_rng2 (h : PI X tg e (iRng2 (tA Z rs))) (h1 : ∀ σ hh ys h', rs σ hh = .ok ys h' → ∃ x y, ys = [x, y]) : PI X tg e (tI Z fun σ h => rngI (rs σ h)) := h.imp fun σ H Rr ⟨w, st, e, ok, rS, p⟩ => by
  subst e
  refine ⟨w, st, rfl, ok, rS, ?_⟩
  cases q : rs st w.h with
  | no => simp only [rngI, q] at p; exact p.elim
  | ex c fs h1 => simp only [rngI, q] at p; exact p
  | ok x h1' =>
    simp only [rngI, q] at p
    intro w1 V l1 e1 ok1 r1
    obtain ⟨x1, x2, rfl⟩ := h1 _ _ _ _ q
    obtain ⟨v, u, rfl, rv, ru⟩ := r1.two
    cases q2 : rngItems [x1, x2] with
    | none => simp only [q2] at p; exact p.elim
    | some ys =>
      simp only [q2] at p
      rcases rng_cases q2 with ⟨n, z1, z2, _⟩ | ⟨i, j, z1, z2, z3, rfl, _⟩ | ⟨i, j, z1, _⟩ | ⟨i, j, z1, _⟩
      · cases z1
      · cases z1
        cases rv.int_inv
        cases ru.int_inv
        obtain ⟨b1, b2⟩ := in62_ok z2
        obtain ⟨b3, b4⟩ := in62_ok z3
        exact ⟨i, j, rfl, ⟨b1, b2, b3, b4⟩, p w1 _ l1 e1 ok1 walks_r⟩
      · cases z1
      · cases z1
theorem Rvs.three {w : Wd} {x y z : PV} {vs : List V} (r : Rvs Z.K w [x, y, z] vs) : ∃ v u t, vs = [v, u, t] ∧ Rv Z.K w x v ∧ Rv Z.K w y u ∧ Rv Z.K w z t := by
  cases r with
  | cons h t =>
    obtain ⟨u, s, rfl, h2, h3⟩ := Rvs.two t
    exact ⟨_, _, _, rfl, h, h2, h3⟩
theorem rgc1 {i j : Int} (ha : -(2 ^ 62) ≤ i) (ha' : i < 2 ^ 62) (hb : -(2 ^ 62) ≤ j) (hb' : j < 2 ^ 62) : RgC i j 1 (j - i).toNat :=
  ⟨by decide, by decide, small_one ha ha' hb hb', by rw [rangeSize_one]; split <;> omega⟩
theorem i_rng3 (h : PI X tg e (iRng3 (tA Z rs))) (h1 : ∀ σ hh ys h', rs σ hh = .ok ys h' → ∃ x y z, ys = [x, y, z]) : PI X tg e (tI Z fun σ h => rngI (rs σ h)) := h.imp fun σ H Rr ⟨w, st, e, ok, rS, p⟩ => by
  subst e
  refine ⟨w, st, rfl, ok, rS, ?_⟩
  cases q : rs st w.h with
  | no => simp only [rngI, q] at p; exact p.elim
  | ex c fs h1 => simp only [rngI, q] at p; exact p
  | ok x h1' =>
    simp only [rngI, q] at p
    intro w1 V l1 e1 ok1 r1
    obtain ⟨x1, x2, x3, rfl⟩ := h1 _ _ _ _ q
    obtain ⟨v, u, t, rfl, rv, ru, rt⟩ := r1.three
    cases q2 : rngItems [x1, x2, x3] with
    | none => simp only [q2] at p; exact p.elim
    | some ys =>
      simp only [q2] at p
      rcases rng_cases q2 with ⟨n, z1, z2, _⟩ | ⟨i, j, z1, _⟩ | ⟨i, j, z1, z2, z3, rfl, _⟩ | ⟨i, j, z1, z2, z3, rfl, _⟩
      · cases z1
      · cases z1
      · cases z1
        cases rv.int_inv
        cases ru.int_inv
        cases rt.int_inv
        obtain ⟨b1, b2⟩ := in62_ok z2
        obtain ⟨b3, b4⟩ := in62_ok z3
        exact ⟨i, j, 1, _, rfl, rgc1 b1 b2 b3 b4, p w1 _ l1 e1 ok1 walks_c1⟩
      · cases z1
        cases rv.int_inv
        cases ru.int_inv
        cases rt.int_inv
        obtain ⟨b1, b2⟩ := in62_ok z2
        obtain ⟨b3, b4⟩ := in62_ok z3
        exact ⟨i, j, -1, _, rfl, RgC.neg b1 b2 b3 b4, p w1 _ l1 e1 ok1 walks_d⟩
end
end Mi

/-! Mi8: targets, loops, comprehensions. -/
namespace Mi
open PySem L2 PySem.Spec PyProof.Rows
variable {Z : Zc}

theorem wipe_get : ∀ (vs : List Nat) (σ : L2.St) (j : Nat), (L2.wipe σ vs)[j]? = if j ∈ vs then (if j < σ.length then some none else none) else σ[j]?
  | [], σ, j => by simp [L2.wipe]
  | v :: vs, σ, j => by
    unfold L2.wipe
    by_cases h : v = j
    · subst h
      rw [if_pos List.mem_cons_self]
      by_cases hl : v < σ.length
      · rw [if_pos hl, List.getElem?_set_self (by rw [L2.wipe_length]; exact hl)]
      · rw [if_neg hl, List.getElem?_eq_none (by rw [List.length_set, L2.wipe_length]; omega)]
    · rw [List.getElem?_set_ne h, wipe_get vs σ j]
      by_cases hm : j ∈ vs
      · rw [if_pos hm, if_pos (List.mem_cons_of_mem _ hm)]
      · rw [if_neg hm, if_neg (fun z => (List.mem_cons.mp z).elim (fun e => h e.symm) hm)]
theorem wipe_set {σ : L2.St} {i : Nat} {x : Option V} {vs : List Nat} (h : i ∈ vs) : L2.wipe (σ.set i x) vs = L2.wipe σ vs := by
  refine List.ext_getElem? fun j => ?_
  rw [wipe_get, wipe_get, List.length_set]
  by_cases hm : j ∈ vs
  · rw [if_pos hm, if_pos hm]
  · rw [if_neg hm, if_neg hm, List.getElem?_set_ne (fun e => hm (by rw [← e]; exact h))]
theorem wipe_sub {σ σ' : L2.St} {vs us : List Nat} (h : ∀ i ∈ vs, i ∈ us) (e : L2.wipe σ vs = L2.wipe σ' vs) : L2.wipe σ us = L2.wipe σ' us := by
  have hl : σ.length = σ'.length := by rw [← L2.wipe_length σ vs, e, L2.wipe_length]
  refine List.ext_getElem? fun j => ?_
  rw [wipe_get, wipe_get, hl]
  by_cases hm : j ∈ us
  · rw [if_pos hm, if_pos hm]
  · rw [if_neg hm, if_neg hm]
    have := congrArg (·[j]?) e
    simp only [wipe_get] at this
    rw [if_neg (fun z => hm (h j z)), if_neg (fun z => hm (h j z))] at this
    exact this

section
variable {X : Cx} {a b c e o i tg iter : Expr} {es : List Expr} {ra rb rc ro ri : Sl → List Ob → R PV} {pos p2 p : Pos}

/-! ### targets -/
/-- ks: the slots that it may store -/
def PoT (Z : Zc) (ks : List Nat) (w : Wd) (σ : L2.St) (r : R Sl) (Q : L2.St → Hp → Prop) : Prop := match r with
  | .ok st' h' => ∀ w' σ', Le w w' → w'.h = h' → Ok Z.K w' → RelS Z.K w' st' σ' → L2.wipe σ' ks = L2.wipe σ ks → Q σ' w'.H
  | _ => False
def tG (Z : Zc) (ks : List Nat) (r : PV → Sl → List Ob → R Sl) : TG := fun V σ H Q => ∃ w st x, w.H = H ∧ Ok Z.K w ∧ RelS Z.K w st σ ∧ Rv Z.K w x V ∧ PoT Z ks w σ (r x st w.h) Q
def tGs (Z : Zc) (ks : List Nat) (r : List PV → Sl → List Ob → R Sl) : TGs := fun vs σ H Q => ∃ w st xs, w.H = H ∧ Ok Z.K w ∧ RelS Z.K w st σ ∧ Rvs Z.K w xs vs ∧ PoT Z ks w σ (r xs st w.h) Q
theorem PoT.up {ks : List Nat} {w w1 : Wd} {σ : L2.St} {r : R Sl} {Q : L2.St → Hp → Prop} (l : Le w w1) (h : PoT Z ks w σ r Q) : PoT Z ks w1 σ r Q := by
  cases r with
  | ok a h' => exact fun w' σ' l' e o q z => h w' σ' (l.trans l') e o q z
  | _ => exact h
theorem PoT.from {ks : List Nat} {w : Wd} {σ σ1 : L2.St} {r : R Sl} {Q : L2.St → Hp → Prop} (e : L2.wipe σ1 ks = L2.wipe σ ks) (h : PoT Z ks w σ r Q) : PoT Z ks w σ1 r Q := by
  cases r with
  | ok a h' => exact fun w' σ' l' e' o q z => h w' σ' l' e' o q (z.trans e)
  | _ => exact h
theorem g_nm {ks : List Nat} {k : Nat} (hk : k ∈ ks) (h : PG X e (gName k)) : PG X e (tG Z ks fun v σ h => .ok (put σ k (some v)) h) := h.imp fun V σ H Q ⟨w, st, x, e, ok, rS, rv, p⟩ => by
  subst e
  exact p w _ (Le.refl w) rfl ok (rS.put rv) (wipe_set hk)
theorem gs_nil {ks : List Nat} : PGs X [] (tGs Z ks fun vs σ h => match vs with | [] => .ok σ h | _ :: _ => .no) := pgs_nil.imp fun vs σ H Q ⟨w, st, xs, e, ok, rS, rv, p⟩ => by
  subst e
  cases rv with
  | nil => exact ⟨rfl, p w _ (Le.refl w) rfl ok rS rfl⟩
  | cons h t => exact p.elim
theorem gs_cons {ks : List Nat} {r : PV → Sl → List Ob → R Sl} {rr : List PV → Sl → List Ob → R Sl} (h1 : PG X e (tG Z ks r)) (h2 : PGs X es (tGs Z ks rr)) (hs : (assignEach (e :: es) X.env).map (·.2) = assign e X.env :: (assignEach es X.env).map (·.2)) :
    PGs X (e :: es) (tGs Z ks fun vs σ h => match vs with
      | v :: vs => match r v σ h with
        | .ok σ1 h1 => rr vs σ1 h1
        | _ => .no
      | [] => .no) := (pgs_cons h1 h2 hs).imp fun vs σ H Q ⟨w, st, xs, e, ok, rS, rv, p⟩ => by
  subst e
  cases rv with
  | nil => exact p.elim
  | @cons x V xs vs hv ht =>
    have p : PoT Z ks w σ (match r x st w.h with | .ok σ1 h1 => rr xs σ1 h1 | _ => .no) Q := p
    refine ⟨_, _, rfl, w, st, x, rfl, ok, rS, hv, ?_⟩
    cases q : r x st w.h with
    | no => rw [q] at p; exact p.elim
    | ex c fs h1 => rw [q] at p; exact p.elim
    | ok st1 h1 =>
      rw [q] at p
      intro w1 σ1 l1 e1 ok1 r1 z1
      refine ⟨w1, st1, xs, rfl, ok1, r1, ht.mono l1, ?_⟩
      rw [e1]
      exact (p.up l1).from z1
theorem _root_.L2.PG.or {t u : TG} (h : PG X e t) (h' : PG X e u) : PG X e fun v σ H Q => t v σ H Q ∨ u v σ H Q := ⟨fun pins s σ H v uu Q I r q => q.elim (h.run pins s σ H v uu Q I r) (h'.run pins s σ H v uu Q I r)⟩
/-- how many values a tuple of targets takes -/
def tpR (r : List PV → Sl → List Ob → R Sl) (v : PV) (σ : Sl) (h : List Ob) : R Sl := match v with
  | .tup xs => r xs σ h
  | .lst xs => r xs σ h
  | _ => .no
theorem g_tp {ks : List Nat} {k : Nat} {r : List PV → Sl → List Ob → R Sl} {n : Nat} (hc : X.calm = true) (hK : X.K = Z.K) (h : PGs X es (tGs Z ks r)) (hn : (assignEach es X.env).length = n) (hst : (assignEach es X.env).findIdx? (·.1) = none)
    (hl : ∀ xs σ hh σ' h', r xs σ hh = .ok σ' h' → xs.length = n) : PG X (.Tuple es k pos) (tG Z ks (tpR r)) :=
  ((pg_tup hc h hn hst).or (pg_unl hc h hn hst)).imp fun V σ H Q ⟨w, st, x, e, ok, rS, rv, p⟩ => by
    subst e
    unfold tpR at p
    split at p
    · rename_i xs
      obtain ⟨ad, vs, rfl, hq, rr⟩ := tup_sq rv
      cases q : r xs st w.h with
      | no => rw [q] at p; exact p.elim
      | ex c fs h1 => rw [q] at p; exact p.elim
      | ok st1 h1 =>
        refine .inl ⟨ad, vs, rfl, by rw [hK]; exact hq, by rw [← rr.length]; exact hl _ _ _ _ _ q, w, st, xs, rfl, ok, rS, .of rr, p⟩
    · rename_i xs
      obtain ⟨ad, vs, rfl, hq, rr⟩ := lstOf_sq ok rv rfl
      cases q : r xs st w.h with
      | no => rw [q] at p; exact p.elim
      | ex c fs h1 => rw [q] at p; exact p.elim
      | ok st1 h1 =>
        refine .inr ⟨ad, vs, rfl, by rw [hK]; exact hq, by rw [← rr.length]; exact hl _ _ _ _ _ q, w, st, xs, rfl, ok, rS, .of rr, p⟩
    · exact p.elim
def sxR (x : R PV) (y : List Ob → R PV) (v : PV) (σ : Sl) : R Sl := match x with
  | .ok x h1 => match y h1 with
    | .ok y h2 => match setIx x y v h2 with
      | some h3 => .ok σ h3
      | none => .no
    | _ => .no
  | _ => .no
theorem g_sx {ks : List Nat} (ho : PE X o (tE Z ro)) (hi : PE X i (tE Z ri)) (h : PG X e (gSub (tE Z ro) (tE Z ri) rSetL)) : PG X e (tG Z ks fun v σ h => sxR (ro σ h) (ri σ) v σ) := h.imp fun V σ H Q ⟨w, st, x, e, ok, rS, rv, p⟩ => by
  subst e
  refine ⟨w, st, rfl, ok, rS, ?_⟩
  cases q : ro st w.h with
  | no => simp only [sxR, q] at p; exact p.elim
  | ex c fs h1 => simp only [sxR, q] at p; exact p.elim
  | ok y h1 =>
    simp only [sxR, q] at p
    intro w1 V1 l1 e1 ok1 r1
    refine ⟨w1, st, rfl, ok1, rS.mono l1, ?_⟩
    rw [e1]
    cases q2 : ri st h1 with
    | no => simp only [q2] at p; exact p.elim
    | ex c fs h2 => simp only [q2] at p; exact p.elim
    | ok k h2 =>
      simp only [q2] at p
      intro w2 V2 l2 e2 ok2 r2
      cases q3 : setIx y k x h2 with
      | none => simp only [q3] at p; exact p.elim
      | some h3 =>
        simp only [q3] at p
        refine set_lst_val ok2 (r1.mono l2) r2 (rv.mono (l1.trans l2)) (by rw [e2]; exact q3) fun w3 l3 e3 ok3 => ?_
        exact p w3 σ ((l1.trans l2).trans l3) e3 ok3 (rS.mono ((l1.trans l2).trans l3)) rfl

/-! ### statements -/
def PoF (Z : Zc) (w : Wd) (D : Ends) (r : R Fl) : Prop := match r with
  | .ok f h' => match f with
    | .nx st' => ∀ w' σ', Le w w' → w'.h = h' → Ok Z.K w' → RelS Z.K w' st' σ' → D.nx σ' w'.H
    | .bk st' => ∀ w' σ', Le w w' → w'.h = h' → Ok Z.K w' → RelS Z.K w' st' σ' → D.bk σ' w'.H
    | .ct st' => ∀ w' σ', Le w w' → w'.h = h' → Ok Z.K w' → RelS Z.K w' st' σ' → D.ct σ' w'.H
    | .rt v => ∀ w' V, Le w w' → w'.h = h' → Ok Z.K w' → Rv Z.K w' v V → D.rt V w'.H
    | .rs c fs st' => ∀ w' σ' cls d, Le w w' → w'.h = h' → Ok Z.K w' → RelS Z.K w' st' σ' → Z.ER c fs w' cls d → Z.W cls d σ' w'.H
  | _ => False
theorem PoF.up {w w1 : Wd} {D : Ends} {r : R Fl} (l : Le w w1) (h : PoF Z w D r) : PoF Z w1 D r := by
  cases r with
  | ok f h' =>
    cases f with
    | nx st' => exact fun w' σ' l' e o q => h w' σ' (l.trans l') e o q
    | bk st' => exact fun w' σ' l' e o q => h w' σ' (l.trans l') e o q
    | ct st' => exact fun w' σ' l' e o q => h w' σ' (l.trans l') e o q
    | rt v => exact fun w' σ' l' e o q => h w' σ' (l.trans l') e o q
    | rs c fs st' => exact fun w' σ' cls d l' e o q q2 => h w' σ' cls d (l.trans l') e o q q2
  | _ => exact h
def tS (Z : Zc) (r : Sl → List Ob → R Fl) : TS := fun D σ H => ∃ w st, w.H = H ∧ Ok Z.K w ∧ RelS Z.K w st σ ∧ PoF Z w D (r st w.h)
def seqR (x : R Fl) (y : Sl → List Ob → R Fl) : R Fl := match x with
  | .ok f h1 => match f with
    | .nx σ1 => y σ1 h1
    | f => .ok f h1
  | _ => .no
/-- where an expression raises, or is not told -/
def exR {α : Type} (x : R α) (σ : Sl) (k : α → List Ob → R Fl) : R Fl := match x with
  | .ok v h1 => k v h1
  | .ex c fs h1 => .ok (.rs c fs σ) h1
  | .no => .no
section
variable {st : Stmt} {rest body : List Stmt} {rS rT : Sl → List Ob → R Fl}
theorem ss_nil : PSs X [] (tS Z fun σ h => .ok (.nx σ) h) := pss_nil.imp fun D σ H ⟨w, st, e, ok, rS, p⟩ => by
  subst e
  exact p w σ (Le.refl w) rfl ok rS
theorem ss_cons (h1 : PS X st (tS Z rS)) (h2 : PSs X rest (tS Z rT)) : PSs X (st :: rest) (tS Z fun σ h => seqR (rS σ h) rT) := (pss_cons h1 h2).imp fun D σ H ⟨w, st, e, ok, rs, p⟩ => by
  subst e
  refine ⟨w, st, rfl, ok, rs, ?_⟩
  have p' : PoF Z w D (seqR (rS st w.h) rT) := p
  show PoF Z w _ (rS st w.h)
  cases q : rS st w.h with
  | no => rw [q] at p'; exact p'.elim
  | ex c fs h1 => rw [q] at p'; exact p'.elim
  | ok f h1 =>
    rw [q] at p'
    cases f with
    | nx st1 =>
      intro w1 σ1 l1 e1 ok1 r1
      exact ⟨w1, st1, rfl, ok1, r1, by rw [e1]; exact PoF.up l1 p'⟩
    | _ => exact p'
theorem ss_one (h1 : PS X st (tS Z rS)) : PSs X [st] (tS Z rS) := pss_one h1
theorem ex_core {α β : Type} {Rel : Wd → α → β → Prop} {w : Wd} {σ : L2.St} {s : Sl} {x : R α} {k : α → List Ob → R Fl} {D : Ends} {Q : β → Hp → Prop} (rS : RelS Z.K w s σ) (p : PoF Z w D (exR x s k))
    (h : ∀ a h1, x = .ok a h1 → PoF Z w D (k a h1) → ∀ w' b, Le w w' → w'.h = h1 → Ok Z.K w' → Rel w' a b → Q b w'.H) : Po Z Rel w σ x Q := by
  cases x with
  | no => exact p.elim
  | ex c fs h1 => exact fun w' cls d l e o er => p w' σ cls d l e o (rS.mono l) er
  | ok a h1 => exact h a h1 rfl p
theorem x_expr (h : PS X st (tDrop (tE Z ra))) : PS X st (tS Z fun σ h => exR (ra σ h) σ fun _ h1 => .ok (.nx σ) h1) := h.imp fun D σ H ⟨w, st, e, ok, rs, p⟩ => by
  subst e
  exact ⟨w, st, rfl, ok, rs, ex_core rs p fun a h1 _ p w' b l e o r => p w' σ l e o (rs.mono l)⟩
theorem x_ret (h : PS X st (tRet (tE Z ra))) : PS X st (tS Z fun σ h => exR (ra σ h) σ fun v h1 => .ok (.rt v) h1) := h.imp fun D σ H ⟨w, st, e, ok, rs, p⟩ => by
  subst e
  exact ⟨w, st, rfl, ok, rs, ex_core rs p fun a h1 _ p w' b l e o r => p w' b l e o r⟩
def asgR (x : R Sl) : R Fl := match x with
  | .ok σ1 h2 => .ok (.nx σ1) h2
  | _ => .no
theorem x_asg {ks : List Nat} {rp : PV → Sl → List Ob → R Sl} {g : TG} (h : PS X st (tAsg (tE Z ra) (tG Z ks rp))) : PS X st (tS Z fun σ h => exR (ra σ h) σ fun v h1 => asgR (rp v σ h1)) := h.imp fun D σ H ⟨w, st, e, ok, rs, p⟩ => by
  subst e
  refine ⟨w, st, rfl, ok, rs, ex_core rs p fun a h1 _ p w' b l e o r => ?_⟩
  refine ⟨w', st, a, rfl, o, rs.mono l, r, ?_⟩
  rw [e]
  cases q : rp a st h1 with
  | no => rw [q] at p; exact p.elim
  | ex c fs h2 => rw [q] at p; exact p.elim
  | ok st1 h2 =>
    rw [q] at p
    exact fun w'' σ' l' e' o' r' _ => p w'' σ' (l.trans l') e' o' r'
theorem x_ife (hc : PT X c (tB Z fun σ h => test (rc σ h))) (hb : PSs X body (tS Z rS)) (hr : PSs X rest (tS Z rT)) (h : PS X st (tIfS (tB Z fun σ h => test (rc σ h)) (tS Z rS) (tS Z rT))) :
    PS X st (tS Z fun σ h => exR (test (rc σ h)) σ fun k h1 => match k with | true => rS σ h1 | false => rT σ h1) := h.imp fun D σ H ⟨w, st, e, ok, rs, p⟩ => by
  subst e
  refine ⟨w, st, rfl, ok, rs, ex_core rs p fun a h1 _ p w' b l e o r => ?_⟩
  subst r
  cases a with
  | true =>
    rw [if_pos rfl]
    exact ⟨w', st, rfl, o, rs.mono l, by rw [e]; exact PoF.up l p⟩
  | false =>
    rw [if_neg Bool.false_ne_true]
    exact ⟨w', st, rfl, o, rs.mono l, by rw [e]; exact PoF.up l p⟩
theorem x_par {i j : Nat} (h : PS X st (tPar i j (tCons (tE Z ra) (tCons (tE Z rb) tNil)))) : PS X st (tS Z fun σ h => exR (ra σ h) σ fun x h1 => exR (rb σ h1) σ fun y h2 => .ok (.nx (put (put σ i (some x)) j (some y))) h2) := h.imp fun D σ H ⟨w, st, e, ok, rs, p⟩ => by
  subst e
  refine ⟨w, st, rfl, ok, rs, ex_core rs p fun a h1 _ p w' b l e o r => ?_⟩
  refine ⟨w', st, rfl, o, rs.mono l, ?_⟩
  rw [e]
  refine ex_core (rs.mono l) (PoF.up l p) fun a2 h2 _ p w2 b2 l2 e2 o2 r2 => ?_
  exact ⟨b, b2, rfl, p w2 _ l2 e2 o2 (((rs.mono (l.trans l2)).put (r.mono l2)).put r2)⟩
end
end
end Mi

/-! Mi9: for, while, list comprehensions. -/
namespace Mi
open PySem L2 PySem.Spec PyProof.Rows
variable {Z : Zc}
section
variable {X : Cx} {a b c e o i tg iter elt : Expr} {es ifs : List Expr} {ra rb rc ro ri re : Sl → List Ob → R PV} {pos p2 p : Pos} {st : Stmt} {rest body : List Stmt} {rS rT : Sl → List Ob → R Fl} {rI : Sl → List Ob → R (List PV)}
theorem drop_at {α : Type} {xs : List α} {i : Nat} (h : i < xs.length) : xs.drop i = xs[i] :: xs.drop (i + 1) := List.drop_eq_getElem_cons h
theorem x_for {ks : List Nat} {rp : PV → Sl → List Ob → R Sl} (h : PS X st (tFor (tI Z rI) (tG Z ks rp) (tS Z rS))) :
    PS X st (tS Z fun σ h => exR (rI σ h) σ fun xs h1 => forL rp rS xs σ h1) := h.imp fun D σ H ⟨w, st, e, ok, rs, p⟩ => by
  subst e
  refine ⟨w, st, rfl, ok, rs, ex_core rs p fun xs h1 _ p w1 J l1 e1 o1 wk => ?_⟩
  refine ⟨fun i m σ H => m = xs.length - i ∧ i ≤ xs.length ∧ ∃ wi si, wi.H = H ∧ Le w1 wi ∧ Ok Z.K wi ∧ RelS Z.K wi si σ ∧ PoF Z wi D (forL rp rS (xs.drop i) si wi.h),
    ⟨xs.length, by simp, Nat.zero_le _, w1, st, rfl, Le.refl w1, o1, rs.mono l1, by rw [List.drop_zero, e1]; exact PoF.up l1 p⟩, ?_⟩
  rintro i m σ H ⟨rfl, hi, wi, si, rfl, li, oi, ri, pi⟩
  obtain ⟨y1, y2⟩ := wk wi li oi
  by_cases hlt : i < xs.length
  · rw [drop_at hlt] at pi
    obtain ⟨go, yl⟩ := y1 i xs[i] (List.getElem?_eq_getElem hlt)
    refine .inr ⟨go, fun σ' H' => ∃ wi si, wi.H = H' ∧ Le w1 wi ∧ Ok Z.K wi ∧ RelS Z.K wi si σ' ∧ PoF Z wi D (forL rp rS (xs.drop (i + 1)) si wi.h),
      fun σ' H' ⟨wj, sj, a1, a2, a3, a4, a5⟩ => ⟨xs.length - (i + 1), by omega, rfl, hlt, wj, sj, a1, a2, a3, a4, a5⟩, fun V H' y => ?_⟩
    obtain ⟨w2, l2, e2, rfl, _, o2, rv⟩ := yl V H' y
    refine ⟨w2, si, xs[i], rfl, o2, ri.mono l2, rv, ?_⟩
    rw [e2]
    have pi' : PoF Z wi D (match rp xs[i] si wi.h with
      | .ok σ1 h1 => match rS σ1 h1 with
        | .ok f h2 => match f with
          | .nx σ2 => forL rp rS (xs.drop (i + 1)) σ2 h2
          | .ct σ2 => forL rp rS (xs.drop (i + 1)) σ2 h2
          | .bk σ2 => .ok (.nx σ2) h2
          | .rt v => .ok (.rt v) h2
          | .rs c fs σ2 => .ok (.rs c fs σ2) h2
        | _ => .no
      | _ => .no) := pi
    cases q : rp xs[i] si wi.h with
    | no => rw [q] at pi'; exact pi'.elim
    | ex c fs h2 => rw [q] at pi'; exact pi'.elim
    | ok s2 h2 =>
      rw [q] at pi'
      simp only at pi'
      intro w3 σ3 l3 e3 o3 r3 _
      refine ⟨w3, s2, rfl, o3, r3, ?_⟩
      rw [e3]
      have l13 : Le w1 w3 := (li.trans l2).trans l3
      have li3 : Le wi w3 := l2.trans l3
      cases q2 : rS s2 h2 with
      | no => rw [q2] at pi'; exact pi'.elim
      | ex c fs h4 => rw [q2] at pi'; exact pi'.elim
      | ok f h4 =>
        rw [q2] at pi'
        simp only at pi'
        cases f with
        | nx s4 => exact fun w4 σ4 l4 e4 o4 r4 => ⟨w4, s4, rfl, l13.trans l4, o4, r4, by rw [e4]; exact PoF.up (li3.trans l4) pi'⟩
        | ct s4 => exact fun w4 σ4 l4 e4 o4 r4 => ⟨w4, s4, rfl, l13.trans l4, o4, r4, by rw [e4]; exact PoF.up (li3.trans l4) pi'⟩
        | bk s4 => exact fun w4 σ4 l4 e4 o4 r4 => pi' w4 σ4 (li3.trans l4) e4 o4 r4
        | rt v => exact fun w4 σ4 l4 e4 o4 r4 => pi' w4 σ4 (li3.trans l4) e4 o4 r4
        | rs c fs s4 => exact fun w4 σ4 cls d l4 e4 o4 r4 er => pi' w4 σ4 cls d (li3.trans l4) e4 o4 r4 er
  · have ei : i = xs.length := by omega
    subst ei
    rw [List.drop_length] at pi
    exact .inl ⟨y2, pi wi σ (Le.refl wi) rfl oi ri⟩
theorem x_whl {n : Nat} (h : PS X st (tWhile (tB Z fun σ h => test (rc σ h)) (tS Z rS))) :
    PS X st (tS Z fun σ h => whlL (fun σ h => test (rc σ h)) rS n σ h) := h.imp fun D σ H ⟨w, s0, e, ok, rs, p⟩ => by
  subst e
  refine ⟨fun m σ H => ∃ wi si, wi.H = H ∧ Ok Z.K wi ∧ RelS Z.K wi si σ ∧ PoF Z wi D (whlL (fun σ h => test (rc σ h)) rS m si wi.h), ⟨n, w, s0, rfl, ok, rs, p⟩, ?_⟩
  rintro m σ H ⟨wi, si, rfl, oi, ri, pi⟩
  cases m with
  | zero => exact pi.elim
  | succ m =>
    refine ⟨wi, si, rfl, oi, ri, ?_⟩
    have pi' : PoF Z wi D (match test (rc si wi.h) with
      | .ok b h1 => match b with
        | true => match rS si h1 with
          | .ok f h2 => match f with
            | .nx σ2 => whlL (fun σ h => test (rc σ h)) rS m σ2 h2
            | .ct σ2 => whlL (fun σ h => test (rc σ h)) rS m σ2 h2
            | .bk σ2 => .ok (.nx σ2) h2
            | .rt v => .ok (.rt v) h2
            | .rs c fs σ2 => .ok (.rs c fs σ2) h2
          | _ => .no
        | false => .ok (.nx si) h1
      | .ex c fs h1 => .ok (.rs c fs si) h1
      | .no => .no) := pi
    show PoB Z wi σ (test (rc si wi.h)) _
    cases q : test (rc si wi.h) with
    | no => rw [q] at pi'; exact pi'.elim
    | ex c fs h1 => rw [q] at pi'; exact fun w' cls d l e o er => pi' w' σ cls d l e o (ri.mono l) er
    | ok k h1 =>
      rw [q] at pi'
      simp only at pi'
      intro w1 k' l1 e1 o1 ek
      subst ek
      cases k with
      | false =>
        rw [if_neg Bool.false_ne_true]
        exact pi' w1 σ l1 e1 o1 (ri.mono l1)
      | true =>
        rw [if_pos rfl]
        simp only at pi'
        refine ⟨fun σ' H' => ∃ wi si, wi.H = H' ∧ Ok Z.K wi ∧ RelS Z.K wi si σ' ∧ PoF Z wi D (whlL (fun σ h => test (rc σ h)) rS m si wi.h), fun σ' H' ⟨wj, sj, a1, a2, a3, a4⟩ => ⟨m, Nat.lt_succ_self m, wj, sj, a1, a2, a3, a4⟩, ?_⟩
        refine ⟨w1, si, rfl, o1, ri.mono l1, ?_⟩
        rw [e1]
        cases q2 : rS si h1 with
        | no => rw [q2] at pi'; exact pi'.elim
        | ex c fs h4 => rw [q2] at pi'; exact pi'.elim
        | ok f h4 =>
          rw [q2] at pi'
          simp only at pi'
          cases f with
          | nx s4 => exact fun w4 σ4 l4 e4 o4 r4 => ⟨w4, s4, rfl, o4, r4, by rw [e4]; exact PoF.up (l1.trans l4) pi'⟩
          | ct s4 => exact fun w4 σ4 l4 e4 o4 r4 => ⟨w4, s4, rfl, o4, r4, by rw [e4]; exact PoF.up (l1.trans l4) pi'⟩
          | bk s4 => exact fun w4 σ4 l4 e4 o4 r4 => pi' w4 σ4 (l1.trans l4) e4 o4 r4
          | rt v => exact fun w4 σ4 l4 e4 o4 r4 => pi' w4 σ4 (l1.trans l4) e4 o4 r4
          | rs c fs s4 => exact fun w4 σ4 cls d l4 e4 o4 r4 er => pi' w4 σ4 cls d (l1.trans l4) e4 o4 r4 er

/-! ### list comprehensions -/
/-- no exception is let -/
abbrev Zc.mute (Z : Zc) : Zc := { Z with W := fun _ _ _ _ => False }
/-- D is a list that others change -/
def hidden (w : Wd) (D : Addr) (vs : List V) : Wd := { w with H := upd w.H D (.lst vs), F := fun a => w.F a ∨ a = D }
theorem hidden_le {w : Wd} {D : Addr} {vs : List V} (n : w.H D = none) : Le w (hidden w D vs) where
  pl := fun _ _ => rfl
  ln := Nat.le_refl _
  F := fun a => ⟨.inl, fun u _ h _ z => z.elim id fun e => by rw [e, n] at h; cases h⟩
  kp := fun a u nt h no => ⟨by show upd w.H D _ a = _; rw [upd_ne (ne_of_none h n)]; exact h, no⟩
theorem hidden_ok {w : Wd} {D : Addr} {vs : List V} (ok : Ok Z.K w) (n : w.H D = none) : Ok Z.K (hidden w D vs) where
  at_ := fun k xs e => by
    obtain ⟨us, h, r⟩ := ok.at_ k xs e
    exact ⟨us, by show upd w.H D _ (w.ρ k) = _; rw [upd_ne (ne_of_none h n)]; exact h, r.mono (hidden_le n)⟩
  inj := ok.inj
  fr := fun a f => by
    rcases f with f | rfl
    · obtain ⟨u, h⟩ := ok.fr a f
      exact ⟨u, by show upd w.H D _ a = _; rw [upd_ne (ne_of_none h n)]; exact h⟩
    · exact ⟨_, upd_same⟩
  no := fun a f ho => by
    rcases f with f | rfl
    · exact ok.no a f ho
    · exact (ok.free n).1 ho
  tb := tabs_lay ok.tb n
mutual
/-- trees stay where what they stand on stays -/
theorem Rp.move {K : Kt} {w w' : Wd} (k : ∀ a u, NT u → w.H a = some u → Fz w a → w'.H a = some u ∧ Fz w' a) : ∀ {x : PV} {v : V}, Rp K w x v → Rp K w' x v
  | _, _, .non => .non
  | _, _, .bl b => .bl b
  | _, _, .int i => .int i
  | _, _, .str s o => .str s o
  | _, _, .tup h r => .tup (h.elim (fun ⟨h1, h2⟩ => .inl (k _ _ nt_tup h1 h2)) .inr) (Rps.move k r)
  | _, _, .lst h f r => .lst (k _ _ nt_lst h f).1 (k _ _ nt_lst h f).2 (Rps.move k r)
  | _, _, .frz h r => .frz (h.elim (fun ⟨⟨o, h1⟩, h2⟩ => .inl ⟨⟨o, (k _ _ nt_frz h1 h2).1⟩, (k _ _ nt_frz h1 h2).2⟩) .inr) (Rps.move k r)
theorem Rps.move {K : Kt} {w w' : Wd} (k : ∀ a u, NT u → w.H a = some u → Fz w a → w'.H a = some u ∧ Fz w' a) : ∀ {xs : List PV} {vs : List V}, Rps K w xs vs → Rps K w' xs vs
  | _, _, .nil => .nil
  | _, _, .cons h r => .cons (Rp.move k h) (Rps.move k r)
end
/-- the hidden list is changed -/
def setD (w : Wd) (D : Addr) (us : List V) : Wd := { w with H := upd w.H D (.lst us) }
theorem setD_mv {w : Wd} {D : Addr} {us : List V} (f : w.F D) : ∀ a u, NT u → w.H a = some u → Fz w a → (setD w D us).H a = some u ∧ Fz (setD w D us) a := fun a u nt h z => by
  have ne : a ≠ D := fun e => z.2 (e ▸ f)
  exact ⟨by show upd w.H D _ a = _; rw [upd_ne ne]; exact h, z⟩
theorem setD_ok {w : Wd} {D : Addr} {us : List V} (ok : Ok Z.K w) (f : w.F D) : Ok Z.K (setD w D us) := by
  have nr : ∀ k xs, obAt w.h k = .lst xs → w.ρ k ≠ D := fun k xs e z => ok.no D f ⟨k, xs, e, z⟩
  refine ⟨fun k xs e => ?_, ok.inj, fun a fa => ?_, ok.no, let ⟨_, h⟩ := ok.fr D f; tabs_chg ok.tb h⟩
  · obtain ⟨vs, h, r⟩ := ok.at_ k xs e
    exact ⟨vs, by show upd w.H D _ (w.ρ k) = _; rw [upd_ne (nr k xs e)]; exact h, r.move (setD_mv f)⟩
  · by_cases z : a = D
    · exact ⟨_, by rw [z]; exact upd_same⟩
    · obtain ⟨u, h⟩ := ok.fr a fa
      exact ⟨u, by show upd w.H D _ a = _; rw [upd_ne z]; exact h⟩
theorem setD_le {w w1 : Wd} {D : Addr} {us : List V} (l : Le w1 w) (n : w1.H D = none) : Le w1 (setD w D us) where
  pl := l.pl
  ln := l.ln
  F := l.F
  kp := fun a u nt h no => by
    obtain ⟨h1, n1⟩ := l.kp a u nt h no
    exact ⟨by show upd w.H D _ a = _; rw [upd_ne (ne_of_none h n)]; exact h1, n1⟩
/-- the hidden list as if it were not yet there -/
def unhide (w : Wd) (D : Addr) (F0 : Addr → Prop) : Wd := { w with H := fun a => if a = D then none else w.H a, F := F0 }
theorem unhide_mv {w : Wd} {D : Addr} {F0 : Addr → Prop} (f : w.F D) (s : ∀ a, F0 a → w.F a) : ∀ a u, NT u → w.H a = some u → Fz w a → (unhide w D F0).H a = some u ∧ Fz (unhide w D F0) a := fun a u nt h z => by
  have ne : a ≠ D := fun e => z.2 (e ▸ f)
  exact ⟨by show (if a = D then none else w.H a) = _; rw [if_neg ne]; exact h, z.1, fun q => z.2 (s a q)⟩
theorem unhide_ok {w : Wd} {D : Addr} {F0 : Addr → Prop} (ok : Ok Z.K w) (f : w.F D) (s : ∀ a, F0 a → w.F a) (nf : ¬ F0 D) : Ok Z.K (unhide w D F0) := by
  have nr : ∀ k xs, obAt w.h k = .lst xs → w.ρ k ≠ D := fun k xs e z => ok.no D f ⟨k, xs, e, z⟩
  refine ⟨fun k xs e => ?_, ok.inj, fun a fa => ?_, fun a fa => ok.no a (s a fa), let ⟨xs, hx⟩ := ok.fr D f; tabs_keep ok.tb fun b o nl h => (if_neg fun z => nl xs (by rw [z, hx] at h; exact (Option.some.inj h).symm)).trans h⟩
  · obtain ⟨vs, h, r⟩ := ok.at_ k xs e
    exact ⟨vs, by show (if w.ρ k = D then none else w.H (w.ρ k)) = _; rw [if_neg (nr k xs e)]; exact h, r.move (unhide_mv f s)⟩
  · obtain ⟨u, h⟩ := ok.fr a (s a fa)
    exact ⟨u, by show (if a = D then none else w.H a) = _; rw [if_neg (show ¬ a = D from fun e => nf (by rw [← e]; exact fa))]; exact h⟩
theorem unhide_le {w w1 : Wd} {D : Addr} (l : Le w1 w) (n : w1.H D = none) : Le w1 (unhide w D w1.F) where
  pl := l.pl
  ln := l.ln
  F := fun a => ⟨id, fun _ _ _ _ h => h⟩
  kp := fun a u nt h no => by
    obtain ⟨h1, n1⟩ := l.kp a u nt h no
    exact ⟨by show (if a = D then none else w.H a) = _; rw [if_neg (ne_of_none h n)]; exact h1, n1⟩
theorem wipe_wipe (σ : L2.St) (vs : List Nat) : L2.wipe (L2.wipe σ vs) vs = L2.wipe σ vs := by
  refine List.ext_getElem? fun j => ?_
  rw [wipe_get, wipe_get, L2.wipe_length]
  by_cases h : j ∈ vs
  · rw [if_pos h, if_pos h]
  · rw [if_neg h, if_neg h]
/-- what is hidden stays -/
theorem Le.hid {w w' : Wd} (l : Le w w') (ok : Ok Z.K w) {D : Addr} {xs : List V} (f : w.F D) (h : w.H D = some (.lst xs)) : w'.H D = some (.lst xs) ∧ w'.F D := ⟨(l.kp D _ nt_lst h (ok.no D f)).1, (l.F D).1 f⟩
def lcR (m : Bool) (x : R (List PV)) : R PV := match x with
  | .ok ys h2 => match Nat.ble ys.length line with | true => mkL m ys h2 | false => .no
  | _ => .no
theorem lc_core {own : List Nat} {rp : PV → Sl → List Ob → R Sl} {m : Bool} {σ : L2.St} {Q : VK} {w : Wd} {s0 : Sl} (ok : Ok Z.K w) (rs : RelS Z.K w s0 σ)
    (p : PoE Z w σ (match rI s0 w.h with
      | .ok xs h1 => lcR m (lcL rp (fun σ h => test (rc σ h)) re (Mi.wipe s0 own) xs h1)
      | .ex c fs h1 => .ex c fs h1
      | .no => .no) Q) :
    tLc (tI Z rI) (tG Z.mute own rp) (tB Z.mute fun σ h => test (rc σ h)) (tE Z.mute re) own σ w.H Q := by
  refine ⟨w, s0, rfl, ok, rs, ?_⟩
  cases q : rI s0 w.h with
  | no => rw [q] at p; exact p.elim
  | ex c fs h1 => rw [q] at p; exact p
  | ok xs h1 =>
    rw [q] at p
    simp only at p
    intro w1 J l1 e1 o1 wk D nD
    cases q1 : lcL rp (fun σ h => test (rc σ h)) re (Mi.wipe s0 own) xs h1 with
    | no => rw [q1] at p; exact p.elim
    | ex c fs h2 => rw [q1] at p; exact p.elim
    | ok ys h2 =>
      rw [q1] at p
      unfold lcR at p
      simp only at p
      cases q2 : Nat.ble ys.length line with
      | false => rw [q2] at p; exact p.elim
      | true =>
        rw [q2] at p
        simp only at p
        have hys : ys.length ≤ sizeLine := by rw [← line_eq]; exact Nat.le_of_ble_eq_true q2
        have rs1 : RelS Z.K w1 (Mi.wipe s0 own) (L2.wipe σ own) := (rs.mono l1).wipe own
        refine ⟨fun i m H => m = xs.length - i ∧ i ≤ xs.length ∧ ∃ wi accs accV rest, wi.H = H ∧ Le w1 wi ∧ Ok Z.K wi ∧ wi.F D ∧ wi.H D = some (.lst accV) ∧ Rps Z.K wi accs accV ∧
            lcL rp (fun σ h => test (rc σ h)) re (Mi.wipe s0 own) (xs.drop i) wi.h = .ok rest h2 ∧ accs ++ rest = ys,
          ⟨xs.length, by simp, Nat.zero_le _, hidden w1 D [], [], [], ys, rfl, hidden_le nD, hidden_ok o1 nD, .inr rfl, upd_same, .nil, by rw [List.drop_zero]; show lcL _ _ _ _ _ w1.h = _; rw [e1]; exact q1, rfl⟩, ?_⟩
        rintro i m H ⟨rfl, hi, wi, accs, accV, rest, rfl, li, oi, fi, hD, ri, qi, ei⟩
        obtain ⟨y1, y2⟩ := wk wi li oi
        by_cases hlt : i < xs.length
        · rw [drop_at hlt] at qi
          obtain ⟨go, yl⟩ := y1 i xs[i] (List.getElem?_eq_getElem hlt)
          refine .inr ⟨go, fun H' => ∃ wi accs accV rest, wi.H = H' ∧ Le w1 wi ∧ Ok Z.K wi ∧ wi.F D ∧ wi.H D = some (.lst accV) ∧ Rps Z.K wi accs accV ∧
            lcL rp (fun σ h => test (rc σ h)) re (Mi.wipe s0 own) (xs.drop (i + 1)) wi.h = .ok rest h2 ∧ accs ++ rest = ys,
            fun H' z => ⟨xs.length - (i + 1), by omega, rfl, hlt, z⟩, fun V H' y => ?_⟩
          obtain ⟨w2, l2, e2, rfl, _, o2, rv⟩ := yl V H' y
          have qi' : (match rp xs[i] (Mi.wipe s0 own) wi.h with
            | .ok σ1 h1 => match test (rc σ1 h1) with
              | .ok true h2 => match re σ1 h2 with
                | .ok x h3 => match x.isD with
                  | true => match lcL rp (fun σ h => test (rc σ h)) re (Mi.wipe s0 own) (xs.drop (i + 1)) h3 with
                    | .ok xs h4 => .ok (x :: xs) h4
                    | _ => .no
                  | false => .no
                | _ => .no
              | .ok false h2 => lcL rp (fun σ h => test (rc σ h)) re (Mi.wipe s0 own) (xs.drop (i + 1)) h2
              | _ => .no
            | _ => .no) = R.ok rest h2 := qi
          refine ⟨w2, Mi.wipe s0 own, xs[i], rfl, o2, rs1.mono (li.trans l2), rv, ?_⟩
          rw [e2]
          cases a1 : rp xs[i] (Mi.wipe s0 own) wi.h with
          | no => rw [a1] at qi'; cases qi'
          | ex c fs h3 => rw [a1] at qi'; cases qi'
          | ok s3 h3 =>
            rw [a1] at qi'
            simp only at qi'
            intro w3 σ3 l3 e3 o3 r3 z3
            refine ⟨z3.trans (wipe_wipe σ own), w3, s3, rfl, o3, r3, ?_⟩
            show PoB Z.mute w3 σ3 (test (rc s3 w3.h)) _
            rw [e3]
            cases a2 : test (rc s3 h3) with
            | no => rw [a2] at qi'; cases qi'
            | ex c fs h4 => rw [a2] at qi'; cases qi'
            | ok k h4 =>
              rw [a2] at qi'
              intro w4 k' l4 e4 o4 ek
              subst ek
              have l14 : Le w1 w4 := ((li.trans l2).trans l3).trans l4
              have li4 : Le wi w4 := (l2.trans l3).trans l4
              obtain ⟨hD4, f4⟩ := li4.hid oi fi hD
              cases k with
              | false =>
                rw [if_neg Bool.false_ne_true]
                exact ⟨w4, accs, accV, rest, rfl, l14, o4, f4, hD4, ri.mono li4, by rw [e4]; exact qi', ei⟩
              | true =>
                rw [if_pos rfl]
                simp only at qi'
                refine ⟨w4, s3, rfl, o4, r3.mono l4, ?_⟩
                rw [e4]
                cases a3 : re s3 h4 with
                | no => rw [a3] at qi'; cases qi'
                | ex c fs h5 => rw [a3] at qi'; cases qi'
                | ok x h5 =>
                  rw [a3] at qi'
                  simp only at qi'
                  cases a4 : x.isD with
                  | false => rw [a4] at qi'; cases qi'
                  | true =>
                    rw [a4] at qi'
                    simp only at qi'
                    cases a5 : lcL rp (fun σ h => test (rc σ h)) re (Mi.wipe s0 own) (xs.drop (i + 1)) h5 with
                    | no => rw [a5] at qi'; cases qi'
                    | ex c fs h6 => rw [a5] at qi'; cases qi'
                    | ok rest' h6 =>
                      rw [a5] at qi'
                      simp only [R.ok.injEq] at qi'
                      obtain ⟨rfl, rfl⟩ := qi'
                      intro w5 V5 l5 e5 o5 r5
                      obtain ⟨hD5, f5⟩ := l5.hid o4 f4 hD4
                      have ri5 := ri.mono (li4.trans l5)
                      have lenA : accs.length < sizeLine := by
                        have := congrArg List.length ei
                        rw [List.length_append, List.length_cons] at this
                        omega
                      refine ⟨accV, hD5, by rw [← ri5.length]; exact lenA, setD w5 D (accV ++ [V5]), accs ++ [x], accV ++ [V5], rest', rfl, setD_le (l14.trans l5) nD, setD_ok o5 f5, f5, upd_same, ?_, ?_, ?_⟩
                      · exact (ri5.append (.cons (r5.data a4) .nil)).move (setD_mv f5)
                      · show lcL _ _ _ _ _ w5.h = _
                        rw [e5]; exact a5
                      · rw [List.append_assoc]; exact ei
        · have e : i = xs.length := by omega
          subst e
          rw [List.drop_length] at qi
          have qi2 : R.ok [] wi.h = R.ok rest h2 := qi
          simp only [R.ok.injEq] at qi2
          obtain ⟨rfl, rfl⟩ := qi2
          rw [List.append_nil] at ei
          subst ei
          have nf : ¬ w1.F D := (o1.free nD).2
          have sub : ∀ a, w1.F a → wi.F a := fun a => (li.F a).1
          have ok0 := unhide_ok oi fi sub nf
          have n0 : (unhide wi D w1.F).H D = none := if_pos rfl
          have p0 : PoE Z (unhide wi D w1.F) σ (mkL m accs (unhide wi D w1.F).h) Q := Po.up (l1.trans (unhide_le li nD)) p
          have z := fresh_mkL ok0 (ri.move (unhide_mv fi sub)) p0 D n0
          have eH : upd (unhide wi D w1.F).H D (.lst accV) = wi.H := by
            funext a
            by_cases ha : a = D
            · subst ha; rw [upd_same]; exact hD.symm
            · rw [upd_ne ha]; show (if a = D then none else wi.H a) = _; rw [if_neg ha]
          rw [eH] at z
          exact .inl ⟨y2, z⟩
end
end Mi

/-! Mi10: calls of defs; a def's promise from its body. -/
namespace Mi
open PySem L2 PySem.Spec PyProof.Rows
variable {Z : Zc}
def notStarB : Expr → Bool
  | .Starred .. => false
  | _ => true
theorem star_one {e : Expr} {env : Env} (h : notStarB e = true) : starEach [e] env = (false, eval e env) :: starEach [] env := by
  cases e <;> first | rfl | cases h

abbrev ERt := Nat → List PV → Wd → Value → Option Addr → Prop
/-- what a heap keeps for trees -/
def Mv (w w' : Wd) : Prop := ∀ a u, NT u → w.H a = some u → Fz w a → w'.H a = some u ∧ Fz w' a
theorem Le.mv {w w' : Wd} (l : Le w w') : Mv w w' := fun a u nt h f => l.fz nt h f
def ERok (ER : ERt) : Prop := ∀ {c fs w w' cls d}, Mv w w' → ER c fs w cls d → ER c fs w' cls d

/-- the promise of a def that does what cl does -/
def spF (K : Kt) (ER : ERt) (cl : List PV → List Ob → R PV) : Sp := fun vs H Q E => ∃ w args, w.H = H ∧ Ok K w ∧ Rvs K w args vs ∧ PoE ⟨K, ER, fun c d _ H => E c d H⟩ w [] (cl args w.h) Q
theorem Po.re {α β : Type} {Rel : Wd → α → β → Prop} {Z Z' : Zc} {w : Wd} {σ σ' : L2.St} {r : R α} {Q : β → Hp → Prop} (hK : Z.K = Z'.K) (hE : Z.ER = Z'.ER) (hW : ∀ cls d H, Z.W cls d σ H → Z'.W cls d σ' H) (h : Po Z Rel w σ r Q) : Po Z' Rel w σ' r Q := by
  cases r with
  | ok a h' => exact fun w' b l e o q => h w' b l e (hK ▸ o) q
  | ex c fs h' => exact fun w' cls d l e o q => hW _ _ _ (h w' cls d l e (hK ▸ o) (hE ▸ q))
  | no => exact h
section
variable {X : Cx} {x : Str} {p pos : Pos} {e : Expr} {es : List Expr} {rs rs2 : Sl → List Ob → R (List PV)} {k : Nat} {f : Addr} {fd : FuncData} {ps : List Str} {cl : List PV → List Ob → R PV}
theorem call_core {σ : L2.St} {Q : VK} {w : Wd} {st : Sl} (ok : Ok Z.K w) (rS : RelS Z.K w st σ) (p : PoE Z w σ (argsR (rs st w.h) cl) Q) :
    tA Z rs σ w.H fun vs H1 => spF Z.K Z.ER cl vs H1 Q (WE Z.W σ) := by
  refine ⟨w, st, rfl, ok, rS, ?_⟩
  cases q : rs st w.h with
  | no => rw [q] at p; exact p.elim
  | ex c fs h1 => rw [q] at p; exact p
  | ok xs h1 =>
    rw [q] at p
    intro w1 V l1 e1 ok1 r1
    refine ⟨w1, xs, rfl, ok1, r1, ?_⟩
    rw [e1]
    exact Po.re rfl rfl (fun _ _ _ h => h) (Po.up l1 p)
/-- f(e, ..) -/
theorem c_call (F : FnOk X.prog X.w X.K X.mg X.base (L2.CX X.prog X.w) k f fd ps (spF Z.K Z.ER cl)) (hr : Room k X.A) (hg : Gl X x) (hm : X.mg x = some (.ref f)) (hk : PySem.W.keepIn X.K (.ref f) = true) (hb : Binds X.K fd ps []) (tk : Takes X Z.W)
    (ha : PA X (e :: es) (tA Z rs)) (hdb : (x == ("__debug__" : Str)) = false) (he : starEach (e :: es) X.env = (false, eval e X.env) :: starEach es X.env) (hpl : (backTo pos (starEach es X.env)).any (·.1) = false) :
    PE X (.Call (.Name x p) (e :: es) [] pos) (tE Z fun σ h => argsR (rs σ h) cl) :=
  (pe_callS F hr hg hm hk hb (fun σ => passAt tk σ) ha hdb he hpl).imp fun σ H Q ⟨w, st, e, ok, rS, p⟩ => by
    subst e
    exact call_core ok rS p
/-- f() -/
theorem c_call0 (F : FnOk X.prog X.w X.K X.mg X.base (L2.CX X.prog X.w) k f fd ps (spF Z.K Z.ER cl)) (hr : Room k X.A) (hg : Gl X x) (hm : X.mg x = some (.ref f)) (hk : PySem.W.keepIn X.K (.ref f) = true) (hb : Binds X.K fd ps []) (tk : Takes X Z.W)
    (hdb : (x == ("__debug__" : Str)) = false) : PE X (.Call (.Name x p) [] [] pos) (tE Z fun σ h => argsR (.ok [] h) cl) := by
  refine ⟨fun pins s σ H Q I ⟨w, st, e, ok, rS, p⟩ => ?_⟩
  subst e
  refine wpAny_Call_Name_kw (ld_glob I hg hm ?_ hdb)
  refine PySem.W.callWith_K0 I.kIn hk (run_fnS (us := []) (E := WE Z.W) F hr hb (passAt tk σ) I .nil ?_)
  exact ⟨w, [], rfl, ok, .nil, Po.re rfl rfl (fun _ _ _ h => h) p⟩

/-! ### a class of errors with an __init__ that keeps its argument; raise -/
def spInit (K : PySem.W.Frag) (fld : Str) : Sp := fun vs H Q _ => ∃ (a C : Addr) (y : V), vs = [.ref a, y] ∧ OexC K C ∧ PySem.W.findIn K (.ref C) fld = some none ∧ H a = some (exo a C none) ∧ ∀ d, H d = none → d ≠ a → Q .non (upd (upd H d (exd d [(fld, y)])) a (exo a C (some d)))
structure ExC (K : Kt) (mg : Str → Option Value) (ER : ERt) (c : Nat) (x fld : Str) : Prop where
  ex : ∃ (C fI : Addr) (fd : FuncData) (ps : List Str), mg x = some (.ref C) ∧ OexC K.fr C ∧ PySem.W.findIn K.fr (.ref C) "__init__" = some (some (.ref fI)) ∧ PySem.W.typeIn K.fr (.ref fI) = some (.type "function") ∧ PySem.W.findIn K.fr (.ref C) fld = some none ∧
    (∀ (P : Program) (w : World) (base : Heap), FnOk P w K.fr mg base CX0 1 fI fd ps (spInit K.fr fld)) ∧ Binds K.fr fd ps [] ∧
    ∀ (w : Wd) (v : PV) (vv : V) (dd : Addr), Rp K w v vv → w.H dd = some (.xd [(fld, vv)]) → Fz w dd → ER c [v] w (.ref C) (some dd)
def rseR (c : Nat) (σ : Sl) (v : PV) (h1 : List Ob) : R Fl := match v.isD with | true => .ok (.rs c [v] σ) h1 | false => .no
theorem x_rse {c : Nat} {fld : Str} {a : Expr} {ra : Sl → List Ob → R PV} {pos2 : Pos} (E : ExC Z.K X.mg Z.ER c x fld) (hK : X.K = Z.K.fr) (hc : X.calm = true) (hr : Room 2 X.A) (hg : Gl X x) (tk : Takes X Z.W) (ha : PE X a (tE Z ra)) (hdb : (x == ("__debug__" : Str)) = false) (hs : notStarB a = true) :
    PS X (.Raise (some (.Call (.Name x p) [a] [] pos)) none pos2) (tS Z fun σ h => exR (ra σ h) σ (rseR c σ)) := by
  obtain ⟨C, fI, fd, ps, e1, e2, e3, e4, e5, e6, e7, e8⟩ := E.ex
  refine (ps_raise hc tk (pmk_oex (k := 1) (by rw [hK]; exact e2) (by rw [hK]; exact e3) (by rw [hK]; exact e4) (by rw [hK]; exact e6 _ _ _) hr (by rw [hK]; exact e7) .nil pass0 hg e1 (pa_cons ha pa_nil (star_one hs)) hdb (star_one hs) rfl)).imp fun D σ H ⟨w, st, e, ok, rS, p⟩ => ?_
  subst e
  refine ⟨w, st, rfl, ok, rS, ex_core rS p fun v h1 _ p w' b l e o r => ?_⟩
  unfold rseR at p
  cases hd : v.isD with
  | false => rw [hd] at p; exact p.elim
  | true =>
    rw [hd] at p
    refine ⟨(by decide : 1 ≤ 1000), fun a0 n0 => ⟨a0, C, b, rfl, e2, e5, upd_same, fun d hd0 hne => ⟨rfl, d, [(fld, b)], upd_same, (upd_ne hne).trans upd_same, ?_, ?_⟩⟩⟩
    · rw [upd_ne hne] at hd0; exact hd0
    · have nd : w'.H d = none := by rw [upd_ne hne] at hd0; exact hd0
      have eH : upd (del (upd (upd (upd w'.H a0 (exo a0 C none)) d (exd d [(fld, b)])) a0 (exo a0 C (some d))) a0) d (.xd [(fld, b)]) = (lay w' d (.xd [(fld, b)])).H := by
        funext z
        show _ = upd w'.H d (.xd [(fld, b)]) z
        by_cases hz : z = d
        · rw [hz, upd_same, upd_same]
        · rw [upd_ne hz, upd_ne hz]
          by_cases ha0 : z = a0
          · rw [ha0, del_same]; exact n0.symm
          · rw [del_ne ha0, upd_ne ha0, upd_ne hz, upd_ne ha0]
      rw [eH]
      exact p (lay w' d (.xd [(fld, b)])) σ (.ref C) (some d) (l.trans (lay_le o nd _)) e (lay_ok o nd _) (rS.mono (l.trans (lay_le o nd _))) (e8 _ _ _ _ ((r.data hd).mono (lay_le o nd _)) upd_same (lay_fz o nd _))

/-! ### keyword arguments -/
theorem permOf_length {α : Type} {vs : List α} : ∀ {is : List Nat} {us : List α}, permOf vs is = some us → us.length = is.length
  | [], _, e => by simp only [permOf, Option.some.injEq] at e; subst e; rfl
  | i :: is, us, e => by
    unfold permOf at e
    split at e
    · rename_i v r e1 e2
      cases e
      simp [permOf_length e2]
    · cases e
theorem permOf_rel {α β : Type} {R : α → β → Prop} {vs : List α} {us : List β} (h : ∀ (i : Nat) v, vs[i]? = some v → ∃ u, us[i]? = some u ∧ R v u) : ∀ {is : List Nat} {a : List α}, permOf vs is = some a → ∃ b, permOf us is = some b ∧ Paired R a b
  | [], _, e => by simp only [permOf, Option.some.injEq] at e; subst e; exact ⟨[], rfl, .nil⟩
  | i :: is, a, e => by
    unfold permOf at e
    split at e
    · rename_i v r e1 e2
      cases e
      obtain ⟨u, h1, h2⟩ := h i v e1
      obtain ⟨b, h3, h4⟩ := permOf_rel h e2
      exact ⟨u :: b, by unfold permOf; rw [h1, h3], .cons h2 h4⟩
    · cases e
/-- how np positional arguments and the keywords ks come to the parameters ps -/
def KwOk (fd : FuncData) (ps : List Str) (np : Nat) (ks : List Str) (perm : List Nat) : Prop :=
  ∀ (s : Shared) (us ws zs : List Value), us.length = np → ws.length = ks.length → permOf (us ++ ws) perm = some zs → BindsTo s fd ⟨us, ks.zip ws⟩ (ps.zip zs)
theorem paired_rvs {K : Kt} {w : Wd} : ∀ {xs : List PV} {vs : List V}, Paired (Rv K w) xs vs → Rvs K w xs vs
  | _, _, .nil => .nil
  | _, _, .cons h t => .cons h (paired_rvs t)
theorem vals_get {vs : List V} {us : List Value} (r : Vals vs us) : ∀ (i : Nat) v, vs[i]? = some v → ∃ u, us[i]? = some u ∧ RelV v u := fun i v e => r.get e
theorem rvs_get {K : Kt} {w : Wd} {xs : List PV} {vs : List V} (r : Rvs K w xs vs) : ∀ (i : Nat) v, xs[i]? = some v → ∃ u, vs[i]? = some u ∧ Rv K w v u := fun i v e => r.get e
def kwR (x : R (List PV)) (y : List Ob → R (List PV)) (perm : List Nat) (cl : List PV → List Ob → R PV) : R PV := match x with
  | .ok xs h1 => match y h1 with
    | .ok ys h2 => match permOf (xs ++ ys) perm with | some zs => cl zs h2 | none => .no
    | .ex c fs h2 => .ex c fs h2
    | .no => .no
  | .ex c fs h1 => .ex c fs h1
  | .no => .no
variable {kws : List Keyword} {ks : List Str} {perm : List Nat}
theorem kw_run {np : Nat} {pins : List (Addr × Obj)} {σ : L2.St} {s : Shared} {Q : VK} {us ws : List Value} {vs zs : List V} {w : Wd} {xs ys : List PV} (F : FnOk X.prog X.w X.K X.mg X.base (L2.CX X.prog X.w) k f fd ps (spF Z.K Z.ER cl)) (hr : Room k X.A) (hkw : KwOk fd ps np ks perm) (tk : Takes X Z.W)
    (I : Inv X pins σ w.H s) (ok : Ok Z.K w) (r : Vals vs us) (rz : Vals zs ws) (rx : Rvs Z.K w xs vs) (ry : Rvs Z.K w ys zs) (hn : xs.length = np) (hk : ys.length = ks.length)
    (p : PoE Z w σ (match permOf (xs ++ ys) perm with | some zs => cl zs w.h | none => .no) Q) : wpAny (model X.prog X.w) X.A (PySem.call (.ref f) us (ks.zip ws)) (EP X pins σ Q) X.xe s := by
  cases q : permOf (xs ++ ys) perm with
  | none => rw [q] at p; exact p.elim
  | some as =>
    rw [q] at p
    obtain ⟨av, e1, ra⟩ := permOf_rel (rvs_get (rx.append ry)) q
    obtain ⟨au, e2, rb⟩ := permOf_rel (vals_get (r.append rz)) e1
    have sp : spF Z.K Z.ER cl av w.H Q (WE Z.W σ) := ⟨w, as, rfl, ok, paired_rvs ra, Po.re rfl rfl (fun _ _ _ h => h) p⟩
    have hb := hkw s us ws au (by rw [← r.length, ← rx.length]; exact hn) (by rw [← rz.length, ← ry.length]; exact hk) e2
    refine wpAny_call (codeAny_mono (F.run X.A X.stack s w.H ⟨us, ks.zip ws⟩ au av Q (WE Z.W σ) hr I.env0 hb rb sp) fun r s' hq => ?_)
    cases r with
    | error e => exact passAt tk σ pins w.H s e s' I hq
    | ok fl =>
      cases fl with
      | ret u => exact I.after hq
      | next => exact False.elim hq
      | brk => exact False.elim hq
      | cont => exact False.elim hq
theorem c_kw (F : FnOk X.prog X.w X.K X.mg X.base (L2.CX X.prog X.w) k f fd ps (spF Z.K Z.ER cl)) (hr : Room k X.A) (hg : Gl X x) (hm : X.mg x = some (.ref f)) (hk : PySem.W.keepIn X.K (.ref f) = true) (hkw : KwOk fd ps (es.length + 1) ks perm) (tk : Takes X Z.W)
    (ha : PA X (e :: es) (tA Z rs)) (hkk : PK X kws (tA Z rs2)) (hdb : (x == ("__debug__" : Str)) = false) (he : starEach (e :: es) X.env = (false, eval e X.env) :: starEach es X.env)
    (hall : (backToKw pos (keywordEach kws X.env)).all (·.1.isSome) = true) (hks : (backToKw pos (keywordEach kws X.env)).filterMap (·.1) = ks)
    (hpl : ((backTo pos (starEach (e :: es) X.env)).any (·.1) || (backToKw pos (keywordEach kws X.env)).any (·.1.isNone)) = false)
    (hl1 : ∀ σ h ys h', rs σ h = .ok ys h' → ys.length = es.length + 1) (hl2 : ∀ σ h ys h', rs2 σ h = .ok ys h' → ys.length = ks.length) :
    PE X (.Call (.Name x p) (e :: es) kws pos) (tE Z fun σ h => kwR (rs σ h) (rs2 σ) perm cl) := by
  refine ⟨fun pins s σ H Q I ⟨w, st, ew, ok, rS, pp⟩ => ?_⟩
  subst ew
  refine wpAny_Call_Name_kw (ld_glob I hg hm ?_ hdb)
  have key : tA Z rs σ w.H fun vs H1 => tA Z rs2 σ H1 fun zs H2 => ∃ w2 xs ys, w2.H = H2 ∧ Ok Z.K w2 ∧ Rvs Z.K w2 xs vs ∧ Rvs Z.K w2 ys zs ∧ xs.length = es.length + 1 ∧ ys.length = ks.length ∧ PoE Z w2 σ (match permOf (xs ++ ys) perm with | some zs => cl zs w2.h | none => .no) Q := by
    refine ⟨w, st, rfl, ok, rS, ?_⟩
    cases q : rs st w.h with
    | no => simp only [kwR, q] at pp; exact pp.elim
    | ex c fs h1 => simp only [kwR, q] at pp; exact pp
    | ok xs h1 =>
      simp only [kwR, q] at pp
      intro w1 V l1 e1 ok1 r1
      refine ⟨w1, st, rfl, ok1, rS.mono l1, ?_⟩
      rw [e1]
      cases q2 : rs2 st h1 with
      | no => simp only [q2] at pp; exact pp.elim
      | ex c fs h2 => simp only [q2] at pp; exact Po.up l1 pp
      | ok ys h2 =>
        simp only [q2] at pp
        intro w2 U l2 e2 ok2 r2
        exact ⟨w2, xs, ys, rfl, ok2, r1.mono l2, r2, hl1 _ _ _ _ q, hl2 _ _ _ _ q2, by rw [e2]; exact Po.up (l1.trans l2) pp⟩
  refine PySem.W.callWith_KW (h₀ := X.base) I.ok.mod.kin hk hall (thn (ha.run pos pins s σ _ _ I key) fun us s1 ⟨vs, H1, I1, r, q⟩ => ?_) hpl he
  refine thn (hkk.run pos pins s1 σ H1 _ I1 q) fun ws s2 ⟨zs, H2, I2, rz, w2, xs, ys, e2, ok2, rx, ry, n1, n2, p2⟩ => ⟨I2.kIn, ?_⟩
  subst e2
  rw [hks]
  exact kw_run F hr hkw tk I2 ok2 r rz rx ry n1 n2 p2
theorem c_kw0 (F : FnOk X.prog X.w X.K X.mg X.base (L2.CX X.prog X.w) k f fd ps (spF Z.K Z.ER cl)) (hr : Room k X.A) (hg : Gl X x) (hm : X.mg x = some (.ref f)) (hk : PySem.W.keepIn X.K (.ref f) = true) (hkw : KwOk fd ps 0 ks perm) (tk : Takes X Z.W)
    (hkk : PK X kws (tA Z rs2)) (hdb : (x == ("__debug__" : Str)) = false)
    (hall : (backToKw pos (keywordEach kws X.env)).all (·.1.isSome) = true) (hks : (backToKw pos (keywordEach kws X.env)).filterMap (·.1) = ks)
    (hpl : ((backTo pos (starEach [] X.env)).any (·.1) || (backToKw pos (keywordEach kws X.env)).any (·.1.isNone)) = false)
    (hl2 : ∀ σ h ys h', rs2 σ h = .ok ys h' → ys.length = ks.length) :
    PE X (.Call (.Name x p) [] kws pos) (tE Z fun σ h => kwR (.ok [] h) (rs2 σ) perm cl) := by
  refine ⟨fun pins s σ H Q I ⟨w, st, ew, ok, rS, pp⟩ => ?_⟩
  subst ew
  refine wpAny_Call_Name_kw (ld_glob I hg hm ?_ hdb)
  have key : tA Z rs2 σ w.H fun zs H2 => ∃ w2 ys, w2.H = H2 ∧ Ok Z.K w2 ∧ Rvs Z.K w2 ys zs ∧ ys.length = ks.length ∧ PoE Z w2 σ (match permOf ([] ++ ys) perm with | some zs => cl zs w2.h | none => .no) Q := by
    refine ⟨w, st, rfl, ok, rS, ?_⟩
    cases q2 : rs2 st w.h with
    | no => simp only [kwR, q2] at pp; exact pp.elim
    | ex c fs h2 => simp only [kwR, q2] at pp; exact pp
    | ok ys h2 =>
      simp only [kwR, q2] at pp
      intro w2 U l2 e2 ok2 r2
      exact ⟨w2, ys, rfl, ok2, r2, hl2 _ _ _ _ q2, by rw [e2]; exact Po.up l2 pp⟩
  refine PySem.W.callWith_KW0 (h₀ := X.base) I.ok.mod.kin hk hall (thn (hkk.run pos pins s σ _ _ I key) fun ws s2 ⟨zs, H2, I2, rz, w2, ys, e2, ok2, ry, n2, p2⟩ => ⟨I2.kIn, ?_⟩) hpl
  subst e2
  rw [hks]
  exact kw_run F hr hkw tk I2 ok2 (us := []) (vs := []) .nil rz (xs := []) .nil ry rfl n2 p2
theorem k_nil : PK X [] (tA Z fun _ h => .ok [] h) := ⟨fun pos pins s σ H Q I ⟨w, st, e, ok, rS, p⟩ => pk_nil.run pos pins s σ H Q I (by subst e; exact p.here ok .nil)⟩
theorem k_cons {nm : Option Str} {kpos : Pos} {ra : Sl → List Ob → R PV} (ha : PE X e (tE Z ra)) (hr : PK X kws (tA Z rs)) : PK X (⟨nm, e, kpos⟩ :: kws) (tA Z fun σ h => consR (ra σ h) (rs σ)) := ⟨fun pos pins s σ H Q I ⟨w, st, e, ok, rS, p⟩ => (pk_cons ha hr).run pos pins s σ H Q I (by subst e; exact consR_core ok rS p)⟩
end
end Mi

/-! Mi11: a def keeps the promise that the interpreter's run tells. -/
namespace Mi
open PySem L2 PySem.Spec PyProof.Rows

theorem nth_map : ∀ {args : List PV} {n i : Nat} {v : PV}, nth (startSl args n) i = some v → args[i]? = some v
  | [], n, i, v, e => by
    exfalso
    have : ∀ n i, nth (List.replicate n (none : Option PV)) i = none := fun n => by
      induction n with
      | zero => intro i; rfl
      | succ n ih =>
        intro i
        cases i with
        | zero => rfl
        | succ i => exact ih i
    have e' : nth (List.replicate n (none : Option PV)) i = some v := e
    rw [this] at e'; cases e'
  | a :: as, n, 0, v, e => by
    have e' : some a = some v := e
    cases e'; rfl
  | a :: as, n, i + 1, v, e => by
    have := nth_map (args := as) (n := n) (i := i) (v := v) e
    simpa using this
theorem start_rel {K : Kt} {w : Wd} {args : List PV} {vs : List V} {N : List Str} {n : Nat} (r : Rvs K w args vs) (h : args.length + n = N.length) : RelS K w (startSl args n) (L2.start N vs) := by
  refine ⟨?_, fun i v e => ?_⟩
  · unfold startSl L2.start
    rw [List.length_append, List.length_append, List.length_map, List.length_map, List.length_replicate, List.length_replicate, ← r.length]
    omega
  · obtain ⟨u, h1, h2⟩ := r.get (nth_map e)
    refine ⟨u, ?_, h2⟩
    unfold L2.start
    have hl : i < vs.length := by
      by_cases hlt : i < vs.length
      · exact hlt
      · rw [List.getElem?_eq_none (by omega)] at h1; cases h1
    rw [List.getElem?_append_left (by simpa using hl), List.getElem?_map, h1]
    rfl

/-- the callee's world: nothing to be changed is told -/
def inner (w : Wd) : Wd := ⟨w.ρ, [], w.H, fun a => w.F a ∨ Own w a⟩
theorem not_own_nil {ρ : Nat → Addr} {H : Hp} {F : Addr → Prop} {a : Addr} : ¬ Own ⟨ρ, [], H, F⟩ a := fun ⟨k, xs, e, _⟩ => by
  have e' : obAt [] k = Ob.lst xs := e
  simp [obAt] at e'
theorem inner_mv (w : Wd) : Mv w (inner w) := fun a u _ h f => ⟨h, not_own_nil, fun z => z.elim f.2 f.1⟩
theorem inner_ok {K : Kt} {w : Wd} (ok : Ok K w) : Ok K (inner w) := ⟨fun k xs e => by
    have e' : obAt [] k = Ob.lst xs := e
    simp [obAt] at e', fun j k xs ys e => by
    have e' : obAt [] j = Ob.lst xs := e
    simp [obAt] at e', fun a f => by
    rcases f with f | ⟨k, xs, e, rfl⟩
    · exact ok.fr a f
    · obtain ⟨vs, h, _⟩ := ok.at_ k xs e
      exact ⟨_, h⟩, fun a _ => not_own_nil, ok.tb⟩
/-- back from it -/
def outer (w w' : Wd) : Wd := ⟨w.ρ, w.h, w'.H, w.F⟩
section
variable {K : Kt} {w w' : Wd}
theorem own_outer {a : Addr} : Own (outer w w') a ↔ Own w a := Iff.rfl
theorem outer_mv (l : Le (inner w) w') : Mv w' (outer w w') := fun a u _ h f =>
  ⟨h, fun z => f.2 ((l.F a).1 (.inr z)), fun z => f.2 ((l.F a).1 (.inl z))⟩
theorem outer_le (l : Le (inner w) w') : Le w (outer w w') where
  pl := fun _ _ => rfl
  ln := Nat.le_refl _
  F := fun a => ⟨id, fun _ _ _ _ h => h⟩
  kp := fun a u nt h no => ⟨(l.kp a u nt h not_own_nil).1, no⟩
theorem outer_ok (ok : Ok K w) (l : Le (inner w) w') (t : LamX.Tabs K.T w'.H) : Ok K (outer w w') where
  tb := t
  at_ := fun k xs e => by
    obtain ⟨vs, h, r⟩ := ok.at_ k xs e
    exact ⟨vs, (l.kp _ _ nt_lst h not_own_nil).1, r.move (outer_le l).mv⟩
  inj := ok.inj
  fr := fun a f => by
    obtain ⟨u, h⟩ := ok.fr a f
    exact ⟨u, (l.kp _ _ nt_lst h not_own_nil).1⟩
  no := ok.no
theorem Rp.dataMove (mv : Mv w w') {x : PV} {v : V} (r : Rv K w x v) (d : x.isD = true) : Rv K w' x v := .of ((r.data d).move mv)
end

/-- a list that the callee made and that may be changed is handed back: under the next place -/
def give (w w' : Wd) (D : Addr) (xs : List PV) : Wd := ⟨fun k => if k = w.h.length then D else w.ρ k, w.h ++ [.lst xs], w'.H, w.F⟩
theorem give_own {w w' : Wd} {D : Addr} {xs : List PV} {a : Addr} (h : Own (give w w' D xs) a) : Own w a ∨ a = D := by
  rcases own_app (w := w) (ρ' := fun k => if k = w.h.length then D else w.ρ k) (fun k hk => if_neg (Nat.ne_of_lt hk)) h with z | ⟨z, _⟩
  · exact .inl z
  · exact .inr (z.trans (if_pos rfl))
/-- a world to which the list at D is given: nothing that stood is D -/
theorem give_le {w w' : Wd} {D : Addr} {xs : List PV} (kp : ∀ a u, NT u → w.H a = some u → ¬ Own w a → w'.H a = some u ∧ a ≠ D) : Le w (give w w' D xs) where
  pl := fun k hk => if_neg (Nat.ne_of_lt hk)
  ln := by show w.h.length ≤ (w.h ++ [Ob.lst xs]).length; simp
  F := fun a => ⟨id, fun _ _ _ _ h => h⟩
  kp := fun a u nt h no => ⟨(kp a u nt h no).1, fun z => (give_own z).elim no (kp a u nt h no).2⟩
theorem give_ok {K : Kt} {w w' : Wd} {D : Addr} {xs : List PV} {vs : List V} (hD : w'.H D = some (.lst vs)) (nO : ¬ Own w D) (nF : ¬ w.F D) (inj : ∀ j k xs ys, obAt w.h j = .lst xs → obAt w.h k = .lst ys → w.ρ j = w.ρ k → j = k)
    (at_ : ∀ k ys, obAt w.h k = .lst ys → ∃ us, w'.H (w.ρ k) = some (.lst us) ∧ Rps K (give w w' D xs) ys us) (r : Rps K (give w w' D xs) xs vs) (fr : ∀ a, w.F a → ∃ u, w'.H a = some (.lst u)) (no : ∀ a, w.F a → ¬ Own w a) (tb : LamX.Tabs K.T w'.H) : Ok K (give w w' D xs) where
  tb := tb
  at_ := fun k ys e => by
    have hk := obAt_lt e
    have hk' : k < (w.h ++ [Ob.lst xs]).length := hk
    simp only [List.length_append, List.length_cons, List.length_nil] at hk'
    have q : obAt (w.h ++ [Ob.lst xs]) k = .lst ys := e
    by_cases h : k < w.h.length
    · rw [obAt_app h] at q
      obtain ⟨us, h1, h2⟩ := at_ k ys q
      refine ⟨us, ?_, h2⟩
      show w'.H (if k = w.h.length then D else w.ρ k) = _
      rw [if_neg (Nat.ne_of_lt h)]; exact h1
    · have e2 : k = w.h.length := by omega
      subst e2
      rw [obAt_last] at q; cases q
      refine ⟨vs, ?_, r⟩
      show w'.H (if w.h.length = w.h.length then D else w.ρ w.h.length) = _
      rw [if_pos rfl]; exact hD
  inj := fun j k ys zs e1 e2 e => by
    have hj := obAt_lt e1
    have hk := obAt_lt e2
    have hj' : j < (w.h ++ [Ob.lst xs]).length := hj
    have hk' : k < (w.h ++ [Ob.lst xs]).length := hk
    simp only [List.length_append, List.length_cons, List.length_nil] at hj' hk'
    have q1 : obAt (w.h ++ [Ob.lst xs]) j = .lst ys := e1
    have q2 : obAt (w.h ++ [Ob.lst xs]) k = .lst zs := e2
    have e' : (if j = w.h.length then D else w.ρ j) = (if k = w.h.length then D else w.ρ k) := e
    by_cases a : j < w.h.length
    · rw [obAt_app a] at q1
      rw [if_neg (Nat.ne_of_lt a)] at e'
      by_cases b : k < w.h.length
      · rw [obAt_app b] at q2
        rw [if_neg (Nat.ne_of_lt b)] at e'
        exact inj j k ys zs q1 q2 e'
      · have : k = w.h.length := by omega
        subst this
        rw [if_pos rfl] at e'
        exact absurd ⟨j, ys, q1, e'⟩ nO
    · have : j = w.h.length := by omega
      subst this
      rw [if_pos rfl] at e'
      by_cases b : k < w.h.length
      · rw [obAt_app b] at q2
        rw [if_neg (Nat.ne_of_lt b)] at e'
        exact absurd ⟨k, zs, q2, e'.symm⟩ nO
      · omega
  fr := fr
  no := fun a f ho => by
    rcases give_own ho with z | rfl
    · exact no a f z
    · exact nF f

/-! ### the caller's world behind a call that had places -/
def trunc (w' : Wd) (m : Nat) : Wd := { w' with h := w'.h.take m }
section
variable {K : Kt} {w w' : Wd} {m : Nat}
theorem own_trunc {a : Addr} (h : Own (trunc w' m) a) : ∃ k xs, k < m ∧ obAt w'.h k = .lst xs ∧ w'.ρ k = a := by
  obtain ⟨k, xs, e, r⟩ := h
  obtain ⟨e', hk⟩ := obAt_take e
  exact ⟨k, xs, hk, e', r⟩
theorem own_trunc' {a : Addr} (h : Own (trunc w' m) a) : Own w' a := let ⟨k, xs, _, e, r⟩ := own_trunc h; ⟨k, xs, e, r⟩
theorem trunc_mv : Mv w' (trunc w' m) := fun a u _ h f => ⟨h, fun z => f.1 (own_trunc' z), f.2⟩
theorem trunc_le (l : Le w w') (hm : m = w.h.length) : Le w (trunc w' m) where
  pl := l.pl
  ln := by
    show w.h.length ≤ (w'.h.take m).length
    rw [List.length_take]
    have := l.ln
    omega
  F := l.F
  kp := fun a u nt h no => ⟨(l.kp a u nt h no).1, fun z => (l.kp a u nt h no).2 (own_trunc' z)⟩
theorem trunc_ok (ok : Ok K w') : Ok K (trunc w' m) where
  tb := ok.tb
  at_ := fun k xs e => by
    obtain ⟨e', _⟩ := obAt_take e
    obtain ⟨vs, h, r⟩ := ok.at_ k xs e'
    exact ⟨vs, h, r.move trunc_mv⟩
  inj := fun j k xs ys e1 e2 => ok.inj j k xs ys (obAt_take e1).1 (obAt_take e2).1
  fr := ok.fr
  no := fun a f z => ok.no a f (own_trunc' z)
end

section
variable {K : Kt} {ER : ERt} {Q : VK} {E : XK} {w : Wd}
abbrev ZE (K : Kt) (ER : ERt) (E : XK) : Zc := ⟨K, ER, fun c d _ H => E c d H⟩
/-- handing back out of a call with data alone -/
theorem back0 {keep : Bool} {v : PV} {h1 : List Ob} {w' : Wd} {u : V} (ok : Ok K w) (p : PoE (ZE K ER E) w [] (fin0 keep v h1 w.h) Q) (l : Le (inner w) w') (e : w'.h = h1) (ok' : Ok K w') (r : Rv K w' v u) : Q u w'.H := by
  unfold fin0 at p
  split at p
  · rename_i n
    subst e
    split at p
    · rename_i xs hx
      obtain ⟨vs, hD, rr⟩ := ok'.at_ n xs hx
      have oD : Own w' (w'.ρ n) := ⟨n, xs, hx, rfl⟩
      have nH : ∀ z, NT z → w.H (w'.ρ n) ≠ some z := fun z nt q => (l.kp _ z nt q not_own_nil).2 oD
      have nO : ¬ Own w (w'.ρ n) := fun ⟨k, ys, e, r⟩ => by
        obtain ⟨us, h1, _⟩ := ok.at_ k ys e
        rw [r] at h1
        exact nH _ nt_lst h1
      have nF : ¬ w.F (w'.ρ n) := fun f => by
        obtain ⟨us, h1⟩ := ok.fr _ f
        exact nH _ nt_lst h1
      rw [r.2]
      split at p
      · have mvG : Mv w' (give w w' (w'.ρ n) xs) := fun a z _ h f => ⟨h, fun q => (give_own q).elim (fun q => f.2 ((l.F a).1 (.inr q))) (fun q => f.1 (q ▸ oD)), fun q => f.2 ((l.F a).1 (.inl q))⟩
        have leG : Le w (give w w' (w'.ρ n) xs) := give_le fun a z nt h _ => ⟨(l.kp a z nt h not_own_nil).1, fun q => nH z nt (by rw [← q]; exact h)⟩
        refine p (give w w' (w'.ρ n) xs) (.ref (w'.ρ n)) leG rfl (give_ok hD nO nF ok.inj (fun k ys q => ?_) (rr.move mvG) (fun a f => ?_) ok.no ok'.tb) ⟨?_, ?_⟩
        · obtain ⟨us, h1, h2⟩ := ok.at_ k ys q
          exact ⟨us, (l.kp _ _ nt_lst h1 not_own_nil).1, h2.move leG.mv⟩
        · obtain ⟨z, h⟩ := ok.fr a f
          exact ⟨z, (l.kp _ _ nt_lst h not_own_nil).1⟩
        · show w.h.length < (w.h ++ [Ob.lst xs]).length
          simp
        · show V.ref _ = V.ref (if w.h.length = w.h.length then w'.ρ n else w.ρ w.h.length)
          rw [if_pos rfl]
      · refine p (outer w w') (.ref (w'.ρ n)) (outer_le l) rfl (outer_ok ok l ok'.tb) (.of (.lst hD ⟨nO, nF⟩ (rr.move (outer_mv l))))
    · exact p.elim
  · rename_i nl
    have d : v.isD = true := by cases v <;> first | rfl | exact absurd rfl (nl _)
    exact p (outer w w') u (outer_le l) rfl (outer_ok ok l ok'.tb) (Rp.dataMove (outer_mv l) r d)
/-- .. out of a call that had places -/
theorem back1 {keep : Bool} {v : PV} {h1 : List Ob} {w' : Wd} {u : V} (ok : Ok K w) (p : PoE (ZE K ER E) w [] (fin keep w.h.length v h1) Q) (l : Le w w') (e : w'.h = h1) (ok' : Ok K w') (r : Rv K w' v u) : Q u w'.H := by
  unfold fin at p
  split at p
  · rename_i n
    subst e
    split at p
    · rename_i hn
      refine p (trunc w' w.h.length) u (trunc_le l rfl) rfl (trunc_ok ok') ⟨?_, r.2⟩
      show n < (w'.h.take w.h.length).length
      rw [List.length_take]
      have := l.ln
      omega
    · rename_i hn
      split at p
      · rename_i xs hx
        obtain ⟨vs, hD, rr⟩ := ok'.at_ n xs hx
        have oD : Own w' (w'.ρ n) := ⟨n, xs, hx, rfl⟩
        have nT : ¬ Own (trunc w' w.h.length) (w'.ρ n) := fun z => by
          obtain ⟨k, ys, hk, e, q⟩ := own_trunc z
          have := ok'.inj k n ys xs e hx q
          omega
        have nF : ¬ w'.F (w'.ρ n) := fun z => ok'.no _ z oD
        rw [r.2]
        split at p
        · split at p
          · rename_i hlen
            have hlen' : (trunc w' w.h.length).h.length = w.h.length := hlen
            have mvG : Mv w' (give (trunc w' w.h.length) w' (w'.ρ n) xs) := fun a z _ h f => ⟨h, fun q => (give_own q).elim (fun q => f.1 (own_trunc' q)) (fun q => f.1 (q ▸ oD)), f.2⟩
            have leG : Le w (give (trunc w' w.h.length) w' (w'.ρ n) xs) := by
              refine ⟨fun k hk => ?_, ?_, l.F, fun a z nt h no => ⟨(l.kp a z nt h no).1, fun q => (give_own q).elim (fun q => (l.kp a z nt h no).2 (own_trunc' q)) (fun q => (l.kp a z nt h no).2 (q ▸ oD))⟩⟩
              · show (if k = (trunc w' w.h.length).h.length then w'.ρ n else w'.ρ k) = w.ρ k
                rw [hlen', if_neg (Nat.ne_of_lt hk)]; exact l.pl k hk
              · show w.h.length ≤ ((trunc w' w.h.length).h ++ [Ob.lst xs]).length
                rw [List.length_append, hlen']; omega
            have okT : Ok K (trunc w' w.h.length) := trunc_ok ok'
            refine p (give (trunc w' w.h.length) w' (w'.ρ n) xs) (.ref (w'.ρ n)) leG rfl (give_ok hD nT nF okT.inj (fun k ys q => ?_) (rr.move mvG) ok'.fr okT.no ok'.tb) ⟨?_, ?_⟩
            · obtain ⟨us, h1, h2⟩ := ok'.at_ k ys (obAt_take q).1
              exact ⟨us, h1, h2.move mvG⟩
            · show w.h.length < ((trunc w' w.h.length).h ++ [Ob.lst xs]).length
              rw [List.length_append, hlen']; simp
            · show V.ref _ = V.ref (if w.h.length = (trunc w' w.h.length).h.length then w'.ρ n else w'.ρ w.h.length)
              rw [hlen', if_pos rfl]
          · exact p.elim
        · exact p (trunc w' w.h.length) (.ref (w'.ρ n)) (trunc_le l rfl) rfl (trunc_ok ok') (.of (.lst hD ⟨nT, nF⟩ (rr.move trunc_mv)))
      · exact p.elim
  · rename_i nl
    have d : v.isD = true := by cases v <;> first | rfl | exact absurd rfl (nl _)
    subst e
    exact p (trunc w' w.h.length) u (trunc_le l rfl) rfl (trunc_ok ok') (Rp.dataMove trunc_mv r d)
end

/-- THE BODY'S RUN leads to the promise -/
theorem run_core {K : Kt} {ER : ERt} (hER : ERok ER) {G : Nat → Option PV} {cl : Nat → List PV → List Ob → R PV} {fn : Fn} {N : List Str} {vs : List V} {H : Hp} {Q : VK} {E : XK} (hN : fn.slots = N.length) (hp : fn.pars ≤ fn.slots)
    (h : spF K ER (runFn G cl fn) vs H Q E) : tS (ZE K ER E) (exec G cl fn.body) { nx := fun _ H' => Q .non H', rt := Q } (L2.start N vs) H := by
  obtain ⟨w, args, rfl, ok, r, p⟩ := h
  unfold runFn at p
  split at p
  · rename_i hlen
    have hl : args.length = fn.pars := Nat.eq_of_beq_eq_true hlen
    have lenN : args.length + (fn.slots - fn.pars) = N.length := by omega
    split at p
    · rename_i hd
      have rr : Rvs K (inner w) args vs := .of ((r.data hd).move (inner_mv w))
      refine ⟨inner w, startSl args (fn.slots - fn.pars), rfl, inner_ok ok, start_rel rr ?_, ?_⟩
      · exact lenN
      · show PoF _ _ _ (exec G cl fn.body (startSl args (fn.slots - fn.pars)) [])
        cases q : exec G cl fn.body (startSl args (fn.slots - fn.pars)) [] with
        | no => rw [q] at p; exact p.elim
        | ex c fs h1 => rw [q] at p; exact p.elim
        | ok f h1 =>
          rw [q] at p
          cases f with
          | rt v => exact fun w' u l e ok' rv => back0 ok p l e ok' rv
          | nx st => exact fun w' σ' l e ok' rv => p (outer w w') .non (outer_le l) rfl (outer_ok ok l ok'.tb) (.of .non)
          | rs c fs st => exact fun w' σ' cls d l e ok' rv er => p (outer w w') cls d (outer_le l) rfl (outer_ok ok l ok'.tb) (hER (outer_mv l) er)
          | bk st => exact p.elim
          | ct st => exact p.elim
    · refine ⟨w, startSl args (fn.slots - fn.pars), rfl, ok, start_rel r ?_, ?_⟩
      · exact lenN
      · cases q : exec G cl fn.body (startSl args (fn.slots - fn.pars)) w.h with
        | no => rw [q] at p; exact p.elim
        | ex c fs h1 => rw [q] at p; exact p.elim
        | ok f h1 =>
          rw [q] at p
          cases f with
          | rt v => exact fun w' u l e ok' rv => back1 ok p l e ok' rv
          | nx st => exact fun w' σ' l e ok' rv => by subst e; exact p (trunc w' w.h.length) .non (trunc_le l rfl) rfl (trunc_ok ok') (.of .non)
          | rs c fs st => exact fun w' σ' cls d l e ok' rv er => by subst e; exact p (trunc w' w.h.length) cls d (trunc_le l rfl) rfl (trunc_ok ok') (hER trunc_mv er)
          | bk st => exact p.elim
          | ct st => exact p.elim
  · exact p.elim
end Mi

/-! MiL: try with several named clauses; a def that is handed a lambda. -/
namespace L2
open PySem PySem.Spec PyProof.Rows
/-- what clauses 'except x as n' wish, one behind another (slot i is n's) -/
def wAsL (K : PySem.W.Frag) (i : Nat) (Wo : WX) (D : Ends) : List (Value × (Addr → Value → Option Addr → TS)) → WX
  | [] => Wo
  | p :: r => fun cls d σ H => ∃ k, PySem.W.exmOne K cls p.1 = some k ∧ (k = true → i < σ.length → ∀ a, H a = none → p.2 a cls d ⟨fun τ G => D.nx (τ.set i none) G, D.rt, fun τ G => D.bk (τ.set i none) G, fun τ G => D.ct (τ.set i none) G⟩ (σ.set i (some (.ref a))) H) ∧ (k = false → wAsL K i Wo D r cls d σ H)
inductive AsL (X : Cx) (n : Str) : List ExceptHandler → List (Value × (Addr → Value → Option Addr → TS)) → Prop
  | nil : AsL X n [] []
  | cons {x : Str} {c : Value} {ts : Addr → Value → Option Addr → TS} {st : Stmt} {su : List Stmt} {q q' : Pos} {hds : List ExceptHandler} {l : List (Value × (Addr → Value → Option Addr → TS))} : Names X x c →
      (∀ (a : Addr) (ob : Obj) (cls : Value) (d : Option Addr) (pn : List (Addr × Obj)), Zc cls d ob → (∃ vs, ob.data = .fields vs) → PSs (X.suite a ((a, ob) :: pn)) (st :: su) (ts a cls d)) → AsL X n hds l →
      AsL X n (.ExceptHandler (some (.Name x q)) (some n) (st :: su) q' :: hds) ((c, ts) :: l)
section
variable {X : Cx} {n : Str} {i : Nat} {body : List Stmt} {hd : ExceptHandler} {hds : List ExceptHandler} {l : List (Value × (Addr → Value → Option Addr → TS))} {pos : Pos} {tb : WX → TS} {Wo : WX}
theorem ps_try_asL (hs : X.stack = X.env :: X.outer) (hf : X.env.frame = some X.env.locals) (hN : X.N.Nodup) (hi : X.N[i]? = some n) (hl : X.env.kindOf n = some .local) (tk : Takes X Wo)
    (hb : ∀ (W : WX) (pn : List (Addr × Obj)) (xe : Value → Shared → Prop), Takes (X.tr pn xe) W → PassesOwn (model X.prog X.w) X.A X.env xe → PSs (X.tr pn xe) body (tb W)) (hh : AsL X n (hd :: hds) l) :
    PS X (.Try body (hd :: hds) [] [] pos) (fun D σ H => tb (wAsL X.K i Wo D l) D σ H) := by
  refine ⟨fun pins s σ H D I0 h => ?_⟩
  have ok := I0.ok
  have frX : X.A.frames = some (X.env :: X.outer) := by rw [ok.frames, hs]
  have lc : Loc X.env.scope n := .inl hl
  refine wpAny_Try_except ?_
  refine wpAny_mono ((hb (wAsL X.K i Wo D l) (X.pn ++ pins) (fun e s1 => wpAny (model X.prog X.w) X.A (noteFrame e X.env) (fun _ s2 => wpAny (model X.prog X.w) X.A (setFlight e none) (fun _ s3 => wpAny (model X.prog X.w) X.A (handleBy e X.env (hd :: hds)) (SP X pins D) X.xe s3) X.xe s2) X.xe s1)
    (fun u s9 xx => ?_) PassesOwn.looking).run [] s σ H D (I0.toTry _) h) (fun f s1 sp => ?_) (fun e s1 he => he)
  · obtain ⟨a, B, sI, pinsT, σT, HT, cls, d, rfl, JT, nb, up, sk, na, os, ag, w⟩ := xx
    have J0 : Inv X pins σT HT sI := JT.ofTry ok
    have sk0 : Sky B (X.env :: X.outer) a (Zc cls d) X.env.locals s9.heap := by rw [← hs]; exact sk
    show wpAny (model X.prog X.w) X.A (noteFrame (.ref a) X.env) _ _ _
    refine Sky.land Zc.steady frX hf sk0 fun h3 fl3 up3 => ?_
    have J3 : Inv X pins σT HT { s9 with heap := h3 } := J0.landed nb fl3.1 (up.trans up3) os ag
    obtain ⟨ob3, vs3, he3, hz3, hd3⟩ := fl3.there
    have away : ∀ {g : Heap} {o : Obj} {vs : Array Value}, g.FunFrames B (X.env :: X.outer) → g.get? a = some o → o.data = .fields vs → a ∉ frs (X.env :: X.outer) := fun {g o vs} ff e dd hm => by
      obtain ⟨_, o2, e2, nf⟩ := ff.mem hm
      rw [e] at e2; cases e2
      exact nf _ dd
    have nfr := away fl3.2.2.1 he3 hd3
    have nL : a ≠ X.env.locals := fun z => nfr (List.mem_filterMap.mpr ⟨X.env, List.mem_cons_self, by rw [hf, z]⟩)
    have nF : a ∉ X.fs := fun hm => by
      obtain ⟨e, he, q⟩ := List.mem_filterMap.mp hm
      exact nfr (List.mem_filterMap.mpr ⟨e, List.mem_cons_of_mem _ he, q⟩)
    have S3 := J3.suite he3 hd3 na nL nF
    have go : ∀ {gs : List ExceptHandler} {m : List (Value × (Addr → Value → Option Addr → TS))}, AsL X n gs m → wAsL X.K i Wo D m cls d σT HT → wpAny (model X.prog X.w) X.A (handleBy (.ref a) X.env gs) (SP X pins D) X.xe { s9 with heap := h3 } := by
      intro gs m hk
      induction hk with
      | nil =>
        intro w
        refine wpAny_handleBy_nil ?_
        obtain ⟨k1, k2, k3, ob, vs, T, oT, ts2, he, hz, hdt, h1, hr⟩ := id fl3
        unfold PySem.passOn
        refine wpAny_bind (wpAny_field he hdt h1 ?_)
        rw [if_neg (show ¬ ((Value.ref T == Value.none) = true) from by simp)]
        have fin : wpAny (model X.prog X.w) X.A (setFlight (.ref a) X.env.frame) (fun _ s4 => wpAny (model X.prog X.w) X.A (throw (.ref a) : Sem Flow) (SP X pins D) X.xe s4) X.xe { s9 with heap := h3 } := by
          rw [hf]
          exact HandSPX.setFlight_upZ fl3 fun h4 hh4 up4 => wpAny_throw (tk _ _ ⟨a, B, sI, pins, σT, HT, cls, d, rfl, J0, nb, (up.trans up3).trans up4, .inr (.inr (by rw [hs]; exact hh4)), na, os, ag, w⟩)
        first | exact wpAny_bind (wpAny_pure (wpAny_bind fin)) | exact wpAny_bind fin
      | @cons x c ts st su q q2 hds2 l2 hc hsu r ih =>
        intro w
        obtain ⟨k, hk1, yes, no⟩ := w
        refine wpAny_handleBy_cons (codeAny_handlers_test ?_) (by intro q; cases q)
        have LT : PySem.W.Looks (model X.prog X.w) h3 (typeOf (.ref a)) cls := fun A Q E s j q => wpAny_typeOf_ref (j _ _ he3) (by rw [hz3.1]; exact q)
        have LM := PySem.W.exm_one (M := model X.prog X.w) (J3.kIn) LT hk1
        have tst : ∀ {Q : Value → Shared → Prop} {E : Value → Shared → Prop}, Q c { s9 with heap := h3 } → wpAny (model X.prog X.w) (X.A.mark (some (.ref a))) (eval (.Name x q) X.env) Q E { s9 with heap := h3 } := fun {Q E} j => by
          obtain ⟨hg, dbg, hm | ⟨hm, hv, nn⟩⟩ := hc
          · exact ld_glob (X := X.suite a ((a, ob3) :: (X.pn ++ pins))) S3 hg hm j dbg
          · exact ld_blt (X := X.suite a ((a, ob3) :: (X.pn ++ pins))) S3 hg hm hv j nn dbg
        refine tst (LM.here ?_)
        cases k with
        | false =>
          show wpAny _ X.A (handleBy (.ref a) X.env hds2) _ _ _
          exact ih (no rfl)
        | true =>
          refine codeAny_handlers_suite_as ?_
          refine HandSPX.lands_againZ fl3 fun h4 fl4 up4 => ?_
          have J4 : Inv X pins σT HT { s9 with heap := h4 } := J0.landed nb fl4.1 ((up.trans up3).trans up4) os ag
          obtain ⟨ob4, vs4, he4, hz4, hd4⟩ := fl4.there
          have S4 := J4.suite he4 hd4 na nL nF
          refine store_ok (X := X.suite a ((a, ob4) :: (X.pn ++ pins))) (v := .ref a) S4 hN hi lc rfl (fun s5 S5 => ?_) (.inr hl)
          refine wpAny_mono ((hsu a ob4 cls d (X.pn ++ pins) hz4 ⟨_, hd4⟩).run [] s5 _ HT _ S5 (yes rfl (by rw [J4.len]; exact (List.getElem?_eq_some_iff.mp hi).1) a na)) (fun f s6 sp => ?_) (fun _ _ z => False.elim z)
          have fin : ∀ {σ6 : St} {H6 : Hp} {Q : Shared → Prop}, Inv (X.suite a ((a, ob4) :: (X.pn ++ pins))) [] σ6 H6 s6 → (∀ s7, Inv X pins (σ6.set i none) H6 s7 → Q s7) → wpAny (model X.prog X.w) X.A (do bindName X.env n .none; unbindBehindTheSuite X.env n q2) (fun _ s7 => Q s7) X.xe s6 := fun {σ6 H6 Q} S6 hq => gone_ok (S6.unsuite ok) hN hi hl hq
          cases f with
          | next => obtain ⟨σ6, H6, S6, q6⟩ := sp; exact fin S6 fun s7 J7 => ⟨_, _, J7, q6⟩
          | brk => obtain ⟨σ6, H6, S6, q6⟩ := sp; exact fin S6 fun s7 J7 => ⟨_, _, J7, q6⟩
          | cont => obtain ⟨σ6, H6, S6, q6⟩ := sp; exact fin S6 fun s7 J7 => ⟨_, _, J7, q6⟩
          | ret u => obtain ⟨v6, σ6, H6, S6, r6, q6⟩ := sp; exact fin S6 fun s7 J7 => ⟨_, _, _, J7, r6, q6⟩
    exact go hh w
  · cases f with
    | next => obtain ⟨σ9, H9, J9, q⟩ := sp; exact wpAny_execs_nil ⟨σ9, H9, J9.ofTry ok, q⟩
    | brk => obtain ⟨σ9, H9, J9, q⟩ := sp; exact ⟨σ9, H9, J9.ofTry ok, q⟩
    | cont => obtain ⟨σ9, H9, J9, q⟩ := sp; exact ⟨σ9, H9, J9.ofTry ok, q⟩
    | ret u => obtain ⟨v, σ9, H9, J9, r, q⟩ := sp; exact ⟨v, σ9, H9, J9.ofTry ok, r, q⟩
end
end L2
namespace Mi
open PySem L2 PySem.Spec PyProof.Rows LamX
variable {Z : Zc}
/-- what a def makes of a thunk's end r: what Pf says of it -/
def TTof (K : Kt) (ER : ERt) (Pf : PV → List Ob → R PV) : (XK → Hp → VK → Prop) → Hp → VK → Prop := fun tl H Q => ∃ (w : Wd) (r : R PV), w.H = H ∧ Ok K w ∧ PoE ⟨K, ER, fun _ _ _ _ => False⟩ w [] (lamR r Pf) Q ∧ ∀ (E : XK) (Q' : VK), PoE (ZE K ER E) w [] r Q' → tl E H Q'
/-- x is a def that is handed a thunk -/
structure Thk (K : Kt) (mg : Str → Option Value) (ER : ERt) (x : Str) (Pf : PV → List Ob → R PV) : Prop where
  ex : ∃ (g : Addr) (pg : Arguments) (bg : List Stmt) (sg : Scope) (dV kV doc pm cdv ct oc : Value) (an od : Option Addr) (osl : Array (Option Value)) (Ng : List Str) (a : Str), mg x = some (.ref g) ∧ PySem.W.keepIn K.fr (.ref g) = true ∧
    K.fr.lookup g = some ⟨oc, od, .func (PySem.W.fnOf x x pg bg sg dV kV doc pm an cdv ct), osl⟩ ∧ PySem.W.codeIn K.fr cdv x = true ∧ L2.Binds K.fr (PySem.W.fnOf x x pg bg sg dV kV doc pm an cdv ct) [a] [] ∧ FnScope Ng [a] sg ∧ Ng[0]? = some a ∧ Vis sg a ∧
    (a == ("__debug__" : Str)) = false ∧ (a == ("__classdict__" : Str)) = false ∧ ∀ (X : Cx) (q : Str), X.K = K.fr → X.mg = mg → GivesTo X Ng x sg g cdv bg a q (TTof K ER Pf)
theorem nodefs {env : Env} : defaultsOf { posonlyargs := [], args := [], vararg := none, kwonlyargs := [], kw_defaults := [], kwarg := none, defaults := [] } env = ([], []) := rfl
/-- x(lambda: body) -/
theorem s_lam {X : Cx} {x : Str} {body : Expr} {scope : Scope} {lpos p pos : Pos} {c P : Addr} {k : Nat} {rb : Sl → List Ob → R PV} {Pf : PV → List Ob → R PV} (T : Thk Z.K X.mg Z.ER x Pf) (hK : X.K = Z.K.fr) (hg : Gl X x) (hdb : (x == ("__debug__" : Str)) = false) (TB : TabB X.base X.mg c P)
    (hcode : X.env.code = .ref c) (hmT : (P, X.env.qual ++ "<lambda>") ∈ Z.K.T) (hu : ∀ p ∈ Z.K.T, p.1 = P → p.2 = X.env.qual ++ "<lambda>") (hr : Room (k + 2) X.A) (L : LamS X.env.scope scope)
    (hbody : ∀ (A : Around) (outer : List Env) (s : Shared) (H : Hp) (E : XK) (f c' : Addr), Room k (A.deeper (lamEnv X scope s.heap.objs.size f c')) → PE (lamCx X A outer s H E scope f c') body (tE (ZE Z.K Z.ER E) rb)) :
    PE X (.Call (.Name x p) [.Lambda { posonlyargs := [], args := [], vararg := none, kwonlyargs := [], kw_defaults := [], kwarg := none, defaults := [] } body scope lpos] [] pos) (tE Z fun σ h => lamR (rb σ h) Pf) := by
  obtain ⟨g, pg, bg, sg, dV, kV, doc, pm, cdv, ct, oc, an, od, osl, Ng, a, t1, t2, t3, t4, t5, t6, t7, t8, t9, t10, t11⟩ := T.ex
  refine (pe_lamcall (T := Z.K.T) (t := fun E => tE (ZE Z.K Z.ER E) rb) hg t1 (by rw [hK]; exact t2) (by rw [hK]; exact t3) (by rw [hK]; exact t4) (by rw [hK]; exact t5) t6 t7 t8 (t11 X _ hK rfl) TB hcode hmT hu hr L nodefs (fun _ _ _ _ _ => rfl) hbody hdb t9 t10).imp fun σ H Q ⟨w, st, e, ok, rS, pp⟩ => ?_
  subst e
  refine ⟨ok.tb, fun H1 eN T1 => ?_⟩
  have l : Le w ⟨w.ρ, w.h, H1, w.F⟩ := ⟨fun _ _ => rfl, Nat.le_refl _, fun _ => ⟨id, fun _ _ _ _ h => h⟩, fun a u nt h no => ⟨eN a u h nt, no⟩⟩
  have ok1 : Ok Z.K ⟨w.ρ, w.h, H1, w.F⟩ := ⟨fun k xs e => let ⟨vs, h, r⟩ := ok.at_ k xs e; ⟨vs, eN _ _ h nt_lst, r.mono l⟩, ok.inj, fun a f => let ⟨xs, h⟩ := ok.fr a f; ⟨xs, eN _ _ h nt_lst⟩, ok.no, T1⟩
  have pl : PoE Z ⟨w.ρ, w.h, H1, w.F⟩ σ (lamR (rb st w.h) Pf) Q := Po.up l pp
  refine ⟨⟨w.ρ, w.h, H1, w.F⟩, rb st w.h, rfl, ok1, ?_, fun E Q' z => ⟨⟨w.ρ, w.h, H1, w.F⟩, st, rfl, ok1, rS.mono l, Po.re rfl rfl (fun _ _ _ h => h) z⟩⟩
  have noex : ∀ (r : R PV), ∀ c fs h', lamR r Pf ≠ .ex c fs h' := fun r c fs h' z => by
    have okE : ∀ y : R PV, okR y ≠ .ex c fs h' := fun y z => by cases y <;> cases z
    cases r with
    | no => cases z
    | ex c1 fs1 h1 => exact okE _ z
    | ok v h1 =>
      unfold lamR at z
      simp only at z
      cases hd : v.isD with
      | false => rw [hd] at z; cases z
      | true => rw [hd] at z; exact okE _ z
  cases q : lamR (rb st w.h) Pf with
  | no => rw [q] at pl; exact pl.elim
  | ex c fs h' => exact absurd q (noex _ _ _ _)
  | ok v h' => rw [q] at pl; exact pl
end Mi

/-! MiH: def f(act): try: return [told, act()]; except C as e: return [word, e.field] .. -/
namespace Mi
open PySem L2 PySem.Spec PyProof.Rows LamX
/-- the clauses: each the class's name, its number, its word -/
inductive HdL (n fld : Str) : List ExceptHandler → List (Str × Nat × List Nat) → Prop
  | nil : HdL n fld [] []
  | cons {x ws : Str} {c j : Nat} {w : List Nat} {hds : List ExceptHandler} {l : List (Str × Nat × List Nat)} {q q' q1 q2 q3 q4 q5 : Pos} : ws = toStr w → HdL n fld hds l →
      HdL n fld (.ExceptHandler (some (.Name x q)) (some n) [.Return (some (.List [.Constant (.str ws) j q1, .Attribute (.Name n q2) fld q3] q4)) q5] q' :: hds) ((x, c, w) :: l)
/-- the word of the first clause of the class c -/
def findH : List (Str × Nat × List Nat) → Nat → Option (List Nat)
  | [], _ => none
  | p :: r, c => if c = p.2.1 then some p.2.2 else findH r c
/-- what is known of the classes of the clauses -/
structure ClsL (K : Kt) (mg : Str → Option Value) (sg : Scope) (fld : Str) (at_ : Str → Addr) (l : List (Str × Nat × List Nat)) : Prop where
  mg : ∀ p ∈ l, mg p.1 = some (.ref (at_ p.1)) ∧ sg.names.lookup p.1 = some .globalImplicit ∧ (p.1 == ("__debug__" : Str)) = false ∧ XfC K.fr (at_ p.1) ∧ PySem.W.findIn K.fr (.ref (at_ p.1)) fld = some none ∧ SOk p.2.2
  exm : ∀ p ∈ l, ∀ p' ∈ l, PySem.W.exmOne K.fr (.ref (at_ p.1)) (.ref (at_ p'.1)) = some (decide (p.2.1 = p'.2.1))
  inj : ∀ p ∈ l, ∀ p' ∈ l, p.2.1 = p'.2.1 → p.1 = p'.1
section
variable {K : Kt} {mg : Str → Option Value} {ER : ERt} {Pf : PV → List Ob → R PV} {sg : Scope} {fld n a : Str} {at_ : Str → Addr}
/-- the suites' readings -/
def tsL (fld : Str) (C : Addr) (ws : Str) : Addr → Value → Option Addr → TS := fun a cls d => tRet (tLst (tCons (tC (.str ws)) (tCons (tXf a cls d C fld (tVar 1)) tNil)))
def lTs (fld : Str) (at_ : Str → Addr) (l : List (Str × Nat × List Nat)) : List (Value × (Addr → Value → Option Addr → TS)) := l.map fun p => (.ref (at_ p.1), tsL fld (at_ p.1) (toStr p.2.2))
theorem asL_of {X : Cx} {hds : List ExceptHandler} {l : List (Str × Nat × List Nat)} (h : HdL n fld hds l) (hK : X.K = K.fr) (hm : X.mg = mg) (hsc : X.env.scope = sg) (hn : X.N[1]? = some n) (hv : Vis X.env.scope n) (nd1 : (n == ("__debug__" : Str)) = false) (nd2 : (n == ("__classdict__" : Str)) = false) (cl : ClsL K mg sg fld at_ l) : AsL X n hds (lTs fld at_ l) := by
  induction h with
  | nil => exact .nil
  | @cons x ws c j w hds l q q' q1 q2 q3 q4 q5 e hr ih =>
    obtain ⟨m1, m2, m3, m4, m5, m6⟩ := cl.mg (x, c, w) List.mem_cons_self
    refine .cons ⟨?_, m3, .inl (by rw [hm]; exact m1)⟩ (fun a ob cls d pn hz hf => ?_) (ih ⟨fun p hp => cl.mg p (List.mem_cons_of_mem _ hp), fun p hp p' hp' => cl.exm p (List.mem_cons_of_mem _ hp) p' (List.mem_cons_of_mem _ hp'), fun p hp p' hp' => cl.inj p (List.mem_cons_of_mem _ hp) p' (List.mem_cons_of_mem _ hp')⟩)
    · unfold Gl Env.kindOf
      rw [hsc]; exact m2
    · rw [e]
      exact pss_one (ps_ret (pe_lst (pa_cons pe_str (pa_cons (pe_xf (by rw [hK]; exact m4) (by rw [hK]; exact m5) hz hf (pe_var (i := 1) hn hv nd1 nd2)) pa_nil))))
theorem was_of {l : List (Str × Nat × List Nat)} {D : Ends} {Q : VK} {E : XK} (cl : ClsL K mg sg fld at_ l) {p : Str × Nat × List Nat} (hp : p ∈ l) {w : Wd} {v : PV} {vv : V} {dd : Addr} {wd : List Nat} (ok : Ok K w) (hv : v.isD = true) (rv : Rp K w v vv) (hd : w.H dd = some (.xd [(fld, vv)])) (hD : D.rt = Q) (σ : L2.St) :
    ∀ {m : List (Str × Nat × List Nat)}, (∀ y ∈ m, y ∈ l) → findH m p.2.1 = some wd → PoE (ZE K ER E) w [] (.ok (.lst [.str wd, v]) w.h) Q → wAsL K.fr 1 (fun _ _ _ _ => False) D (lTs fld at_ m) (.ref (at_ p.1)) (some dd) σ w.H
  | [], _, e, _ => by cases e
  | y :: m, hs, e, po => by
    refine ⟨decide (p.2.1 = y.2.1), cl.exm p hp y (hs y List.mem_cons_self), fun hk hl a na => ?_, fun hk => ?_⟩
    · have ek : p.2.1 = y.2.1 := of_decide_eq_true hk
      have e2 : wd = y.2.2 := by
        unfold findH at e
        rw [if_pos ek] at e
        exact (Option.some.inj e).symm
      obtain ⟨_, _, _, _, _, so⟩ := cl.mg y (hs y List.mem_cons_self)
      have eA : Value.ref (at_ p.1) = Value.ref (at_ y.1) := by rw [cl.inj p hp y (hs y List.mem_cons_self) ek]
      refine ⟨.ref a, List.getElem?_set_self hl, rfl, eA, dd, [(fld, vv)], vv, rfl, hd, by simp [List.lookup], (by decide : 2 ≤ 16777216) |> fun z => by rw [sizeLine_eq]; exact z, fun ad hn => ?_⟩
      show D.rt _ _
      rw [hD, ← e2]
      exact fresh_mkL (Z := ZE K ER E) (m := false) (xs := [.str wd, v]) ok (.cons (.str _ (e2 ▸ so)) (.cons rv .nil)) po ad hn
    · have ek : ¬ p.2.1 = y.2.1 := of_decide_eq_false hk
      have e' : findH m p.2.1 = some wd := by
        unfold findH at e
        rw [if_neg ek] at e
        exact e
      exact was_of cl hp ok hv rv hd hD σ (fun z hz => hs z (List.mem_cons_of_mem _ hz)) e' po
/-- the reading of the try's body -/
def tbL (tw : Str) (f c' : Addr) (q : Str) (tl : XK → Hp → VK → Prop) : WX → TS := fun W D σ H => ∃ Ech : XK, (∀ cls d σ' H', Ech cls d H' → W cls d σ' H') ∧
  tRet (tLst (tCons (tC (.str tw)) (tCons (fun σZ HZ Q => σZ[0]? = some (some (.ref f)) ∧ HZ c' = some (CodeO c' q) ∧ tl Ech HZ Q) tNil))) D σ H
theorem gives_heard {X : Cx} {x q tw : Str} {told : List Nat} {g : Addr} {cdv : Value} {j0 : Nat} {r1 r2 p1 p2 p3 p8 : Pos} {hd : ExceptHandler} {hds : List ExceptHandler} {l : List (Str × Nat × List Nat)} (hK : X.K = K.fr) (hm : X.mg = mg)
    (etw : tw = toStr told) (ot : SOk told) (hl : HdL n fld (hd :: hds) l) (cl : ClsL K mg sg fld at_ l) (hn : sg.names.lookup n = some .local) (nd : [a, n].Nodup) (nd1 : (n == ("__debug__" : Str)) = false) (nd2 : (n == ("__classdict__" : Str)) = false)
    (hE : ∀ c fs w cls d, ER c fs w cls d → ∀ p ∈ l, c = p.2.1 → ∃ v vv dd, cls = .ref (at_ p.1) ∧ fs = [v] ∧ v.isD = true ∧ d = some dd ∧ w.H dd = some (.xd [(fld, vv)]) ∧ Rp K w v vv)
    (hP1 : ∀ v h, v.isD = true → okR (Pf (.tup [.bl true, v]) h) = .no ∨ okR (Pf (.tup [.bl true, v]) h) = .ok (.lst [.str told, v]) h)
    (hP2 : ∀ (c : Nat) v h, okR (Pf (.tup [.bl false, .int c, .tup [v]]) h) = .no ∨ ∃ wd, findH l c = some wd ∧ okR (Pf (.tup [.bl false, .int c, .tup [v]]) h) = .ok (.lst [.str wd, v]) h)
    (hP3 : ∀ (c : Nat) fs h, (∀ p ∈ l, c ≠ p.2.1) → okR (Pf (.tup [.bl false, .int c, .tup fs]) h) = .no) :
    GivesTo X [a, n] x sg g cdv [.Try [.Return (some (.List [.Constant (.str tw) j0 r1, .Call (.Name a p1) [] [] p2] r2)) p3] (hd :: hds) [] [] p8] a q (TTof K ER Pf) := by
  intro f c' s H Q tl act hc h
  obtain ⟨w, r, rfl, ok, pr, ht⟩ := h
  refine ⟨_, pss_one (ps_try_asL (X := (cxOf C8.CX0 X.prog X.w X.K X.mg X.base [a, n] x sg g cdv X.A X.stack s w.H C8.E0).nox) (i := 1) (n := n) (l := lTs fld at_ l) (Wo := fun _ _ _ _ => False) (tb := tbL tw f c' q tl) rfl rfl nd rfl hn L2.takes0 (fun W pn xe tk _ => ?_) (asL_of hl hK hm rfl rfl (.inl hn) nd1 nd2 cl)), ?_⟩
  · refine ⟨fun pins s' σ H' D I h' => ?_⟩
    obtain ⟨Ech, hW, h2⟩ := h'
    have hp := act W pn xe Ech p1 p2 tk hW
    exact (pss_one (ps_ret (pe_lst (pa_cons pe_str (pa_cons hp pa_nil))))).run pins s' σ H' D I h2
  · have sz : 2 ≤ sizeLine := by rw [sizeLine_eq]; decide
    refine ⟨fun cls d H' => ∀ σ', wAsL X.K 1 (fun _ _ _ _ => False) { nx := fun _ H' => Q .non H', rt := Q } (lTs fld at_ l) cls d σ' H', fun _ _ σ' _ h => h σ', rfl, hc, ht _ _ ?_⟩
    cases r with
    | no => exact pr.elim
    | ok v h1 =>
      intro w' b l' e o rv
      refine ⟨sz, fun ad hn => ?_⟩
      have pr' : PoE ⟨K, ER, fun _ _ _ _ => False⟩ w [] (match v.isD with | true => okR (Pf (.tup [.bl true, v]) h1) | false => .no) Q := pr
      cases hv : v.isD with
      | false => rw [hv] at pr'; exact pr'.elim
      | true =>
        rw [hv] at pr'
        simp only at pr'
        rcases hP1 v h1 hv with z | z
        · rw [z] at pr'; exact pr'.elim
        · rw [z] at pr'
          subst e
          rw [etw]
          exact fresh_mkL (Z := ⟨K, ER, fun _ _ _ _ => False⟩) (m := false) (xs := [.str told, v]) o (.cons (.str _ ot) (.cons (rv.data hv) .nil)) (Po.up l' pr') ad hn
    | ex c fs h1 =>
      intro w' cls d l' e o er σ'
      have pr' : PoE ⟨K, ER, fun _ _ _ _ => False⟩ w [] (okR (Pf (.tup [.bl false, .int c, .tup fs]) h1)) Q := pr
      by_cases hm2 : ∃ p ∈ l, c = p.2.1
      · obtain ⟨p, hp, ec⟩ := hm2
        obtain ⟨v, vv, dd, rfl, rfl, hv, rfl, hD, rv⟩ := hE c fs w' cls d er p hp ec
        rcases hP2 c v h1 with z | ⟨wd, z1, z2⟩
        · rw [z] at pr'; exact pr'.elim
        · rw [z2] at pr'
          subst e
          rw [hK]
          have po : PoE (ZE K ER (fun _ _ _ => False)) w' [] (.ok (.lst [.str wd, v]) w'.h) Q := Po.re rfl rfl (fun _ _ _ h => h) (Po.up l' pr')
          exact was_of (ER := ER) (E := fun _ _ _ => False) cl hp o hv rv hD rfl σ' (fun _ h => h) (by rw [← ec]; exact z1) po
      · rw [hP3 c fs h1 fun p hp e => hm2 ⟨p, hp, e⟩] at pr'
        exact pr'.elim
end
end Mi

/-! Mi12: the check that an IR is a text's; lemmas about shapes. -/
namespace Mi
open PySem L2 PySem.Spec PyProof.Rows

/-- what the text's top is said to hold: defs with their parameters, constants, the ways of keyword calls, built-in names that no name of the top hides -/
structure SG where
  fns : List (List Str × List Str × List (Nat × List Str × List Nat))
  glbs : List Str
  bis : List Str
  excs : List (Str × Str) := []
  lams : List (Nat × Str) := []
/-- where a piece of text stands -/
structure TC where
  sc : Scope
  N : List Str
  blk : Option Scope
  ld : Bool

def isVis (sc : Scope) (x : Str) : Bool := match sc.names.lookup x with | some .local => true | some .cell => true | some .free => true | _ => false
def isGl (sc : Scope) (x : Str) : Bool := match sc.names.lookup x with | some .globalImplicit => true | _ => false
def isSt (T : TC) (x : Str) : Bool := match T.sc.names.lookup x with
  | some .local => true
  | some .cell => (match T.blk with | none => true | some cs => (match cs.names.lookup x with | some .cell => true | _ => false))
  | _ => false
def sDebug : Str := ⟨#[95, 95, 100, 101, 98, 117, 103, 95, 95]⟩
def sClassdict : Str := ⟨#[95, 95, 99, 108, 97, 115, 115, 100, 105, 99, 116, 95, 95]⟩
def sName : Str := ⟨#[95, 95, 110, 97, 109, 101, 95, 95]⟩
theorem sDebug_eq : ("__debug__" : Str) = sDebug := by decide +kernel
theorem sClassdict_eq : ("__classdict__" : Str) = sClassdict := by decide +kernel
theorem sName_eq : ("__name__" : Str) = sName := by decide +kernel
/-- a name that is no odd one -/
def nmOk (x : Str) : Bool := !(x == sDebug) && !(x == sClassdict) && !(x == sName)
theorem nmOk_d {x : Str} (h : nmOk x = true) : (x == ("__debug__" : Str)) = false := by
  simp only [nmOk, Bool.and_eq_true, Bool.not_eq_true'] at h
  rw [sDebug_eq]; exact h.1.1
theorem nmOk_c {x : Str} (h : nmOk x = true) : (x == ("__classdict__" : Str)) = false := by
  simp only [nmOk, Bool.and_eq_true, Bool.not_eq_true'] at h
  rw [sClassdict_eq]; exact h.1.2
theorem nmOk_n {x : Str} (h : nmOk x = true) : x ≠ ("__name__" : Str) := by
  simp only [nmOk, Bool.and_eq_true, Bool.not_eq_true'] at h
  rw [sName_eq]; exact beq_eq_false_iff_ne.mp h.2

def bop : Operator → Option BOp
  | .Add => some .add | .Sub => some .sub | .Mult => some .mul | .FloorDiv => some .fdiv | .Mod => some .mod | .Pow => some .pow
  | _ => none
def bopEq : BOp → BOp → Bool
  | .add, .add => true | .sub, .sub => true | .mul, .mul => true | .fdiv, .fdiv => true | .mod, .mod => true | .pow, .pow => true | _, _ => false
def copEq : COp → COp → Bool
  | .eq, .eq => true | .ne, .ne => true | .lt, .lt => true | .le, .le => true | .gt, .gt => true | .ge, .ge => true | .isN, .isN => true | .notN, .notN => true | .isIn, .isIn => true | .notIn, .notIn => true
  | _, _ => false
theorem bopEq_eq {a b : BOp} (h : bopEq a b = true) : a = b := by cases a <;> cases b <;> first | rfl | cases h
theorem copEq_eq {a b : COp} (h : copEq a b = true) : a = b := by cases a <;> cases b <;> first | rfl | cases h
def notStar : Expr → Bool
  | .Starred .. => false
  | _ => true
def noStars : List Expr → Bool
  | [] => true
  | e :: es => notStar e && noStars es
def notSlice : Expr → Bool
  | .Slice .. => false
  | _ => true
def notSet : Expr → Bool
  | .Set .. => false
  | _ => true
def notComp : Expr → Bool
  | .ListComp .. => false | .SetComp .. => false | .DictComp .. => false
  | _ => true
def noArgs (a : Arguments) : Bool := a.posonlyargs.isEmpty && a.args.isEmpty && a.vararg.isNone && a.kwonlyargs.isEmpty && a.kw_defaults.isEmpty && a.kwarg.isNone && a.defaults.isEmpty
theorem noArgs_eq {a : Arguments} (h : noArgs a = true) : a = { posonlyargs := [], args := [], vararg := none, kwonlyargs := [], kw_defaults := [], kwarg := none, defaults := [] } := by
  obtain ⟨a1, a2, a3, a4, a5, a6, a7⟩ := a
  simp only [noArgs, Bool.and_eq_true, List.isEmpty_iff, Option.isNone_iff_eq_none] at h
  obtain ⟨⟨⟨⟨⟨⟨rfl, rfl⟩, rfl⟩, rfl⟩, rfl⟩, rfl⟩, rfl⟩ := h
  rfl
/-- -1 as it is written -/
def minusOne : Option Expr → Bool
  | some (.UnaryOp .USub (.Constant (.int i) _ _) _) => i == 1
  | _ => false
theorem minusOne_eq {o : Option Expr} (h : minusOne o = true) : ∃ k p q, o = some (.UnaryOp .USub (.Constant (.int 1) k p) q) := by
  unfold minusOne at h
  split at h
  · rename_i i k p q
    rw [eq_of_beq h]
    exact ⟨_, _, _, rfl⟩
  · cases h
def plainBase : Expr → Bool
  | .Call .. => false
  | _ => true
theorem starEach_ns {e : Expr} {es : List Expr} {env : Env} (h : notStar e = true) : starEach (e :: es) env = (false, eval e env) :: starEach es env := by
  cases e <;> first | rfl | cases h
theorem noStars_any : ∀ {es : List Expr} {env : Env} {pos : Pos}, noStars es = true → (backTo pos (starEach es env)).any (·.1) = false
  | [], env, pos, _ => rfl
  | e :: es, env, pos, h => by
    obtain ⟨h1, h2⟩ := (Bool.and_eq_true _ _).mp h
    rw [starEach_ns h1]
    show (false || (backTo pos (starEach es env)).any (·.1)) = false
    rw [noStars_any h2]; rfl
theorem noStars_all : ∀ {es : List Expr} {env : Env} {pos : Pos}, noStars es = true → (backTo pos (starEach es env)).all (fun x => !x.1) = true
  | [], env, pos, _ => rfl
  | e :: es, env, pos, h => by
    obtain ⟨h1, h2⟩ := (Bool.and_eq_true _ _).mp h
    rw [starEach_ns h1]
    show (true && (backTo pos (starEach es env)).all (fun x => !x.1)) = true
    rw [noStars_all h2]; rfl
theorem attrBase {o : Expr} {a : Str} {env : Env} {w : Sem Value} (h : plainBase o = true) : attributeBase o a env w = w := by
  cases o <;> first | rfl | cases h
theorem behind_ns {op : CmpOp} {b : Expr} (h : notSet b = true) : behindInMarks op b = false := by
  cases b <;> first | rfl | cases h
theorem folded_ns {e : Expr} {env : Env} {x : Value} (h : notSet e = true) : foldedSetIterable e env x = pure x := by
  cases e <;> first | rfl | cases h
theorem plainIx {b : Expr} (h : notSlice b = true) : PlainIx b := by
  intro o i
  cases b <;> first | rfl | cases h
theorem swaps_nc {e : Expr} {t : Option Expr} {l : Nat} {env : Env} (h : notComp e = true) : swapsWith e t l env = pure false := by
  cases e <;> first | rfl | cases h
/-- a target that is no name -/
def notName : Expr → Bool
  | .Name .. => false
  | _ => true
theorem swaps_nn {e t : Expr} {l : Nat} {env : Env} (h : notName t = true) : swapsWith e (some t) l env = pure false := by
  cases e <;> first | rfl | (cases t <;> first | rfl | cases h)
theorem assignEach_ns {e : Expr} {es : List Expr} {env : Env} (h : notStar e = true) : assignEach (e :: es) env = (false, assign e env) :: assignEach es env := by
  cases e <;> first | rfl | cases h
theorem assignEach_len : ∀ {es : List Expr} {env : Env}, (assignEach es env).length = es.length
  | [], _ => rfl
  | e :: es, env => by
    have ih := assignEach_len (es := es) (env := env)
    cases e <;> (show (assignEach es env).length + 1 = es.length + 1; rw [ih])
theorem assignEach_none : ∀ {es : List Expr} {env : Env}, noStars es = true → (assignEach es env).findIdx? (·.1) = none
  | [], _, _ => rfl
  | e :: es, env, h => by
    obtain ⟨h1, h2⟩ := (Bool.and_eq_true _ _).mp h
    rw [assignEach_ns h1, List.findIdx?_cons]
    simp only [Bool.false_eq_true, if_false]
    rw [assignEach_none h2]; rfl
def tupTup : Expr → Expr → Bool
  | .Tuple .., .Tuple .. => true
  | .List .., .Tuple .. => true
  | _, _ => false
theorem stores_none {tg e : Expr} {env : Env} (h : tupTup tg e = false) : swappedStores [tg] e env = pure none := by
  cases tg <;> cases e <;> first | rfl | cases h

/-! ### values of constants -/
def cstEq : Const → PV → Bool
  | .none, .non => true
  | .bool b, .bl c => b == c
  | .int i, .int j => i == j
  | .str x, .str s => (x == toStr s) && s.all (fun c => decide (c < 1114112)) && decide (s.length ≤ line)
  | _, _ => false
def biName : Bi → Str
  | .len => ⟨#[108, 101, 110]⟩ | .int => ⟨#[105, 110, 116]⟩ | .abs => ⟨#[97, 98, 115]⟩ | .sum => ⟨#[115, 117, 109]⟩ | .sorted _ => ⟨#[115, 111, 114, 116, 101, 100]⟩
  | .tuple => ⟨#[116, 117, 112, 108, 101]⟩ | .list _ => ⟨#[108, 105, 115, 116]⟩ | .all => ⟨#[97, 108, 108]⟩ | .any => ⟨#[97, 110, 121]⟩ | .min2 => ⟨#[109, 105, 110]⟩ | .max2 => ⟨#[109, 97, 120]⟩
  | .str1 => ⟨#[115, 116, 114]⟩
  | .min1 => ⟨#[109, 105, 110]⟩ | .max1 => ⟨#[109, 97, 120]⟩ | .divmod => ⟨#[100, 105, 118, 109, 111, 100]⟩ | .isi _ => ⟨#[105, 115, 105, 110, 115, 116, 97, 110, 99, 101]⟩
/-- how many arguments a method takes -/
def meMany : Me → Nat
  | .upper => 0
  | _ => 1
/-- a method's name -/
def meName : Me → Str
  | .append => ⟨#[97, 112, 112, 101, 110, 100]⟩
  | .join => ⟨#[106, 111, 105, 110]⟩
  | .split _ => ⟨#[115, 112, 108, 105, 116]⟩
  | .upper => ⟨#[117, 112, 112, 101, 114]⟩
def sRange : Str := ⟨#[114, 97, 110, 103, 101]⟩
def tyName : Ty → Str
  | .int => ⟨#[105, 110, 116]⟩ | .bool => ⟨#[98, 111, 111, 108]⟩ | .str => ⟨#[115, 116, 114]⟩ | .tuple => ⟨#[116, 117, 112, 108, 101]⟩ | .list => ⟨#[108, 105, 115, 116]⟩
/-- an argument's number fits the built-in -/
def biMany : Bi → Nat
  | .min2 => 2 | .max2 => 2 | .divmod => 2 | .isi _ => 2 | _ => 1
def kwNames : List Keyword → Option (List Str)
  | [] => some []
  | ⟨nm, _, _⟩ :: r => match nm, kwNames r with | some n, some ns => some (n :: ns) | _, _ => none
theorem kwNames_cons {nm : Option Str} {v : Expr} {kp : Pos} {r : List Keyword} {ks : List Str} (h : kwNames (⟨nm, v, kp⟩ :: r) = some ks) : ∃ n ns, nm = some n ∧ kwNames r = some ns ∧ ks = n :: ns := by
  unfold kwNames at h
  cases nm with
  | none => cases h
  | some n =>
    cases q : kwNames r with
    | none => rw [q] at h; cases h
    | some ns => rw [q] at h; cases h; exact ⟨n, ns, rfl, rfl, rfl⟩
theorem kwNames_all : ∀ {kws : List Keyword} {ks : List Str} {env : Env} {pos : Pos}, kwNames kws = some ks → (backToKw pos (keywordEach kws env)).all (·.1.isSome) = true ∧ (backToKw pos (keywordEach kws env)).filterMap (·.1) = ks ∧ (backToKw pos (keywordEach kws env)).any (·.1.isNone) = false
  | [], ks, env, pos, h => by
    simp only [kwNames, Option.some.injEq] at h; subst h
    exact ⟨rfl, rfl, rfl⟩
  | ⟨nm, v, kp⟩ :: r, ks, env, pos, h => by
    obtain ⟨n, ns, rfl, e2, rfl⟩ := kwNames_cons h
    obtain ⟨h1, h2, h3⟩ := kwNames_all (env := env) (pos := pos) e2
    refine ⟨?_, ?_, ?_⟩
    · show (true && (backToKw pos (keywordEach r env)).all (·.1.isSome)) = true
      rw [h1]; rfl
    · show n :: (backToKw pos (keywordEach r env)).filterMap (·.1) = n :: ns
      rw [h2]
    · show (false || (backToKw pos (keywordEach r env)).any (·.1.isNone)) = false
      rw [h3]; rfl
theorem kwNames_len : ∀ {kws : List Keyword} {ks : List Str}, kwNames kws = some ks → kws.length = ks.length
  | [], ks, h => by simp only [kwNames, Option.some.injEq] at h; subst h; rfl
  | ⟨nm, v, kp⟩ :: r, ks, h => by
    obtain ⟨n, ns, rfl, e2, rfl⟩ := kwNames_cons h
    rw [List.length_cons, List.length_cons, kwNames_len e2]

/-! ### where stores are swapped -/
def isLocal (sc : Scope) (x : Str) : Bool := sc.names.lookup x == some .local
theorem isLocal_eq {sc : Scope} {x : Str} (h : isLocal sc x = true) : sc.names.lookup x = some .local := by simpa [isLocal] using h
def isStar : Expr → Bool
  | .Starred .. => true
  | _ => false
def lineOf (ts : List Expr) : Nat := (ts.head?.map (·.pos.line)).getD 0
def namesOf (sc : Scope) (l : Nat) (ts : List Expr) : List Str := ts.filterMap fun
  | .Name id pos => if sc.names.lookup id == some .local && pos.line == l then some id else none
  | _ => none
def plainTup (sc : Scope) (ts vs : List Expr) : Bool := !(ts.length == 2 || ts.length == 3) || vs.length != ts.length || vs.any isStar ||
  (namesOf sc (lineOf ts) ts).length != ts.length || (namesOf sc (lineOf ts) ts).eraseDups.length != (namesOf sc (lineOf ts) ts).length || vs.all (foldedForSure 8)
def noSwap (sc : Scope) : Expr → Expr → Bool
  | .Tuple ts _ _, .Tuple vs _ _ => plainTup sc ts vs
  | .List ts _, .Tuple vs _ _ => plainTup sc ts vs
  | _, _ => true
def badLen (ts vs : List Expr) (env : Env) : Bool := !(ts.length == 2 || ts.length == 3) || vs.length != ts.length || env.blockKind != .function
def badNames (ts : List Expr) (env : Env) : Bool := (namesOf env.scope (lineOf ts) ts).length != ts.length || (namesOf env.scope (lineOf ts) ts).eraseDups.length != (namesOf env.scope (lineOf ts) ts).length
def swapRest (ts vs : List Expr) (env : Env) : Sem (Option (List Str)) :=
  if badLen ts vs env then pure none else if vs.any isStar then pure none else if badNames ts env then pure none else if vs.all (foldedForSure 8) then pure none
  else if vs.all (constantsAlone 8) then (do let _ ← (unsupported "assign.tuple-of-constant-expressions:order-of-the-stores" : Sem PUnit); pure (some (namesOf env.scope (lineOf ts) ts)))
  else pure (some (namesOf env.scope (lineOf ts) ts))
theorem swap_tup {ts vs : List Expr} {a b : Nat} {p q : Pos} {env : Env} : swappedStores [.Tuple ts a p] (.Tuple vs b q) env = swapRest ts vs env := rfl
theorem swap_lst {ts vs : List Expr} {b : Nat} {p q : Pos} {env : Env} : swappedStores [.List ts p] (.Tuple vs b q) env = swapRest ts vs env := rfl
theorem swapRest_none {ts vs : List Expr} {env : Env} (h : plainTup env.scope ts vs = true) : swapRest ts vs env = pure none := by
  unfold swapRest
  unfold plainTup at h
  by_cases h1 : badLen ts vs env = true
  · rw [if_pos h1]
  rw [if_neg h1]
  by_cases h2 : vs.any isStar = true
  · rw [if_pos h2]
  rw [if_neg h2]
  by_cases h3 : badNames ts env = true
  · rw [if_pos h3]
  rw [if_neg h3]
  by_cases h4 : vs.all (foldedForSure 8) = true
  · rw [if_pos h4]
  simp only [badLen, badNames, Bool.or_eq_true, not_or, Bool.not_eq_true] at h1 h2 h3 h4 h
  rw [h1.1.1, h1.1.2, h2, h3.1, h3.2, h4] at h
  simp at h
theorem noSwap_none {tg v : Expr} {env : Env} (h : noSwap env.scope tg v = true) : swappedStores [tg] v env = pure none := by
  cases hb : tupTup tg v with
  | false => exact stores_none hb
  | true =>
    cases tg <;> first | cases hb | skip
    all_goals cases v <;> first | cases hb | skip
    · exact swap_lst.trans (swapRest_none h)
    · exact swap_tup.trans (swapRest_none h)
theorem blockKind_fn {env : Env} (h : env.scope.kind = .function) : env.blockKind = .function := by
  unfold Env.blockKind
  rw [h]; rfl
theorem swap_two {a b : Str} {ap bp p q : Pos} {k l : Nat} {c d : Expr} {env : Env} (hk : env.scope.kind = .function) (ha : isLocal env.scope a = true) (hb : isLocal env.scope b = true) (hl : (bp.line == ap.line) = true) (hne : (a == b) = false)
    (hc : notStar c = true) (hd : notStar d = true) (hf : (foldedForSure 8 c && foldedForSure 8 d) = false) (hg : (constantsAlone 8 c && constantsAlone 8 d) = false) :
    swappedStores [.Tuple [.Name a ap, .Name b bp] k p] (.Tuple [c, d] l q) env = pure (some [a, b]) := by
  rw [swap_tup]
  unfold swapRest badLen badNames
  have n1 : namesOf env.scope (lineOf [.Name a ap, .Name b bp]) [.Name a ap, .Name b bp] = [a, b] := by
    have e1 : (env.scope.names.lookup a == some NameKind.local) = true := ha
    have e2 : (env.scope.names.lookup b == some NameKind.local) = true := hb
    have l0 : lineOf [.Name a ap, .Name b bp] = ap.line := rfl
    simp only [namesOf, l0, List.filterMap_cons, List.filterMap_nil, e1, e2, hl, beq_self_eq_true, Bool.and_self, if_true]
  have s1 : isStar c = false := by cases c <;> first | rfl | cases hc
  have s2 : isStar d = false := by cases d <;> first | rfl | cases hd
  rw [n1]
  have hne' : (b == a) = false := by
    rw [beq_eq_false_iff_ne] at hne ⊢
    exact fun e => hne e.symm
  have n2 : [a, b].eraseDups = [a, b] := by
    simp [List.eraseDups_cons, hne']
  rw [n2, blockKind_fn hk]
  have c2 : [c, d].any isStar = false := by simp [s1, s2]
  have c4 : [c, d].all (foldedForSure 8) = false := by simpa using hf
  have c5 : [c, d].all (constantsAlone 8) = false := by simpa using hg
  rw [c2, c4, c5]
  rfl
/-- whether a comprehension's list goes to the name at once -/
def swapC (sc : Scope) (x : Str) (xl l : Nat) (cs : Scope) : Bool := isLocal sc x && (xl == l) && !(cs.names.any fun (n, k) => n == x && (k == .local || k == .cell))
theorem swapC_eq {sc cs : Scope} {x : Str} {xp vp : Pos} {elt : Expr} {gs : List Comprehension} {l : Nat} {env : Env} (hk : env.scope.kind = .function) : swapsWith (.ListComp elt gs cs vp) (some (.Name x xp)) l env = pure (swapC env.scope x xp.line vp.line cs) := by
  show (pure (env.blockKind == .function && env.kindOf x == some .local && xp.line == vp.line && !(cs.names.any fun (n, k) => n == x && (k == .local || k == .cell))) : Sem Bool) = _
  rw [blockKind_fn hk]
  rfl

/-! ### the check -/
section
variable (S : SG)
/-- is the def at f called x, with so many parameters? -/
def fnIs (f : Nat) (x : Str) : Bool := match S.fns[f]? with | some (ys, _, _) => ys.contains x | none => false
/-- .. and may it be called so with words? -/
def kwIs (f : Nat) (e : Nat × List Str × List Nat) : Bool := match S.fns[f]? with | some (_, _, l) => l.contains e | none => false
def ownPairs (N : List Str) : List Nat → Option (List (Str × Nat))
  | [] => some []
  | i :: is => match N[i]?, ownPairs N is with | some x, some r => some ((x, i) :: r) | _, _ => none
mutual
def chkE : Nat → TC → Expr → Ex → Bool
  | 0, _, _, _ => false
  | n + 1, T, .Constant c _ _, ir => match ir with | .cst v => cstEq c v | _ => false
  | n + 1, T, .Name x _, ir => match ir with
    | .var i => (match T.N[i]? with | some y => x == y | none => false) && isVis T.sc x && nmOk x
    | .fz (.var i) => (match T.N[i]? with | some y => x == y | none => false) && isVis T.sc x && nmOk x
    | .glb i => (match S.glbs[i]? with | some y => x == y | none => false) && isGl T.sc x && nmOk x
    | _ => false
  | n + 1, T, .BinOp a op b _, ir => match ir with
    | .bin m o x y => (match bop op with | some k => bopEq k o | none => false) && chkE n T a x && chkE n T b y
    | _ => false
  | n + 1, T, .UnaryOp op a _, ir => match op, ir with
    | .Not, .not x => chkE n T a x
    | .USub, .neg x => chkE n T a x
    | _, _ => false
  | n + 1, T, .BoolOp op vs _, ir => match op with
    | .And => chkAnd n T vs ir
    | .Or => chkOr n T vs ir
  | n + 1, T, .Compare a ops bs _, ir => match ops, bs, ir with
    | [op], [b], .cmp k x y => (match cop op with | some k' => copEq k' k | none => false) && notSet b && chkE n T a x && chkE n T b y
    | [op, op2], [b, c], .cmp2 k k2 x y z => (match cop op with | some k' => copEq k' k | none => false) && (match cop op2 with | some k' => copEq k' k2 | none => false) && notSet c && chkE n T a x && chkE n T b y && chkE n T c z
    | _, _, _ => false
  | n + 1, T, .IfExp c a b _, ir => match ir with
    | .ife z x y => chkE n T c z && chkE n T a x && chkE n T b y
    | _ => false
  | n + 1, T, .Tuple es _ _, ir => match ir with
    | .tup xs => chkEs n T es xs
    | _ => false
  | n + 1, T, .List es _, ir => match ir with
    | .lst _ xs => chkEs n T es xs
    | _ => false
  | n + 1, T, .Subscript a s _, ir => match ir with
    | .ix x y => notSlice s && chkE n T a x && chkE n T s y
    | .rev _ x => (match s with | .Slice none none st _ => minusOne st && chkE n T a x | _ => false)
    | .sl _ x lo hi => (match s with | .Slice l u none _ => chkE n T a x && chkO n T l lo && chkO n T u hi | _ => false)
    | _ => false
  | n + 1, T, .ListComp elt gs cs _, ir => match gs, ir with
    | [⟨tg, iter, ifs, 0⟩], .lc _ own it p c e => (match ownPairs T.N own with
      | some op => blkC T.N T.sc cs op && notSet iter && chkI n T iter it && chkP n ⟨relS cs T.sc, T.N, some cs, false⟩ own tg p && chkC n ⟨relS cs T.sc, T.N, some cs, false⟩ ifs c && chkE n ⟨relS cs T.sc, T.N, some cs, false⟩ elt e
      | none => false)
    | _, _ => false
  | n + 1, T, .FormattedValue e cv sp _, ir => match ir, sp with
    | .fmt x, none => (cv == -1) && chkE n T e x
    | _, _ => false
  | n + 1, T, .JoinedStr es _, ir => match ir with
    | .fs xs => !es.isEmpty && noStars es && chkEs n T es xs
    | _ => false
  | n + 1, T, .Call fn args kws pos, ir => match fn with
    | .Name x _ => isGl T.sc x && nmOk x && noStars args && (match ir with
      | .call f es => (match kws with | [] => fnIs S f x && chkEs n T args es | _ => false)
      | .callk f es ks perm => fnIs S f x && (match kwNames kws with
        | some nm => kwIs S f (args.length, nm, perm) && chkEs n T args es && chkKs n T kws ks
        | none => false)
      | .bi b es => (match kws with
        | [] => S.bis.contains x && (x == biName b) && (args.length == biMany b) && (match b with
          | .isi t => (match args, es with
            | [a, .Name y _], .cons false z .nil => notStar a && chkE n T a z && (y == tyName t) && isGl T.sc y && S.bis.contains y
            | _, _ => false)
          | _ => chkEs n T args es)
        | _ => false)
      | .lam f e => (match kws, args with
        | [], [.Lambda ps body sc _] => T.ld && noArgs ps && S.lams.contains (f, x) && LamX.lamSB T.sc sc && chkE n ⟨sc, T.N, some sc, false⟩ body e
        | _, _ => false)
      | .tupR es => (match kws, args with
        | [], [.Call (.Name y _) as [] _] => S.bis.contains x && (x == biName .tuple) && (y == sRange) && isGl T.sc y && S.bis.contains y && noStars as && chkEs n T as es && (as.length == 1 || as.length == 2 || as.length == 3)
        | _, _ => false)
      | .lstR _ es => (match kws, args with
        | [], [.Call (.Name y _) as [] _] => S.bis.contains x && (x == biName (.list true)) && (y == sRange) && isGl T.sc y && S.bis.contains y && noStars as && chkEs n T as es && (as.length == 1 || as.length == 2 || as.length == 3)
        | _, _ => false)
      | _ => false)
    | .Attribute o m apos => (match ir, kws with
      | .me k o' es, [] => plainBase o && (apos.endLine == pos.line) && noStars args && chkE n T o o' && chkEs n T args es && (m == meName k) && (args.length == meMany k)
      | _, _ => false)
    | _ => false
  | _ + 1, _, _, _ => false
def chkAnd : Nat → TC → List Expr → Ex → Bool
  | 0, _, _, _ => false
  | n + 1, T, [], _ => false
  | n + 1, T, [a], ir => chkE n T a ir
  | n + 1, T, a :: b :: r, ir => match ir with
    | .and x y => chkE n T a x && chkAnd n T (b :: r) y
    | _ => false
def chkOr : Nat → TC → List Expr → Ex → Bool
  | 0, _, _, _ => false
  | n + 1, T, [], _ => false
  | n + 1, T, [a], ir => chkE n T a ir
  | n + 1, T, a :: b :: r, ir => match ir with
    | .or x y => chkE n T a x && chkOr n T (b :: r) y
    | _ => false
def chkEs : Nat → TC → List Expr → Exs → Bool
  | 0, _, _, _ => false
  | n + 1, T, [], ir => match ir with | .nil => true | _ => false
  | n + 1, T, e :: es, ir => match ir with
    | .cons true x r => (match e with | .Starred z _ => chkE n T z x | _ => false) && chkEs n T es r
    | .cons false x r => notStar e && chkE n T e x && chkEs n T es r
    | .nil => false
def chkKs : Nat → TC → List Keyword → Exs → Bool
  | 0, _, _, _ => false
  | n + 1, T, [], ir => match ir with | .nil => true | _ => false
  | n + 1, T, ⟨_, e, _⟩ :: es, ir => match ir with
    | .cons false x r => chkE n T e x && chkKs n T es r
    | _ => false
def chkO : Nat → TC → Option Expr → Exs → Bool
  | 0, _, _, _ => false
  | n + 1, T, none, ir => match ir with | .nil => true | _ => false
  | n + 1, T, some e, ir => match ir with | .cons false x .nil => chkE n T e x | _ => false
def chkI : Nat → TC → Expr → It → Bool
  | 0, _, _, _ => false
  | n + 1, T, e, .rng es => match e with
    | .Call (.Name y _) as [] _ => (y == sRange) && isGl T.sc y && S.bis.contains y && noStars as && chkEs n T as es && (as.length == 1 || as.length == 2 || as.length == 3)
    | _ => false
  | n + 1, T, e, .plain x => chkE n T e x
def chkP : Nat → TC → List Nat → Expr → Pat → Bool
  | 0, _, _, _, _ => false
  | n + 1, T, ks, .Name x _, p => match p with
    | .nm i => (match T.N[i]? with | some y => x == y | none => false) && isSt T x && ks.contains i
    | _ => false
  | n + 1, T, ks, .Tuple es _ _, p => match p with
    | .tp ps => noStars es && chkPs n T ks es ps
    | _ => false
  | n + 1, T, ks, .Subscript o i _, p => match p with
    | .sx x y => notSlice i && chkE n T o x && chkE n T i y
    | _ => false
  | _ + 1, _, _, _, _ => false
def chkPs : Nat → TC → List Nat → List Expr → Pats → Bool
  | 0, _, _, _, _ => false
  | n + 1, T, ks, [], p => match p with | .nil => true | _ => false
  | n + 1, T, ks, e :: es, p => match p with
    | .cons q r => chkP n T ks e q && chkPs n T ks es r
    | .nil => false
def chkC : Nat → TC → List Expr → Ex → Bool
  | 0, _, _, _ => false
  | n + 1, T, [], ir => match ir with | .cst (.bl true) => true | _ => false
  | n + 1, T, [c], ir => chkE n T c ir
  | _ + 1, _, _, _ => false
end
def patSlots : Pat → List Nat
  | .nm i => [i]
  | .tp ps => go ps
  | .sx _ _ => []
where go : Pats → List Nat
  | .nil => []
  | .cons p r => patSlots p ++ go r
mutual
def chkS : Nat → TC → Stmt → Sx → Bool
  | _, _, _, .stuck => true
  | 0, _, _, _ => false
  | n + 1, T, .Pass _, ir => match ir with | .pass => true | _ => false
  | n + 1, T, .Expr e _, ir => match ir with | .expr x => notComp e && chkE S n T e x | _ => false
  | n + 1, T, .Return (some e) _, ir => match ir with | .ret x => chkE S n T e x | _ => false
  | n + 1, T, .Return none _, ir => match ir with | .retN => true | _ => false
  | n + 1, T, .If c a b _, ir => match ir with | .ife z x y => chkE S n T c z && chkB n T a x && chkB n T b y | _ => false
  | n + 1, T, .For tg it b [] _, ir => match ir with | .for i p x => notSet it && chkI S n T it i && chkP S n T (patSlots p) tg p && chkB n T b x | _ => false
  | n + 1, T, .While c b [] _, ir => match ir with | .whl _ z x => chkE S n T c z && chkB n T b x | _ => false
  | n + 1, T, .Raise ex cs _, ir => match ir with
    | .rse c e => (match ex, cs with
      | some (.Call (.Name x _) [a] [] _), none => (match S.excs[c]? with | some y => x == y.1 | none => false) && isGl T.sc x && nmOk x && notStar a && chkE S n T a e
      | _, _ => false)
    | _ => false
  | n + 1, T, .Assign [tg] v pos, ir => match ir with
    | .asg p x => noSwap T.sc tg v && chkP S n T (patSlots p) tg p && chkE S n T v x
    | .par i j x y => (match tg, v with
      | .Tuple [.Name a ap, .Name b bp] _ _, .Tuple [c, d] _ _ => (match T.N[i]? with | some z => a == z | none => false) && (match T.N[j]? with | some z => b == z | none => false) && !(i == j) && !(a == b) &&
          isLocal T.sc a && isLocal T.sc b && (ap.line == bp.line) && notStar c && notStar d && !(foldedForSure 8 c && foldedForSure 8 d) && !(constantsAlone 8 c && constantsAlone 8 d) && chkE S n T c x && chkE S n T d y
      | _, _ => false)
    | _ => false
  | _ + 1, _, _, _ => false
def chkB : Nat → TC → List Stmt → Sx → Bool
  | 0, _, _, _ => false
  | n + 1, T, [], ir => match ir with | .pass => true | _ => false
  | n + 1, T, [s], ir => chkS n T s ir
  | n + 1, T, s :: t :: r, ir => match ir with
    | .seq x y => chkS n T s x && chkB n T (t :: r) y
    | _ => false
end
end
end Mi

/-! Mi13: the interpreter's equations, in the words of the rules. -/
namespace Mi
open PySem L2 PySem.Spec PyProof.Rows
section
variable (G : Nat → Option PV) (cl : Nat → List PV → List Ob → R PV)
theorem ev_cst (v : PV) : ev G cl (.cst v) = fun _ h => .ok v h := by funext σ h; rw [ev]
theorem ev_var (i : Nat) : ev G cl (.var i) = fun σ h => match nth σ i with | some v => .ok v h | none => .no := by funext σ h; rw [ev] <;> rfl
theorem ev_glb (i : Nat) : ev G cl (.glb i) = fun _ h => match G i with | some v => .ok v h | none => .no := by funext σ h; rw [ev] <;> rfl
theorem ev_bin (m : Bool) (op : BOp) (a b : Ex) : ev G cl (.bin m op a b) = fun σ h => two (ev G cl a σ h) (ev G cl b σ) (apBin m op) := by funext σ h; rw [ev] <;> rfl
theorem ev_neg (a : Ex) : ev G cl (.neg a) = fun σ h => match ev G cl a σ h with
      | .ok (.int i) h1 => .ok (.int (-i)) h1
      | .ex c fs h1 => .ex c fs h1
      | _ => .no := by funext σ h; rw [ev] <;> rfl
theorem ev_not (a : Ex) : ev G cl (.not a) = fun σ h => nots (ev G cl a σ h) := by funext σ h; rw [ev] <;> rfl
theorem ev_and (a b : Ex) : ev G cl (.and a b) = fun σ h => ands (ev G cl a σ h) (ev G cl b σ) := by funext σ h; rw [ev] <;> rfl
theorem ev_or (a b : Ex) : ev G cl (.or a b) = fun σ h => ors (ev G cl a σ h) (ev G cl b σ) := by funext σ h; rw [ev] <;> rfl
theorem ev_cmp (op : COp) (a b : Ex) : ev G cl (.cmp op a b) = fun σ h => two (ev G cl a σ h) (ev G cl b σ) (apCmp op) := by funext σ h; rw [ev] <;> rfl
theorem ev_cmp2 (op op2 : COp) (a b c : Ex) : ev G cl (.cmp2 op op2 a b c) = fun σ h => chains (ev G cl a σ h) (ev G cl b σ) (ev G cl c σ) op op2 := by funext σ h; rw [ev] <;> rfl
theorem ev_ife (c a b : Ex) : ev G cl (.ife c a b) = fun σ h => ifs (ev G cl c σ h) (ev G cl a σ) (ev G cl b σ) := by funext σ h; rw [ev] <;> rfl
theorem ev_tup (es : Exs) : ev G cl (.tup es) = fun σ h => argsR (evs G cl es σ h) dispT := by funext σ h; rw [ev] <;> rfl
theorem ev_lst (m : Bool) (es : Exs) : ev G cl (.lst m es) = fun σ h => argsR (evs G cl es σ h) (dispL m) := by funext σ h; rw [ev] <;> rfl
theorem ev_call (f : Nat) (es : Exs) : ev G cl (.call f es) = fun σ h => argsR (evs G cl es σ h) (cl f) := by funext σ h; rw [ev] <;> rfl
theorem ev_callk (f : Nat) (es ks : Exs) (perm : List Nat) : ev G cl (.callk f es ks perm) = fun σ h => kwR (evs G cl es σ h) (evs G cl ks σ) perm (cl f) := by funext σ h; rw [ev] <;> rfl
theorem ev_bi (b : Bi) (es : Exs) : ev G cl (.bi b es) = fun σ h => argsR (evs G cl es σ h) (apBi b) := by funext σ h; rw [ev] <;> rfl
def rngT (xs : List PV) (h : List Ob) : R PV := match rngItems xs with | some ys => .ok (.tup ys) h | none => .no
def rngL (m : Bool) (xs : List PV) (h : List Ob) : R PV := match rngItems xs with | some ys => mkL m ys h | none => .no
theorem ev_tupR (es : Exs) : ev G cl (.tupR es) = fun σ h => argsR (evs G cl es σ h) rngT := by funext σ h; rw [ev] <;> rfl
theorem ev_lstR (m : Bool) (es : Exs) : ev G cl (.lstR m es) = fun σ h => argsR (evs G cl es σ h) (rngL m) := by funext σ h; rw [ev] <;> rfl
theorem ev_ix (a b : Ex) : ev G cl (.ix a b) = fun σ h => two (ev G cl a σ h) (ev G cl b σ) apIx := by funext σ h; rw [ev] <;> rfl
theorem ev_sl (m : Bool) (a : Ex) (lo hi : Exs) : ev G cl (.sl m a lo hi) = fun σ h => slR (ev G cl a σ h) (fun h => bndR (evs G cl lo σ h)) (fun h => bndR (evs G cl hi σ h)) m := by funext σ h; rw [ev] <;> rfl
theorem ev_lc (m : Bool) (own : List Nat) (it : It) (p : Pat) (c e : Ex) : ev G cl (.lc m own it p c e) = fun σ h => match evI G cl it σ h with
      | .ok xs h1 => lcR m (lcL (evP G cl p) (fun σ h => test (ev G cl c σ h)) (ev G cl e) (Mi.wipe σ own) xs h1)
      | .ex c fs h1 => .ex c fs h1
      | .no => .no := by funext σ h; rw [ev] <;> rfl
theorem ev_me (k : Me) (o : Ex) (es : Exs) : ev G cl (.me k o es) = fun σ h => match ev G cl o σ h with
      | .ok x h1 => match meTy k x h1 with
        | true => match evs G cl es σ h1 with
          | .ok vs h2 => apMe k x vs h2
          | .ex c fs h2 => .ex c fs h2
          | .no => .no
        | false => .no
      | .ex c fs h1 => .ex c fs h1
      | .no => .no := by funext σ h; rw [ev] <;> rfl
theorem ev_fz (a : Ex) : ev G cl (.fz a) = fun σ h => fzR (ev G cl a σ h) := by funext σ h; rw [ev] <;> rfl
theorem ev_lam (f : Nat) (e : Ex) : ev G cl (.lam f e) = fun σ h => lamR (ev G cl e σ h) fun v h1 => cl f [v] h1 := by funext σ h; rw [ev] <;> rfl
theorem ev_rev (m : Bool) (a : Ex) : ev G cl (.rev m a) = fun σ h => revR m (ev G cl a σ h) := by funext σ h; rw [ev] <;> rfl
theorem ev_fmt (a : Ex) : ev G cl (.fmt a) = fun σ h => fmtR (ev G cl a σ h) := by funext σ h; rw [ev] <;> rfl
theorem ev_fs (es : Exs) : ev G cl (.fs es) = fun σ h => evF G cl es σ [] h := by funext σ h; rw [ev] <;> rfl
theorem evF_nil : evF G cl .nil = fun σ acc h => fsL [] σ acc h := by funext σ acc h; rw [evF] <;> rfl
theorem evF_cons (e : Ex) (r : Exs) (rs : List (Sl → List Ob → R PV)) (hr : evF G cl r = fun σ acc h => fsL rs σ acc h) : evF G cl (.cons false e r) = fun σ acc h => fsL (ev G cl e :: rs) σ acc h := by
  funext σ acc h
  rw [evF, hr, fsL] <;> rfl
theorem evs_nil : evs G cl .nil = fun _ h => .ok [] h := by funext σ h; rw [evs]
theorem evs_cons (e : Ex) (r : Exs) : evs G cl (.cons false e r) = fun σ h => consR (ev G cl e σ h) (evs G cl r σ) := by funext σ h; rw [evs] <;> rfl
theorem evs_star (e : Ex) (r : Exs) : evs G cl (.cons true e r) = fun σ h => starR (ev G cl e σ h) (evs G cl r σ) := by funext σ h; rw [evs] <;> rfl
theorem evI_rng (es : Exs) : evI G cl (.rng es) = fun σ h => rngI (evs G cl es σ h) := by funext σ h; rw [evI] <;> rfl
theorem evI_plain (e : Ex) : evI G cl (.plain e) = fun σ h => plainI (ev G cl e σ h) := by funext σ h; rw [evI] <;> rfl
theorem evP_nm (i : Nat) : evP G cl (.nm i) = fun v σ h => .ok (put σ i (some v)) h := by funext v σ h; rw [evP]
theorem evP_tp (ps : Pats) : evP G cl (.tp ps) = tpR (evPs G cl ps) := by funext v σ h; cases v <;> (rw [evP] <;> first | rfl | (intro _ q; cases q))
theorem evP_sx (o i : Ex) : evP G cl (.sx o i) = fun v σ h => sxR (ev G cl o σ h) (ev G cl i σ) v σ := by funext v σ h; rw [evP] <;> rfl
theorem evPs_nil : evPs G cl .nil = fun vs σ h => match vs with | [] => .ok σ h | _ :: _ => .no := by funext v σ h; cases v <;> rw [evPs]
theorem evPs_cons (p : Pat) (r : Pats) : evPs G cl (.cons p r) = fun vs σ h => match vs with
      | v :: vs => match evP G cl p v σ h with
        | .ok σ1 h1 => evPs G cl r vs σ1 h1
        | _ => .no
      | [] => .no := by funext v σ h; cases v <;> rw [evPs] <;> rfl
theorem ex_pass : exec G cl .pass = fun σ h => .ok (.nx σ) h := by funext σ h; rw [exec]
theorem ex_seq (a b : Sx) : exec G cl (.seq a b) = fun σ h => seqR (exec G cl a σ h) (exec G cl b) := by
  funext σ h; rw [exec]; unfold seqR
  cases exec G cl a σ h with
  | ok f h1 => cases f <;> rfl
  | ex c fs h1 => rfl
  | no => rfl
theorem ex_asg (p : Pat) (e : Ex) : exec G cl (.asg p e) = fun σ h => exR (ev G cl e σ h) σ fun v h1 => asgR (evP G cl p v σ h1) := by
  funext σ h; rw [exec]; unfold exR asgR
  cases ev G cl e σ h with
  | ok v h1 => simp only <;> cases evP G cl p v σ h1 <;> rfl
  | ex c fs h1 => rfl
  | no => rfl
theorem ex_par (i j : Nat) (a b : Ex) : exec G cl (.par i j a b) = fun σ h => exR (ev G cl a σ h) σ fun x h1 => exR (ev G cl b σ h1) σ fun y h2 => .ok (.nx (put (put σ i (some x)) j (some y))) h2 := by
  funext σ h; rw [exec]; unfold exR
  cases ev G cl a σ h with
  | ok v h1 => simp only <;> cases ev G cl b σ h1 <;> rfl
  | ex c fs h1 => rfl
  | no => rfl
theorem ex_expr (e : Ex) : exec G cl (.expr e) = fun σ h => exR (ev G cl e σ h) σ fun _ h1 => .ok (.nx σ) h1 := by funext σ h; rw [exec]; cases ev G cl e σ h <;> rfl
theorem ex_ret (e : Ex) : exec G cl (.ret e) = fun σ h => exR (ev G cl e σ h) σ fun v h1 => .ok (.rt v) h1 := by funext σ h; rw [exec]; cases ev G cl e σ h <;> rfl
theorem ex_retN : exec G cl .retN = fun _ h => .ok (.rt .non) h := by funext σ h; rw [exec]
theorem ex_ife (c : Ex) (a b : Sx) : exec G cl (.ife c a b) = fun σ h => exR (test (ev G cl c σ h)) σ fun k h1 => match k with | true => exec G cl a σ h1 | false => exec G cl b σ h1 := by funext σ h; rw [exec]; cases test (ev G cl c σ h) <;> rfl
theorem ex_for (it : It) (p : Pat) (b : Sx) : exec G cl (.for it p b) = fun σ h => exR (evI G cl it σ h) σ fun xs h1 => forL (evP G cl p) (exec G cl b) xs σ h1 := by funext σ h; rw [exec]; cases evI G cl it σ h <;> rfl
theorem ex_whl (n : Nat) (c : Ex) (b : Sx) : exec G cl (.whl n c b) = fun σ h => whlL (fun σ h => test (ev G cl c σ h)) (exec G cl b) n σ h := by funext σ h; rw [exec]
theorem ex_rse (c : Nat) (e : Ex) : exec G cl (.rse c e) = fun σ h => exR (ev G cl e σ h) σ (rseR c σ) := by funext σ h; rw [exec]; unfold exR; cases ev G cl e σ h <;> rfl
theorem ex_stuck : exec G cl .stuck = fun _ _ => .no := by funext σ h; rw [exec]
end

/-! ### how many -/
def allFalse : Exs → Bool
  | .nil => true
  | .cons s _ r => !s && allFalse r
def cnt : Exs → Nat
  | .nil => 0
  | .cons _ _ r => cnt r + 1
theorem evs_len {G : Nat → Option PV} {cl : Nat → List PV → List Ob → R PV} : ∀ {es : Exs} {σ : Sl} {h h' : List Ob} {ys : List PV}, allFalse es = true → evs G cl es σ h = .ok ys h' → ys.length = cnt es
  | .nil, _, _, _, _, _, e => by rw [evs_nil] at e; cases e; rfl
  | .cons true x r, _, _, _, _, a, e => by cases a
  | .cons false x r, σ, h, h', ys, a, e => by
    rw [evs_cons] at e
    simp only [consR] at e
    split at e
    · split at e
      · rename_i q
        cases e
        rw [List.length_cons, evs_len (es := r) a q]; rfl
      · cases e
      · cases e
    · cases e
    · cases e
def pcnt : Pats → Nat
  | .nil => 0
  | .cons _ r => pcnt r + 1
theorem evPs_len {G : Nat → Option PV} {cl : Nat → List PV → List Ob → R PV} : ∀ {ps : Pats} {vs : List PV} {σ σ' : Sl} {h h' : List Ob} , evPs G cl ps vs σ h = .ok σ' h' → vs.length = (pcnt ps)
  | .nil, [], _, _, _, _, e => rfl
  | .nil, _ :: _, _, _, _, _, e => by rw [evPs_nil] at e; cases e
  | .cons p r, [], _, _, _, _, e => by rw [evPs_cons] at e; cases e
  | .cons p r, v :: vs, σ, σ', h, h', e => by
    rw [evPs_cons] at e
    simp only at e
    split at e
    · rw [List.length_cons, evPs_len (ps := r) e]; rfl
    · cases e
end Mi

/-! Mi14: sorted(..) of a list or a tuple of alike data; tuple(range(..)), list(range(..)). -/
namespace Mi
open PySem L2 PySem.Spec PyProof.Rows PySem.Calls PySem.W

section
variable {prog : Program} {w : World} {A : Around} {E : Value → Shared → Prop} {s : Shared}
theorem collect_tup {l : Addr} {us : List Value} {Q : List Value → Shared → Prop} (ht : IsTup s.heap l us.toArray) (hz : us.length ≤ sizeLine)
    (fin : Q us { s with heap := (s.heap.push (seqObj "list" #[] 0)).update s.heap.objs.size (Obj.mapSeq (· ++ us.toArray)) }) : wpAny (model prog w) A (collect (.ref l)) Q E s := by
  obtain ⟨ob, e1, e2, k, e3⟩ := ht
  unfold collect
  have quiet1 : (Code.builtin "list.__iadd__" ⟨[.ref s.heap.objs.size, .ref l], []⟩).quiet = true := Code.quiet_builtin _ (by decide +kernel)
  refine wpAny_bind ?_
  refine wpAny_runValue ?_
  refine codeAny_builtin entry_proto_collect' ?_
  refine wpAny_bind ?_
  refine wpAny_newList ?_
  refine wpAny_pure ⟨quiet1, ?_⟩
  refine codeAny_builtin entry_list_iadd' ?_
  change wpAny (model prog w) _ (Builtin.List.listExtendWith (.ref s.heap.objs.size) (.ref l) (.ref s.heap.objs.size)) _ _ { s with heap := s.heap.push (seqObj "list" #[] 0) }
  have e1' : (s.heap.push (seqObj "list" #[] 0)).get? l = some ob := Heap.get?_push_of_some _ e1
  have eN : (s.heap.push (seqObj "list" #[] 0)).get? s.heap.objs.size = some (seqObj "list" #[] 0) := Heap.get?_push_size _ rfl
  have tt : (Value.type "tuple" == Value.type "tuple") = true := by rfl
  unfold Builtin.List.listExtendWith
  refine wpAny_bind ?_
  refine wpAny_typeOf (T := "tuple") ⟨ob, e1', e2⟩ ?_
  rw [if_pos (show _ = true by rw [tt, Bool.or_true])]
  refine wpAny_bind ?_
  refine listItems_at e1' e3 ?_
  refine wpAny_bind ?_
  refine listItems_at (xs := #[]) (n := 0) eN rfl ?_
  rw [if_neg (show ¬ _ by simp)]
  refine wpAny_bind ?_
  have q0 : ((#[] : Array Value) ++ us.toArray).size = us.length := by simp
  refine listUpdate_at (xs := #[]) (n := 0) eN rfl ?_ (Nat.zero_le _) (Nat.le_succ_of_le (by show ((#[] : Array Value) ++ us.toArray).size ≤ _; rw [q0]; exact hz))
  refine wpAny_pure ?_
  change wpAny (model prog w) A (do
      let ob ← load s.heap.objs.size
      match ob.data with
      | .seq ys _ => pure ys.toList
      | _ => unsupported "internal:collect") Q E { s with heap := (s.heap.push (seqObj "list" #[] 0)).update s.heap.objs.size (Obj.mapSeq (· ++ us.toArray)) }
  refine wpAny_bind (wpAny_load (get?_update_seq eN _) ?_)
  change wpAny (model prog w) A (pure ((#[] : Array Value) ++ us.toArray).toList) Q E _
  have ee : ((#[] : Array Value) ++ us.toArray).toList = us := by simp
  rw [ee]
  exact wpAny_pure fin
/-- sorted of a tuple is list.sort of a new list -/
theorem sorted_of_tup {l : Addr} {us : List Value} {Q : Value → Shared → Prop} (ht : IsTup s.heap l us.toArray) (hz : us.length ≤ sizeLine)
    (body : ∀ E' : Value → Shared → Prop, wpAny (model prog w) A.in1.in1 (Builtin.«list.sort» ⟨[.ref (s.heap.objs.size + 1)], []⟩) (fun f s' => f = .done (.ret .none) ∧ Q (.ref (s.heap.objs.size + 1)) s') E' { s with heap := copyHeap s.heap us }) :
    wpAny (model prog w) A (PySem.call (.builtin "sorted") [.ref l]) Q E s := by
  refine call_function_entry_kw kind_sorted plain_sorted entry_sorted (args_sorted1 _) ?_
  unfold Builtin.«sorted»
  refine wpAny_bind (m := checkCount "sorted" 1 1 _) ?_
  refine wpAny_pure ?_
  refine wpAny_bind ?_
  refine collect_tup ht hz ?_
  refine wpAny_bind ?_
  refine wpAny_newList ?_ hz
  have sz : ((s.heap.push (seqObj "list" #[] 0)).update s.heap.objs.size (Obj.mapSeq (· ++ us.toArray))).objs.size = s.heap.objs.size + 1 := by rw [Heap.size_update, size_push']
  change wpAny _ _ _ _ _ { s with heap := copyHeap s.heap us }
  rw [sz]
  refine wpAny_bind ?_
  refine wpAny_holding ?_
  refine wpAny_call_entry_kw slot_list_sort ⟨_, copyHeap_at s.heap us, rfl⟩ entry_list_sort ?_ (args_list_sort _)
  change wpAny (model prog w) A.in1.in1 (Builtin.«list.sort» ⟨[.ref (s.heap.objs.size + 1)], []⟩) _ _ _
  refine wpAny_mono (body _) (fun f s' ⟨ef, hq⟩ => ?_) fun _ _ z => z
  subst ef
  exact ⟨_, rfl, wpAny_pure ⟨_, rfl, hq⟩⟩
variable {β : Type} {vs : List Value} {bs : List β} {enc : β → PyData} {R : Value → β → Prop}
theorem sorted_dataT {l : Addr} {Q : Value → Shared → Prop} (ht : IsTup s.heap l vs.toArray) (e : EachIs R vs bs) (er : EachIs (fun v b => ∃ as, Reads s.heap v (enc b) as) vs bs) (hal : AllAlike (bs.map enc)) (hk : Sortable (bs.map enc)) (hL : bs.length ≤ sizeLine)
    (hu : ∀ b, b ∈ bs → A.units + 2 + (enc b).depth < cLine) (fin : ∀ out, out.length = bs.length → EachIs R out (bs.mergeSort (dataLe false enc)) → Q (.ref (s.heap.objs.size + 1)) { s with heap := sortedAll s.heap vs (List.toArray out) }) :
    wpAny (model prog w) A (PySem.call (.builtin "sorted") [.ref l]) Q E s := by
  have er2 : EachIs (fun v b => ∃ as, Reads (sortingHeap (copyHeap s.heap vs) (s.heap.objs.size + 1) vs) v (enc b) as) vs bs :=
    er.mono fun _ _ ⟨as, r⟩ => ⟨as, PyProof.Rows.Reads.keeps (fun _ _ => sorting_copy_old) r⟩
  have S := SortsAt.data (prog := prog) (w := w) (A := A.in1.in1) (s := { s with heap := sortingHeap (copyHeap s.heap vs) (s.heap.objs.size + 1) vs }) (each_map (R := fun v d => ∃ as, Reads (sortingHeap (copyHeap s.heap vs) (s.heap.objs.size + 1) vs) v d as) enc er2) hal hk (bound_map hu)
  have hL' : vs.length ≤ sizeLine := by rw [e.length]; exact hL
  have out := fin (sortVals (dataKind (sortingHeap (copyHeap s.heap vs) (s.heap.objs.size + 1) vs) (bs.map enc)) false vs vs) (by rw [sortVals_length false rfl]; exact e.length) (sortVals_data false e er2 hal)
  exact sorted_of_tup ht hL' fun E' => list_sort_vals (s := { s with heap := copyHeap s.heap vs }) (copyHeap_at s.heap vs) S hL' ⟨rfl, out⟩
end

/-- sorted(..) of alike data -/
def rSrt (K : PySem.W.Frag) : List V → Hp → VK → Prop := fun xs H Q => ∃ (a : Addr) (bs : List (V × PV)), xs = [.ref a] ∧ (SqL K H a (bs.map (·.1)) ∨ SqT K H a (bs.map (·.1))) ∧ (∀ b ∈ bs, Dp K H b.1 (toD b.2)) ∧ AllAlike (bs.map fun b => toD b.2) ∧ Sortable (bs.map fun b => toD b.2) ∧
  (∀ b ∈ bs, (toD b.2).depth ≤ 60) ∧ ∀ p, H p = none → Q (.ref p) (upd H p (.lst ((bs.mergeSort (dataLe false fun b => toD b.2)).map (·.1))))
theorem each_vals {β : Type} {f : β → V} : ∀ {bs : List β} {vs : List Value}, Vals (bs.map f) vs → EachIs (fun v b => RelV (f b) v) vs bs
  | [], _, r => by cases r; exact .nil
  | b :: bs, _, r => by cases r with | cons h t => exact .cons h (each_vals t)
theorem vals_each {β : Type} {f : β → V} : ∀ {bs : List β} {vs : List Value}, EachIs (fun v b => RelV (f b) v) vs bs → Vals (bs.map f) vs
  | _, _, .nil => .nil
  | _, _, .cons h t => .cons h (vals_each t)
theorem each_reads {X : Cx} {pins : List (Addr × Obj)} {s : Shared} {σ : L2.St} {H : Hp} (I : Inv X pins σ H s) : ∀ {bs : List (V × PV)} {vs : List Value}, (∀ b ∈ bs, Dp X.K H b.1 (toD b.2)) → EachIs (fun v b => RelV b.1 v) vs bs → EachIs (fun v b => ∃ as, Reads s.heap v (toD b.2) as) vs bs
  | _, _, _, .nil => .nil
  | _ :: _, _, h, .cons r t => .cons (Dp.reads I _ _ _ (h _ List.mem_cons_self) r) (each_reads I (fun b hb => h b (List.mem_cons_of_mem _ hb)) t)
theorem cr_srt {X : Cx} (hu : X.A.units + 65 < cLine) : CallR X (.builtin "sorted") (rSrt X.K) := by
  intro pins s σ H xs us Q I r ⟨a, bs, e, hs, hd, hal, hk, hdp, q⟩
  subst e
  rw [Vals.ref1 r]
  have hu' : ∀ b, b ∈ bs → X.A.units + 2 + (toD b.2).depth < cLine := fun b hb => by have := hdp b hb; omega
  have fin : ∀ (its : List Value), bs.length ≤ sizeLine → ∀ out, out.length = bs.length → EachIs (fun v (b : V × PV) => RelV b.1 v) out (bs.mergeSort (dataLe false fun b => toD b.2)) →
      EP X pins σ Q (.ref (s.heap.objs.size + 1)) { s with heap := sortedAll s.heap its (List.toArray out) } := fun its hz out ho eo => by
    have rv := vals_each eo
    obtain ⟨ep, he'⟩ := PyProof.Rows.sortedAll_at s.heap its (List.toArray out)
    have hl : ((bs.mergeSort (dataLe false fun b => toD b.2)).map (·.1)).length ≤ sizeLine := by rw [List.length_map, List.length_mergeSort]; exact hz
    exact ⟨.ref _, upd H (s.heap.objs.size + 1) (.lst ((bs.mergeSort (dataLe false fun b => toD b.2)).map (·.1))), I.laid (t' := s.toks) (fun _ _ => PyProof.Rows.sortedAll_old) (Nat.le_succ _) ⟨hl, out, ep, rv, he'⟩, rfl, q _ (I.hok.fresh (Nat.le_succ _))⟩
  rcases hs with hs | hs
  · obtain ⟨its, rv, pl, hz⟩ := I.list hs
    rw [List.length_map] at hz
    exact sorted_data (enc := fun b : V × PV => toD b.2) pl.isList (each_vals rv) (each_reads I hd (each_vals rv)) hal hk hz hu' (fin its hz)
  · obtain ⟨its, rv, pl, hz⟩ := I.tuple hs
    rw [List.length_map] at hz
    exact sorted_dataT (enc := fun b : V × PV => toD b.2) pl (each_vals rv) (each_reads I hd (each_vals rv)) hal hk hz hu' (fin its hz)

/-! ### the sort on trees is that one -/
mutual
theorem alP_D : ∀ x y : PV, alP x y = true → alike (toD x) (toD y) = true
  | .non, y, h => by cases y <;> simp [alP, toD, alike] at *
  | .bl a, y, h => by cases y <;> simp [alP, toD, alike] at *
  | .int i, y, h => by cases y <;> simp [alP, toD, alike] at *
  | .str s, y, h => by cases y <;> simp [alP, toD, alike] at *
  | .tup xs, y, h => by
    cases y <;> first | (simp [alP] at h; done) | skip
    simp only [toD, alike]
    exact alAll_D xs _ (by simpa [alP] using h)
  | .lst xs, y, h => by
    cases y <;> first | (simp [alP] at h; done) | skip
    simp only [toD, alike]
    exact alAll_D xs _ (by simpa [alP] using h)
  | .frz xs, y, h => by simp [alP] at h
  | .loc n, y, h => by simp [alP] at h
theorem alAll_D : ∀ xs ys : List PV, alAll xs ys = true → alikeAll (toDs xs) (toDs ys) = true
  | [], ys, h => by simp [toDs, alikeAll]
  | x :: xs, [], h => by simp [toDs, alikeAll]
  | x :: xs, y :: ys, h => by
    rw [alAll] at h
    cases q : alP x y with
    | false => rw [q] at h; cases h
    | true =>
      rw [q] at h
      simp only [toDs, alikeAll, alP_D x y q, alAll_D xs ys h, Bool.and_self]
end
mutual
theorem sm_al : ∀ x y z : PV, sm x y = true → sm x z = true → alP y z = true
  | .non, y, z, h, h' => by cases y <;> cases z <;> simp [sm, alP] at *
  | .bl a, y, z, h, h' => by cases y <;> cases z <;> simp [sm, alP] at *
  | .int i, y, z, h, h' => by cases y <;> cases z <;> simp [sm, alP] at *
  | .str s, y, z, h, h' => by cases y <;> cases z <;> simp [sm, alP] at *
  | .tup xs, y, z, h, h' => by
    cases y <;> first | (simp [sm] at h; done) | skip
    cases z <;> first | (simp [sm] at h'; done) | skip
    simp only [alP]
    exact smAll_al xs _ _ (by simpa [sm] using h) (by simpa [sm] using h')
  | .lst xs, y, z, h, h' => by
    cases y <;> first | (simp [sm] at h; done) | skip
    cases z <;> first | (simp [sm] at h'; done) | skip
    simp only [alP]
    exact smAll_al xs _ _ (by simpa [sm] using h) (by simpa [sm] using h')
  | .frz xs, y, z, h, h' => by simp [sm] at h
  | .loc n, y, z, h, h' => by simp [sm] at h
theorem smAll_al : ∀ xs ys zs : List PV, smAll xs ys = true → smAll xs zs = true → alAll ys zs = true
  | [], [], _, _, _ => by simp [alAll]
  | [], _ :: _, _, h, _ => by simp [smAll] at h
  | x :: xs, [], _, h, _ => by simp [smAll] at h
  | x :: xs, y :: ys, [], h, h' => by simp [smAll] at h'
  | x :: xs, y :: ys, z :: zs, h, h' => by
    rw [smAll] at h h'
    cases q : sm x y with
    | false => rw [q] at h; cases h
    | true =>
      cases q' : sm x z with
      | false => rw [q'] at h'; cases h'
      | true =>
        rw [q] at h
        rw [q'] at h'
        rw [alAll, sm_al x y z q q']
        exact smAll_al xs ys zs h h'
end
theorem alikes_all {xs : List PV} (h : alikes xs = true) : ∀ x ∈ xs, ∀ y ∈ xs, alP x y = true := by
  cases xs with
  | nil => intro x hx; cases hx
  | cons a r =>
    unfold alikes at h
    rcases (Bool.or_eq_true _ _).mp h with h | h
    · have h' := List.all_eq_true.mp h
      exact fun x hx y hy => sm_al a x y (h' x hx) (h' y hy)
    · have h' := List.all_eq_true.mp h
      exact fun x hx y hy => List.all_eq_true.mp (h' x hx) y hy
mutual
theorem ltP_D : ∀ (x y : PV) (n m : Nat), x.dep n = true → y.dep m = true → alP x y = true → ltP x y = dataLt (toD x) (toD y)
  | .non, y, n, m, hx, hy, h => by
    cases y <;> first | (simp [alP] at h; done) | skip
    simp only [ltP, toD]
    exact (lex_irrefl _).symm
  | .bl a, y, n, m, hx, hy, h => by
    cases y <;> first | (simp [alP] at h; done) | skip
    rename_i b
    simp only [ltP, toD]
    rw [dataLt_bool]
    cases a <;> cases b <;> rfl
  | .int i, y, n, m, hx, hy, h => by
    cases y <;> first | (simp [alP] at h; done) | skip
    simp only [ltP, toD]
    rw [dataLt_int]
  | .str s, y, n, m, hx, hy, h => by
    cases y <;> first | (simp [alP] at h; done) | skip
    simp only [ltP, toD]
    rw [dataLt_str]
    rfl
  | .tup xs, y, 0, m, hx, hy, h => by simp [PV.dep] at hx
  | .tup xs, y, n + 1, m, hx, hy, h => by
    cases y <;> first | (simp [alP] at h; done) | skip
    rename_i ys
    cases m with
    | zero => simp [PV.dep] at hy
    | succ m =>
      simp only [ltP, toD]
      rw [dataLt_tuple]
      exact ltAll_D xs ys n m (by simpa [PV.dep] using hx) (by simpa [PV.dep] using hy) (by simpa [alP] using h)
  | .lst xs, y, 0, m, hx, hy, h => by simp [PV.dep] at hx
  | .lst xs, y, n + 1, m, hx, hy, h => by
    cases y <;> first | (simp [alP] at h; done) | skip
    rename_i ys
    cases m with
    | zero => simp [PV.dep] at hy
    | succ m =>
      simp only [ltP, toD]
      rw [dataLt_list]
      exact ltAll_D xs ys n m (by simpa [PV.dep] using hx) (by simpa [PV.dep] using hy) (by simpa [alP] using h)
  | .frz xs, y, n, m, hx, hy, h => by simp [alP] at h
  | .loc k, y, n, m, hx, hy, h => by simp [alP] at h
theorem ltAll_D : ∀ (xs ys : List PV) (n m : Nat), depAll xs n = true → depAll ys m = true → alAll xs ys = true → ltAll xs ys = lexLt itemOrd (keyToksAll (toDs xs)) (keyToksAll (toDs ys))
  | [], [], n, m, hx, hy, h => by simp only [ltAll, toDs]; exact (lex_irrefl _).symm
  | [], y :: ys, n, m, hx, hy, h => by
    simp only [ltAll, toDs]
    rw [toks_all_cons]
    simp only [keyToksAll]
    rfl
  | x :: xs, [], n, m, hx, hy, h => by
    simp only [ltAll, toDs]
    rw [toks_all_cons]
    simp only [keyToksAll]
    rfl
  | x :: xs, y :: ys, n, m, hx, hy, h => by
    obtain ⟨x1, x2⟩ := depAll_cons hx
    obtain ⟨y1, y2⟩ := depAll_cons hy
    rw [alAll] at h
    cases q : alP x y with
    | false => rw [q] at h; cases h
    | true =>
      rw [q] at h
      unfold ltAll
      have e := eqv_D x y n m x1 y1
      simp only [toDs]
      rw [dataLt_cons (alP_D x y q), ← e, ltAll_D xs ys n m x2 y2 h, ltP_D x y n m x1 y1 q]
      cases x.eqv y <;> rfl
end
section
variable {β : Type} (enc : β → PV)
/-- the same by what it stands for -/
def insB (x : β) : List β → List β
  | [] => [x]
  | y :: ys => match ltP (enc y) (enc x) with | true => y :: insB x ys | false => x :: y :: ys
def sortB : List β → List β
  | [] => []
  | x :: xs => insB enc x (sortB xs)
theorem insB_map (x : β) : ∀ ys : List β, (insB enc x ys).map enc = insP (enc x) (ys.map enc)
  | [] => rfl
  | y :: ys => by
    unfold insB insP
    rw [List.map_cons]
    cases q : ltP (enc y) (enc x) <;> simp only [q, List.map_cons, insB_map x ys]
theorem sortB_map : ∀ ys : List β, (sortB enc ys).map enc = sortL (ys.map enc)
  | [] => rfl
  | y :: ys => by rw [sortB, insB_map, sortB_map ys]; rfl
theorem insB_perm (x : β) : ∀ ys : List β, (insB enc x ys).Perm (x :: ys)
  | [] => .refl _
  | y :: ys => by
    unfold insB
    cases q : ltP (enc y) (enc x) with
    | true => exact ((insB_perm x ys).cons y).trans (.swap x y ys)
    | false => exact .refl _
theorem sortB_perm : ∀ ys : List β, (sortB enc ys).Perm ys
  | [] => .refl _
  | y :: ys => (insB_perm enc y _).trans ((sortB_perm ys).cons y)
variable {le : β → β → Bool} (T : TotalLe le)
include T
theorem insB_pw (x : β) : ∀ ys : List β, (∀ y ∈ ys, le x y = !ltP (enc y) (enc x)) → ys.Pairwise (fun a b => le a b = true) → (insB enc x ys).Pairwise (fun a b => le a b = true)
  | [], _, _ => List.pairwise_singleton _ _
  | y :: ys, h, p => by
    unfold insB
    obtain ⟨p1, p2⟩ := List.pairwise_cons.mp p
    cases q : ltP (enc y) (enc x) with
    | true =>
      refine List.pairwise_cons.mpr ⟨fun z hz => ?_, insB_pw x ys (fun z hz => h z (List.mem_cons_of_mem _ hz)) p2⟩
      rcases List.mem_cons.mp ((insB_perm enc x ys).mem_iff.mp hz) with e | hz
      · subst e
        have := h y List.mem_cons_self
        rw [q] at this
        exact (T.total z y).resolve_left (by rw [this]; decide)
      · exact p1 z hz
    | false =>
      have hxy : le x y = true := by rw [h y List.mem_cons_self, q]; rfl
      refine List.pairwise_cons.mpr ⟨fun z hz => ?_, p⟩
      rcases List.mem_cons.mp hz with e | hz
      · subst e; exact hxy
      · exact T.trans x y z hxy (p1 z hz)
theorem insB_filter (c x : β) : ∀ ys : List β, (∀ y ∈ ys, le x y = !ltP (enc y) (enc x)) → (insB enc x ys).filter (sameRank le c) = (x :: ys).filter (sameRank le c)
  | [], _ => rfl
  | y :: ys, h => by
    unfold insB
    cases q : ltP (enc y) (enc x) with
    | false => rfl
    | true =>
      have hn : le x y = false := by rw [h y List.mem_cons_self, q]; rfl
      simp only
      rw [List.filter_cons, insB_filter c x ys fun z hz => h z (List.mem_cons_of_mem _ hz)]
      by_cases hx : sameRank le c x = true
      · by_cases hy : sameRank le c y = true
        · exfalso
          simp only [sameRank, Bool.and_eq_true] at hx hy
          have := T.trans x c y hx.2 hy.1
          rw [hn] at this; cases this
        · rw [if_neg hy, List.filter_cons, if_pos hx, List.filter_cons, if_pos hx, List.filter_cons, if_neg hy]
      · rw [List.filter_cons (x := x), if_neg hx, List.filter_cons (x := x), if_neg hx, List.filter_cons]
theorem sortB_eq : ∀ ys : List β, (∀ x ∈ ys, ∀ y ∈ ys, le x y = !ltP (enc y) (enc x)) → sortB enc ys = ys.mergeSort le := fun ys h => by
  refine sort_unique T ?_ ?_
  · induction ys with
    | nil => exact .nil
    | cons y ys ih =>
      refine insB_pw enc T y _ (fun z hz => h y List.mem_cons_self z (List.mem_cons_of_mem _ ((sortB_perm enc ys).mem_iff.mp hz))) (ih fun a ha b hb => h a (List.mem_cons_of_mem _ ha) b (List.mem_cons_of_mem _ hb))
  · intro c
    induction ys with
    | nil => rfl
    | cons y ys ih =>
      rw [sortB, insB_filter enc T c y _ fun z hz => h y List.mem_cons_self z (List.mem_cons_of_mem _ ((sortB_perm enc ys).mem_iff.mp hz)), List.filter_cons, ih fun a ha b hb => h a (List.mem_cons_of_mem _ ha) b (List.mem_cons_of_mem _ hb), List.filter_cons]
end

theorem dataLe_tot {β : Type} (k : β → PyData) : TotalLe (dataLe false k) := sortLe_total _ _ _
variable {Z : Zc}
theorem rps_pairs {w : Wd} : ∀ {xs : List PV} {vs : List V}, Rps Z.K w xs vs → ∃ bs : List (V × PV), bs.map (·.1) = vs ∧ bs.map (·.2) = xs ∧ ∀ b ∈ bs, Rp Z.K w b.2 b.1
  | _, _, .nil => ⟨[], rfl, rfl, fun b hb => by cases hb⟩
  | _, _, .cons (x := x) (v := v) h r => by
    obtain ⟨bs, h1, h2, h3⟩ := rps_pairs r
    refine ⟨(v, x) :: bs, by rw [List.map_cons, h1], by rw [List.map_cons, h2], fun b hb => ?_⟩
    rcases List.mem_cons.mp hb with e | hb
    · subst e; exact h
    · exact h3 b hb
theorem pairs_rps {w : Wd} : ∀ {bs : List (V × PV)}, (∀ b ∈ bs, Rp Z.K w b.2 b.1) → Rps Z.K w (bs.map (·.2)) (bs.map (·.1))
  | [], _ => .nil
  | b :: bs, h => .cons (h b List.mem_cons_self) (pairs_rps fun c hc => h c (List.mem_cons_of_mem _ hc))
theorem depAll_mem : ∀ {xs : List PV} {n : Nat}, depAll xs n = true → ∀ x ∈ xs, x.dep n = true
  | [], _, _, x, hx => by cases hx
  | y :: xs, n, h, x, hx => by
    obtain ⟨h1, h2⟩ := depAll_cons h
    rcases List.mem_cons.mp hx with e | hx
    · subst e; exact h1
    · exact depAll_mem h2 x hx
theorem bi_sorted (m : Bool) : BiS Z (apBi (.sorted m)) (rSrt Z.K) := by
  intro w xs vs σ Q ok r p
  unfold apBi at p
  simp only at p
  split at p
  · rename_i v
    obtain ⟨V, rfl, rv⟩ := r.one
    split at p
    · rename_i xs e
      obtain ⟨a, us, rfl, hs, rs⟩ := seqOf_sq ok rv e
      cases q : sortP xs with
      | none => simp only [q] at p; exact p.elim
      | some ys =>
        simp only [q] at p
        unfold sortP at q
        split at q
        · rename_i c
          cases q
          obtain ⟨c1, c2⟩ := (Bool.and_eq_true _ _).mp c
          obtain ⟨c1, c3⟩ := (Bool.and_eq_true _ _).mp c1
          obtain ⟨bs, rfl, rfl, hb⟩ := rps_pairs rs
          have al := alikes_all c1
          have mem : ∀ b ∈ bs, b.2 ∈ bs.map (·.2) := fun b hb => List.mem_map.mpr ⟨b, hb, rfl⟩
          have dp := depAll_mem c2
          have eq : sortB (·.2) bs = bs.mergeSort (dataLe false fun b => toD b.2) := sortB_eq (fun b : V × PV => b.2) (dataLe_tot _) bs fun x hx y hy => by
            rw [dataLe_eq]
            show (!dataLt (toD y.2) (toD x.2)) = _
            rw [ltP_D y.2 x.2 60 60 (dp _ (mem y hy)) (dp _ (mem x hx)) (al _ (mem y hy) _ (mem x hx))]
          refine ⟨a, bs, rfl, hs, fun b h => (hb b h).dp, ?_, ?_, fun b h => dep_le _ _ (dp _ (mem b h)), fun ad hn => ?_⟩
          · intro d hd d' hd'
            obtain ⟨b, h1, rfl⟩ := List.mem_map.mp hd
            obtain ⟨b', h2, rfl⟩ := List.mem_map.mp hd'
            exact alP_D _ _ (al _ (mem b h1) _ (mem b' h2))
          · rcases (Bool.or_eq_true _ _).mp c3 with c3 | c3
            · refine .inl fun d hd => ?_
              obtain ⟨b, h1, rfl⟩ := List.mem_map.mp hd
              have := List.all_eq_true.mp c3 _ (mem b h1)
              unfold isRow at this
              split at this
              · rename_i x r' q
                simp only [q, toD, toDs]
                exact ⟨_, _, rfl⟩
              · cases this
            · refine .inr fun d hd => ?_
              obtain ⟨b, h1, rfl⟩ := List.mem_map.mp hd
              have h3 := List.all_eq_true.mp c3 _ (mem b h1)
              have h4 := dp _ (mem b h1)
              cases q : b.2 <;> rw [q] at h3 h4 <;> first | (cases h3; done) | (simp [PV.dep] at h4; done) | (simp only [toD]; exact ⟨by simp, by simp⟩)
          · rw [← eq]
            have rr := pairs_rps (Z := Z) (w := w) (bs := sortB (·.2) bs) fun b h => hb b ((sortB_perm _ bs).mem_iff.mp h)
            rw [sortB_map] at rr
            exact fresh_mkL ok rr p ad hn
        · cases q
    · exact p.elim
  · exact p.elim
end Mi

/-! Mi15: tuple(range(..)), list(range(..)). -/
namespace Mi
open PySem L2 PySem.Spec PyProof.Rows
variable {Z : Zc}
section
variable {X : Cx} {e c : Expr} {es : List Expr} {rs : Sl → List Ob → R (List PV)} {p pos pos2 p2 : Pos}
/-- an expression that makes a range: its first item, step, length -/
def PRc (X : Cx) (e : Expr) (t : L2.St → Hp → (Int → Int → Nat → Hp → Prop) → Prop) : Prop :=
  ∀ (pins : List (Addr × Obj)) (s : Shared) (σ : L2.St) (H : Hp) (Q : Int → Int → Nat → Hp → Prop), Inv X pins σ H s → t σ H Q →
    wpAny (model X.prog X.w) X.A (eval e X.env) (fun x s' => ∃ r i j k n t u v H', x = .ref r ∧ IsRange s'.heap r i j k t u v ∧ RgC i j k n ∧ Inv X pins σ H' s' ∧ Q i k n H') X.xe s
def tRc (ta : TA) : L2.St → Hp → (Int → Int → Nat → Hp → Prop) → Prop := fun σ H Q => ta σ H fun vs H1 => ∃ i j k n, ((vs = [.int j] ∧ i = 0 ∧ k = 1) ∨ (vs = [.int i, .int j] ∧ k = 1) ∨ vs = [.int i, .int j, .int k]) ∧ RgC i j k n ∧ Q i k n H1
theorem prc {ta : TA} (hg : Gl X "range") (hm : X.mg "range" = none) (ha : PA X (e :: es) ta) (na : starEach (e :: es) X.env = (false, eval e X.env) :: starEach es X.env) (hp : (backTo pos (starEach es X.env)).any (·.1) = false) :
    PRc X (.Call (.Name "range" p) (e :: es) [] pos) (tRc ta) := by
  intro pins s σ H Q I h
  refine Call_ (ld_blt I hg hm boot_range (PyProof.Rows.callWith_type1 (thn (ha.run pos pins s σ H _ I h) fun us s1 ⟨vs, H1, I1, r1, q1⟩ => ?_) na hp))
  obtain ⟨i, j, k, n, hv, hc, q⟩ := q1
  rcases hv with ⟨rfl, rfl, rfl⟩ | ⟨rfl, rfl⟩ | rfl
  · cases r1 with
    | cons ra rr =>
      cases rr
      obtain ⟨t, rfl⟩ := ra
      exact call_range_1 ⟨_, 0, j, 1, n, _, _, _, H1, rfl, IsRange.new _ _ _ _ _ _ _, hc, I1.kept fun b u e => Heap.get?_push_of_some _ e, q⟩
  · cases r1 with
    | cons ra rr =>
      cases rr with
      | cons rb rr =>
        cases rr
        obtain ⟨t, rfl⟩ := ra
        obtain ⟨t', rfl⟩ := rb
        exact call_range_2 ⟨_, i, j, 1, n, _, _, _, H1, rfl, IsRange.new _ _ _ _ _ _ _, hc, I1.kept fun b u e => Heap.get?_push_of_some _ e, q⟩
  · cases r1 with
    | cons ra rr =>
      cases rr with
      | cons rb rr =>
        cases rr with
        | cons rc rr =>
          cases rr
          obtain ⟨t, rfl⟩ := ra
          obtain ⟨t', rfl⟩ := rb
          obtain ⟨t'', rfl⟩ := rc
          have hc' := hc
          obtain ⟨c0, c1, _, _⟩ := hc'
          exact call_range_3 c0 ⟨_, i, j, k, n, _, _, _, H1, rfl, IsRange.new _ _ _ _ _ _ _, hc, I1.kept (t' := s1.toks) fun b u e => Heap.get?_push_of_some _ e, q⟩ (.inl (PyProof.noPylong_small c1))
def stepV (i k : Int) (n : Nat) : List V := (List.range n).map fun m => V.int (i + (m : Nat) * k)
theorem stepV_length (i k : Int) (n : Nat) : (stepV i k n).length = n := by unfold stepV; rw [List.length_map, List.length_range]
theorem vals_step {i k : Int} {n : Nat} {acc : Array Value} (h : ItemsOf (fun m v => ∃ t, v = .int (i + m * k) t) acc n) : Vals (stepV i k n) acc.toList := by
  have e : acc.toList.length = n := by rw [Array.length_toList]; exact h.1
  unfold stepV
  rw [← e]
  exact vals_of_get acc.toList _ fun m v hm => h.2 m v (Array.getElem?_toList.symm.trans hm)
def tRcT (t : L2.St → Hp → (Int → Int → Nat → Hp → Prop) → Prop) : TE := fun σ H Q => t σ H fun i k n H1 => n ≤ 2 ^ 24 ∧ ∀ q, H1 q = none → Q (.ref q) (upd H1 q (.tup (stepV i k n)))
def tRcL (t : L2.St → Hp → (Int → Int → Nat → Hp → Prop) → Prop) : TE := fun σ H Q => t σ H fun i k n H1 => n ≤ 2 ^ 24 ∧ ∀ q, H1 q = none → Q (.ref q) (upd H1 q (.lst (stepV i k n)))
theorem pe_tupRc {t : L2.St → Hp → (Int → Int → Nat → Hp → Prop) → Prop} (hc : X.calm = true) (hg : Gl X "tuple") (hm : X.mg "tuple" = none) (he : PRc X c t) (na : starEach [c] X.env = (false, eval c X.env) :: starEach [] X.env) : PE X (.Call (.Name "tuple" p) [c] [] pos) (tRcT t) := by
  refine ⟨fun pins s σ H Q I h => ?_⟩
  refine Call_ (ld_blt I hg hm boot_tuple (PyProof.Rows.callWith_type1 (args_cons (thn (he pins s σ H _ I h) fun x s1 hx => args_nil ?_) na) na))
  obtain ⟨r, i, j, k, n, t1, t2, t3, H1, rfl, hr, hR, I1, hn, q⟩ := hx
  refine call_tuple_range (n := n) (I1.ok.hd hc) hr hR.2.2.1 hR.2.2.2 hn fun h' tk acc kp hi => ?_
  have I2 : Inv X pins σ H1 { s1 with heap := h', toks := tk } := I1.kept kp
  have oo : ObjOk X.prog X.w (upd H1 h'.objs.size (.tup (stepV i k n))) (h'.push { cls := .type "tuple", data := .seq acc }) h'.objs.size (.tup (stepV i k n)) :=
    ⟨by rw [stepV_length, sizeLine_eq]; omega, acc.toList, vals_step hi, by rw [Array.toArray_toList]; exact IsTup.new _ _⟩
  exact ⟨.ref h'.objs.size, _, I2.laid (t' := tk) (fun c o e => Heap.get?_push_of_some _ e) (Nat.le_refl _) oo, rfl, q _ (I2.hok.fresh (Nat.le_refl _))⟩
theorem pe_lstRc {t : L2.St → Hp → (Int → Int → Nat → Hp → Prop) → Prop} (hc : X.calm = true) (hg : Gl X "list") (hm : X.mg "list" = none) (he : PRc X c t) (na : starEach [c] X.env = (false, eval c X.env) :: starEach [] X.env) : PE X (.Call (.Name "list" p) [c] [] pos) (tRcL t) := by
  refine ⟨fun pins s σ H Q I h => ?_⟩
  refine Call_ (ld_blt I hg hm boot_list (PyProof.Rows.callWith_type1 (args_cons (thn (he pins s σ H _ I h) fun x s1 hx => args_nil ?_) na) na))
  obtain ⟨r, i, j, k, n, t1, t2, t3, H1, rfl, hr, hR, I1, hn, q⟩ := hx
  refine call_list_range (n := n) (I1.ok.hd hc) hr hR.2.2.1 hR.2.2.2 hn fun h' tk acc c' kp e' hi => ?_
  have oo : ObjOk X.prog X.w (upd H1 s1.heap.objs.size (.lst (stepV i k n))) h' s1.heap.objs.size (.lst (stepV i k n)) :=
    ⟨by rw [stepV_length, sizeLine_eq]; omega, acc.toList, c', vals_step hi, by rw [Array.toArray_toList]; exact e'⟩
  exact ⟨.ref s1.heap.objs.size, _, I1.laid kp (Nat.le_refl _) oo, rfl, q _ (I1.hok.fresh (Nat.le_refl _))⟩
theorem rps_step {w : Wd} {xs : List PV} {i k : Int} {n : Nat} (hl : xs.length = n) (h : ∀ (m : Nat) (x : PV), xs[m]? = some x → x = PV.int (i + (m : Nat) * k)) : Rps Z.K w xs (stepV i k n) := by
  subst hl
  unfold stepV
  induction xs generalizing i with
  | nil => exact .nil
  | cons y ys ih =>
    rw [List.length_cons, List.range_succ_eq_map, List.map_cons, List.map_map]
    have h0 := h 0 y rfl
    subst h0
    refine .cons (.int _) ?_
    have := ih (i := i + k) fun m x e => by
      have := h (m + 1) x (by simpa using e)
      rw [this]
      congr 1
      rw [Int.natCast_add, Int.add_mul]
      simp only [Int.natCast_one, Int.one_mul]
      omega
    refine cast ?_ this
    congr 1
    refine List.map_congr_left fun m _ => ?_
    show V.int _ = V.int _
    congr 1
    show i + k + (m : Int) * k = i + ((m + 1 : Nat) : Int) * k
    rw [Int.natCast_add, Int.add_mul]
    simp only [Int.natCast_one, Int.one_mul]
    omega
theorem rng_rps {w : Wd} {xs ys : List PV} {vs : List V} (r : Rvs Z.K w xs vs) (e : rngItems xs = some ys) : ∃ i j k n, ((vs = [.int j] ∧ i = 0 ∧ k = 1) ∨ (vs = [.int i, .int j] ∧ k = 1) ∨ vs = [.int i, .int j, .int k]) ∧ RgC i j k n ∧ n ≤ 2 ^ 24 ∧ ∀ w, Rps Z.K w ys (stepV i k n) := by
  have up1 : ∀ (w : Wd) (a : Int) (n : Nat), Rps Z.K w (up a n) (stepV a 1 n) := fun w a n => rps_step (up_length n a) fun m x e => by
    rw [(up_get n a m x e).2, Int.mul_one]
  have dn1 : ∀ (w : Wd) (a : Int) (n : Nat), Rps Z.K w (down a n) (stepV a (-1) n) := fun w a n => rps_step (down_length n a) fun m x e => (down_get n a m x e).2
  rcases rng_cases e with ⟨n, rfl, h1, rfl, h2⟩ | ⟨i, j, rfl, h1, h1', rfl, h2⟩ | ⟨i, j, rfl, h1, h1', rfl, h2⟩ | ⟨i, j, rfl, h1, h1', rfl, h2⟩
  · obtain ⟨v, rfl, rv⟩ := r.one
    cases rv.int_inv
    obtain ⟨a1, a2⟩ := in62_ok h1
    refine ⟨0, n, 1, n.toNat, .inl ⟨rfl, rfl, rfl⟩, ?_, h2, fun w => up1 w 0 _⟩
    have := rgc1 (i := 0) (j := n) (by decide) (by decide) a1 a2
    simpa using this
  · obtain ⟨v, u, rfl, rv, ru⟩ := r.two
    cases rv.int_inv
    cases ru.int_inv
    obtain ⟨a1, a2⟩ := in62_ok h1
    obtain ⟨b1, b2⟩ := in62_ok h1'
    exact ⟨i, j, 1, _, .inr (.inl ⟨rfl, rfl⟩), rgc1 a1 a2 b1 b2, h2, fun w => up1 w i _⟩
  · obtain ⟨v, u, t, rfl, rv, ru, rt⟩ := r.three
    cases rv.int_inv
    cases ru.int_inv
    cases rt.int_inv
    obtain ⟨a1, a2⟩ := in62_ok h1
    obtain ⟨b1, b2⟩ := in62_ok h1'
    exact ⟨i, j, 1, _, .inr (.inr rfl), rgc1 a1 a2 b1 b2, h2, fun w => up1 w i _⟩
  · obtain ⟨v, u, t, rfl, rv, ru, rt⟩ := r.three
    cases rv.int_inv
    cases ru.int_inv
    cases rt.int_inv
    obtain ⟨a1, a2⟩ := in62_ok h1
    obtain ⟨b1, b2⟩ := in62_ok h1'
    exact ⟨i, j, -1, _, .inr (.inr rfl), RgC.neg a1 a2 b1 b2, h2, fun w => dn1 w i _⟩
theorem s_tupR (h : PE X e (tRcT (tRc (tA Z rs)))) : PE X e (tE Z fun σ h => argsR (rs σ h) rngT) := h.imp fun σ H Q ⟨w, st, e, ok, rS, p⟩ => by
  subst e
  refine ⟨w, st, rfl, ok, rS, ?_⟩
  cases q : rs st w.h with
  | no => simp only [argsR, q] at p; exact p.elim
  | ex c fs h1 => simp only [argsR, q] at p; exact p
  | ok xs h1 =>
    simp only [argsR, q, rngT] at p
    intro w1 vs l1 e1 ok1 r1
    cases q2 : rngItems xs with
    | none => simp only [q2] at p; exact p.elim
    | some ys =>
      simp only [q2] at p
      obtain ⟨i, j, k, n, hv, hc, hn, hr⟩ := rng_rps r1 q2
      subst e1
      exact ⟨i, j, k, n, hv, hc, hn, fun ad hf => fresh_tup ok1 (hr w1) (Po.up l1 p) ad hf⟩
theorem s_lstR (m : Bool) (h : PE X e (tRcL (tRc (tA Z rs)))) : PE X e (tE Z fun σ h => argsR (rs σ h) (rngL m)) := h.imp fun σ H Q ⟨w, st, e, ok, rS, p⟩ => by
  subst e
  refine ⟨w, st, rfl, ok, rS, ?_⟩
  cases q : rs st w.h with
  | no => simp only [argsR, q] at p; exact p.elim
  | ex c fs h1 => simp only [argsR, q] at p; exact p
  | ok xs h1 =>
    simp only [argsR, q, rngL] at p
    intro w1 vs l1 e1 ok1 r1
    cases q2 : rngItems xs with
    | none => simp only [q2] at p; exact p.elim
    | some ys =>
      simp only [q2] at p
      obtain ⟨i, j, k, n, hv, hc, hn, hr⟩ := rng_rps r1 q2
      subst e1
      exact ⟨i, j, k, n, hv, hc, hn, fun ad hf => fresh_mkL ok1 (hr w1) (Po.up l1 p) ad hf⟩
/-- a test that is a conditional expression -/
theorem t_ife {a b : Expr} {ra rb rc : Sl → List Ob → R PV} (hc : PT X c (tB Z fun σ h => test (rc σ h))) (ha : PT X a (tB Z fun σ h => test (ra σ h))) (hb : PT X b (tB Z fun σ h => test (rb σ h))) :
    PT X (.IfExp c a b pos) (tB Z fun σ h => test (ifs (rc σ h) (ra σ) (rb σ))) := ⟨fun pins s σ H Q I ⟨w, st, e, ok, rS, p⟩ => by
  subst e
  show wpAny (model X.prog X.w) X.A (do if ← isTrue c X.env (eval c X.env) then isTrue a X.env (eval a X.env) else isTrue b X.env (eval b X.env)) _ _ _
  have p0 : PoB Z w σ (test (ifs (rc st w.h) (ra st) (rb st))) Q := p
  refine wpAny_bind (thn (hc.run pins s σ w.H (fun k H1 => (k = true → (tB Z fun σ h => test (ra σ h)) σ H1 Q) ∧ (k = false → (tB Z fun σ h => test (rb σ h)) σ H1 Q)) I ⟨w, st, rfl, ok, rS, ?_⟩) fun k s1 ⟨H1, I1, q1, q2⟩ => ?_)
  · show PoB Z w σ (test (rc st w.h)) _
    unfold ifs at p0
    cases q : test (rc st w.h) with
    | no => rw [q] at p0; exact p0.elim
    | ex c fs h1 => rw [q] at p0; exact p0
    | ok k h1 =>
      rw [q] at p0
      intro w1 k' l1 e1 ok1 rk
      subst rk
      subst e1
      cases k with
      | true => exact ⟨fun _ => ⟨w1, st, rfl, ok1, rS.mono l1, Po.up l1 p0⟩, fun z => nomatch z⟩
      | false => exact ⟨fun z => (nomatch z), fun _ => ⟨w1, st, rfl, ok1, rS.mono l1, Po.up l1 p0⟩⟩
  · cases k with
    | true => rw [if_pos rfl]; exact ha.run pins s1 σ H1 Q I1 (q1 rfl)
    | false => rw [if_neg Bool.false_ne_true]; exact hb.run pins s1 σ H1 Q I1 (q2 rfl)⟩
end
end Mi

/-! Mi16: what the check accepts, the rules prove: expressions. -/
namespace Mi
open PySem L2 PySem.Spec PyProof.Rows
/-- a context that the check serves -/
structure Good (S : SG) (G : Nat → Option PV) (cl : Nat → List PV → List Ob → R PV) (k : Nat) (T : TC) (Z : Zc) (X : Cx) : Prop where
  zK : X.K = Z.K
  sc : X.env.scope = T.sc
  kd : T.sc.kind = .function
  N : X.N = T.N
  nd : T.N.Nodup
  calm : X.calm = true
  room : Room k X.A
  rm : T.blk = none → Room (k + 2) X.A
  st : ∀ x, isSt T x = true → X.fn x = true ∨ X.env.scope.names.lookup x = some .local
  tk : Takes X Z.W
  fn : ∀ (f : Nat) (xs ps : List Str) (kw : List (Nat × List Str × List Nat)), S.fns[f]? = some (xs, ps, kw) → ∃ (a : Addr) (fd : FuncData), (∀ x ∈ xs, X.mg x = some (.ref a)) ∧ PySem.W.keepIn X.K (.ref a) = true ∧ Binds X.K fd ps [] ∧
    (∀ e ∈ kw, KwOk fd ps e.1 e.2.1 e.2.2) ∧ FnOk X.prog X.w X.K X.mg X.base (L2.CX X.prog X.w) k a fd ps (spF Z.K Z.ER (cl f))
  gl : ∀ (i : Nat) (y : Str), S.glbs[i]? = some y → ∃ (u : V) (val : Value), X.mg y = some val ∧ RelV u val ∧ ∀ pv, G i = some pv → ∀ w, Rp Z.K w pv u
  bi : ∀ x, S.bis.contains x = true → X.mg x = none
  xc : ∀ (c : Nat) (x fld : Str), S.excs[c]? = some (x, fld) → ExC Z.K X.mg Z.ER c x fld
  th : ∀ (f : Nat) (x : Str), (f, x) ∈ S.lams → Thk Z.K X.mg Z.ER x fun v h => cl f [v] h
  ld : T.ld = true → T.blk = none ∧ ∃ c P : Addr, X.env.code = .ref c ∧ LamX.TabB X.base X.mg c P ∧ (P, X.env.qual ++ "<lambda>") ∈ Z.K.T ∧ ∀ p ∈ Z.K.T, p.1 = P → p.2 = X.env.qual ++ "<lambda>"
theorem compEnv_scope {cs : Scope} {cl : List (Str × Addr)} {C : Addr} {env : Env} : (compEnvC cs cl C env).scope = relS cs env.scope := rfl
section
variable {S : SG} {G : Nat → Option PV} {cl : Nat → List PV → List Ob → R PV} {k : Nat} {T : TC} {Z : Zc} {X : Cx}
theorem Good.hu (g : Good S G cl k T Z X) : X.A.units + 65 < cLine := by have := g.room.un; omega
theorem Good.N' (g : Good S G cl k T Z X) {i : Nat} {x : Str} (h : (match T.N[i]? with | some y => x == y | none => false) = true) : X.N[i]? = some x := by
  rw [g.N]
  split at h
  · rename_i y e
    rw [e, eq_of_beq h]
  · cases h
theorem Good.vis (g : Good S G cl k T Z X) {x : Str} (h : isVis T.sc x = true) : Vis X.env.scope x := by
  rw [g.sc]
  unfold isVis at h
  split at h
  · rename_i e; exact .inl e
  · rename_i e; exact .inr (.inl e)
  · rename_i e; exact .inr (.inr e)
  · cases h
theorem Good.isg (g : Good S G cl k T Z X) {x : Str} (h : isGl T.sc x = true) : Gl X x := by
  unfold Gl Env.kindOf
  rw [g.sc]
  unfold isGl at h
  split at h
  · assumption
  · cases h
theorem Good.loc (g : Good S G cl k T Z X) {x : Str} (h : isSt T x = true) : Loc X.env.scope x := by
  rw [g.sc]
  unfold isSt at h
  split at h
  · rename_i e; exact .inl e
  · rename_i e; exact .inr e
  · cases h
/-- a comprehension's block -/
theorem Good.blk (g : Good S G cl k T Z X) {cs : Scope} (hk : cs.kind = .function) (s : Shared) (H : Hp) (C : Addr) (l : List (Str × Addr)) (fp : List Addr) : Good S G cl k ⟨relS cs T.sc, T.N, some cs, false⟩ Z.mute (X.blk s H cs (compEnvC cs l C X.env) fp) where
  zK := g.zK
  sc := by show relS cs X.env.scope = _; rw [g.sc]
  kd := hk
  N := g.N
  nd := g.nd
  calm := g.calm
  room := g.room
  rm := fun h => nomatch h
  st := fun x hx => by
    unfold isSt at hx
    split at hx
    · rename_i e
      refine .inr ?_
      show (relS cs X.env.scope).names.lookup x = _
      rw [g.sc]; exact e
    · simp only at hx
      split at hx
      · rename_i e
        refine .inl ?_
        show (cs.names.lookup x == some .cell) = true
        rw [e]; rfl
      · cases hx
    · cases hx
  tk := fun u s' hx => by
    obtain ⟨_, _, _, _, _, _, _, _, _, _, _, _, _, _, _, _, hw⟩ := hx
    exact hw.elim
  fn := g.fn
  gl := g.gl
  bi := g.bi
  xc := g.xc
  th := g.th
  ld := fun h => nomatch h
theorem Good.env (g : Good S G cl k T Z X) : X.env.scope.kind = .function := by rw [g.sc]; exact g.kd
end
theorem passes_lam {X : Cx} {A : Around} {outer : List Env} {s : Shared} {H : Hp} {E : XK} {scope : Scope} {f c' : Addr} : Takes (LamX.lamCx X A outer s H E scope f c') (fun cls d _ H => E cls d H) := takes_of rfl rfl rfl rfl
/-- a lambda's body -/
theorem Good.lam {S : SG} {G : Nat → Option PV} {cl : Nat → List PV → List Ob → R PV} {k : Nat} {T : TC} {Z : Zc} {X : Cx} (g : Good S G cl k T Z X) {scope : Scope} (L : LamX.LamS X.env.scope scope) (A : Around) (outer : List Env) (s : Shared) (H : Hp) (E : XK) (f c' : Addr) (hr : Room k (A.deeper (LamX.lamEnv X scope s.heap.objs.size f c'))) :
    Good S G cl k ⟨scope, T.N, some scope, false⟩ (ZE Z.K Z.ER E) (LamX.lamCx X A outer s H E scope f c') where
  zK := g.zK
  sc := rfl
  kd := L.kind
  N := g.N
  nd := g.nd
  calm := rfl
  room := hr
  rm := fun h => nomatch h
  st := fun x hx => by
    unfold isSt at hx
    split at hx
    · rename_i e
      exact .inr e
    · simp only at hx
      rename_i e
      exact absurd rfl ((L.own (x, .cell) (PySem.mem_of_lookup e)).2)
    · cases hx
  tk := passes_lam
  fn := g.fn
  gl := g.gl
  bi := g.bi
  xc := g.xc
  th := g.th
  ld := fun h => nomatch h
/-- what is shown of every fuel -/
structure MainE (S : SG) (G : Nat → Option PV) (cl : Nat → List PV → List Ob → R PV) (k n : Nat) : Prop where
  e : ∀ {T : TC} {Z : Zc} {X : Cx}, Good S G cl k T Z X → ∀ {e : Expr} {ir : Ex}, chkE S n T e ir = true → PE X e (tE Z (ev G cl ir)) ∧ PT X e (tB Z fun σ h => test (ev G cl ir σ h))
  a : ∀ {T : TC} {Z : Zc} {X : Cx}, Good S G cl k T Z X → ∀ {vs : List Expr} {ir : Ex} (pos : Pos), chkAnd S n T vs ir = true → PE X (.BoolOp .And vs pos) (tE Z (ev G cl ir)) ∧ PW X (.BoolOp .And vs pos) (tB Z fun σ h => test (ev G cl ir σ h))
  o : ∀ {T : TC} {Z : Zc} {X : Cx}, Good S G cl k T Z X → ∀ {vs : List Expr} {ir : Ex} (pos : Pos), chkOr S n T vs ir = true → PE X (.BoolOp .Or vs pos) (tE Z (ev G cl ir)) ∧ PW X (.BoolOp .Or vs pos) (tB Z fun σ h => test (ev G cl ir σ h))
  es : ∀ {T : TC} {Z : Zc} {X : Cx}, Good S G cl k T Z X → ∀ {es : List Expr} {ir : Exs}, chkEs S n T es ir = true → PA X es (tA Z (evs G cl ir))
  ks : ∀ {T : TC} {Z : Zc} {X : Cx}, Good S G cl k T Z X → ∀ {es : List Keyword} {ir : Exs}, chkKs S n T es ir = true → PK X es (tA Z (evs G cl ir)) ∧ allFalse ir = true ∧ cnt ir = es.length
  fs : ∀ {T : TC} {Z : Zc} {X : Cx}, Good S G cl k T Z X → ∀ {es : List Expr} {ir : Exs}, chkEs S n T es ir = true → noStars es = true → ∃ rs : List (Sl → List Ob → R PV), PJ X es (rs.map (tE Z)) ∧ evF G cl ir = fun σ acc h => fsL rs σ acc h
  oe : ∀ {T : TC} {Z : Zc} {X : Cx}, Good S G cl k T Z X → ∀ {o : Option Expr} {ir : Exs}, chkO S n T o ir = true → PO X o (tO Z fun σ h => bndR (evs G cl ir σ h))
  i : ∀ {T : TC} {Z : Zc} {X : Cx}, Good S G cl k T Z X → ∀ {e : Expr} {ir : It} (tg : Expr), chkI S n T e ir = true → PI X tg e (tI Z (evI G cl ir))
  p : ∀ {T : TC} {Z : Zc} {X : Cx}, Good S G cl k T Z X → ∀ {ks : List Nat} {e : Expr} {ir : Pat}, chkP S n T ks e ir = true → PG X e (tG Z ks (evP G cl ir))
  ps : ∀ {T : TC} {Z : Zc} {X : Cx}, Good S G cl k T Z X → ∀ {ks : List Nat} {es : List Expr} {ir : Pats}, chkPs S n T ks es ir = true → noStars es = true → PGs X es (tGs Z ks (evPs G cl ir)) ∧ pcnt ir = es.length
  c : ∀ {T : TC} {Z : Zc} {X : Cx}, Good S G cl k T Z X → ∀ {es : List Expr} {ir : Ex}, chkC S n T es ir = true → PTs X es (tB Z fun σ h => test (ev G cl ir σ h))
theorem chkEs_cnt {S : SG} : ∀ (n : Nat) {T : TC} {es : List Expr} {ir : Exs}, chkEs S n T es ir = true → noStars es = true → allFalse ir = true ∧ cnt ir = es.length
  | 0, _, _, _, h, _ => by simp [chkEs] at h
  | n + 1, T, [], .nil, h, _ => ⟨rfl, rfl⟩
  | n + 1, T, [], .cons _ _ _, h, _ => by simp [chkEs] at h
  | n + 1, T, e :: es, .nil, h, hn => by simp [chkEs] at h
  | n + 1, T, e :: es, .cons true x r, h, hn => by
    cases e <;> first | (simp [chkEs] at h; done) | (simp [noStars, notStar] at hn; done)
  | n + 1, T, e :: es, .cons false x r, h, hn => by
    obtain ⟨n1, n2⟩ := (Bool.and_eq_true _ _).mp hn
    rw [chkEs, Bool.and_eq_true] at h
    obtain ⟨q1, q2⟩ := chkEs_cnt n h.2 n2
    exact ⟨q1, by rw [cnt, q2]; rfl⟩
section
variable {S : SG} {G : Nat → Option PV} {cl : Nat → List PV → List Ob → R PV} {k n : Nat} {T : TC} {Z : Zc} {X : Cx}
theorem toStr_eq {x : Str} {s : List Nat} (h : (x == toStr s) = true) : x = toStr s := eq_of_beq h
theorem cst_ok {K : Kt} {c : Const} {v : PV} {j : Nat} {pos : Pos} (h : cstEq c v = true) : ∃ u, PE X (.Constant c j pos) (tC u) ∧ ∀ w, Rp K w v u := by
  unfold cstEq at h
  split at h
  · exact ⟨_, pe_non, fun w => .non⟩
  · cases eq_of_beq h
    exact ⟨_, pe_bl, fun w => .bl _⟩
  · cases eq_of_beq h
    exact ⟨_, pe_int, fun w => .int _⟩
  · rename_i x s
    simp only [Bool.and_eq_true, List.all_eq_true, decide_eq_true_eq] at h
    cases toStr_eq h.1.1
    exact ⟨_, pe_str, fun w => .str _ ⟨h.1.2, h.2⟩⟩
  · cases h
/-- an expression whose test is its truth -/
theorem both (g : Good S G cl k T Z X) {e : Expr} {r : Sl → List Ob → R PV} (h : PE X e (tE Z r)) (he : ∀ whole, isTrue e X.env whole = (do let v ← whole; standAt e.pos; holding [v] (truthy v))) : PE X e (tE Z r) ∧ PT X e (tB Z fun σ h => test (r σ h)) := ⟨h, t_truth h g.zK he⟩
theorem op_bop (m : Bool) {op : Operator} {o : BOp} (h : (match bop op with | some k => bopEq k o | none => false) = true) : ∃ r, OpR X (binaryOp op) r ∧ (X.K = Z.K → OpS Z (apBin m o) r) := by
  cases op <;> first | (exact absurd h Bool.false_ne_true) | skip
  all_goals (have h' := bopEq_eq h; subst h')
  · exact ⟨_, op_addA, fun e => by rw [e]; exact opS_add m⟩
  · exact ⟨_, op_sub, fun e => opS_sub m⟩
  · exact ⟨_, op_mulA, fun e => opS_mul m⟩
  · exact ⟨_, op_mod, fun e => opS_mod m⟩
  · exact ⟨_, op_pow, fun e => opS_pow m⟩
  · exact ⟨_, op_fdiv, fun e => opS_fdiv m⟩
theorem cop_eq {op : CmpOp} {c : COp} (h : (match cop op with | some k => copEq k c | none => false) = true) : cop op = some c := by
  split at h
  · rename_i k e
    rw [e, copEq_eq h]
  · cases h
end
end Mi

/-! Mi17: the step of an expression. -/
namespace Mi
open PySem L2 PySem.Spec PyProof.Rows
section
variable {S : SG} {G : Nat → Option PV} {cl : Nat → List PV → List Ob → R PV} {k n : Nat} {T : TC} {Z : Zc} {X : Cx}
theorem biName_eq (b : Bi) {x : Str} (h : (x == biName b) = true) : x = biName b := eq_of_beq h
theorem n_len : (⟨#[108, 101, 110]⟩ : Str) = "len" := by decide +kernel
theorem n_int : (⟨#[105, 110, 116]⟩ : Str) = "int" := by decide +kernel
theorem n_abs : (⟨#[97, 98, 115]⟩ : Str) = "abs" := by decide +kernel
theorem n_sum : (⟨#[115, 117, 109]⟩ : Str) = "sum" := by decide +kernel
theorem n_sorted : (⟨#[115, 111, 114, 116, 101, 100]⟩ : Str) = "sorted" := by decide +kernel
theorem n_tuple : (⟨#[116, 117, 112, 108, 101]⟩ : Str) = "tuple" := by decide +kernel
theorem n_list : (⟨#[108, 105, 115, 116]⟩ : Str) = "list" := by decide +kernel
theorem n_all : (⟨#[97, 108, 108]⟩ : Str) = "all" := by decide +kernel
theorem n_any : (⟨#[97, 110, 121]⟩ : Str) = "any" := by decide +kernel
theorem n_min : (⟨#[109, 105, 110]⟩ : Str) = "min" := by decide +kernel
theorem n_max : (⟨#[109, 97, 120]⟩ : Str) = "max" := by decide +kernel
theorem n_divmod : (⟨#[100, 105, 118, 109, 111, 100]⟩ : Str) = "divmod" := by decide +kernel
theorem n_isi : (⟨#[105, 115, 105, 110, 115, 116, 97, 110, 99, 101]⟩ : Str) = "isinstance" := by decide +kernel
theorem n_range : (⟨#[114, 97, 110, 103, 101]⟩ : Str) = "range" := by decide +kernel
theorem n_bool : (⟨#[98, 111, 111, 108]⟩ : Str) = "bool" := by decide +kernel
theorem n_str : (⟨#[115, 116, 114]⟩ : Str) = "str" := by decide +kernel
theorem n_append : (⟨#[97, 112, 112, 101, 110, 100]⟩ : Str) = "append" := by decide +kernel
theorem ty_boot (t : Ty) : bootBuiltins (tyName t) = some (.type (tyStr t)) := by cases t <;> decide +kernel
theorem ty_nm (t : Ty) : nmOk (tyName t) = true := by cases t <;> decide +kernel
theorem bi_nm (b : Bi) : nmOk (biName b) = true := by cases b <;> first | decide +kernel | (rename_i z; cases z <;> decide +kernel)
/-- a built-in that is called with values, but isinstance -/
theorem s_builtin (g : Good S G cl k T Z X) {b : Bi} {x : Str} {e : Expr} {es : List Expr} {rs : Sl → List Ob → R (List PV)} {p pos : Pos} (hb : ∀ t, b ≠ .isi t) (hx : x = biName b) (hg : Gl X x) (hm : X.mg x = none)
    (ha : PA X (e :: es) (tA Z rs)) (he : starEach (e :: es) X.env = (false, eval e X.env) :: starEach es X.env) (hpl : (backTo pos (starEach es X.env)).any (·.1) = false) :
    PE X (.Call (.Name x p) (e :: es) [] pos) (tE Z fun σ h => argsR (rs σ h) (apBi b)) := by
  have hn : x ≠ ("__name__" : Str) := by rw [hx]; exact nmOk_n (bi_nm b)
  have hd : (x == ("__debug__" : Str)) = false := by rw [hx]; exact nmOk_d (bi_nm b)
  have hc := g.calm
  have hK := g.zK
  cases b with
  | len => exact s_bi (pe_callB (id := "len") call_len hg hm (by rw [hx]; decide +kernel) ha hn hd he hpl) (by rw [hK]; exact bi_len)
  | int => exact s_bi (pe_callTy (T := "int") (call_int1.or call_int_str) hg hm (by rw [hx]; decide +kernel) ha hn hd he hpl) bi_int
  | str1 => exact s_bi (pe_callTy (T := "str") (call_str_int.or SkE.call_str_str) hg hm (by rw [hx]; decide +kernel) ha hn hd he hpl) bi_str1
  | abs => exact s_bi (pe_callB (id := "abs") call_abs hg hm (by rw [hx]; decide +kernel) ha hn hd he hpl) bi_abs
  | sum => exact s_bi (pe_callB (id := "sum") (cr_sum hc) hg hm (by rw [hx]; decide +kernel) ha hn hd he hpl) (by rw [hK]; exact bi_sum)
  | sorted m => exact s_bi (pe_callB (id := "sorted") (cr_srt g.hu) hg hm (by rw [hx]; cases m <;> decide +kernel) ha hn hd he hpl) (by rw [hK]; exact bi_sorted m)
  | tuple => exact s_bi (pe_callTy (T := "tuple") call_tuple_of hg hm (by rw [hx]; decide +kernel) ha hn hd he hpl) (by rw [hK]; exact bi_tuple)
  | list m => exact s_bi (pe_callTy (T := "list") call_list_of hg hm (by rw [hx]; cases m <;> decide +kernel) ha hn hd he hpl) (by rw [hK]; exact bi_list m)
  | all => exact s_bi (pe_callB (id := "all") (cr_all hc) hg hm (by rw [hx]; decide +kernel) ha hn hd he hpl) (by rw [hK]; exact bi_all)
  | any => exact s_bi (pe_callB (id := "any") (cr_any hc) hg hm (by rw [hx]; decide +kernel) ha hn hd he hpl) (by rw [hK]; exact bi_any)
  | min2 => exact s_bi (pe_callB (id := "min") (call_min2 hc) hg hm (by rw [hx]; decide +kernel) ha hn hd he hpl) bi_min2
  | max2 => exact s_bi (pe_callB (id := "max") (call_max2 hc) hg hm (by rw [hx]; decide +kernel) ha hn hd he hpl) bi_max2
  | min1 => exact s_bi (pe_callB (id := "min") (cr_min hc) hg hm (by rw [hx]; decide +kernel) ha hn hd he hpl) (by rw [hK]; exact bi_min1)
  | max1 => exact s_bi (pe_callB (id := "max") (cr_max hc) hg hm (by rw [hx]; decide +kernel) ha hn hd he hpl) (by rw [hK]; exact bi_max1)
  | divmod => exact s_bi (pe_callB (id := "divmod") call_divmod hg hm (by rw [hx]; decide +kernel) ha hn hd he hpl) bi_divmod
  | isi t => exact absurd rfl (hb t)
theorem s_isinst (g : Good S G cl k T Z X) {t : Ty} {x y : Str} {a : Expr} {ra : Sl → List Ob → R PV} {p p2 pos : Pos} (hx : x = biName (.isi t)) (hg : Gl X x) (hm : X.mg x = none) (hy : y = tyName t) (hg2 : Gl X y) (hm2 : X.mg y = none)
    (ha : PE X a (tE Z ra)) (hs : notStar a = true) : PE X (.Call (.Name x p) [a, .Name y p2] [] pos) (tE Z fun σ h => argsR (consR (ra σ h) fun h => .ok [] h) (apBi (.isi t))) := by
  have hn : x ≠ ("__name__" : Str) := by rw [hx]; exact nmOk_n (bi_nm (.isi t))
  have hd : (x == ("__debug__" : Str)) = false := by rw [hx]; exact nmOk_d (bi_nm (.isi t))
  have hT : PE X (.Name y p2) (tC (.ty (tyStr t))) := pe_bltn hg2 hm2 (by rw [hy]; exact ty_boot t) rfl (by rw [hy]; exact nmOk_n (ty_nm t)) (by rw [hy]; exact nmOk_d (ty_nm t))
  have hA : PA X [a, .Name y p2] (tCons (tE Z ra) (tCons (tC (.ty (tyStr t))) tNil)) := pa_cons ha (pa_cons hT pa_nil (starEach_ns rfl)) (starEach_ns hs)
  exact s_isi (t := t) (T := y) (x := x) (p := p) (p3 := p2) g.zK ha hT (pe_callB (id := "isinstance") call_isi hg hm (by rw [hx]; cases t <;> decide +kernel) hA hn hd (starEach_ns hs) rfl)
theorem n_join : (⟨#[106, 111, 105, 110]⟩ : Str) = "join" := by decide +kernel
theorem n_split : (⟨#[115, 112, 108, 105, 116]⟩ : Str) = "split" := by decide +kernel
/-- a method with one argument -/
theorem s_method (g : Good S G cl k T Z X) {kk : Me} {o e : Expr} {m : Str} {ro : Sl → List Ob → R PV} {rs : Sl → List Ob → R (List PV)} {apos pos : Pos} (hm : m = meName kk) (ho : PE X o (tE Z ro)) (ha : PA X [e] (tA Z rs)) (hb : plainBase o = true) (hl : (apos.endLine == pos.line) = true) (hn : notStar e = true) (hmm : meMany kk = 1) :
    PE X (.Call (.Attribute o m apos) [e] [] pos) (tE Z fun σ h => match ro σ h with
      | .ok x h1 => match meTy kk x h1 with
        | true => match rs σ h1 with
          | .ok vs h2 => apMe kk x vs h2
          | .ex c fs h2 => .ex c fs h2
          | .no => .no
        | false => .no
      | .ex c fs h1 => .ex c fs h1
      | .no => .no) := by
  have hs : noStars [e] = true := by show (notStar e && true) = true; rw [hn]; rfl
  have few : ((backTo pos (starEach [e] X.env)).all (fun x => !x.1) && (backToKw pos (keywordEach [] X.env)).all (fun x => x.1.isSome) && decide ([e].length + ([] : List Keyword).length + (if ([] : List Keyword).isEmpty then 0 else 1) < 30)) = true := by
    rw [noStars_all hs]; rfl
  have hK := g.zK
  cases kk with
  | upper => cases hmm
  | append =>
    have hm' : m = "append" := hm.trans n_append
    subst hm'
    exact s_me me_append hK (pe_bm (T := "list") PySem.F.plainAttrs_list PySem.F.slot_list_append PySem.F.type_list_append mt_append ho ha (attrBase hb) few hl (starEach_ns hn) rfl)
  | join =>
    have hm' : m = "join" := hm.trans n_join
    subst hm'
    exact s_me me_join hK (pe_bm (T := "str") PySem.F.plainAttrs_str PySem.F.slot_str_join PySem.F.type_str_join (by rw [← hK]; exact mt_join) ho ha (attrBase hb) few hl (starEach_ns hn) rfl)
  | split m' =>
    have hm' : m = "split" := hm.trans n_split
    subst hm'
    exact s_me (me_split m') hK (pe_bm (T := "str") PySem.F.plainAttrs_str PySem.F.slot_str_split PySem.F.type_str_split mt_split ho ha (attrBase hb) few hl (starEach_ns hn) rfl)
theorem n_upper : (⟨#[117, 112, 112, 101, 114]⟩ : Str) = "upper" := by decide +kernel
/-- a method without arguments -/
theorem s_method0 (g : Good S G cl k T Z X) {kk : Me} {o : Expr} {m : Str} {ro : Sl → List Ob → R PV} {apos pos : Pos} (hm : m = meName kk) (ho : PE X o (tE Z ro)) (hb : plainBase o = true) (hl : (apos.endLine == pos.line) = true) (hmm : meMany kk = 0) :
    PE X (.Call (.Attribute o m apos) [] [] pos) (tE Z fun σ h => match ro σ h with
      | .ok x h1 => match meTy kk x h1 with
        | true => match (R.ok [] h1 : R (List PV)) with
          | .ok vs h2 => apMe kk x vs h2
          | .ex c fs h2 => .ex c fs h2
          | .no => .no
        | false => .no
      | .ex c fs h1 => .ex c fs h1
      | .no => .no) := by
  have hK := g.zK
  cases kk with
  | upper =>
    have hm' : m = "upper" := hm.trans n_upper
    subst hm'
    exact s_me0 me_upper hK (pe_bm0 (T := "str") PySem.F.plainAttrs_str PySem.F.slot_str_upper PySem.F.type_str_upper mt_upper ho (attrBase hb) hl)
  | append => cases hmm
  | join => cases hmm
  | split _ => cases hmm
theorem two_ok {α : Prop} {a b c d : Bool} (h : (a && b && c && d) = true) : a = true ∧ b = true ∧ c = true ∧ d = true := by
  simp only [Bool.and_eq_true] at h
  exact ⟨h.1.1.1, h.1.1.2, h.1.2, h.2⟩
theorem boolop_one {op : PySem.BoolOp} {a : Expr} {pos : Pos} {t : TE} (h : PE X a t) : PE X (.BoolOp op [a] pos) t := ⟨fun pins s σ H Q I q => h.run pins s σ H Q I q⟩
/-- the arguments of a call without stars -/
theorem MainE.args (M : MainE S G cl k n) (g : Good S G cl k T Z X) {es : List Expr} {ir : Exs} (h : chkEs S n T es ir = true) (hn : noStars es = true) : PA X es (tA Z (evs G cl ir)) ∧ allFalse ir = true ∧ cnt ir = es.length := ⟨M.es g h, chkEs_cnt n h hn⟩
theorem fnIs_ok {f : Nat} {x : Str} (h : fnIs S f x = true) : ∃ xs ps kw, S.fns[f]? = some (xs, ps, kw) ∧ x ∈ xs := by
  unfold fnIs at h
  split at h
  · rename_i ys ps kw e
    exact ⟨ys, ps, kw, e, by simpa using h⟩
  · cases h
theorem nil_of_allFalse {ir : Exs} (h : cnt ir = 0) : ir = .nil := by cases ir with | nil => rfl | cons s e r => simp [cnt] at h
/-- f(..), f a def -/
theorem step_call (M : MainE S G cl k n) (g : Good S G cl k T Z X) {x : Str} {p pos : Pos} {args : List Expr} {f : Nat} {es : Exs} (hg : isGl T.sc x = true) (hn : nmOk x = true) (hs : noStars args = true) (hf : fnIs S f x = true) (he : chkEs S n T args es = true) :
    PE X (.Call (.Name x p) args [] pos) (tE Z (ev G cl (.call f es))) := by
  obtain ⟨xs, ps, kw, e, hx⟩ := fnIs_ok hf
  obtain ⟨a, fd, h1, h2, h3, _, h5⟩ := g.fn f xs ps kw e
  obtain ⟨hA, hA2, hA3⟩ := M.args g he hs
  rw [ev_call]
  cases args with
  | nil =>
    have := nil_of_allFalse hA3
    subst this
    rw [evs_nil]
    exact c_call0 h5 g.room (g.isg hg) (h1 x hx) h2 h3 g.tk (nmOk_d hn)
  | cons y ys =>
    obtain ⟨n1, n2⟩ := (Bool.and_eq_true _ _).mp hs
    exact c_call h5 g.room (g.isg hg) (h1 x hx) h2 h3 g.tk hA (nmOk_d hn) (starEach_ns n1) (noStars_any n2)
theorem step_kw (M : MainE S G cl k n) (g : Good S G cl k T Z X) {x : Str} {p pos : Pos} {args : List Expr} {kws : List Keyword} {nm : List Str} {f : Nat} {es ks : Exs} {perm : List Nat} (hg : isGl T.sc x = true) (hn : nmOk x = true) (hs : noStars args = true) (hf : fnIs S f x = true)
    (hk : kwNames kws = some nm) (hc : kwIs S f (args.length, nm, perm) = true) (he : chkEs S n T args es = true) (hks : chkKs S n T kws ks = true) :
    PE X (.Call (.Name x p) args kws pos) (tE Z (ev G cl (.callk f es ks perm))) := by
  obtain ⟨xs, ps, kw, e, hx⟩ := fnIs_ok hf
  obtain ⟨a, fd, h1, h2, h3, h4, h5⟩ := g.fn f xs ps kw e
  obtain ⟨hA, hA2, hA3⟩ := M.args g he hs
  obtain ⟨hK, hK2, hK3⟩ := M.ks g hks
  have hkw := h4 (args.length, nm, perm) (by unfold kwIs at hc; rw [e] at hc; simpa using hc)
  obtain ⟨k1, k2, k3⟩ := kwNames_all (env := X.env) (pos := pos) hk
  have kl : ∀ σ h ys h', evs G cl ks σ h = .ok ys h' → ys.length = nm.length := fun σ h ys h' q => by rw [evs_len hK2 q, hK3, kwNames_len hk]
  rw [ev_callk]
  cases args with
  | nil =>
    have := nil_of_allFalse hA3
    subst this
    rw [evs_nil]
    exact c_kw0 h5 g.room (g.isg hg) (h1 x hx) h2 hkw g.tk hK (nmOk_d hn) k1 k2 (by rw [k3]; rfl) kl
  | cons y ys =>
    obtain ⟨n1, n2⟩ := (Bool.and_eq_true _ _).mp hs
    exact c_kw h5 g.room (g.isg hg) (h1 x hx) h2 hkw g.tk hA hK (nmOk_d hn) (starEach_ns n1) k1 k2 (by rw [noStars_any hs, k3]; rfl) (fun σ h ys h' q => by rw [evs_len hA2 q, hA3]; rfl) kl
end
end Mi

/-! Mi18: the steps of all expressions. -/
namespace Mi
open PySem L2 PySem.Spec PyProof.Rows
section
variable {S : SG} {G : Nat → Option PV} {cl : Nat → List PV → List Ob → R PV} {k n : Nat} {T : TC} {Z : Zc} {X : Cx}
theorem step_rng (M : MainE S G cl k n) (g : Good S G cl k T Z X) {y : Str} {p pos : Pos} {as : List Expr} {es : Exs} (hy : (y == sRange) = true) (hg : isGl T.sc y = true) (hb : S.bis.contains y = true) (hs : noStars as = true) (he : chkEs S n T as es = true) (hl : as ≠ []) :
    PRc X (.Call (.Name y p) as [] pos) (tRc (tA Z (evs G cl es))) := by
  have hy' : y = "range" := (eq_of_beq hy).trans n_range
  subst hy'
  obtain ⟨hA, hA2, hA3⟩ := M.args g he hs
  cases as with
  | nil => exact absurd rfl hl
  | cons z zs =>
    obtain ⟨n1, n2⟩ := (Bool.and_eq_true _ _).mp hs
    exact prc (g.isg hg) (g.bi _ hb) hA (starEach_ns n1) (noStars_any n2)
theorem step_call_all (M : MainE S G cl k n) (g : Good S G cl k T Z X) {fn : Expr} {args : List Expr} {kws : List Keyword} {pos : Pos} {ir : Ex} (h : chkE S (n + 1) T (.Call fn args kws pos) ir = true) : PE X (.Call fn args kws pos) (tE Z (ev G cl ir)) := by
  unfold chkE at h
  cases fn <;> simp only at h <;> first | (exact absurd h Bool.false_ne_true) | skip
  · rename_i o m apos
    split at h
    · rename_i kk o' es
      simp only [Bool.and_eq_true] at h
      obtain ⟨⟨⟨⟨⟨⟨h1, h2⟩, h3⟩, h4⟩, h5⟩, h6⟩, h7⟩ := h
      obtain ⟨hA, hA2, hA3⟩ := M.args g h5 h3
      have h7' : args.length = meMany kk := eq_of_beq h7
      rw [ev_me]
      cases args with
      | nil =>
        have := nil_of_allFalse hA3
        subst this
        rw [evs_nil]
        exact s_method0 g (eq_of_beq h6) (M.e g h4).1 h1 h2 h7'.symm
      | cons z zs =>
        cases zs with
        | cons _ _ => cases kk <;> cases h7'
        | nil =>
          obtain ⟨n1, n2⟩ := (Bool.and_eq_true _ _).mp h3
          exact s_method g (eq_of_beq h6) (M.e g h4).1 hA h1 h2 n1 h7'.symm
    · cases h
  · rename_i x p
    simp only [Bool.and_eq_true] at h
    obtain ⟨⟨⟨h1, h2⟩, h3⟩, h4⟩ := h
    cases ir <;> simp only at h4 <;> first | (exact absurd h4 Bool.false_ne_true) | skip
    · rename_i f es
      cases kws with
      | cons _ _ => cases h4
      | nil =>
        simp only [Bool.and_eq_true] at h4
        exact step_call M g h1 h2 h3 h4.1 h4.2
    · rename_i f es ks perm
      simp only [Bool.and_eq_true] at h4
      obtain ⟨h5, h6⟩ := h4
      split at h6
      · rename_i nm e
        simp only [Bool.and_eq_true] at h6
        exact step_kw M g h1 h2 h3 h5 e h6.1.1 h6.1.2 h6.2
      · cases h6
    · rename_i b es
      cases kws with
      | cons _ _ => cases h4
      | nil =>
        simp only [Bool.and_eq_true] at h4
        obtain ⟨⟨⟨h5, h6⟩, h7⟩, h8⟩ := h4
        rw [ev_bi]
        by_cases hb : ∃ t, b = .isi t
        · obtain ⟨t, rfl⟩ := hb
          simp only at h8
          split at h8
          · rename_i a y yp z
            simp only [Bool.and_eq_true] at h8
            obtain ⟨⟨⟨⟨c1, c2⟩, c3⟩, c4⟩, c5⟩ := h8
            rw [evs_cons, evs_nil]
            exact s_isinst g (eq_of_beq h6) (g.isg h1) (g.bi _ h5) (eq_of_beq c3) (g.isg c4) (g.bi _ c5) (M.e g c2).1 c1
          · cases h8
        · have h8' : chkEs S n T args es = true := by
            cases b <;> first | exact h8 | exact absurd ⟨_, rfl⟩ hb
          obtain ⟨hA, hA2, hA3⟩ := M.args g h8' h3
          cases args with
          | nil => cases b <;> first | cases h7 | exact absurd ⟨_, rfl⟩ hb
          | cons z zs =>
            obtain ⟨n1, n2⟩ := (Bool.and_eq_true _ _).mp h3
            exact s_builtin g (fun t e => hb ⟨t, e⟩) (eq_of_beq h6) (g.isg h1) (g.bi _ h5) hA (starEach_ns n1) (noStars_any n2)
    · rename_i es
      split at h4
      · rename_i y yp as cp
        simp only [Bool.and_eq_true] at h4
        obtain ⟨⟨⟨⟨⟨⟨⟨c1, c2⟩, c3⟩, c4⟩, c5⟩, c6⟩, c7⟩, c8⟩ := h4
        have hx : x = "tuple" := (eq_of_beq c2).trans n_tuple
        subst hx
        rw [ev_tupR]
        exact s_tupR (pe_tupRc g.calm (g.isg h1) (g.bi _ c1) (step_rng M g c3 c4 c5 c6 c7 (by intro e; subst e; cases c8)) rfl)
      · cases h4
    · rename_i m es
      split at h4
      · rename_i y yp as cp
        simp only [Bool.and_eq_true] at h4
        obtain ⟨⟨⟨⟨⟨⟨⟨c1, c2⟩, c3⟩, c4⟩, c5⟩, c6⟩, c7⟩, c8⟩ := h4
        have hx : x = "list" := (eq_of_beq c2).trans n_list
        subst hx
        rw [ev_lstR]
        exact s_lstR m (pe_lstRc g.calm (g.isg h1) (g.bi _ c1) (step_rng M g c3 c4 c5 c6 c7 (by intro e; subst e; cases c8)) rfl)
      · cases h4
    · rename_i f e
      split at h4
      · rename_i ps body sc lp
        simp only [Bool.and_eq_true] at h4
        obtain ⟨⟨⟨⟨c1, c2⟩, c3⟩, c4⟩, c5⟩ := h4
        obtain ⟨d1, c, P, d2, d3, d4, d5⟩ := g.ld c1
        have hL : LamX.LamS X.env.scope sc := by rw [g.sc]; exact LamX.lamS_by c4
        rw [noArgs_eq c2, ev_lam]
        exact s_lam (k := k) (g.th f x (by simpa using c3)) g.zK (g.isg h1) (nmOk_d h2) d3 d2 d4 d5 (g.rm d1) hL fun A outer s H E f c' hr => (M.e (g.lam hL A outer s H E f c' hr) c5).1
      · cases h4
/-- the parts of a comprehension that is accepted -/
theorem lc_parts {elt : Expr} {gs : List Comprehension} {cs : Scope} {pos : Pos} {ir : Ex} (h : chkE S (n + 1) T (.ListComp elt gs cs pos) ir = true) : ∃ tg iter ifs m own it p c e op, gs = [⟨tg, iter, ifs, 0⟩] ∧ ir = .lc m own it p c e ∧ ownPairs T.N own = some op ∧
    blkC T.N T.sc cs op = true ∧ notSet iter = true ∧ chkI S n T iter it = true ∧ chkP S n ⟨relS cs T.sc, T.N, some cs, false⟩ own tg p = true ∧ chkC S n ⟨relS cs T.sc, T.N, some cs, false⟩ ifs c = true ∧ chkE S n ⟨relS cs T.sc, T.N, some cs, false⟩ elt e = true := by
  unfold chkE at h
  split at h
  · rename_i tg iter ifs m own it p c e
    split at h
    · rename_i op q
      simp only [Bool.and_eq_true] at h
      obtain ⟨⟨⟨⟨⟨h1, h2⟩, h3⟩, h4⟩, h5⟩, h6⟩ := h
      exact ⟨_, _, _, _, _, _, _, _, _, _, rfl, rfl, q, h1, h2, h3, h4, h5, h6⟩
    · cases h
  · cases h
theorem ownPairs_ix {N : List Str} : ∀ {own : List Nat} {op : List (Str × Nat)}, ownPairs N own = some op → op.map (·.2) = own
  | [], _, h => by simp only [ownPairs, Option.some.injEq] at h; subst h; rfl
  | i :: is, op, h => by
    unfold ownPairs at h
    cases q : N[i]? with
    | none => simp only [q] at h; cases h
    | some x =>
      cases q2 : ownPairs N is with
      | none => simp only [q, q2] at h; cases h
      | some r =>
        simp only [q, q2, Option.some.injEq] at h
        subst h
        rw [List.map_cons, ownPairs_ix q2]
theorem blk_kind {N : List Str} {sc cs : Scope} {op : List (Str × Nat)} (h : blkC N sc cs op = true) : cs.kind = .function := (blkOk_by h).kind
theorem step_lc (M : MainE S G cl k n) (g : Good S G cl k T Z X) {elt : Expr} {gs : List Comprehension} {cs : Scope} {pos : Pos} {ir : Ex} (h : chkE S (n + 1) T (.ListComp elt gs cs pos) ir = true) : PE X (.ListComp elt gs cs pos) (tE Z (ev G cl ir)) := by
  obtain ⟨tg, iter, ifs, m, own, it, p, c, e, op, rfl, rfl, q, h1, h2, h3, h4, h5, h6⟩ := lc_parts h
  have hix := ownPairs_ix q
  rw [ev_lc]
  have gb := fun s H C l fp => g.blk (blk_kind h1) (s := s) (H := H) (C := C) (l := l) (fp := fp)
  have ok : BlkOk X.N X.env.scope cs op := by rw [g.N, g.sc]; exact blkOk_by h1
  refine PE.imp (pe_lc (own := op) g.calm (by rw [g.N]; exact g.nd) (M.i g tg h3) ok (fun s H C l fp => M.p (gb s H C l fp) h4) (fun s H C l fp => M.c (gb s H C l fp) h5) (fun s H C l fp => (M.e (gb s H C l fp) h6).1) (fun x => folded_ns h2)) ?_
  rw [hix]
  intro σ H Q ⟨w, st, e, ok, rS, p⟩
  subst e
  exact lc_core ok rS p
end
end Mi

/-! Mi19: every fuel. -/
namespace Mi
open PySem L2 PySem.Spec PyProof.Rows
section
variable {S : SG} {G : Nat → Option PV} {cl : Nat → List PV → List Ob → R PV} {k n : Nat} {T : TC} {Z : Zc} {X : Cx}
theorem step_e (M : MainE S G cl k n) (g : Good S G cl k T Z X) {e : Expr} {ir : Ex} (h : chkE S (n + 1) T e ir = true) : PE X e (tE Z (ev G cl ir)) ∧ PT X e (tB Z fun σ h => test (ev G cl ir σ h)) := by
  cases e with
  | Constant c j pos =>
    unfold chkE at h
    split at h
    · rename_i v
      obtain ⟨u, h1, h2⟩ := cst_ok (X := X) (K := Z.K) (j := j) (pos := pos) h
      rw [ev_cst]
      exact both g (s_cst h1 h2) fun _ => rfl
    · cases h
  | Name x pos =>
    unfold chkE at h
    split at h
    · rename_i i
      simp only [Bool.and_eq_true] at h
      obtain ⟨⟨h1, h2⟩, h3⟩ := h
      rw [ev_var]
      exact both g (s_var (pe_var (g.N' h1) (g.vis h2) (nmOk_d h3) (nmOk_c h3))) fun _ => rfl
    · rename_i i
      simp only [Bool.and_eq_true] at h
      obtain ⟨⟨h1, h2⟩, h3⟩ := h
      rw [ev_fz, ev_var]
      exact both g (s_fz (s_var (pe_var (g.N' h1) (g.vis h2) (nmOk_d h3) (nmOk_c h3)))) fun _ => rfl
    · rename_i i
      simp only [Bool.and_eq_true] at h
      obtain ⟨⟨h1, h2⟩, h3⟩ := h
      split at h1
      · rename_i y e
        cases eq_of_beq h1
        obtain ⟨u, val, m1, m2, m3⟩ := g.gl i x e
        rw [ev_glb]
        refine both g (PE.imp (pe_glob (pos := pos) (g.isg h2) m1 m2 (nmOk_d h3)) fun σ H Q ⟨w, st, e, ok, rS, p⟩ => ?_) fun _ => rfl
        subst e
        cases q : G i with
        | none => simp only [q] at p; exact p.elim
        | some v =>
          simp only [q] at p
          exact p.here ok (.of (m3 v q w))
      · cases h1
    · cases h
  | BinOp a op b pos =>
    unfold chkE at h
    split at h
    · rename_i m o x y
      simp only [Bool.and_eq_true] at h
      obtain ⟨⟨h1, h2⟩, h3⟩ := h
      obtain ⟨r, o1, o2⟩ := op_bop (X := X) (Z := Z) m h1
      rw [ev_bin]
      exact both g (s_bin o1 (o2 g.zK) (M.e g h2).1 (M.e g h3).1) fun _ => rfl
    · cases h
  | UnaryOp op a pos =>
    unfold chkE at h
    split at h
    · rw [ev_not]
      exact ⟨s_not (M.e g h).1 g.zK, t_not (M.e g h).2⟩
    · rw [ev_neg]
      exact both g (s_neg (M.e g h).1) fun _ => rfl
    · cases h
  | BoolOp op vs pos =>
    unfold chkE at h
    cases op with
    | And => exact ⟨(M.a g pos h).1, (M.a g pos h).2.pt⟩
    | Or => exact ⟨(M.o g pos h).1, (M.o g pos h).2.pt⟩
  | Compare a ops bs pos =>
    unfold chkE at h
    split at h
    · rename_i op b kk x y
      simp only [Bool.and_eq_true] at h
      obtain ⟨⟨⟨h1, h2⟩, h3⟩, h4⟩ := h
      rw [ev_cmp]
      exact ⟨s_cmp (cop_eq h1) g.hu (M.e g h3).1 (M.e g h4).1 g.zK (behind_ns h2), t_cmp (cop_eq h1) g.hu (M.e g h3).1 (M.e g h4).1 g.zK (behind_ns h2)⟩
    · rename_i op op2 b c kk k2 x y z
      simp only [Bool.and_eq_true] at h
      obtain ⟨⟨⟨⟨⟨h1, h2⟩, h3⟩, h4⟩, h5⟩, h6⟩ := h
      have hm : lastMarks [op, op2] [b, c] = false := by show behindInMarks op2 c = false; exact behind_ns h3
      rw [ev_cmp2]
      exact ⟨s_cmp2 (cop_eq h1) (cop_eq h2) g.hu (M.e g h4).1 (M.e g h5).1 (M.e g h6).1 g.zK hm, t_cmp2 (cop_eq h1) (cop_eq h2) g.hu (M.e g h4).1 (M.e g h5).1 (M.e g h6).1 g.zK hm⟩
    · cases h
  | IfExp c a b pos =>
    unfold chkE at h
    split at h
    · simp only [Bool.and_eq_true] at h
      obtain ⟨⟨h1, h2⟩, h3⟩ := h
      rw [ev_ife]
      exact ⟨s_ife (M.e g h1).2 (M.e g h2).1 (M.e g h3).1, t_ife (M.e g h1).2 (M.e g h2).2 (M.e g h3).2⟩
    · cases h
  | Tuple es x1 pos =>
    unfold chkE at h
    split at h
    · rw [ev_tup]
      exact both g (s_tup (M.es g h)) fun _ => rfl
    · cases h
  | List es pos =>
    unfold chkE at h
    split at h
    · rw [ev_lst]
      exact both g (s_lst _ (M.es g h)) fun _ => rfl
    · cases h
  | Subscript a s pos =>
    unfold chkE at h
    split at h
    · rename_i x y
      simp only [Bool.and_eq_true] at h
      obtain ⟨⟨h1, h2⟩, h3⟩ := h
      rw [ev_ix]
      exact both g (s_two (pe_ix ix_seq (M.e g h2).1 (M.e g h3).1 (plainIx h1)) (by rw [g.zK]; exact opS_ix)) fun _ => rfl
    · rename_i m x
      split at h
      · rename_i st p2
        simp only [Bool.and_eq_true] at h
        obtain ⟨kk, q1, q2, rfl⟩ := minusOne_eq h.1
        rw [ev_rev]
        exact both g (s_rev m g.zK (M.e g h.2).1) fun _ => rfl
      · cases h
    · rename_i m x lo hi
      split at h
      · rename_i l u p2
        simp only [Bool.and_eq_true] at h
        obtain ⟨⟨h1, h2⟩, h3⟩ := h
        rw [ev_sl]
        exact both g (s_sl m g.zK (M.e g h1).1 (M.oe g h2) (M.oe g h3)) fun _ => rfl
      · cases h
    · cases h
  | FormattedValue e cv sp pos =>
    unfold chkE at h
    split at h
    · simp only [Bool.and_eq_true] at h
      have hc := eq_of_beq h.1
      subst hc
      rw [ev_fmt]
      exact both g (s_fmt (M.e g h.2).1) fun _ => rfl
    · cases h
  | JoinedStr es pos =>
    unfold chkE at h
    split at h
    · rename_i xs
      simp only [Bool.and_eq_true] at h
      obtain ⟨⟨h1, h2⟩, h3⟩ := h
      obtain ⟨rs, hp, he⟩ := M.fs g h3 h2
      rw [ev_fs, he]
      cases es with
      | nil => cases h1
      | cons a r =>
        cases r with
        | nil =>
          cases rs with
          | nil => cases hp
          | cons r0 rs =>
            cases hp with
            | cons p1 p2 =>
              cases rs with
              | nil => exact both g (s_fs1 p1) fun _ => rfl
              | cons _ _ => cases p2
        | cons b r => exact both g (s_fs hp) fun _ => rfl
    · cases h
  | ListComp elt gs cs pos => exact both g (step_lc M g h) fun _ => rfl
  | Call fn args kws pos => exact both g (step_call_all M g h) fun _ => rfl
  | _ => unfold chkE at h; cases h
theorem step_and (M : MainE S G cl k n) (g : Good S G cl k T Z X) {vs : List Expr} {ir : Ex} (pos : Pos) (h : chkAnd S (n + 1) T vs ir = true) : PE X (.BoolOp .And vs pos) (tE Z (ev G cl ir)) ∧ PW X (.BoolOp .And vs pos) (tB Z fun σ h => test (ev G cl ir σ h)) := by
  cases vs with
  | nil => simp [chkAnd] at h
  | cons a r =>
    cases r with
    | nil =>
      rw [chkAnd] at h
      exact ⟨boolop_one (M.e g h).1, pw_and1 (M.e g h).2⟩
    | cons b r =>
      cases ir <;> simp only [chkAnd, Bool.and_eq_true] at h <;> first | (exact absurd h Bool.false_ne_true) | skip
      rw [ev_and]
      exact ⟨s_and (M.e g h.1).1 (M.a g pos h.2).1 g.zK, t_and (M.e g h.1).2 (M.a g pos h.2).2⟩
theorem step_or (M : MainE S G cl k n) (g : Good S G cl k T Z X) {vs : List Expr} {ir : Ex} (pos : Pos) (h : chkOr S (n + 1) T vs ir = true) : PE X (.BoolOp .Or vs pos) (tE Z (ev G cl ir)) ∧ PW X (.BoolOp .Or vs pos) (tB Z fun σ h => test (ev G cl ir σ h)) := by
  cases vs with
  | nil => simp [chkOr] at h
  | cons a r =>
    cases r with
    | nil =>
      rw [chkOr] at h
      exact ⟨boolop_one (M.e g h).1, pw_or1 (M.e g h).2⟩
    | cons b r =>
      cases ir <;> simp only [chkOr, Bool.and_eq_true] at h <;> first | (exact absurd h Bool.false_ne_true) | skip
      rw [ev_or]
      exact ⟨s_or (M.e g h.1).1 (M.o g pos h.2).1 g.zK, t_or (M.e g h.1).2 (M.o g pos h.2).2⟩
theorem step_es (M : MainE S G cl k n) (g : Good S G cl k T Z X) {es : List Expr} {ir : Exs} (h : chkEs S (n + 1) T es ir = true) : PA X es (tA Z (evs G cl ir)) := by
  cases es with
  | nil =>
    cases ir with
    | nil => rw [evs_nil]; exact a_nil
    | cons s e r => simp [chkEs] at h
  | cons e es =>
    cases ir with
    | nil => simp [chkEs] at h
    | cons s x r =>
      cases s with
      | false =>
        simp only [chkEs, Bool.and_eq_true] at h
        rw [evs_cons]
        exact a_cons (M.e g h.1.2).1 (M.es g h.2) (starEach_ns h.1.1)
      | true =>
        unfold chkEs at h
        simp only [Bool.and_eq_true] at h
        obtain ⟨h1, h2⟩ := h
        split at h1
        · rw [evs_star]
          exact a_star (M.e g h1).1 (M.es g h2) g.zK
        · cases h1
theorem step_fs (M : MainE S G cl k n) (g : Good S G cl k T Z X) {es : List Expr} {ir : Exs} (h : chkEs S (n + 1) T es ir = true) (hs : noStars es = true) : ∃ rs : List (Sl → List Ob → R PV), PJ X es (rs.map (tE Z)) ∧ evF G cl ir = fun σ acc h => fsL rs σ acc h := by
  cases es with
  | nil =>
    cases ir with
    | nil => exact ⟨[], .nil, evF_nil G cl⟩
    | cons s e r => simp [chkEs] at h
  | cons e es =>
    obtain ⟨n1, n2⟩ := (Bool.and_eq_true _ _).mp hs
    cases ir with
    | nil => simp [chkEs] at h
    | cons s x r =>
      cases s with
      | false =>
        simp only [chkEs, Bool.and_eq_true] at h
        obtain ⟨rs, h1, h2⟩ := M.fs g h.2 n2
        exact ⟨ev G cl x :: rs, .cons (M.e g h.1.2).1 h1, evF_cons G cl x r rs h2⟩
      | true =>
        cases e <;> first | (simp [chkEs] at h; done) | (simp [notStar] at n1; done)
theorem step_ks (M : MainE S G cl k n) (g : Good S G cl k T Z X) {es : List Keyword} {ir : Exs} (h : chkKs S (n + 1) T es ir = true) : PK X es (tA Z (evs G cl ir)) ∧ allFalse ir = true ∧ cnt ir = es.length := by
  cases es with
  | nil =>
    cases ir with
    | nil => rw [evs_nil]; exact ⟨k_nil, rfl, rfl⟩
    | cons s e r => simp [chkKs] at h
  | cons kw es =>
    obtain ⟨nm, e, kp⟩ := kw
    cases ir with
    | nil => simp [chkKs] at h
    | cons s x r =>
      cases s with
      | true => simp [chkKs] at h
      | false =>
        simp only [chkKs, Bool.and_eq_true] at h
        obtain ⟨q1, q2, q3⟩ := M.ks g h.2
        rw [evs_cons]
        exact ⟨k_cons (M.e g h.1).1 q1, q2, by rw [cnt, q3]; rfl⟩
theorem step_o (M : MainE S G cl k n) (g : Good S G cl k T Z X) {o : Option Expr} {ir : Exs} (h : chkO S (n + 1) T o ir = true) : PO X o (tO Z fun σ h => bndR (evs G cl ir σ h)) := by
  cases o with
  | none =>
    cases ir with
    | nil => rw [evs_nil]; exact o_none
    | cons s e r => simp [chkO] at h
  | some e =>
    unfold chkO at h
    split at h
    · rw [evs_cons, evs_nil]
      exact o_some (M.e g h).1
    · cases h
theorem step_i (M : MainE S G cl k n) (g : Good S G cl k T Z X) {e : Expr} {ir : It} (tg : Expr) (h : chkI S (n + 1) T e ir = true) : PI X tg e (tI Z (evI G cl ir)) := by
  cases ir with
  | plain x =>
    rw [chkI] at h
    rw [evI_plain]
    exact i_plain g.zK (M.e g h).1
  | rng es =>
    unfold chkI at h
    split at h
    · rename_i y yp as pos
      simp only [Bool.and_eq_true] at h
      obtain ⟨⟨⟨⟨⟨h1, h2⟩, h3⟩, h4⟩, h5⟩, h6⟩ := h
      have hy : y = "range" := (eq_of_beq h1).trans n_range
      subst hy
      obtain ⟨hA, hA2, hA3⟩ := M.args g h5 h4
      rw [evI_rng]
      cases as with
      | nil => cases h6
      | cons a r =>
        obtain ⟨n1, n2⟩ := (Bool.and_eq_true _ _).mp h4
        cases r with
        | nil =>
          refine i_rng1 (pi_range1 (g.isg h2) (g.bi _ h3) hA (starEach_ns n1)) fun σ hh ys h' e => ?_
          have := evs_len hA2 e
          rw [hA3] at this
          match ys, this with
          | [x], _ => exact ⟨x, rfl⟩
        | cons b r =>
          obtain ⟨n3, n4⟩ := (Bool.and_eq_true _ _).mp n2
          cases r with
          | nil =>
            refine i_rng2 (pi_range2 (g.isg h2) (g.bi _ h3) hA (by rw [starEach_ns n1, starEach_ns n3]; rfl) (starEach_ns n3)) fun σ hh ys h' e => ?_
            have := evs_len hA2 e
            rw [hA3] at this
            match ys, this with
            | [x, y], _ => exact ⟨x, y, rfl⟩
          | cons c r =>
            cases r with
            | cons d r =>
              exfalso
              have : ((a :: b :: c :: d :: r).length == 1 || (a :: b :: c :: d :: r).length == 2 || (a :: b :: c :: d :: r).length == 3) = false := by simp
              rw [this] at h6; cases h6
            | nil =>
              refine i_rng3 (pi_range3 (g.isg h2) (g.bi _ h3) hA (starEach_ns n1) (noStars_any n2)) fun σ hh ys h' e => ?_
              have := evs_len hA2 e
              rw [hA3] at this
              match ys, this with
              | [x, y, z], _ => exact ⟨x, y, z, rfl⟩
    · cases h
theorem assignEach_map {e : Expr} {es : List Expr} {env : Env} (h : notStar e = true) : (assignEach (e :: es) env).map (·.2) = assign e env :: (assignEach es env).map (·.2) := by rw [assignEach_ns h]; rfl
theorem step_p (M : MainE S G cl k n) (g : Good S G cl k T Z X) {ks : List Nat} {e : Expr} {ir : Pat} (h : chkP S (n + 1) T ks e ir = true) : PG X e (tG Z ks (evP G cl ir)) := by
  cases e with
  | Name x pos =>
    unfold chkP at h
    split at h
    · rename_i i
      simp only [Bool.and_eq_true] at h
      obtain ⟨⟨h1, h2⟩, h3⟩ := h
      rw [evP_nm]
      exact g_nm (by simpa using h3) (pg_name (by rw [g.N]; exact g.nd) (g.N' h1) (g.loc h2) (g.st x h2))
    · cases h
  | Tuple es k2 pos =>
    unfold chkP at h
    split at h
    · rename_i ps
      simp only [Bool.and_eq_true] at h
      obtain ⟨q1, q2⟩ := M.ps g h.2 h.1
      rw [evP_tp]
      exact g_tp g.calm g.zK q1 (assignEach_len.trans q2.symm) (assignEach_none h.1) fun xs σ hh σ' h' e => evPs_len e
    · cases h
  | Subscript o i pos =>
    unfold chkP at h
    split at h
    · rename_i x y
      simp only [Bool.and_eq_true] at h
      obtain ⟨⟨h1, h2⟩, h3⟩ := h
      rw [evP_sx]
      exact g_sx (M.e g h2).1 (M.e g h3).1 (pg_sub (M.e g h2).1 (M.e g h3).1 set_list fun v => by cases i <;> first | rfl | cases h1)
    · cases h
  | _ => unfold chkP at h; cases h
theorem step_ps (M : MainE S G cl k n) (g : Good S G cl k T Z X) {ks : List Nat} {es : List Expr} {ir : Pats} (h : chkPs S (n + 1) T ks es ir = true) (hs : noStars es = true) : PGs X es (tGs Z ks (evPs G cl ir)) ∧ pcnt ir = es.length := by
  cases es with
  | nil =>
    cases ir with
    | nil => rw [evPs_nil]; exact ⟨gs_nil, rfl⟩
    | cons p r => simp [chkPs] at h
  | cons e es =>
    cases ir with
    | nil => simp [chkPs] at h
    | cons p r =>
      obtain ⟨n1, n2⟩ := (Bool.and_eq_true _ _).mp hs
      simp only [chkPs, Bool.and_eq_true] at h
      obtain ⟨q1, q2⟩ := M.ps g h.2 n2
      rw [evPs_cons]
      exact ⟨gs_cons (M.p g h.1) q1 (assignEach_map n1), by rw [pcnt, q2]; rfl⟩
theorem step_c (M : MainE S G cl k n) (g : Good S G cl k T Z X) {es : List Expr} {ir : Ex} (h : chkC S (n + 1) T es ir = true) : PTs X es (tB Z fun σ h => test (ev G cl ir σ h)) := by
  cases es with
  | nil =>
    unfold chkC at h
    split at h
    · rw [ev_cst]
      exact pts_nil.imp fun σ H Q ⟨w, st, e, ok, rS, p⟩ => by
        subst e
        exact Po.here (Z := Z) (a := true) p ok rfl
    · cases h
  | cons a r =>
    cases r with
    | nil => rw [chkC] at h; exact pts_one (M.e g h).2
    | cons b r => simp [chkC] at h
end
theorem mainE (S : SG) (G : Nat → Option PV) (cl : Nat → List PV → List Ob → R PV) (k : Nat) : ∀ n, MainE S G cl k n
  | 0 => ⟨fun {_ _ _} _ {_ _} h => by simp [chkE] at h, fun {_ _ _} _ {_ _} pos h => by simp [chkAnd] at h, fun {_ _ _} _ {_ _} pos h => by simp [chkOr] at h, fun {_ _ _} _ {_ _} h => by simp [chkEs] at h, fun {_ _ _} _ {_ _} h => by simp [chkKs] at h, fun {_ _ _} _ {_ _} h => by simp [chkEs] at h,
      fun {_ _ _} _ {_ _} h => by simp [chkO] at h, fun {_ _ _} _ {e ir} tg h => by simp [chkI] at h, fun {_ _ _} _ {_ _ _} h => by simp [chkP] at h, fun {_ _ _} _ {_ _ _} h => by simp [chkPs] at h, fun {_ _ _} _ {_ _} h => by simp [chkC] at h⟩
  | n + 1 => have M := mainE S G cl k n
    ⟨fun {_ _ _} g {_ _} h => step_e M g h, fun {_ _ _} g {_ _} pos h => step_and M g pos h, fun {_ _ _} g {_ _} pos h => step_or M g pos h, fun {_ _ _} g {_ _} h => step_es M g h, fun {_ _ _} g {_ _} h => step_ks M g h, fun {_ _ _} g {_ _} h hs => step_fs M g h hs, fun {_ _ _} g {_ _} h => step_o M g h, fun {_ _ _} g {_ _} tg h => step_i M g tg h,
      fun {_ _ _} g {_ _ _} h => step_p M g h, fun {_ _ _} g {_ _ _} h hs => step_ps M g h hs, fun {_ _ _} g {_ _} h => step_c M g h⟩
end Mi

/-! Mi20: statements. -/
namespace Mi
open PySem L2 PySem.Spec PyProof.Rows
section
variable {S : SG} {G : Nat → Option PV} {cl : Nat → List PV → List Ob → R PV} {k n : Nat} {T : TC} {Z : Zc} {X : Cx}
theorem tE_mono {r : Sl → List Ob → R PV} {σ : L2.St} {H : Hp} {Q Q' : VK} (h : tE Z r σ H Q) (i : ∀ v H, Q v H → Q' v H) : tE Z r σ H Q' := by
  obtain ⟨w, st, e, ok, rS, p⟩ := h
  exact ⟨w, st, e, ok, rS, Po.imp p i⟩
theorem nm_core {ks : List Nat} {i : Nat} (hk : i ∈ ks) {V : L2.V} {σ : L2.St} {H : Hp} {Q : L2.St → Hp → Prop} (h : tG Z ks (fun v σ h => .ok (put σ i (some v)) h) V σ H Q) : gName i V σ H Q := by
  obtain ⟨w, st, x, e, ok, rS, rv, p⟩ := h
  subst e
  exact p w _ (Le.refl w) rfl ok (rS.put rv) (wipe_set hk)
structure MainS (S : SG) (G : Nat → Option PV) (cl : Nat → List PV → List Ob → R PV) (k n : Nat) : Prop where
  s : ∀ {T : TC} {Z : Zc} {X : Cx}, Good S G cl k T Z X → PassesOwn (model X.prog X.w) X.A X.env X.xe → T.blk = none → ∀ {st : Stmt} {ir : Sx}, chkS S n T st ir = true → PS X st (tS Z (exec G cl ir))
  b : ∀ {T : TC} {Z : Zc} {X : Cx}, Good S G cl k T Z X → PassesOwn (model X.prog X.w) X.A X.env X.xe → T.blk = none → ∀ {st : List Stmt} {ir : Sx}, chkB S n T st ir = true → PSs X st (tS Z (exec G cl ir))
theorem stuck_all {st : Stmt} : PS X st (tS Z (exec G cl .stuck)) := ⟨fun pins s σ H D I h => by
  obtain ⟨w, s0, e, ok, rS, p⟩ := h
  rw [ex_stuck] at p
  exact p.elim⟩
theorem step_asg (M : MainE S G cl k n) (g : Good S G cl k T Z X) {tg v : Expr} {pos : Pos} {p : Pat} {x : Ex} (h1 : noSwap T.sc tg v = true) (h2 : chkP S n T (patSlots p) tg p = true) (h3 : chkE S n T v x = true) (hs : notStar tg = true) :
    PS X (.Assign [tg] v pos) (tS Z (exec G cl (.asg p x))) := by
  rw [ex_asg]
  have hG := M.p g h2
  have hw : swappedStores [tg] v X.env = pure none := noSwap_none (by rw [g.sc]; exact h1)
  have e1 : (assignEach [tg] X.env).map (·.2) = [assign tg X.env] := by rw [assignEach_map hs]; rfl
  by_cases hsw : swapsWithSole [tg] v pos.line X.env = pure false
  · exact x_asg (g := fun _ _ _ _ => True) (ps_asg (M.e g h3).1 hG hsw hw e1)
  · -- a comprehension that goes to its name at once
    have hsw0 : ¬ swapsWith v (some tg) pos.line X.env = pure false := hsw
    clear hsw
    have nc : notComp v = false := by
      cases hq : notComp v with
      | false => rfl
      | true => exact absurd (swaps_nc hq) hsw0
    cases v <;> first | cases nc | skip
    · rename_i elt gs cs vp
      have nn : notName tg = false := by
        cases hq : notName tg with
        | false => rfl
        | true => exact absurd (swaps_nn hq) hsw0
      cases tg <;> first | cases nn | skip
      rename_i y yp
      have hsw' : swapsWith (.ListComp elt gs cs vp) (some (.Name y yp)) pos.line X.env = pure (swapC X.env.scope y yp.line vp.line cs) := swapC_eq (sc := cs) g.env
      cases hb : swapC X.env.scope y yp.line vp.line cs with
      | false => exact absurd (by rw [hsw', hb]) hsw0
      | true =>
        rw [hb] at hsw'
        cases n with
        | zero => simp [chkE] at h3
        | succ n =>
          obtain ⟨tg, iter, ifs, m, own, it, q, c, e, op, rfl, rfl, hq, c1, c2, c3, c4, c5, c6⟩ := lc_parts h3
          have hix := ownPairs_ix hq
          have M' := mainE S G cl k n
          have gb := fun s H C l fp => g.blk (blk_kind c1) (s := s) (H := H) (C := C) (l := l) (fp := fp)
          have okB : BlkOk X.N X.env.scope cs op := by rw [g.N, g.sc]; exact blkOk_by c1
          have hl : X.env.scope.names.lookup y = some .local := by
            unfold swapC at hb
            simp only [Bool.and_eq_true] at hb
            exact isLocal_eq hb.1.1
          unfold chkP at h2
          split at h2
          · rename_i i
            simp only [Bool.and_eq_true] at h2
            obtain ⟨⟨d1, d2⟩, d3⟩ := h2
            have hi := g.N' d1
            have key := ps_setLc (own := op) (py := yp) (pos := vp) (spos := pos) g.calm (by rw [g.N]; exact g.nd) hi hl hsw' (M'.i g tg c3) okB (fun s H C l fp => M'.p (gb s H C l fp) c4) (fun s H C l fp => M'.c (gb s H C l fp) c5) (fun s H C l fp => (M'.e (gb s H C l fp) c6).1) (fun x => folded_ns c2)
            rw [hix] at key
            refine x_asg (ks := patSlots (.nm i)) (g := fun _ _ _ _ => True) (key.imp fun D σ H hh => ?_)
            rw [evP_nm, ev_lc] at hh
            obtain ⟨w, st, e, ok, rS, p⟩ := tE_mono hh fun V H1 hv => nm_core (i := i) (by simpa using d3) hv
            subst e
            exact lc_core ok rS p
          · cases h2
    · rename_i elt gs cs vp
      cases n with
      | zero => simp [chkE] at h3
      | succ n => unfold chkE at h3; cases h3
    · rename_i a b gs cs vp
      cases n with
      | zero => simp [chkE] at h3
      | succ n => unfold chkE at h3; cases h3
theorem step_s (ME : MainE S G cl k n) (M : MainS S G cl k n) (g : Good S G cl k T Z X) (hp : PassesOwn (model X.prog X.w) X.A X.env X.xe) (hb : T.blk = none) {st : Stmt} {ir : Sx} (h : chkS S (n + 1) T st ir = true) : PS X st (tS Z (exec G cl ir)) := by
  by_cases hst : ir = .stuck
  · subst hst; exact stuck_all
  cases st
  case Return e pos =>
    cases e with
    | none =>
      cases ir <;> first | exact absurd rfl hst | (simp [chkS] at h; done) | skip
      rw [ex_retN]
      exact ps_retN.imp fun D σ H ⟨w, s0, e, ok, rS, p⟩ => by
        subst e
        exact p w .non (Le.refl w) rfl ok (.of .non)
    | some e =>
      cases ir <;> first | exact absurd rfl hst | (simp [chkS] at h; done) | skip
      rw [chkS] at h
      rw [ex_ret]
      exact x_ret (ps_ret (ME.e g h).1)
  case Assign tgs v pos =>
    cases tgs with
    | nil => cases ir <;> first | exact absurd rfl hst | (simp [chkS] at h; done)
    | cons tg r =>
      cases r with
      | cons t2 r => cases ir <;> first | exact absurd rfl hst | (simp [chkS] at h; done)
      | nil =>
        cases ir <;> first | exact absurd rfl hst | (simp [chkS] at h; done) | skip
        · rename_i p x
          simp only [chkS, Bool.and_eq_true] at h
          have hs : notStar tg = true := by
            cases hq : notStar tg with
            | true => rfl
            | false =>
              cases tg <;> first | cases hq | skip
              cases n with
              | zero => simp [chkP] at h
              | succ n => simp [chkP] at h
          exact step_asg ME g h.1.1 h.1.2 h.2 hs
        · rename_i i j x y
          unfold chkS at h
          simp only at h
          split at h
          · rename_i a ap b bp k1 p1 c d k2 p2
            simp only [Bool.and_eq_true, Bool.not_eq_true'] at h
            obtain ⟨⟨⟨⟨⟨⟨⟨⟨⟨⟨⟨⟨h1, h2⟩, h3⟩, h4⟩, h5⟩, h6⟩, h7⟩, h8⟩, h9⟩, h10⟩, h11⟩, h12⟩, h13⟩ := h
            have hij : i ≠ j := by simpa using h3
            have hl : (bp.line == ap.line) = true := by rw [eq_of_beq h7]; simp
            have hsc := g.sc
            rw [ex_par]
            refine x_par (ps_par g.calm (by rw [g.N]; exact g.nd) (g.N' h1) (g.N' h2) hij (by rw [hsc]; exact isLocal_eq h5) (by rw [hsc]; exact isLocal_eq h6) (pa_cons (ME.e g h12).1 (pa_cons (ME.e g h13).1 pa_nil (starEach_ns h9)) (starEach_ns h8)) ?_)
            exact swap_two g.env (by rw [hsc]; exact h5) (by rw [hsc]; exact h6) hl h4 h8 h9 h10 h11
          · cases h
  case For tg it b els pos =>
    cases els with
    | cons _ _ => cases ir <;> first | exact absurd rfl hst | (simp [chkS] at h; done)
    | nil =>
      cases ir <;> first | exact absurd rfl hst | (simp [chkS] at h; done) | skip
      simp only [chkS, Bool.and_eq_true] at h
      obtain ⟨⟨⟨h1, h2⟩, h3⟩, h4⟩ := h
      rw [ex_for]
      exact x_for (ps_for hp g.calm (ME.i g tg h2) (ME.p g h3) (M.b g hp hb h4) fun x => folded_ns h1)
  case While c b els pos =>
    cases els with
    | cons _ _ => cases ir <;> first | exact absurd rfl hst | (simp [chkS] at h; done)
    | nil =>
      cases ir <;> first | exact absurd rfl hst | (simp [chkS] at h; done) | skip
      simp only [chkS, Bool.and_eq_true] at h
      rw [ex_whl]
      exact x_whl (ps_while hp (ME.e g h.1).2 (M.b g hp hb h.2))
  case If c a b pos =>
    cases ir <;> first | exact absurd rfl hst | (simp [chkS] at h; done) | skip
    simp only [chkS, Bool.and_eq_true] at h
    obtain ⟨⟨h1, h2⟩, h3⟩ := h
    have ha := M.b g hp hb h2
    have hb' := M.b g hp hb h3
    rw [ex_ife]
    exact x_ife (ME.e g h1).2 ha hb' (ps_if (ME.e g h1).2 ha hb')
  case Expr e pos =>
    cases ir <;> first | exact absurd rfl hst | (simp [chkS] at h; done) | skip
    simp only [chkS, Bool.and_eq_true] at h
    rw [ex_expr]
    exact x_expr (ps_expr (ME.e g h.2).1 (swaps_nc h.1))
  case Raise e c pos =>
    cases ir <;> first | exact absurd rfl hst | (simp [chkS] at h; done) | skip
    rename_i ci x
    unfold chkS at h
    simp only at h
    split at h
    · rename_i y yp a cp
      simp only [Bool.and_eq_true] at h
      obtain ⟨⟨⟨⟨h1, h2⟩, h3⟩, h4⟩, h5⟩ := h
      split at h1
      · rename_i z e
        cases eq_of_beq h1
        rw [ex_rse]
        exact x_rse (g.xc ci z.1 z.2 e) g.zK g.calm ((g.rm hb).mono (Nat.le_add_left 2 k)) (g.isg h2) g.tk (ME.e g h5).1 (nmOk_d h3) (by cases a <;> first | rfl | cases h4)
      · cases h1
    · cases h
  case Pass pos =>
    cases ir <;> first | exact absurd rfl hst | (simp [chkS] at h; done) | skip
    rw [ex_pass]
    exact ps_pass.imp fun D σ H ⟨w, s0, e, ok, rS, p⟩ => by
      subst e
      exact p w σ (Le.refl w) rfl ok rS
  all_goals (cases ir <;> first | exact absurd rfl hst | (simp [chkS] at h; done))
theorem step_b (M : MainS S G cl k n) (g : Good S G cl k T Z X) (hp : PassesOwn (model X.prog X.w) X.A X.env X.xe) (hb : T.blk = none) {st : List Stmt} {ir : Sx} (h : chkB S (n + 1) T st ir = true) : PSs X st (tS Z (exec G cl ir)) := by
  cases st with
  | nil =>
    unfold chkB at h
    split at h
    · rw [ex_pass]; exact ss_nil
    · cases h
  | cons s r =>
    cases r with
    | nil => rw [chkB] at h; exact ss_one (M.s g hp hb h)
    | cons t r =>
      unfold chkB at h
      split at h
      · simp only [Bool.and_eq_true] at h
        rw [ex_seq]
        exact ss_cons (M.s g hp hb h.1) (M.b g hp hb h.2)
      · cases h
end
theorem mainS (S : SG) (G : Nat → Option PV) (cl : Nat → List PV → List Ob → R PV) (k : Nat) : ∀ n, MainS S G cl k n
  | 0 => ⟨fun {_ _ _} _ _ _ {st ir} h => by
      by_cases hst : ir = .stuck
      · subst hst; exact stuck_all
      · cases ir <;> first | exact absurd rfl hst | (simp [chkS] at h; done), fun {_ _ _} _ _ _ {_ _} h => by simp [chkB] at h⟩
  | n + 1 => ⟨fun {_ _ _} g hp hb {_ _} h => step_s (mainE S G cl k n) (mainS S G cl k n) g hp hb h, fun {_ _ _} g hp hb {_ _} h => step_b (mainS S G cl k n) g hp hb h⟩
end Mi

/-! Mi21: all defs of a text, by the depth of calls. -/
namespace Mi
open PySem L2 PySem.Spec PyProof.Rows
def lamQ (qual : Str) : Str := qual ++ ".<locals>." ++ "<lambda>"
/-- what is known of the def f; cs: code objects and their tables -/
def DefOk (S : SG) (m : Nat) (Tb : List Fn) (K : Kt) (cs : List (Addr × Addr)) (mg : Str → Option Value) (f : Nat) (xs ps : List Str) (kw : List (Nat × List Str × List Nat)) (a : Addr) (fd : FuncData) : Prop :=
  ∃ (fn : Fn) (N : List Str) (st : Stmt) (x qual : Str) (ld : Bool) (oc : Value) (od : Option Addr) (kV doc pm : Value) (an : Option Addr) (cdv ct : Value) (osl : Array (Option Value)), fnAt Tb f = some fn ∧
    fd = PySem.W.fnOf x qual (defArgs st) (defBody st) (defScope st) .none kV doc pm an cdv ct ∧ K.fr.lookup a = some ⟨oc, od, .func fd, osl⟩ ∧ PySem.W.codeIn K.fr cdv qual = true ∧ PySem.W.keepIn K.fr (.ref a) = true ∧
    FnScope N ps (defScope st) ∧ (∀ x ∈ xs, mg x = some (.ref a)) ∧ (∀ us : List Value, us.length = ps.length → bindArgs fd ⟨us, []⟩ = pure (ps.zip us)) ∧
    (∀ e ∈ kw, KwOk fd ps e.1 e.2.1 e.2.2) ∧ fn.slots = N.length ∧ fn.pars = ps.length ∧ chkB S m ⟨defScope st, N, none, ld⟩ (defBody st) fn.body = true ∧
    (ld = true → ∃ c P : Addr, cdv = .ref c ∧ (c, P) ∈ cs ∧ (P, lamQ qual) ∈ K.T ∧ ∀ p ∈ K.T, p.1 = P → p.2 = lamQ qual)
section
variable {P : Program} {w : World} {K : Kt} {cs : List (Addr × Addr)} {mg : Str → Option Value} {base : Heap} {S : SG} {m : Nat} {Tb : List Fn} {G : Nat → Option PV} {ER : ERt} {cl : Nat → Nat → List PV → List Ob → R PV}
theorem all_fns (hER : ERok ER) (h0 : ∀ f args h, cl 0 f args h = .no) (hs : ∀ k f fn args h, fnAt Tb f = some fn → cl (k + 1) f args h = .no ∨ cl (k + 1) f args h = runFn G (cl k) fn args h)
    (hd : ∀ (f : Nat) (xs ps : List Str) (kw : List (Nat × List Str × List Nat)), S.fns[f]? = some (xs, ps, kw) → ∃ a fd, DefOk S m Tb K cs mg f xs ps kw a fd)
    (hg : ∀ (i : Nat) (y : Str), S.glbs[i]? = some y → ∃ (u : V) (val : Value), mg y = some val ∧ RelV u val ∧ ∀ pv, G i = some pv → ∀ w, Rp K w pv u) (hb : ∀ x, S.bis.contains x = true → mg x = none)
    (hx : ∀ (c : Nat) (x fld : Str), S.excs[c]? = some (x, fld) → ExC K mg ER c x fld) (ht : ∀ (k f : Nat) (x : Str), (f, x) ∈ S.lams → Thk K mg ER x fun v h => cl k f [v] h) (hB : ∀ p ∈ cs, LamX.TabB base mg p.1 p.2) :
    ∀ (k f : Nat) (xs ps : List Str) (kw : List (Nat × List Str × List Nat)), S.fns[f]? = some (xs, ps, kw) → ∀ a fd, DefOk S m Tb K cs mg f xs ps kw a fd → FnOk P w K.fr mg base (L2.CX P w) (3 * k) a fd ps (spF K ER (cl k f))
  | 0, f, x, ps, kw, hf, a, fd, hdo => ⟨fun vs H Q E h => by
      obtain ⟨w, args, _, _, _, p⟩ := h
      rw [h0] at p
      exact p.elim, fun A outer s H args us vs Q E _ _ _ _ h => by
      obtain ⟨w, args, _, _, _, p⟩ := h
      rw [h0] at p
      exact p.elim⟩
  | k + 1, f, x, ps, kw, hf, a, fd, hdo => by
    obtain ⟨fn, N, st, x', qual, ld, oc, od, kV, doc, pm, an, cdv, ct, osl, d1, rfl, lk, hcd, hkp, d3, d4, d5, d6, d7, d8, d9, dl⟩ := hdo
    have conv : ∀ vs H Q E, spF K ER (cl (k + 1) f) vs H Q E → spF K ER (runFn G (cl k) fn) vs H Q E := fun vs H Q E ⟨w, args, e, ok, r, p⟩ => by
      rcases hs k f fn args w.h d1 with q | q
      · rw [q] at p; exact p.elim
      · rw [q] at p; exact ⟨w, args, e, ok, r, p⟩
    have hpl : ps.length ≤ N.length := by have := congrArg List.length d3.pre; rw [List.length_take] at this; omega
    show FnOk P w K.fr mg base (L2.CX P w) (3 * k + 2 + 1) a _ ps _
    refine fn_of lk hcd d3 (fun vs H Q E h => ?_) fun A outer s H vs Q E hr h => ?_
    · obtain ⟨w, args, e, ok, r, p⟩ := conv _ _ _ _ h
      unfold runFn at p
      split at p
      · rename_i q
        rw [← d8, ← Nat.eq_of_beq_eq_true q, r.length]
      · exact p.elim
    · refine ⟨tS (ZE K ER E) (exec G (cl k) fn.body), ?_, run_core (K := K) (ER := ER) (G := G) (cl := cl k) (fn := fn) (N := N) (vs := vs) (H := H) (Q := Q) (E := E) hER d7 (by rw [d7, d8]; exact hpl) (conv _ _ _ _ h)⟩
      have g : Good S G (cl k) (3 * k) ⟨defScope st, N, none, ld⟩ (ZE K ER E) (cxOf (L2.CX P w) P w K.fr mg base N qual (defScope st) a cdv A outer s H E) := {
        zK := rfl
        sc := rfl
        kd := d3.kind
        N := rfl
        nd := d3.nd
        calm := rfl
        room := hr.mono (Nat.le_add_right _ _)
        rm := fun _ => hr
        st := fun _ _ => .inl rfl
        tk := takes_of rfl rfl rfl rfl
        fn := fun f' x' ps' kw' hf' => by
          obtain ⟨a', fd', hd'⟩ := hd f' x' ps' kw' hf'
          have ih := all_fns hER h0 hs hd hg hb hx ht hB k f' x' ps' kw' hf' a' fd' hd'
          obtain ⟨fn', N', st', x'', qual', ld', oc', od', kV', doc', pm', an', cdv', ct', osl', e1, e2, e3, e4, e5, e6, e7, e8, e9, _⟩ := hd'
          exact ⟨a', fd', e7, e5, Binds.all e8, e9, ih⟩
        gl := hg
        bi := hb
        xc := hx
        th := fun f x hm => ht k f x hm
        ld := fun h => by
          obtain ⟨c, Pt, l1, l2, l3, l4⟩ := dl h
          exact ⟨rfl, c, Pt, l1, hB (c, Pt) l2, l3, l4⟩ }
      exact (mainS S G (cl k) (3 * k) m).b g (passes_of rfl) rfl d9
end
end Mi

/-! MiK: what the written part tells of classes of errors and of a def that hears a thunk. -/
namespace Mi
open PySem L2 PySem.Spec PyProof.Rows
/-- where a name of the top stands -/
def atK (K : PySem.W.Frag) (x : Str) : Addr := match PySem.W.nsIn K mainGlobals x with
  | some (some (.ref a)) => a
  | _ => 0
theorem atK_eq {K : PySem.W.Frag} {x : Str} {a : Addr} (h : PySem.W.nsIn K mainGlobals x = some (some (.ref a))) : atK K x = a := by unfold atK; rw [h]
/-- how an error lies: its class, its own dict with the one field -/
def ERx (excs : List (Str × Str)) (K : Kt) : ERt := fun c fs w cls d => ∃ (x fld : Str) (v : PV) (vv : V) (dd : Addr), excs[c]? = some (x, fld) ∧ cls = .ref (atK K.fr x) ∧ fs = [v] ∧ v.isD = true ∧ d = some dd ∧ w.H dd = some (.xd [(fld, vv)]) ∧ Fz w dd ∧ Rp K w v vv
theorem nt_xd {fs : List (Str × V)} : NT (.xd fs) := fun _ e => nomatch e
theorem ERx_ok {excs : List (Str × Str)} {K : Kt} : ERok (ERx excs K) := fun mv ⟨x, fld, v, vv, dd, h1, h2, h3, h4, h5, h6, h7, h8⟩ => ⟨x, fld, v, vv, dd, h1, h2, h3, h4, h5, (mv _ _ nt_xd h6 h7).1, (mv _ _ nt_xd h6 h7).2, h8.move mv⟩
/-- the text of an __init__ that keeps its argument -/
structure InitTx (st : Stmt) (fld : Str) : Prop where
  ex : ∃ (s n : Str) (p1 p2 p3 p4 : Pos), defBody st = [.Assign [.Attribute (.Name s p1) fld p2] (.Name n p3) p4] ∧ FnScope [s, n] [s, n] (defScope st) ∧ Vis (defScope st) s ∧ Vis (defScope st) n ∧ nmOk s = true ∧ nmOk n = true ∧
    ∀ (q : Str) (kV doc pm : Value) (an : Option Addr) (cdv ct : Value) (us : List Value), us.length = [s, n].length → bindArgs (PySem.W.fnOf "__init__" q (defArgs st) (defBody st) (defScope st) .none kV doc pm an cdv ct) ⟨us, []⟩ = pure ([s, n].zip us)
/-- what the written part tells of the class x -/
structure ExIs (K : PySem.W.Frag) (x fld : Str) (st : Stmt) : Prop where
  ex : ∃ (C fI : Addr) (q : Str) (oc : Value) (od : Option Addr) (kV doc pm : Value) (an : Option Addr) (cdv ct : Value) (osl : Array (Option Value)), PySem.W.nsIn K mainGlobals x = some (some (.ref C)) ∧ OexC K C ∧
    PySem.W.findIn K (.ref C) "__init__" = some (some (.ref fI)) ∧ PySem.W.typeIn K (.ref fI) = some (.type "function") ∧ PySem.W.findIn K (.ref C) fld = some none ∧
    K.lookup fI = some ⟨oc, od, .func (PySem.W.fnOf "__init__" q (defArgs st) (defBody st) (defScope st) .none kV doc pm an cdv ct), osl⟩ ∧ PySem.W.codeIn K cdv q = true ∧ PySem.W.keepIn K (.ref fI) = true
theorem ExIs.mk' {K : PySem.W.Frag} {x fld : Str} {st : Stmt} {C fI : Addr} {q nm qn : Str} {N : Addr} {bs bm : List Value} {sn : List Str} {sub : List Value} {ab : Bool} {col : Option Bool} {dd : Option Addr} {m0 m1 m2 m3 m5 : Option Value} {oc : Value} {od : Option Addr} {kV doc pm : Value} {an : Option Addr} {cdv ct : Value} {osl : Array (Option Value)}
    (a : PySem.W.nsIn K mainGlobals x = some (some (.ref C))) (b : K.lookup C = some (excClassObj nm qn C N bs bm true sn sub ab col dd m0 m1 m2 m3 m5 "ValueError.__new__")) (bb : PySem.HandSPX.refsVE bm = true) (sa : PySem.W.findIn K (.ref C) "__setattr__" = some (some (.builtin "object.__setattr__")))
    (e : PySem.W.subIn K (.ref C) (.type "BaseException") = some true) (t : PySem.W.typeIn K (.ref C) = some (.type "type")) (kC : PySem.W.keepIn K (.ref C) = true) (i : PySem.W.findIn K (.ref C) "__init__" = some (some (.ref fI))) (ti : PySem.W.typeIn K (.ref fI) = some (.type "function")) (no : PySem.W.findIn K (.ref C) fld = some none)
    (l : K.lookup fI = some ⟨oc, od, .func (PySem.W.fnOf "__init__" q (defArgs st) (defBody st) (defScope st) .none kV doc pm an cdv ct), osl⟩) (c : PySem.W.codeIn K cdv q = true) (k : PySem.W.keepIn K (.ref fI) = true) : ExIs K x fld st :=
  ⟨C, fI, q, oc, od, kV, doc, pm, an, cdv, ct, osl, a, ⟨⟨nm, qn, N, bs, bm, sn, sub, ab, col, dd, m0, m1, m2, m3, m5, b, bb⟩, sa, e, t, kC⟩, i, ti, no, l, c, k⟩
theorem exC_of {K : Kt} {mg : Str → Option Value} {h : Heap} {excs : List (Str × Str)} {c : Nat} {x fld : Str} {st : Stmt} (X : K.fr.In h) (G : h.Ns mainGlobals mg) (e : ExIs K.fr x fld st) (t : InitTx st fld) (he : excs[c]? = some (x, fld)) : ExC K mg (ERx excs K) c x fld := by
  obtain ⟨C, fI, q, oc, od, kV, doc, pm, an, cdv, ct, osl, a1, a2, a3, a4, a5, a6, a7, a8⟩ := e.ex
  obtain ⟨s, n, p1, p2, p3, p4, t1, t2, t3, t4, t5, t6, t7⟩ := t.ex
  have F := fun_mk (st := st) a6 a7 a8
  refine ⟨C, fI, _, [s, n], PySem.W.mg_of X G a1, a2, a3, a4, a5, fun P w base => ?_, Binds.all fun us hl => t7 q kV doc pm an cdv ct us hl, fun w v vv dd rv hd hf => ?_⟩
  · refine F.ok t2 (fun vs H Q E h => ?_) fun cdv A outer s' H vs Q E hr h => ?_
    · obtain ⟨a, C', y, rfl, _⟩ := h
      rfl
    · obtain ⟨a, C', y, rfl, o1, o2, o3, o4⟩ := h
      rw [t1]
      refine ⟨_, pss_one (ps_ost (pe_var (i := 0) rfl t3 (nmOk_d t5) (nmOk_c t5)) (pe_var (i := 1) rfl t4 (nmOk_d t6) (nmOk_c t6))), ?_⟩
      exact ⟨y, rfl, .ref a, rfl, a, C', rfl, o1, o2, .inl ⟨o3, fun dx hd hne => o4 dx hd hne⟩⟩
  · have dv : v.isD = true := by cases rv <;> rfl
    exact ⟨x, fld, v, vv, dd, he, by rw [atK_eq a1], rfl, dv, rfl, hd, hf, rv⟩
/-- what an except clause and a field's reading ask of the class x -/
structure XfIs (K : PySem.W.Frag) (x fld : Str) : Prop where
  ex : ∃ C : Addr, PySem.W.nsIn K mainGlobals x = some (some (.ref C)) ∧ XfC K C ∧ PySem.W.findIn K (.ref C) fld = some none
theorem XfIs.mk' {K : PySem.W.Frag} {x fld : Str} {C : Addr} (a : PySem.W.nsIn K mainGlobals x = some (some (.ref C))) (ga : PySem.W.findIn K (.ref C) "__getattribute__" = some (some (.builtin "BaseException.__getattribute__"))) (gg : PySem.W.findIn K (.ref C) "__getattr__" = some none)
    (e : PySem.W.subIn K (.ref C) (.type "BaseException") = some true) (hd : PySem.W.hasDictIn K C = true) (no : PySem.W.findIn K (.ref C) fld = some none) : XfIs K x fld := ⟨C, a, ⟨ga, gg, e, hd⟩, no⟩
structure ExmIs (K : PySem.W.Frag) (x y : Str) (b : Bool) : Prop where
  ex : ∃ C D : Addr, PySem.W.nsIn K mainGlobals x = some (some (.ref C)) ∧ PySem.W.nsIn K mainGlobals y = some (some (.ref D)) ∧ PySem.W.exmOne K (.ref C) (.ref D) = some b
theorem ExmIs.mk' {K : PySem.W.Frag} {x y : Str} {b : Bool} {C D : Addr} (a : PySem.W.nsIn K mainGlobals x = some (some (.ref C))) (c : PySem.W.nsIn K mainGlobals y = some (some (.ref D))) (h1 : PySem.W.subIn K (.ref D) (.type "BaseException") = some true) (h2 : PySem.W.isClsIn K D = true)
    (h3 : PySem.W.typeIn K (.ref D) = some (.type "type")) (h4 : PySem.W.subIn K (.ref C) (.ref D) = some b) : ExmIs K x y b := by
  refine ⟨C, D, a, c, ?_⟩
  have e1 : (PySem.W.subIn K (.ref D) (.type "BaseException") == some true) = true := by rw [h1] <;> rfl
  have e2 : ((PySem.W.clsIn K D).isSome && PySem.W.typeIn K (.ref D) == some (.type "type")) = true := by
    have h2' : (PySem.W.clsIn K D).isSome = true := h2
    rw [h2', h3] <;> rfl
  unfold PySem.W.exmOne
  rw [if_pos e1]
  show (if ((PySem.W.clsIn K D).isSome && PySem.W.typeIn K (.ref D) == some (.type "type")) = true then PySem.W.subIn K (.ref C) (.ref D) else none) = some b
  rw [if_pos e2]
  exact h4
theorem clsL_of {K : Kt} {mg : Str → Option Value} {h : Heap} {sg : Scope} {fld : Str} {l : List (Str × Nat × List Nat)} (X : K.fr.In h) (G : h.Ns mainGlobals mg) (hx : ∀ p ∈ l, XfIs K.fr p.1 fld) (hm : ∀ p ∈ l, ∀ p' ∈ l, ExmIs K.fr p.1 p'.1 (decide (p.2.1 = p'.2.1)))
    (hs : ∀ p ∈ l, sg.names.lookup p.1 = some .globalImplicit ∧ nmOk p.1 = true ∧ SOk p.2.2) (hi : ∀ p ∈ l, ∀ p' ∈ l, p.2.1 = p'.2.1 → p.1 = p'.1) : ClsL K mg sg fld (atK K.fr) l where
  mg := fun p hp => by
    obtain ⟨C, a, b, c⟩ := (hx p hp).ex
    obtain ⟨s1, s2, s3⟩ := hs p hp
    rw [atK_eq a]
    exact ⟨PySem.W.mg_of X G a, s1, nmOk_d s2, b, c, s3⟩
  exm := fun p hp p' hp' => by
    obtain ⟨C, D, a, b, c⟩ := (hm p hp p' hp').ex
    rw [atK_eq a, atK_eq b]
    exact c
  inj := hi
/-! ### the interpreter's def for one that hears a thunk -/
def chainH : List (Str × Nat × List Nat) → Sx
  | [] => .stuck
  | p :: r => .ife (.cmp .eq (.ix (.var 0) (.cst (.int 1))) (.cst (.int p.2.1))) (.ret (.lst false (.cons false (.cst (.str p.2.2)) (.cons false (.ix (.ix (.var 0) (.cst (.int 2))) (.cst (.int 0))) .nil)))) (chainH r)
def fnHeard (told : List Nat) (l : List (Str × Nat × List Nat)) : Fn := ⟨1, 1, .ife (.ix (.var 0) (.cst (.int 0))) (.ret (.lst false (.cons false (.cst (.str told)) (.cons false (.ix (.var 0) (.cst (.int 1))) .nil)))) (chainH l), false⟩
section
variable {G : Nat → Option PV} {cl : Nat → List PV → List Ob → R PV} {told : List Nat} {l : List (Str × Nat × List Nat)}
theorem allD_one {v : PV} (h : v.isD = true) : allD [v] = true := by simp [allD, h]
theorem heard_ok (v : PV) (h : List Ob) (hv : v.isD = true) : runFn G cl (fnHeard told l) [.tup [.bl true, v]] h = .ok (.lst [.str told, v]) h := by
  cases v <;> first | exact absurd hv Bool.false_ne_true | simp [runFn, fnHeard, startSl, exec, ev, evs, nth, test, truth, apIx, seqOf, atI, allD, PV.isD, mkL, line, fin0]
theorem chain_ok (c : Nat) (v : PV) (hv : v.isD = true) : ∀ l : List (Str × Nat × List Nat), exec G cl (chainH l) [some (.tup [.bl false, .int c, .tup [v]])] [] = (match findH l c with | some w => .ok (.rt (.lst [.str w, v])) [] | none => .no)
  | [] => by simp [chainH, exec, findH]
  | p :: r => by
    have ih := chain_ok c v hv r
    by_cases e : c = p.2.1
    · have e' : PV.eqv (.int (c : Int)) (.int (p.2.1 : Int)) = true := by simp [PV.eqv, e]
      cases v <;> first | exact absurd hv Bool.false_ne_true | simp [chainH, exec, findH, ev, evs, nth, test, truth, apIx, seqOf, atI, apCmp, eqV, deref, PV.dep, PV.eqv, allD, PV.isD, mkL, line, e]
    · have e' : ¬ ((c : Int) = (p.2.1 : Int)) := by omega
      have e2 : ((c : Int) == (p.2.1 : Int)) = false := beq_eq_false_iff_ne.mpr e'
      have t : test (ev G cl (.cmp .eq (.ix (.var 0) (.cst (.int 1))) (.cst (.int p.2.1))) [some (.tup [.bl false, .int c, .tup [v]])] []) = .ok false [] := by
        simp [ev, nth, test, truth, apIx, seqOf, atI, apCmp, eqV, deref, PV.dep, PV.eqv, e2]
      unfold chainH findH
      rw [if_neg e, exec, t]
      exact ih
theorem heard_ex (c : Nat) (v : PV) (h : List Ob) (hv : v.isD = true) : runFn G cl (fnHeard told l) [.tup [.bl false, .int c, .tup [v]]] h = (match findH l c with | some w => .ok (.lst [.str w, v]) h | none => .no) := by
  have e := chain_ok (G := G) (cl := cl) c v hv l
  have s : startSl [PV.tup [.bl false, .int c, .tup [v]]] ((fnHeard told l).slots - (fnHeard told l).pars) = [some (.tup [.bl false, .int c, .tup [v]])] := rfl
  have b : exec G cl (fnHeard told l).body [some (.tup [.bl false, .int c, .tup [v]])] [] = exec G cl (chainH l) [some (.tup [.bl false, .int c, .tup [v]])] [] := by
    simp [fnHeard, exec, ev, nth, test, truth, apIx, seqOf, atI]
  unfold runFn
  rw [show Nat.beq [PV.tup [.bl false, .int c, .tup [v]]].length (fnHeard told l).pars = true from rfl]
  simp only
  rw [show allD [PV.tup [.bl false, .int c, .tup [v]]] = true from rfl]
  simp only
  rw [s, b, e]
  cases findH l c <;> rfl
theorem chain_none (c : Nat) (fs : List PV) : ∀ l : List (Str × Nat × List Nat), findH l c = none → exec G cl (chainH l) [some (.tup [.bl false, .int c, .tup fs])] [] = .no
  | [], _ => by simp [chainH, exec]
  | p :: r, h => by
    unfold findH at h
    by_cases e : c = p.2.1
    · rw [if_pos e] at h; cases h
    · rw [if_neg e] at h
      have e' : ¬ ((c : Int) = (p.2.1 : Int)) := by omega
      have e2 : ((c : Int) == (p.2.1 : Int)) = false := beq_eq_false_iff_ne.mpr e'
      have t : test (ev G cl (.cmp .eq (.ix (.var 0) (.cst (.int 1))) (.cst (.int p.2.1))) [some (.tup [.bl false, .int c, .tup fs])] []) = .ok false [] := by
        simp [ev, nth, test, truth, apIx, seqOf, atI, apCmp, eqV, deref, PV.dep, PV.eqv, e2]
      unfold chainH
      rw [exec, t]
      exact chain_none c fs r h
theorem heard_none (c : Nat) (fs : List PV) (h : List Ob) (hn : findH l c = none) : okR (runFn G cl (fnHeard told l) [.tup [.bl false, .int c, .tup fs]] h) = .no := by
  have e := chain_none (G := G) (cl := cl) c fs l hn
  have s : startSl [PV.tup [.bl false, .int c, .tup fs]] ((fnHeard told l).slots - (fnHeard told l).pars) = [some (.tup [.bl false, .int c, .tup fs])] := rfl
  have b : exec G cl (fnHeard told l).body [some (.tup [.bl false, .int c, .tup fs])] [] = exec G cl (chainH l) [some (.tup [.bl false, .int c, .tup fs])] [] := by
    simp [fnHeard, exec, ev, nth, test, truth, apIx, seqOf, atI]
  unfold runFn
  rw [show Nat.beq [PV.tup [.bl false, .int c, .tup fs]].length (fnHeard told l).pars = true from rfl]
  simp only
  rw [show allD [PV.tup [.bl false, .int c, .tup fs]] = true from rfl]
  simp only
  rw [s, b, e]
  rfl
theorem chain_bad (c n : Nat) : ∀ l : List (Str × Nat × List Nat), exec G cl (chainH l) [some (.tup [.bl false, .int c, .tup [.loc n]])] [] = .no
  | [] => by simp [chainH, exec]
  | p :: r => by
    have ih := chain_bad c n r
    by_cases e : (c : Int) = (p.2.1 : Int)
    · simp [chainH, exec, ev, evs, nth, test, truth, apIx, seqOf, atI, apCmp, eqV, deref, PV.dep, PV.eqv, allD, PV.isD, e]
    · have e2 : ((c : Int) == (p.2.1 : Int)) = false := beq_eq_false_iff_ne.mpr e
      have t : test (ev G cl (.cmp .eq (.ix (.var 0) (.cst (.int 1))) (.cst (.int p.2.1))) [some (.tup [.bl false, .int c, .tup [.loc n]])] []) = .ok false [] := by
        simp [ev, nth, test, truth, apIx, seqOf, atI, apCmp, eqV, deref, PV.dep, PV.eqv, e2]
      unfold chainH
      rw [exec, t]
      exact ih
theorem heard_bad (c : Nat) (v : PV) (h : List Ob) (hv : v.isD = false) : okR (runFn G cl (fnHeard told l) [.tup [.bl false, .int c, .tup [v]]] h) = .no := by
  cases v <;> first | exact absurd hv.symm Bool.false_ne_true | skip
  rename_i n
  have e := chain_bad (G := G) (cl := cl) c n l
  have s : startSl [PV.tup [.bl false, .int c, .tup [.loc n]]] ((fnHeard told l).slots - (fnHeard told l).pars) = [some (.tup [.bl false, .int c, .tup [.loc n]])] := rfl
  have b : exec G cl (fnHeard told l).body [some (.tup [.bl false, .int c, .tup [.loc n]])] [] = exec G cl (chainH l) [some (.tup [.bl false, .int c, .tup [.loc n]])] [] := by
    simp [fnHeard, exec, ev, nth, test, truth, apIx, seqOf, atI]
  unfold runFn
  rw [show Nat.beq [PV.tup [.bl false, .int c, .tup [.loc n]]].length (fnHeard told l).pars = true from rfl]
  simp only
  rw [show allD [PV.tup [.bl false, .int c, .tup [.loc n]]] = true from rfl]
  simp only
  rw [s, b, e]
  rfl
end
end Mi

/-! Mi22: from the program's top to the law's call. -/
namespace Mi
open PySem L2 PySem.Spec PyProof.Rows
/-- all these names are the thing at f -/
inductive NsAll (K : PySem.W.Frag) (f : Addr) : List Str → Prop
  | nil : NsAll K f []
  | cons {x : Str} {r : List Str} : PySem.W.nsIn K mainGlobals x = some (some (.ref f)) → NsAll K f r → NsAll K f (x :: r)
theorem NsAll.at_ {K : PySem.W.Frag} {f : Addr} : ∀ {l : List Str}, NsAll K f l → ∀ x ∈ l, PySem.W.nsIn K mainGlobals x = some (some (.ref f))
  | _, .cons h t, x, hx => by
    rcases List.mem_cons.mp hx with e | hx
    · rw [e]; exact h
    · exact t.at_ x hx
/-- the def st, named x, stands in K under the names xs; ld: it may make lambdas (cs: code objects and their tables; T: the tables and the lambdas' names) -/
structure DefIs (K : PySem.W.Frag) (T : List (Addr × Str)) (cs : List (Addr × Addr)) (st : Stmt) (x : Str) (xs : List Str) (ld : Bool) : Prop where
  ex : ∃ (f : Addr) (oc : Value) (od : Option Addr) (kV doc pm : Value) (an : Option Addr) (cdv ct : Value) (osl : Array (Option Value)),
    (∀ y ∈ xs, PySem.W.nsIn K mainGlobals y = some (some (.ref f))) ∧ K.lookup f = some ⟨oc, od, .func (PySem.W.fnOf x x (defArgs st) (defBody st) (defScope st) .none kV doc pm an cdv ct), osl⟩ ∧ PySem.W.codeIn K cdv x = true ∧ PySem.W.keepIn K (.ref f) = true ∧
    (ld = true → ∃ c P : Addr, cdv = .ref c ∧ (c, P) ∈ cs ∧ (P, lamQ x) ∈ T ∧ ∀ p ∈ T, p.1 = P → p.2 = lamQ x)
theorem DefIs.mk' {K : PySem.W.Frag} {T : List (Addr × Str)} {cs : List (Addr × Addr)} {st : Stmt} {x : Str} {f : Addr} {oc : Value} {od : Option Addr} {kV doc pm : Value} {an : Option Addr} {cdv ct : Value} {osl : Array (Option Value)} {xs : List Str} (a : NsAll K f xs)
    (l : K.lookup f = some ⟨oc, od, .func (PySem.W.fnOf x x (defArgs st) (defBody st) (defScope st) .none kV doc pm an cdv ct), osl⟩) (c : PySem.W.codeIn K cdv x = true) (k : PySem.W.keepIn K (.ref f) = true) : DefIs K T cs st x xs false :=
  ⟨f, oc, od, kV, doc, pm, an, cdv, ct, osl, a.at_, l, c, k, fun h => nomatch h⟩
theorem DefIs.mkL {K : PySem.W.Frag} {T : List (Addr × Str)} {cs : List (Addr × Addr)} {st : Stmt} {x : Str} {f : Addr} {oc : Value} {od : Option Addr} {kV doc pm : Value} {an : Option Addr} {c P : Addr} {ct : Value} {osl : Array (Option Value)} {xs : List Str} (a : NsAll K f xs)
    (l : K.lookup f = some ⟨oc, od, .func (PySem.W.fnOf x x (defArgs st) (defBody st) (defScope st) .none kV doc pm an (.ref c) ct), osl⟩) (cc : PySem.W.codeIn K (.ref c) x = true) (k : PySem.W.keepIn K (.ref f) = true) (h1 : (c, P) ∈ cs) (h2 : (P, lamQ x) ∈ T) (h3 : ∀ p ∈ T, p.1 = P → p.2 = lamQ x) : DefIs K T cs st x xs true :=
  ⟨f, oc, od, kV, doc, pm, an, .ref c, ct, osl, a.at_, l, cc, k, fun _ => ⟨c, P, rfl, h1, h2, h3⟩⟩
/-- what the text alone says of a def -/
structure DefTx (S : SG) (m : Nat) (Tb : List Fn) (f : Nat) (x : Str) (ps : List Str) (kw : List (Nat × List Str × List Nat)) (st : Stmt) (ld : Bool) : Prop where
  ex : ∃ (fn : Fn) (N : List Str), fnAt Tb f = some fn ∧ FnScope N ps (defScope st) ∧ fn.slots = N.length ∧ fn.pars = ps.length ∧ chkB S m ⟨defScope st, N, none, ld⟩ (defBody st) fn.body = true
  bind : ∀ (kV doc pm : Value) (an : Option Addr) (cdv ct : Value) (us : List Value), us.length = ps.length → bindArgs (PySem.W.fnOf x x (defArgs st) (defBody st) (defScope st) .none kV doc pm an cdv ct) ⟨us, []⟩ = pure (ps.zip us)
  kws : ∀ (kV doc pm : Value) (an : Option Addr) (cdv ct : Value), ∀ e ∈ kw, KwOk (PySem.W.fnOf x x (defArgs st) (defBody st) (defScope st) .none kV doc pm an cdv ct) ps e.1 e.2.1 e.2.2
section
variable {K : Kt} {cs : List (Addr × Addr)} {mg : Str → Option Value} {h : Heap} {S : SG} {m : Nat} {Tb : List Fn}
theorem DefTx.ok {f : Nat} {x : Str} {xs ps : List Str} {kw : List (Nat × List Str × List Nat)} {st : Stmt} {ld : Bool} (t : DefTx S m Tb f x ps kw st ld) (X : K.fr.In h) (G : h.Ns mainGlobals mg) (d : DefIs K.fr K.T cs st x xs ld) : ∃ a fd, DefOk S m Tb K cs mg f xs ps kw a fd := by
  obtain ⟨a, oc, od, kV, doc, pm, an, cdv, ct, osl, d1, d2, d3, d4, d5⟩ := d.ex
  obtain ⟨fn, N, t1, t2, t3, t4, t5⟩ := t.ex
  exact ⟨a, _, fn, N, st, x, x, ld, oc, od, kV, doc, pm, an, cdv, ct, osl, t1, rfl, d2, d3, d4, t2, fun y hy => PySem.W.mg_of X G (d1 y hy), fun us hl => t.bind kV doc pm an cdv ct us hl, t.kws kV doc pm an cdv ct, t3, t4, t5, d5⟩
end
/-- the defs of a text, one behind another -/
inductive Defs (P : Nat → List Str → List Str → List (Nat × List Str × List Nat) → Prop) : Nat → List (List Str × List Str × List (Nat × List Str × List Nat)) → Prop
  | nil {i : Nat} : Defs P i []
  | cons {i : Nat} {x ps : List Str} {kw : List (Nat × List Str × List Nat)} {r : List (List Str × List Str × List (Nat × List Str × List Nat))} : P i x ps kw → Defs P (i + 1) r → Defs P i ((x, ps, kw) :: r)
theorem Defs.at_ {P : Nat → List Str → List Str → List (Nat × List Str × List Nat) → Prop} : ∀ {i : Nat} {l : List (List Str × List Str × List (Nat × List Str × List Nat))}, Defs P i l → ∀ {j x ps kw}, l[j]? = some (x, ps, kw) → P (i + j) x ps kw
  | _, _, .nil, j, _, _, _, e => by simp at e
  | i, _, .cons h t, 0, _, _, _, e => by simp at e; obtain ⟨rfl, rfl, rfl⟩ := e; exact h
  | i, _, .cons h t, j + 1, x, ps, kw, e => by
    have := t.at_ (j := j) (x := x) (ps := ps) (kw := kw) (by simpa using e)
    have e2 : i + 1 + j = i + (j + 1) := by omega
    rwa [e2] at this
/-- the text of a def that hears a thunk -/
structure HdTx (st : Stmt) (x fld : Str) (told : List Nat) (l : List (Str × Nat × List Nat)) : Prop where
  ex : ∃ (a n tw : Str) (j0 : Nat) (r1 r2 p1 p2 p3 p8 : Pos) (hd : ExceptHandler) (hds : List ExceptHandler), defBody st = [.Try [.Return (some (.List [.Constant (.str tw) j0 r1, .Call (.Name a p1) [] [] p2] r2)) p3] (hd :: hds) [] [] p8] ∧ tw = toStr told ∧ HdL n fld (hd :: hds) l ∧
    FnScope [a, n] [a] (defScope st) ∧ Vis (defScope st) a ∧ nmOk a = true ∧ nmOk n = true ∧ (defScope st).names.lookup n = some .local ∧ (∀ p ∈ l, (defScope st).names.lookup p.1 = some .globalImplicit ∧ nmOk p.1 = true ∧ SOk p.2.2) ∧
    ∀ (kV doc pm : Value) (an : Option Addr) (cdv ct : Value) (us : List Value), us.length = [a].length → bindArgs (PySem.W.fnOf x x (defArgs st) (defBody st) (defScope st) .none kV doc pm an cdv ct) ⟨us, []⟩ = pure ([a].zip us)
theorem thk_of {K : Kt} {mg : Str → Option Value} {h : Heap} {excs : List (Str × Str)} {T' : List (Addr × Str)} {cs : List (Addr × Addr)} {st : Stmt} {x fld : Str} {xs : List Str} {told : List Nat} {l : List (Str × Nat × List Nat)} {Pf : PV → List Ob → R PV} (X : K.fr.In h) (G : h.Ns mainGlobals mg) (d : DefIs K.fr T' cs st x xs false) (hm : x ∈ xs) (t : HdTx st x fld told l)
    (hx : ∀ p ∈ l, XfIs K.fr p.1 fld) (he : ∀ p ∈ l, ∀ p' ∈ l, ExmIs K.fr p.1 p'.1 (decide (p.2.1 = p'.2.1))) (hi : ∀ p ∈ l, ∀ p' ∈ l, p.2.1 = p'.2.1 → p.1 = p'.1) (ht : SOk told) (hl : ∀ p ∈ l, excs[p.2.1]? = some (p.1, fld))
    (hP1 : ∀ v h, v.isD = true → okR (Pf (.tup [.bl true, v]) h) = .no ∨ okR (Pf (.tup [.bl true, v]) h) = .ok (.lst [.str told, v]) h)
    (hP2 : ∀ (c : Nat) v h, okR (Pf (.tup [.bl false, .int c, .tup [v]]) h) = .no ∨ ∃ wd, findH l c = some wd ∧ okR (Pf (.tup [.bl false, .int c, .tup [v]]) h) = .ok (.lst [.str wd, v]) h)
    (hP3 : ∀ (c : Nat) fs h, (∀ p ∈ l, c ≠ p.2.1) → okR (Pf (.tup [.bl false, .int c, .tup fs]) h) = .no) : Thk K mg (ERx excs K) x Pf := by
  obtain ⟨f, oc, od, kV, doc, pm, an, cdv, ct, osl, d1, d2, d3, d4, _⟩ := d.ex
  obtain ⟨a, n, tw, j0, r1, r2, p1, p2, p3, p8, hd, hds, t1, t2, t3, t4, t5, t6, t7, t8, t9, t10⟩ := t.ex
  have cls := clsL_of (sg := defScope st) X G hx he t9 hi
  refine ⟨f, defArgs st, defBody st, defScope st, .none, kV, doc, pm, cdv, ct, oc, an, od, osl, [a, n], a, PySem.W.mg_of X G (d1 x hm), d4, d2, d3, Binds.all fun us hu => t10 kV doc pm an cdv ct us hu, t4, rfl, t5, nmOk_d t6, nmOk_c t6, fun Y q hK hmg => ?_⟩
  rw [t1]
  refine gives_heard hK hmg t2 ht t3 cls t8 t4.nd (nmOk_d t7) (nmOk_c t7) (fun c fs w cls d er p hp ec => ?_) hP1 hP2 hP3
  obtain ⟨y, g, v, vv, dd, e1, e2, e3, e4, e5, e6, e7, e8⟩ := er
  rw [ec, hl p hp] at e1
  cases e1
  exact ⟨v, vv, dd, e2, e3, e4, e5, e6, e8⟩
theorem okR_no {r : R PV} (h : r = .no) : okR r = .no := by rw [h]; rfl
/-- .. where the interpreter's def is fnHeard -/
theorem thk_fn {K : Kt} {mg : Str → Option Value} {h : Heap} {excs : List (Str × Str)} {T' : List (Addr × Str)} {cs : List (Addr × Addr)} {st : Stmt} {x fld : Str} {xs : List Str} {told : List Nat} {l : List (Str × Nat × List Nat)} {cl : Nat → Nat → List PV → List Ob → R PV} {Tb : List Fn} {G0 : Nat → Option PV} {k f : Nat} (X : K.fr.In h) (G : h.Ns mainGlobals mg) (d : DefIs K.fr T' cs st x xs false) (hm : x ∈ xs) (t : HdTx st x fld told l)
    (hx : ∀ p ∈ l, XfIs K.fr p.1 fld) (he : ∀ p ∈ l, ∀ p' ∈ l, ExmIs K.fr p.1 p'.1 (decide (p.2.1 = p'.2.1))) (hi : ∀ p ∈ l, ∀ p' ∈ l, p.2.1 = p'.2.1 → p.1 = p'.1) (ht : SOk told) (hl : ∀ p ∈ l, excs[p.2.1]? = some (p.1, fld))
    (h0 : ∀ f args h, cl 0 f args h = .no) (hs : ∀ k f fn args h, fnAt Tb f = some fn → cl (k + 1) f args h = .no ∨ cl (k + 1) f args h = runFn G0 (cl k) fn args h) (hf : fnAt Tb f = some (fnHeard told l)) :
    Thk K mg (ERx excs K) x fun v h => cl k f [v] h := by
  have key : ∀ v hh, cl k f [v] hh = .no ∨ ∃ j, cl k f [v] hh = runFn G0 (cl j) (fnHeard told l) [v] hh := fun v hh => by
    cases k with
    | zero => exact .inl (h0 _ _ _)
    | succ j => exact (hs j f _ [v] hh hf).imp id fun e => ⟨j, e⟩
  have fh : ∀ (c : Nat) (m : List (Str × Nat × List Nat)), (∀ p ∈ m, c ≠ p.2.1) → findH m c = none := fun c m => by
    induction m with
    | nil => intro _; rfl
    | cons p r ih =>
      intro hh
      unfold findH
      rw [if_neg (hh p List.mem_cons_self)]
      exact ih fun q hq => hh q (List.mem_cons_of_mem _ hq)
  refine thk_of X G d hm t hx he hi ht hl (fun v hh hv => ?_) (fun c v hh => ?_) fun c fs hh hn => ?_
  · rcases key (.tup [.bl true, v]) hh with e | ⟨j, e⟩
    · exact .inl (okR_no e)
    · refine .inr ?_
      rw [e, heard_ok v hh hv]; rfl
  · rcases key (.tup [.bl false, .int c, .tup [v]]) hh with e | ⟨j, e⟩
    · exact .inl (okR_no e)
    · cases hv : v.isD with
      | true =>
        rw [e, heard_ex c v hh hv]
        cases q : findH l c with
        | none => exact .inl rfl
        | some wd => exact .inr ⟨wd, rfl, rfl⟩
      | false =>
        refine .inl ?_
        rw [e]
        exact heard_bad c v hh hv
  · rcases key (.tup [.bl false, .int c, .tup fs]) hh with e | ⟨j, e⟩
    · exact okR_no e
    · rw [e]
      exact heard_none c fs hh (fh c l hn)
/-- all defs, one def, by the written part's word -/
abbrev DefsOf {K : PySem.W.Frag} {h : Heap} (_ : K.In h) (S : SG) (m : Nat) (Tb : List Fn) (T : List (Addr × Str)) (cs : List (Addr × Addr)) : Prop := Defs (fun f xs ps kw => ∃ st x ld, DefTx S m Tb f x ps kw st ld ∧ DefIs K T cs st x xs ld) 0 S.fns
abbrev DefOf {K : PySem.W.Frag} {h : Heap} (_ : K.In h) (T : List (Addr × Str)) (cs : List (Addr × Addr)) (st : Stmt) (x : Str) (xs : List Str) : Prop := DefIs K T cs st x xs false
abbrev ExOf {K : PySem.W.Frag} {h : Heap} (_ : K.In h) (x fld : Str) (st : Stmt) : Prop := ExIs K x fld st
abbrev XfOf {K : PySem.W.Frag} {h : Heap} (_ : K.In h) (x fld : Str) : Prop := XfIs K x fld
abbrev ExmOf {K : PySem.W.Frag} {h : Heap} (_ : K.In h) (x y : Str) (b : Bool) : Prop := ExmIs K x y b
/-- shows a def's code object, and what it holds -/
theorem peek {K : PySem.W.Frag} {h : Heap} (X : K.In h) {x : Str} {f c : Addr} {st : Stmt} {oc : Value} {od : Option Addr} {kV doc pm : Value} {an : Option Addr} {ct : Value} {osl : Array (Option Value)} {o2 : Value} {d2 : Option Addr} {vs : Array Value} {sl2 : Array (Option Value)} (a : PySem.W.nsIn K mainGlobals x = some (some (.ref f)))
    (l : K.lookup f = some ⟨oc, od, .func (PySem.W.fnOf x x (defArgs st) (defBody st) (defScope st) .none kV doc pm an (.ref c) ct), osl⟩) (b : K.lookup c = some ⟨o2, d2, .fields vs, sl2⟩) : (c, vs) = (c, vs) := rfl
/-- the law's call answers True -/
theorem sp_start {K : Kt} {ER : ERt} {cl : List PV → List Ob → R PV} {H : Hp} {a : Addr} {ns : List Int} {E : XK} (hS : SqL K.fr H a (ns.map V.int)) (hT : LamX.Tabs K.T H) (hc : ∀ s : PV, (s = .frz (ns.map .int) ∨ s = .lst (ns.map .int)) → ∃ h', cl [s] [] = .ok (.bl true) h') :
    spF K ER cl [.ref a] H (fun v _ => v = .bl true) E := by
  have rr : ∀ w : Wd, ∀ l : List Int, Rps K w (l.map .int) (l.map V.int) := fun w l => by
    induction l with
    | nil => exact .nil
    | cons i r ih => exact .cons (.int i) ih
  have no : ∀ b, ¬ Own (⟨fun _ => 0, [], H, fun _ => False⟩ : Wd) b := fun b => not_own_nil
  have ok : Ok K ⟨fun _ => 0, [], H, fun _ => False⟩ := ⟨fun k xs e => (nomatch e), fun j k xs ys e => (nomatch e), fun _ z => False.elim z, fun _ z => False.elim z, hT⟩
  have key : ∃ s : PV, (s = .frz (ns.map .int) ∨ s = .lst (ns.map .int)) ∧ Rp K ⟨fun _ => 0, [], H, fun _ => False⟩ s (.ref a) := by
    rcases hS with (h | ⟨o, h⟩) | h
    · exact ⟨_, .inr rfl, .lst h ⟨no a, fun z => z⟩ (rr _ ns)⟩
    · exact ⟨_, .inl rfl, .frz (.inl ⟨⟨o, h⟩, no a, fun z => z⟩) (rr _ ns)⟩
    · exact ⟨_, .inl rfl, .frz (.inr h) (rr _ ns)⟩
  obtain ⟨s, hs, rs⟩ := key
  obtain ⟨h', hc⟩ := hc s hs
  refine ⟨⟨fun _ => 0, [], H, fun _ => False⟩, [s], rfl, ok, .cons (.of rs) .nil, ?_⟩
  show PoE _ _ _ (cl [s] []) _
  rw [hc]
  intro w' b l e ok r
  exact r.bl_inv
/-- built-in names that the top hides nowhere -/
inductive BiAll (K : PySem.W.Frag) : List Str → Prop
  | nil : BiAll K []
  | cons {x : Str} {r : List Str} : PySem.W.nsIn K mainGlobals x = some none → BiAll K r → BiAll K (x :: r)
theorem BiAll.at_ {K : PySem.W.Frag} : ∀ {l : List Str}, BiAll K l → ∀ x, l.contains x = true → PySem.W.nsIn K mainGlobals x = some none
  | _, .nil, x, h => by simp at h
  | _, .cons (x := y) (r := r) h t, x, hx => by
    rcases (by simpa using hx : x = y ∨ x ∈ r) with e | e
    · rw [e]; exact h
    · exact t.at_ x (by simpa using e)
def GlIs (K : PySem.W.Frag) (T : List (Addr × Str)) (G : Nat → Option PV) (i : Nat) (y : Str) : Prop := ∃ (u : V) (val : Value), PySem.W.nsIn K mainGlobals y = some (some val) ∧ RelV u val ∧ ∀ pv, G i = some pv → ∀ w, Rp ⟨K, T⟩ w pv u
theorem GlIs.int {K : PySem.W.Frag} {T : List (Addr × Str)} {G : Nat → Option PV} {i : Nat} {y : Str} {n : Int} {t : Tok} (g : G i = some (.int n)) (h : PySem.W.nsIn K mainGlobals y = some (some (.int n t))) : GlIs K T G i y :=
  ⟨.int n, .int n t, h, ⟨t, rfl⟩, fun pv e w => by rw [g] at e; cases e; exact .int n⟩
theorem GlIs.str {K : PySem.W.Frag} {T : List (Addr × Str)} {G : Nat → Option PV} {i : Nat} {y : Str} {s : List Nat} {z : Str} {t : Tok} (g : G i = some (.str s)) (e : z = toStr s) (o : SOk s) (h : PySem.W.nsIn K mainGlobals y = some (some (.str z t))) : GlIs K T G i y :=
  ⟨.str z, .str z t, h, ⟨t, rfl⟩, fun pv e' w => by rw [g] at e'; cases e'; rw [e]; exact .str s o⟩
/-- no value is told -/
theorem GlIs.none {K : PySem.W.Frag} {T : List (Addr × Str)} {G : Nat → Option PV} {i : Nat} {y : Str} {b : Addr} (g : G i = .none) (h : PySem.W.nsIn K mainGlobals y = some (some (.ref b))) : GlIs K T G i y :=
  ⟨.ref b, .ref b, h, rfl, fun pv e w => by rw [g] at e; cases e⟩
theorem rp_strs {K : Kt} {w : Wd} : ∀ {ss : List (List Nat)}, (∀ s ∈ ss, SOk s) → Rps K w (ss.map .str) ((ss.map toStr).map V.str)
  | [], _ => .nil
  | s :: ss, h => .cons (.str s (h s List.mem_cons_self)) (rp_strs fun t ht => h t (List.mem_cons_of_mem _ ht))
/-- a tuple of texts -/
theorem GlIs.tupS {K : PySem.W.Frag} {T : List (Addr × Str)} {G : Nat → Option PV} {i : Nat} {y : Str} {ss : List (List Nat)} {a : Addr} {od : Option Addr} {its : Array Value} {n : Nat} {osl : Array (Option Value)} (g : G i = some (.tup (ss.map .str))) (o : ∀ s ∈ ss, SOk s) (h : PySem.W.nsIn K mainGlobals y = some (some (.ref a)))
    (l : K.lookup a = some ⟨.type "tuple", od, .seq its n, osl⟩) (hv : Vals ((ss.map toStr).map V.str) its.toList) (hz : its.size ≤ sizeLine) : GlIs K T G i y :=
  ⟨.ref a, .ref a, h, rfl, fun pv e w => by rw [g] at e; cases e; exact .tup (.inr ⟨_, its, n, l, rfl, rfl, hz, hv⟩) (rp_strs o)⟩
def valsB : List (List Nat) → List Value → Bool
  | [], [] => true
  | s :: ss, .str z _ :: us => (z == toStr s) && valsB ss us
  | _, _ => false
theorem vals_by : ∀ {ss : List (List Nat)} {us : List Value}, valsB ss us = true → Vals ((ss.map toStr).map V.str) us
  | [], [], _ => .nil
  | s :: ss, u :: us, h => by
    cases u <;> first | (simp [valsB] at h; done) | skip
    rename_i z t
    simp only [valsB, Bool.and_eq_true] at h
    have e := eq_of_beq h.1
    subst e
    exact .cons ⟨t, rfl⟩ (vals_by h.2)
  | [], _ :: _, h => by simp [valsB] at h
  | _ :: _, [], h => by simp [valsB] at h
theorem soks_by {ss : List (List Nat)} (h : (ss.all fun s => s.all (fun c => decide (c < 1114112)) && decide (s.length ≤ line)) = true) : ∀ s ∈ ss, SOk s := fun s hs => by
  have := List.all_eq_true.mp h s hs
  simp only [Bool.and_eq_true, List.all_eq_true, decide_eq_true_eq] at this
  exact ⟨this.1, this.2⟩
inductive GlAll (K : PySem.W.Frag) (T : List (Addr × Str)) (G : Nat → Option PV) : Nat → List Str → Prop
  | nil {i : Nat} : GlAll K T G i []
  | cons {i : Nat} {x : Str} {r : List Str} : GlIs K T G i x → GlAll K T G (i + 1) r → GlAll K T G i (x :: r)
theorem GlAll.at_ {K : PySem.W.Frag} {T : List (Addr × Str)} {G : Nat → Option PV} : ∀ {i : Nat} {l : List Str}, GlAll K T G i l → ∀ {j y}, l[j]? = some y → GlIs K T G (i + j) y
  | _, _, .nil, j, _, e => by simp at e
  | i, _, .cons h t, 0, _, e => by simp at e; subst e; exact h
  | i, _, .cons h t, j + 1, y, e => by
    have := t.at_ (j := j) (y := y) (by simpa using e)
    have e2 : i + 1 + j = i + (j + 1) := by omega
    rwa [e2] at this
abbrev GlOf {K : PySem.W.Frag} {h : Heap} (_ : K.In h) (T : List (Addr × Str)) (G : Nat → Option PV) (l : List Str) : Prop := GlAll K T G 0 l
abbrev BiOf {K : PySem.W.Frag} {h : Heap} (_ : K.In h) (l : List Str) : Prop := BiAll K l
abbrev NoOf {K : PySem.W.Frag} {h : Heap} (_ : K.In h) (a : Addr) : Prop := K.lookup a = none
/-- all that is read off the written part -/
structure Facts (S : SG) (m : Nat) (Tb : List Fn) (G : Nat → Option PV) (cl : Nat → Nat → List PV → List Ob → R PV) (K : Kt) (cs : List (Addr × Addr)) (mg : Str → Option Value) (h : Heap) : Prop where
  defs : Defs (fun f xs ps kw => ∃ st x ld, DefTx S m Tb f x ps kw st ld ∧ DefIs K.fr K.T cs st x xs ld) 0 S.fns
  gls : GlAll K.fr K.T G 0 S.glbs
  bis : BiAll K.fr S.bis
  exc : ∀ (c : Nat) (x fld : Str), S.excs[c]? = some (x, fld) → ExC K mg (ERx S.excs K) c x fld
  thk : ∀ (k f : Nat) (x : Str), (f, x) ∈ S.lams → Thk K mg (ERx S.excs K) x fun v h => cl k f [v] h
  tab : ∀ p ∈ cs, h.get? p.2 = some { cls := .none, data := .fields #[] } ∧ K.fr.lookup p.2 = none ∧ PySem.W.CodeHd h p.1 p.2
theorem law_fn {l : PySem.W.OpenLaw} {w : World} {K : Kt} {cs : List (Addr × Addr)} {h : Heap} {mg : Str → Option Value} {fa : Addr} (X : K.fr.In h) (G0 : h.Ns mainGlobals mg) (hfa : mg "law" = some (.ref fa)) {S : SG} {m : Nat} {Tb : List Fn} {G : Nat → Option PV}
    {cl : Nat → Nat → List PV → List Ob → R PV} (h0 : ∀ f args h, cl 0 f args h = .no) (hs : ∀ k f fn args h, fnAt Tb f = some fn → cl (k + 1) f args h = .no ∨ cl (k + 1) f args h = runFn G (cl k) fn args h)
    (F : Facts S m Tb G cl K cs mg h) {nl : Nat} {kwl : List (Nat × List Str × List Nat)} (hl : S.fns[nl]? = some ([("law" : Str)], [("script" : Str)], kwl)) (k : Nat) :
    ∃ fd : FuncData, (∀ (s : Shared) (v : Value), BindsTo s fd ⟨[v], []⟩ [("script", v)]) ∧ ∀ base : Heap, K.fr.In base → base.Ns mainGlobals mg → (∀ p ∈ cs, LamX.TabB base mg p.1 p.2) → FnOk l.prog w K.fr mg base (L2.CX l.prog w) (3 * k) fa fd ["script"] (spF K (ERx S.excs K) (cl k nl)) := by
  have hd : ∀ (f : Nat) (xs ps : List Str) (kw : List (Nat × List Str × List Nat)), S.fns[f]? = some (xs, ps, kw) → ∃ a fd, DefOk S m Tb K cs mg f xs ps kw a fd := fun f xs ps kw e => by
    obtain ⟨st, x, ld, t, d⟩ := F.defs.at_ e
    rw [Nat.zero_add] at t
    exact t.ok X G0 d
  have hg' : ∀ (i : Nat) (y : Str), S.glbs[i]? = some y → ∃ (u : V) (val : Value), mg y = some val ∧ RelV u val ∧ ∀ pv, G i = some pv → ∀ w, Rp K w pv u := fun i y e => by
    have g := F.gls.at_ e
    rw [Nat.zero_add] at g
    obtain ⟨u, val, h1, h2, h3⟩ := g
    exact ⟨u, val, PySem.W.mg_of X G0 h1, h2, h3⟩
  obtain ⟨a, fd, hdo⟩ := hd nl _ _ _ hl
  have hdo' := hdo
  obtain ⟨fn, N, st, x', qual, ld, oc, od, kV, doc, pm, an, cdv, ct, osl, d1, d2, d3, d3b, d3c, d3d, d4, d5, d6⟩ := hdo'
  have d4 := d4 _ List.mem_cons_self
  rw [hfa] at d4
  cases d4
  refine ⟨fd, fun s v => ?_, fun base _ _ hB => all_fns (ER := ERx S.excs K) ERx_ok h0 hs hd hg' (fun x hx => PySem.W.mg_none_of X G0 (F.bis.at_ x hx)) F.exc F.thk hB k nl _ _ _ hl fa fd hdo⟩
  exact .of_eq (d5 [v] rfl)
theorem walk_fin {l : PySem.W.OpenLaw} {q : Program} {loose : List Str} {XP : (Str → Option Value) → Heap → Prop} {YP : World → Heap → Prop} {d : DefRec} {K : Params → PySem.W.Frag} (hn : l.most = some 63) (hdf : d.params.defaults = []) (hdn : d.name = ("law" : Str)) (hY : ∀ (w : World) (h : Heap), YP w h → (K w.params).In h)
    {S : SG} {m : Nat} {Tb : List Fn} {G : Nat → Option PV} {cl : Nat → Nat → List PV → List Ob → R PV} (T : List (Addr × Str)) (cs : List (Addr × Addr)) (hTc : ∀ t ∈ T, ∃ c, (c, t.1) ∈ cs) (h0 : ∀ f args h, cl 0 f args h = .no) (hs : ∀ k f fn args h, fnAt Tb f = some fn → cl (k + 1) f args h = .no ∨ cl (k + 1) f args h = runFn G (cl k) fn args h)
    {nl k : Nat} {kwl : List (Nat × List Str × List Nat)} (hl : S.fns[nl]? = some ([("law" : Str)], [("script" : Str)], kwl)) (hr : Room (3 * k) callerA) (hc : ∀ ns : List Int, ns.length ≤ 63 → ∀ s : PV, (s = .frz (ns.map .int) ∨ s = .lst (ns.map .int)) → ∃ h', cl k nl [s] [] = .ok (.bl true) h')
    (F : ∀ (w : World) (h : Heap) (mg : Str → Option Value), YP w h → (K w.params).In h → h.Ns mainGlobals mg → Facts S m Tb G cl ⟨K w.params, T⟩ cs mg h) :
    PySem.W.WalkO q loose XP YP l.row.toRowW d [] (fun f vs => PySem.call f vs) := by
  refine LamX.walk_ofTs (n := 63) (k := 3 * k) (x := "script") (K := K) (CX := fun w => L2.CX l.prog w) hn (by decide) hdf hr hY (fun w mg fa h Y KX GX hm => ?_) fun w H s e s' z => ?_
  · have f := F w h mg Y KX GX
    rw [hdn] at hm
    obtain ⟨fd, hb, hF⟩ := law_fn (l := l) (w := w) (K := ⟨K w.params, T⟩) (cs := cs) KX GX hm h0 hs f hl k
    refine ⟨fd, cs, spF ⟨K w.params, T⟩ (ERx S.excs ⟨K w.params, T⟩) (cl k nl), fun p hp => (f.tab p hp).1, fun p hp => (f.tab p hp).2.1, fun p hp => (f.tab p hp).2.2, hb, fun H a ns hle _ hT hS => ?_, hF⟩
    refine sp_start hS (fun t ht => ?_) (hc ns hle)
    obtain ⟨c, hcm⟩ := hTc t ht
    exact LamX.TabS.nil (hT (c, t.1) hcm)
  · obtain ⟨_, _, _, _, _, _, _, _, _, _, _, _, z⟩ := z
    exact z
theorem call_step {G : Nat → Option PV} {Tb : List Fn} (k f : Nat) (fn : Fn) (args : List PV) (h : List Ob) (e : fnAt Tb f = some fn) : call G Tb (k + 1) f args h = .no ∨ call G Tb (k + 1) f args h = runFn G (call G Tb k) fn args h := .inr (by show (match fnAt Tb f with | some fn => _ | none => _) = _; rw [e])
end Mi

/-! Mi23: what is known of calls may stand for the calls: an oracle below the calls gives no other answer. -/
namespace Mi
/-- the same, or nothing told -/
def Lq {α : Type} (x y : R α) : Prop := x = .no ∨ y = x
theorem Lq.rfl {α : Type} {x : R α} : Lq x x := .inr (Eq.refl _)
theorem Lq.no {α : Type} {y : R α} : Lq .no y := .inl (Eq.refl _)
theorem Lq.trans {α : Type} {x y z : R α} (a : Lq x y) (b : Lq y z) : Lq x z := by
  rcases a with rfl | rfl
  · exact .no
  · exact b
theorem Lq.ok {α : Type} {x y : R α} {v : α} {h : List Ob} (a : Lq x y) (e : x = .ok v h) : y = .ok v h := by
  rcases a with rfl | rfl
  · cases e
  · exact e
theorem Lq.ex {α : Type} {x y : R α} {c : Nat} {fs : List PV} {h : List Ob} (a : Lq x y) (e : x = .ex c fs h) : y = .ex c fs h := by
  rcases a with rfl | rfl
  · cases e
  · exact e
def negR (x : R PV) : R PV := match x with
  | .ok (.int i) h1 => .ok (.int (-i)) h1
  | .ex c fs h1 => .ex c fs h1
  | _ => .no
def meR (k : Me) (x : R PV) (ys : List Ob → R (List PV)) : R PV := match x with
  | .ok x h1 => match meTy k x h1 with
    | true => match ys h1 with
      | .ok vs h2 => apMe k x vs h2
      | .ex c fs h2 => .ex c fs h2
      | .no => .no
    | false => .no
  | .ex c fs h1 => .ex c fs h1
  | .no => .no
def compR (m : Bool) (ri : R (List PV)) (k : List PV → List Ob → R (List PV)) : R PV := match ri with
  | .ok xs h1 => lcR m (k xs h1)
  | .ex c fs h1 => .ex c fs h1
  | .no => .no
def pconsR (r : PV → Sl → List Ob → R Sl) (rr : List PV → Sl → List Ob → R Sl) (vs : List PV) (σ : Sl) (h : List Ob) : R Sl := match vs with
  | v :: vs => match r v σ h with
    | .ok σ1 h1 => rr vs σ1 h1
    | _ => .no
  | [] => .no
theorem ev_neg' (G : Nat → Option PV) (cl : Nat → List PV → List Ob → R PV) (a : Ex) : ev G cl (.neg a) = fun σ h => negR (ev G cl a σ h) := by rw [ev_neg]; rfl
theorem ev_me' (G : Nat → Option PV) (cl : Nat → List PV → List Ob → R PV) (k : Me) (a : Ex) (es : Exs) : ev G cl (.me k a es) = fun σ h => meR k (ev G cl a σ h) (evs G cl es σ) := by rw [ev_me]; rfl
theorem ev_lc' (G : Nat → Option PV) (cl : Nat → List PV → List Ob → R PV) (m : Bool) (own : List Nat) (it : It) (p : Pat) (c e : Ex) : ev G cl (.lc m own it p c e) = fun σ h => compR m (evI G cl it σ h) (lcL (evP G cl p) (fun σ h => test (ev G cl c σ h)) (ev G cl e) (Mi.wipe σ own)) := by rw [ev_lc]; rfl
theorem evPs_cons' (G : Nat → Option PV) (cl : Nat → List PV → List Ob → R PV) (p : Pat) (r : Pats) : evPs G cl (.cons p r) = pconsR (evP G cl p) (evPs G cl r) := by rw [evPs_cons]; rfl
section
variable {x x' : R PV} {y y' z z' : List Ob → R PV} {xs xs' : R (List PV)} {ys ys' : List Ob → R (List PV)}
theorem two_le {ap : PV → PV → List Ob → R PV} (a : Lq x x') (b : ∀ h, Lq (y h) (y' h)) : Lq (two x y ap) (two x' y' ap) := by
  rcases a with rfl | rfl
  · exact .no
  · cases x' with
    | no => exact .no
    | ex c fs h => exact .rfl
    | ok v h =>
      simp only [two]
      rcases b h with e | e
      · rw [e]; exact .no
      · rw [e]; exact .rfl
theorem test_le (a : Lq x x') : Lq (test x) (test x') := by
  rcases a with rfl | rfl
  · exact .no
  · exact .rfl
theorem nots_le (a : Lq x x') : Lq (nots x) (nots x') := by
  rcases a with rfl | rfl
  · exact .no
  · exact .rfl
theorem ands_le (a : Lq x x') (b : ∀ h, Lq (y h) (y' h)) : Lq (ands x y) (ands x' y') := by
  rcases a with rfl | rfl
  · exact .no
  · cases x' with
    | no => exact .no
    | ex c fs h => exact .rfl
    | ok v h =>
      simp only [ands]
      cases truth h v with
      | none => exact .no
      | some k => cases k <;> first | exact .rfl | exact b h
theorem ors_le (a : Lq x x') (b : ∀ h, Lq (y h) (y' h)) : Lq (ors x y) (ors x' y') := by
  rcases a with rfl | rfl
  · exact .no
  · cases x' with
    | no => exact .no
    | ex c fs h => exact .rfl
    | ok v h =>
      simp only [ors]
      cases truth h v with
      | none => exact .no
      | some k => cases k <;> first | exact .rfl | exact b h
theorem ifs_le (a : Lq x x') (b : ∀ h, Lq (y h) (y' h)) (c : ∀ h, Lq (z h) (z' h)) : Lq (ifs x y z) (ifs x' y' z') := by
  rcases a with rfl | rfl
  · exact .no
  · unfold ifs
    cases test x' with
    | no => exact .no
    | ex c fs h => exact .rfl
    | ok v h => cases v <;> first | exact b h | exact c h
theorem chains_le {k k2 : COp} (a : Lq x x') (b : ∀ h, Lq (y h) (y' h)) (c : ∀ h, Lq (z h) (z' h)) : Lq (chains x y z k k2) (chains x' y' z' k k2) := by
  rcases a with rfl | rfl
  · exact .no
  · cases x' with
    | no => exact .no
    | ex c fs h => exact .rfl
    | ok v h =>
      simp only [chains]
      rcases b h with e | e
      · rw [e]; exact .no
      · rw [e]
        cases y h with
        | no => exact .no
        | ex c fs h => exact .rfl
        | ok u h1 =>
          simp only
          cases apCmp k v u h1 with
          | no => exact .no
          | ex c fs h => exact .rfl
          | ok t h2 =>
            cases t <;> first | exact .rfl | skip
            rename_i b
            cases b with
            | false => exact .rfl
            | true =>
              simp only
              rcases c h2 with e | e
              · rw [e]; exact .no
              · rw [e]; exact .rfl
theorem args_le {ap ap' : List PV → List Ob → R PV} (a : Lq xs xs') (b : ∀ v h, Lq (ap v h) (ap' v h)) : Lq (argsR xs ap) (argsR xs' ap') := by
  rcases a with rfl | rfl
  · exact .no
  · cases xs' with
    | no => exact .no
    | ex c fs h => exact .rfl
    | ok v h => exact b v h
theorem kwR_le {ap ap' : List PV → List Ob → R PV} {perm : List Nat} (a : Lq xs xs') (b : ∀ h, Lq (ys h) (ys' h)) (c : ∀ v h, Lq (ap v h) (ap' v h)) : Lq (kwR xs ys perm ap) (kwR xs' ys' perm ap') := by
  rcases a with rfl | rfl
  · exact .no
  · cases xs' with
    | no => exact .no
    | ex c fs h => exact .rfl
    | ok v h =>
      simp only [kwR]
      rcases b h with e | e
      · rw [e]; exact .no
      · rw [e]
        cases ys h with
        | no => exact .no
        | ex c fs h => exact .rfl
        | ok u h1 =>
          simp only
          cases permOf (v ++ u) perm with
          | none => exact .no
          | some zs => exact c zs h1
theorem cons_le (a : Lq x x') (b : ∀ h, Lq (ys h) (ys' h)) : Lq (consR x ys) (consR x' ys') := by
  rcases a with rfl | rfl
  · exact .no
  · cases x' with
    | no => exact .no
    | ex c fs h => exact .rfl
    | ok v h =>
      simp only [consR]
      rcases b h with e | e
      · rw [e]; exact .no
      · rw [e]; exact .rfl
theorem star_le (a : Lq x x') (b : ∀ h, Lq (ys h) (ys' h)) : Lq (starR x ys) (starR x' ys') := by
  rcases a with rfl | rfl
  · exact .no
  · cases x' with
    | no => exact .no
    | ex c fs h => exact .rfl
    | ok v h =>
      simp only [starR]
      cases seqOf h v with
      | none => exact .no
      | some zs =>
        simp only
        rcases b h with e | e
        · rw [e]; exact .no
        · rw [e]; exact .rfl
theorem bnd_le (a : Lq xs xs') : Lq (bndR xs) (bndR xs') := by
  rcases a with rfl | rfl
  · exact .no
  · exact .rfl
theorem sl_le {lo lo' hi hi' : List Ob → R (Option Int)} {m : Bool} (a : Lq x x') (b : ∀ h, Lq (lo h) (lo' h)) (c : ∀ h, Lq (hi h) (hi' h)) : Lq (slR x lo hi m) (slR x' lo' hi' m) := by
  rcases a with rfl | rfl
  · exact .no
  · cases x' with
    | no => exact .no
    | ex c fs h => exact .rfl
    | ok v h =>
      simp only [slR]
      rcases b h with e | e
      · rw [e]; exact .no
      · rw [e]
        cases lo h with
        | no => exact .no
        | ex c fs h => exact .rfl
        | ok u h1 =>
          simp only
          rcases c h1 with e | e
          · rw [e]; exact .no
          · rw [e]; exact .rfl
theorem fz_le (a : Lq x x') : Lq (fzR x) (fzR x') := by
  rcases a with rfl | rfl
  · exact .no
  · exact .rfl
theorem okR_le (a : Lq x x') : Lq (okR x) (okR x') := by
  rcases a with rfl | rfl
  · exact .no
  · exact .rfl
theorem lam_le {k k' : PV → List Ob → R PV} (a : Lq x x') (b : ∀ v h, Lq (k v h) (k' v h)) : Lq (lamR x k) (lamR x' k') := by
  rcases a with rfl | rfl
  · exact .no
  · cases x' with
    | no => exact .no
    | ex c fs h => exact okR_le (b _ _)
    | ok v h =>
      simp only [lamR]
      cases v.isD with
      | false => exact .no
      | true => exact okR_le (b _ _)
theorem rev_le {m : Bool} (a : Lq x x') : Lq (revR m x) (revR m x') := by
  rcases a with rfl | rfl
  · exact .no
  · exact .rfl
theorem fmt_le (a : Lq x x') : Lq (fmtR x) (fmtR x') := by
  rcases a with rfl | rfl
  · exact .no
  · exact .rfl
theorem rng_le (a : Lq xs xs') : Lq (rngI xs) (rngI xs') := by
  rcases a with rfl | rfl
  · exact .no
  · exact .rfl
theorem plain_le (a : Lq x x') : Lq (plainI x) (plainI x') := by
  rcases a with rfl | rfl
  · exact .no
  · exact .rfl
theorem neg_le (a : Lq x x') : Lq (negR x) (negR x') := by
  rcases a with rfl | rfl
  · exact .no
  · exact .rfl
theorem me_le {k : Me} (a : Lq x x') (b : ∀ h, Lq (ys h) (ys' h)) : Lq (meR k x ys) (meR k x' ys') := by
  rcases a with rfl | rfl
  · exact .no
  · cases x' with
    | no => exact .no
    | ex c fs h => exact .rfl
    | ok v h =>
      simp only [meR]
      cases meTy k v h with
      | false => exact .no
      | true =>
        simp only
        rcases b h with e | e
        · rw [e]; exact .no
        · rw [e]; exact .rfl
variable {ri ri' : R (List PV)} {asg asg' : PV → Sl → List Ob → R Sl} {c c' : Sl → List Ob → R Bool} {e e' : Sl → List Ob → R PV}
theorem lcL_le (a : ∀ v σ h, Lq (asg v σ h) (asg' v σ h)) (b : ∀ σ h, Lq (c σ h) (c' σ h)) (d : ∀ σ h, Lq (e σ h) (e' σ h)) (σ : Sl) : ∀ (vs : List PV) (h : List Ob), Lq (lcL asg c e σ vs h) (lcL asg' c' e' σ vs h)
  | [], h => .rfl
  | v :: vs, h => by
    unfold lcL
    rcases a v σ h with q | q
    · rw [q]; exact .no
    · rw [q]
      cases asg v σ h with
      | no => exact .no
      | ex c fs h => exact .rfl
      | ok σ1 h1 =>
        simp only
        rcases b σ1 h1 with q | q
        · rw [q]; exact .no
        · rw [q]
          cases c σ1 h1 with
          | no => exact .no
          | ex c fs h => exact .rfl
          | ok k h2 =>
            cases k with
            | false => exact lcL_le a b d σ vs h2
            | true =>
              simp only
              rcases d σ1 h2 with q | q
              · rw [q]; exact .no
              · rw [q]
                cases e σ1 h2 with
                | no => exact .no
                | ex c fs h => exact .rfl
                | ok x h3 =>
                  simp only
                  cases x.isD with
                  | false => exact .no
                  | true =>
                    simp only
                    rcases lcL_le a b d σ vs h3 with q | q
                    · rw [q]; exact .no
                    · rw [q]; exact .rfl
theorem lc_le {m : Bool} (r : Lq ri ri') (a : ∀ v σ h, Lq (asg v σ h) (asg' v σ h)) (b : ∀ σ h, Lq (c σ h) (c' σ h)) (d : ∀ σ h, Lq (e σ h) (e' σ h)) (σ : Sl) : Lq (compR m ri (lcL asg c e σ)) (compR m ri' (lcL asg' c' e' σ)) := by
  rcases r with rfl | rfl
  · exact .no
  · cases ri' with
    | no => exact .no
    | ex c fs h => exact .rfl
    | ok xs h =>
      simp only [compR]
      rcases lcL_le a b d σ xs h with q | q
      · rw [q]; exact .no
      · rw [q]; exact .rfl
theorem tp_le {r r' : List PV → Sl → List Ob → R Sl} (a : ∀ vs σ h, Lq (r vs σ h) (r' vs σ h)) (v : PV) (σ : Sl) (h : List Ob) : Lq (tpR r v σ h) (tpR r' v σ h) := by
  cases v <;> first | exact .no | exact a _ _ _
theorem sx_le {v : PV} {σ : Sl} (a : Lq x x') (b : ∀ h, Lq (y h) (y' h)) : Lq (sxR x y v σ) (sxR x' y' v σ) := by
  rcases a with rfl | rfl
  · exact .no
  · cases x' with
    | no => exact .no
    | ex c fs h => exact .rfl
    | ok u h =>
      simp only [sxR]
      rcases b h with e | e
      · rw [e]; exact .no
      · rw [e]; exact .rfl
theorem pcons_le {r r' : PV → Sl → List Ob → R Sl} {rr rr' : List PV → Sl → List Ob → R Sl} (a : ∀ v σ h, Lq (r v σ h) (r' v σ h)) (b : ∀ v σ h, Lq (rr v σ h) (rr' v σ h)) (vs : List PV) (σ : Sl) (h : List Ob) : Lq (pconsR r rr vs σ h) (pconsR r' rr' vs σ h) := by
  cases vs with
  | nil => exact .no
  | cons v vs =>
    simp only [pconsR]
    rcases a v σ h with e | e
    · rw [e]; exact .no
    · rw [e]
      cases r v σ h with
      | no => exact .no
      | ex c fs h => exact .no
      | ok σ1 h1 => exact b vs σ1 h1
end
def Sub (o c : Nat → List PV → List Ob → R PV) : Prop := ∀ f args h, Lq (o f args h) (c f args h)
section
variable {G : Nat → Option PV} {o c : Nat → List PV → List Ob → R PV} (s : Sub o c)
include s
mutual
theorem ev_le : ∀ (e : Ex) (σ : Sl) (h : List Ob), Lq (ev G o e σ h) (ev G c e σ h)
  | .cst v, σ, h => by rw [ev_cst, ev_cst]; exact .rfl
  | .var i, σ, h => by rw [ev_var, ev_var]; exact .rfl
  | .glb i, σ, h => by rw [ev_glb, ev_glb]; exact .rfl
  | .bin m op a b, σ, h => by rw [ev_bin, ev_bin]; exact two_le (ev_le a σ h) fun h => ev_le b σ h
  | .neg a, σ, h => by rw [ev_neg', ev_neg']; exact neg_le (ev_le a σ h)
  | .not a, σ, h => by rw [ev_not, ev_not]; exact nots_le (ev_le a σ h)
  | .and a b, σ, h => by rw [ev_and, ev_and]; exact ands_le (ev_le a σ h) fun h => ev_le b σ h
  | .or a b, σ, h => by rw [ev_or, ev_or]; exact ors_le (ev_le a σ h) fun h => ev_le b σ h
  | .cmp op a b, σ, h => by rw [ev_cmp, ev_cmp]; exact two_le (ev_le a σ h) fun h => ev_le b σ h
  | .cmp2 op op2 a b d, σ, h => by rw [ev_cmp2, ev_cmp2]; exact chains_le (ev_le a σ h) (fun h => ev_le b σ h) fun h => ev_le d σ h
  | .ife d a b, σ, h => by rw [ev_ife, ev_ife]; exact ifs_le (ev_le d σ h) (fun h => ev_le a σ h) fun h => ev_le b σ h
  | .tup es, σ, h => by rw [ev_tup, ev_tup]; exact args_le (evs_le es σ h) fun _ _ => .rfl
  | .lst m es, σ, h => by rw [ev_lst, ev_lst]; exact args_le (evs_le es σ h) fun _ _ => .rfl
  | .call f es, σ, h => by rw [ev_call, ev_call]; exact args_le (evs_le es σ h) fun v h => s f v h
  | .callk f es ks perm, σ, h => by rw [ev_callk, ev_callk]; exact kwR_le (evs_le es σ h) (fun h => evs_le ks σ h) fun v h => s f v h
  | .bi b es, σ, h => by rw [ev_bi, ev_bi]; exact args_le (evs_le es σ h) fun _ _ => .rfl
  | .tupR es, σ, h => by rw [ev_tupR, ev_tupR]; exact args_le (evs_le es σ h) fun _ _ => .rfl
  | .lstR m es, σ, h => by rw [ev_lstR, ev_lstR]; exact args_le (evs_le es σ h) fun _ _ => .rfl
  | .ix a b, σ, h => by rw [ev_ix, ev_ix]; exact two_le (ev_le a σ h) fun h => ev_le b σ h
  | .sl m a lo hi, σ, h => by rw [ev_sl, ev_sl]; exact sl_le (ev_le a σ h) (fun h => bnd_le (evs_le lo σ h)) fun h => bnd_le (evs_le hi σ h)
  | .lc m own it p d e, σ, h => by rw [ev_lc', ev_lc']; exact lc_le (evI_le it σ h) (fun v σ h => evP_le p v σ h) (fun σ h => test_le (ev_le d σ h)) (fun σ h => ev_le e σ h) _
  | .me k a es, σ, h => by rw [ev_me', ev_me']; exact me_le (ev_le a σ h) fun h => evs_le es σ h
  | .fz a, σ, h => by rw [ev_fz, ev_fz]; exact fz_le (ev_le a σ h)
  | .lam f a, σ, h => by rw [ev_lam, ev_lam]; exact lam_le (ev_le a σ h) fun v h => s f [v] h
  | .rev m a, σ, h => by rw [ev_rev, ev_rev]; exact rev_le (ev_le a σ h)
  | .fmt a, σ, h => by rw [ev_fmt, ev_fmt]; exact fmt_le (ev_le a σ h)
  | .fs es, σ, h => by rw [ev_fs, ev_fs]; exact evF_le es σ [] h
theorem evF_le : ∀ (e : Exs) (σ : Sl) (acc : List Nat) (h : List Ob), Lq (evF G o e σ acc h) (evF G c e σ acc h)
  | .nil, σ, acc, h => by rw [evF, evF]; exact .rfl
  | .cons true e r, σ, acc, h => by rw [evF, evF]; exact .rfl
  | .cons false e r, σ, acc, h => by
    rw [evF, evF]
    rcases ev_le e σ h with q | q
    · rw [q]; exact .no
    · rw [q]
      cases ev G o e σ h with
      | no => exact .no
      | ex d fs h1 => exact .rfl
      | ok x h1 =>
        cases x <;> first | exact .rfl | skip
        simp only
        split
        · exact evF_le r σ _ h1
        · exact .rfl
theorem evs_le : ∀ (e : Exs) (σ : Sl) (h : List Ob), Lq (evs G o e σ h) (evs G c e σ h)
  | .nil, σ, h => by rw [evs_nil, evs_nil]; exact .rfl
  | .cons false e r, σ, h => by rw [evs_cons, evs_cons]; exact cons_le (ev_le e σ h) fun h => evs_le r σ h
  | .cons true e r, σ, h => by rw [evs_star, evs_star]; exact star_le (ev_le e σ h) fun h => evs_le r σ h
theorem evI_le : ∀ (e : It) (σ : Sl) (h : List Ob), Lq (evI G o e σ h) (evI G c e σ h)
  | .rng es, σ, h => by rw [evI_rng, evI_rng]; exact rng_le (evs_le es σ h)
  | .plain e, σ, h => by rw [evI_plain, evI_plain]; exact plain_le (ev_le e σ h)
theorem evP_le : ∀ (p : Pat) (v : PV) (σ : Sl) (h : List Ob), Lq (evP G o p v σ h) (evP G c p v σ h)
  | .nm i, v, σ, h => by rw [evP_nm, evP_nm]; exact .rfl
  | .tp ps, v, σ, h => by rw [evP_tp, evP_tp]; exact tp_le (fun vs σ h => evPs_le ps vs σ h) v σ h
  | .sx a i, v, σ, h => by rw [evP_sx, evP_sx]; exact sx_le (ev_le a σ h) fun h => ev_le i σ h
theorem evPs_le : ∀ (p : Pats) (v : List PV) (σ : Sl) (h : List Ob), Lq (evPs G o p v σ h) (evPs G c p v σ h)
  | .nil, v, σ, h => by rw [evPs_nil, evPs_nil]; exact .rfl
  | .cons p r, v, σ, h => by rw [evPs_cons', evPs_cons']; exact pcons_le (fun v σ h => evP_le p v σ h) (fun v σ h => evPs_le r v σ h) v σ h
end
theorem exec_le : ∀ (e : Sx) (σ : Sl) (h : List Ob), Lq (exec G o e σ h) (exec G c e σ h)
  | .pass, σ, h => by rw [ex_pass, ex_pass]; exact .rfl
  | .seq a b, σ, h => by
    rw [ex_seq, ex_seq]
    simp only
    unfold seqR
    rcases exec_le a σ h with e | e
    · rw [e]; exact .no
    · rw [e]
      cases exec G o a σ h with
      | no => exact .no
      | ex c fs h => exact .rfl
      | ok f h1 => cases f <;> first | exact .rfl | exact exec_le b _ _
  | .asg p e, σ, h => by
    rw [ex_asg, ex_asg]
    simp only
    unfold exR
    rcases ev_le s (G := G) e σ h with q | q
    · rw [q]; exact .no
    · rw [q]
      cases ev G o e σ h with
      | no => exact .no
      | ex c fs h => exact .rfl
      | ok v h1 =>
        simp only
        unfold asgR
        rcases evP_le s (G := G) p v σ h1 with q | q
        · rw [q]; exact .no
        · rw [q]; exact .rfl
  | .par i j a b, σ, h => by
    rw [ex_par, ex_par]
    simp only
    unfold exR
    rcases ev_le s (G := G) a σ h with q | q
    · rw [q]; exact .no
    · rw [q]
      cases ev G o a σ h with
      | no => exact .no
      | ex c fs h => exact .rfl
      | ok v h1 =>
        simp only
        rcases ev_le s (G := G) b σ h1 with q | q
        · rw [q]; exact .no
        · rw [q]; exact .rfl
  | .expr e, σ, h => by
    rw [ex_expr, ex_expr]
    simp only
    unfold exR
    rcases ev_le s (G := G) e σ h with q | q
    · rw [q]; exact .no
    · rw [q]; exact .rfl
  | .ret e, σ, h => by
    rw [ex_ret, ex_ret]
    simp only
    unfold exR
    rcases ev_le s (G := G) e σ h with q | q
    · rw [q]; exact .no
    · rw [q]; exact .rfl
  | .retN, σ, h => by rw [ex_retN, ex_retN]; exact .rfl
  | .rse d e, σ, h => by
    rw [ex_rse, ex_rse]
    simp only
    unfold exR
    rcases ev_le s (G := G) e σ h with q | q
    · rw [q]; exact .no
    · rw [q]; exact .rfl
  | .ife d a b, σ, h => by
    rw [ex_ife, ex_ife]
    simp only
    unfold exR
    rcases test_le (ev_le s (G := G) d σ h) with q | q
    · rw [q]; exact .no
    · rw [q]
      cases test (ev G o d σ h) with
      | no => exact .no
      | ex c fs h => exact .rfl
      | ok k h1 => cases k <;> first | exact exec_le a σ h1 | exact exec_le b σ h1
  | .for it p b, σ, h => by
    rw [ex_for, ex_for]
    simp only
    unfold exR
    rcases evI_le s (G := G) it σ h with q | q
    · rw [q]; exact .no
    · rw [q]
      cases evI G o it σ h with
      | no => exact .no
      | ex c fs h => exact .rfl
      | ok xs h1 =>
        simp only
        clear q
        induction xs generalizing σ h1 with
        | nil => exact .rfl
        | cons v vs ih =>
          unfold forL
          rcases evP_le s (G := G) p v σ h1 with q | q
          · rw [q]; exact .no
          · rw [q]
            cases evP G o p v σ h1 with
            | no => exact .no
            | ex c fs h => exact .rfl
            | ok σ1 h2 =>
              simp only
              rcases exec_le b σ1 h2 with q | q
              · rw [q]; exact .no
              · rw [q]
                cases exec G o b σ1 h2 with
                | no => exact .no
                | ex c fs h => exact .rfl
                | ok f h3 => cases f <;> first | exact .rfl | exact ih _ _
  | .whl n d b, σ, h => by
    rw [ex_whl, ex_whl]
    simp only
    induction n generalizing σ h with
    | zero => exact .no
    | succ n ih =>
      unfold whlL
      rcases test_le (ev_le s (G := G) d σ h) with q | q
      · rw [q]; exact .no
      · rw [q]
        cases test (ev G o d σ h) with
        | no => exact .no
        | ex c fs h => exact .rfl
        | ok k h1 =>
          cases k with
          | false => exact .rfl
          | true =>
            simp only
            rcases exec_le b σ h1 with q | q
            · rw [q]; exact .no
            · rw [q]
              cases exec G o b σ h1 with
              | no => exact .no
              | ex c fs h => exact .rfl
              | ok f h3 => cases f <;> first | exact .rfl | exact ih _ _
  | .stuck, σ, h => by rw [ex_stuck, ex_stuck]; exact .no
theorem run_le (fn : Fn) (args : List PV) (h : List Ob) : Lq (runFn G o fn args h) (runFn G c fn args h) := by
  unfold runFn
  cases Nat.beq args.length fn.pars with
  | false => exact .no
  | true =>
    simp only
    cases allD args with
    | true =>
      simp only
      rcases exec_le s (G := G) fn.body (startSl args (fn.slots - fn.pars)) [] with q | q
      · rw [q]; exact .no
      · rw [q]; exact .rfl
    | false =>
      simp only
      rcases exec_le s (G := G) fn.body (startSl args (fn.slots - fn.pars)) h with q | q
      · rw [q]; exact .no
      · rw [q]; exact .rfl
end
section
variable {G : Nat → Option PV} {T : List Fn}
/-- more depth tells the same -/
theorem call_le : ∀ n, Sub (call G T n) (call G T (n + 1))
  | 0 => fun _ _ _ => .no
  | n + 1 => fun f args h => by
    show Lq (match fnAt T f with | some fn => runFn G (call G T n) fn args h | none => .no) (match fnAt T f with | some fn => runFn G (call G T (n + 1)) fn args h | none => .no)
    cases fnAt T f with
    | none => exact .no
    | some fn => exact run_le (call_le n) fn args h
theorem call_up {n m : Nat} (l : n ≤ m) : Sub (call G T n) (call G T m) := by
  obtain ⟨k, rfl⟩ := Nat.exists_eq_add_of_le l
  induction k with
  | zero => exact fun _ _ _ => .rfl
  | succ k ih => exact fun f args h => (ih (Nat.le_add_right _ _) f args h).trans (call_le _ f args h)
end
end Mi

/-! Mi24: tables of calls. -/
namespace Mi
mutual
def sameP : PV → PV → Bool
  | .non, b => match b with | .non => true | _ => false
  | .bl a, b => match b with | .bl c => a == c | _ => false
  | .int a, b => match b with | .int c => decide (a = c) | _ => false
  | .str a, b => match b with | .str c => a == c | _ => false
  | .tup xs, b => match b with | .tup ys => sameAll xs ys | _ => false
  | .lst xs, b => match b with | .lst ys => sameAll xs ys | _ => false
  | .frz xs, b => match b with | .frz ys => sameAll xs ys | _ => false
  | .loc a, b => match b with | .loc c => Nat.beq a c | _ => false
def sameAll : List PV → List PV → Bool
  | [], ys => match ys with | [] => true | _ :: _ => false
  | x :: xs, ys => match ys with | [] => false | y :: ys => match sameP x y with | true => sameAll xs ys | false => false
end
mutual
theorem sameP_eq : ∀ x y : PV, sameP x y = true → x = y
  | .non, y, h => by cases y <;> simp [sameP] at h ⊢
  | .bl a, y, h => by cases y <;> simp [sameP] at h ⊢ <;> exact h
  | .int a, y, h => by cases y <;> simp [sameP] at h ⊢ <;> exact h
  | .str a, y, h => by cases y <;> simp [sameP] at h ⊢ <;> exact h
  | .loc a, y, h => by cases y <;> simp only [sameP] at h <;> first | cases h | exact congrArg PV.loc (Nat.eq_of_beq_eq_true h)
  | .tup xs, y, h => by cases y <;> simp only [sameP] at h <;> first | cases h | exact congrArg PV.tup (sameAll_eq _ _ h)
  | .lst xs, y, h => by cases y <;> simp only [sameP] at h <;> first | cases h | exact congrArg PV.lst (sameAll_eq _ _ h)
  | .frz xs, y, h => by cases y <;> simp only [sameP] at h <;> first | cases h | exact congrArg PV.frz (sameAll_eq _ _ h)
theorem sameAll_eq : ∀ xs ys : List PV, sameAll xs ys = true → xs = ys
  | [], [], _ => rfl
  | [], _ :: _, h => by simp [sameAll] at h
  | _ :: _, [], h => by simp [sameAll] at h
  | x :: xs, y :: ys, h => by
    rw [sameAll] at h
    cases q : sameP x y with
    | false => rw [q] at h; cases h
    | true => rw [q] at h; rw [sameP_eq x y q, sameAll_eq xs ys h]
end
mutual
theorem sameP_refl : ∀ x : PV, sameP x x = true
  | .non => by simp [sameP]
  | .bl a => by simp [sameP]
  | .int a => by simp [sameP]
  | .str a => by simp [sameP]
  | .loc a => by simp [sameP]
  | .tup xs => by simp only [sameP]; exact sameAll_refl xs
  | .lst xs => by simp only [sameP]; exact sameAll_refl xs
  | .frz xs => by simp only [sameP]; exact sameAll_refl xs
theorem sameAll_refl : ∀ xs : List PV, sameAll xs xs = true
  | [] => by simp [sameAll]
  | x :: xs => by rw [sameAll, sameP_refl x]; exact sameAll_refl xs
end
/-- an end of a call with data alone: a value, or an exception -/
inductive R0 where
  | val (v : PV) | exn (c : Nat) (fs : List PV)
def R0.on (r : R0) (h : List Ob) : R PV := match r with
  | .val v => .ok v h
  | .exn c fs => .ex c fs h
def sameR : R0 → R0 → Bool
  | .val v, .val u => sameP v u
  | .exn c fs, .exn d gs => Nat.beq c d && sameAll fs gs
  | _, _ => false
theorem sameR_eq : ∀ {x y : R0}, sameR x y = true → x = y
  | .val v, .val u, h => congrArg R0.val (sameP_eq v u h)
  | .exn c fs, .exn d gs, h => by
    obtain ⟨h1, h2⟩ := (Bool.and_eq_true _ _).mp h
    rw [Nat.eq_of_beq_eq_true h1, sameAll_eq _ _ h2]
  | .val _, .exn _ _, h => by cases h
  | .exn _ _, .val _, h => by cases h
def finD (keep : Bool) (v : PV) (h : List Ob) : Option R0 := match v with
  | .loc n => match keep with
    | true => none
    | false => match obAt h n with | .lst xs => some (.val (.lst xs)) | .gone => none
  | v => some (.val v)
def runD (G : Nat → Option PV) (o : Nat → List PV → List Ob → R PV) (fn : Fn) (args : List PV) : Option R0 := match exec G o fn.body (startSl args (fn.slots - fn.pars)) [] with
  | .ok f h1 => match f with
    | .rt v => finD fn.keep v h1
    | .nx _ => some (.val .non)
    | .rs c fs _ => some (.exn c fs)
    | _ => none
  | _ => none
theorem finD_ok {keep : Bool} {v : PV} {h1 h : List Ob} {r : R0} (e : finD keep v h1 = some r) : fin0 keep v h1 h = r.on h := by
  cases v <;> simp only [finD, Option.some.injEq] at e <;> try (subst e; rfl)
  cases keep with
  | true => cases e
  | false =>
    simp only at e
    unfold fin0
    simp only
    split at e
    · rename_i xs q
      simp only [Option.some.injEq] at e
      try rw [q]
      subst e; rfl
    · cases e
theorem runD_ok {G : Nat → Option PV} {o : Nat → List PV → List Ob → R PV} {fn : Fn} {args : List PV} {r : R0} (hn : Nat.beq args.length fn.pars = true) (hd : allD args = true) (e : runD G o fn args = some r) (h : List Ob) : runFn G o fn args h = r.on h := by
  unfold runFn
  rw [hn]
  simp only
  rw [hd]
  simp only
  unfold runD at e
  split at e
  · rename_i f h1 q
    rw [q]
    cases f <;> simp only at e <;> first | cases e | skip
    · rfl
    · exact finD_ok e
    · rfl
  · cases e
abbrev Orc := Nat → List PV → List Ob → R PV
def orE (a b : Orc) : Orc := fun f args h => match a f args h with
  | .no => b f args h
  | r => r
theorem orE_le {a b c : Orc} (ha : Sub a c) (hb : Sub b c) : Sub (orE a b) c := fun f args h => by
  unfold orE
  have q := ha f args h
  cases e : a f args h with
  | no => exact hb f args h
  | ok v h1 => rw [e] at q; exact q
  | ex c fs h1 => rw [e] at q; exact q
abbrev Tab := List (Nat × List (List PV × R0))
def find2 : List (List PV × R0) → List PV → Option R0
  | [], _ => none
  | (as, r) :: t, args => match sameAll as args with | true => some r | false => find2 t args
def find1 : Tab → Nat → List PV → Option R0
  | [], _, _ => none
  | (g, l) :: t, f, args => match Nat.beq g f with | true => find2 l args | false => find1 t f args
def tabO (L : Tab) : Orc := fun f args h => match find1 L f args with | some r => r.on h | none => .no
def callO (o : Orc) (G : Nat → Option PV) (T : List Fn) : Nat → Orc
  | 0 => o
  | n + 1 => fun f args h => match o f args h with
    | .no => match fnAt T f with
      | some fn => runFn G (callO o G T n) fn args h
      | none => .no
    | r => r
section
variable {G : Nat → Option PV} {T : List Fn}
theorem Sub.up {o : Orc} {n m : Nat} (s : Sub o (call G T n)) (l : n ≤ m) : Sub o (call G T m) := fun f args h => (s f args h).trans (call_up l f args h)
theorem callO_le {o : Orc} {K : Nat} (ho : Sub o (call G T K)) : ∀ n, Sub (callO o G T n) (call G T (K + n))
  | 0 => ho
  | n + 1 => fun f args h => by
    unfold callO
    have q := ho.up (m := K + (n + 1)) (Nat.le_add_right _ _) f args h
    cases e : o f args h with
    | ok v h1 => rw [e] at q; exact q
    | ex c fs h1 => rw [e] at q; exact q
    | no =>
      show Lq _ (match fnAt T f with | some fn => runFn G (call G T (K + n)) fn args h | none => .no)
      simp only
      cases fnAt T f with
      | none => exact .no
      | some fn => exact run_le (callO_le ho n) fn args h
def chkRow (o : Orc) (G : Nat → Option PV) (fn : Fn) : List (List PV × R0) → Bool
  | [] => true
  | (as, r) :: t => match Nat.beq as.length fn.pars && allD as with
    | true => match runD G o fn as with
      | some r' => match sameR r' r with | true => chkRow o G fn t | false => false
      | none => false
    | false => false
def chkTab (o : Orc) (G : Nat → Option PV) (T : List Fn) : Tab → Bool
  | [] => true
  | (f, l) :: t => match fnAt T f with
    | some fn => match chkRow o G fn l with | true => chkTab o G T t | false => false
    | none => false
theorem find2_ok {o : Orc} {fn : Fn} : ∀ {l : List (List PV × R0)} {args : List PV} {r : R0}, chkRow o G fn l = true → find2 l args = some r → ∀ h, runFn G o fn args h = r.on h
  | [], _, _, _, e => by cases e
  | (as, r0) :: t, args, r, c, e => by
    unfold chkRow at c
    split at c
    · rename_i q
      obtain ⟨q1, q2⟩ := (Bool.and_eq_true _ _).mp q
      split at c
      · rename_i r' e'
        split at c
        · rename_i es
          unfold find2 at e
          split at e
          · rename_i ea
            cases e
            have := sameAll_eq _ _ ea
            subst this
            have := sameR_eq es
            subst this
            exact runD_ok q1 q2 e'
          · exact find2_ok c e
        · cases c
      · cases c
    · cases c
theorem find1_ok {o : Orc} : ∀ {L : Tab} {f : Nat} {args : List PV} {r : R0}, chkTab o G T L = true → find1 L f args = some r → ∃ fn, fnAt T f = some fn ∧ ∀ h, runFn G o fn args h = r.on h
  | [], _, _, _, _, e => by cases e
  | (g, l) :: t, f, args, r, c, e => by
    unfold chkTab at c
    split at c
    · rename_i fn q
      split at c
      · rename_i cr
        unfold find1 at e
        split at e
        · rename_i ef
          have := Nat.eq_of_beq_eq_true ef
          subst this
          exact ⟨fn, q, find2_ok cr e⟩
        · exact find1_ok c e
      · cases c
    · cases c
theorem tab_le {o : Orc} {K : Nat} (ho : Sub o (call G T K)) {L : Tab} (c : chkTab o G T L = true) : Sub (tabO L) (call G T (K + 1)) := fun f args h => by
  unfold tabO
  cases e : find1 L f args with
  | none => exact .no
  | some r =>
    obtain ⟨fn, q, hr⟩ := find1_ok c e
    refine .inr ?_
    show (match fnAt T f with | some fn => runFn G (call G T K) fn args h | none => .no) = r.on h
    rw [q]
    have l := run_le (G := G) ho fn args h
    rw [hr h] at l
    cases r with
    | val v => exact l.ok rfl
    | exn c fs => exact l.ex rfl
end
theorem chkRow_app {o : Orc} {G : Nat → Option PV} {fn : Fn} : ∀ {l m : List (List PV × R0)}, chkRow o G fn l = true → chkRow o G fn m = true → chkRow o G fn (l ++ m) = true
  | [], m, _, h => h
  | (as, r) :: t, m, h, h' => by
    unfold chkRow at h
    split at h
    · rename_i q
      split at h
      · rename_i r' e
        split at h
        · rename_i es
          show chkRow o G fn ((as, r) :: (t ++ m)) = true
          unfold chkRow
          rw [q, e]
          simp only
          rw [es]
          exact chkRow_app h h'
        · cases h
      · cases h
    · cases h
theorem chkTab_cons {o : Orc} {G : Nat → Option PV} {T : List Fn} {f : Nat} {fn : Fn} {l : List (List PV × R0)} {t : Tab} (e : fnAt T f = some fn) (h : chkRow o G fn l = true) (h' : chkTab o G T t = true) : chkTab o G T ((f, l) :: t) = true := by
  unfold chkTab
  rw [e]
  simp only
  rw [h]
  exact h'
theorem map_app {α β : Type} (f : α → β) (a b : List α) : (a ++ b).map f = a.map f ++ b.map f := List.map_append
end Mi

/-! Mi25: pots and draws (the laws k75 .. k85). -/
namespace Mi
def fnPot (c1 c2 : Int) : Fn := ⟨2, 5, (.seq (.asg (.nm 2) (.ife (.cmp .lt (.var 1) (.bi .len (.cons false (.var 0) .nil))) (.bi .int (.cons false (.ix (.var 0) (.var 1)) .nil)) (.bin false .add (.bin false .add (.bin false .mul (.cst (.int 7907)) (.var 1)) (.cst (.int 37))) (.bin false .mod (.bi .int (.cons false (.bi .sum (.cons false (.sl false (.var 0) .nil (.cons false (.cst (.int 3)) .nil)) .nil)) .nil)) (.cst (.int 1000033)))))) (.seq (.asg (.nm 3) (.bin false .add (.cst (.int c1)) (.bin false .mul (.cst (.int c2)) (.var 1)))) (.seq (.for (.plain (.bin false .add (.sl false (.var 0) .nil (.cons false (.cst (.int 7)) .nil)) (.lst false (.cons false (.var 2) .nil)))) (.nm 4) (.asg (.nm 3) (.bin false .mod (.bi .int (.cons false (.bin false .add (.bin false .add (.bin false .mul (.var 3) (.cst (.int 69621))) (.bin false .mod (.bi .int (.cons false (.var 4) .nil)) (.cst (.int 2147483563)))) (.cst (.int 23))) .nil)) (.cst (.int 2147483563))))) (.ret (.lst true (.cons false (.ife (.or (.cmp .lt (.var 2) (.cst (.int 0))) (.cmp .ge (.var 2) (.bin false .pow (.cst (.int 10)) (.cst (.int 18))))) (.bin false .mod (.bi .int (.cons false (.bi .abs (.cons false (.var 2) .nil)) .nil)) (.bin false .pow (.cst (.int 10)) (.cst (.int 64)))) (.cst (.int 0))) (.cons false (.var 3) (.cons false (.cst (.int 0)) .nil)))))))), true⟩
def fnDraw : Fn := ⟨2, 3, (.seq (.ife (.cmp .gt (.ix (.var 0) (.cst (.int 0))) (.cst (.int 0))) (.seq (.asg (.tp (.cons (.sx (.var 0) (.cst (.int 0))) (.cons (.nm 2) .nil))) (.bi .divmod (.cons false (.ix (.var 0) (.cst (.int 0))) (.cons false (.var 1) .nil)))) (.ret (.var 2))) .pass) (.seq (.asg (.sx (.var 0) (.cst (.int 2))) (.bin false .add (.ix (.var 0) (.cst (.int 2))) (.cst (.int 1)))) (.seq (.asg (.sx (.var 0) (.cst (.int 1))) (.bin false .mod (.bi .int (.cons false (.bin false .add (.bin false .add (.bin false .mul (.ix (.var 0) (.cst (.int 1))) (.bin false .add (.bin false .mod (.bi .int (.cons false (.ix (.var 0) (.cst (.int 1))) .nil)) (.cst (.int 10007))) (.cst (.int 20011)))) (.bin false .mul (.cst (.int 60013)) (.ix (.var 0) (.cst (.int 2))))) (.cst (.int 61))) .nil)) (.cst (.int 2147483563)))) (.ret (.bin false .mod (.bi .int (.cons false (.bin false .fdiv (.ix (.var 0) (.cst (.int 1))) (.cst (.int 97))) .nil)) (.var 1)))))), false⟩
/-- a pot at p -/
def PotAt (h : List Ob) (p : Nat) : Prop := ∃ a b c : Int, obAt h p = .lst [.int a, .int b, .int c] ∧ 0 ≤ a ∧ 0 ≤ b ∧ b < 2147483563
theorem take_len {α : Type} {l : List α} {n : Nat} (h : l.length = n) : l.take n = l := by rw [← h]; exact List.take_length
theorem obSet_len (h : List Ob) (p : Nat) (x : Ob) : (obSet h p x).take h.length = obSet h p x := take_len (obSet_length h p x)
theorem obSet_twice : ∀ (h : List Ob) (p : Nat) (x y : Ob), obSet (obSet h p x) p y = obSet h p y
  | [], _, _, _ => rfl
  | _ :: _, 0, _, _ => rfl
  | _ :: r, p + 1, x, y => congrArg (_ :: ·) (obSet_twice r p x y)
section
variable {G : Nat → Option PV} {o : Orc}
theorem do_seq {a b : Sx} {σ σ1 : Sl} {h h1 : List Ob} (e : exec G o a σ h = .ok (.nx σ1) h1) : exec G o (.seq a b) σ h = exec G o b σ1 h1 := by rw [exec, e]
theorem do_seq_rt {a b : Sx} {σ : Sl} {h h1 : List Ob} {v : PV} (e : exec G o a σ h = .ok (.rt v) h1) : exec G o (.seq a b) σ h = .ok (.rt v) h1 := by rw [exec, e]
theorem do_asg {i : Nat} {x : Ex} {σ : Sl} {h h1 : List Ob} {v : PV} (e : ev G o x σ h = .ok v h1) : exec G o (.asg (.nm i) x) σ h = .ok (.nx (put σ i (some v))) h1 := by rw [exec, e]; simp only [evP]
theorem do_ret {x : Ex} {σ : Sl} {h h1 : List Ob} {v : PV} (e : ev G o x σ h = .ok v h1) : exec G o (.ret x) σ h = .ok (.rt v) h1 := by rw [exec, e]
theorem do_for {it : It} {p : Pat} {b : Sx} {σ : Sl} {h h1 : List Ob} {xs : List PV} (e : evI G o it σ h = .ok xs h1) : exec G o (.for it p b) σ h = forL (evP G o p) (exec G o b) xs σ h1 := by rw [exec, e]
theorem do_if {c : Ex} {a b : Sx} {σ : Sl} {h h1 : List Ob} {k : Bool} (e : test (ev G o c σ h) = .ok k h1) : exec G o (.ife c a b) σ h = exec G o (cond k a b) σ h1 := by
  rw [exec, e]
  cases k <;> rfl
theorem run_int {fn : Fn} {args : List PV} {h h1 : List Ob} {d : Int} {st : Sl} (hn : Nat.beq args.length fn.pars = true) (hd : allD args = false) (hs : startSl args (fn.slots - fn.pars) = st) (e : exec G o fn.body st h = .ok (.rt (.int d)) h1) : runFn G o fn args h = .ok (.int d) (h1.take h.length) := by
  unfold runFn
  rw [hn]
  simp only
  rw [hd, hs]
  simp only
  rw [e]
  rfl
theorem draw_ok {h : List Ob} {p : Nat} {n : Int} (hp : PotAt h p) (h0 : 0 < n) (h1 : n < 1073741824) :
    ∃ (d : Int) (xs : List PV), runFn G o fnDraw [.loc p, .int n] h = .ok (.int d) (obSet h p (.lst xs)) ∧ 0 ≤ d ∧ d < n ∧ PotAt (obSet h p (.lst xs)) p := by
  obtain ⟨a, b, c, e, ha, hb, hb'⟩ := hp
  have lt := obAt_lt e
  have at1 : ∀ x, obAt (obSet h p x) p = x := fun x => obAt_set_same lt
  by_cases hpos : 0 < a
  · refine ⟨a % n, [.int (a / n), .int b, .int c], ?_, Int.emod_nonneg _ (by omega), Int.emod_lt_of_pos _ h0, ⟨a / n, b, c, at1 _, Int.ediv_nonneg ha (by omega), hb, hb'⟩⟩
    have hx : exec G o fnDraw.body [some (.loc p), some (.int n), none] h = .ok (.rt (.int (a % n))) (obSet h p (.lst [.int (a / n), .int b, .int c])) := by
      simp [fnDraw, exec, ev, evs, evP, evPs, nth, put, apIx, seqOf, lstOf, e, atI, apCmp, test, truth, hpos, apBi, setIx, ixN, PV.isD, h0, h1, at1]
    have := run_int (G := G) (o := o) (fn := fnDraw) (args := [.loc p, .int n]) rfl rfl rfl hx
    rw [this, obSet_len]
  · have q1 : -18446744073709551616 < b := by omega
    have q2 : b < 18446744073709551616 := by omega
    have b0 := Int.emod_nonneg (b * (b % 10007 + 20011) + 60013 * (c + 1) + 61) (b := 2147483563) (by decide)
    have b1 := Int.emod_lt_of_pos (b * (b % 10007 + 20011) + 60013 * (c + 1) + 61) (b := 2147483563) (by decide)
    refine ⟨(b * (b % 10007 + 20011) + 60013 * (c + 1) + 61) % 2147483563 / 97 % n, [.int a, .int ((b * (b % 10007 + 20011) + 60013 * (c + 1) + 61) % 2147483563), .int (c + 1)], ?_, Int.emod_nonneg _ (Int.ne_of_gt h0), Int.emod_lt_of_pos _ h0, ⟨a, _, c + 1, at1 _, ha, b0, b1⟩⟩
    have hx : exec G o fnDraw.body [some (.loc p), some (.int n), none] h = .ok (.rt (.int ((b * (b % 10007 + 20011) + 60013 * (c + 1) + 61) % 2147483563 / 97 % n))) (obSet h p (.lst [.int a, .int ((b * (b % 10007 + 20011) + 60013 * (c + 1) + 61) % 2147483563), .int (c + 1)])) := by
      simp [fnDraw, exec, ev, evs, evP, evPs, nth, put, apIx, seqOf, lstOf, e, atI, apCmp, test, truth, hpos, apBi, setIx, ixN, PV.isD, h0, h1, at1, apBin, obSet_twice, small64, two64, q1, q2]
    rw [run_int (G := G) (o := o) (fn := fnDraw) (args := [.loc p, .int n]) rfl rfl rfl hx, obSet_len]
theorem intsOf_map : ∀ is : List Int, intsOf (is.map .int) = some is
  | [] => rfl
  | i :: is => by rw [List.map_cons, intsOf, intsOf_map is]
theorem cut_map {α β : Type} (f : α → β) (xs : List α) (lo hi : Option Int) : cut (xs.map f) lo hi = (cut xs lo hi).map f := by
  simp only [cut, List.length_map, List.map_take, List.map_drop]
theorem cut_len {α : Type} (xs : List α) (n : Nat) : (cut xs none (some (n : Int))).length ≤ n := by
  unfold cut
  rw [List.length_take]
  refine Nat.le_trans (Nat.min_le_left _ _) ?_
  show (if n ≤ xs.length then n else xs.length) - 0 ≤ n
  split <;> omega
theorem atI_map {α β : Type} (f : α → β) (xs : List α) (t : Nat) (h : t < xs.length) : Mi.atI (xs.map f) (t : Int) = some (f xs[t]) := by
  show (xs.map f)[t]? = _
  rw [List.getElem?_map, List.getElem?_eq_getElem h]
  rfl
/-- the loop that stirs -/
theorem stir (m : Int) (hm : m = 2147483563) (body : Sx) (hb : body = .asg (.nm 3) (.bin false .mod (.bi .int (.cons false (.bin false .add (.bin false .add (.bin false .mul (.var 3) (.cst (.int 69621))) (.bin false .mod (.bi .int (.cons false (.var 4) .nil)) (.cst (.int m)))) (.cst (.int 23))) .nil)) (.cst (.int m)))) :
    ∀ (is : List Int) (a b c : Option PV) (s : Int) (z : Option PV), ∃ (s' : Int) (z' : Option PV), forL (evP G o (.nm 4)) (exec G o body) (is.map .int) [a, b, c, some (.int s), z] [] = .ok (.nx [a, b, c, some (.int s'), z']) [] ∧ (is ≠ [] ∨ (0 ≤ s ∧ s < 2147483563) → 0 ≤ s' ∧ s' < 2147483563)
  | [], a, b, c, s, z => ⟨s, z, rfl, fun h => h.elim (fun h => absurd rfl h) id⟩
  | i :: is, a, b, c, s, z => by
    subst hm
    have hi : (0 : Int) < 2147483563 := by decide
    obtain ⟨s', z', e, h⟩ := stir 2147483563 rfl body hb is a b c ((s * 69621 + i % 2147483563 + 23) % 2147483563) (some (.int i))
    refine ⟨s', z', ?_, fun _ => h (.inr ⟨Int.emod_nonneg _ (by decide), Int.emod_lt_of_pos _ (by decide)⟩)⟩
    rw [List.map_cons, forL]
    have e1 : evP G o (.nm 4) (.int i) [a, b, c, some (.int s), z] [] = .ok [a, b, c, some (.int s), some (.int i)] [] := by rw [evP]; rfl
    have e2 : exec G o body [a, b, c, some (.int s), some (.int i)] [] = .ok (.nx [a, b, c, some (.int ((s * 69621 + i % 2147483563 + 23) % 2147483563)), some (.int i)]) [] := by
      rw [hb]
      simp [exec, ev, evs, evP, nth, put, apBi, apBin, small64, two64]
    rw [e1]
    simp only
    rw [e2]
    exact e
theorem pot_ok {c1 c2 : Int} (hc : -18446744073709551616 < c2 ∧ c2 < 18446744073709551616) (ns : List Int) (s : PV) (hs : s = .frz (ns.map .int) ∨ s = .lst (ns.map .int)) (t : Nat) (h : List Ob) :
    ∃ xs : List PV, runFn G o (fnPot c1 c2) [s, .int t] h = .ok (.loc h.length) (h ++ [.lst xs]) ∧ PotAt (h ++ [.lst xs]) h.length := by
  have cell : ∃ c : Int, ev G o (.ife (.cmp .lt (.var 1) (.bi .len (.cons false (.var 0) .nil))) (.bi .int (.cons false (.ix (.var 0) (.var 1)) .nil)) (.bin false .add (.bin false .add (.bin false .mul (.cst (.int 7907)) (.var 1)) (.cst (.int 37))) (.bin false .mod (.bi .int (.cons false (.bi .sum (.cons false (.sl false (.var 0) .nil (.cons false (.cst (.int 3)) .nil)) .nil)) .nil)) (.cst (.int 1000033))))) [some s, some (.int t), none, none, none] [] = .ok (.int c) [] := by
    by_cases hl : t < ns.length
    · refine ⟨ns[t], ?_⟩
      have hl' : (t : Int) < (ns.length : Int) := by omega
      have ha := atI_map PV.int ns t hl
      rcases hs with rfl | rfl <;> simp [ev, evs, nth, apBi, apCmp, seqOf, lstOf, test, truth, hl, apIx, ha]
    · refine ⟨7907 * t + 37 + sumI (cut ns none (some 3)) % 1000033, ?_⟩
      have hl' : ¬ (t : Int) < (ns.length : Int) := by omega
      rcases hs with rfl | rfl <;> simp [ev, evs, nth, apBi, apCmp, seqOf, lstOf, test, truth, List.length_map, hl, bndR, bound, apSl, mkL, cut_map, intsOf_map, apBin, small64, two64]
  obtain ⟨c, hcell⟩ := cell
  obtain ⟨s', z', hst, hs'⟩ := stir (G := G) (o := o) 2147483563 rfl _ rfl (cut ns none (some 7) ++ [c]) (some s) (some (.int t)) (some (.int c)) (c1 + c2 * t) none
  obtain ⟨s0, s1⟩ := hs' (.inl (by simp))
  have hw : ∀ f : Int, 0 ≤ f → PotAt (h ++ [.lst [.int f, .int s', .int 0]]) h.length := fun f hf => ⟨f, s', 0, obAt_last, hf, s0, s1⟩
  have hit : evI G o (.plain (.bin false .add (.sl false (.var 0) .nil (.cons false (.cst (.int 7)) .nil)) (.lst false (.cons false (.var 2) .nil)))) [some s, some (.int t), some (.int c), some (.int (c1 + c2 * t)), none] [] = .ok ((cut ns none (some 7) ++ [c]).map .int) [] := by
    have l7 : (cut ns none (some (7 : Int))).length + 1 ≤ 16777216 := by have := cut_len ns 7; have e : (cut ns none (some (7 : Int))).length = (cut ns none (some ((7 : Nat) : Int))).length := rfl; omega
    rcases hs with rfl | rfl <;> simp [evI, ev, evs, nth, bndR, bound, apSl, lstOf, lstOf', mkL, cut_map, apBin, allD, PV.isD, line, l7]
  have e2 : ev G o (.bin false .add (.cst (.int c1)) (.bin false .mul (.cst (.int c2)) (.var 1))) [some s, some (.int t), some (.int c), none, none] [] = .ok (.int (c1 + c2 * t)) [] := by
    simp [ev, nth, apBin, small64, two64, hc.1, hc.2]
  have hx : ∃ f : Int, 0 ≤ f ∧ exec G o (fnPot c1 c2).body [some s, some (.int t), none, none, none] [] = .ok (.rt (.loc 0)) [.lst [.int f, .int s', .int 0]] := by
    have e3 : ∃ f : Int, 0 ≤ f ∧ ∀ σ : Sl, nth σ 2 = some (.int c) → nth σ 3 = some (.int s') → ev G o (.lst true (.cons false (.ife (.or (.cmp .lt (.var 2) (.cst (.int 0))) (.cmp .ge (.var 2) (.bin false .pow (.cst (.int 10)) (.cst (.int 18))))) (.bin false .mod (.bi .int (.cons false (.bi .abs (.cons false (.var 2) .nil)) .nil)) (.bin false .pow (.cst (.int 10)) (.cst (.int 64)))) (.cst (.int 0))) (.cons false (.var 3) (.cons false (.cst (.int 0)) .nil)))) σ [] = .ok (.loc 0) [.lst [.int f, .int s', .int 0]] := by
      by_cases h1 : c < 0
      · refine ⟨-c % 10 ^ 64, Int.emod_nonneg _ (by decide), fun σ q1 q2 => ?_⟩
        simp [ev, evs, q1, q2, apCmp, apBi, apBin, truth, test, h1, allD, PV.isD, line, mkL]
      · by_cases h2 : 1000000000000000000 ≤ c
        · refine ⟨c % 10 ^ 64, Int.emod_nonneg _ (by decide), fun σ q1 q2 => ?_⟩
          simp [ev, evs, q1, q2, apCmp, apBi, apBin, truth, test, h1, h2, allD, PV.isD, line, mkL]
        · refine ⟨0, Int.le_refl _, fun σ q1 q2 => ?_⟩
          simp [ev, evs, q1, q2, apCmp, apBi, apBin, truth, test, h1, h2, allD, PV.isD, line, mkL]
    obtain ⟨f, hf, e3⟩ := e3
    refine ⟨f, hf, ?_⟩
    unfold fnPot
    refine (do_seq (do_asg hcell)).trans ?_
    refine (do_seq (do_asg e2)).trans ?_
    refine (do_seq ((do_for hit).trans hst)).trans ?_
    exact do_ret (e3 _ rfl rfl)
  obtain ⟨f, hf, hx⟩ := hx
  refine ⟨[.int f, .int s', .int 0], ?_, hw f hf⟩
  unfold runFn
  have e0 : startSl [s, .int (t : Int)] ((fnPot c1 c2).slots - (fnPot c1 c2).pars) = [some s, some (.int t), none, none, none] := rfl
  have e1 : Nat.beq [s, PV.int (t : Int)].length (fnPot c1 c2).pars = true := rfl
  rw [e1]
  simp only
  rw [show allD [s, PV.int (t : Int)] = true from by rcases hs with rfl | rfl <;> rfl]
  simp only
  rw [e0, hx]
  rfl
end
end Mi

namespace K81
open PySem L2 Mi
def top (i : Nat) : Stmt := PySem.Challenge.pw_iceyards_k81_whole_texts_of_deeds.main.body.getD i (.Pass ⟨0, 0, 0, 0⟩)
/-- is_whole: value -/
def f0 : Fn := ⟨1, 1, (.ret (.and (.bi (.isi .int) (.cons false (.var 0) .nil)) (.not (.bi (.isi .bool) (.cons false (.var 0) .nil))))), false⟩
/-- is_tuple_of: value, many -/
def f1 : Fn := ⟨2, 2, (.ret (.and (.bi (.isi .tuple) (.cons false (.var 0) .nil)) (.cmp .eq (.bi .len (.cons false (.var 0) .nil)) (.var 1)))), false⟩
/-- are_wholes: value, many, each -/
def f2 : Fn := ⟨2, 3, (.ret (.and (.call 1 (.cons false (.var 0) (.cons false (.var 1) .nil))) (.bi .all (.cons false (.lc false [2] (.plain (.var 0)) (.nm 2) (.cst (.bl true)) (.call 0 (.cons false (.var 2) .nil))) .nil)))), false⟩
/-- is_text_of: value, signs, sign -/
def f3 : Fn := ⟨2, 3, (.ret (.and (.bi (.isi .str) (.cons false (.var 0) .nil)) (.bi .all (.cons false (.lc false [2] (.plain (.var 0)) (.nm 2) (.cst (.bl true)) (.cmp .isIn (.var 2) (.var 1))) .nil)))), false⟩
/-- is_turn_word: value -/
def f4 : Fn := ⟨1, 1, (.ret (.and (.bi (.isi .str) (.cons false (.var 0) .nil)) (.cmp .isIn (.var 0) (.glb 4)))), false⟩
/-- is_deed: value -/
def f5 : Fn := ⟨1, 1, (.seq (.ife (.or (.not (.bi (.isi .tuple) (.cons false (.var 0) .nil))) (.or (.cmp .eq (.var 0) (.tup .nil)) (.not (.bi (.isi .str) (.cons false (.ix (.var 0) (.cst (.int 0))) .nil))))) (.ret (.cst (.bl false))) .pass) (.seq (.ife (.cmp .eq (.ix (.var 0) (.cst (.int 0))) (.glb 5)) (.ret (.call 2 (.cons false (.sl false (.var 0) (.cons false (.cst (.int 1)) .nil) .nil) (.cons false (.cst (.int 2)) .nil)))) .pass) (.seq (.ife (.cmp .eq (.ix (.var 0) (.cst (.int 0))) (.glb 6)) (.ret (.and (.call 1 (.cons false (.var 0) (.cons false (.cst (.int 2)) .nil))) (.call 4 (.cons false (.ix (.var 0) (.cst (.int 1))) .nil)))) .pass) (.ret (.cmp .eq (.var 0) (.tup (.cons false (.glb 7) .nil))))))), false⟩
/-- count_told: word -/
def f6 : Fn := ⟨1, 1, (.seq (.ife (.or (.cmp .eq (.var 0) (.cst (.str []))) (.not (.call 3 (.cons false (.var 0) (.cons false (.glb 10) .nil))))) (.ret (.cst .non)) .pass) (.ret (.ife (.and (.cmp .eq (.ix (.var 0) (.cst (.int 0))) (.cst (.str [48]))) (.cmp .gt (.bi .len (.cons false (.var 0) .nil)) (.cst (.int 1)))) (.cst .non) (.bi .int (.cons false (.var 0) .nil))))), false⟩
/-- whole_told: word, found -/
def f7 : Fn := ⟨1, 2, (.seq (.ife (.cmp .ne (.sl false (.var 0) .nil (.cons false (.cst (.int 1)) .nil)) (.glb 9)) (.ret (.call 6 (.cons false (.var 0) .nil))) .pass) (.seq (.asg (.nm 1) (.call 6 (.cons false (.sl false (.var 0) (.cons false (.cst (.int 1)) .nil) .nil) .nil))) (.ret (.ife (.or (.cmp .isN (.var 1) (.cst .non)) (.cmp .eq (.var 1) (.cst (.int 0)))) (.cst .non) (.bin false .sub (.cst (.int 0)) (.var 1)))))), false⟩
/-- text_of_deed: deed, part -/
def f8 : Fn := ⟨1, 2, (.ret (.me .join (.glb 8) (.cons false (.lc false [1] (.plain (.var 0)) (.nm 1) (.cst (.bl true)) (.fs (.cons false (.fmt (.var 1)) .nil))) .nil))), false⟩
/-- deed_of_text: text, words, found, word -/
def f9 : Fn := ⟨1, 4, (.seq (.ife (.not (.bi (.isi .str) (.cons false (.var 0) .nil))) (.ret (.cst .non)) .pass) (.seq (.asg (.nm 1) (.me (.split false) (.var 0) (.cons false (.glb 8) .nil))) (.seq (.asg (.nm 2) (.ife (.cmp .eq (.ix (.var 1) (.cst (.int 0))) (.glb 5)) (.tup (.cons false (.glb 5) (.cons true (.lc false [3] (.plain (.sl false (.var 1) (.cons false (.cst (.int 1)) .nil) .nil)) (.nm 3) (.cst (.bl true)) (.call 7 (.cons false (.var 3) .nil))) .nil))) (.bi .tuple (.cons false (.var 1) .nil)))) (.ret (.ife (.call 5 (.cons false (.var 2) .nil)) (.var 2) (.cst .non)))))), false⟩
/-- check_told: found, text -/
def f10 : Fn := ⟨2, 2, (.ife (.cmp .isN (.var 0) (.cst .non)) (.rse 0 (.var 1)) .pass), false⟩
/-- deed_text: deed -/
def f11 : Fn := ⟨1, 1, (.seq (.ife (.not (.call 5 (.cons false (.var 0) .nil))) (.rse 1 (.var 0)) .pass) (.ret (.call 8 (.cons false (.var 0) .nil)))), false⟩
/-- read_deed: text, found -/
def f12 : Fn := ⟨1, 2, (.seq (.asg (.nm 1) (.call 9 (.cons false (.var 0) .nil))) (.seq (.expr (.call 10 (.cons false (.var 1) (.cons false (.var 0) .nil)))) (.ret (.var 1)))), false⟩
/-- _law_pot: script, turn, cell, stirred, each -/
def f13 : Fn := ⟨2, 5, (.seq (.asg (.nm 2) (.ife (.cmp .lt (.var 1) (.bi .len (.cons false (.var 0) .nil))) (.bi .int (.cons false (.ix (.var 0) (.var 1)) .nil)) (.bin false .add (.bin false .add (.bin false .mul (.cst (.int 7907)) (.var 1)) (.cst (.int 37))) (.bin false .mod (.bi .int (.cons false (.bi .sum (.cons false (.sl false (.var 0) .nil (.cons false (.cst (.int 3)) .nil)) .nil)) .nil)) (.cst (.int 1000033)))))) (.seq (.asg (.nm 3) (.bin false .add (.cst (.int 1002511)) (.bin false .mul (.cst (.int 9923)) (.var 1)))) (.seq (.for (.plain (.bin false .add (.sl false (.var 0) .nil (.cons false (.cst (.int 7)) .nil)) (.lst false (.cons false (.var 2) .nil)))) (.nm 4) (.asg (.nm 3) (.bin false .mod (.bi .int (.cons false (.bin false .add (.bin false .add (.bin false .mul (.var 3) (.cst (.int 69621))) (.bin false .mod (.bi .int (.cons false (.var 4) .nil)) (.cst (.int 2147483563)))) (.cst (.int 23))) .nil)) (.cst (.int 2147483563))))) (.ret (.lst true (.cons false (.ife (.or (.cmp .lt (.var 2) (.cst (.int 0))) (.cmp .ge (.var 2) (.bin false .pow (.cst (.int 10)) (.cst (.int 18))))) (.bin false .mod (.bi .int (.cons false (.bi .abs (.cons false (.var 2) .nil)) .nil)) (.bin false .pow (.cst (.int 10)) (.cst (.int 64)))) (.cst (.int 0))) (.cons false (.var 3) (.cons false (.cst (.int 0)) .nil)))))))), true⟩
/-- _law_draw: pot, many, digit -/
def f14 : Fn := ⟨2, 3, (.seq (.ife (.cmp .gt (.ix (.var 0) (.cst (.int 0))) (.cst (.int 0))) (.seq (.asg (.tp (.cons (.sx (.var 0) (.cst (.int 0))) (.cons (.nm 2) .nil))) (.bi .divmod (.cons false (.ix (.var 0) (.cst (.int 0))) (.cons false (.var 1) .nil)))) (.ret (.var 2))) .pass) (.seq (.asg (.sx (.var 0) (.cst (.int 2))) (.bin false .add (.ix (.var 0) (.cst (.int 2))) (.cst (.int 1)))) (.seq (.asg (.sx (.var 0) (.cst (.int 1))) (.bin false .mod (.bi .int (.cons false (.bin false .add (.bin false .add (.bin false .mul (.ix (.var 0) (.cst (.int 1))) (.bin false .add (.bin false .mod (.bi .int (.cons false (.ix (.var 0) (.cst (.int 1))) .nil)) (.cst (.int 10007))) (.cst (.int 20011)))) (.bin false .mul (.cst (.int 60013)) (.ix (.var 0) (.cst (.int 2))))) (.cst (.int 61))) .nil)) (.cst (.int 2147483563)))) (.ret (.bin false .mod (.bi .int (.cons false (.bin false .fdiv (.ix (.var 0) (.cst (.int 1))) (.cst (.int 97))) .nil)) (.var 1)))))), false⟩
/-- _law_pick: pot, some -/
def f15 : Fn := ⟨2, 2, (.ret (.ix (.var 1) (.call 14 (.cons false (.var 0) (.cons false (.bi .len (.cons false (.var 1) .nil)) .nil))))), false⟩
/-- _law_same: told, due, at -/
def f16 : Fn := ⟨2, 3, (.seq (.ife (.or (.and (.bi (.isi .tuple) (.cons false (.var 1) .nil)) (.bi (.isi .tuple) (.cons false (.var 0) .nil))) (.and (.bi (.isi .list) (.cons false (.var 1) .nil)) (.bi (.isi .list) (.cons false (.var 0) .nil)))) (.ret (.and (.cmp .eq (.bi .len (.cons false (.var 0) .nil)) (.bi .len (.cons false (.var 1) .nil))) (.bi .all (.cons false (.lc false [2] (.rng (.cons false (.bi .len (.cons false (.var 1) .nil)) .nil)) (.nm 2) (.cst (.bl true)) (.call 16 (.cons false (.ix (.var 0) (.var 2)) (.cons false (.ix (.var 1) (.var 2)) .nil)))) .nil)))) .pass) (.seq (.ife (.or (.bi (.isi .tuple) (.cons false (.var 1) .nil)) (.or (.bi (.isi .list) (.cons false (.var 1) .nil)) (.cmp .ne (.bi (.isi .bool) (.cons false (.var 1) .nil)) (.bi (.isi .bool) (.cons false (.var 0) .nil))))) (.ret (.cst (.bl false))) .pass) (.seq (.ife (.or (.cmp .ne (.bi (.isi .int) (.cons false (.var 1) .nil)) (.bi (.isi .int) (.cons false (.var 0) .nil))) (.cmp .ne (.bi (.isi .str) (.cons false (.var 1) .nil)) (.bi (.isi .str) (.cons false (.var 0) .nil)))) (.ret (.cst (.bl false))) .pass) (.ret (.ife (.cmp .isN (.var 1) (.cst .non)) (.cmp .isN (.var 0) (.cst .non)) (.cmp .eq (.var 0) (.var 1))))))), false⟩
/-- _law_heard: act -/
def f17 : Fn := ⟨1, 1, .stuck, false⟩
/-- _law_whole: word, figures, sign -/
def f18 : Fn := ⟨1, 3, (.seq (.asg (.nm 1) (.ife (.cmp .eq (.sl false (.var 0) .nil (.cons false (.cst (.int 1)) .nil)) (.cst (.str [45]))) (.sl false (.var 0) (.cons false (.cst (.int 1)) .nil) .nil) (.var 0))) (.seq (.ife (.or (.cmp .eq (.var 1) (.cst (.str []))) (.or (.not (.bi .all (.cons false (.lc false [2] (.plain (.var 1)) (.nm 2) (.cst (.bl true)) (.cmp .isIn (.var 2) (.cst (.str [48, 49, 50, 51, 52, 53, 54, 55, 56, 57])))) .nil))) (.and (.cmp .eq (.ix (.var 1) (.cst (.int 0))) (.cst (.str [48]))) (.cmp .ne (.var 0) (.cst (.str [48])))))) (.ret (.lst false .nil)) .pass) (.ret (.lst false (.cons false (.bi .int (.cons false (.var 0) .nil)) .nil))))), false⟩
/-- _law_read: text, words, numbers -/
def f19 : Fn := ⟨1, 3, (.seq (.asg (.nm 1) (.me (.split false) (.var 0) (.cons false (.cst (.str [32])) .nil))) (.seq (.ife (.cmp .eq (.var 1) (.lst false (.cons false (.cst (.str [115, 112, 105, 110])) .nil))) (.ret (.tup (.cons false (.cst (.str [115, 112, 105, 110])) .nil))) .pass) (.seq (.ife (.cmp .eq (.ix (.var 1) (.cst (.int 0))) (.cst (.str [116, 117, 114, 110]))) (.ret (.ife (.and (.cmp .eq (.bi .len (.cons false (.var 1) .nil)) (.cst (.int 2))) (.cmp .isIn (.ix (.var 1) (.cst (.int 1))) (.tup (.cons false (.cst (.str [109, 105, 114, 114, 111, 114])) (.cons false (.cst (.str [111, 118, 101, 114])) (.cons false (.cst (.str [115, 119, 97, 112])) (.cons false (.cst (.str [119, 104, 101, 101, 108])) .nil))))))) (.tup (.cons false (.cst (.str [116, 117, 114, 110])) (.cons false (.ix (.var 1) (.cst (.int 1))) .nil))) (.tup .nil))) .pass) (.seq (.ife (.or (.cmp .ne (.ix (.var 1) (.cst (.int 0))) (.cst (.str [102, 108, 105, 112]))) (.cmp .ne (.bi .len (.cons false (.var 1) .nil)) (.cst (.int 3)))) (.ret (.tup .nil)) .pass) (.seq (.asg (.nm 2) (.bin false .add (.call 18 (.cons false (.ix (.var 1) (.cst (.int 1))) .nil)) (.call 18 (.cons false (.ix (.var 1) (.cst (.int 2))) .nil)))) (.ret (.ife (.cmp .eq (.bi .len (.cons false (.var 2) .nil)) (.cst (.int 2))) (.tup (.cons false (.cst (.str [102, 108, 105, 112])) (.cons false (.ix (.var 2) (.cst (.int 0))) (.cons false (.ix (.var 2) (.cst (.int 1))) .nil)))) (.tup .nil)))))))), false⟩
/-- _law_is_deed: value, each -/
def f20 : Fn := ⟨1, 2, (.seq (.ife (.or (.not (.bi (.isi .tuple) (.cons false (.var 0) .nil))) (.or (.cmp .eq (.var 0) (.tup .nil)) (.not (.bi (.isi .str) (.cons false (.ix (.var 0) (.cst (.int 0))) .nil))))) (.ret (.cst (.bl false))) .pass) (.seq (.ife (.and (.cmp .eq (.ix (.var 0) (.cst (.int 0))) (.cst (.str [102, 108, 105, 112]))) (.cmp .eq (.bi .len (.cons false (.var 0) .nil)) (.cst (.int 3)))) (.ret (.bi .all (.cons false (.lc false [1] (.plain (.sl false (.var 0) (.cons false (.cst (.int 1)) .nil) .nil)) (.nm 1) (.cst (.bl true)) (.and (.bi (.isi .int) (.cons false (.var 1) .nil)) (.not (.bi (.isi .bool) (.cons false (.var 1) .nil))))) .nil))) .pass) (.seq (.ife (.and (.cmp .eq (.ix (.var 0) (.cst (.int 0))) (.cst (.str [116, 117, 114, 110]))) (.cmp .eq (.bi .len (.cons false (.var 0) .nil)) (.cst (.int 2)))) (.ret (.and (.bi (.isi .str) (.cons false (.ix (.var 0) (.cst (.int 1))) .nil)) (.cmp .isIn (.ix (.var 0) (.cst (.int 1))) (.tup (.cons false (.cst (.str [109, 105, 114, 114, 111, 114])) (.cons false (.cst (.str [111, 118, 101, 114])) (.cons false (.cst (.str [115, 119, 97, 112])) (.cons false (.cst (.str [119, 104, 101, 101, 108])) .nil)))))))) .pass) (.ret (.cmp .eq (.var 0) (.tup (.cons false (.cst (.str [115, 112, 105, 110])) .nil))))))), false⟩
/-- _law_deed: pot, one, other, lap -/
def f21 : Fn := ⟨1, 4, (.seq (.asg (.tp (.cons (.nm 1) (.cons (.nm 2) .nil))) (.lc false [3] (.plain (.tup (.cons false (.cst (.int 0)) (.cons false (.cst (.int 1)) .nil)))) (.nm 3) (.cst (.bl true)) (.call 15 (.cons false (.var 0) (.cons false (.tup (.cons false (.cst (.int 0)) (.cons false (.cst (.int 1)) (.cons false (.cst (.int 2)) (.cons false (.cst (.int 3)) (.cons false (.neg (.cst (.int 1))) (.cons false (.cst (.int 10)) (.cons false (.bin false .pow (.cst (.int 10)) (.cst (.int 20))) (.cons false (.neg (.bin false .pow (.cst (.int 10)) (.cst (.int 9)))) .nil))))))))) .nil))))) (.ret (.call 15 (.cons false (.var 0) (.cons false (.tup (.cons false (.tup (.cons false (.cst (.str [102, 108, 105, 112])) (.cons false (.var 1) (.cons false (.var 2) .nil)))) (.cons false (.tup (.cons false (.cst (.str [102, 108, 105, 112])) (.cons false (.var 1) (.cons false (.var 2) .nil)))) (.cons false (.tup (.cons false (.cst (.str [116, 117, 114, 110])) (.cons false (.call 15 (.cons false (.var 0) (.cons false (.tup (.cons false (.cst (.str [109, 105, 114, 114, 111, 114])) (.cons false (.cst (.str [111, 118, 101, 114])) (.cons false (.cst (.str [115, 119, 97, 112])) (.cons false (.cst (.str [119, 104, 101, 101, 108])) .nil))))) .nil))) .nil))) (.cons false (.tup (.cons false (.cst (.str [115, 112, 105, 110])) .nil)) .nil))))) .nil))))), false⟩
/-- _law_bent: pot, text, way, at, sign, words, k -/
def f22 : Fn := ⟨2, 7, (.seq (.par 2 3 (.call 14 (.cons false (.var 0) (.cons false (.cst (.int 8)) .nil))) (.call 14 (.cons false (.var 0) (.cons false (.bin false .add (.bi .len (.cons false (.var 1) .nil)) (.cst (.int 1))) .nil)))) (.seq (.asg (.nm 4) (.call 15 (.cons false (.var 0) (.cons false (.cst (.str [48, 49, 50, 51, 45, 32, 10, 112, 115])) .nil)))) (.seq (.ife (.cmp .lt (.var 2) (.cst (.int 3))) (.ret (.ife (.cmp .eq (.var 2) (.cst (.int 0))) (.bin false .add (.sl false (.var 1) .nil (.cons false (.var 3) .nil)) (.sl false (.var 1) (.cons false (.bin false .add (.var 3) (.cst (.int 1))) .nil) .nil)) (.bin false .add (.bin false .add (.sl false (.var 1) .nil (.cons false (.var 3) .nil)) (.var 4)) (.sl false (.var 1) (.cons false (.bin false .sub (.bin false .add (.var 3) (.var 2)) (.cst (.int 1))) .nil) .nil)))) .pass) (.seq (.asg (.nm 5) (.me (.split true) (.var 1) (.cons false (.cst (.str [32])) .nil))) (.seq (.asg (.nm 6) (.call 14 (.cons false (.var 0) (.cons false (.bi .len (.cons false (.var 5) .nil)) .nil)))) (.seq (.ife (.cmp .eq (.var 2) (.cst (.int 3))) (.asg (.nm 5) (.rev true (.var 5))) (.ife (.cmp .eq (.var 2) (.cst (.int 4))) (.asg (.nm 5) (.bin true .add (.sl false (.var 5) .nil (.cons false (.bin false .add (.var 6) (.cst (.int 1))) .nil)) (.sl false (.var 5) (.cons false (.var 6) .nil) .nil))) (.ife (.cmp .eq (.var 2) (.cst (.int 5))) (.asg (.sx (.var 5) (.var 6)) (.call 15 (.cons false (.var 0) (.cons false (.tup (.cons false (.cst (.str [48])) (.cons false (.cst (.str [48, 48])) (.cons false (.cst (.str [45, 48])) (.cons false (.cst (.str [48, 49])) (.cons false (.cst (.str [43, 49])) (.cons false (.cst (.str [109, 105, 114, 114, 111, 114])) (.cons false (.cst (.str [115, 112, 105, 110])) (.cons false (.cst (.str [116, 117, 114, 110])) (.cons false (.cst (.str [102, 108, 105, 112])) (.cons false (.cst (.str [])) .nil))))))))))) .nil)))) .pass))) (.ret (.ife (.cmp .lt (.var 2) (.cst (.int 7))) (.me .join (.cst (.str [32])) (.cons false (.var 5) .nil)) (.call 15 (.cons false (.var 0) (.cons false (.tup (.cons false (.cst (.str [])) (.cons false (.cst (.str [32])) (.cons false (.cst .non) (.cons false (.cst (.int 5)) (.cons false (.tup (.cons false (.var 1) .nil)) (.cons false (.bin false .add (.var 1) (.cst (.str [32]))) (.cons false (.me .upper (.var 1) .nil) (.cons false (.cst (.str [116, 117, 114, 110])) (.cons false (.cst (.str [102, 108, 105, 112, 32, 48])) (.cons false (.cst (.str [115, 112, 105, 110, 32, 48])) (.cons false (.cst (.str [116, 117, 114, 110, 32, 116, 117, 114, 110])) .nil)))))))))))) .nil))))))))))), false⟩
/-- _law_odd: pot, deed, some, part -/
def f23 : Fn := ⟨2, 4, (.seq (.asg (.nm 2) (.lst false (.cons false (.cst .non) (.cons false (.tup .nil) (.cons false (.bin false .add (.var 1) (.tup (.cons false (.cst (.int 1)) .nil))) (.cons false (.bi (.list false) (.cons false (.var 1) .nil)) (.cons false (.me .join (.cst (.str [32])) (.cons false (.lc false [3] (.plain (.var 1)) (.nm 3) (.cst (.bl true)) (.bi .str1 (.cons false (.var 3) .nil))) .nil)) (.cons false (.cst (.int 5)) (.cons false (.tup (.cons false (.cst (.str [102, 108, 105, 112])) .nil)) (.cons false (.tup (.cons false (.cst (.str [102, 108, 105, 112])) (.cons false (.cst (.int 0)) .nil))) (.cons false (.tup (.cons false (.cst (.str [102, 108, 105, 112])) (.cons false (.cst (.int 0)) (.cons false (.cst .non) .nil)))) (.cons false (.tup (.cons false (.cst (.str [102, 108, 105, 112])) (.cons false (.cst (.bl true)) (.cons false (.cst (.int 1)) .nil)))) .nil)))))))))))) (.seq (.asg (.nm 2) (.bin false .add (.var 2) (.lst false (.cons false (.tup (.cons false (.cst (.str [102, 108, 105, 112])) (.cons false (.cst (.str [48])) (.cons false (.cst (.int 1)) .nil)))) (.cons false (.tup (.cons false (.cst (.str [116, 117, 114, 110])) .nil)) (.cons false (.tup (.cons false (.cst (.str [116, 117, 114, 110])) (.cons false (.cst (.str [77, 105, 114, 114, 111, 114])) .nil))) (.cons false (.tup (.cons false (.cst (.str [116, 117, 114, 110])) (.cons false (.cst .non) .nil))) (.cons false (.tup (.cons false (.cst (.str [116, 117, 114, 110])) (.cons false (.tup (.cons false (.cst (.str [109, 105, 114, 114, 111, 114])) .nil)) .nil))) (.cons false (.tup (.cons false (.cst (.str [115, 112, 105, 110])) (.cons false (.cst (.int 0)) .nil))) (.cons false (.tup (.cons false (.cst (.str [115, 112, 117, 110])) .nil)) (.cons false (.tup (.cons false (.cst (.int 5)) (.cons false (.cst (.int 0)) (.cons false (.cst (.int 0)) .nil)))) (.cons false (.tup (.cons false (.tup (.cons false (.cst (.str [102, 108, 105, 112])) .nil)) (.cons false (.cst (.int 0)) (.cons false (.cst (.int 0)) .nil)))) (.cons false (.var 1) .nil))))))))))))) (.ret (.call 15 (.cons false (.var 0) (.cons false (.var 2) .nil)))))), false⟩
/-- _law_is_right: pot, deed, text, told, turn, bent, odd, due, part -/
def f24 : Fn := ⟨2, 9, (.seq (.asg (.nm 2) (.me .join (.cst (.str [32])) (.cons false (.lc false [8] (.plain (.var 1)) (.nm 8) (.cst (.bl true)) (.bi .str1 (.cons false (.var 8) .nil))) .nil))) (.seq (.asg (.nm 3) (.lst false (.cons false (.call 11 (.cons false (.var 1) .nil)) (.cons false (.callk 11 .nil (.cons false (.var 1) .nil) [0]) (.cons false (.call 12 (.cons false (.var 2) .nil)) (.cons false (.callk 12 .nil (.cons false (.var 2) .nil) [0]) .nil)))))) (.seq (.ife (.or (.not (.call 16 (.cons false (.var 3) (.cons false (.lst false (.cons false (.var 2) (.cons false (.var 2) (.cons false (.var 1) (.cons false (.var 1) .nil))))) .nil)))) (.cmp .ne (.call 19 (.cons false (.var 2) .nil)) (.var 1))) (.ret (.cst (.bl false))) .pass) (.seq (.for (.rng (.cons false (.cst (.int 4)) .nil)) (.nm 4) (.seq (.asg (.tp (.cons (.nm 5) (.cons (.nm 6) .nil))) (.tup (.cons false (.call 22 (.cons false (.var 0) (.cons false (.var 2) .nil))) (.cons false (.call 23 (.cons false (.var 0) (.cons false (.var 1) .nil))) .nil)))) (.seq (.asg (.nm 7) (.ife (.bi (.isi .str) (.cons false (.var 5) .nil)) (.call 19 (.cons false (.var 5) .nil)) (.tup .nil))) (.seq (.ife (.not (.call 16 (.cons false (.lam 27 (.call 12 (.cons false (.var 5) .nil))) (.cons false (.ife (.cmp .ne (.var 7) (.tup .nil)) (.lst false (.cons false (.cst (.str [116, 111, 108, 100])) (.cons false (.var 7) .nil))) (.lst false (.cons false (.cst (.str [116, 101, 120, 116])) (.cons false (.var 5) .nil)))) .nil)))) (.ret (.cst (.bl false))) .pass) (.seq (.asg (.nm 7) (.ife (.call 20 (.cons false (.var 6) .nil)) (.lst false (.cons false (.cst (.str [116, 111, 108, 100])) (.cons false (.me .join (.cst (.str [32])) (.cons false (.lc false [8] (.plain (.var 6)) (.nm 8) (.cst (.bl true)) (.bi .str1 (.cons false (.var 8) .nil))) .nil)) .nil))) (.lst false (.cons false (.cst (.str [100, 101, 101, 100])) (.cons false (.var 6) .nil))))) (.ife (.not (.call 16 (.cons false (.lam 27 (.call 11 (.cons false (.var 6) .nil))) (.cons false (.var 7) .nil)))) (.ret (.cst (.bl false))) .pass)))))) (.ret (.cst (.bl true))))))), false⟩
/-- _law_right: pot, lap -/
def f25 : Fn := ⟨1, 2, (.seq (.for (.rng (.cons false (.cst (.int 60)) .nil)) (.nm 1) (.ife (.not (.call 24 (.cons false (.var 0) (.cons false (.call 21 (.cons false (.var 0) .nil)) .nil)))) (.ret (.cst (.bl false))) .pass)) (.ret (.cst (.bl true)))), false⟩
/-- law: script, pot, deeds, one, word, other, deed, turn -/
def f26 : Fn := ⟨1, 8, (.seq (.asg (.nm 1) (.call 13 (.cons false (.var 0) (.cons false (.cst (.int 5)) .nil)))) (.seq (.asg (.nm 2) (.bin false .add (.lc false [4] (.plain (.tup (.cons false (.cst (.str [109, 105, 114, 114, 111, 114])) (.cons false (.cst (.str [111, 118, 101, 114])) (.cons false (.cst (.str [115, 119, 97, 112])) (.cons false (.cst (.str [119, 104, 101, 101, 108])) .nil)))))) (.nm 4) (.cst (.bl true)) (.tup (.cons false (.cst (.str [116, 117, 114, 110])) (.cons false (.var 4) .nil)))) (.lst false (.cons false (.tup (.cons false (.cst (.str [115, 112, 105, 110])) .nil)) .nil)))) (.seq (.for (.rng (.cons false (.neg (.cst (.int 1))) (.cons false (.cst (.int 5)) .nil))) (.nm 3) (.asg (.nm 2) (.bin false .add (.var 2) (.lc false [5] (.rng (.cons false (.neg (.cst (.int 1))) (.cons false (.cst (.int 5)) .nil))) (.nm 5) (.cst (.bl true)) (.tup (.cons false (.cst (.str [102, 108, 105, 112])) (.cons false (.var 3) (.cons false (.var 5) .nil)))))))) (.seq (.ife (.not (.bi .all (.cons false (.lc false [6] (.plain (.var 2)) (.nm 6) (.cst (.bl true)) (.call 24 (.cons false (.var 1) (.cons false (.var 6) .nil)))) .nil))) (.ret (.cst (.bl false))) .pass) (.ret (.bi .all (.cons false (.lc false [7] (.rng (.cons false (.bi .max2 (.cons false (.cst (.int 2)) (.cons false (.bi .min2 (.cons false (.bi .len (.cons false (.var 0) .nil)) (.cons false (.cst (.int 4)) .nil))) .nil))) .nil)) (.nm 7) (.cst (.bl true)) (.call 25 (.cons false (.call 13 (.cons false (.var 0) (.cons false (.var 7) .nil))) .nil))) .nil))))))), false⟩
def hl0 : List (Str × Nat × List Nat) := [("InvalidText", 0, [116, 101, 120, 116]), ("InvalidDeed", 1, [100, 101, 101, 100])]
def told0 : List Nat := [116, 111, 108, 100]
def T : List Fn := [f0, f1, f2, f3, f4, f5, f6, f7, f8, f9, f10, f11, f12, f13, f14, f15, f16, f17, f18, f19, f20, f21, f22, f23, f24, f25, f26, fnHeard told0 hl0]
def G : Nat → Option PV
  | 0 => some (.str [109, 105, 114, 114, 111, 114])
  | 1 => some (.str [111, 118, 101, 114])
  | 2 => some (.str [115, 119, 97, 112])
  | 3 => some (.str [119, 104, 101, 101, 108])
  | 4 => some (.tup [(.str [109, 105, 114, 114, 111, 114]), (.str [111, 118, 101, 114]), (.str [115, 119, 97, 112]), (.str [119, 104, 101, 101, 108])])
  | 5 => some (.str [102, 108, 105, 112])
  | 6 => some (.str [116, 117, 114, 110])
  | 7 => some (.str [115, 112, 105, 110])
  | 8 => some (.str [32])
  | 9 => some (.str [45])
  | 10 => some (.str [48, 49, 50, 51, 52, 53, 54, 55, 56, 57])
  | _ => none
def S : SG := ⟨[(["is_whole"], ["value"], []),
  (["is_tuple_of"], ["value", "many"], []),
  (["are_wholes"], ["value", "many"], []),
  (["is_text_of"], ["value", "signs"], []),
  (["is_turn_word"], ["value"], []),
  (["is_deed"], ["value"], []),
  (["count_told"], ["word"], []),
  (["whole_told"], ["word"], []),
  (["text_of_deed"], ["deed"], []),
  (["deed_of_text"], ["text"], []),
  (["check_told"], ["found", "text"], []),
  (["deed_text"], ["deed"], [(0, ["deed"], [0])]),
  (["read_deed"], ["text"], [(0, ["text"], [0])]),
  (["_law_pot"], ["script", "turn"], []),
  (["_law_draw"], ["pot", "many"], []),
  (["_law_pick"], ["pot", "some"], []),
  (["_law_same"], ["told", "due"], []),
  (["_law_heard"], ["act"], []),
  (["_law_whole"], ["word"], []),
  (["_law_read"], ["text"], []),
  (["_law_is_deed"], ["value"], []),
  (["_law_deed"], ["pot"], []),
  (["_law_bent"], ["pot", "text"], []),
  (["_law_odd"], ["pot", "deed"], []),
  (["_law_is_right"], ["pot", "deed"], []),
  (["_law_right"], ["pot"], []),
  (["law"], ["script"], [])],
  ["MIRROR", "OVER", "SWAP", "WHEEL", "TURN_WORDS", "FLIP", "TURN", "SPIN", "BLANK", "MINUS", "DIGITS"], ["len", "int", "abs", "sum", "sorted", "tuple", "list", "all", "any", "min", "max", "divmod", "isinstance", "range", "bool", "str"], [("InvalidText", "given"), ("InvalidDeed", "given")], [(27, "_law_heard")]⟩
def N0 : List Str := ["value"]
def N1 : List Str := ["value", "many"]
def N2 : List Str := ["value", "many", "each"]
def N3 : List Str := ["value", "signs", "sign"]
def N4 : List Str := ["value"]
def N5 : List Str := ["value"]
def N6 : List Str := ["word"]
def N7 : List Str := ["word", "found"]
def N8 : List Str := ["deed", "part"]
def N9 : List Str := ["text", "words", "found", "word"]
def N10 : List Str := ["found", "text"]
def N11 : List Str := ["deed"]
def N12 : List Str := ["text", "found"]
def N13 : List Str := ["script", "turn", "cell", "stirred", "each"]
def N14 : List Str := ["pot", "many", "digit"]
def N15 : List Str := ["pot", "some"]
def N16 : List Str := ["told", "due", "at"]
def N17 : List Str := ["act"]
def N18 : List Str := ["word", "figures", "sign"]
def N19 : List Str := ["text", "words", "numbers"]
def N20 : List Str := ["value", "each"]
def N21 : List Str := ["pot", "one", "other", "lap"]
def N22 : List Str := ["pot", "text", "way", "at", "sign", "words", "k"]
def N23 : List Str := ["pot", "deed", "some", "part"]
def N24 : List Str := ["pot", "deed", "text", "told", "turn", "bent", "odd", "due", "part"]
def N25 : List Str := ["pot", "lap"]
def N26 : List Str := ["script", "pot", "deeds", "one", "word", "other", "deed", "turn"]
theorem sc0 : FnScope N0 ["value"] (defScope (top 1)) := ⟨rfl, rfl, rfl, by decide +kernel, rfl, by decide +kernel, by decide +kernel⟩
theorem ck0 : chkB S 200 ⟨defScope (top 1), N0, none, false⟩ (defBody (top 1)) f0.body = true := by decide +kernel
theorem t0 : DefTx S 200 T 0 "is_whole" ["value"] [] (top 1) false := by
  refine ⟨⟨f0, N0, rfl, sc0, rfl, rfl, ck0⟩, fun _ _ _ _ _ _ us hl => match us, hl with | [_], _ => rfl, fun kV doc pm an cdv ct e he => ?_⟩
  cases he
theorem sc1 : FnScope N1 ["value", "many"] (defScope (top 2)) := ⟨rfl, rfl, rfl, by decide +kernel, rfl, by decide +kernel, by decide +kernel⟩
theorem ck1 : chkB S 200 ⟨defScope (top 2), N1, none, false⟩ (defBody (top 2)) f1.body = true := by decide +kernel
theorem t1 : DefTx S 200 T 1 "is_tuple_of" ["value", "many"] [] (top 2) false := by
  refine ⟨⟨f1, N1, rfl, sc1, rfl, rfl, ck1⟩, fun _ _ _ _ _ _ us hl => match us, hl with | [_, _], _ => rfl, fun kV doc pm an cdv ct e he => ?_⟩
  cases he
theorem sc2 : FnScope N2 ["value", "many"] (defScope (top 3)) := ⟨rfl, rfl, rfl, by decide +kernel, rfl, by decide +kernel, by decide +kernel⟩
theorem ck2 : chkB S 200 ⟨defScope (top 3), N2, none, false⟩ (defBody (top 3)) f2.body = true := by decide +kernel
theorem t2 : DefTx S 200 T 2 "are_wholes" ["value", "many"] [] (top 3) false := by
  refine ⟨⟨f2, N2, rfl, sc2, rfl, rfl, ck2⟩, fun _ _ _ _ _ _ us hl => match us, hl with | [_, _], _ => rfl, fun kV doc pm an cdv ct e he => ?_⟩
  cases he
theorem sc3 : FnScope N3 ["value", "signs"] (defScope (top 4)) := ⟨rfl, rfl, rfl, by decide +kernel, rfl, by decide +kernel, by decide +kernel⟩
theorem ck3 : chkB S 200 ⟨defScope (top 4), N3, none, false⟩ (defBody (top 4)) f3.body = true := by decide +kernel
theorem t3 : DefTx S 200 T 3 "is_text_of" ["value", "signs"] [] (top 4) false := by
  refine ⟨⟨f3, N3, rfl, sc3, rfl, rfl, ck3⟩, fun _ _ _ _ _ _ us hl => match us, hl with | [_, _], _ => rfl, fun kV doc pm an cdv ct e he => ?_⟩
  cases he
theorem sc4 : FnScope N4 ["value"] (defScope (top 11)) := ⟨rfl, rfl, rfl, by decide +kernel, rfl, by decide +kernel, by decide +kernel⟩
theorem ck4 : chkB S 200 ⟨defScope (top 11), N4, none, false⟩ (defBody (top 11)) f4.body = true := by decide +kernel
theorem t4 : DefTx S 200 T 4 "is_turn_word" ["value"] [] (top 11) false := by
  refine ⟨⟨f4, N4, rfl, sc4, rfl, rfl, ck4⟩, fun _ _ _ _ _ _ us hl => match us, hl with | [_], _ => rfl, fun kV doc pm an cdv ct e he => ?_⟩
  cases he
theorem sc5 : FnScope N5 ["value"] (defScope (top 16)) := ⟨rfl, rfl, rfl, by decide +kernel, rfl, by decide +kernel, by decide +kernel⟩
theorem ck5 : chkB S 200 ⟨defScope (top 16), N5, none, false⟩ (defBody (top 16)) f5.body = true := by decide +kernel
theorem t5 : DefTx S 200 T 5 "is_deed" ["value"] [] (top 16) false := by
  refine ⟨⟨f5, N5, rfl, sc5, rfl, rfl, ck5⟩, fun _ _ _ _ _ _ us hl => match us, hl with | [_], _ => rfl, fun kV doc pm an cdv ct e he => ?_⟩
  cases he
theorem sc6 : FnScope N6 ["word"] (defScope (top 25)) := ⟨rfl, rfl, rfl, by decide +kernel, rfl, by decide +kernel, by decide +kernel⟩
theorem ck6 : chkB S 200 ⟨defScope (top 25), N6, none, false⟩ (defBody (top 25)) f6.body = true := by decide +kernel
theorem t6 : DefTx S 200 T 6 "count_told" ["word"] [] (top 25) false := by
  refine ⟨⟨f6, N6, rfl, sc6, rfl, rfl, ck6⟩, fun _ _ _ _ _ _ us hl => match us, hl with | [_], _ => rfl, fun kV doc pm an cdv ct e he => ?_⟩
  cases he
theorem sc7 : FnScope N7 ["word"] (defScope (top 26)) := ⟨rfl, rfl, rfl, by decide +kernel, rfl, by decide +kernel, by decide +kernel⟩
theorem ck7 : chkB S 200 ⟨defScope (top 26), N7, none, false⟩ (defBody (top 26)) f7.body = true := by decide +kernel
theorem t7 : DefTx S 200 T 7 "whole_told" ["word"] [] (top 26) false := by
  refine ⟨⟨f7, N7, rfl, sc7, rfl, rfl, ck7⟩, fun _ _ _ _ _ _ us hl => match us, hl with | [_], _ => rfl, fun kV doc pm an cdv ct e he => ?_⟩
  cases he
theorem sc8 : FnScope N8 ["deed"] (defScope (top 27)) := ⟨rfl, rfl, rfl, by decide +kernel, rfl, by decide +kernel, by decide +kernel⟩
theorem ck8 : chkB S 200 ⟨defScope (top 27), N8, none, false⟩ (defBody (top 27)) f8.body = true := by decide +kernel
theorem t8 : DefTx S 200 T 8 "text_of_deed" ["deed"] [] (top 27) false := by
  refine ⟨⟨f8, N8, rfl, sc8, rfl, rfl, ck8⟩, fun _ _ _ _ _ _ us hl => match us, hl with | [_], _ => rfl, fun kV doc pm an cdv ct e he => ?_⟩
  cases he
theorem sc9 : FnScope N9 ["text"] (defScope (top 28)) := ⟨rfl, rfl, rfl, by decide +kernel, rfl, by decide +kernel, by decide +kernel⟩
theorem ck9 : chkB S 200 ⟨defScope (top 28), N9, none, false⟩ (defBody (top 28)) f9.body = true := by decide +kernel
theorem t9 : DefTx S 200 T 9 "deed_of_text" ["text"] [] (top 28) false := by
  refine ⟨⟨f9, N9, rfl, sc9, rfl, rfl, ck9⟩, fun _ _ _ _ _ _ us hl => match us, hl with | [_], _ => rfl, fun kV doc pm an cdv ct e he => ?_⟩
  cases he
theorem sc10 : FnScope N10 ["found", "text"] (defScope (top 30)) := ⟨rfl, rfl, rfl, by decide +kernel, rfl, by decide +kernel, by decide +kernel⟩
theorem ck10 : chkB S 200 ⟨defScope (top 30), N10, none, false⟩ (defBody (top 30)) f10.body = true := by decide +kernel
theorem t10 : DefTx S 200 T 10 "check_told" ["found", "text"] [] (top 30) false := by
  refine ⟨⟨f10, N10, rfl, sc10, rfl, rfl, ck10⟩, fun _ _ _ _ _ _ us hl => match us, hl with | [_, _], _ => rfl, fun kV doc pm an cdv ct e he => ?_⟩
  cases he
theorem sc11 : FnScope N11 ["deed"] (defScope (top 31)) := ⟨rfl, rfl, rfl, by decide +kernel, rfl, by decide +kernel, by decide +kernel⟩
theorem ck11 : chkB S 200 ⟨defScope (top 31), N11, none, false⟩ (defBody (top 31)) f11.body = true := by decide +kernel
theorem t11 : DefTx S 200 T 11 "deed_text" ["deed"] [(0, ["deed"], [0])] (top 31) false := by
  refine ⟨⟨f11, N11, rfl, sc11, rfl, rfl, ck11⟩, fun _ _ _ _ _ _ us hl => match us, hl with | [_], _ => rfl, fun kV doc pm an cdv ct e he => ?_⟩
  simp only [List.mem_cons, List.not_mem_nil, or_false] at he
  rcases he with rfl
  · intro s us ws zs h1 h2 h3
    match us, h1, ws, h2 with
    | [], _, [_], _ => cases h3; exact .of_eq rfl
theorem sc12 : FnScope N12 ["text"] (defScope (top 32)) := ⟨rfl, rfl, rfl, by decide +kernel, rfl, by decide +kernel, by decide +kernel⟩
theorem ck12 : chkB S 200 ⟨defScope (top 32), N12, none, false⟩ (defBody (top 32)) f12.body = true := by decide +kernel
theorem t12 : DefTx S 200 T 12 "read_deed" ["text"] [(0, ["text"], [0])] (top 32) false := by
  refine ⟨⟨f12, N12, rfl, sc12, rfl, rfl, ck12⟩, fun _ _ _ _ _ _ us hl => match us, hl with | [_], _ => rfl, fun kV doc pm an cdv ct e he => ?_⟩
  simp only [List.mem_cons, List.not_mem_nil, or_false] at he
  rcases he with rfl
  · intro s us ws zs h1 h2 h3
    match us, h1, ws, h2 with
    | [], _, [_], _ => cases h3; exact .of_eq rfl
theorem sc13 : FnScope N13 ["script", "turn"] (defScope (top 34)) := ⟨rfl, rfl, rfl, by decide +kernel, rfl, by decide +kernel, by decide +kernel⟩
theorem ck13 : chkB S 200 ⟨defScope (top 34), N13, none, false⟩ (defBody (top 34)) f13.body = true := by decide +kernel
theorem t13 : DefTx S 200 T 13 "_law_pot" ["script", "turn"] [] (top 34) false := by
  refine ⟨⟨f13, N13, rfl, sc13, rfl, rfl, ck13⟩, fun _ _ _ _ _ _ us hl => match us, hl with | [_, _], _ => rfl, fun kV doc pm an cdv ct e he => ?_⟩
  cases he
theorem sc14 : FnScope N14 ["pot", "many"] (defScope (top 35)) := ⟨rfl, rfl, rfl, by decide +kernel, rfl, by decide +kernel, by decide +kernel⟩
theorem ck14 : chkB S 200 ⟨defScope (top 35), N14, none, false⟩ (defBody (top 35)) f14.body = true := by decide +kernel
theorem t14 : DefTx S 200 T 14 "_law_draw" ["pot", "many"] [] (top 35) false := by
  refine ⟨⟨f14, N14, rfl, sc14, rfl, rfl, ck14⟩, fun _ _ _ _ _ _ us hl => match us, hl with | [_, _], _ => rfl, fun kV doc pm an cdv ct e he => ?_⟩
  cases he
theorem sc15 : FnScope N15 ["pot", "some"] (defScope (top 36)) := ⟨rfl, rfl, rfl, by decide +kernel, rfl, by decide +kernel, by decide +kernel⟩
theorem ck15 : chkB S 200 ⟨defScope (top 36), N15, none, false⟩ (defBody (top 36)) f15.body = true := by decide +kernel
theorem t15 : DefTx S 200 T 15 "_law_pick" ["pot", "some"] [] (top 36) false := by
  refine ⟨⟨f15, N15, rfl, sc15, rfl, rfl, ck15⟩, fun _ _ _ _ _ _ us hl => match us, hl with | [_, _], _ => rfl, fun kV doc pm an cdv ct e he => ?_⟩
  cases he
theorem sc16 : FnScope N16 ["told", "due"] (defScope (top 37)) := ⟨rfl, rfl, rfl, by decide +kernel, rfl, by decide +kernel, by decide +kernel⟩
theorem ck16 : chkB S 200 ⟨defScope (top 37), N16, none, false⟩ (defBody (top 37)) f16.body = true := by decide +kernel
theorem t16 : DefTx S 200 T 16 "_law_same" ["told", "due"] [] (top 37) false := by
  refine ⟨⟨f16, N16, rfl, sc16, rfl, rfl, ck16⟩, fun _ _ _ _ _ _ us hl => match us, hl with | [_, _], _ => rfl, fun kV doc pm an cdv ct e he => ?_⟩
  cases he
theorem sc17 : FnScope N17 ["act"] (defScope (top 38)) := ⟨rfl, rfl, rfl, by decide +kernel, rfl, by decide +kernel, by decide +kernel⟩
theorem ck17 : chkB S 200 ⟨defScope (top 38), N17, none, false⟩ (defBody (top 38)) f17.body = true := by decide +kernel
theorem t17 : DefTx S 200 T 17 "_law_heard" ["act"] [] (top 38) false := by
  refine ⟨⟨f17, N17, rfl, sc17, rfl, rfl, ck17⟩, fun _ _ _ _ _ _ us hl => match us, hl with | [_], _ => rfl, fun kV doc pm an cdv ct e he => ?_⟩
  cases he
theorem sc18 : FnScope N18 ["word"] (defScope (top 39)) := ⟨rfl, rfl, rfl, by decide +kernel, rfl, by decide +kernel, by decide +kernel⟩
theorem ck18 : chkB S 200 ⟨defScope (top 39), N18, none, false⟩ (defBody (top 39)) f18.body = true := by decide +kernel
theorem t18 : DefTx S 200 T 18 "_law_whole" ["word"] [] (top 39) false := by
  refine ⟨⟨f18, N18, rfl, sc18, rfl, rfl, ck18⟩, fun _ _ _ _ _ _ us hl => match us, hl with | [_], _ => rfl, fun kV doc pm an cdv ct e he => ?_⟩
  cases he
theorem sc19 : FnScope N19 ["text"] (defScope (top 40)) := ⟨rfl, rfl, rfl, by decide +kernel, rfl, by decide +kernel, by decide +kernel⟩
theorem ck19 : chkB S 200 ⟨defScope (top 40), N19, none, false⟩ (defBody (top 40)) f19.body = true := by decide +kernel
theorem t19 : DefTx S 200 T 19 "_law_read" ["text"] [] (top 40) false := by
  refine ⟨⟨f19, N19, rfl, sc19, rfl, rfl, ck19⟩, fun _ _ _ _ _ _ us hl => match us, hl with | [_], _ => rfl, fun kV doc pm an cdv ct e he => ?_⟩
  cases he
theorem sc20 : FnScope N20 ["value"] (defScope (top 41)) := ⟨rfl, rfl, rfl, by decide +kernel, rfl, by decide +kernel, by decide +kernel⟩
theorem ck20 : chkB S 200 ⟨defScope (top 41), N20, none, false⟩ (defBody (top 41)) f20.body = true := by decide +kernel
theorem t20 : DefTx S 200 T 20 "_law_is_deed" ["value"] [] (top 41) false := by
  refine ⟨⟨f20, N20, rfl, sc20, rfl, rfl, ck20⟩, fun _ _ _ _ _ _ us hl => match us, hl with | [_], _ => rfl, fun kV doc pm an cdv ct e he => ?_⟩
  cases he
theorem sc21 : FnScope N21 ["pot"] (defScope (top 42)) := ⟨rfl, rfl, rfl, by decide +kernel, rfl, by decide +kernel, by decide +kernel⟩
theorem ck21 : chkB S 200 ⟨defScope (top 42), N21, none, false⟩ (defBody (top 42)) f21.body = true := by decide +kernel
theorem t21 : DefTx S 200 T 21 "_law_deed" ["pot"] [] (top 42) false := by
  refine ⟨⟨f21, N21, rfl, sc21, rfl, rfl, ck21⟩, fun _ _ _ _ _ _ us hl => match us, hl with | [_], _ => rfl, fun kV doc pm an cdv ct e he => ?_⟩
  cases he
theorem sc22 : FnScope N22 ["pot", "text"] (defScope (top 43)) := ⟨rfl, rfl, rfl, by decide +kernel, rfl, by decide +kernel, by decide +kernel⟩
theorem ck22 : chkB S 200 ⟨defScope (top 43), N22, none, false⟩ (defBody (top 43)) f22.body = true := by decide +kernel
theorem t22 : DefTx S 200 T 22 "_law_bent" ["pot", "text"] [] (top 43) false := by
  refine ⟨⟨f22, N22, rfl, sc22, rfl, rfl, ck22⟩, fun _ _ _ _ _ _ us hl => match us, hl with | [_, _], _ => rfl, fun kV doc pm an cdv ct e he => ?_⟩
  cases he
theorem sc23 : FnScope N23 ["pot", "deed"] (defScope (top 44)) := ⟨rfl, rfl, rfl, by decide +kernel, rfl, by decide +kernel, by decide +kernel⟩
theorem ck23 : chkB S 200 ⟨defScope (top 44), N23, none, false⟩ (defBody (top 44)) f23.body = true := by decide +kernel
theorem t23 : DefTx S 200 T 23 "_law_odd" ["pot", "deed"] [] (top 44) false := by
  refine ⟨⟨f23, N23, rfl, sc23, rfl, rfl, ck23⟩, fun _ _ _ _ _ _ us hl => match us, hl with | [_, _], _ => rfl, fun kV doc pm an cdv ct e he => ?_⟩
  cases he
theorem sc24 : FnScope N24 ["pot", "deed"] (defScope (top 45)) := ⟨rfl, rfl, rfl, by decide +kernel, rfl, by decide +kernel, by decide +kernel⟩
theorem ck24 : chkB S 200 ⟨defScope (top 45), N24, none, true⟩ (defBody (top 45)) f24.body = true := by decide +kernel
theorem t24 : DefTx S 200 T 24 "_law_is_right" ["pot", "deed"] [] (top 45) true := by
  refine ⟨⟨f24, N24, rfl, sc24, rfl, rfl, ck24⟩, fun _ _ _ _ _ _ us hl => match us, hl with | [_, _], _ => rfl, fun kV doc pm an cdv ct e he => ?_⟩
  cases he
theorem sc25 : FnScope N25 ["pot"] (defScope (top 46)) := ⟨rfl, rfl, rfl, by decide +kernel, rfl, by decide +kernel, by decide +kernel⟩
theorem ck25 : chkB S 200 ⟨defScope (top 46), N25, none, false⟩ (defBody (top 46)) f25.body = true := by decide +kernel
theorem t25 : DefTx S 200 T 25 "_law_right" ["pot"] [] (top 46) false := by
  refine ⟨⟨f25, N25, rfl, sc25, rfl, rfl, ck25⟩, fun _ _ _ _ _ _ us hl => match us, hl with | [_], _ => rfl, fun kV doc pm an cdv ct e he => ?_⟩
  cases he
theorem sc26 : FnScope N26 ["script"] (defScope (top 47)) := ⟨rfl, rfl, rfl, by decide +kernel, rfl, by decide +kernel, by decide +kernel⟩
theorem ck26 : chkB S 200 ⟨defScope (top 47), N26, none, false⟩ (defBody (top 47)) f26.body = true := by decide +kernel
theorem t26 : DefTx S 200 T 26 "law" ["script"] [] (top 47) false := by
  refine ⟨⟨f26, N26, rfl, sc26, rfl, rfl, ck26⟩, fun _ _ _ _ _ _ us hl => match us, hl with | [_], _ => rfl, fun kV doc pm an cdv ct e he => ?_⟩
  cases he
theorem xt0 : InitTx (inClass (top 19) 0) "given" := ⟨"self", "given", _, _, _, _, rfl, ⟨rfl, rfl, rfl, by decide +kernel, rfl, by decide +kernel, by decide +kernel⟩, .inl rfl, .inl rfl, by decide +kernel, by decide +kernel, fun _ _ _ _ _ _ _ us hl => match us, hl with | [_, _], _ => rfl⟩
theorem xt1 : InitTx (inClass (top 20) 0) "given" := ⟨"self", "given", _, _, _, _, rfl, ⟨rfl, rfl, rfl, by decide +kernel, rfl, by decide +kernel, by decide +kernel⟩, .inl rfl, .inl rfl, by decide +kernel, by decide +kernel, fun _ _ _ _ _ _ _ us hl => match us, hl with | [_, _], _ => rfl⟩
theorem hok0 : ∀ p ∈ hl0, (defScope (top 38)).names.lookup p.1 = some .globalImplicit ∧ nmOk p.1 = true ∧ SOk p.2.2 := by
  intro p hp
  simp only [hl0, List.mem_cons, List.not_mem_nil, or_false] at hp
  rcases hp with rfl | rfl <;> exact ⟨by decide +kernel, by decide +kernel, by decide, by decide⟩
theorem ht0 : HdTx (top 38) "_law_heard" "given" told0 hl0 := ⟨"act", "e", _, _, _, _, _, _, _, _, _, _, rfl, by decide +kernel, (.cons (by decide +kernel) (.cons (by decide +kernel) .nil)), ⟨rfl, rfl, rfl, by decide +kernel, rfl, by decide +kernel, by decide +kernel⟩, .inl rfl, by decide +kernel, by decide +kernel, rfl, hok0, fun _ _ _ _ _ _ us hl => match us, hl with | [_], _ => rfl⟩
end K81

/-! P81a: texts are read (k81). -/
namespace K81
open Mi
theorem call_s {n f : Nat} {fn : Fn} (e : fnAt T f = some fn) (args : List PV) (h : List Ob) : call G T (n + 1) f args h = runFn G (call G T n) fn args h := by
  show (match fnAt T f with | some fn => runFn G (call G T n) fn args h | none => .no) = _
  rw [e]
/-- a call with data alone, that hands data back -/
theorem run_v {G : Nat → Option PV} {o : Orc} {fn : Fn} {args : List PV} {h h1 : List Ob} {v : PV} {st : Sl} (hv : v.isD = true) (hn : Nat.beq args.length fn.pars = true) (hd : allD args = true) (hs : startSl args (fn.slots - fn.pars) = st) (e : exec G o fn.body st [] = .ok (.rt v) h1) : runFn G o fn args h = .ok v h := by
  unfold runFn
  rw [hn]
  simp only
  rw [hd, hs]
  simp only
  rw [e]
  cases v <;> first | rfl | cases hv
theorem run_n {G : Nat → Option PV} {o : Orc} {fn : Fn} {args : List PV} {h h1 : List Ob} {σ st : Sl} (hn : Nat.beq args.length fn.pars = true) (hd : allD args = true) (hs : startSl args (fn.slots - fn.pars) = st) (e : exec G o fn.body st [] = .ok (.nx σ) h1) : runFn G o fn args h = .ok .non h := by
  unfold runFn
  rw [hn]
  simp only
  rw [hd, hs]
  simp only
  rw [e]
theorem run_x {G : Nat → Option PV} {o : Orc} {fn : Fn} {args : List PV} {h h1 : List Ob} {σ st : Sl} {c : Nat} {fs : List PV} (hn : Nat.beq args.length fn.pars = true) (hd : allD args = true) (hs : startSl args (fn.slots - fn.pars) = st) (e : exec G o fn.body st [] = .ok (.rs c fs σ) h1) : runFn G o fn args h = .ex c fs h := by
  unfold runFn
  rw [hn]
  simp only
  rw [hd, hs]
  simp only
  rw [e]
section
variable {G : Nat → Option PV} {o : Orc}
theorem do_rs {a b : Sx} {σ σ1 : Sl} {h h1 : List Ob} {c : Nat} {fs : List PV} (e : exec G o a σ h = .ok (.rs c fs σ1) h1) : exec G o (.seq a b) σ h = .ok (.rs c fs σ1) h1 := by rw [exec, e]
theorem xe_and_t {a b : Ex} {σ : Sl} {h h1 : List Ob} {x : PV} (e : ev G o a σ h = .ok x h1) (t : truth h1 x = some true) : ev G o (.and a b) σ h = ev G o b σ h1 := by
  rw [ev, e]
  simp only
  rw [t]
theorem xe_and_f {a b : Ex} {σ : Sl} {h h1 : List Ob} {x : PV} (e : ev G o a σ h = .ok x h1) (t : truth h1 x = some false) : ev G o (.and a b) σ h = .ok x h1 := by
  rw [ev, e]
  simp only
  rw [t]
theorem xe_or_t {a b : Ex} {σ : Sl} {h h1 : List Ob} {x : PV} (e : ev G o a σ h = .ok x h1) (t : truth h1 x = some true) : ev G o (.or a b) σ h = .ok x h1 := by
  rw [ev, e]
  simp only
  rw [t]
theorem xe_or_f {a b : Ex} {σ : Sl} {h h1 : List Ob} {x : PV} (e : ev G o a σ h = .ok x h1) (t : truth h1 x = some false) : ev G o (.or a b) σ h = ev G o b σ h1 := by
  rw [ev, e]
  simp only
  rw [t]
theorem xe_not {a : Ex} {σ : Sl} {h h1 : List Ob} {b : Bool} (e : ev G o a σ h = .ok (.bl b) h1) : ev G o (.not a) σ h = .ok (.bl (!b)) h1 := by
  rw [ev, e]
  rfl
theorem xe_bi1 {a : Ex} {b : Bi} {σ : Sl} {h h1 : List Ob} {x : PV} (e : ev G o a σ h = .ok x h1) : ev G o (.bi b (.cons false a .nil)) σ h = apBi b [x] h1 := by
  rw [ev, evs, e]
  simp only [evs]
theorem xe_call1 {a : Ex} {f : Nat} {σ : Sl} {h h1 : List Ob} {x : PV} (e : ev G o a σ h = .ok x h1) : ev G o (.call f (.cons false a .nil)) σ h = o f [x] h1 := by
  rw [ev, evs, e]
  simp only [evs]
theorem xe_call2 {a b : Ex} {f : Nat} {σ : Sl} {h h1 h2 : List Ob} {x y : PV} (e : ev G o a σ h = .ok x h1) (e2 : ev G o b σ h1 = .ok y h2) : ev G o (.call f (.cons false a (.cons false b .nil))) σ h = o f [x, y] h2 := by
  rw [ev, evs, e]
  simp only
  rw [evs, e2]
  simp only [evs]
theorem xe_ife {c a b : Ex} {σ : Sl} {h h1 : List Ob} {k : Bool} (e : test (ev G o c σ h) = .ok k h1) : ev G o (.ife c a b) σ h = ev G o (cond k a b) σ h1 := by
  rw [ev, e]
  cases k <;> rfl
theorem xe_test {a : Ex} {σ : Sl} {h h1 : List Ob} {b : Bool} (e : ev G o a σ h = .ok (.bl b) h1) : test (ev G o a σ h) = .ok b h1 := by
  rw [e]
  rfl
theorem xe_cmp {op : COp} {a b : Ex} {σ : Sl} {h h1 h2 : List Ob} {x y : PV} (e : ev G o a σ h = .ok x h1) (e2 : ev G o b σ h1 = .ok y h2) : ev G o (.cmp op a b) σ h = apCmp op x y h2 := by
  rw [ev, e]
  simp only
  rw [e2]
theorem xe_bin {m : Bool} {op : BOp} {a b : Ex} {σ : Sl} {h h1 h2 : List Ob} {x y : PV} (e : ev G o a σ h = .ok x h1) (e2 : ev G o b σ h1 = .ok y h2) : ev G o (.bin m op a b) σ h = apBin m op x y h2 := by
  rw [ev, e]
  simp only
  rw [e2]
theorem xe_ix {a b : Ex} {σ : Sl} {h h1 h2 : List Ob} {x y : PV} (e : ev G o a σ h = .ok x h1) (e2 : ev G o b σ h1 = .ok y h2) : ev G o (.ix a b) σ h = apIx x y h2 := by
  rw [ev, e]
  simp only
  rw [e2]
theorem lc_map {asg : PV → Sl → List Ob → R Sl} {c : Sl → List Ob → R Bool} {e : Sl → List Ob → R PV} {σ : Sl} {h : List Ob} {g : PV → PV} : ∀ (xs : List PV), (∀ x ∈ xs, ∃ σ1, asg x σ h = .ok σ1 h ∧ c σ1 h = .ok true h ∧ e σ1 h = .ok (g x) h ∧ (g x).isD = true) → lcL asg c e σ xs h = .ok (xs.map g) h
  | [], _ => rfl
  | x :: xs, H => by
    obtain ⟨σ1, e1, e2, e3, e4⟩ := H x List.mem_cons_self
    rw [lcL, e1]
    simp only
    rw [e2]
    simp only
    rw [e3]
    simp only
    rw [e4]
    simp only
    rw [lc_map xs fun y hy => H y (List.mem_cons_of_mem _ hy)]
    rfl
/-- a comprehension without a condition, over one name -/
theorem ev_map {m : Bool} {own : List Nat} {it : It} {i : Nat} {e : Ex} {σ : Sl} {h h1 : List Ob} {xs : List PV} (g : PV → PV) (hi : evI G o it σ h = .ok xs h1) (hl : xs.length ≤ line)
    (H : ∀ x ∈ xs, ev G o e (put (Mi.wipe σ own) i (some x)) h1 = .ok (g x) h1 ∧ (g x).isD = true) : ev G o (.lc m own it (.nm i) (.cst (.bl true)) e) σ h = mkL m (xs.map g) h1 := by
  rw [ev_lc']
  simp only
  rw [hi]
  simp only [compR]
  rw [lc_map (g := g) xs fun x hx => ⟨_, by rw [evP], by rw [ev]; rfl, H x hx⟩]
  simp only [lcR]
  rw [show Nat.ble (xs.map g).length line = true from Nat.ble_eq_true_of_le (by rw [List.length_map]; exact hl)]
end
theorem signs_len : ∀ s : List Nat, (signs s).length = s.length
  | [] => rfl
  | _ :: r => by rw [signs, List.length_cons, List.length_cons, signs_len r]
theorem signs_mem : ∀ {s : List Nat} {x : PV}, x ∈ signs s → ∃ c, x = .str [c]
  | [], x, h => by cases h
  | c :: r, x, h => by
    rw [signs] at h
    rcases List.mem_cons.mp h with e | h
    · exact ⟨c, e⟩
    · exact signs_mem h
def D : List Nat := [48, 49, 50, 51, 52, 53, 54, 55, 56, 57]
theorem dig1 (c : Nat) : memN c D = (Nat.ble 48 c && Nat.ble c 57) := by
  by_cases h : 48 ≤ c ∧ c ≤ 57
  · have q : c = 48 ∨ c = 49 ∨ c = 50 ∨ c = 51 ∨ c = 52 ∨ c = 53 ∨ c = 54 ∨ c = 55 ∨ c = 56 ∨ c = 57 := by omega
    rcases q with rfl | rfl | rfl | rfl | rfl | rfl | rfl | rfl | rfl | rfl <;> rfl
  · have e : (Nat.ble 48 c && Nat.ble c 57) = false := by
      cases q : (Nat.ble 48 c && Nat.ble c 57) with
      | false => rfl
      | true =>
        obtain ⟨q1, q2⟩ := (Bool.and_eq_true _ _).mp q
        exact absurd ⟨Nat.le_of_ble_eq_true q1, Nat.le_of_ble_eq_true q2⟩ h
    rw [e]
    have z : ∀ d, 48 ≤ d → d ≤ 57 → Nat.beq c d = false := fun d h1 h2 => by
      cases q : Nat.beq c d with
      | false => rfl
      | true => have := Nat.eq_of_beq_eq_true q; omega
    unfold D
    simp only [memN, z 48 (by decide) (by decide), z 49 (by decide) (by decide), z 50 (by decide) (by decide), z 51 (by decide) (by decide), z 52 (by decide) (by decide), z 53 (by decide) (by decide), z 54 (by decide) (by decide), z 55 (by decide) (by decide), z 56 (by decide) (by decide), z 57 (by decide) (by decide)]
def sgn1 : PV → PV
  | .str [c] => .bl (memN c D)
  | _ => .non
theorem sgn_all : ∀ s : List Nat, ∃ bs : List Bool, boolsOf ((signs s).map sgn1) = some bs ∧ bs.all id = digs s
  | [] => ⟨[], rfl, rfl⟩
  | c :: r => by
    obtain ⟨bs, e1, e2⟩ := sgn_all r
    refine ⟨memN c D :: bs, ?_, ?_⟩
    · rw [signs, List.map_cons, sgn1, boolsOf, e1]
    · rw [List.all_cons, e2, dig1, digs]
      cases (Nat.ble 48 c && Nat.ble c 57) <;> rfl
theorem dep_str (s : List Nat) : (PV.str s).dep 60 = true := rfl
theorem eqv_str (s t : List Nat) : (PV.str s).eqv (.str t) = (s == t) := by rw [PV.eqv]
theorem eq_str (h : List Ob) (s t : List Nat) : eqV h (.str s) (.str t) = some (s == t) := by
  unfold eqV
  simp only [deref, dep_str, eqv_str]
/-- a number that is no -, as a text -/
def CT (w : List Nat) : Option Int := match w with
  | [] => none
  | c :: r => match digs (c :: r) with
    | false => none
    | true => match c == 48 && nonE r with
      | true => none
      | false => some ((valD 0 (c :: r) : Nat) : Int)
def optI : Option Int → PV
  | some i => .int i
  | none => .non
def optL : Option Int → List PV
  | some i => [.int i]
  | none => []
/-- a whole number as a text -/
def WV (w : List Nat) : Option Int := match w with
  | 45 :: r => match CT r with
    | some i => if i = 0 then none else some (-i)
    | none => none
  | w => CT w
theorem k3 (n : Nat) (w : List Nat) (hl : w.length ≤ line) (h : List Ob) : call G T (n + 1) 3 [.str w, .str D] h = .ok (.bl (digs w)) h := by
  obtain ⟨bs, e1, e2⟩ := sgn_all w
  refine (call_s (fn := f3) rfl _ _).trans (run_v (h1 := []) rfl rfl rfl rfl ?_)
  unfold f3
  refine do_ret ?_
  have q : ev G (call G T n) (.lc false [2] (.plain (.var 0)) (.nm 2) (.cst (.bl true)) (.cmp .isIn (.var 2) (.var 1))) [some (.str w), some (.str D), none] [] = mkL false ((signs w).map sgn1) [] := by
    refine ev_map (h1 := []) sgn1 ?_ ?_ ?_
    · simp only [evI, ev, nth]
    · rw [signs_len]; exact hl
    · intro x hx
      obtain ⟨c, rfl⟩ := signs_mem hx
      refine ⟨?_, rfl⟩
      simp only [ev, nth, Mi.wipe, put, apCmp, sgn1]
  show ev G (call G T n) _ [some (.str w), some (.str D), none] [] = _
  refine (xe_and_t (x := .bl true) (h1 := []) ?_ rfl).trans ?_
  · simp only [evs, ev, nth, apBi, isTy]
  refine (xe_bi1 (q.trans rfl)).trans ?_
  simp only [apBi, lstOf, e1, e2]
theorem cut_tl {α : Type} (c : α) (r : List α) : cut (c :: r) (some 1) none = r := by
  unfold cut
  show ((c :: r).drop (if 1 ≤ (c :: r).length then 1 else (c :: r).length)).take ((c :: r).length - (if 1 ≤ (c :: r).length then 1 else (c :: r).length)) = r
  rw [if_pos (by simp)]
  simp
theorem cut_hd {α : Type} (c : α) (r : List α) : cut (c :: r) none (some 1) = [c] := by
  unfold cut
  show ((c :: r).drop 0).take ((if 1 ≤ (c :: r).length then 1 else (c :: r).length) - 0) = [c]
  rw [if_pos (by simp)]
  simp
theorem cut_no {α : Type} (lo hi : Option Int) : cut ([] : List α) lo hi = [] := by
  unfold cut
  simp
theorem intT_dig' {t : List Nat} (h0 : t ≠ []) (hl : t.length ≤ 640) (hd : digs t = true) : intT t = some ((valD 0 t : Nat) : Int) := by
  unfold intT
  rw [Nat.ble_eq_true_of_le hl]
  simp only
  split
  · exact absurd rfl h0
  · rw [digs] at hd; cases hd
  · rw [hd]
theorem intT_dig {c : Nat} {r : List Nat} (hl : (c :: r).length ≤ 640) (hd : digs (c :: r) = true) : intT (c :: r) = some ((valD 0 (c :: r) : Nat) : Int) := intT_dig' (List.cons_ne_nil _ _) hl hd
theorem intT_neg {r : List Nat} (hl : (45 :: r).length ≤ 640) (h0 : nonE r = true) (hd : digs r = true) : intT (45 :: r) = some (-((valD 0 r : Nat) : Int)) := by
  unfold intT
  rw [Nat.ble_eq_true_of_le hl]
  simp only [h0, hd, Bool.and_self]
theorem nonE_len {α : Type} (c : α) (r : List α) : decide (((c :: r).length : Int) > 1) = nonE r := by
  cases r with
  | nil => rfl
  | cons d t => 
    simp only [nonE, List.length_cons, decide_eq_true_eq]
    omega
theorem k6 (n : Nat) (w : List Nat) (hl : w.length ≤ 640) (h : List Ob) : call G T (n + 2) 6 [.str w] h = .ok (optI (CT w)) h := by
  refine (call_s (fn := f6) rfl _ _).trans (run_v (h1 := []) ?_ rfl rfl rfl ?_)
  · cases CT w <;> rfl
  have e3 := k3 n w (Nat.le_trans hl (by decide)) []
  have e3' : ev G (call G T (n + 1)) (.call 3 (.cons false (.var 0) (.cons false (.glb 10) .nil))) [some (.str w)] [] = .ok (.bl (digs w)) [] := by
    simp only [ev, evs, nth, G]
    exact e3
  show exec G (call G T (n + 1)) _ [some (.str w)] [] = _
  cases w with
  | nil =>
    unfold f6
    refine do_seq_rt ?_
    refine (do_if (k := true) (h1 := []) ?_).trans ?_
    · simp only [ev, evs, nth, apCmp, eq_str, truth, test]
      rfl
    · simp only [cond]
      exact do_ret (by simp only [ev, CT, optI])
  | cons c r =>
    unfold f6
    have q0 : ev G (call G T (n + 1)) (.cmp .eq (.var 0) (.cst (.str []))) [some (.str (c :: r))] [] = .ok (.bl false) [] := by
      simp only [ev, nth, apCmp, eq_str]
      rfl
    cases hd : digs (c :: r) with
    | false =>
      refine do_seq_rt ?_
      refine (do_if (k := true) (h1 := []) ?_).trans ?_
      · rw [ev, q0]
        simp only [truth]
        rw [ev, e3', hd]
        rfl
      · simp only [cond]
        exact do_ret (by simp only [ev, CT, hd, optI])
    | true =>
      refine (do_seq (σ1 := [some (.str (c :: r))]) (h1 := []) ?_).trans ?_
      · refine (do_if (k := false) (h1 := []) ?_).trans ?_
        · rw [ev, q0]
          simp only [truth]
          rw [ev, e3', hd]
          rfl
        · simp only [cond, exec]
      · refine do_ret ?_
        have q1 : test (ev G (call G T (n + 1)) (.and (.cmp .eq (.ix (.var 0) (.cst (.int 0))) (.cst (.str [48]))) (.cmp .gt (.bi .len (.cons false (.var 0) .nil)) (.cst (.int 1)))) [some (.str (c :: r))] []) = .ok (c == 48 && nonE r) [] := by
          simp only [ev, evs, nth, apIx, apBi]
          have a0 : Mi.atI (c :: r) 0 = some c := rfl
          simp only [a0, apCmp, eq_str, truth]
          cases hc : (c == 48) with
          | false =>
            have : ([c] == [48]) = false := by
              have := beq_eq_false_iff_ne.mp hc
              simp [this]
            rw [this]
            rfl
          | true =>
            have : ([c] == [48]) = true := by
              have := eq_of_beq hc
              simp [this]
            rw [this]
            simp only [test, truth]
            rw [show decide ((1 : Int) < ((c :: r).length : Int)) = nonE r from nonE_len c r]
            rfl
        rw [ev, q1]
        simp only [CT, hd]
        cases hz : (c == 48 && nonE r) with
        | true => simp only [ev, optI]
        | false =>
          simp only [ev, evs, nth, apBi]
          rw [intT_dig hl hd]
          rfl
theorem k7 (n : Nat) (w : List Nat) (hl : w.length ≤ 640) (h : List Ob) : call G T (n + 3) 7 [.str w] h = .ok (optI (WV w)) h := by
  refine (call_s (fn := f7) rfl _ _).trans (run_v (h1 := []) ?_ rfl rfl rfl ?_)
  · cases WV w <;> rfl
  show exec G (call G T (n + 2)) _ [some (.str w), none] [] = _
  unfold f7
  have q0 : ev G (call G T (n + 2)) (.cmp .ne (.sl false (.var 0) .nil (.cons false (.cst (.int 1)) .nil)) (.glb 9)) [some (.str w), none] [] = .ok (.bl (!(cut w none (some 1) == [45]))) [] := by
    simp only [ev, evs, nth, bndR, bound, apSl, G, apCmp, eq_str]
  by_cases hm : ∃ r, w = 45 :: r
  · obtain ⟨r, rfl⟩ := hm
    have e6 := k6 n r (by simp only [List.length_cons] at hl; omega) []
    refine (do_seq (σ1 := [some (.str (45 :: r)), none]) (h1 := []) ?_).trans ?_
    · refine (do_if (k := false) (h1 := []) ?_).trans ?_
      · rw [q0, cut_hd]
        rfl
      · simp only [cond, exec]
    refine (do_seq (do_asg (v := optI (CT r)) (h1 := []) ?_)).trans ?_
    · simp only [ev, evs, nth, bndR, bound, apSl]
      rw [cut_tl]
      exact e6
    refine do_ret ?_
    simp only [put]
    cases hc : CT r with
    | none =>
      simp only [optI, WV, hc]
      simp only [ev, nth, apCmp, truth, test]
    | some i =>
      simp only [optI, WV, hc]
      have z : eqV [] (.int i) (.int 0) = some (i == 0) := by simp [eqV, deref, PV.dep, PV.eqv]
      by_cases hi : i = 0
      · rw [if_pos hi]
        simp only [ev, nth, apCmp, truth, test, z]
        rw [show (i == 0) = true from by simp [hi]]
      · rw [if_neg hi]
        simp only [ev, nth, apCmp, truth, test, z]
        rw [show (i == 0) = false from by simp [hi]]
        simp only [apBin, Int.zero_sub]
  · have e6 := k6 n w hl []
    refine do_seq_rt ?_
    refine (do_if (k := true) (h1 := []) ?_).trans ?_
    · rw [q0]
      have : (cut w none (some 1) == [45]) = false := by
        cases w with
        | nil => rw [cut_no]; rfl
        | cons c r =>
          rw [cut_hd]
          have : c ≠ 45 := fun e => hm ⟨r, by rw [e]⟩
          simp [this]
      rw [this]
      rfl
    · simp only [cond]
      refine do_ret ?_
      have : WV w = CT w := by
        unfold WV
        split
        · rename_i r; exact absurd ⟨r, rfl⟩ hm
        · rfl
      rw [this]
      simp only [ev, evs, nth]
      exact e6
end K81

/-! P81b: the law's own reader and the program's (k81). -/
namespace K81
open Mi
theorem valD_ge : ∀ (s : List Nat) (a : Nat), a ≤ valD a s
  | [], a => by unfold valD; exact Nat.le_refl _
  | c :: r, a => by
    rw [valD_cons]
    exact Nat.le_trans (by omega) (valD_ge r _)
/-- the law's own test: no number -/
def noN (w fig : List Nat) : Bool := match fig with
  | [] => true
  | c :: r => match digs (c :: r) with
    | false => true
    | true => c == 48 && !(w == [48])
theorem noN_t {w : List Nat} (hl : w.length ≤ 640) (r : List Nat) (e : w = 45 :: r) : (noN w r = true → WV w = none) ∧ (noN w r = false → ∃ i, WV w = some i ∧ intT w = some i) := by
  subst e
  cases r with
  | nil => exact ⟨fun _ => rfl, fun h => by cases h⟩
  | cons c t =>
    cases hd : digs (c :: t) with
    | false =>
      refine ⟨fun _ => ?_, fun h => ?_⟩
      · simp only [WV, CT, hd]
      · simp only [noN, hd] at h; cases h
    | true =>
      have hc : 48 ≤ c ∧ c ≤ 57 := digs_all hd c List.mem_cons_self
      by_cases h48 : c = 48
      · subst h48
        refine ⟨fun _ => ?_, fun h => ?_⟩
        · cases t with
          | nil => rfl
          | cons d u => simp only [WV, CT, hd]; rfl
        · simp only [noN, hd] at h; cases h
      · have b : (c == 48) = false := beq_eq_false_iff_ne.mpr h48
        have p : ((valD 0 (c :: t) : Nat) : Int) ≠ 0 := by
          rw [valD_cons]
          have := valD_ge t (0 * 10 + (c - 48))
          omega
        refine ⟨fun h => ?_, fun _ => ⟨-((valD 0 (c :: t) : Nat) : Int), ?_, intT_neg hl rfl hd⟩⟩
        · simp only [noN, hd, b] at h; cases h
        · simp only [WV, CT, hd, b, Bool.false_and]
          rw [if_neg p]
theorem noN_f {w : List Nat} (hl : w.length ≤ 640) (e : ∀ r, w ≠ 45 :: r) : (noN w w = true → WV w = none) ∧ (noN w w = false → ∃ i, WV w = some i ∧ intT w = some i) := by
  have hw : WV w = CT w := by
    unfold WV
    split
    · rename_i r; exact absurd rfl (e r)
    · rfl
  rw [hw]
  cases w with
  | nil => exact ⟨fun _ => rfl, fun h => by cases h⟩
  | cons c t =>
    cases hd : digs (c :: t) with
    | false =>
      refine ⟨fun _ => ?_, fun h => ?_⟩
      · simp only [CT, hd]
      · simp only [noN, hd] at h; cases h
    | true =>
      have z : (c == 48 && !(c :: t == [48])) = (c == 48 && nonE t) := by
        cases q : (c == 48) with
        | false => rfl
        | true =>
          have := eq_of_beq q
          subst this
          cases t <;> rfl
      refine ⟨fun h => ?_, fun h => ⟨_, ?_, intT_dig hl hd⟩⟩
      · simp only [noN, hd] at h
        rw [z] at h
        simp only [CT, hd, h]
      · simp only [noN, hd] at h
        rw [z] at h
        simp only [CT, hd, h]
theorem all_dig {n : Nat} {w : List Nat} (hl : w.length ≤ line) {own : List Nat} {it : Ex} {σ : Sl} {i : Nat} {b : Ex} (hi : ev G (call G T n) it σ [] = .ok (.str w) [])
    (hb : ∀ c, ev G (call G T n) b (put (Mi.wipe σ own) i (some (.str [c]))) [] = .ok (.bl (memN c D)) []) : ev G (call G T n) (.bi .all (.cons false (.lc false own (.plain it) (.nm i) (.cst (.bl true)) b) .nil)) σ [] = .ok (.bl (digs w)) [] := by
  obtain ⟨bs, e1, e2⟩ := sgn_all w
  have q := ev_map (G := G) (o := call G T n) (m := false) (own := own) (it := .plain it) (i := i) (e := b) (σ := σ) (h := []) (h1 := []) (xs := signs w) sgn1 (by simp only [evI, hi]) (by rw [signs_len]; exact hl) (by
    intro x hx
    obtain ⟨c, rfl⟩ := signs_mem hx
    exact ⟨hb c, rfl⟩)
  refine (xe_bi1 (q.trans rfl)).trans ?_
  simp only [apBi, lstOf, e1, e2]
theorem k18 (n : Nat) (w : List Nat) (hl : w.length ≤ 640) (h : List Ob) : call G T (n + 1) 18 [.str w] h = .ok (.lst (optL (WV w))) h := by
  refine (call_s (fn := f18) rfl _ _).trans (run_v (h1 := []) rfl rfl rfl rfl ?_)
  have key : ∀ fig : List Nat, fig.length ≤ 640 → ((noN w fig = true → WV w = none) ∧ (noN w fig = false → ∃ i, WV w = some i ∧ intT w = some i)) →
      test (ev G (call G T n) (.cmp .eq (.sl false (.var 0) .nil (.cons false (.cst (.int 1)) .nil)) (.cst (.str [45]))) [some (.str w), none, none] []) = .ok (cut w none (some 1) == [45]) [] →
      cond (cut w none (some 1) == [45]) (cut w (some 1) none) w = fig →
      exec G (call G T n) f18.body [some (.str w), none, none] [] = .ok (.rt (.lst (optL (WV w)))) [] := by
    intro fig hf H q0 hfig
    unfold f18
    refine (do_seq (σ1 := [some (.str w), some (.str fig), none]) (h1 := []) ?_).trans ?_
    · refine (do_asg (v := .str fig) (h1 := []) ?_).trans rfl
      refine (xe_ife q0).trans ?_
      subst hfig
      cases (cut w none (some 1) == [45]) <;> simp only [cond, ev, evs, nth, bndR, bound, apSl]
    have al : ev G (call G T n) (.bi .all (.cons false (.lc false [2] (.plain (.var 1)) (.nm 2) (.cst (.bl true)) (.cmp .isIn (.var 2) (.cst (.str [48, 49, 50, 51, 52, 53, 54, 55, 56, 57])))) .nil)) [some (.str w), some (.str fig), none] [] = .ok (.bl (digs fig)) [] := by
      refine all_dig (Nat.le_trans hf (by decide)) (by simp only [ev, nth]) fun c => ?_
      simp only [Mi.wipe, put, ev, nth, apCmp]
      rfl
    have cnd : test (ev G (call G T n) (.or (.cmp .eq (.var 1) (.cst (.str []))) (.or (.not (.bi .all (.cons false (.lc false [2] (.plain (.var 1)) (.nm 2) (.cst (.bl true)) (.cmp .isIn (.var 2) (.cst (.str [48, 49, 50, 51, 52, 53, 54, 55, 56, 57])))) .nil))) (.and (.cmp .eq (.ix (.var 1) (.cst (.int 0))) (.cst (.str [48]))) (.cmp .ne (.var 0) (.cst (.str [48])))))) [some (.str w), some (.str fig), none] []) = .ok (noN w fig) [] := by
      cases fig with
      | nil =>
        refine xe_test ((xe_or_t (x := .bl true) (h1 := []) ?_ rfl).trans ?_)
        · simp only [ev, nth, apCmp, eq_str]; rfl
        · rfl
      | cons c r =>
        refine (congrArg test (xe_or_f (x := .bl false) (h1 := []) ?_ rfl)).trans ?_
        · simp only [ev, nth, apCmp, eq_str]; rfl
        cases hd : digs (c :: r) with
        | false =>
          refine xe_test ((xe_or_t (x := .bl true) (h1 := []) ?_ rfl).trans ?_)
          · rw [hd] at al; exact xe_not al
          · simp only [noN, hd]
        | true =>
          refine (congrArg test (xe_or_f (x := .bl false) (h1 := []) ?_ rfl)).trans ?_
          · rw [hd] at al; exact xe_not al
          simp only [noN, hd]
          have a0 : Mi.atI (c :: r) 0 = some c := rfl
          cases hc : (c == 48) with
          | false =>
            have : ([c] == [48]) = false := by
              have := beq_eq_false_iff_ne.mp hc
              simp [this]
            refine xe_test ((xe_and_f (x := .bl false) (h1 := []) ?_ rfl).trans ?_)
            · simp only [ev, nth, apIx, a0, apCmp, eq_str, this]
            · rfl
          | true =>
            have : ([c] == [48]) = true := by
              have := eq_of_beq hc
              simp [this]
            refine xe_test ((xe_and_t (x := .bl true) (h1 := []) ?_ rfl).trans ?_)
            · simp only [ev, nth, apIx, a0, apCmp, eq_str, this]
            · simp only [ev, nth, apCmp, eq_str]
              rfl
    cases hz : noN w fig with
    | true =>
      rw [H.1 hz]
      refine do_seq_rt ?_
      refine (do_if (k := true) (h1 := []) (by rw [cnd, hz])).trans ?_
      simp only [cond]
      exact do_ret (by simp only [ev, evs]; rfl)
    | false =>
      obtain ⟨i, e1, e2⟩ := H.2 hz
      rw [e1]
      refine (do_seq (σ1 := [some (.str w), some (.str fig), none]) (h1 := []) ?_).trans ?_
      · refine (do_if (k := false) (h1 := []) (by rw [cnd, hz])).trans ?_
        simp only [cond, exec]
      · refine do_ret ?_
        simp only [ev, evs, nth, apBi, e2, allD, PV.isD]
        rfl
  have q0 : test (ev G (call G T n) (.cmp .eq (.sl false (.var 0) .nil (.cons false (.cst (.int 1)) .nil)) (.cst (.str [45]))) [some (.str w), none, none] []) = .ok (cut w none (some 1) == [45]) [] := by
    refine xe_test ?_
    simp only [ev, evs, nth, bndR, bound, apSl, apCmp, eq_str]
  show exec G (call G T n) _ [some (.str w), none, none] [] = _
  by_cases hm : ∃ r, w = 45 :: r
  · obtain ⟨r, e⟩ := hm
    refine key r (by rw [e] at hl; simp only [List.length_cons] at hl; omega) (noN_t hl r e) q0 ?_
    subst e
    rw [cut_hd, cut_tl]
    rfl
  · refine key w hl (noN_f hl fun r e => hm ⟨r, e⟩) q0 ?_
    have : (cut w none (some 1) == [45]) = false := by
      cases w with
      | nil => rw [cut_no]; rfl
      | cons c r =>
        rw [cut_hd]
        have : c ≠ 45 := fun e => hm ⟨r, by rw [e]⟩
        simp [this]
    rw [this]
    rfl
def sFlip : List Nat := [102, 108, 105, 112]
def sTurn : List Nat := [116, 117, 114, 110]
def sSpin : List Nat := [115, 112, 105, 110]
def TWL : List PV := [.str [109, 105, 114, 114, 111, 114], .str [111, 118, 101, 114], .str [115, 119, 97, 112], .str [119, 104, 101, 101, 108]]
/-- the deed that words tell -/
def RD (ws : List (List Nat)) : Option PV := match ws with
  | [w0] => match w0 == sSpin with | true => some (.tup [.str sSpin]) | false => none
  | [w0, w1] => match w0 == sTurn && anyEq (.str w1) TWL with | true => some (.tup [.str sTurn, .str w1]) | false => none
  | [w0, w1, w2] => match w0 == sFlip with
    | true => match WV w1, WV w2 with
      | some i, some j => some (.tup [.str sFlip, .int i, .int j])
      | _, _ => none
    | false => none
  | _ => none
def optT : Option PV → PV
  | some d => d
  | none => .tup []
def optN : Option PV → PV
  | some d => d
  | none => .non
def stL (ws : List (List Nat)) : List PV := ws.map .str
theorem depAll_strs : ∀ (ws : List (List Nat)) (n : Nat), depAll (stL ws) n = true
  | [], n => rfl
  | w :: r, n => by
    show (match (PV.str w).dep n with | true => depAll (stL r) n | false => false) = true
    rw [depAll_strs r n]
    rfl
theorem eqvAll_strs1 (w0 t : List Nat) (r : List (List Nat)) : eqvAll (stL (w0 :: r)) [.str t] = (w0 == t && !nonE r) := by
  show eqvAll (.str w0 :: stL r) [.str t] = _
  rw [eqvAll]
  simp only [eqv_str]
  cases (w0 == t) with
  | false => rfl
  | true =>
    cases r with
    | nil => rfl
    | cons a b => rfl
theorem eq_lst1 (h : List Ob) (w0 t : List Nat) (r : List (List Nat)) : eqV h (.lst (stL (w0 :: r))) (.lst [.str t]) = some (w0 == t && !nonE r) := by
  unfold eqV
  have d1 : (PV.lst (stL (w0 :: r))).dep 60 = true := by
    show depAll (stL (w0 :: r)) 59 = true
    exact depAll_strs _ _
  have d2 : (PV.lst [.str t]).dep 60 = true := rfl
  simp only [deref, d1, d2]
  rw [PV.eqv]
  simp only [eqvAll_strs1]
theorem eq_tup1 (h : List Ob) (w0 t : List Nat) (r : List (List Nat)) : eqV h (.tup (stL (w0 :: r))) (.tup [.str t]) = some (w0 == t && !nonE r) := by
  unfold eqV
  have d1 : (PV.tup (stL (w0 :: r))).dep 60 = true := by
    show depAll (stL (w0 :: r)) 59 = true
    exact depAll_strs _ _
  have d2 : (PV.tup [.str t]).dep 60 = true := rfl
  simp only [deref, d1, d2]
  rw [PV.eqv]
  simp only [eqvAll_strs1]
theorem eq_int (h : List Ob) (i j : Int) : eqV h (.int i) (.int j) = some (i == j) := by
  simp [eqV, deref, PV.dep, PV.eqv]
theorem stL_len (ws : List (List Nat)) : (stL ws).length = ws.length := List.length_map ..
end K81

/-! P81c: the readers of texts (k81). -/
namespace K81
open Mi
theorem k0i (n : Nat) (i : Int) (h : List Ob) : call G T (n + 1) 0 [.int i] h = .ok (.bl true) h := by
  refine (call_s (fn := f0) rfl _ _).trans (run_v (h1 := []) rfl rfl rfl rfl ?_)
  unfold f0
  refine do_ret ?_
  refine (xe_and_t (x := .bl true) (h1 := []) ?_ rfl).trans ?_
  · rfl
  · rfl
theorem k0n (n : Nat) (h : List Ob) : call G T (n + 1) 0 [.non] h = .ok (.bl false) h := by
  refine (call_s (fn := f0) rfl _ _).trans (run_v (h1 := []) rfl rfl rfl rfl ?_)
  unfold f0
  refine do_ret ?_
  refine (xe_and_f (x := .bl false) (h1 := []) ?_ rfl)
  rfl
theorem k0o (n : Nat) (o : Option Int) (h : List Ob) : call G T (n + 1) 0 [optI o] h = .ok (.bl o.isSome) h := by
  cases o with
  | none => exact k0n n h
  | some i => exact k0i n i h
theorem k1 (n : Nat) (xs : List PV) (hx : (PV.tup xs).isD = true) (k : Int) (h : List Ob) : call G T (n + 1) 1 [.tup xs, .int k] h = .ok (.bl ((xs.length : Int) == k)) h := by
  refine (call_s (fn := f1) rfl _ _).trans (run_v (h1 := []) rfl rfl rfl rfl ?_)
  unfold f1
  refine do_ret ?_
  refine (xe_and_t (x := .bl true) (h1 := []) ?_ rfl).trans ?_
  · rfl
  · refine (xe_cmp (x := .int xs.length) (y := .int k) (h1 := []) (h2 := []) rfl rfl).trans ?_
    simp only [apCmp, eq_int]
theorem bools_some : ∀ os : List (Option Int), boolsOf (os.map fun o => .bl o.isSome) = some (os.map Option.isSome)
  | [] => rfl
  | o :: os => by rw [List.map_cons, boolsOf, bools_some os]; rfl
theorem k2 (n : Nat) (os : List (Option Int)) (hl : os.length ≤ line) (h : List Ob) : call G T (n + 2) 2 [.tup (os.map optI), .int 2] h = .ok (.bl (os.length == 2 && os.all Option.isSome)) h := by
  refine (call_s (fn := f2) rfl _ _).trans (run_v (h1 := []) rfl rfl rfl rfl ?_)
  unfold f2
  refine do_ret ?_
  have e1 : ev G (call G T (n + 1)) (.call 1 (.cons false (.var 0) (.cons false (.var 1) .nil))) [some (.tup (os.map optI)), some (.int 2), none] [] = .ok (.bl (os.length == 2)) [] := by
    refine (xe_call2 (x := .tup (os.map optI)) (y := .int 2) (h1 := []) (h2 := []) rfl rfl).trans ?_
    rw [k1 n _ rfl, List.length_map]
    congr 2
    rw [Bool.eq_iff_iff]
    simp only [beq_iff_eq]
    omega
  show ev G (call G T (n + 1)) _ [some (.tup (os.map optI)), some (.int 2), none] [] = _
  cases hb : (os.length == 2) with
  | false =>
    rw [hb] at e1
    exact xe_and_f e1 rfl
  | true =>
    rw [hb] at e1
    refine (xe_and_t e1 rfl).trans ?_
    have q := ev_map (G := G) (o := call G T (n + 1)) (m := false) (own := [2]) (it := .plain (.var 0)) (i := 2) (e := .call 0 (.cons false (.var 2) .nil)) (σ := [some (.tup (os.map optI)), some (.int 2), none]) (h := []) (h1 := []) (xs := os.map optI) (fun x => match x with | .int _ => .bl true | _ => .bl false) rfl (by rw [List.length_map]; exact hl) (by
      intro x hx
      obtain ⟨o, _, rfl⟩ := List.mem_map.mp hx
      refine ⟨(xe_call1 (x := optI o) (h1 := []) rfl).trans ((k0o n o []).trans ?_), ?_⟩ <;> cases o <;> rfl)
    refine (xe_bi1 (q.trans rfl)).trans ?_
    have e : ((os.map optI).map fun x => match x with | .int _ => PV.bl true | _ => .bl false) = os.map fun o => .bl o.isSome := by
      rw [List.map_map]
      exact List.map_congr_left fun o _ => by cases o <;> rfl
    rw [e]
    simp only [apBi, lstOf, bools_some, List.all_map, Bool.true_and]
    rfl
theorem dep_TW : depAll TWL 60 = true := rfl
theorem k4 (n : Nat) (w : List Nat) (h : List Ob) : call G T (n + 1) 4 [.str w] h = .ok (.bl (anyEq (.str w) TWL)) h := by
  refine (call_s (fn := f4) rfl _ _).trans (run_v (h1 := []) rfl rfl rfl rfl ?_)
  unfold f4
  refine do_ret ?_
  refine (xe_and_t (x := .bl true) (h1 := []) ?_ rfl).trans ?_
  · rfl
  · refine (xe_cmp (x := .str w) (y := .tup TWL) (h1 := []) (h2 := []) rfl rfl).trans ?_
    simp only [apCmp, seqOf, dep_str, dep_TW, Bool.and_self, if_true]
theorem eq_tup0 (h : List Ob) (x : PV) (xs : List PV) (hd : depAll (x :: xs) 59 = true) : eqV h (.tup (x :: xs)) (.tup []) = some false := by
  unfold eqV
  have d1 : (PV.tup (x :: xs)).dep 60 = true := hd
  have d2 : (PV.tup []).dep 60 = true := rfl
  simp only [deref, d1, d2]
  rw [PV.eqv]
  simp only [eqvAll]
/-- the first test of is_deed lets a row with a text at its head pass -/
theorem pass5 {n : Nat} (a : List Nat) (xs : List PV) (hd : depAll xs 59 = true) : exec G (call G T n) (.ife (.or (.not (.bi (.isi .tuple) (.cons false (.var 0) .nil))) (.or (.cmp .eq (.var 0) (.tup .nil)) (.not (.bi (.isi .str) (.cons false (.ix (.var 0) (.cst (.int 0))) .nil))))) (.ret (.cst (.bl false))) .pass) [some (.tup (.str a :: xs))] [] = .ok (.nx [some (.tup (.str a :: xs))]) [] := by
  refine (do_if (k := false) (h1 := []) ?_).trans ?_
  · refine xe_test ?_
    refine (xe_or_f (x := .bl false) (h1 := []) ?_ rfl).trans ?_
    · rfl
    refine (xe_or_f (x := .bl false) (h1 := []) ?_ rfl).trans ?_
    · refine (xe_cmp (x := .tup (.str a :: xs)) (y := .tup []) (h1 := []) (h2 := []) rfl rfl).trans ?_
      have : depAll (PV.str a :: xs) 59 = true := by rw [depAll]; exact hd
      simp only [apCmp, eq_tup0 _ _ _ this]
    · rfl
  · simp only [cond, exec]
theorem depAll_opt : ∀ (os : List (Option Int)) (n : Nat), depAll (os.map optI) n = true
  | [], n => rfl
  | o :: r, n => by
    rw [List.map_cons, depAll, depAll_opt r n]
    cases o <;> rfl
theorem k5f (n : Nat) (os : List (Option Int)) (hl : os.length ≤ line) (h : List Ob) : call G T (n + 3) 5 [.tup (.str sFlip :: os.map optI)] h = .ok (.bl (os.length == 2 && os.all Option.isSome)) h := by
  refine (call_s (fn := f5) rfl _ _).trans (run_v (h1 := []) rfl rfl rfl rfl ?_)
  unfold f5
  refine (do_seq (pass5 sFlip (os.map optI) (depAll_opt os 59))).trans ?_
  refine do_seq_rt ?_
  refine (do_if (k := true) (h1 := []) ?_).trans ?_
  · refine xe_test ?_
    refine (xe_cmp (x := .str sFlip) (y := .str sFlip) (h1 := []) (h2 := []) rfl rfl).trans ?_
    simp only [apCmp, eq_str, beq_self_eq_true]
  · simp only [cond]
    refine do_ret ?_
    refine (xe_call2 (x := .tup (os.map optI)) (y := .int 2) (h1 := []) (h2 := []) ?_ rfl).trans ?_
    · simp only [ev, evs, nth, bndR, bound, apSl, cut_tl]
    · exact k2 n os hl []
theorem k5s (n : Nat) (w0 : List Nat) (r : List (List Nat)) (hf : (w0 == sFlip) = false) (h : List Ob) : call G T (n + 3) 5 [.tup (stL (w0 :: r))] h = .ok (.bl (RD (w0 :: r)).isSome) h := by
  refine (call_s (fn := f5) rfl _ _).trans (run_v (h1 := []) rfl rfl rfl rfl ?_)
  unfold f5
  refine (do_seq (pass5 w0 (stL r) (depAll_strs r 59))).trans ?_
  have ix0 : ∀ h, ev G (call G T (n + 2)) (.ix (.var 0) (.cst (.int 0))) [some (.tup (.str w0 :: stL r))] h = .ok (.str w0) h := fun h => rfl
  refine (do_seq (σ1 := [some (.tup (.str w0 :: stL r))]) (h1 := []) ?_).trans ?_
  · refine (do_if (k := false) (h1 := []) ?_).trans ?_
    · refine xe_test ?_
      refine (xe_cmp (y := .str sFlip) (h2 := []) (ix0 _) rfl).trans ?_
      simp only [apCmp, eq_str, hf]
    · simp only [cond, exec]
  cases ht : (w0 == sTurn) with
  | true =>
    refine do_seq_rt ?_
    refine (do_if (k := true) (h1 := []) ?_).trans ?_
    · refine xe_test ?_
      refine (xe_cmp (y := .str sTurn) (h2 := []) (ix0 _) rfl).trans ?_
      simp only [apCmp, eq_str, ht]
    · simp only [cond]
      refine do_ret ?_
      have e1 : ev G (call G T (n + 2)) (.call 1 (.cons false (.var 0) (.cons false (.cst (.int 2)) .nil))) [some (.tup (.str w0 :: stL r))] [] = .ok (.bl (((stL (w0 :: r)).length : Int) == 2)) [] := by
        refine (xe_call2 (x := .tup (stL (w0 :: r))) (y := .int 2) (h1 := []) (h2 := []) rfl rfl).trans ?_
        exact k1 (n + 1) _ rfl 2 []
      have tsp : (w0 == sSpin) = false := by
        have := eq_of_beq ht
        subst this
        rfl
      match r with
      | [] => exact (xe_and_f e1 rfl).trans (by simp only [RD, tsp]; rfl)
      | [w1] =>
        refine (xe_and_t e1 rfl).trans ?_
        refine (xe_call1 (x := .str w1) (h1 := []) rfl).trans ?_
        rw [k4 (n + 1)]
        simp only [RD, ht, Bool.true_and]
        cases anyEq (PV.str w1) TWL <;> rfl
      | [w1, w2] => exact (xe_and_f e1 rfl).trans (by simp only [RD, hf]; rfl)
      | w1 :: w2 :: w3 :: r =>
        have z : (((stL (w0 :: w1 :: w2 :: w3 :: r)).length : Int) == 2) = false := by
          rw [stL_len]
          refine beq_eq_false_iff_ne.mpr ?_
          simp only [List.length_cons]
          omega
        rw [z] at e1
        exact (xe_and_f e1 rfl).trans rfl
  | false =>
    refine (do_seq (σ1 := [some (.tup (.str w0 :: stL r))]) (h1 := []) ?_).trans ?_
    · refine (do_if (k := false) (h1 := []) ?_).trans ?_
      · refine xe_test ?_
        refine (xe_cmp (y := .str sTurn) (h2 := []) (ix0 _) rfl).trans ?_
        simp only [apCmp, eq_str, ht]
      · simp only [cond, exec]
    refine do_ret ?_
    refine (xe_cmp (x := .tup (stL (w0 :: r))) (y := .tup [.str sSpin]) (h1 := []) (h2 := []) rfl rfl).trans ?_
    simp only [apCmp, eq_tup1]
    congr 2
    match r with
    | [] =>
      simp only [RD]
      cases (w0 == sSpin) <;> rfl
    | [w1] => simp only [RD, ht, Bool.false_and, nonE, Bool.not_true, Bool.and_false]; rfl
    | [w1, w2] => simp only [RD, hf, nonE, Bool.not_true, Bool.and_false]; rfl
    | w1 :: w2 :: w3 :: r => simp only [RD, nonE, Bool.not_true, Bool.and_false]; rfl
/-- the words of a text -/
def Wo (s : List Nat) : List (List Nat) := TL.spl [32] 0 [] s
theorem spl_ne (S : List Nat) : ∀ (s : List Nat) (k : Nat) (acc : List Nat), ∃ w0 r, TL.spl S k acc s = w0 :: r
  | [], k, acc => ⟨acc, [], TL.spl_nil S k acc⟩
  | c :: s, 0, acc => by
    cases h : TL.pre S (c :: s) with
    | true => rw [TL.spl_hit h]; exact ⟨_, _, rfl⟩
    | false => rw [TL.spl_miss h]; exact spl_ne S s 0 _
  | c :: s, k + 1, acc => by
    rw [TL.spl]
    exact spl_ne S s k acc
/-- the words are shorter than the text, and few -/
theorem spl_size (S : List Nat) : ∀ (s : List Nat) (k : Nat) (acc : List Nat), (∀ w ∈ TL.spl S k acc s, w.length ≤ acc.length + s.length) ∧ (TL.spl S k acc s).length ≤ s.length + 1
  | [], k, acc => by
    rw [TL.spl_nil]
    refine ⟨fun w hw => ?_, by simp⟩
    rw [List.mem_singleton.mp hw]
    simp
  | c :: s, 0, acc => by
    cases h : TL.pre S (c :: s) with
    | true =>
      rw [TL.spl_hit h]
      obtain ⟨h1, h2⟩ := spl_size S s (S.length - 1) []
      refine ⟨fun w hw => ?_, by simp only [List.length_cons]; omega⟩
      rcases List.mem_cons.mp hw with rfl | hw
      · omega
      · have := h1 w hw
        simp only [List.length_nil, List.length_cons] at this ⊢
        omega
    | false =>
      rw [TL.spl_miss h]
      obtain ⟨h1, h2⟩ := spl_size S s 0 (acc ++ [c])
      refine ⟨fun w hw => ?_, by simp only [List.length_cons]; omega⟩
      have := h1 w hw
      simp only [List.length_append, List.length_cons, List.length_nil] at this ⊢
      omega
  | c :: s, k + 1, acc => by
    rw [TL.spl]
    obtain ⟨h1, h2⟩ := spl_size S s k acc
    refine ⟨fun w hw => ?_, by simp only [List.length_cons]; omega⟩
    have := h1 w hw
    simp only [List.length_cons]
    omega
theorem split_ev {m : Bool} (s : List Nat) (hl : s.length ≤ 640) (h : List Ob) : apMe (.split m) (.str s) [.str [32]] h = mkL m (stL (Wo s)) h := by
  unfold apMe
  have : (nonE [32] && low256 [32] && decide (s.length + 2 ≤ line)) = true := by
    have : s.length + 2 ≤ line := by unfold line; omega
    simp [nonE, low256, this]
    rfl
  simp only [this, if_true]
  rfl
theorem k9 (n : Nat) (s : List Nat) (hl : s.length ≤ 640) (h : List Ob) : call G T (n + 4) 9 [.str s] h = .ok (optN (RD (Wo s))) h := by
  have hD : (optN (RD (Wo s))).isD = true := by
    unfold RD
    split <;> (try rfl)
    · split <;> rfl
    · split <;> rfl
    · split
      · split <;> rfl
      · rfl
  refine (call_s (fn := f9) rfl _ _).trans (run_v (h1 := []) hD rfl rfl rfl ?_)
  unfold f9
  show exec G (call G T (n + 3)) _ [some (.str s), none, none, none] [] = _
  refine (do_seq (σ1 := [some (.str s), none, none, none]) (h1 := []) ?_).trans ?_
  · refine (do_if (k := false) (h1 := []) rfl).trans ?_
    simp only [cond, exec]
  refine (do_seq (σ1 := [some (.str s), some (.lst (stL (Wo s))), none, none]) (h1 := []) ?_).trans ?_
  · refine (do_asg (v := .lst (stL (Wo s))) (h1 := []) ?_).trans rfl
    simp only [ev, evs, nth, meTy, G]
    rw [split_ev s hl]
    rfl
  obtain ⟨w0, r, e⟩ := spl_ne [32] s 0 []
  obtain ⟨z1, z2⟩ := spl_size [32] s 0 []
  have e' : Wo s = w0 :: r := e
  rw [e] at z1 z2
  simp only [List.length_nil, Nat.zero_add, List.length_cons] at z1 z2
  rw [e']
  have ix0 : ∀ h, ev G (call G T (n + 3)) (.ix (.var 1) (.cst (.int 0))) [some (.str s), some (.lst (stL (w0 :: r))), none, none] h = .ok (.str w0) h := fun h => rfl
  cases hf : (w0 == sFlip) with
  | true =>
    have := eq_of_beq hf
    subst this
    refine (do_seq (σ1 := [some (.str s), some (.lst (stL (sFlip :: r))), some (.tup (.str sFlip :: (r.map WV).map optI)), none]) (h1 := []) ?_).trans ?_
    · refine (do_asg (v := .tup (.str sFlip :: (r.map WV).map optI)) (h1 := []) ?_).trans rfl
      refine (xe_ife (k := true) (h1 := []) ?_).trans ?_
      · refine xe_test ((xe_cmp (y := .str sFlip) (h2 := []) (ix0 _) rfl).trans ?_)
        simp only [apCmp, eq_str, beq_self_eq_true]
      · simp only [cond]
        have q := ev_map (G := G) (o := call G T (n + 3)) (m := false) (own := [3]) (it := .plain (.sl false (.var 1) (.cons false (.cst (.int 1)) .nil) .nil)) (i := 3) (e := .call 7 (.cons false (.var 3) .nil)) (σ := [some (.str s), some (.lst (stL (sFlip :: r))), none, none]) (h := []) (h1 := []) (xs := stL r) (fun x => match x with | .str w => optI (WV w) | _ => .non) (by
            simp only [evI, ev, evs, nth, bndR, bound, apSl]
            show (match mkL false (cut (stL (sFlip :: r)) (some 1) none) [] with | .ok (.tup xs) h1 => R.ok xs h1 | .ok (.lst xs) h1 => .ok xs h1 | .ok (.frz xs) h1 => .ok xs h1 | .ok (.str s) h1 => .ok (signs s) h1 | .ok _ _ => .no | .ex c fs h1 => .ex c fs h1 | .no => .no) = _
            rw [show cut (stL (sFlip :: r)) (some 1) none = stL r from cut_tl _ _]
            rfl) (by rw [stL_len]; unfold line; omega) (by
          intro x hx
          obtain ⟨w, hw, rfl⟩ := List.mem_map.mp hx
          have hwl : w.length ≤ 640 := Nat.le_trans (z1 w (List.mem_cons_of_mem _ hw)) hl
          refine ⟨(xe_call1 (x := .str w) (h1 := []) rfl).trans (k7 n w hwl []), ?_⟩
          show (optI (WV w)).isD = true
          cases WV w <;> rfl)
        have e2 : (stL r).map (fun x => match x with | .str w => optI (WV w) | _ => .non) = (r.map WV).map optI := by
          unfold stL
          rw [List.map_map, List.map_map]
          rfl
        rw [e2] at q
        rw [ev, evs]
        simp only [ev, G]
        rw [evs]
        rw [q]
        simp only [mkL, seqOf, lstOf, evs, List.append_nil]
        have a1 : allD (PV.str sFlip :: (r.map WV).map optI) = true := by
          have : ∀ os : List (Option Int), allD (os.map optI) = true := fun os => by
            induction os with
            | nil => rfl
            | cons o os ih => rw [List.map_cons, allD, ih]; cases o <;> rfl
          exact this (r.map WV)
        have a2 : (PV.str sFlip :: (r.map WV).map optI).length ≤ line := by
          simp only [List.length_cons, List.length_map]
          unfold line
          omega
        show (if (allD (PV.str sFlip :: (r.map WV).map optI) && decide ((PV.str sFlip :: (r.map WV).map optI).length ≤ line)) = true then R.ok (PV.tup (PV.str sFlip :: (r.map WV).map optI)) [] else .no) = _
        rw [a1, decide_eq_true a2]
        rfl
    refine do_ret ?_
    have k5 := k5f n (r.map WV) (by rw [List.length_map]; unfold line; omega) []
    have c5 : ev G (call G T (n + 3)) (.call 5 (.cons false (.var 2) .nil)) [some (.str s), some (.lst (stL (sFlip :: r))), some (.tup (.str sFlip :: (r.map WV).map optI)), none] [] = .ok (.bl ((r.map WV).length == 2 && (r.map WV).all Option.isSome)) [] := (xe_call1 (x := .tup (.str sFlip :: (r.map WV).map optI)) (h1 := []) rfl).trans k5
    refine (xe_ife (xe_test c5)).trans ?_
    match r with
    | [] => rfl
    | [w1] => rfl
    | [w1, w2] =>
      simp only [RD]
      have : (sFlip == sFlip) = true := beq_self_eq_true _
      rw [this]
      simp only [List.map_cons, List.map_nil]
      cases WV w1 <;> cases WV w2 <;> rfl
    | w1 :: w2 :: w3 :: r =>
      have : (((w1 :: w2 :: w3 :: r).map WV).length == 2) = false := by
        refine beq_eq_false_iff_ne.mpr ?_
        simp only [List.length_map, List.length_cons]
        omega
      rw [this]
      rfl
  | false =>
    refine (do_seq (σ1 := [some (.str s), some (.lst (stL (w0 :: r))), some (.tup (stL (w0 :: r))), none]) (h1 := []) ?_).trans ?_
    · refine (do_asg (v := .tup (stL (w0 :: r))) (h1 := []) ?_).trans rfl
      refine (xe_ife (k := false) (h1 := []) ?_).trans ?_
      · refine xe_test ((xe_cmp (y := .str sFlip) (h2 := []) (ix0 _) rfl).trans ?_)
        simp only [apCmp, eq_str, hf]
      · simp only [cond]
        rfl
    refine do_ret ?_
    have c5 : ev G (call G T (n + 3)) (.call 5 (.cons false (.var 2) .nil)) [some (.str s), some (.lst (stL (w0 :: r))), some (.tup (stL (w0 :: r))), none] [] = .ok (.bl (RD (w0 :: r)).isSome) [] := (xe_call1 (x := .tup (stL (w0 :: r))) (h1 := []) rfl).trans (k5s n w0 r hf [])
    refine (xe_ife (xe_test c5)).trans ?_
    have rd : ∀ d, RD (w0 :: r) = some d → d = .tup (stL (w0 :: r)) := by
      intro d hd
      match r with
      | [] =>
        simp only [RD] at hd
        split at hd
        · rename_i q; cases hd; rw [eq_of_beq q]; rfl
        · cases hd
      | [w1] =>
        simp only [RD] at hd
        split at hd
        · rename_i q
          obtain ⟨q1, q2⟩ := (Bool.and_eq_true _ _).mp q
          cases hd; rw [eq_of_beq q1]; rfl
        · cases hd
      | [w1, w2] =>
        simp only [RD, hf] at hd
        cases hd
      | w1 :: w2 :: w3 :: r => simp only [RD] at hd; cases hd
    cases hr : RD (w0 :: r) with
    | none => rfl
    | some d =>
      rw [rd d hr]
      rfl
end K81

/-! P81d: what read_deed and the law's reader tell (k81). -/
namespace K81
open Mi
theorem k10s (n : Nat) (d : PV) (hd : d ≠ .non) (hD : d.isD = true) (s : List Nat) (h : List Ob) : call G T (n + 1) 10 [d, .str s] h = .ok .non h := by
  have hall : allD [d, .str s] = true := by
    rw [allD, hD]
    rfl
  refine (call_s (fn := f10) rfl _ _).trans (run_n (h1 := []) rfl hall rfl (σ := [some d, some (.str s)]) ?_)
  show exec G (call G T n) f10.body [some d, some (.str s)] [] = _
  unfold f10
  refine (do_if (k := false) (h1 := []) ?_).trans ?_
  · refine xe_test ((xe_cmp (x := d) (y := .non) (h1 := []) (h2 := []) rfl rfl).trans ?_)
    cases d <;> first | exact absurd rfl hd | rfl
  · simp only [cond, exec]
theorem k10n (n : Nat) (s : List Nat) (h : List Ob) : call G T (n + 1) 10 [.non, .str s] h = .ex 0 [.str s] h := by
  refine (call_s (fn := f10) rfl _ _).trans (run_x (h1 := []) rfl rfl rfl (σ := [some .non, some (.str s)]) ?_)
  rfl
/-- what read_deed makes of words -/
def outR (r : Option PV) (s : List Nat) (h : List Ob) : R PV := match r with
  | some d => .ok d h
  | none => .ex 0 [.str s] h
theorem RD_ne {ws : List (List Nat)} {d : PV} (e : RD ws = some d) : d ≠ .non ∧ d.isD = true ∧ ∃ x xs, d = .tup (x :: xs) ∧ depAll (x :: xs) 59 = true := by
  unfold RD at e
  split at e
  · split at e <;> cases e
    exact ⟨PV.noConfusion, rfl, _, _, rfl, rfl⟩
  · split at e <;> cases e
    exact ⟨PV.noConfusion, rfl, _, _, rfl, rfl⟩
  · split at e
    · split at e <;> cases e
      exact ⟨PV.noConfusion, rfl, _, _, rfl, rfl⟩
    · cases e
  · cases e
theorem k12 (n : Nat) (s : List Nat) (hl : s.length ≤ 640) (h : List Ob) : call G T (n + 5) 12 [.str s] h = outR (RD (Wo s)) s h := by
  have e9 := k9 n s hl []
  have s1 : exec G (call G T (n + 4)) (.asg (.nm 1) (.call 9 (.cons false (.var 0) .nil))) [some (.str s), none] [] = .ok (.nx [some (.str s), some (optN (RD (Wo s)))]) [] := (do_asg ((xe_call1 (x := .str s) (h1 := []) rfl).trans e9)).trans rfl
  cases hr : RD (Wo s) with
  | none =>
    rw [hr] at s1
    refine (call_s (fn := f12) rfl _ _).trans (run_x (h1 := []) (σ := [some (.str s), some .non]) rfl rfl rfl ?_)
    show exec G (call G T (n + 4)) f12.body [some (.str s), none] [] = _
    unfold f12
    refine (do_seq s1).trans (do_rs ?_)
    rw [exec]
    rw [xe_call2 (x := .non) (y := .str s) (h1 := []) (h2 := []) rfl rfl, k10n (n + 3)]
    rfl
  | some d =>
    rw [hr] at s1
    obtain ⟨d1, d2, _⟩ := RD_ne hr
    refine (call_s (fn := f12) rfl _ _).trans (run_v (h1 := []) d2 rfl rfl rfl ?_)
    show exec G (call G T (n + 4)) f12.body [some (.str s), none] [] = _
    unfold f12
    refine (do_seq s1).trans ?_
    refine (do_seq (σ1 := [some (.str s), some d]) (h1 := []) ?_).trans ?_
    · rw [exec]
      rw [xe_call2 (x := d) (y := .str s) (h1 := []) (h2 := []) rfl rfl, k10s (n + 3) d d1 d2]
      rfl
    · exact do_ret rfl
theorem k19 (n : Nat) (s : List Nat) (hl : s.length ≤ 640) (h : List Ob) : call G T (n + 2) 19 [.str s] h = .ok (optT (RD (Wo s))) h := by
  have hD : (optT (RD (Wo s))).isD = true := by
    cases hr : RD (Wo s) with
    | none => rfl
    | some d => exact (RD_ne hr).2.1
  refine (call_s (fn := f19) rfl _ _).trans (run_v (h1 := []) hD rfl rfl rfl ?_)
  unfold f19
  show exec G (call G T (n + 1)) _ [some (.str s), none, none] [] = _
  refine (do_seq (σ1 := [some (.str s), some (.lst (stL (Wo s))), none]) (h1 := []) ?_).trans ?_
  · refine (do_asg (v := .lst (stL (Wo s))) (h1 := []) ?_).trans rfl
    simp only [ev, evs, nth, meTy]
    rw [split_ev s hl]
    rfl
  obtain ⟨w0, r, e⟩ := spl_ne [32] s 0 []
  obtain ⟨z1, z2⟩ := spl_size [32] s 0 []
  have e' : Wo s = w0 :: r := e
  rw [e] at z1 z2
  simp only [List.length_nil, Nat.zero_add, List.length_cons] at z1 z2
  rw [e']
  have ix0 : ∀ h, ev G (call G T (n + 1)) (.ix (.var 1) (.cst (.int 0))) [some (.str s), some (.lst (stL (w0 :: r))), none] h = .ok (.str w0) h := fun h => rfl
  have c1 : test (ev G (call G T (n + 1)) (.cmp .eq (.var 1) (.lst false (.cons false (.cst (.str [115, 112, 105, 110])) .nil))) [some (.str s), some (.lst (stL (w0 :: r))), none] []) = .ok (w0 == sSpin && !nonE r) [] := by
    refine xe_test ((xe_cmp (x := .lst (stL (w0 :: r))) (y := .lst [.str sSpin]) (h1 := []) (h2 := []) rfl rfl).trans ?_)
    simp only [apCmp, eq_lst1]
  have len : ∀ h, ev G (call G T (n + 1)) (.bi .len (.cons false (.var 1) .nil)) [some (.str s), some (.lst (stL (w0 :: r))), none] h = .ok (.int ((r.length : Int) + 1)) h := fun h => by
    refine (xe_bi1 (x := .lst (stL (w0 :: r))) (h1 := h) rfl).trans ?_
    simp only [apBi, seqOf, lstOf, stL_len, List.length_cons]
    rfl
  cases hs : (w0 == sSpin && !nonE r) with
  | true =>
    refine do_seq_rt ?_
    refine (do_if (k := true) (h1 := []) (by rw [c1, hs])).trans ?_
    simp only [cond]
    obtain ⟨q1, q2⟩ := (Bool.and_eq_true _ _).mp hs
    have := eq_of_beq q1
    subst this
    cases r with
    | nil => exact do_ret rfl
    | cons a b => cases q2
  | false =>
    refine (do_seq (σ1 := [some (.str s), some (.lst (stL (w0 :: r))), none]) (h1 := []) ?_).trans ?_
    · refine (do_if (k := false) (h1 := []) (by rw [c1, hs])).trans ?_
      simp only [cond, exec]
    cases ht : (w0 == sTurn) with
    | true =>
      have tsp : (w0 == sSpin) = false := by
        have := eq_of_beq ht
        subst this
        rfl
      have tfl : (w0 == sFlip) = false := by
        have := eq_of_beq ht
        subst this
        rfl
      refine do_seq_rt ?_
      refine (do_if (k := true) (h1 := []) ?_).trans ?_
      · refine xe_test ((xe_cmp (y := .str sTurn) (h2 := []) (ix0 _) rfl).trans ?_)
        simp only [apCmp, eq_str, ht]
      simp only [cond]
      refine do_ret ?_
      have e1 : ev G (call G T (n + 1)) (.cmp .eq (.bi .len (.cons false (.var 1) .nil)) (.cst (.int 2))) [some (.str s), some (.lst (stL (w0 :: r))), none] [] = .ok (.bl ((r.length : Int) + 1 == 2)) [] := by
        refine (xe_cmp (y := .int 2) (h2 := []) (len _) rfl).trans ?_
        simp only [apCmp, eq_int]
      match r with
      | [] =>
        refine (xe_ife (xe_test (xe_and_f e1 rfl))).trans ?_
        simp only [cond, RD, tsp]
        rfl
      | [w1] =>
        have e2 : ev G (call G T (n + 1)) (.cmp .isIn (.ix (.var 1) (.cst (.int 1))) (.tup (.cons false (.cst (.str [109, 105, 114, 114, 111, 114])) (.cons false (.cst (.str [111, 118, 101, 114])) (.cons false (.cst (.str [115, 119, 97, 112])) (.cons false (.cst (.str [119, 104, 101, 101, 108])) .nil)))))) [some (.str s), some (.lst (stL [w0, w1])), none] [] = .ok (.bl (anyEq (.str w1) TWL)) [] := by
          refine (xe_cmp (x := .str w1) (y := .tup TWL) (h1 := []) (h2 := []) rfl rfl).trans ?_
          simp only [apCmp, seqOf, dep_str, dep_TW, Bool.and_self, if_true]
        refine (xe_ife (xe_test ((xe_and_t e1 rfl).trans e2))).trans ?_
        simp only [RD, ht, Bool.true_and]
        cases anyEq (.str w1) TWL
        · rfl
        · show _ = R.ok (optT (some (.tup [.str sTurn, .str w1]))) []
          rfl
      | [w1, w2] =>
        refine (xe_ife (xe_test (xe_and_f e1 rfl))).trans ?_
        simp only [cond, RD, tfl]
        rfl
      | w1 :: w2 :: w3 :: r =>
        have z : ((((w1 :: w2 :: w3 :: r).length : Int) + 1) == 2) = false := by
          refine beq_eq_false_iff_ne.mpr ?_
          simp only [List.length_cons]
          omega
        rw [z] at e1
        refine (xe_ife (xe_test (xe_and_f e1 rfl))).trans ?_
        simp only [cond, RD]
        rfl
    | false =>
      refine (do_seq (σ1 := [some (.str s), some (.lst (stL (w0 :: r))), none]) (h1 := []) ?_).trans ?_
      · refine (do_if (k := false) (h1 := []) ?_).trans ?_
        · refine xe_test ((xe_cmp (y := .str sTurn) (h2 := []) (ix0 _) rfl).trans ?_)
          simp only [apCmp, eq_str, ht]
        · simp only [cond, exec]
      have n0 : ev G (call G T (n + 1)) (.cmp .ne (.ix (.var 1) (.cst (.int 0))) (.cst (.str [102, 108, 105, 112]))) [some (.str s), some (.lst (stL (w0 :: r))), none] [] = .ok (.bl (!(w0 == sFlip))) [] := by
        refine (xe_cmp (y := .str sFlip) (h2 := []) (ix0 _) rfl).trans ?_
        simp only [apCmp, eq_str]
      have n1 : ev G (call G T (n + 1)) (.cmp .ne (.bi .len (.cons false (.var 1) .nil)) (.cst (.int 3))) [some (.str s), some (.lst (stL (w0 :: r))), none] [] = .ok (.bl (!((r.length : Int) + 1 == 3))) [] := by
        refine (xe_cmp (y := .int 3) (h2 := []) (len _) rfl).trans ?_
        simp only [apCmp, eq_int]
      cases hf : (w0 == sFlip) with
      | false =>
        rw [hf] at n0
        refine do_seq_rt ?_
        refine (do_if (k := true) (h1 := []) (xe_test (xe_or_t n0 rfl))).trans ?_
        simp only [cond]
        refine (do_ret (v := .tup []) (h1 := []) rfl).trans ?_
        match r with
        | [] =>
          simp only [nonE, Bool.not_false, Bool.and_true] at hs
          simp only [RD, hs, optT]
        | [w1] => simp only [RD, ht, Bool.false_and, optT]
        | [w1, w2] => simp only [RD, hf, optT]
        | w1 :: w2 :: w3 :: r => simp only [RD, optT]
      | true =>
        rw [hf] at n0
        have := eq_of_beq hf
        subst this
        by_cases h3 : r.length = 2
        · match r, h3 with
          | [w1, w2], _ =>
            refine (do_seq (σ1 := [some (.str s), some (.lst (stL [sFlip, w1, w2])), none]) (h1 := []) ?_).trans ?_
            · refine (do_if (k := false) (h1 := []) (xe_test ((xe_or_f n0 rfl).trans n1))).trans ?_
              simp only [cond, exec]
            have l1 : w1.length ≤ 640 := Nat.le_trans (z1 w1 (by simp)) hl
            have l2 : w2.length ≤ 640 := Nat.le_trans (z1 w2 (by simp)) hl
            have a1 : ev G (call G T (n + 1)) (.call 18 (.cons false (.ix (.var 1) (.cst (.int 1))) .nil)) [some (.str s), some (.lst (stL [sFlip, w1, w2])), none] [] = .ok (.lst (optL (WV w1))) [] := (xe_call1 (x := .str w1) (h1 := []) rfl).trans (k18 n w1 l1 [])
            have a2 : ev G (call G T (n + 1)) (.call 18 (.cons false (.ix (.var 1) (.cst (.int 2))) .nil)) [some (.str s), some (.lst (stL [sFlip, w1, w2])), none] [] = .ok (.lst (optL (WV w2))) [] := (xe_call1 (x := .str w2) (h1 := []) rfl).trans (k18 n w2 l2 [])
            refine (do_seq (do_asg (v := .lst (optL (WV w1) ++ optL (WV w2))) (h1 := []) ?_)).trans ?_
            · refine (xe_bin a1 a2).trans ?_
              cases WV w1 <;> cases WV w2 <;> rfl
            refine do_ret ?_
            simp only [RD, hf]
            cases WV w1 <;> cases WV w2 <;> rfl
        · have z : ((r.length : Int) + 1 == 3) = false := by
            refine beq_eq_false_iff_ne.mpr ?_
            omega
          rw [z] at n1
          refine do_seq_rt ?_
          refine (do_if (k := true) (h1 := []) (xe_test ((xe_or_f n0 rfl).trans n1))).trans ?_
          simp only [cond]
          refine (do_ret (v := .tup []) (h1 := []) rfl).trans ?_
          match r with
          | [] => rfl
          | [w1] => rfl
          | [w1, w2] => exact absurd rfl h3
          | w1 :: w2 :: w3 :: r => rfl
end K81

/-! P81e: same values are the same, deeds that are drawn, values without their form (k81). -/
namespace K81
open Mi
mutual
/-- not deep, not long -/
def sz : PV → Nat → Bool
  | .tup xs, n => match n with | 0 => false | n + 1 => match Nat.ble xs.length 100 with | true => szAll xs n | false => false
  | .lst xs, n => match n with | 0 => false | n + 1 => match Nat.ble xs.length 100 with | true => szAll xs n | false => false
  | .frz _, _ => false
  | .loc _, _ => false
  | _, _ => true
def szAll : List PV → Nat → Bool
  | [], _ => true
  | x :: xs, n => match sz x n with | true => szAll xs n | false => false
end
theorem szAll_mem : ∀ {xs : List PV} {n : Nat} {x : PV}, szAll xs n = true → x ∈ xs → sz x n = true
  | [], _, _, _, h => by cases h
  | y :: ys, n, x, e, h => by
    rw [szAll] at e
    split at e
    · rename_i q
      rcases List.mem_cons.mp h with rfl | h
      · exact q
      · exact szAll_mem e h
    · cases e
theorem up_mem : ∀ {n : Nat} {a : Int} {x : PV}, x ∈ up a n → ∃ k : Nat, k < n ∧ x = .int (a + k)
  | 0, _, _, h => by cases h
  | n + 1, a, x, h => by
    rw [up] at h
    rcases List.mem_cons.mp h with rfl | h
    · exact ⟨0, Nat.succ_pos _, by simp⟩
    · obtain ⟨k, h1, rfl⟩ := up_mem h
      exact ⟨k + 1, by omega, by congr 1; omega⟩
theorem up_len : ∀ (n : Nat) (a : Int), (up a n).length = n
  | 0, _ => rfl
  | n + 1, a => by rw [up, List.length_cons, up_len n]
theorem q2 {n : Nat} (h : n ≤ line) : n < 4611686018427387904 := Nat.lt_of_le_of_lt h (by decide +kernel)
theorem q1 {n : Nat} (h2 : n < 4611686018427387904) : in62 (n : Int) = true := by
    unfold in62 two62
    rw [Bool.and_eq_true, decide_eq_true_eq, decide_eq_true_eq]
    constructor <;> omega
theorem q4 (n : Nat) : ((n : Int) - 0).toNat = n := by rw [Int.sub_zero, Int.toNat_natCast]
theorem q3 : in62 0 = true := by decide
theorem rng_up (n : Nat) (h : n ≤ line) : rngItems [.int n] = some (up 0 n) := by
  have c1 := q1 (q2 h)
  have c4 := q4 n
  have c3 := q3
  unfold rngItems rngOf
  simp only [c1, c3, Bool.and_self, if_true, c4, if_pos h]
theorem rngI_ok {vs ys : List PV} {h : List Ob} (e : rngItems vs = some ys) : rngI (.ok vs h) = .ok ys h := by
  unfold rngI
  simp only
  rw [e]
theorem xi_rng1 {G : Nat → Option PV} {o : Orc} {e : Ex} {σ : Sl} {h h1 : List Ob} {n : Nat} (he : ev G o e σ h = .ok (.int n) h1) (hn : n ≤ line) : evI G o (.rng (.cons false e .nil)) σ h = .ok (up 0 n) h1 := by
  have e1 : evs G o (.cons false e .nil) σ h = .ok [.int n] h1 := by
    rw [evs, he]
    simp only [evs]
  rw [evI_rng]
  simp only
  rw [e1]
  exact rngI_ok (rng_up n hn)
theorem hundred {n : Nat} (h : n ≤ 100) : n ≤ line := Nat.le_trans h (by decide +kernel)
theorem bools_true : ∀ (α : Type) (xs : List α), boolsOf (xs.map fun _ => PV.bl true) = some (xs.map fun _ => true)
  | _, [] => rfl
  | α, x :: xs => by rw [List.map_cons, boolsOf, bools_true α xs]; rfl
theorem k16a (n : Nat) (xs : List PV) (v : PV) (hv : v = .tup xs ∨ v = .lst xs) (hx : xs.length ≤ 100) (H : ∀ x ∈ xs, ∀ h, call G T n 16 [x, x] h = .ok (.bl true) h) (h : List Ob) : call G T (n + 1) 16 [v, v] h = .ok (.bl true) h := by
  have hd : allD [v, v] = true := by rcases hv with rfl | rfl <;> rfl
  refine (call_s (fn := f16) rfl _ _).trans (run_v (h1 := []) rfl rfl hd rfl ?_)
  have hs : ∀ h : List Ob, seqOf h v = some xs := fun h => by rcases hv with rfl | rfl <;> rfl
  have hn : ∀ s, v ≠ .str s := fun s e => by rcases hv with rfl | rfl <;> cases e
  show exec G (call G T n) f16.body [some v, some v, none] [] = _
  unfold f16
  refine do_seq_rt ?_
  refine (do_if (k := true) (h1 := []) ?_).trans ?_
  · rcases hv with rfl | rfl <;> rfl
  simp only [cond]
  refine do_ret ?_
  have len : ∀ i, (i = 0 ∨ i = 1) → ∀ h, ev G (call G T n) (.bi .len (.cons false (.var i) .nil)) [some v, some v, none] h = .ok (.int xs.length) h := fun i hi h => by
    refine (xe_bi1 (x := v) (h1 := h) (by rcases hi with rfl | rfl <;> rfl)).trans ?_
    rcases hv with rfl | rfl <;> rfl
  refine (xe_and_t (x := .bl true) (h1 := []) ?_ rfl).trans ?_
  · refine (xe_cmp (len 0 (.inl rfl) _) (len 1 (.inr rfl) _)).trans ?_
    simp only [apCmp, eq_int, beq_self_eq_true]
  have q := ev_map (G := G) (o := call G T n) (m := false) (own := [2]) (it := .rng (.cons false (.bi .len (.cons false (.var 1) .nil)) .nil)) (i := 2) (e := .call 16 (.cons false (.ix (.var 0) (.var 2)) (.cons false (.ix (.var 1) (.var 2)) .nil))) (σ := [some v, some v, none]) (h := []) (h1 := []) (xs := up 0 xs.length) (fun _ => .bl true) (xi_rng1 (len 1 (.inr rfl) _) (hundred hx)) (by rw [up_len]; exact hundred hx) (by
    intro x hxm
    obtain ⟨k, hk, rfl⟩ := up_mem hxm
    refine ⟨?_, rfl⟩
    have a : Mi.atI xs (0 + (k : Int)) = some xs[k] := by
      rw [Int.zero_add]
      exact List.getElem?_eq_getElem hk
    have i0 : ∀ i, (i = 0 ∨ i = 1) → ∀ h, ev G (call G T n) (.ix (.var i) (.var 2)) (put (Mi.wipe [some v, some v, none] [2]) 2 (some (.int (0 + (k : Int))))) h = .ok xs[k] h := fun i hi h => by
      refine (xe_ix (x := v) (y := .int (0 + (k : Int))) (h1 := h) (h2 := h) (by rcases hi with rfl | rfl <;> rfl) rfl).trans ?_
      rcases hv with rfl | rfl <;> simp only [apIx, seqOf, lstOf, a]
    exact (xe_call2 (i0 0 (.inl rfl) _) (i0 1 (.inr rfl) _)).trans (H _ (List.getElem_mem hk) []))
  refine (xe_bi1 (q.trans rfl)).trans ?_
  simp only [apBi, lstOf, bools_true, List.all_map]
  simp
theorem k16 : ∀ (k n : Nat) (x : PV), sz x k = true → ∀ h, call G T (n + k + 1) 16 [x, x] h = .ok (.bl true) h := by
  have atom : ∀ (n : Nat) (x : PV), (match x with | .non => true | .bl _ => true | .int _ => true | .str _ => true | _ => false) = true → ∀ h, call G T (n + 1) 16 [x, x] h = .ok (.bl true) h := by
    intro n x hx h
    have hd : allD [x, x] = true := by cases x <;> first | rfl | cases hx
    refine (call_s (fn := f16) rfl _ _).trans (run_v (h1 := []) rfl rfl hd rfl ?_)
    show exec G (call G T n) f16.body [some x, some x, none] [] = _
    unfold f16
    refine (do_seq (σ1 := [some x, some x, none]) (h1 := []) ?_).trans ?_
    · refine (do_if (k := false) (h1 := []) ?_).trans (by simp only [cond, exec])
      cases x <;> first | rfl | cases hx
    refine (do_seq (σ1 := [some x, some x, none]) (h1 := []) ?_).trans ?_
    · refine (do_if (k := false) (h1 := []) ?_).trans (by simp only [cond, exec])
      cases x <;> first | rfl | cases hx
    refine (do_seq (σ1 := [some x, some x, none]) (h1 := []) ?_).trans ?_
    · refine (do_if (k := false) (h1 := []) ?_).trans (by simp only [cond, exec])
      cases x <;> first | rfl | cases hx
    refine do_ret ?_
    cases x with
    | non => rfl
    | bl b => cases b <;> rfl
    | int i =>
      refine (xe_ife (k := false) (h1 := []) rfl).trans ?_
      simp only [cond]
      refine (xe_cmp (x := .int i) (y := .int i) (h1 := []) (h2 := []) rfl rfl).trans ?_
      simp only [apCmp, eq_int, beq_self_eq_true]
    | str s =>
      refine (xe_ife (k := false) (h1 := []) rfl).trans ?_
      simp only [cond]
      refine (xe_cmp (x := .str s) (y := .str s) (h1 := []) (h2 := []) rfl rfl).trans ?_
      simp only [apCmp, eq_str, beq_self_eq_true]
    | _ => cases hx
  intro k
  induction k with
  | zero =>
    intro n x hx h
    cases x <;> first | exact atom n _ rfl h | (simp [sz] at hx)
  | succ k ih =>
    intro n x hx h
    cases x with
    | tup xs =>
      rw [sz] at hx
      split at hx
      · rename_i q
        exact k16a (n + k + 1) xs _ (.inl rfl) (Nat.le_of_ble_eq_true q) (fun y hy h => ih n y (szAll_mem hx hy) h) h
      · cases hx
    | lst xs =>
      rw [sz] at hx
      split at hx
      · rename_i q
        exact k16a (n + k + 1) xs _ (.inr rfl) (Nat.le_of_ble_eq_true q) (fun y hy h => ih n y (szAll_mem hx hy) h) h
      · cases hx
    | frz xs => simp [sz] at hx
    | loc p => simp [sz] at hx
    | _ => exact atom (n + (k + 1)) _ rfl h
/-- the texts of parts -/
def fmts : List PV → Option (List (List Nat))
  | [] => some []
  | p :: r => match fmtV p with
    | some s => match fmts r with
      | some ss => some (s :: ss)
      | none => none
    | none => none
/-- parts parted by blanks -/
def txOf : PV → Option (List Nat)
  | .tup ps => match Nat.ble ps.length 100 with
    | true => match fmts ps with
      | some ss => match Nat.ble (lens ss + ss.length) 600 with
        | true => some (joinN [32] ss)
        | false => none
      | none => none
    | false => none
  | _ => none
def mkF (i j : Int) : PV := .tup [.str sFlip, .int i, .int j]
def wordsT : List (List Nat) := [[109, 105, 114, 114, 111, 114], [111, 118, 101, 114], [115, 119, 97, 112], [119, 104, 101, 101, 108]]
def NL : List Int := [0, 1, 2, 3, -1, 10, 100000000000000000000, -1000000000]
def ML : List Int := [-1, 0, 1, 2, 3, 4]
def DL : List PV := (wordsT.map fun w => .tup [.str sTurn, .str w]) ++ ([.tup [.str sSpin]] ++ ((ML.flatMap fun i => ML.map (mkF i)) ++ NL.flatMap fun i => NL.map (mkF i)))
def oddC : List PV := [.non, .tup [], .int 5, .tup [.str sFlip], .tup [.str sFlip, .int 0], .tup [.str sFlip, .int 0, .non], .tup [.str sFlip, .bl true, .int 1],
  .tup [.str sFlip, .str [48], .int 1], .tup [.str sTurn], .tup [.str sTurn, .str [77, 105, 114, 114, 111, 114]], .tup [.str sTurn, .non], .tup [.str sTurn, .tup [.str [109, 105, 114, 114, 111, 114]]], .tup [.str sSpin, .int 0], .tup [.str [115, 112, 117, 110]], .tup [.int 5, .int 0, .int 0], .tup [.tup [.str sFlip], .int 0, .int 0]]
def oddD (ps : List PV) (t : List Nat) : List PV := [.tup (ps ++ [.int 1]), .lst ps, .str t, .tup ps]
def chkO (x : PV) : Bool := x.isD && sz x 3 && (match runD G (call G T 10) f20 [x], runD G (call G T 10) f11 [x] with
  | some (.val (.bl b)), some r => match b with
    | true => match txOf x with
      | some t => sameR r (.val (.str t))
      | none => false
    | false => sameR r (.exn 1 [x])
  | _, _ => false)
def chkD (x : PV) : Bool := match x with
  | .tup ps => match txOf (.tup ps) with
    | some t => sz (.tup ps) 3 && (PV.tup ps).dep 60 && (PV.tup ps).eqv (.tup ps) && Nat.ble t.length 60 && low128 t && (match RD (Wo t) with | some d => sameP d (.tup ps) | none => false) && (match runD G (call G T 10) f11 [.tup ps] with | some r => sameR r (.val (.str t)) | none => false) && (oddD ps t).all chkO
    | none => false
  | _ => false
theorem chk_C : oddC.all chkO = true := by decide +kernel
end K81

/-! P81f: the deeds, checked (k81). -/
namespace K81
open Mi
theorem chk_D : DL.all chkD = true := by decide +kernel
end K81

/-! P81g: draws; a bent text (k81). -/
namespace K81
open Mi
theorem run_data {G : Nat → Option PV} {o : Orc} {fn : Fn} {args : List PV} {h h1 : List Ob} {v : PV} {st : Sl} (hv : v.isD = true) (hn : Nat.beq args.length fn.pars = true) (hd : allD args = false) (hs : startSl args (fn.slots - fn.pars) = st) (e : exec G o fn.body st h = .ok (.rt v) h1) : runFn G o fn args h = .ok v (h1.take h.length) := by
  unfold runFn
  rw [hn]
  simp only
  rw [hd, hs]
  simp only
  rw [e]
  cases v <;> first | rfl | cases hv
theorem obAt_takeL : ∀ {h : List Ob} {m k : Nat}, k < m → obAt (h.take m) k = obAt h k
  | [], m, k, l => by rw [List.take_nil]
  | o :: r, 0, k, l => absurd l (Nat.not_lt_zero _)
  | o :: r, m + 1, 0, l => rfl
  | o :: r, m + 1, k + 1, l => by
    rw [List.take_succ_cons]
    exact obAt_takeL (h := r) (Nat.lt_of_succ_lt_succ l)
theorem _root_.Mi.PotAt.lt {h : List Ob} {p : Nat} (hp : PotAt h p) : p < h.length := by
  obtain ⟨a, b, c, e, _⟩ := hp
  exact obAt_lt e
theorem _root_.Mi.PotAt.eq {h h' : List Ob} {p : Nat} (hp : PotAt h p) (e : obAt h' p = obAt h p) : PotAt h' p := by
  obtain ⟨a, b, c, e1, r⟩ := hp
  exact ⟨a, b, c, e.trans e1, r⟩
theorem _root_.Mi.PotAt.take {h : List Ob} {p m : Nat} (hp : PotAt h p) (l : p < m) : PotAt (h.take m) p := hp.eq (obAt_takeL l)
/-- what a draw leaves -/
structure Dr (h : List Ob) (p : Nat) (h' : List Ob) : Prop where
  len : h'.length = h.length
  pot : PotAt h' p
  ne : ∀ q, q ≠ p → obAt h' q = obAt h q
theorem Dr.of {h : List Ob} {p : Nat} {x : Ob} (hp : PotAt (obSet h p x) p) : Dr h p (obSet h p x) := ⟨obSet_length _ _ _, hp, fun q n => obAt_set_ne n⟩
theorem Dr.trans {h h' h'' : List Ob} {p : Nat} (a : Dr h p h') (b : Dr h' p h'') : Dr h p h'' := ⟨b.len.trans a.len, b.pot, fun q n => (b.ne q n).trans (a.ne q n)⟩
theorem draw_n {n : Nat} {h : List Ob} {p : Nat} {m : Int} (hp : PotAt h p) (h0 : 0 < m) (h1 : m < 1073741824) :
    ∃ (d : Nat) (h' : List Ob), call G T (n + 1) 14 [.loc p, .int m] h = .ok (.int d) h' ∧ (d : Int) < m ∧ Dr h p h' := by
  obtain ⟨d, xs, e, d0, d1, hp'⟩ := draw_ok (G := G) (o := call G T n) hp h0 h1
  obtain ⟨k, rfl⟩ : ∃ k : Nat, d = (k : Int) := ⟨d.toNat, by omega⟩
  exact ⟨k, _, (call_s rfl _ _).trans e, d1, Dr.of hp'⟩
/-- _law_pick of a row -/
theorem pick_n {n : Nat} {h : List Ob} {p : Nat} {L : List PV} {v : PV} (hv : v = .tup L ∨ v = .lst L) (hp : PotAt h p) (h0 : L ≠ []) (h1 : L.length < 1000000) (hD : ∀ x ∈ L, x.isD = true) :
    ∃ (x : PV) (h' : List Ob), x ∈ L ∧ call G T (n + 2) 15 [.loc p, v] h = .ok x h' ∧ Dr h p h' := by
  have h0' : 0 < L.length := List.length_pos_iff.mpr h0
  obtain ⟨d, h', e, d1, dr⟩ := draw_n (n := n) (m := L.length) hp (by omega) (by omega)
  have hd : d < L.length := by omega
  refine ⟨L[d], h', List.getElem_mem hd, ?_, dr⟩
  have ha : Mi.atI L d = some L[d] := List.getElem?_eq_getElem hd
  have hx : exec G (call G T (n + 1)) f15.body [some (.loc p), some v] h = .ok (.rt L[d]) h' := by
    unfold f15
    refine do_ret ?_
    refine (xe_ix (x := v) (y := .int d) (h1 := h) (h2 := h') rfl ?_).trans ?_
    · refine (xe_call2 (x := .loc p) (y := .int L.length) (h1 := h) (h2 := h) rfl ?_).trans e
      refine (xe_bi1 (x := v) (h1 := h) rfl).trans ?_
      rcases hv with rfl | rfl <;> rfl
    · rcases hv with rfl | rfl <;> simp only [apIx, seqOf, lstOf, ha]
  have hal : allD [.loc p, v] = false := rfl
  rw [call_s (fn := f15) rfl, run_data (hD _ (List.getElem_mem hd)) rfl hal rfl hx, take_len dr.len]
/-- .. of a text -/
theorem pick_s {n : Nat} {h : List Ob} {p : Nat} {s : List Nat} (hp : PotAt h p) (h0 : s ≠ []) (h1 : s.length < 1000000) :
    ∃ (c : Nat) (h' : List Ob), c ∈ s ∧ call G T (n + 2) 15 [.loc p, .str s] h = .ok (.str [c]) h' ∧ Dr h p h' := by
  have h0' : 0 < s.length := List.length_pos_iff.mpr h0
  obtain ⟨d, h', e, d1, dr⟩ := draw_n (n := n) (m := s.length) hp (by omega) (by omega)
  have hd : d < s.length := by omega
  refine ⟨s[d], h', List.getElem_mem hd, ?_, dr⟩
  have ha : Mi.atI s d = some s[d] := List.getElem?_eq_getElem hd
  have hx : exec G (call G T (n + 1)) f15.body [some (.loc p), some (.str s)] h = .ok (.rt (.str [s[d]])) h' := by
    unfold f15
    refine do_ret ?_
    refine (xe_ix (x := .str s) (y := .int d) (h1 := h) (h2 := h') rfl ?_).trans ?_
    · exact (xe_call2 (x := .loc p) (y := .int s.length) (h1 := h) (h2 := h) rfl rfl).trans e
    · simp only [apIx, ha]
  rw [call_s (fn := f15) rfl, run_data rfl rfl rfl rfl hx, take_len dr.len]
section
variable {G : Nat → Option PV} {o : Orc}
theorem xs_cons {a : Ex} {r : Exs} {σ : Sl} {h h1 h2 : List Ob} {x : PV} {xs : List PV} (e : ev G o a σ h = .ok x h1) (e2 : evs G o r σ h1 = .ok xs h2) : evs G o (.cons false a r) σ h = .ok (x :: xs) h2 := by
  rw [evs, e]
  simp only
  rw [e2]
theorem xs_nil {σ : Sl} {h : List Ob} : evs G o .nil σ h = .ok [] h := by rw [evs]
theorem xe_tup {es : Exs} {σ : Sl} {h h1 : List Ob} {xs : List PV} (e : evs G o es σ h = .ok xs h1) (hd : allD xs = true) (hl : xs.length ≤ 100) : ev G o (.tup es) σ h = .ok (.tup xs) h1 := by
  rw [ev, e]
  simp only
  rw [hd, Bool.true_and, if_pos (decide_eq_true (hundred hl))]
theorem xe_lst {es : Exs} {σ : Sl} {h h1 : List Ob} {xs : List PV} (e : evs G o es σ h = .ok xs h1) (hd : allD xs = true) (hl : xs.length ≤ 100) : ev G o (.lst false es) σ h = .ok (.lst xs) h1 := by
  rw [ev, e]
  simp only
  rw [hd, Bool.true_and, if_pos (decide_eq_true (hundred hl))]
  rfl
theorem do_par {i j : Nat} {a b : Ex} {σ : Sl} {h h1 h2 : List Ob} {x y : PV} (e : ev G o a σ h = .ok x h1) (e2 : ev G o b σ h1 = .ok y h2) : exec G o (.par i j a b) σ h = .ok (.nx (put (put σ i (some x)) j (some y))) h2 := by
  rw [exec, e]
  simp only
  rw [e2]
end
theorem cut_le {α : Type} (xs : List α) (lo hi : Option Int) : (cut xs lo hi).length ≤ xs.length := by
  unfold cut
  rw [List.length_take, List.length_drop]
  exact Nat.le_trans (Nat.min_le_right _ _) (Nat.sub_le _ _)
theorem lens_app : ∀ a b : List (List Nat), lens (a ++ b) = lens a + lens b
  | [], b => by rw [List.nil_append, lens, Nat.zero_add]
  | x :: a, b => by rw [List.cons_append, lens, lens, lens_app a b, Nat.add_assoc]
theorem lens_rev : ∀ a : List (List Nat), lens a.reverse = lens a
  | [] => rfl
  | x :: a => by
    rw [List.reverse_cons, lens_app, lens_rev a, lens, lens, lens]
    omega
theorem lens_drop : ∀ (n : Nat) (a : List (List Nat)), lens (a.drop n) ≤ lens a
  | 0, a => by rw [List.drop_zero]; exact Nat.le_refl _
  | n + 1, [] => by rw [List.drop_nil]; exact Nat.le_refl _
  | n + 1, x :: a => by
    rw [List.drop_succ_cons, lens]
    have := lens_drop n a
    omega
theorem lens_take : ∀ (n : Nat) (a : List (List Nat)), lens (a.take n) ≤ lens a
  | 0, a => by rw [List.take_zero, lens]; exact Nat.zero_le _
  | n + 1, [] => by rw [List.take_nil]; exact Nat.le_refl _
  | n + 1, x :: a => by
    rw [List.take_succ_cons, lens, lens]
    have := lens_take n a
    omega
theorem lens_set : ∀ (a : List (List Nat)) (i : Nat) (x : List Nat), lens (a.set i x) ≤ lens a + x.length
  | [], i, x => by rw [List.set_nil]; omega
  | y :: a, 0, x => by
    rw [List.set_cons_zero, lens, lens]
    omega
  | y :: a, i + 1, x => by
    rw [List.set_cons_succ, lens, lens]
    have := lens_set a i x
    omega
theorem lens_cut (a : List (List Nat)) (lo hi : Option Int) : lens (cut a lo hi) ≤ lens a := by
  unfold cut
  exact Nat.le_trans (lens_take _ _) (lens_drop _ _)
theorem spl_sum (S : List Nat) : ∀ (s : List Nat) (k : Nat) (acc : List Nat), lens (TL.spl S k acc s) + (TL.spl S k acc s).length ≤ acc.length + s.length + 1
  | [], k, acc => by
    rw [TL.spl_nil]
    simp only [lens, List.length_cons, List.length_nil]
    omega
  | c :: s, 0, acc => by
    cases h : TL.pre S (c :: s) with
    | true =>
      rw [TL.spl_hit h]
      have := spl_sum S s (S.length - 1) []
      simp only [lens, List.length_cons, List.length_nil] at this ⊢
      omega
    | false =>
      rw [TL.spl_miss h]
      have := spl_sum S s 0 (acc ++ [c])
      simp only [List.length_append, List.length_cons, List.length_nil] at this ⊢
      omega
  | c :: s, k + 1, acc => by
    rw [TL.spl]
    have := spl_sum S s k acc
    simp only [List.length_cons]
    omega
theorem joinN_len (c : Nat) : ∀ ws : List (List Nat), (joinN [c] ws).length ≤ lens ws + ws.length
  | [] => Nat.le_refl _
  | [s] => by
    rw [joinN, lens, lens]
    simp
  | s :: t :: r => by
    rw [joinN, lens]
    have := joinN_len c (t :: r)
    simp only [List.length_append, List.length_cons, List.length_nil] at this ⊢
    omega
theorem strsOf_stL : ∀ ws : List (List Nat), strsOf (stL ws) = some ws
  | [] => rfl
  | w :: r => by
    show strsOf (.str w :: stL r) = _
    rw [strsOf, strsOf_stL r]
theorem cut_stL (ws : List (List Nat)) (lo hi : Option Int) : cut (stL ws) lo hi = stL (cut ws lo hi) := cut_map _ _ _ _
/-- what a bent text may be -/
def BentOK (t : List Nat) (b : PV) : Prop := (∃ s, s.length ≤ 640 ∧ b = .str s) ∨ b = .non ∨ b = .int 5 ∨ b = .tup [.str t]
def bigTup (t : List Nat) : List PV := [.str [], .str [32], .non, .int 5, .tup [.str t], .str (t ++ [32]), .str (upT t), .str sTurn, .str [102, 108, 105, 112, 32, 48], .str [115, 112, 105, 110, 32, 48], .str [116, 117, 114, 110, 32, 116, 117, 114, 110]]
def wordsB : List (List Nat) := [[48], [48, 48], [45, 48], [48, 49], [43, 49], [109, 105, 114, 114, 111, 114], sSpin, sTurn, sFlip, []]
/-- the state behind the words' change -/
def Bst (t : List Nat) (p : Nat) (w k : Nat) (L : Nat) (σ : Sl) (h : List Ob) : Prop :=
  ∃ (a s : PV) (q : Nat) (ws : List (List Nat)), σ = [some (.loc p), some (.str t), some (.int w), some a, some s, some (.loc q), some (.int k)] ∧ obAt h q = .lst (stL ws) ∧ lens ws + ws.length ≤ 300 ∧ PotAt h p ∧ L ≤ h.length
def bentS : Sx := match f22.body with
  | .seq _ (.seq _ (.seq _ (.seq _ (.seq _ (.seq b _))))) => b
  | _ => .pass
def bentE : Ex := match f22.body with
  | .seq _ (.seq _ (.seq _ (.seq _ (.seq _ (.seq _ (.ret e)))))) => e
  | _ => .cst .non
def bentC : Sx := match f22.body with
  | .seq _ (.seq _ (.seq b _)) => b
  | _ => .pass
theorem f22_eq : f22.body = .seq (.par 2 3 (.call 14 (.cons false (.var 0) (.cons false (.cst (.int 8)) .nil))) (.call 14 (.cons false (.var 0) (.cons false (.bin false .add (.bi .len (.cons false (.var 1) .nil)) (.cst (.int 1))) .nil)))) (.seq (.asg (.nm 4) (.call 15 (.cons false (.var 0) (.cons false (.cst (.str [48, 49, 50, 51, 45, 32, 10, 112, 115])) .nil)))) (.seq bentC (.seq (.asg (.nm 5) (.me (.split true) (.var 1) (.cons false (.cst (.str [32])) .nil))) (.seq (.asg (.nm 6) (.call 14 (.cons false (.var 0) (.cons false (.bi .len (.cons false (.var 5) .nil)) .nil)))) (.seq bentS (.ret bentE)))))) := rfl
theorem bentS_ok {n : Nat} {t : List Nat} {p q : Nat} {w k : Nat} {a s : PV} {ws : List (List Nat)} {h : List Ob} (e : obAt h q = .lst (stL ws)) (hp : PotAt h p) (npq : q ≠ p) (hl : lens ws + ws.length ≤ 100) (hk : k < ws.length) {L : Nat} (hL : L ≤ h.length) :
    ∃ σ' h', exec G (call G T (n + 2)) bentS [some (.loc p), some (.str t), some (.int w), some a, some s, some (.loc q), some (.int k)] h = .ok (.nx σ') h' ∧ Bst t p w k L σ' h' := by
  have c (m : Nat) : test (ev G (call G T (n + 2)) (.cmp .eq (.var 2) (.cst (.int m))) [some (.loc p), some (.str t), some (.int w), some a, some s, some (.loc q), some (.int k)] h) = .ok ((w : Int) == m) h := by
    refine xe_test ((xe_cmp (x := .int w) (y := .int m) (h1 := h) (h2 := h) rfl rfl).trans ?_)
    simp only [apCmp, eq_int]
  have c3 := c 3
  have c4 := c 4
  have c5 := c 5
  have ndp : p < h.length := hp.lt
  have eL : lstOf h (.loc q) = some (stL ws) := by simp only [lstOf, e]
  have new : ∀ xs, PotAt (h ++ [.lst xs]) p := fun xs => hp.eq (obAt_app ndp)
  unfold bentS f22
  simp only
  by_cases w3 : w = 3
  · subst w3
    refine ⟨[some (.loc p), some (.str t), some (.int (3 : Nat)), some a, some s, some (.loc h.length), some (.int k)], h ++ [.lst (stL ws.reverse)], ?_, ⟨a, s, h.length, ws.reverse, rfl, obAt_last, by rw [lens_rev, List.length_reverse]; omega, new _, by simp; omega⟩⟩
    refine (do_if c3).trans ?_
    refine (do_asg (v := .loc h.length) (h1 := h ++ [.lst (stL ws.reverse)]) ?_).trans rfl
    rw [ev]
    simp only [ev, nth, apRev, eL, mkL]
    rw [show (stL ws).reverse = stL ws.reverse from List.map_reverse.symm]
  have n3 : ((w : Int) == (3 : Nat)) = false := beq_eq_false_iff_ne.mpr (by omega)
  rw [n3] at c3
  by_cases w4 : w = 4
  · subst w4
    have b1 : ev G (call G T (n + 2)) (.sl false (.var 5) .nil (.cons false (.bin false .add (.var 6) (.cst (.int 1))) .nil)) [some (.loc p), some (.str t), some (.int (4 : Nat)), some a, some s, some (.loc q), some (.int k)] h = .ok (.lst (stL (cut ws none (some (k + 1))))) h := by
      simp only [ev, evs, nth, bndR, bound, apBin, apSl, eL, mkL, cut_stL]
    have b2 : ev G (call G T (n + 2)) (.sl false (.var 5) (.cons false (.var 6) .nil) .nil) [some (.loc p), some (.str t), some (.int (4 : Nat)), some a, some s, some (.loc q), some (.int k)] h = .ok (.lst (stL (cut ws (some k) none))) h := by
      simp only [ev, evs, nth, bndR, bound, apSl, eL, mkL, cut_stL]
    have l1 := cut_le ws none (some ((k : Int) + 1))
    have l2 := cut_le ws (some (k : Int)) none
    have l3 := lens_cut ws none (some ((k : Int) + 1))
    have l4 := lens_cut ws (some (k : Int)) none
    refine ⟨[some (.loc p), some (.str t), some (.int (4 : Nat)), some a, some s, some (.loc h.length), some (.int k)], h ++ [.lst (stL (cut ws none (some (k + 1)) ++ cut ws (some k) none))], ?_, ⟨a, s, h.length, cut ws none (some (k + 1)) ++ cut ws (some k) none, rfl, obAt_last, by rw [lens_app, List.length_append]; omega, new _, by simp; omega⟩⟩
    refine (do_if c3).trans ?_
    simp only [cond]
    refine (do_if c4).trans ?_
    refine (do_asg (v := .loc h.length) (h1 := h ++ [.lst (stL (cut ws none (some (k + 1)) ++ cut ws (some k) none))]) ?_).trans rfl
    refine (xe_bin b1 b2).trans ?_
    have : (stL (cut ws none (some ((k : Int) + 1)))).length + (stL (cut ws (some (k : Int)) none)).length ≤ line := by
      rw [stL_len, stL_len]
      unfold line
      omega
    simp only [apBin, lstOf']
    rw [if_pos this]
    simp only [mkL, stL, List.map_append]
  have n4 : ((w : Int) == (4 : Nat)) = false := beq_eq_false_iff_ne.mpr (by omega)
  rw [n4] at c4
  by_cases w5 : w = 5
  · subst w5
    obtain ⟨x, h', hx, ex, dr⟩ := pick_n (n := n) (L := stL wordsB) (.inl rfl) hp (by unfold stL wordsB; simp) (by decide) (by
      intro x hx
      obtain ⟨y, _, rfl⟩ := List.mem_map.mp hx
      rfl)
    obtain ⟨y, hy, rfl⟩ := List.mem_map.mp hx
    have ly : y.length ≤ 6 := by
      have : ∀ y ∈ wordsB, y.length ≤ 6 := by decide
      exact this y hy
    have e' : obAt h' q = .lst (stL ws) := (dr.ne q npq).trans e
    refine ⟨[some (.loc p), some (.str t), some (.int (5 : Nat)), some a, some s, some (.loc q), some (.int k)], obSet h' q (.lst (stL (ws.set k y))), ?_, ⟨a, s, q, ws.set k y, rfl, obAt_set_same (obAt_lt e'), ?_, ?_, ?_⟩⟩
    · refine (do_if c3).trans ?_
      simp only [cond]
      refine (do_if c4).trans ?_
      simp only [cond]
      refine (do_if c5).trans ?_
      show exec G (call G T (n + 2)) (.asg (.sx (.var 5) (.var 6)) _) _ h = _
      have hv : ev G (call G T (n + 2)) (.call 15 (.cons false (.var 0) (.cons false (.tup (.cons false (.cst (.str [48])) (.cons false (.cst (.str [48, 48])) (.cons false (.cst (.str [45, 48])) (.cons false (.cst (.str [48, 49])) (.cons false (.cst (.str [43, 49])) (.cons false (.cst (.str [109, 105, 114, 114, 111, 114])) (.cons false (.cst (.str [115, 112, 105, 110])) (.cons false (.cst (.str [116, 117, 114, 110])) (.cons false (.cst (.str [102, 108, 105, 112])) (.cons false (.cst (.str [])) .nil))))))))))) .nil))) [some (.loc p), some (.str t), some (.int (5 : Nat)), some a, some s, some (.loc q), some (.int k)] h = .ok (.str y) h' := (xe_call2 (x := .loc p) (y := .tup (stL wordsB)) (h1 := h) (h2 := h) rfl rfl).trans ex
      rw [exec, hv]
      simp only [evP, ev, nth]
      have si : setIx (.loc q) (.int (k : Int)) (.str y) h' = some (obSet h' q (.lst (stL (ws.set k y)))) := by
        have i1 : ixN (stL ws).length (k : Int) = some k := by
          show (if k < (stL ws).length then some k else none) = _
          rw [stL_len, if_pos hk]
        simp only [setIx, e', i1, PV.isD]
        rw [show (stL ws).set k (.str y) = stL (ws.set k y) from List.map_set.symm]
      rw [si]
    · have := lens_set ws k y
      rw [List.length_set]
      omega
    · exact dr.pot.eq (obAt_set_ne fun z => npq z.symm)
    · rw [obSet_length, dr.len]
      exact hL
  have n5 : ((w : Int) == (5 : Nat)) = false := beq_eq_false_iff_ne.mpr (by omega)
  rw [n5] at c5
  refine ⟨[some (.loc p), some (.str t), some (.int w), some a, some s, some (.loc q), some (.int k)], h, ?_, ⟨a, s, q, ws, rfl, e, by omega, hp, hL⟩⟩
  refine (do_if c3).trans ?_
  simp only [cond]
  refine (do_if c4).trans ?_
  simp only [cond]
  refine (do_if c5).trans ?_
  simp only [cond, exec]
theorem bentE_ok {n : Nat} {t : List Nat} {p w k : Nat} {L : Nat} {σ : Sl} {h : List Ob} (ht : t.length ≤ 60) (hlow : low128 t = true) (B : Bst t p w k L σ h) :
    ∃ b h', ev G (call G T (n + 2)) bentE σ h = .ok b h' ∧ BentOK t b ∧ b.isD = true ∧ PotAt h' p ∧ L ≤ h'.length := by
  obtain ⟨a, s, q, ws, rfl, e, hl, hp, hL⟩ := B
  have c7 : test (ev G (call G T (n + 2)) (.cmp .lt (.var 2) (.cst (.int 7))) [some (.loc p), some (.str t), some (.int w), some a, some s, some (.loc q), some (.int k)] h) = .ok (decide ((w : Int) < 7)) h := by
    refine xe_test ((xe_cmp (x := .int w) (y := .int 7) (h1 := h) (h2 := h) rfl rfl).trans ?_)
    simp only [apCmp]
  unfold bentE f22
  simp only
  by_cases h7 : w < 7
  · refine ⟨.str (joinN [32] ws), h, ?_, .inl ⟨_, Nat.le_trans (joinN_len 32 ws) (by omega), rfl⟩, rfl, hp, hL⟩
    refine (xe_ife c7).trans ?_
    rw [decide_eq_true (by omega : (w : Int) < 7)]
    simp only [cond]
    have : lens ws + ws.length * [32].length ≤ line := by
      simp only [List.length_cons, List.length_nil]
      unfold line
      omega
    simp only [ev, evs, nth, meTy, apMe, seqOf, lstOf, e, strsOf_stL]
    rw [if_pos this]
  · have te : ev G (call G T (n + 2)) (.tup (.cons false (.cst (.str [])) (.cons false (.cst (.str [32])) (.cons false (.cst .non) (.cons false (.cst (.int 5)) (.cons false (.tup (.cons false (.var 1) .nil)) (.cons false (.bin false .add (.var 1) (.cst (.str [32]))) (.cons false (.me .upper (.var 1) .nil) (.cons false (.cst (.str [116, 117, 114, 110])) (.cons false (.cst (.str [102, 108, 105, 112, 32, 48])) (.cons false (.cst (.str [115, 112, 105, 110, 32, 48])) (.cons false (.cst (.str [116, 117, 114, 110, 32, 116, 117, 114, 110])) .nil)))))))))))) [some (.loc p), some (.str t), some (.int w), some a, some s, some (.loc q), some (.int k)] h = .ok (.tup (bigTup t)) h := by
      refine xe_tup (xs_cons rfl (xs_cons rfl (xs_cons rfl (xs_cons rfl (xs_cons rfl (xs_cons (h1 := h) ?_ (xs_cons (h1 := h) ?_ (xs_cons rfl (xs_cons rfl (xs_cons rfl (xs_cons rfl xs_nil))))))))))) rfl (by unfold bigTup; simp)
      · refine (xe_bin (x := .str t) (y := .str [32]) (h1 := h) (h2 := h) rfl rfl).trans ?_
        have : t.length + [32].length ≤ line := by
          simp only [List.length_cons, List.length_nil]
          unfold line
          omega
        simp only [apBin]
        rw [if_pos this]
      · have : (low128 t && decide (t.length ≤ 1000)) = true := by
          rw [hlow, decide_eq_true (by omega : t.length ≤ 1000)]
          rfl
        simp only [ev, evs, nth, meTy, apMe, this, if_true]
    obtain ⟨x, h', hx, ex, dr⟩ := pick_n (n := n) (L := bigTup t) (v := .tup (bigTup t)) (.inl rfl) hp (by unfold bigTup; simp) (by unfold bigTup; simp) (by
      intro x hx
      simp only [bigTup, List.mem_cons, List.not_mem_nil, or_false] at hx
      rcases hx with rfl | rfl | rfl | rfl | rfl | rfl | rfl | rfl | rfl | rfl | rfl <;> rfl)
    refine ⟨x, h', ?_, ?_, ?_, dr.pot, by rw [dr.len]; exact hL⟩
    · refine (xe_ife c7).trans ?_
      rw [decide_eq_false (by omega : ¬ (w : Int) < 7)]
      simp only [cond]
      exact (xe_call2 (x := .loc p) (y := .tup (bigTup t)) (h1 := h) (h2 := h) rfl te).trans ex
    · simp only [bigTup, List.mem_cons, List.not_mem_nil, or_false] at hx
      have st : ∀ s : List Nat, s.length ≤ 640 → BentOK t (.str s) := fun s hs => .inl ⟨s, hs, rfl⟩
      rcases hx with rfl | rfl | rfl | rfl | rfl | rfl | rfl | rfl | rfl | rfl | rfl
      · exact st _ (by simp)
      · exact st _ (by simp)
      · exact .inr (.inl rfl)
      · exact .inr (.inr (.inl rfl))
      · exact .inr (.inr (.inr rfl))
      · exact st _ (by simp; omega)
      · exact st _ (by rw [upT_len]; omega)
      · exact st _ (by decide)
      · exact st _ (by simp)
      · exact st _ (by simp)
      · exact st _ (by simp)
    · simp only [bigTup, List.mem_cons, List.not_mem_nil, or_false] at hx
      rcases hx with rfl | rfl | rfl | rfl | rfl | rfl | rfl | rfl | rfl | rfl | rfl <;> rfl
theorem bent_ok {n : Nat} {t : List Nat} {p : Nat} {h : List Ob} (ht : t.length ≤ 60) (hlow : low128 t = true) (hp : PotAt h p) :
    ∃ b h', call G T (n + 3) 22 [.loc p, .str t] h = .ok b h' ∧ BentOK t b ∧ b.isD = true ∧ h'.length = h.length ∧ PotAt h' p := by
  have fin : ∀ (b : PV) (h' : List Ob), exec G (call G T (n + 2)) f22.body [some (.loc p), some (.str t), none, none, none, none, none] h = .ok (.rt b) h' → BentOK t b → b.isD = true → PotAt h' p → h.length ≤ h'.length → ∃ b h', call G T (n + 3) 22 [.loc p, .str t] h = .ok b h' ∧ BentOK t b ∧ b.isD = true ∧ h'.length = h.length ∧ PotAt h' p := by
    intro b h' hx hb hd hp' hl
    refine ⟨b, h'.take h.length, ?_, hb, hd, ?_, hp'.take hp.lt⟩
    · rw [call_s (fn := f22) rfl, run_data hd rfl rfl rfl hx]
    · rw [List.length_take]; omega
  obtain ⟨w, h1, e1, w8, d1⟩ := draw_n (n := n + 1) (m := 8) hp (by decide) (by decide)
  obtain ⟨a, h2, e2, a8, d2⟩ := draw_n (n := n + 1) (m := (t.length : Int) + 1) d1.pot (by omega) (by omega)
  obtain ⟨c, h3, _, e3, d3⟩ := pick_s (n := n) (s := [48, 49, 50, 51, 45, 32, 10, 112, 115]) d2.pot (by simp) (by simp)
  have D3 := (d1.trans d2).trans d3
  have p1 : exec G (call G T (n + 2)) (.par 2 3 (.call 14 (.cons false (.var 0) (.cons false (.cst (.int 8)) .nil))) (.call 14 (.cons false (.var 0) (.cons false (.bin false .add (.bi .len (.cons false (.var 1) .nil)) (.cst (.int 1))) .nil)))) [some (.loc p), some (.str t), none, none, none, none, none] h = .ok (.nx [some (.loc p), some (.str t), some (.int w), some (.int a), none, none, none]) h2 :=
    (do_par ((xe_call2 (x := .loc p) (y := .int 8) (h1 := h) (h2 := h) rfl rfl).trans e1) ((xe_call2 (x := .loc p) (y := .int ((t.length : Int) + 1)) (h1 := h1) (h2 := h1) rfl rfl).trans e2)).trans rfl
  have p2 : exec G (call G T (n + 2)) (.asg (.nm 4) (.call 15 (.cons false (.var 0) (.cons false (.cst (.str [48, 49, 50, 51, 45, 32, 10, 112, 115])) .nil)))) [some (.loc p), some (.str t), some (.int w), some (.int a), none, none, none] h2 = .ok (.nx [some (.loc p), some (.str t), some (.int w), some (.int a), some (.str [c]), none, none]) h3 :=
    (do_asg ((xe_call2 (x := .loc p) (y := .str [48, 49, 50, 51, 45, 32, 10, 112, 115]) (h1 := h2) (h2 := h2) rfl rfl).trans e3)).trans rfl
  have c3 : test (ev G (call G T (n + 2)) (.cmp .lt (.var 2) (.cst (.int 3))) [some (.loc p), some (.str t), some (.int w), some (.int a), some (.str [c]), none, none] h3) = .ok (decide ((w : Int) < 3)) h3 := by
    refine xe_test ((xe_cmp (x := .int w) (y := .int 3) (h1 := h3) (h2 := h3) rfl rfl).trans ?_)
    simp only [apCmp]
  by_cases h3' : w < 3
  · rw [decide_eq_true (by omega : (w : Int) < 3)] at c3
    have c0 : test (ev G (call G T (n + 2)) (.cmp .eq (.var 2) (.cst (.int 0))) [some (.loc p), some (.str t), some (.int w), some (.int a), some (.str [c]), none, none] h3) = .ok ((w : Int) == 0) h3 := by
      refine xe_test ((xe_cmp (x := .int w) (y := .int 0) (h1 := h3) (h2 := h3) rfl rfl).trans ?_)
      simp only [apCmp, eq_int]
    have l1 := cut_le t none (some (a : Int))
    have l2 : ∀ i : Int, (cut t (some i) none).length ≤ t.length := fun i => cut_le t (some i) none
    have two : ∀ x y : List Nat, x.length ≤ 300 → y.length ≤ 300 → apBin false .add (.str x) (.str y) h3 = .ok (.str (x ++ y)) h3 := fun x y hx hy => by
      simp only [apBin]
      rw [if_pos (by unfold line; omega)]
    by_cases w0 : w = 0
    · refine fin (.str (cut t none (some (a : Int)) ++ cut t (some ((a : Int) + 1)) none)) h3 ?_ (.inl ⟨_, ?_, rfl⟩) rfl D3.pot (by rw [D3.len]; exact Nat.le_refl _)
      · rw [f22_eq]
        refine (do_seq p1).trans ((do_seq p2).trans (do_seq_rt ?_))
        unfold bentC f22
        simp only
        refine (do_if c3).trans ?_
        simp only [cond]
        refine do_ret ((xe_ife c0).trans ?_)
        rw [show ((w : Int) == 0) = true from beq_iff_eq.mpr (by omega)]
        simp only [cond]
        refine (xe_bin (x := .str (cut t none (some (a : Int)))) (y := .str (cut t (some ((a : Int) + 1)) none)) (h1 := h3) (h2 := h3) ?_ ?_).trans (two _ _ (by omega) (by have := l2 ((a : Int) + 1); omega))
        · simp only [ev, evs, nth, bndR, bound, apSl]
        · simp only [ev, evs, nth, bndR, bound, apSl, apBin]
      · have := l2 ((a : Int) + 1)
        rw [List.length_append]
        omega
    · refine fin (.str ((cut t none (some (a : Int)) ++ [c]) ++ cut t (some ((a : Int) + w - 1)) none)) h3 ?_ (.inl ⟨_, ?_, rfl⟩) rfl D3.pot (by rw [D3.len]; exact Nat.le_refl _)
      · rw [f22_eq]
        refine (do_seq p1).trans ((do_seq p2).trans (do_seq_rt ?_))
        unfold bentC f22
        simp only
        refine (do_if c3).trans ?_
        simp only [cond]
        refine do_ret ((xe_ife c0).trans ?_)
        rw [show ((w : Int) == 0) = false from beq_eq_false_iff_ne.mpr (by omega)]
        simp only [cond]
        refine (xe_bin (x := .str (cut t none (some (a : Int)) ++ [c])) (y := .str (cut t (some ((a : Int) + w - 1)) none)) (h1 := h3) (h2 := h3) ?_ ?_).trans (two _ _ (by rw [List.length_append]; simp only [List.length_cons, List.length_nil]; omega) (by have := l2 ((a : Int) + w - 1); omega))
        · refine (xe_bin (x := .str (cut t none (some (a : Int)))) (y := .str [c]) (h1 := h3) (h2 := h3) ?_ rfl).trans (two _ _ (by omega) (by simp))
          simp only [ev, evs, nth, bndR, bound, apSl]
        · simp only [ev, evs, nth, bndR, bound, apSl, apBin]
      · have := l2 ((a : Int) + w - 1)
        rw [List.length_append, List.length_append]
        simp only [List.length_cons, List.length_nil]
        omega
  · rw [decide_eq_false (by omega : ¬ (w : Int) < 3)] at c3
    have sum : lens (Wo t) + (Wo t).length ≤ [].length + t.length + 1 := spl_sum [32] t 0 []
    simp only [List.length_nil, Nat.zero_add] at sum
    have ne : Wo t ≠ [] := by
      obtain ⟨w0, r, e⟩ := spl_ne [32] t 0 []
      intro z
      rw [Wo, e] at z
      cases z
    have pos : 0 < (Wo t).length := List.length_pos_iff.mpr ne
    have lt3 : p < h3.length := D3.pot.lt
    have hp4 : PotAt (h3 ++ [.lst (stL (Wo t))]) p := D3.pot.eq (obAt_app lt3)
    obtain ⟨k, h5, e5, k5, d5⟩ := draw_n (n := n + 1) (m := (Wo t).length) hp4 (by omega) (by omega)
    have q5 : obAt h5 h3.length = .lst (stL (Wo t)) := (d5.ne _ (by omega)).trans obAt_last
    have l5 : h.length ≤ h5.length := by
      rw [d5.len, List.length_append, D3.len]
      exact Nat.le_add_right _ _
    obtain ⟨σ6, h6, e6, B6⟩ := bentS_ok (n := n) (t := t) (w := w) (a := .int a) (s := .str [c]) q5 d5.pot (by omega) (by omega) (by omega : k < (Wo t).length) l5
    obtain ⟨b, h7, e7, b1, b2, b3, b4⟩ := bentE_ok (n := n) ht hlow B6
    refine fin b h7 ?_ b1 b2 b3 b4
    rw [f22_eq]
    refine (do_seq p1).trans ((do_seq p2).trans ?_)
    refine (do_seq (σ1 := [some (.loc p), some (.str t), some (.int w), some (.int a), some (.str [c]), none, none]) (h1 := h3) ?_).trans ?_
    · unfold bentC f22
      simp only
      refine (do_if c3).trans ?_
      simp only [cond, exec]
    refine (do_seq (σ1 := [some (.loc p), some (.str t), some (.int w), some (.int a), some (.str [c]), some (.loc h3.length), none]) (h1 := h3 ++ [.lst (stL (Wo t))]) ?_).trans ?_
    · refine (do_asg (v := .loc h3.length) (h1 := h3 ++ [.lst (stL (Wo t))]) ?_).trans rfl
      simp only [ev, evs, nth, meTy]
      rw [split_ev t (by omega)]
      rfl
    refine (do_seq (σ1 := [some (.loc p), some (.str t), some (.int w), some (.int a), some (.str [c]), some (.loc h3.length), some (.int k)]) (h1 := h5) ?_).trans ?_
    · refine (do_asg (v := .int k) (h1 := h5) ?_).trans rfl
      refine (xe_call2 (x := .loc p) (y := .int (Wo t).length) (h1 := h3 ++ [.lst (stL (Wo t))]) (h2 := h3 ++ [.lst (stL (Wo t))]) rfl ?_).trans e5
      refine (xe_bi1 (x := .loc h3.length) (h1 := h3 ++ [.lst (stL (Wo t))]) rfl).trans ?_
      simp only [apBi, seqOf, lstOf, obAt_last, stL_len]
    exact (do_seq e6).trans (do_ret e7)
end K81

/-! P81h: one deed and its bent texts (k81). -/
namespace K81
open Mi
theorem RD_sz {ws : List (List Nat)} {d : PV} (e : RD ws = some d) : sz d 3 = true := by
  unfold RD at e
  split at e
  · split at e <;> cases e
    rfl
  · split at e <;> cases e
    rfl
  · split at e
    · split at e <;> cases e
      rfl
    · cases e
  · cases e
theorem k12x (n : Nat) (b : PV) (hb : b = .non ∨ b = .int 5 ∨ ∃ t, b = .tup [.str t]) (h : List Ob) : call G T (n + 5) 12 [b] h = .ex 0 [b] h := by
  have e9 : ∀ h, call G T (n + 4) 9 [b] h = .ok .non h := fun h => by
    have hd : allD [b] = true := by rcases hb with rfl | rfl | ⟨t, rfl⟩ <;> rfl
    refine (call_s (fn := f9) rfl _ _).trans (run_v (h1 := []) rfl rfl hd rfl ?_)
    unfold f9
    refine do_seq_rt ?_
    refine (do_if (k := true) (h1 := []) ?_).trans (do_ret (v := .non) (h1 := []) rfl)
    rcases hb with rfl | rfl | ⟨t, rfl⟩ <;> rfl
  have e10 : ∀ h, call G T (n + 4) 10 [.non, b] h = .ex 0 [b] h := fun h => by
    have hd : allD [.non, b] = true := by rcases hb with rfl | rfl | ⟨t, rfl⟩ <;> rfl
    refine (call_s (fn := f10) rfl _ _).trans (run_x (h1 := []) rfl hd rfl (σ := [some .non, some b]) ?_)
    rcases hb with rfl | rfl | ⟨t, rfl⟩ <;> rfl
  have hd : allD [b] = true := by rcases hb with rfl | rfl | ⟨t, rfl⟩ <;> rfl
  refine (call_s (fn := f12) rfl _ _).trans (run_x (h1 := []) (σ := [some b, some .non]) rfl hd rfl ?_)
  show exec G (call G T (n + 4)) f12.body [some b, none] [] = _
  unfold f12
  refine (do_seq ((do_asg ((xe_call1 (x := b) (h1 := []) rfl).trans (e9 _))).trans rfl)).trans (do_rs ?_)
  rw [exec]
  rw [xe_call2 (x := .non) (y := b) (h1 := []) (h2 := []) rfl rfl, e10]
  rfl
theorem fmts_map : ∀ {ps : List PV} {ss : List (List Nat)}, fmts ps = some ss → ps.map (fun x => match fmtV x with | some s => PV.str s | none => .non) = stL ss ∧ (∀ x ∈ ps, ∃ s, fmtV x = some s) ∧ ss.length = ps.length
  | [], ss, e => by
    cases e
    exact ⟨rfl, fun x h => absurd h List.not_mem_nil, rfl⟩
  | p :: r, ss, e => by
    rw [fmts] at e
    split at e
    · rename_i s q
      split at e
      · rename_i ss' q'
        cases e
        obtain ⟨h1, h2, h3⟩ := fmts_map q'
        refine ⟨?_, fun x hx => ?_, by rw [List.length_cons, List.length_cons, h3]⟩
        · rw [List.map_cons, h1, q]
          rfl
        · rcases List.mem_cons.mp hx with rfl | hx
          · exact ⟨s, q⟩
          · exact h2 x hx
      · cases e
    · cases e
theorem nth_put : ∀ {σ : Sl} {i : Nat} {v : Option PV}, i < σ.length → nth (put σ i v) i = v
  | [], _, _, h => absurd h (Nat.not_lt_zero _)
  | _ :: _, 0, _, _ => rfl
  | _ :: r, i + 1, _, h => nth_put (σ := r) (Nat.lt_of_succ_lt_succ h)
theorem put_len : ∀ {σ : Sl} {i : Nat} {v : Option PV}, (put σ i v).length = σ.length
  | [], _, _ => rfl
  | _ :: _, 0, _ => rfl
  | _ :: r, i + 1, _ => congrArg (· + 1) (put_len (σ := r))
theorem wipe_len : ∀ {σ : Sl} (is : List Nat), (Mi.wipe σ is).length = σ.length
  | _, [] => rfl
  | σ, i :: is => by
    show (put (Mi.wipe σ is) i none).length = _
    rw [put_len, wipe_len is]
theorem text_ev {o : Orc} {σ : Sl} {h : List Ob} {i j : Nat} {ps : List PV} {t : List Nat} (hi : nth σ i = some (.tup ps)) (hj : j < σ.length) (e : txOf (.tup ps) = some t) :
    ev G o (.me .join (.cst (.str [32])) (.cons false (.lc false [j] (.plain (.var i)) (.nm j) (.cst (.bl true)) (.bi .str1 (.cons false (.var j) .nil))) .nil)) σ h = .ok (.str t) h := by
  rw [txOf] at e
  split at e
  · rename_i hl
    have hl' : ps.length ≤ 100 := Nat.le_of_ble_eq_true hl
    split at e
    · rename_i ss hss
      split at e
      · rename_i hb
        have hb' : lens ss + ss.length ≤ 600 := Nat.le_of_ble_eq_true hb
        cases e
        obtain ⟨m1, m2, m3⟩ := fmts_map hss
        have q := ev_map (G := G) (o := o) (m := false) (own := [j]) (it := .plain (.var i)) (i := j) (e := .bi .str1 (.cons false (.var j) .nil)) (σ := σ) (h := h) (h1 := h) (xs := ps) (fun x => match fmtV x with | some s => PV.str s | none => .non) (by simp only [evI, ev, hi]) (hundred hl') (by
          intro x hx
          obtain ⟨s, hs⟩ := m2 x hx
          refine ⟨(xe_bi1 (x := x) (h1 := h) ?_).trans ?_, ?_⟩
          · rw [ev, nth_put (by rw [wipe_len]; exact hj)]
          · simp only [apBi, hs]
          · simp only [hs]
            rfl)
        rw [m1] at q
        have fin : lens ss + ss.length * [32].length ≤ line := by
          simp only [List.length_cons, List.length_nil]
          unfold line
          omega
        have me : ev G o (.me .join (.cst (.str [32])) (.cons false (.lc false [j] (.plain (.var i)) (.nm j) (.cst (.bl true)) (.bi .str1 (.cons false (.var j) .nil))) .nil)) σ h = apMe .join (.str [32]) [.lst (stL ss)] h := by
          rw [ev_me']
          simp only
          rw [ev]
          simp only [meR, meTy]
          rw [xs_cons (q.trans rfl) xs_nil]
        rw [me]
        simp only [apMe, seqOf, lstOf, strsOf_stL]
        rw [if_pos fin]
      · cases e
    · cases e
  · cases e
/-- what is known of a value that may have no form of a deed -/
structure OF (x : PV) : Prop where
  D : x.isD = true
  s : sz x 3 = true
  r : (∃ u, (∀ m h, call G T (m + 11) 20 [x] h = .ok (.bl true) h) ∧ txOf x = some u ∧ ∀ m h, call G T (m + 11) 11 [x] h = .ok (.str u) h) ∨ ((∀ m h, call G T (m + 11) 20 [x] h = .ok (.bl false) h) ∧ ∀ m h, call G T (m + 11) 11 [x] h = .ex 1 [x] h)
theorem on_call {f : Nat} {fn : Fn} {x : PV} {r : R0} (ef : fnAt T f = some fn) (hn : Nat.beq 1 fn.pars = true) (hd : x.isD = true) (e : runD G (call G T 10) fn [x] = some r) (m : Nat) (h : List Ob) : call G T (m + 11) f [x] h = r.on h := by
  have hall : allD [x] = true := by rw [allD, hd]; rfl
  have q := runD_ok (G := G) (o := call G T 10) (fn := fn) (args := [x]) hn hall e h
  have q' : call G T 11 f [x] h = r.on h := (call_s ef _ _).trans q
  have up := call_up (G := G) (T := T) (n := 11) (m := m + 11) (by omega) f [x] h
  cases r with
  | val v => exact up.ok q'
  | exn c fs => exact up.ex q'
theorem of_chk {x : PV} (h : chkO x = true) : OF x := by
  unfold chkO at h
  obtain ⟨h0, h3⟩ := (Bool.and_eq_true _ _).mp h
  obtain ⟨h1, h2⟩ := (Bool.and_eq_true _ _).mp h0
  refine ⟨h1, h2, ?_⟩
  split at h3
  · rename_i b r e1 e2
    have c1 := on_call (f := 20) rfl rfl h1 e1
    have c2 := on_call (f := 11) rfl rfl h1 e2
    split at h3
    · split at h3
      · rename_i u eu
        have := sameR_eq h3
        subst this
        exact .inl ⟨u, c1, eu, c2⟩
      · cases h3
    · have := sameR_eq h3
      subst this
      exact .inr ⟨c1, c2⟩
  · cases h3
/-- what is known of a deed -/
structure DF (ps : List PV) (t : List Nat) : Prop where
  tx : txOf (.tup ps) = some t
  s : sz (.tup ps) 3 = true
  d : (PV.tup ps).dep 60 = true
  q : (PV.tup ps).eqv (.tup ps) = true
  l : t.length ≤ 60
  low : low128 t = true
  rd : RD (Wo t) = some (.tup ps)
  c : ∀ m h, call G T (m + 11) 11 [.tup ps] h = .ok (.str t) h
  o : ∀ x ∈ oddD ps t, OF x
theorem df_chk {x : PV} (h : chkD x = true) : ∃ ps t, x = .tup ps ∧ DF ps t := by
  unfold chkD at h
  split at h
  · rename_i ps
    split at h
    · rename_i t et
      simp only [Bool.and_eq_true] at h
      obtain ⟨⟨⟨⟨⟨⟨⟨h1, h2⟩, h3⟩, h4⟩, h5⟩, h6⟩, h7⟩, h8⟩ := h
      refine ⟨ps, t, rfl, et, h1, h2, h3, Nat.le_of_ble_eq_true h4, h5, ?_, ?_, fun x hx => of_chk (List.all_eq_true.mp h8 x hx)⟩
      · split at h6
        · rename_i d ed
          rw [ed, sameP_eq _ _ h6]
        · cases h6
      · split at h7
        · rename_i r er
          have := sameR_eq h7
          subst this
          exact on_call (f := 11) rfl rfl rfl er
        · cases h7
    · cases h
  · cases h
theorem df {x : PV} (h : x ∈ DL) : ∃ ps t, x = .tup ps ∧ DF ps t := df_chk (List.all_eq_true.mp chk_D x h)
theorem of_C {x : PV} (h : x ∈ oddC) : OF x := of_chk (List.all_eq_true.mp chk_C x h)
/-! ### a value, mostly without the form of a deed -/
def odd1 (ps : List PV) (t : List Nat) : List PV := [.non, .tup [], .tup (ps ++ [.int 1]), .lst ps, .str t, .int 5, .tup [.str sFlip], .tup [.str sFlip, .int 0], .tup [.str sFlip, .int 0, .non], .tup [.str sFlip, .bl true, .int 1]]
def odd2 (ps : List PV) : List PV := [.tup [.str sFlip, .str [48], .int 1], .tup [.str sTurn], .tup [.str sTurn, .str [77, 105, 114, 114, 111, 114]], .tup [.str sTurn, .non], .tup [.str sTurn, .tup [.str [109, 105, 114, 114, 111, 114]]], .tup [.str sSpin, .int 0], .tup [.str [115, 112, 117, 110]], .tup [.int 5, .int 0, .int 0], .tup [.tup [.str sFlip], .int 0, .int 0], .tup ps]
theorem odd_of {ps : List PV} {t : List Nat} (F : DF ps t) : ∀ x ∈ odd1 ps t ++ odd2 ps, OF x := by
  intro x hx
  simp only [odd1, odd2, List.cons_append, List.nil_append, List.mem_cons, List.not_mem_nil, or_false] at hx
  rcases hx with rfl | rfl | rfl | rfl | rfl | rfl | rfl | rfl | rfl | rfl | rfl | rfl | rfl | rfl | rfl | rfl | rfl | rfl | rfl | rfl <;>
    first
    | (refine F.o _ ?_; unfold oddD; simp only [List.mem_cons, true_or, or_true]; done)
    | (refine of_C ?_; unfold oddC; simp only [List.mem_cons, true_or, or_true]; done)
theorem tx_len {ps : List PV} {t : List Nat} (e : txOf (.tup ps) = some t) : ps.length ≤ 100 := by
  rw [txOf] at e
  split at e
  · rename_i q; exact Nat.le_of_ble_eq_true q
  · cases e
theorem odd_ok {n : Nat} {ps : List PV} {t : List Nat} {p : Nat} {h : List Ob} (F : DF ps t) (hp : PotAt h p) :
    ∃ x h', call G T (n + 3) 23 [.loc p, .tup ps] h = .ok x h' ∧ OF x ∧ Dr h p h' := by
  obtain ⟨x, h', hx, ex, dr⟩ := pick_n (n := n) (L := odd1 ps t ++ odd2 ps) (v := .lst (odd1 ps t ++ odd2 ps)) (.inr rfl) hp (by unfold odd1; simp) (by unfold odd1 odd2; simp) fun x hx => (odd_of F x hx).D
  refine ⟨x, h', ?_, odd_of F x hx, dr⟩
  have l := tx_len F.tx
  have hb : exec G (call G T (n + 2)) f23.body [some (.loc p), some (.tup ps), none, none] h = .ok (.rt x) h' := by
    unfold f23
    refine (do_seq (σ1 := [some (.loc p), some (.tup ps), some (.lst (odd1 ps t)), none]) (h1 := h) ?_).trans ?_
    · refine (do_asg (v := .lst (odd1 ps t)) (h1 := h) ?_).trans rfl
      refine xe_lst (xs_cons rfl (xs_cons rfl (xs_cons (h1 := h) ?_ (xs_cons rfl (xs_cons (h1 := h) ?_ (xs_cons rfl (xs_cons rfl (xs_cons rfl (xs_cons rfl (xs_cons rfl xs_nil)))))))))) rfl (by unfold odd1; simp)
      · refine (xe_bin (x := .tup ps) (y := .tup [.int 1]) (h1 := h) (h2 := h) rfl rfl).trans ?_
        have : ps.length + [PV.int 1].length ≤ line := by
          simp only [List.length_cons, List.length_nil]
          unfold line
          omega
        simp only [apBin]
        rw [if_pos this]
      · exact text_ev rfl (by simp) F.tx
    refine (do_seq (σ1 := [some (.loc p), some (.tup ps), some (.lst (odd1 ps t ++ odd2 ps)), none]) (h1 := h) ?_).trans ?_
    · refine (do_asg (v := .lst (odd1 ps t ++ odd2 ps)) (h1 := h) ?_).trans rfl
      exact (xe_bin (x := .lst (odd1 ps t)) (y := .lst (odd2 ps)) (h1 := h) (h2 := h) rfl rfl).trans rfl
    exact do_ret ((xe_call2 (x := .loc p) (y := .lst (odd1 ps t ++ odd2 ps)) (h1 := h) (h2 := h) rfl rfl).trans ex)
  rw [call_s (fn := f23) rfl, run_data (odd_of F x hx).D rfl rfl rfl hb, take_len dr.len]
end K81

/-! P81i: the law keeps (k81). -/
namespace K81
open Mi
section
variable {G : Nat → Option PV} {o : Orc}
theorem do_asgP {p : Pat} {x : Ex} {σ σ1 : Sl} {h h1 h2 : List Ob} {v : PV} (e : ev G o x σ h = .ok v h1) (e2 : evP G o p v σ h1 = .ok σ1 h2) : exec G o (.asg p x) σ h = .ok (.nx σ1) h2 := by
  rw [exec, e]
  simp only
  rw [e2]
theorem xe_lam {f : Nat} {e : Ex} {σ : Sl} {h h1 h2 : List Ob} {v r : PV} (e1 : ev G o e σ h = .ok v h1) (hv : v.isD = true) (e2 : o f [.tup [.bl true, v]] h1 = .ok r h2) : ev G o (.lam f e) σ h = .ok r h2 := by
  rw [ev, e1]
  simp only [lamR]
  rw [hv]
  simp only
  rw [e2]
  rfl
theorem xe_lamx {f : Nat} {e : Ex} {σ : Sl} {h h1 h2 : List Ob} {c : Nat} {fs : List PV} {r : PV} (e1 : ev G o e σ h = .ex c fs h1) (e2 : o f [.tup [.bl false, .int c, .tup fs]] h1 = .ok r h2) : ev G o (.lam f e) σ h = .ok r h2 := by
  rw [ev, e1]
  simp only [lamR]
  rw [e2]
  rfl
/-- a loop whose turns keep I -/
theorem for_inv {asg : PV → Sl → List Ob → R Sl} {body : Sl → List Ob → R Fl} (I : Sl → List Ob → Prop) : ∀ (xs : List PV) (σ : Sl) (h : List Ob), I σ h →
    (∀ x ∈ xs, ∀ σ h, I σ h → ∃ σ1 h1 σ2 h2, asg x σ h = .ok σ1 h1 ∧ body σ1 h1 = .ok (.nx σ2) h2 ∧ I σ2 h2) → ∃ σ' h', forL asg body xs σ h = .ok (.nx σ') h' ∧ I σ' h'
  | [], σ, h, i, _ => ⟨σ, h, rfl, i⟩
  | x :: xs, σ, h, i, s => by
    obtain ⟨σ1, h1, σ2, h2, e1, e2, i2⟩ := s x List.mem_cons_self σ h i
    obtain ⟨σ', h', e, i'⟩ := for_inv I xs σ2 h2 i2 fun y hy => s y (List.mem_cons_of_mem _ hy)
    exact ⟨σ', h', by rw [forL, e1]; simp only; rw [e2]; exact e, i'⟩
/-- a comprehension whose turns keep I -/
theorem lc_inv {asg : PV → Sl → List Ob → R Sl} {c : Sl → List Ob → R Bool} {e : Sl → List Ob → R PV} {σ : Sl} (I : List Ob → Prop) (Q : PV → Prop) : ∀ (xs : List PV) (h : List Ob), I h →
    (∀ x ∈ xs, ∀ h, I h → ∃ σ1 v h', asg x σ h = .ok σ1 h ∧ c σ1 h = .ok true h ∧ e σ1 h = .ok v h' ∧ v.isD = true ∧ Q v ∧ I h') → ∃ vs h', lcL asg c e σ xs h = .ok vs h' ∧ vs.length = xs.length ∧ (∀ v ∈ vs, Q v) ∧ I h'
  | [], h, i, _ => ⟨[], h, rfl, rfl, fun v hv => absurd hv List.not_mem_nil, i⟩
  | x :: xs, h, i, s => by
    obtain ⟨σ1, v, h1, e1, e2, e3, e4, q, i1⟩ := s x List.mem_cons_self h i
    obtain ⟨vs, h', e5, l, qs, i'⟩ := lc_inv I Q xs h1 i1 fun y hy => s y (List.mem_cons_of_mem _ hy)
    refine ⟨v :: vs, h', ?_, by rw [List.length_cons, List.length_cons, l], fun u hu => ?_, i'⟩
    · rw [lcL, e1]
      simp only
      rw [e2]
      simp only
      rw [e3]
      simp only
      rw [e4]
      simp only
      rw [e5]
    · rcases List.mem_cons.mp hu with rfl | hu
      · exact q
      · exact qs u hu
theorem ev_inv {own : List Nat} {it : It} {i : Nat} {e : Ex} {σ : Sl} {h h1 : List Ob} {xs : List PV} (I : List Ob → Prop) (Q : PV → Prop) (hi : evI G o it σ h = .ok xs h1) (i1 : I h1) (hl : xs.length ≤ 100)
    (H : ∀ x ∈ xs, ∀ h, I h → ∃ v h', ev G o e (put (Mi.wipe σ own) i (some x)) h = .ok v h' ∧ v.isD = true ∧ Q v ∧ I h') : ∃ vs h', ev G o (.lc false own it (.nm i) (.cst (.bl true)) e) σ h = .ok (.lst vs) h' ∧ vs.length = xs.length ∧ (∀ v ∈ vs, Q v) ∧ I h' := by
  obtain ⟨vs, h', e1, l, q, i2⟩ := lc_inv (asg := evP G o (.nm i)) (c := fun σ h => test (ev G o (.cst (.bl true)) σ h)) (e := ev G o e) (σ := Mi.wipe σ own) I Q xs h1 i1 fun x hx h ih => by
    obtain ⟨v, h', e1, e2, e3, e4⟩ := H x hx h ih
    exact ⟨_, v, h', by rw [evP], by rw [ev]; rfl, e1, e2, e3, e4⟩
  refine ⟨vs, h', ?_, l, q, i2⟩
  rw [ev_lc']
  simp only
  rw [hi]
  simp only [compR]
  rw [e1]
  simp only [lcR]
  rw [show Nat.ble vs.length line = true from Nat.ble_eq_true_of_le (hundred (by rw [l]; exact hl))]
  rfl
end
theorem bools_all : ∀ {vs : List PV}, (∀ v ∈ vs, v = .bl true) → ∃ bs, boolsOf vs = some bs ∧ bs.all id = true
  | [], _ => ⟨[], rfl, rfl⟩
  | v :: vs, h => by
    obtain ⟨bs, e1, e2⟩ := bools_all (vs := vs) fun u hu => h u (List.mem_cons_of_mem _ hu)
    have := h v List.mem_cons_self
    subst this
    exact ⟨true :: bs, by rw [boolsOf, e1], by rw [List.all_cons, e2]; rfl⟩
theorem told_ok (m : Nat) (v : PV) (hv : v.isD = true) (h : List Ob) : call G T (m + 1) 27 [.tup [.bl true, v]] h = .ok (.lst [.str told0, v]) h := (call_s (fn := fnHeard told0 hl0) rfl _ _).trans (heard_ok v h hv)
theorem told_x0 (m : Nat) (v : PV) (hv : v.isD = true) (h : List Ob) : call G T (m + 1) 27 [.tup [.bl false, .int (0 : Nat), .tup [v]]] h = .ok (.lst [.str [116, 101, 120, 116], v]) h := (call_s (fn := fnHeard told0 hl0) rfl _ _).trans (heard_ex 0 v h hv)
theorem told_x1 (m : Nat) (v : PV) (hv : v.isD = true) (h : List Ob) : call G T (m + 1) 27 [.tup [.bl false, .int (1 : Nat), .tup [v]]] h = .ok (.lst [.str [100, 101, 101, 100], v]) h := (call_s (fn := fnHeard told0 hl0) rfl _ _).trans (heard_ex 1 v h hv)
theorem sz_pair {a : List Nat} {v : PV} (hv : sz v 3 = true) : sz (.lst [.str a, v]) 4 = true := by
  show (match sz (.str a) 3 with | true => szAll [v] 3 | false => false) = true
  show szAll [v] 3 = true
  rw [szAll, hv]
  rfl
def turnS : Sx := match f24.body with
  | .seq _ (.seq _ (.seq _ (.seq (.for _ _ b) _))) => b
  | _ => .pass
theorem f24_eq : f24.body = .seq (.asg (.nm 2) (.me .join (.cst (.str [32])) (.cons false (.lc false [8] (.plain (.var 1)) (.nm 8) (.cst (.bl true)) (.bi .str1 (.cons false (.var 8) .nil))) .nil))) (.seq (.asg (.nm 3) (.lst false (.cons false (.call 11 (.cons false (.var 1) .nil)) (.cons false (.callk 11 .nil (.cons false (.var 1) .nil) [0]) (.cons false (.call 12 (.cons false (.var 2) .nil)) (.cons false (.callk 12 .nil (.cons false (.var 2) .nil) [0]) .nil)))))) (.seq (.ife (.or (.not (.call 16 (.cons false (.var 3) (.cons false (.lst false (.cons false (.var 2) (.cons false (.var 2) (.cons false (.var 1) (.cons false (.var 1) .nil))))) .nil)))) (.cmp .ne (.call 19 (.cons false (.var 2) .nil)) (.var 1))) (.ret (.cst (.bl false))) .pass) (.seq (.for (.rng (.cons false (.cst (.int 4)) .nil)) (.nm 4) turnS) (.ret (.cst (.bl true)))))) := rfl
/-- the state of _law_is_right's turns -/
def Tst (ps : List PV) (t : List Nat) (p L : Nat) (σ : Sl) (h : List Ob) : Prop := (∃ a b c d e f : Option PV, σ = [some (.loc p), some (.tup ps), some (.str t), a, b, c, d, e, f]) ∧ PotAt h p ∧ h.length = L
theorem bent_due {m : Nat} {t : List Nat} {b : PV} (hb : BentOK t b) {σ : Sl} {h : List Ob} (h5 : nth σ 5 = some b) : ∃ due r, ev G (call G T (m + 20)) (.ife (.bi (.isi .str) (.cons false (.var 5) .nil)) (.call 19 (.cons false (.var 5) .nil)) (.tup .nil)) σ h = .ok due h ∧ sz r 4 = true ∧
    (∀ σ', nth σ' 5 = some b → ev G (call G T (m + 20)) (.lam 27 (.call 12 (.cons false (.var 5) .nil))) σ' h = .ok r h) ∧
    (∀ σ', nth σ' 5 = some b → nth σ' 7 = some due → ev G (call G T (m + 20)) (.ife (.cmp .ne (.var 7) (.tup .nil)) (.lst false (.cons false (.cst (.str [116, 111, 108, 100])) (.cons false (.var 7) .nil))) (.lst false (.cons false (.cst (.str [116, 101, 120, 116])) (.cons false (.var 5) .nil)))) σ' h = .ok r h) := by
  have v5 : ∀ σ', nth σ' 5 = some b → ev G (call G T (m + 20)) (.var 5) σ' h = .ok b h := fun σ' e => by rw [ev, e]
  have emp : ∀ σ', nth σ' 5 = some b → nth σ' 7 = some (.tup []) → b.isD = true → ev G (call G T (m + 20)) (.ife (.cmp .ne (.var 7) (.tup .nil)) (.lst false (.cons false (.cst (.str [116, 111, 108, 100])) (.cons false (.var 7) .nil))) (.lst false (.cons false (.cst (.str [116, 101, 120, 116])) (.cons false (.var 5) .nil)))) σ' h = .ok (.lst [.str [116, 101, 120, 116], b]) h := by
    intro σ' e5 e7 hd
    refine (xe_ife (k := false) (h1 := h) ?_).trans ?_
    · refine xe_test ((xe_cmp (x := .tup []) (y := .tup []) (h1 := h) (h2 := h) (by rw [ev, e7]) rfl).trans ?_)
      rfl
    · simp only [cond]
      refine xe_lst (xs_cons rfl (xs_cons (v5 σ' e5) xs_nil)) ?_ (by simp)
      show allD [b] = true
      rw [allD, hd]
      rfl
  rcases hb with ⟨s, hs, rfl⟩ | hb
  · have e19 := k19 (m + 18) s hs h
    have e12 := k12 (m + 15) s hs h
    have d0 : ev G (call G T (m + 20)) (.ife (.bi (.isi .str) (.cons false (.var 5) .nil)) (.call 19 (.cons false (.var 5) .nil)) (.tup .nil)) σ h = .ok (optT (RD (Wo s))) h := by
      refine (xe_ife (k := true) (h1 := h) ?_).trans ?_
      · refine xe_test ((xe_bi1 (v5 σ h5)).trans ?_)
        rfl
      · simp only [cond]
        exact (xe_call1 (v5 σ h5)).trans e19
    cases hr : RD (Wo s) with
    | none =>
      rw [hr] at d0 e12
      refine ⟨.tup [], .lst [.str [116, 101, 120, 116], .str s], d0, rfl, fun σ' e5 => ?_, fun σ' e5 e7 => emp σ' e5 e7 rfl⟩
      exact xe_lamx ((xe_call1 (v5 σ' e5)).trans e12) (told_x0 (m + 19) (.str s) rfl h)
    | some d =>
      rw [hr] at d0 e12
      obtain ⟨n1, n2, x, xs, ed, n3⟩ := RD_ne hr
      refine ⟨d, .lst [.str told0, d], d0, sz_pair (RD_sz hr), fun σ' e5 => ?_, fun σ' e5 e7 => ?_⟩
      · exact xe_lam ((xe_call1 (v5 σ' e5)).trans e12) n2 (told_ok (m + 19) d n2 h)
      · refine (xe_ife (k := true) (h1 := h) ?_).trans ?_
        · refine xe_test ((xe_cmp (x := d) (y := .tup []) (h1 := h) (h2 := h) (by rw [ev, e7]) rfl).trans ?_)
          subst ed
          simp only [apCmp, eq_tup0 _ _ _ n3]
          rfl
        · simp only [cond]
          refine xe_lst (xs_cons rfl (xs_cons (by rw [ev, e7]) xs_nil)) ?_ (by simp)
          show allD [d] = true
          rw [allD, n2]
          rfl
  · have hb' : b = .non ∨ b = .int 5 ∨ ∃ t, b = .tup [.str t] := by
      rcases hb with h | h | h
      · exact .inl h
      · exact .inr (.inl h)
      · exact .inr (.inr ⟨t, h⟩)
    have hd : b.isD = true := by rcases hb' with rfl | rfl | ⟨t, rfl⟩ <;> rfl
    have e12 := k12x (m + 15) b hb' h
    refine ⟨.tup [], .lst [.str [116, 101, 120, 116], b], ?_, ?_, fun σ' e5 => ?_, fun σ' e5 e7 => emp σ' e5 e7 hd⟩
    · refine (xe_ife (k := false) (h1 := h) ?_).trans ?_
      · refine xe_test ((xe_bi1 (v5 σ h5)).trans ?_)
        rcases hb' with rfl | rfl | ⟨t, rfl⟩ <;> rfl
      · simp only [cond]
        rfl
    · refine sz_pair ?_
      rcases hb' with rfl | rfl | ⟨t, rfl⟩ <;> rfl
    · exact xe_lamx ((xe_call1 (v5 σ' e5)).trans e12) (told_x0 (m + 19) b hd h)
theorem odd_due {m : Nat} {x : PV} (F : OF x) {σ : Sl} {h : List Ob} (hl : 8 < σ.length) (h6 : nth σ 6 = some x) : ∃ r, ev G (call G T (m + 20)) (.ife (.call 20 (.cons false (.var 6) .nil)) (.lst false (.cons false (.cst (.str [116, 111, 108, 100])) (.cons false (.me .join (.cst (.str [32])) (.cons false (.lc false [8] (.plain (.var 6)) (.nm 8) (.cst (.bl true)) (.bi .str1 (.cons false (.var 8) .nil))) .nil)) .nil))) (.lst false (.cons false (.cst (.str [100, 101, 101, 100])) (.cons false (.var 6) .nil)))) σ h = .ok r h ∧ sz r 4 = true ∧
    ∀ σ', nth σ' 6 = some x → ev G (call G T (m + 20)) (.lam 27 (.call 11 (.cons false (.var 6) .nil))) σ' h = .ok r h := by
  have v6 : ∀ σ', nth σ' 6 = some x → ev G (call G T (m + 20)) (.var 6) σ' h = .ok x h := fun σ' e => by rw [ev, e]
  rcases F.r with ⟨u, e20, et, e11⟩ | ⟨e20, e11⟩
  · refine ⟨.lst [.str told0, .str u], ?_, rfl, fun σ' e6 => xe_lam ((xe_call1 (v6 σ' e6)).trans (e11 (m + 9) h)) rfl (told_ok (m + 19) (.str u) rfl h)⟩
    refine (xe_ife (xe_test ((xe_call1 (v6 σ h6)).trans (e20 (m + 9) h)))).trans ?_
    simp only [cond]
    obtain ⟨ps, rfl⟩ : ∃ ps, x = .tup ps := by
      cases x with
      | tup ps => exact ⟨ps, rfl⟩
      | _ => cases et
    exact xe_lst (xs_cons rfl (xs_cons (text_ev h6 hl et) xs_nil)) rfl (by simp)
  · refine ⟨.lst [.str [100, 101, 101, 100], x], ?_, sz_pair F.s, fun σ' e6 => xe_lamx ((xe_call1 (v6 σ' e6)).trans (e11 (m + 9) h)) (told_x1 (m + 19) x F.D h)⟩
    refine (xe_ife (xe_test ((xe_call1 (v6 σ h6)).trans (e20 (m + 9) h)))).trans ?_
    simp only [cond]
    refine xe_lst (xs_cons rfl (xs_cons (v6 σ h6) xs_nil)) ?_ (by simp)
    show allD [x] = true
    rw [allD, F.D]
    rfl
theorem turn_ok {m : Nat} {ps : List PV} {t : List Nat} {p L : Nat} (F : DF ps t) (x : PV) (σ : Sl) (h : List Ob) (i : Tst ps t p L σ h) : ∃ σ1 h1 σ2 h2, evP G (call G T (m + 20)) (.nm 4) x σ h = .ok σ1 h1 ∧ exec G (call G T (m + 20)) turnS σ1 h1 = .ok (.nx σ2) h2 ∧ Tst ps t p L σ2 h2 := by
  obtain ⟨⟨a, b, c, d, e, f, rfl⟩, hp, hL⟩ := i
  obtain ⟨bt, h1, e22, B, bD, bl, hp1⟩ := bent_ok (n := m + 17) F.l F.low hp
  obtain ⟨od, h2, e23, O, dr⟩ := odd_ok (n := m + 17) (h := h1) F hp1
  obtain ⟨due, r, q1, q2, q3, q4⟩ := bent_due (m := m) B (σ := [some (.loc p), some (.tup ps), some (.str t), a, some x, some bt, some od, e, f]) (h := h2) rfl
  obtain ⟨r2, o1, o2, o3⟩ := odd_due (m := m) O (σ := [some (.loc p), some (.tup ps), some (.str t), a, some x, some bt, some od, some due, f]) (h := h2) (by simp) rfl
  refine ⟨[some (.loc p), some (.tup ps), some (.str t), a, some x, c, d, e, f], h, [some (.loc p), some (.tup ps), some (.str t), a, some x, some bt, some od, some r2, f], h2, by rw [evP]; rfl, ?_, ⟨a, some x, some bt, some od, some r2, f, rfl⟩, dr.pot, by rw [dr.len, bl, hL]⟩
  unfold turnS f24
  simp only
  refine (do_seq (σ1 := [some (.loc p), some (.tup ps), some (.str t), a, some x, some bt, some od, e, f]) (h1 := h2) ?_).trans ?_
  · refine do_asgP (v := .tup [bt, od]) (h1 := h2) ?_ ?_
    · refine xe_tup (xs_cons ((xe_call2 (x := .loc p) (y := .str t) (h1 := h) (h2 := h) rfl rfl).trans e22) (xs_cons ((xe_call2 (x := .loc p) (y := .tup ps) (h1 := h1) (h2 := h1) rfl rfl).trans e23) xs_nil)) ?_ (by simp)
      rw [allD, bD]
      simp only
      rw [allD, O.D]
      rfl
    · simp only [evP, evPs]
      rfl
  refine (do_seq (do_asg q1)).trans ?_
  refine (do_seq (σ1 := [some (.loc p), some (.tup ps), some (.str t), a, some x, some bt, some od, some due, f]) (h1 := h2) ?_).trans ?_
  · refine (do_if (k := false) (h1 := h2) ?_).trans (by simp only [cond, exec]; rfl)
    refine xe_test (xe_not (b := true) ?_)
    exact (xe_call2 (q3 _ rfl) (q4 _ rfl rfl)).trans (k16 4 (m + 15) r q2 h2)
  refine (do_seq (do_asg o1)).trans ?_
  refine (do_if (k := false) (h1 := h2) ?_).trans (by simp only [cond, exec]; rfl)
  refine xe_test (xe_not (b := true) ?_)
  exact (xe_call2 (o3 _ rfl) rfl).trans (k16 4 (m + 15) r2 o2 h2)
theorem right1 {m : Nat} {x : PV} {p : Nat} {h : List Ob} (hx : x ∈ DL) (hp : PotAt h p) : ∃ h', call G T (m + 21) 24 [.loc p, x] h = .ok (.bl true) h' ∧ PotAt h' p ∧ h'.length = h.length := by
  obtain ⟨ps, t, rfl, F⟩ := df hx
  have e19 := k19 (m + 18) t (Nat.le_trans F.l (by decide)) h
  have e12 := k12 (m + 15) t (Nat.le_trans F.l (by decide)) h
  rw [F.rd] at e19 e12
  have e11 := F.c (m + 9) h
  have told : PV := .lst [.str t, .str t, .tup ps, .tup ps]
  obtain ⟨σ', h', e, ⟨a, b, c, d, e', f, rfl⟩, hp', hl'⟩ := for_inv (asg := evP G (call G T (m + 20)) (.nm 4)) (body := exec G (call G T (m + 20)) turnS) (Tst ps t p h.length) (up 0 4) [some (.loc p), some (.tup ps), some (.str t), some (.lst [.str t, .str t, .tup ps, .tup ps]), none, none, none, none, none] h ⟨⟨_, _, _, _, _, _, rfl⟩, hp, rfl⟩ fun y _ σ h i => turn_ok F y σ h i
  refine ⟨h', ?_, hp', hl'⟩
  have hx : exec G (call G T (m + 20)) f24.body [some (.loc p), some (.tup ps), none, none, none, none, none, none, none] h = .ok (.rt (.bl true)) h' := by
    rw [f24_eq]
    refine (do_seq (do_asg (text_ev (ps := ps) rfl (by simp) F.tx))).trans ?_
    refine (do_seq (do_asg (v := .lst [.str t, .str t, .tup ps, .tup ps]) (h1 := h) ?_)).trans ?_
    · refine xe_lst (xs_cons ((xe_call1 (x := .tup ps) (h1 := h) rfl).trans e11) (xs_cons (h1 := h) ?_ (xs_cons ((xe_call1 (x := .str t) (h1 := h) rfl).trans e12) (xs_cons (h1 := h) ?_ xs_nil)))) rfl (by simp)
      · simp only [ev, evs, nth, put, permOf, List.nil_append, List.getElem?_cons_zero]
        exact e11
      · simp only [ev, evs, nth, put, permOf, List.nil_append, List.getElem?_cons_zero]
        exact e12
    refine (do_seq (σ1 := [some (.loc p), some (.tup ps), some (.str t), some (.lst [.str t, .str t, .tup ps, .tup ps]), none, none, none, none, none]) (h1 := h) ?_).trans ?_
    · refine (do_if (k := false) (h1 := h) ?_).trans (by simp only [cond, exec]; rfl)
      refine xe_test ((xe_or_f (x := .bl false) (h1 := h) (xe_not (b := true) ?_) rfl).trans ?_)
      · refine (xe_call2 (x := .lst [.str t, .str t, .tup ps, .tup ps]) (y := .lst [.str t, .str t, .tup ps, .tup ps]) (h1 := h) (h2 := h) rfl rfl).trans (k16 4 (m + 15) _ ?_ h)
        show szAll [.str t, .str t, .tup ps, .tup ps] 3 = true
        show szAll [.tup ps, .tup ps] 3 = true
        rw [szAll, F.s]
        simp only
        rw [szAll, F.s]
        rfl
      · refine (xe_cmp (x := .tup ps) (y := .tup ps) (h1 := h) (h2 := h) ((xe_call1 (x := .str t) (h1 := h) rfl).trans e19) rfl).trans ?_
        have eqq : eqV h (.tup ps) (.tup ps) = some true := by
          unfold eqV
          simp only [deref, F.d, F.q]
        simp only [apCmp, eqq]
        rfl
    refine (do_seq ((do_for (xi_rng1 (n := 4) rfl (by decide +kernel))).trans e)).trans ?_
    exact do_ret rfl
  rw [call_s (fn := f24) rfl, run_data rfl rfl rfl rfl hx, take_len hl']
end K81

/-! P81j: the law keeps, to the end (k81). -/
namespace K81
open Mi
def nlT : Exs := (.cons false (.cst (.int 0)) (.cons false (.cst (.int 1)) (.cons false (.cst (.int 2)) (.cons false (.cst (.int 3)) (.cons false (.neg (.cst (.int 1))) (.cons false (.cst (.int 10)) (.cons false (.bin false .pow (.cst (.int 10)) (.cst (.int 20))) (.cons false (.neg (.bin false .pow (.cst (.int 10)) (.cst (.int 9)))) .nil))))))))
theorem nl_ev {o : Orc} (σ : Sl) (h : List Ob) : ev G o (.tup nlT) σ h = .ok (.tup (NL.map .int)) h := by kernel_rfl
theorem f21_eq : f21.body = .seq (.asg (.tp (.cons (.nm 1) (.cons (.nm 2) .nil))) (.lc false [3] (.plain (.tup (.cons false (.cst (.int 0)) (.cons false (.cst (.int 1)) .nil)))) (.nm 3) (.cst (.bl true)) (.call 15 (.cons false (.var 0) (.cons false (.tup nlT) .nil))))) (.ret (.call 15 (.cons false (.var 0) (.cons false (.tup (.cons false (.tup (.cons false (.cst (.str [102, 108, 105, 112])) (.cons false (.var 1) (.cons false (.var 2) .nil)))) (.cons false (.tup (.cons false (.cst (.str [102, 108, 105, 112])) (.cons false (.var 1) (.cons false (.var 2) .nil)))) (.cons false (.tup (.cons false (.cst (.str [116, 117, 114, 110])) (.cons false (.call 15 (.cons false (.var 0) (.cons false (.tup (.cons false (.cst (.str [109, 105, 114, 114, 111, 114])) (.cons false (.cst (.str [111, 118, 101, 114])) (.cons false (.cst (.str [115, 119, 97, 112])) (.cons false (.cst (.str [119, 104, 101, 101, 108])) .nil))))) .nil))) .nil))) (.cons false (.tup (.cons false (.cst (.str [115, 112, 105, 110])) .nil)) .nil))))) .nil)))) := rfl
theorem memF {i j : Int} (hi : i ∈ NL) (hj : j ∈ NL) : mkF i j ∈ DL := by
  unfold DL
  refine List.mem_append.mpr (.inr (List.mem_append.mpr (.inr (List.mem_append.mpr (.inr ?_)))))
  exact List.mem_flatMap.mpr ⟨i, hi, List.mem_map.mpr ⟨j, hj, rfl⟩⟩
theorem memT {w : List Nat} (hw : w ∈ wordsT) : PV.tup [.str sTurn, .str w] ∈ DL := by
  unfold DL
  exact List.mem_append.mpr (.inl (List.mem_map.mpr ⟨w, hw, rfl⟩))
theorem memS : PV.tup [.str sSpin] ∈ DL := by
  unfold DL
  exact List.mem_append.mpr (.inr (List.mem_append.mpr (.inl (List.mem_singleton.mpr rfl))))
theorem deed_ok {n : Nat} {p : Nat} {h : List Ob} (hp : PotAt h p) : ∃ x h', call G T (n + 3) 21 [.loc p] h = .ok x h' ∧ x ∈ DL ∧ Dr h p h' := by
  have one : ∀ {σ : Sl} {h : List Ob}, nth σ 0 = some (.loc p) → PotAt h p → ∃ (i : Int) (h' : List Ob), ev G (call G T (n + 2)) (.call 15 (.cons false (.var 0) (.cons false (.tup nlT) .nil))) σ h = .ok (.int i) h' ∧ i ∈ NL ∧ Dr h p h' := by
    intro σ h e0 hp
    obtain ⟨x, h', hx, ex, dr⟩ := pick_n (n := n) (L := NL.map .int) (v := .tup (NL.map .int)) (.inl rfl) hp (by unfold NL; simp) (by unfold NL; simp) (by
      intro x hx
      obtain ⟨i, _, rfl⟩ := List.mem_map.mp hx
      rfl)
    obtain ⟨i, hi, rfl⟩ := List.mem_map.mp hx
    exact ⟨i, h', (xe_call2 (x := .loc p) (y := .tup (NL.map .int)) (h1 := h) (h2 := h) (by rw [ev, e0]) (nl_ev _ _)).trans ex, hi, dr⟩
  obtain ⟨vs, h1, e1, lv, qv, dr1⟩ := ev_inv (o := call G T (n + 2)) (G := G) (own := [3]) (it := .plain (.tup (.cons false (.cst (.int 0)) (.cons false (.cst (.int 1)) .nil)))) (i := 3) (e := .call 15 (.cons false (.var 0) (.cons false (.tup nlT) .nil))) (σ := [some (.loc p), none, none, none]) (h := h) (h1 := h) (xs := [.int 0, .int 1]) (fun h' => Dr h p h') (fun v => ∃ i : Int, v = .int i ∧ i ∈ NL) rfl ⟨rfl, hp, fun _ _ => rfl⟩ (by simp) (by
    intro x _ h2 d2
    obtain ⟨i, h3, e3, hi, d3⟩ := one (σ := put (Mi.wipe [some (.loc p), none, none, none] [3]) 3 (some x)) (h := h2) rfl d2.pot
    exact ⟨.int i, h3, e3, rfl, ⟨i, rfl, hi⟩, d2.trans d3⟩)
  obtain ⟨a, b, rfl⟩ : ∃ a b, vs = [a, b] := by
    match vs, lv with
    | [a, b], _ => exact ⟨a, b, rfl⟩
  obtain ⟨i, rfl, hi⟩ := qv a (by simp)
  obtain ⟨j, rfl, hj⟩ := qv b (by simp)
  obtain ⟨w, h2, hw, e2, dr2⟩ := pick_n (n := n) (L := stL wordsT) (v := .tup (stL wordsT)) (.inl rfl) dr1.pot (by unfold stL wordsT; simp) (by unfold stL wordsT; simp) (by
    intro x hx
    obtain ⟨i, _, rfl⟩ := List.mem_map.mp hx
    rfl)
  obtain ⟨w, hw', rfl⟩ := List.mem_map.mp hw
  obtain ⟨x, h3, hx, e3, dr3⟩ := pick_n (n := n) (L := [mkF i j, mkF i j, .tup [.str sTurn, .str w], .tup [.str sSpin]]) (v := .tup [mkF i j, mkF i j, .tup [.str sTurn, .str w], .tup [.str sSpin]]) (.inl rfl) dr2.pot (by simp) (by simp) (by
    intro x hx
    simp only [List.mem_cons, List.not_mem_nil, or_false] at hx
    rcases hx with rfl | rfl | rfl | rfl <;> rfl)
  have D := (dr1.trans dr2).trans dr3
  have hxD : x ∈ DL := by
    simp only [List.mem_cons, List.not_mem_nil, or_false] at hx
    rcases hx with rfl | rfl | rfl | rfl
    · exact memF hi hj
    · exact memF hi hj
    · exact memT hw'
    · exact memS
  have hxd : x.isD = true := by
    simp only [List.mem_cons, List.not_mem_nil, or_false] at hx
    rcases hx with rfl | rfl | rfl | rfl <;> rfl
  refine ⟨x, h3, ?_, hxD, D⟩
  have hb : exec G (call G T (n + 2)) f21.body [some (.loc p), none, none, none] h = .ok (.rt x) h3 := by
    rw [f21_eq]
    refine (do_seq (σ1 := [some (.loc p), some (.int i), some (.int j), none]) (h1 := h1) ?_).trans ?_
    · refine do_asgP e1 ?_
      simp only [evP, evPs]
      rfl
    refine do_ret ?_
    refine (xe_call2 (x := .loc p) (y := .tup [mkF i j, mkF i j, .tup [.str sTurn, .str w], .tup [.str sSpin]]) (h1 := h1) (h2 := h2) rfl ?_).trans e3
    refine xe_tup (xs_cons rfl (xs_cons rfl (xs_cons (h1 := h2) ?_ (xs_cons rfl xs_nil)))) rfl (by simp)
    exact xe_tup (xs_cons rfl (xs_cons ((xe_call2 (x := .loc p) (y := .tup (stL wordsT)) (h1 := h1) (h2 := h1) rfl rfl).trans e2) xs_nil)) rfl (by simp)
  rw [call_s (fn := f21) rfl, run_data hxd rfl rfl rfl hb, take_len D.len]
def lapS : Sx := .ife (.not (.call 24 (.cons false (.var 0) (.cons false (.call 21 (.cons false (.var 0) .nil)) .nil)))) (.ret (.cst (.bl false))) .pass
theorem f25_eq : f25.body = .seq (.for (.rng (.cons false (.cst (.int 60)) .nil)) (.nm 1) lapS) (.ret (.cst (.bl true))) := rfl
theorem right_ok {m : Nat} {p : Nat} {h : List Ob} (hp : PotAt h p) : ∃ h', call G T (m + 22) 25 [.loc p] h = .ok (.bl true) h' := by
  obtain ⟨σ', h', e, _⟩ := for_inv (asg := evP G (call G T (m + 21)) (.nm 1)) (body := exec G (call G T (m + 21)) lapS) (fun σ h => (∃ a, σ = [some (.loc p), a]) ∧ PotAt h p) (up 0 60) [some (.loc p), none] h ⟨⟨_, rfl⟩, hp⟩ (by
    rintro x _ σ h ⟨⟨a, rfl⟩, hp⟩
    obtain ⟨d, h1, e1, hd, dr⟩ := deed_ok (n := m + 18) hp
    obtain ⟨h2, e2, hp2, _⟩ := right1 (m := m) hd dr.pot
    refine ⟨[some (.loc p), some x], h, [some (.loc p), some x], h2, by rw [evP]; rfl, ?_, ⟨_, rfl⟩, hp2⟩
    refine (do_if (k := false) (h1 := h2) ?_).trans (by simp only [cond, exec])
    refine xe_test (xe_not (b := true) ?_)
    exact (xe_call2 (x := .loc p) (y := d) (h1 := h) (h2 := h1) rfl ((xe_call1 (x := .loc p) (h1 := h) rfl).trans e1)).trans e2)
  refine ⟨h'.take h.length, ?_⟩
  have hx : exec G (call G T (m + 21)) f25.body [some (.loc p), none] h = .ok (.rt (.bl true)) h' := by
    rw [f25_eq]
    refine (do_seq ((do_for (xi_rng1 (n := 60) rfl (by decide +kernel))).trans e)).trans ?_
    exact do_ret rfl
  rw [call_s (fn := f25) rfl, run_data rfl rfl rfl rfl hx]
/-! ### law -/
def d1L : List PV := (wordsT.map fun w => .tup [.str sTurn, .str w]) ++ ([.tup [.str sSpin]] ++ (ML.flatMap fun i => ML.map (mkF i)))
theorem d1_mem : ∀ x ∈ d1L, x ∈ DL := by
  intro x hx
  unfold d1L at hx
  unfold DL
  rcases List.mem_append.mp hx with h | h
  · exact List.mem_append.mpr (.inl h)
  · refine List.mem_append.mpr (.inr ?_)
    rcases List.mem_append.mp h with h | h
    · exact List.mem_append.mpr (.inl h)
    · exact List.mem_append.mpr (.inr (List.mem_append.mpr (.inl h)))
theorem d1_len : d1L.length = 41 := by decide +kernel
def asgD : Sx := match f26.body with
  | .seq _ (.seq a _) => a
  | _ => .pass
def loopD : Sx := match f26.body with
  | .seq _ (.seq _ (.seq l _)) => l
  | _ => .pass
def allD1 : Ex := .bi .all (.cons false (.lc false [6] (.plain (.var 2)) (.nm 6) (.cst (.bl true)) (.call 24 (.cons false (.var 1) (.cons false (.var 6) .nil)))) .nil)
def maxE : Ex := .bi .max2 (.cons false (.cst (.int 2)) (.cons false (.bi .min2 (.cons false (.bi .len (.cons false (.var 0) .nil)) (.cons false (.cst (.int 4)) .nil))) .nil))
def lastE : Ex := .bi .all (.cons false (.lc false [7] (.rng (.cons false maxE .nil)) (.nm 7) (.cst (.bl true)) (.call 25 (.cons false (.call 13 (.cons false (.var 0) (.cons false (.var 7) .nil))) .nil))) .nil)
theorem f26_eq : f26.body = .seq (.asg (.nm 1) (.call 13 (.cons false (.var 0) (.cons false (.cst (.int 5)) .nil)))) (.seq asgD (.seq loopD (.seq (.ife (.not allD1) (.ret (.cst (.bl false))) .pass) (.ret lastE)))) := rfl
theorem f13_eq : f13 = fnPot 1002511 9923 := rfl
theorem loop_ok (o : Orc) (s : PV) (p : Nat) (h : List Ob) : exec G o (.seq asgD loopD) [some s, some (.loc p), none, none, none, none, none, none] h = .ok (.nx [some s, some (.loc p), some (.lst d1L), some (.int 4), none, none, none, none]) h := by kernel_rfl
theorem xe_bi2 {G : Nat → Option PV} {o : Orc} {a c : Ex} {b : Bi} {σ : Sl} {h h1 h2 : List Ob} {x y : PV} (e : ev G o a σ h = .ok x h1) (e2 : ev G o c σ h1 = .ok y h2) : ev G o (.bi b (.cons false a (.cons false c .nil))) σ h = apBi b [x, y] h2 := by
  rw [ev, xs_cons e (xs_cons e2 xs_nil)]
theorem many_ok (m : Nat) : ∃ N : Nat, N ≤ 4 ∧ (if (if (4 : Int) < (m : Int) then (4 : Int) else (m : Int)) > 2 then (if (4 : Int) < (m : Int) then (4 : Int) else (m : Int)) else 2) = (N : Int) := by
  by_cases h : 4 < m
  · exact ⟨4, by omega, by rw [if_pos (by omega : (4 : Int) < (m : Int))]; rfl⟩
  · by_cases h2 : 2 < m
    · exact ⟨m, by omega, by rw [if_neg (by omega : ¬ (4 : Int) < (m : Int)), if_pos (by omega)]⟩
    · exact ⟨2, by omega, by rw [if_neg (by omega : ¬ (4 : Int) < (m : Int)), if_neg (by omega)]; rfl⟩
theorem pot_n {n : Nat} {ns : List Int} {s : PV} (hs : s = .frz (ns.map .int) ∨ s = .lst (ns.map .int)) (t : Nat) (h : List Ob) : ∃ h', call G T (n + 1) 13 [s, .int t] h = .ok (.loc h.length) h' ∧ PotAt h' h.length ∧ h.length < h'.length := by
  obtain ⟨xs, e, hp⟩ := pot_ok (G := G) (o := call G T n) (c1 := 1002511) (c2 := 9923) (by decide) ns s hs t h
  refine ⟨h ++ [.lst xs], ?_, hp, by simp⟩
  rw [call_s (fn := f13) rfl, f13_eq]
  exact e
theorem seq_assoc {G : Nat → Option PV} {o : Orc} {a b c : Sx} {σ σ1 : Sl} {h h1 : List Ob} (e : exec G o (.seq a b) σ h = .ok (.nx σ1) h1) : exec G o (.seq a (.seq b c)) σ h = exec G o c σ1 h1 := by
  rw [exec] at e
  rw [exec]
  split at e
  · rename_i f h2 q
    try rw [q]
    split at e
    · rw [exec, e]
    · simp only [R.ok.injEq] at e
      rename_i f' hf
      exact absurd e.1 (hf σ1)
  · cases e
theorem law_ok (ns : List Int) (s : PV) (hs : s = .frz (ns.map .int) ∨ s = .lst (ns.map .int)) : ∃ h', call G T 30 26 [s] [] = .ok (.bl true) h' := by
  obtain ⟨h1, e1, hp1, l1⟩ := pot_n (n := 28) hs 5 []
  -- all deeds of small numbers
  obtain ⟨vs, h2, e2, _, q2, _⟩ := ev_inv (o := call G T 29) (G := G) (own := [6]) (it := .plain (.var 2)) (i := 6) (e := .call 24 (.cons false (.var 1) (.cons false (.var 6) .nil))) (σ := [some s, some (.loc 0), some (.lst d1L), some (.int 4), none, none, none, none]) (h := h1) (h1 := h1) (xs := d1L) (fun h' => PotAt h' 0) (fun v => v = .bl true) rfl hp1 (by rw [d1_len]; decide) (by
    intro x hx h ih
    obtain ⟨h', e, hp', _⟩ := right1 (m := 8) (d1_mem x hx) ih
    exact ⟨.bl true, h', (xe_call2 (x := .loc 0) (y := x) (h1 := h) (h2 := h) rfl rfl).trans e, rfl, rfl, hp'⟩)
  obtain ⟨bs, b1, b2⟩ := bools_all q2
  -- the draws
  obtain ⟨N, hN, eN⟩ := many_ok ns.length
  have len : ev G (call G T 29) maxE [some s, some (.loc 0), some (.lst d1L), some (.int 4), none, none, none, none] h2 = .ok (.int N) h2 := by
    unfold maxE
    have ls : ev G (call G T 29) (.bi .len (.cons false (.var 0) .nil)) [some s, some (.loc 0), some (.lst d1L), some (.int 4), none, none, none, none] h2 = .ok (.int ns.length) h2 := by
      refine (xe_bi1 (x := s) (h1 := h2) rfl).trans ?_
      rcases hs with rfl | rfl <;> simp only [apBi, seqOf, lstOf, List.length_map]
    refine (xe_bi2 (x := .int 2) (h1 := h2) rfl ((xe_bi2 ls (y := .int 4) (h2 := h2) rfl).trans rfl)).trans ?_
    simp only [apBi]
    rw [eN]
  obtain ⟨us, h3, e3, _, q3, _⟩ := ev_inv (o := call G T 29) (G := G) (own := [7]) (it := .rng (.cons false maxE .nil)) (i := 7) (e := .call 25 (.cons false (.call 13 (.cons false (.var 0) (.cons false (.var 7) .nil))) .nil)) (σ := [some s, some (.loc 0), some (.lst d1L), some (.int 4), none, none, none, none]) (h := h2) (h1 := h2) (xs := up 0 N) (fun _ => True) (fun v => v = .bl true) (xi_rng1 len (hundred (by omega))) trivial (by rw [up_len]; omega) (by
    intro x hx h _
    obtain ⟨k, hk, rfl⟩ := up_mem hx
    rw [Int.zero_add]
    obtain ⟨h', e, hp', _⟩ := pot_n (n := 28) hs k h
    obtain ⟨h'', e'⟩ := right_ok (m := 7) hp'
    exact ⟨.bl true, h'', (xe_call1 (x := .loc h.length) (h1 := h') ((xe_call2 (x := s) (y := .int k) (h1 := h) (h2 := h) rfl rfl).trans e)).trans e', rfl, rfl, trivial⟩)
  obtain ⟨cs, c1, c2⟩ := bools_all q3
  refine ⟨[], ?_⟩
  have hd : allD [s] = true := by rcases hs with rfl | rfl <;> rfl
  refine (call_s (n := 29) (fn := f26) rfl _ _).trans (run_v (h1 := h3) rfl rfl hd rfl ?_)
  show exec G (call G T 29) f26.body [some s, none, none, none, none, none, none, none] [] = _
  rw [f26_eq]
  refine (do_seq (σ1 := [some s, some (.loc 0), none, none, none, none, none, none]) (h1 := h1) ?_).trans ?_
  · exact (do_asg ((xe_call2 (x := s) (y := .int 5) (h1 := []) (h2 := []) rfl rfl).trans e1)).trans rfl
  refine (seq_assoc (loop_ok (call G T 29) s 0 h1)).trans ?_
  refine (do_seq (σ1 := [some s, some (.loc 0), some (.lst d1L), some (.int 4), none, none, none, none]) (h1 := h2) ?_).trans ?_
  · refine (do_if (k := false) (h1 := h2) ?_).trans (by simp only [cond, exec])
    refine xe_test (xe_not (b := true) ?_)
    refine (xe_bi1 e2).trans ?_
    simp only [apBi, lstOf, b1, b2]
  refine do_ret ?_
  refine (xe_bi1 e3).trans ?_
  simp only [apBi, lstOf, c1, c2]
def cl : Nat → Nat → List PV → List Ob → R PV := call G T
theorem cl_zero : ∀ f args h, cl 0 f args h = .no := fun _ _ _ => rfl
theorem cl_step : ∀ k f fn args h, fnAt T f = some fn → cl (k + 1) f args h = .no ∨ cl (k + 1) f args h = runFn G (cl k) fn args h := call_step
def lev : Nat := 30
theorem pure_law : ∀ ns : List Int, ns.length ≤ 63 → ∀ s : PV, (s = .frz (ns.map .int) ∨ s = .lst (ns.map .int)) → ∃ h', cl lev 26 [s] [] = .ok (.bl true) h' := fun ns _ s hs => law_ok ns s hs
end K81

open PySem PySem.W PyProof.Rows
set_option maxRecDepth 100000 in
set_option maxHeartbeats 0 in
theorem PySem.Challenge.cw_iceyards_k81_whole_texts_of_deeds_holds : PySem.Challenge.rw_iceyards_k81_whole_texts_of_deeds.Holds := by
  w_on; o_law; k_head; (case hw => w_witness2)
  k_fill
  refine Mi.walk_fin (l := PySem.Challenge.rw_iceyards_k81_whole_texts_of_deeds) (S := K81.S) (m := 200) (Tb := K81.T) (G := K81.G) rfl rfl rfl (fun w h Y => PySem.W.km_in_of Y) (cl := K81.cl) [(218, Mi.lamQ "_law_is_right")] [(220, 218)] ?hTc K81.cl_zero K81.cl_step (nl := 26) (k := K81.lev) (kwl := []) rfl ⟨rfl, by decide, by decide⟩ K81.pure_law ?F
  case hTc =>
    intro t ht
    simp only [List.mem_cons, List.not_mem_nil, or_false] at ht
    rcases ht with rfl
    · exact ⟨220, by simp⟩
  case F =>
    intro w h mg Y KX GX
    have DE : Mi.DefsOf KX K81.S 200 K81.T [(218, Mi.lamQ "_law_is_right")] [(220, 218)] := by
      refine' (.cons ⟨_, _, _, K81.t0, .mk' (.cons ?za0_0 .nil) ?zl0 ?zc0 ?zk0⟩ (.cons ⟨_, _, _, K81.t1, .mk' (.cons ?za1_0 .nil) ?zl1 ?zc1 ?zk1⟩ (.cons ⟨_, _, _, K81.t2, .mk' (.cons ?za2_0 .nil) ?zl2 ?zc2 ?zk2⟩ (.cons ⟨_, _, _, K81.t3, .mk' (.cons ?za3_0 .nil) ?zl3 ?zc3 ?zk3⟩ (.cons ⟨_, _, _, K81.t4, .mk' (.cons ?za4_0 .nil) ?zl4 ?zc4 ?zk4⟩ (.cons ⟨_, _, _, K81.t5, .mk' (.cons ?za5_0 .nil) ?zl5 ?zc5 ?zk5⟩ (.cons ⟨_, _, _, K81.t6, .mk' (.cons ?za6_0 .nil) ?zl6 ?zc6 ?zk6⟩ (.cons ⟨_, _, _, K81.t7, .mk' (.cons ?za7_0 .nil) ?zl7 ?zc7 ?zk7⟩ (.cons ⟨_, _, _, K81.t8, .mk' (.cons ?za8_0 .nil) ?zl8 ?zc8 ?zk8⟩ (.cons ⟨_, _, _, K81.t9, .mk' (.cons ?za9_0 .nil) ?zl9 ?zc9 ?zk9⟩ (.cons ⟨_, _, _, K81.t10, .mk' (.cons ?za10_0 .nil) ?zl10 ?zc10 ?zk10⟩ (.cons ⟨_, _, _, K81.t11, .mk' (.cons ?za11_0 .nil) ?zl11 ?zc11 ?zk11⟩ (.cons ⟨_, _, _, K81.t12, .mk' (.cons ?za12_0 .nil) ?zl12 ?zc12 ?zk12⟩ (.cons ⟨_, _, _, K81.t13, .mk' (.cons ?za13_0 .nil) ?zl13 ?zc13 ?zk13⟩ (.cons ⟨_, _, _, K81.t14, .mk' (.cons ?za14_0 .nil) ?zl14 ?zc14 ?zk14⟩ (.cons ⟨_, _, _, K81.t15, .mk' (.cons ?za15_0 .nil) ?zl15 ?zc15 ?zk15⟩ (.cons ⟨_, _, _, K81.t16, .mk' (.cons ?za16_0 .nil) ?zl16 ?zc16 ?zk16⟩ (.cons ⟨_, _, _, K81.t17, .mk' (.cons ?za17_0 .nil) ?zl17 ?zc17 ?zk17⟩ (.cons ⟨_, _, _, K81.t18, .mk' (.cons ?za18_0 .nil) ?zl18 ?zc18 ?zk18⟩ (.cons ⟨_, _, _, K81.t19, .mk' (.cons ?za19_0 .nil) ?zl19 ?zc19 ?zk19⟩ (.cons ⟨_, _, _, K81.t20, .mk' (.cons ?za20_0 .nil) ?zl20 ?zc20 ?zk20⟩ (.cons ⟨_, _, _, K81.t21, .mk' (.cons ?za21_0 .nil) ?zl21 ?zc21 ?zk21⟩ (.cons ⟨_, _, _, K81.t22, .mk' (.cons ?za22_0 .nil) ?zl22 ?zc22 ?zk22⟩ (.cons ⟨_, _, _, K81.t23, .mk' (.cons ?za23_0 .nil) ?zl23 ?zc23 ?zk23⟩ (.cons ⟨_, _, _, K81.t24, .mkL (c := 220) (P := 218) (.cons ?za24_0 .nil) ?zl24 ?zc24 ?zk24 (by simp) (by simp) ?zu24⟩ (.cons ⟨_, _, _, K81.t25, .mk' (.cons ?za25_0 .nil) ?zl25 ?zc25 ?zk25⟩ (.cons ⟨_, _, _, K81.t26, .mk' (.cons ?za26_0 .nil) ?zl26 ?zc26 ?zk26⟩ .nil)))))))))))))))))))))))))))
      (case za0_0 => k_is); (case zl0 => k_is); (case zc0 => k_is); (case zk0 => k_is)
      (case za1_0 => k_is); (case zl1 => k_is); (case zc1 => k_is); (case zk1 => k_is)
      (case za2_0 => k_is); (case zl2 => k_is); (case zc2 => k_is); (case zk2 => k_is)
      (case za3_0 => k_is); (case zl3 => k_is); (case zc3 => k_is); (case zk3 => k_is)
      (case za4_0 => k_is); (case zl4 => k_is); (case zc4 => k_is); (case zk4 => k_is)
      (case za5_0 => k_is); (case zl5 => k_is); (case zc5 => k_is); (case zk5 => k_is)
      (case za6_0 => k_is); (case zl6 => k_is); (case zc6 => k_is); (case zk6 => k_is)
      (case za7_0 => k_is); (case zl7 => k_is); (case zc7 => k_is); (case zk7 => k_is)
      (case za8_0 => k_is); (case zl8 => k_is); (case zc8 => k_is); (case zk8 => k_is)
      (case za9_0 => k_is); (case zl9 => k_is); (case zc9 => k_is); (case zk9 => k_is)
      (case za10_0 => k_is); (case zl10 => k_is); (case zc10 => k_is); (case zk10 => k_is)
      (case za11_0 => k_is); (case zl11 => k_is); (case zc11 => k_is); (case zk11 => k_is)
      (case za12_0 => k_is); (case zl12 => k_is); (case zc12 => k_is); (case zk12 => k_is)
      (case za13_0 => k_is); (case zl13 => k_is); (case zc13 => k_is); (case zk13 => k_is)
      (case za14_0 => k_is); (case zl14 => k_is); (case zc14 => k_is); (case zk14 => k_is)
      (case za15_0 => k_is); (case zl15 => k_is); (case zc15 => k_is); (case zk15 => k_is)
      (case za16_0 => k_is); (case zl16 => k_is); (case zc16 => k_is); (case zk16 => k_is)
      (case za17_0 => k_is); (case zl17 => k_is); (case zc17 => k_is); (case zk17 => k_is)
      (case za18_0 => k_is); (case zl18 => k_is); (case zc18 => k_is); (case zk18 => k_is)
      (case za19_0 => k_is); (case zl19 => k_is); (case zc19 => k_is); (case zk19 => k_is)
      (case za20_0 => k_is); (case zl20 => k_is); (case zc20 => k_is); (case zk20 => k_is)
      (case za21_0 => k_is); (case zl21 => k_is); (case zc21 => k_is); (case zk21 => k_is)
      (case za22_0 => k_is); (case zl22 => k_is); (case zc22 => k_is); (case zk22 => k_is)
      (case za23_0 => k_is); (case zl23 => k_is); (case zc23 => k_is); (case zk23 => k_is)
      (case za24_0 => k_is); (case zl24 => k_is); (case zc24 => k_is); (case zk24 => k_is); (case zu24 => (intro p hp; simp only [List.mem_cons, List.not_mem_nil, or_false] at hp; rcases hp with rfl <;> (intro e; first | rfl | exact absurd e (by decide))))
      (case za25_0 => k_is); (case zl25 => k_is); (case zc25 => k_is); (case zk25 => k_is)
      (case za26_0 => k_is); (case zl26 => k_is); (case zc26 => k_is); (case zk26 => k_is)
    have GE : Mi.GlOf KX [(218, Mi.lamQ "_law_is_right")] K81.G K81.S.glbs := by
      refine' (.cons (.str rfl ?ze0 ⟨by decide, by decide⟩ ?zg0) (.cons (.str rfl ?ze1 ⟨by decide, by decide⟩ ?zg1) (.cons (.str rfl ?ze2 ⟨by decide, by decide⟩ ?zg2) (.cons (.str rfl ?ze3 ⟨by decide, by decide⟩ ?zg3) (.cons (.tupS (ss := [[109, 105, 114, 114, 111, 114], [111, 118, 101, 114], [115, 119, 97, 112], [119, 104, 101, 101, 108]]) rfl ?zo4 ?zg4 ?zl_4 ?zv4 ?zz4) (.cons (.str rfl ?ze5 ⟨by decide, by decide⟩ ?zg5) (.cons (.str rfl ?ze6 ⟨by decide, by decide⟩ ?zg6) (.cons (.str rfl ?ze7 ⟨by decide, by decide⟩ ?zg7) (.cons (.str rfl ?ze8 ⟨by decide, by decide⟩ ?zg8) (.cons (.str rfl ?ze9 ⟨by decide, by decide⟩ ?zg9) (.cons (.str rfl ?ze10 ⟨by decide, by decide⟩ ?zg10) .nil)))))))))))
      (case zg0 => k_is)
      (case zg1 => k_is)
      (case zg2 => k_is)
      (case zg3 => k_is)
      (case zg4 => k_is)
      (case zg5 => k_is)
      (case zg6 => k_is)
      (case zg7 => k_is)
      (case zg8 => k_is)
      (case zg9 => k_is)
      (case zg10 => k_is)
      (case ze0 => decide +kernel)
      (case ze1 => decide +kernel)
      (case ze2 => decide +kernel)
      (case ze3 => decide +kernel)
      (case zl_4 => k_is); (case zv4 => exact Mi.vals_by (by decide +kernel)); (case zz4 => decide +kernel); (case zo4 => exact Mi.soks_by (by decide +kernel))
      (case ze5 => decide +kernel)
      (case ze6 => decide +kernel)
      (case ze7 => decide +kernel)
      (case ze8 => decide +kernel)
      (case ze9 => decide +kernel)
      (case ze10 => decide +kernel)
    have BE : Mi.BiOf KX K81.S.bis := by
      refine' (.cons ?zb0 (.cons ?zb1 (.cons ?zb2 (.cons ?zb3 (.cons ?zb4 (.cons ?zb5 (.cons ?zb6 (.cons ?zb7 (.cons ?zb8 (.cons ?zb9 (.cons ?zb10 (.cons ?zb11 (.cons ?zb12 (.cons ?zb13 (.cons ?zb14 (.cons ?zb15 .nil))))))))))))))))
      (case zb0 => k_is)
      (case zb1 => k_is)
      (case zb2 => k_is)
      (case zb3 => k_is)
      (case zb4 => k_is)
      (case zb5 => k_is)
      (case zb6 => k_is)
      (case zb7 => k_is)
      (case zb8 => k_is)
      (case zb9 => k_is)
      (case zb10 => k_is)
      (case zb11 => k_is)
      (case zb12 => k_is)
      (case zb13 => k_is)
      (case zb14 => k_is)
      (case zb15 => k_is)
    have XE0 : Mi.ExOf KX "InvalidText" "given" (L2.inClass (K81.top 19) 0) := by
      refine' .mk' ?xa ?xb ?xbb ?xsa ?xe ?xt ?xk ?xi ?xti ?xno ?xl ?xc ?xkf
      (case xa => k_is); (case xb => k_is); (case xbb => decide +kernel); (case xsa => k_is); (case xe => k_is); (case xt => k_is); (case xk => k_is); (case xi => k_is); (case xti => k_is); (case xno => k_is); (case xl => k_is); (case xc => k_is); (case xkf => k_is)
    have XE1 : Mi.ExOf KX "InvalidDeed" "given" (L2.inClass (K81.top 20) 0) := by
      refine' .mk' ?xa ?xb ?xbb ?xsa ?xe ?xt ?xk ?xi ?xti ?xno ?xl ?xc ?xkf
      (case xa => k_is); (case xb => k_is); (case xbb => decide +kernel); (case xsa => k_is); (case xe => k_is); (case xt => k_is); (case xk => k_is); (case xi => k_is); (case xti => k_is); (case xno => k_is); (case xl => k_is); (case xc => k_is); (case xkf => k_is)
    have HD0 : Mi.DefOf KX [(218, Mi.lamQ "_law_is_right")] [(220, 218)] (K81.top 38) "_law_heard" ["_law_heard"] := by
      refine' .mk' (.cons ?za_0 .nil) ?zl ?zc ?zk
      (case za_0 => k_is); (case zl => k_is); (case zc => k_is); (case zk => k_is)
    have XF0_0 : Mi.XfOf KX "InvalidText" "given" := by
      refine' .mk' ?xa ?xg ?xgg ?xe ?xh ?xno
      (case xa => k_is); (case xg => k_is); (case xgg => k_is); (case xe => k_is); (case xh => k_is); (case xno => k_is)
    have EM0_0_0 : Mi.ExmOf KX "InvalidText" "InvalidText" true := by
      refine' .mk' ?xa ?xb ?x1 ?x2 ?x3 ?x4
      (case xa => k_is); (case xb => k_is); (case x1 => k_is); (case x2 => k_is); (case x3 => k_is); (case x4 => k_is)
    have EM0_0_1 : Mi.ExmOf KX "InvalidText" "InvalidDeed" false := by
      refine' .mk' ?xa ?xb ?x1 ?x2 ?x3 ?x4
      (case xa => k_is); (case xb => k_is); (case x1 => k_is); (case x2 => k_is); (case x3 => k_is); (case x4 => k_is)
    have XF0_1 : Mi.XfOf KX "InvalidDeed" "given" := by
      refine' .mk' ?xa ?xg ?xgg ?xe ?xh ?xno
      (case xa => k_is); (case xg => k_is); (case xgg => k_is); (case xe => k_is); (case xh => k_is); (case xno => k_is)
    have EM0_1_0 : Mi.ExmOf KX "InvalidDeed" "InvalidText" false := by
      refine' .mk' ?xa ?xb ?x1 ?x2 ?x3 ?x4
      (case xa => k_is); (case xb => k_is); (case x1 => k_is); (case x2 => k_is); (case x3 => k_is); (case x4 => k_is)
    have EM0_1_1 : Mi.ExmOf KX "InvalidDeed" "InvalidDeed" true := by
      refine' .mk' ?xa ?xb ?x1 ?x2 ?x3 ?x4
      (case xa => k_is); (case xb => k_is); (case x1 => k_is); (case x2 => k_is); (case x3 => k_is); (case x4 => k_is)
    have TN0 : Mi.NoOf KX 218 := by kernel_rfl
    refine' ⟨DE, GE, BE, ?zexc, ?zthk, ?ztab⟩
    case zexc =>
      intro c x fld he
      rcases c with _ | c
      · cases he
        exact Mi.exC_of KX GX XE0 K81.xt0 rfl
      rcases c with _ | c
      · cases he
        exact Mi.exC_of KX GX XE1 K81.xt1 rfl
      · cases he
    case zthk =>
      intro k f x hm
      simp only [K81.S, List.mem_cons, List.not_mem_nil, or_false] at hm
      · cases hm
        refine Mi.thk_fn KX GX HD0 (by simp) K81.ht0 (fun p hp => ?_) (fun p hp p' hp' => ?_) ?_ ⟨by decide, by decide⟩ ?_ K81.cl_zero K81.cl_step rfl
        · simp only [K81.hl0, List.mem_cons, List.not_mem_nil, or_false] at hp
          rcases hp with rfl | rfl
          · exact XF0_0
          · exact XF0_1
        · simp only [K81.hl0, List.mem_cons, List.not_mem_nil, or_false] at hp hp'
          rcases hp with rfl | rfl
          · rcases hp' with rfl | rfl
            · exact EM0_0_0
            · exact EM0_0_1
          · rcases hp' with rfl | rfl
            · exact EM0_1_0
            · exact EM0_1_1
        · exact by decide +kernel
        · exact by decide +kernel
    case ztab =>
      intro p hp
      simp only [List.mem_cons, List.not_mem_nil, or_false] at hp
      rcases hp with rfl
      · exact ⟨PySem.W.km_tabs_of Y _ (by simp), TN0, PySem.W.codeHd_of_K KX (by kernel_rfl)⟩

