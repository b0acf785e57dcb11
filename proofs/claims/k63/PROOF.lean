import PyProof.Rows.All
import PySem.Challenge.RW_onehat_k63_whole_a_patch_of_the_grid
import PySem.Syntax
import PySem.PyData
import PyProof.EqLayable
import KE.LtData
import HandS.ForMost
import HandS.ForExc
import HandS.Star
import HandS.IsInst
import HandS.Deep
import HandS.Flow
import KE.KDictKeyed
import KE.KDictWalk
import PyProof.FactsAll.list_3
import KE.SortCalls
import KE.KDictCopyH
import KE.KDictSum
import PyProof.FactsAll.dict_3
import HandS.Zip
import HandS.DictComp
import HandS.HeadHook4
import HandS.HeadEnd
import Wide.All
import OpenK.AllK
import Wide.FinOn
import KE.KStateDown
import HandS.Ends
import HandS.More
import HandS.Words
import HandS.WordsExc
import HandS.Defaults
import HandS.Head0
import HandS.Head1
import HandS.Head2
import HandS.HeadHook1
import HandS.HeadHook2
section
set_option linter.all false
/-! E0: the E-machine: values, cells, what operators do. -/
namespace EM
open PySem

/-- values: data by value, lists and dicts by the number of their cell -/
inductive EV where
  | non | bl (b : Bool) | int (i : Int) | str (s : PySem.Str) | tup (xs : List EV) | ref (n : Nat) | fn (k : Nat)
  /-- a list that never changes, by value (what a law is handed) -/
  | kl (xs : List EV)
  deriving Inhabited

inductive CL where
  | lst (xs : List EV) (lk : Bool)
  | dct (kvs : List (EV × EV)) (lk : Bool)
  deriving Inhabited

/-- a tree of cells -/
inductive Tr where
  | lf
  | nd (l : Tr) (v : Option CL) (r : Tr)
def Tr.get : Nat → Tr → Nat → Option CL
  | 0, _, _ => none
  | _ + 1, .lf, _ => none
  | f + 1, .nd l v r, n => match n with
    | 0 => v
    | m + 1 => match m % 2 with
      | 0 => l.get f (m / 2)
      | _ + 1 => r.get f (m / 2)
def Tr.put : Nat → Tr → Nat → CL → Tr
  | 0, t, _, _ => t
  | f + 1, .lf, n, c => match n with
    | 0 => .nd .lf (some c) .lf
    | m + 1 => match m % 2 with
      | 0 => .nd (Tr.put f .lf (m / 2) c) none .lf
      | _ + 1 => .nd .lf none (Tr.put f .lf (m / 2) c)
  | f + 1, .nd l v r, n, c => match n with
    | 0 => .nd l (some c) r
    | m + 1 => match m % 2 with
      | 0 => .nd (Tr.put f l (m / 2) c) v r
      | _ + 1 => .nd l v (Tr.put f r (m / 2) c)

structure EH where
  n : Nat
  t : Tr
def EH.emp : EH := ⟨0, .lf⟩
def EH.get (h : EH) (i : Nat) : Option CL := match Nat.blt i h.n with
  | true => h.t.get 40 i
  | false => none
def EH.put (h : EH) (i : Nat) (c : CL) : EH := ⟨h.n, h.t.put 40 i c⟩
/-- room for one more cell -/
def EH.room (h : EH) : Bool := Nat.blt h.n 1000000000

inductive R (α : Type) where
  | ok (a : α) (h : EH)
  | ex (c : Nat) (p : EV) (h : EH)
  | bad
def R.bind {α β : Type} : R α → (α → EH → R β) → R β
  | .ok a h, f => f a h
  | .ex c p h, _ => .ex c p h
  | .bad, _ => .bad

/-- numbers forced -/
def fN {α : Type} (n : Nat) (k : Nat → α) : α := match n with
  | 0 => k 0
  | m + 1 => k (m + 1)
theorem fN_eq {α : Type} (n : Nat) (k : Nat → α) : fN n k = k n := by cases n <;> rfl
def fI {α : Type} (i : Int) (k : Int → α) : α := match i with
  | .ofNat n => fN n fun m => k (.ofNat m)
  | .negSucc n => fN n fun m => k (.negSucc m)
theorem fI_eq {α : Type} (i : Int) (k : Int → α) : fI i k = k i := by
  cases i with
  | ofNat n => exact fN_eq n fun m => k (.ofNat m)
  | negSucc n => exact fN_eq n fun m => k (.negSucc m)
def ieq : Int → Int → Bool
  | .ofNat m, .ofNat n => Nat.beq m n
  | .negSucc m, .negSucc n => Nat.beq m n
  | _, _ => false
def ilt : Int → Int → Bool
  | .ofNat m, .ofNat n => Nat.blt m n
  | .negSucc m, .negSucc n => Nat.blt n m
  | .negSucc _, .ofNat _ => true
  | .ofNat _, .negSucc _ => false
theorem ieq_iff (i j : Int) : ieq i j = true ↔ i = j := by
  cases i <;> cases j <;> simp [ieq] <;> omega
theorem ieq_eq (i j : Int) : ieq i j = decide (i = j) := by
  by_cases h : i = j
  · rw [decide_eq_true h]; exact (ieq_iff i j).mpr h
  · rw [decide_eq_false h]
    cases q : ieq i j with
    | false => rfl
    | true => exact absurd ((ieq_iff i j).mp q) h
theorem ilt_iff (i j : Int) : ilt i j = true ↔ i < j := by
  cases i <;> cases j <;> simp [ilt, Nat.blt, Nat.ble_eq] <;> omega
theorem ilt_eq (i j : Int) : ilt i j = decide (i < j) := by
  by_cases h : i < j
  · rw [decide_eq_true h]; exact (ilt_iff i j).mpr h
  · rw [decide_eq_false h]
    cases q : ilt i j with
    | false => rfl
    | true => exact absurd ((ilt_iff i j).mp q) h

/-- a new cell -/
def mkC (c : CL) (h : EH) : R EV := match EH.room h with
  | true => fN (h.n + 1) fun m => .ok (.ref h.n) ⟨m, h.t.put 40 h.n c⟩
  | false => .bad
def retI (i : Int) (h : EH) : R EV := fI i fun j => .ok (.int j) h
def sz (n : Nat) : Bool := Nat.ble n 16777216

/-! ### data -/
def mapO {α β : Type} (g : α → Option β) : List α → Option (List β)
  | [] => some []
  | x :: r => match g x with
    | some y => match mapO g r with
      | some ys => some (y :: ys)
      | none => none
    | none => none
/-- what a value is as data: lists read -/
def rd : Nat → EH → EV → Option PyData
  | 0, _, _ => none
  | f + 1, h, v => match v with
    | .non => some .none
    | .bl b => some (.bool b)
    | .int i => some (.int i)
    | .str s => some (.str s)
    | .tup xs => match mapO (rd f h) xs with
      | some ds => some (.tuple ds)
      | none => none
    | .ref n => match h.get n with
      | some (.lst xs _) => match mapO (rd f h) xs with
        | some ds => some (.list ds)
        | none => none
      | _ => none
    | .fn _ => none
    | .kl _ => none
mutual
/-- keys: whole numbers, texts, None, tuples of these -/
def keq : EV → EV → Bool
  | .int i, .int j => ieq i j
  | .non, .non => true
  | .str s, .str t => decide (s = t)
  | .tup xs, .tup ys => keqs xs ys
  | _, _ => false
def keqs : List EV → List EV → Bool
  | [], [] => true
  | x :: xs, y :: ys => match keq x y with
    | true => keqs xs ys
    | false => false
  | _, _ => false
end
def kok : Nat → EV → Bool
  | 0, _ => false
  | f + 1, v => match v with
    | .int _ => true
    | .non => true
    | .str _ => true
    | .tup xs => xs.all (kok f)
    | _ => false
/-- a tuple that may be a key -/
def kT (v : EV) : Bool := match v with
  | .tup _ => kok 6 v
  | _ => false
def dget : List (EV × EV) → EV → Option EV
  | [], _ => none
  | (k, v) :: r, x => match keq k x with
    | true => some v
    | false => dget r x
def dput : List (EV × EV) → EV → EV → List (EV × EV)
  | [], x, y => [(x, y)]
  | (k, v) :: r, x, y => match keq k x with
    | true => (k, y) :: r
    | false => (k, v) :: dput r x y
def ddel : List (EV × EV) → EV → List (EV × EV)
  | [], _ => []
  | (k, v) :: r, x => match keq k x with
    | true => r
    | false => (k, v) :: ddel r x

/-! ### order -/
/-- stable: what is put in goes ahead of its equals -/
def ins (x : PyData × EV) : List (PyData × EV) → List (PyData × EV)
  | [] => [x]
  | y :: r => match W.dataLt y.1 x.1 with
    | true => y :: ins x r
    | false => x :: y :: r
def isort : List (PyData × EV) → List (PyData × EV)
  | [] => []
  | x :: r => ins x (isort r)
/-- a tuple with an item at least -/
def neT : PyData → Bool
  | .tuple (_ :: _) => true
  | _ => false
/-- neither a tuple nor None -/
def noT : PyData → Bool
  | .tuple _ => false
  | .none => false
  | _ => true
/-- what may be sorted -/
def sortD (ds : List PyData) : Bool := match ds.all fun d => ds.all fun e => W.alike d e with
  | true => match ds.all SeqAt.shaped with
    | true => match ds.all neT with
      | true => true
      | false => ds.all noT
    | false => false
  | false => false

def sortE (h : EH) (xs : List EV) : Option (List EV) := match mapO (rd 20 h) xs with
  | some ds => match sortD ds with
    | true => some ((isort (ds.zip xs)).map Prod.snd)
    | false => none
  | none => none

/-! ### operators -/
def tru (h : EH) : EV → Option Bool
  | .non => some false
  | .bl b => some b
  | .int i => some (!ieq i 0)
  | .str s => match sz s.cps.size with
    | true => some (!Nat.beq s.cps.size 0)
    | false => none
  | .tup xs => some (match xs with
    | [] => false
    | _ :: _ => true)
  | .ref n => match h.get n with
    | some (.lst xs _) => some (match xs with
      | [] => false
      | _ :: _ => true)
    | some (.dct xs _) => some (match xs with
      | [] => false
      | _ :: _ => true)
    | none => none
  | .fn _ => none
  | .kl _ => none
def lim64 (i : Int) : Bool := match i with
  | .ofNat n => Nat.blt n 18446744073709551616
  | .negSucc n => Nat.blt n 18446744073709551615
def binE (op : Operator) (x y : EV) (h : EH) : R EV := match op with
  | .Add => match x with
    | .int i => match y with
      | .int j => retI (i + j) h
      | _ => .bad
    | .str s => match y with
      | .str t => match sz (s.cps.size + t.cps.size) with
        | true => .ok (.str ⟨s.cps ++ t.cps⟩) h
        | false => .bad
      | _ => .bad
    | .tup xs => match y with
      | .tup ys => match xs with
        | [] => .bad
        | _ :: _ => match sz (xs ++ ys).length with
          | true => .ok (.tup (xs ++ ys)) h
          | false => .bad
      | _ => .bad
    | .ref n => match y with
      | .ref m => match h.get n with
        | some (.lst xs false) => match h.get m with
          | some (.lst ys false) => match sz (xs ++ ys).length with
            | true => mkC (.lst (xs ++ ys) false) h
            | false => .bad
          | _ => .bad
        | _ => .bad
      | _ => .bad
    | _ => .bad
  | .Sub => match x with
    | .int i => match y with
      | .int j => retI (i - j) h
      | _ => .bad
    | _ => .bad
  | .Mult => match x with
    | .int i => match y with
      | .int j => match lim64 i with
        | true => retI (i * j) h
        | false => match lim64 j with
          | true => retI (i * j) h
          | false => .bad
      | _ => .bad
    | _ => .bad
  | .FloorDiv => match x with
    | .int i => match y with
      | .int j => match j with
        | .ofNat (n + 1) => match Nat.blt (n + 1) 1073741824 with
          | true => retI (i / j) h
          | false => .bad
        | _ => .bad
      | _ => .bad
    | _ => .bad
  | .Mod => match x with
    | .int i => match y with
      | .int j => match j with
        | .ofNat (n + 1) => retI (i % j) h
        | _ => .bad
      | _ => .bad
    | _ => .bad
  | .Pow => match x with
    | .int i => match y with
      | .int j => match j with
        | .ofNat n => match Nat.ble n 1000000 with
          | true => match lim64 i with
            | true => retI (i ^ n) h
            | false => .bad
          | false => .bad
        | _ => .bad
      | _ => .bad
    | _ => .bad
  | _ => .bad
def eqE (h : EH) (x y : EV) : Option Bool := match rd 20 h x with
  | some d => match rd 20 h y with
    | some e => match SeqAt.shaped d with
      | true => match SeqAt.shaped e with
        | true => some (PyData.eqv d e)
        | false => none
      | false => none
    | none => none
  | none => none
def retB (b : Bool) (h : EH) : R EV := .ok (.bl b) h
/-- the items of a list or tuple -/
def items (h : EH) : EV → Option (List EV)
  | .tup xs => some xs
  | .kl xs => some xs
  | .ref n => match h.get n with
    | some (.lst xs _) => some xs
    | _ => none
  | _ => none
def inE (h : EH) (x y : EV) : Option Bool := match y with
  | .ref n => match h.get n with
    | some (.dct kvs _) => match kT x with
      | true => some (dget kvs x).isSome
      | false => none
    | some (.lst ys _) => match rd 20 h x with
      | some d => match mapO (rd 19 h) ys with
        | some ds => match SeqAt.shaped d with
          | true => match SeqAt.shaped (.list ds) with
            | true => some (ds.any fun z => PyData.eqv z d)
            | false => none
          | false => none
        | none => none
      | none => none
    | none => none
  | _ => none
def cmpE (op : CmpOp) (x y : EV) (h : EH) : R EV := match op with
  | .Eq => match eqE h x y with
    | some b => retB b h
    | none => .bad
  | .NotEq => match eqE h x y with
    | some b => retB (!b) h
    | none => .bad
  | .Lt => match x with
    | .int i => match y with
      | .int j => retB (ilt i j) h
      | _ => .bad
    | _ => .bad
  | .LtE => match x with
    | .int i => match y with
      | .int j => retB (!ilt j i) h
      | _ => .bad
    | _ => .bad
  | .Gt => match x with
    | .int i => match y with
      | .int j => retB (ilt j i) h
      | _ => .bad
    | _ => .bad
  | .GtE => match x with
    | .int i => match y with
      | .int j => retB (!ilt i j) h
      | _ => .bad
    | _ => .bad
  | .In => match inE h x y with
    | some b => retB b h
    | none => .bad
  | .NotIn => match inE h x y with
    | some b => retB (!b) h
    | none => .bad
  | .Is => match y with
    | .non => retB (match x with
      | .non => true
      | _ => false) h
    | _ => .bad
  | .IsNot => match y with
    | .non => retB (match x with
      | .non => false
      | _ => true) h
    | _ => .bad
/-- the place of an index -/
def ixE (n : Nat) (i : Int) : Option Nat := match i with
  | .ofNat k => match Nat.blt k n with
    | true => some k
    | false => none
  | .negSucc k => match Nat.blt k n with
    | true => some (n - 1 - k)
    | false => none
def getE (x y : EV) (h : EH) : R EV := match x with
  | .ref n => match h.get n with
    | some (.lst xs _) => match y with
      | .int i => match ixE xs.length i with
        | some k => match xs[k]? with
          | some v => .ok v h
          | none => .bad
        | none => .bad
      | _ => .bad
    | some (.dct kvs _) => match kT y with
      | true => match dget kvs y with
        | some v => .ok v h
        | none => .bad
      | false => .bad
    | none => .bad
  | .tup xs => match y with
    | .int i => match ixE xs.length i with
      | some k => match xs[k]? with
        | some v => .ok v h
        | none => .bad
      | none => .bad
    | _ => .bad
  | _ => .bad
def setE (x y v : EV) (h : EH) : R Unit := match x with
  | .ref n => match h.get n with
    | some (.lst xs false) => match y with
      | .int i => match ixE xs.length i with
        | some k => .ok () (h.put n (.lst (xs.set k v) false))
        | none => .bad
      | _ => .bad
    | some (.dct kvs false) => match kT y with
      | true => match sz (kvs.length + 1) with
        | true => .ok () (h.put n (.dct (dput kvs y v) false))
        | false => .bad
      | false => .bad
    | _ => .bad
  | _ => .bad
/-- a slice's end -/
def cutI (n : Nat) (d : Nat) : Option Int → Nat
  | none => d
  | some (.ofNat k) => match Nat.ble k n with
    | true => k
    | false => n
  | some (.negSucc k) => n - (k + 1)
def cutE (xs : List EV) (lo hi : Option Int) : List EV :=
  let n := xs.length
  let a := cutI n 0 lo
  let b := cutI n n hi
  (xs.drop a).take (b - a)
end EM
end
section
set_option linter.all false
/-! E1: the E-machine: code, and how it runs. -/
namespace EM
open PySem

inductive Ty where
  | int | bool | str | list | tuple | dict
  deriving DecidableEq
inductive Bi where
  | len | all | any | tuple | list | sorted | int | abs
  deriving DecidableEq
inductive Me where
  | append | extend | pop | count | index | get
  deriving DecidableEq

mutual
inductive XE where
  | nev
  | var (i : Nat) (x : PySem.Str)
  | cI (i : Int) | cS (s : PySem.Str) | cB (b : Bool) | cN
  | glo (k : Nat) (x : PySem.Str)
  | bin (op : Operator) (a b : XE)
  | neg (a : XE)
  | cmp (op : CmpOp) (a b : XE)
  | chn (o1 o2 : CmpOp) (a b c : XE)
  | lg (o : BoolOp) (es : XEs)
  | nt (a : XE)
  | ite (t : XT) (a b : XE)
  | sub (a i : XE)
  | slc (a : XE) (lo hi : XO)
  | tup (es : XEs) | lst (es : XEs)
  | dct (kvs : XEs)
  | lc (own : List Nat) (elt : XE) (g : XG) (it : XI) (tt : XTs)
  | dc (own : List Nat) (key val : XE) (g : XG) (it : XI) (tt : XTs)
  | call (k : Nat) (x : PySem.Str) (es : XEs)
  | isi (a : XE) (one : Bool) (ts : List Ty)
  | bi (b : Bi) (es : XEs)
  | met (m : Me) (o : XE) (es : XEs)
  deriving DecidableEq
inductive XEs where
  | nil
  | cons (star : Bool) (e : XE) (r : XEs)
  deriving DecidableEq
inductive XT where
  | va (e : XE)
  | lg (o : BoolOp) (ts : XTs)
  | nt (t : XT)
  deriving DecidableEq
inductive XTs where
  | nil
  | cons (t : XT) (r : XTs)
  deriving DecidableEq
inductive XI where
  | ex (e : XE)
  | rng (es : XEs)
  | enu (e : XE)
  | zip (a b : XE)
  deriving DecidableEq
inductive XO where
  | no
  | so (e : XE)
  deriving DecidableEq
inductive XG where
  | nm (i : Nat) (x : PySem.Str)
  | tp (gs : XGs)
  | sb (o i : XE)
  deriving DecidableEq
inductive XGs where
  | nil
  | cons (g : XG) (r : XGs)
  deriving DecidableEq
end
mutual
inductive XS where
  | nev
  | ex (e : XE)
  | ret (e : XE) | retN
  | asg (g : XG) (e : XE)
  | par (is : List (Nat × PySem.Str)) (es : XEs)
  | ifs (t : XT) (a b : XSs)
  | whl (t : XT) (b : XSs)
  | for_ (g : XG) (it : XI) (b : XSs)
  | brk | cnt | pass
  deriving DecidableEq
inductive XSs where
  | nil
  | cons (s : XS) (r : XSs)
  deriving DecidableEq
end

abbrev Sg := List (Option EV)
def sget : Sg → Nat → Option EV
  | [], _ => none
  | x :: _, 0 => x
  | _ :: r, i + 1 => sget r i
def sset : Sg → Nat → Option EV → Sg
  | [], _, _ => []
  | _ :: r, 0, v => v :: r
  | x :: r, i + 1, v => x :: sset r i v
def swipe (σ : Sg) : List Nat → Sg
  | [] => σ
  | i :: r => sset (swipe σ r) i none

/-! ### what is walked -/
inductive IT where
  | tup (xs : List EV)
  | lst (n i : Nat)
  | rng (lo : Int) (m : Nat)
  | key (n : Nat) (ks : List EV)
  | enu (i : Nat) (j : IT)
  | zp (a b : IT)
def IT.step (h : EH) : IT → Option (Option (EV × IT))
  | .tup [] => some none
  | .tup (x :: r) => some (some (x, .tup r))
  | .lst n i => match h.get n with
    | some (.lst xs _) => match xs[i]? with
      | some x => fN (i + 1) fun j => some (some (x, .lst n j))
      | none => some none
    | _ => none
  | .rng _ 0 => some none
  | .rng lo (m + 1) => fI (lo + 1) fun l => some (some (.int lo, .rng l m))
  | .key _ [] => some none
  | .key n (k :: r) => some (some (k, .key n r))
  | .enu i j => match j.step h with
    | some (some (v, j')) => fN (i + 1) fun k => some (some (.tup [.int i, v], .enu k j'))
    | some none => some none
    | none => none
  | .zp a b => match a.step h with
    | some (some (v, a')) => match b.step h with
      | some (some (w, b')) => some (some (.tup [v, w], .zp a' b'))
      | some none => some none
      | none => none
    | some none => match b.step h with
      | none => none
      | some _ => some none
    | none => none
/-- the start of a walk over a value; a dict is locked from then on -/
def itOf (v : EV) (h : EH) : R IT := match v with
  | .tup xs => .ok (.tup xs) h
  | .ref n => match h.get n with
    | some (.lst _ _) => .ok (.lst n 0) h
    | some (.dct kvs lk) => match lk with
      | true => .ok (.key n (kvs.map Prod.fst)) h
      | false => .ok (.key n (kvs.map Prod.fst)) (h.put n (.dct kvs true))
    | none => .bad
  | _ => .bad
inductive Fl where
  | nx (σ : Sg) | bk (σ : Sg) | ct (σ : Sg) | rt (v : EV)

/-! ### loops -/
/-- no error is looked for within a comprehension -/
def noX {α : Type} : R α → R α
  | .ok a h => .ok a h
  | .ex _ _ _ => .bad
  | .bad => .bad
def lcL (tgt : EV → Sg → EH → R Sg) (tt : Sg → EH → R Bool) (elt : Sg → EH → R EV) (σ : Sg) : Nat → IT → List EV → EH → R (List EV)
  | 0, _, _, _ => .bad
  | f + 1, it, acc, h => match it.step h with
    | none => .bad
    | some none => .ok acc.reverse h
    | some (some (v, it')) => (noX (tgt v σ h)).bind fun σ2 h => (noX (tt σ2 h)).bind fun b h => match b with
      | true => (noX (elt σ2 h)).bind fun y h => lcL tgt tt elt σ f it' (y :: acc) h
      | false => lcL tgt tt elt σ f it' acc h
def dcL (tgt : EV → Sg → EH → R Sg) (tt : Sg → EH → R Bool) (key val : Sg → EH → R EV) (σ : Sg) : Nat → IT → List (EV × EV) → EH → R (List (EV × EV))
  | 0, _, _, _ => .bad
  | f + 1, it, acc, h => match it.step h with
    | none => .bad
    | some none => .ok acc h
    | some (some (v, it')) => (noX (tgt v σ h)).bind fun σ2 h => (noX (tt σ2 h)).bind fun b h => match b with
      | true => (noX (key σ2 h)).bind fun k h => (noX (val σ2 h)).bind fun y h => match kT k with
        | true => dcL tgt tt key val σ f it' (dput acc k y) h
        | false => .bad
      | false => dcL tgt tt key val σ f it' acc h
def forL (tgt : EV → Sg → EH → R Sg) (body : Sg → EH → R Fl) : Nat → IT → Sg → EH → R Fl
  | 0, _, _, _ => .bad
  | f + 1, it, σ, h => match it.step h with
    | none => .bad
    | some none => .ok (.nx σ) h
    | some (some (v, it')) => (tgt v σ h).bind fun σ2 h => (body σ2 h).bind fun fl h => match fl with
      | .nx σ3 => forL tgt body f it' σ3 h
      | .ct σ3 => forL tgt body f it' σ3 h
      | .bk σ3 => .ok (.nx σ3) h
      | .rt v => .ok (.rt v) h
def whlL (t : Sg → EH → R Bool) (body : Sg → EH → R Fl) : Nat → Sg → EH → R Fl
  | 0, _, _ => .bad
  | f + 1, σ, h => (t σ h).bind fun b h => match b with
    | false => .ok (.nx σ) h
    | true => (body σ h).bind fun fl h => match fl with
      | .nx σ3 => whlL t body f σ3 h
      | .ct σ3 => whlL t body f σ3 h
      | .bk σ3 => .ok (.nx σ3) h
      | .rt v => .ok (.rt v) h

/-! ### built-ins -/
def tyOf (h : EH) : EV → Option (Ty × Bool)
  | .bl _ => some (.bool, true)
  | .int _ => some (.int, true)
  | .str _ => some (.str, true)
  | .tup _ => some (.tuple, true)
  | .ref n => match h.get n with
    | some (.lst _ _) => some (.list, true)
    | some (.dct _ _) => some (.dict, true)
    | none => none
  | .non => some (.int, false)
  | .fn _ => none
  | .kl _ => none
/-- whether a value is one of some types (a bool is an int) -/
def isiE (h : EH) (v : EV) (ts : List Ty) : Option Bool := match tyOf h v with
  | some (t, true) => some (ts.any fun u => match t with
    | .bool => decide (u = .bool) || decide (u = .int)
    | _ => decide (u = t))
  | some (_, false) => some false
  | none => none
def itemsD (h : EH) : EV → Option (List EV)
  | .tup xs => some xs
  | .ref n => match h.get n with
    | some (.lst xs _) => some xs
    | some (.dct kvs _) => some (kvs.map Prod.fst)
    | none => none
  | _ => none
/-- the items of a list, the keys of a dict -/
def keysD (h : EH) : EV → Option (List EV)
  | .ref n => match h.get n with
    | some (.lst xs _) => some xs
    | some (.dct kvs _) => some (kvs.map Prod.fst)
    | none => none
  | _ => none
def bls : List EV → Option (List Bool)
  | [] => some []
  | .bl b :: r => match bls r with
    | some bs => some (b :: bs)
    | none => none
  | _ :: _ => none
def absI : Int → Int
  | .ofNat n => .ofNat n
  | .negSucc n => .ofNat (n + 1)
def listAt (h : EH) : EV → Option (List EV)
  | .ref n => match h.get n with
    | some (.lst xs _) => some xs
    | _ => none
  | _ => none
def biE (b : Bi) (vs : List EV) (h : EH) : R EV := match b with
  | .len => match vs with
    | [.str s] => match sz s.cps.size with
      | true => retI s.cps.size h
      | false => .bad
    | [v] => match itemsD h v with
      | some xs => retI xs.length h
      | none => .bad
    | _ => .bad
  | .all => match vs with
    | [v] => match listAt h v with
      | some xs => match bls xs with
        | some bs => retB (bs.all id) h
        | none => .bad
      | none => .bad
    | _ => .bad
  | .any => match vs with
    | [v] => match listAt h v with
      | some xs => match bls xs with
        | some bs => retB (bs.any id) h
        | none => .bad
      | none => .bad
    | _ => .bad
  | .tuple => match vs with
    | [v] => match items h v with
      | some xs => .ok (.tup xs) h
      | none => .bad
    | _ => .bad
  | .list => match vs with
    | [v] => match items h v with
      | some xs => mkC (.lst xs false) h
      | none => .bad
    | _ => .bad
  | .sorted => match vs with
    | [v] => match keysD h v with
      | some xs => match sortE h xs with
        | some ys => mkC (.lst ys false) h
        | none => .bad
      | none => .bad
    | _ => .bad
  | .int => match vs with
    | [.int i] => retI i h
    | _ => .bad
  | .abs => match vs with
    | [.int i] => retI (absI i) h
    | _ => .bad
/-- the kinds of values that have methods -/
inductive Kd where
  | lst | dct | str
  deriving DecidableEq
def knd (h : EH) : EV → Option Kd
  | .str _ => some .str
  | .ref n => match h.get n with
    | some (.lst _ _) => some .lst
    | some (.dct _ _) => some .dct
    | none => none
  | _ => none
/-- which kind has which methods -/
def mtOk : Kd → Me → Bool
  | .lst, .get => false
  | .lst, _ => true
  | .dct, .get => true
  | _, _ => false
/-- the data of a list and of a thing that is looked for in it -/
def seek (h : EH) (xs : List EV) (v : EV) : Option (List PyData × PyData) := match rd 20 h v with
  | some d => match mapO (rd 19 h) xs with
    | some ds => match SeqAt.shaped d with
      | true => match SeqAt.shaped (.list ds) with
        | true => some (ds, d)
        | false => none
      | false => none
    | none => none
  | none => none
def lstM (m : Me) (n : Nat) (xs : List EV) (lk : Bool) (vs : List EV) (h : EH) : R EV := match m with
  | .append => match lk with
    | false => match vs with
      | [v] => match sz (xs.length + 1) with
        | true => .ok .non (h.put n (.lst (xs ++ [v]) false))
        | false => .bad
      | _ => .bad
    | true => .bad
  | .extend => match lk with
    | false => match vs with
      | [.ref m] => match h.get m with
        | some (.lst ys false) => match sz (xs ++ ys).length with
          | true => .ok .non (h.put n (.lst (xs ++ ys) false))
          | false => .bad
        | _ => .bad
      | _ => .bad
    | true => .bad
  | .pop => match lk with
    | false => match vs with
      | [] => match xs[xs.length - 1]? with
        | some v => .ok v (h.put n (.lst xs.dropLast false))
        | none => .bad
      | [.int i] => match ixE xs.length i with
        | some k => match xs[k]? with
          | some v => .ok v (h.put n (.lst (xs.eraseIdx k) false))
          | none => .bad
        | none => .bad
      | _ => .bad
    | true => .bad
  | .count => match vs with
    | [v] => match seek h xs v with
      | some (ds, d) => retI (ds.countP fun z => PyData.eqv z d) h
      | none => .bad
    | _ => .bad
  | .index => match vs with
    | [v] => match seek h xs v with
      | some (ds, d) => match ds.findIdx? fun z => PyData.eqv z d with
        | some i => retI i h
        | none => .bad
      | none => .bad
    | _ => .bad
  | _ => .bad
def dctM (m : Me) (n : Nat) (kvs : List (EV × EV)) (lk : Bool) (vs : List EV) (h : EH) : R EV := match m with
  | .get => match vs with
    | [k, x] => match kT k with
      | true => .ok ((dget kvs k).getD x) h
      | false => .bad
    | _ => .bad
  | _ => .bad
def metE (T : Kd) (m : Me) (o : EV) (vs : List EV) (h : EH) : R EV := match o with
  | .ref n => match h.get n with
    | some (.lst xs lk) => match T with
      | .lst => lstM m n xs lk vs h
      | _ => .bad
    | some (.dct kvs lk) => match T with
      | .dct => dctM m n kvs lk vs h
      | _ => .bad
    | none => .bad
  | _ => .bad

/-! ### the machine -/
def pairUp : List EV → Option (List (EV × EV))
  | [] => some []
  | [_] => none
  | k :: v :: r => match kT k with
    | true => (pairUp r).map ((k, v) :: ·)
    | false => none
def dputs : List (EV × EV) → List (EV × EV) → List (EV × EV)
  | acc, [] => acc
  | acc, (k, v) :: r => dputs (dput acc k v) r
def setTup (n : Nat) : EV → Option (List EV)
  | .tup xs => match Nat.beq xs.length n with
    | true => some xs
    | false => none
  | _ => none
def XGs.len : XGs → Nat
  | .nil => 0
  | .cons _ r => r.len + 1

def lim62 (i : Int) : Bool := match i with
  | .ofNat n => Nat.blt n 4611686018427387904
  | .negSucc n => Nat.blt n 4611686018427387903
def zOf (v : EV) (h : EH) : Option IT := match v with
  | .ref n => match h.get n with
    | some (.lst _ _) => some (.lst n 0)
    | _ => none
  | _ => none
def rngE (vs : List EV) (h : EH) : R IT := match vs with
  | [.int j] => match lim62 j with
    | true => fN j.toNat fun n => .ok (.rng 0 n) h
    | false => .bad
  | [.int i, .int j] => match lim62 i with
    | true => match lim62 j with
      | true => fN (j - i).toNat fun n => .ok (.rng i n) h
      | false => .bad
    | false => .bad
  | _ => .bad
def enuE (v : EV) (h : EH) : R IT := match zOf v h with
  | some j => .ok (.enu 0 j) h
  | none => .bad
def zipE (x y : EV) (h : EH) : R IT := match x with
  | .tup xs => match y with
    | .tup ys => .ok (.zp (.tup xs) (.tup ys)) h
    | _ => .bad
  | _ => match zOf x h with
    | some i => match zOf y h with
      | some j => .ok (.zp i j) h
      | none => .bad
    | none => .bad
def slcE (x : EV) (l u : Option Int) (h : EH) : R EV := match x with
  | .tup xs => match Nat.beq (cutE xs l u).length xs.length with
    | true => .bad
    | false => .ok (.tup (cutE xs l u)) h
  | .ref n => match h.get n with
    | some (.lst xs _) => mkC (.lst (cutE xs l u) false) h
    | _ => .bad
  | _ => .bad
def negE (x : EV) (h : EH) : R EV := match x with
  | .int i => retI (-i) h
  | _ => .bad
def truE (v : EV) (h : EH) : R Bool := match tru h v with
  | some b => .ok b h
  | none => .bad
def isiR (x : EV) (ts : List Ty) (h : EH) : R EV := match isiE h x ts with
  | some b => retB b h
  | none => .bad
def tupE (vs : List EV) (h : EH) : R EV := match sz vs.length with
  | true => .ok (.tup vs) h
  | false => .bad
def lstE (vs : List EV) (h : EH) : R EV := match sz vs.length with
  | true => mkC (.lst vs false) h
  | false => .bad
def dctE (vs : List EV) (h : EH) : R EV := match pairUp vs with
  | some ps => match Nat.ble ps.length 15 with
    | true => mkC (.dct (dputs [] ps) false) h
    | false => .bad
  | none => .bad
def dcE (kvs : List (EV × EV)) (h : EH) : R EV := match sz kvs.length with
  | true => mkC (.dct kvs false) h
  | false => .bad
def intO (v : EV) (h : EH) : R (Option Int) := match v with
  | .int i => .ok (some i) h
  | _ => .bad

abbrev M (α : Type) := Sg → EH → R α
/-! ### the code's meaning, piece by piece -/
def mBad {α : Type} : M α := fun _ _ => .bad
def mVar (i : Nat) : M EV := fun σ h => match sget σ i with
  | some v => .ok v h
  | none => .bad
def mC {α : Type} (v : α) : M α := fun _ h => .ok v h
def mOpt (o : Option EV) : M EV := fun _ h => match o with
  | some v => .ok v h
  | none => .bad
def mBin (op : Operator) (a b : M EV) : M EV := fun σ h => (a σ h).bind fun x h => (b σ h).bind fun y h => binE op x y h
def mThen {α β : Type} (a : M α) (f : α → EH → R β) : M β := fun σ h => (a σ h).bind f
def mCmp (op : CmpOp) (a b : M EV) : M EV := fun σ h => (a σ h).bind fun x h => (b σ h).bind fun y h => cmpE op x y h
def mChn (o1 o2 : CmpOp) (a b c : M EV) : M EV := fun σ h => (a σ h).bind fun x h => (b σ h).bind fun y h => (cmpE o1 x y h).bind fun r h => match r with
  | .bl true => (c σ h).bind fun z h => cmpE o2 y z h
  | .bl false => .ok r h
  | _ => .bad
def mNt (a : M EV) : M EV := fun σ h => (a σ h).bind fun v h => (truE v h).bind fun b h => .ok (.bl (!b)) h
def mNot (a : M Bool) : M Bool := fun σ h => (a σ h).bind fun b h => .ok (!b) h
def mIte {α : Type} (t : M Bool) (a b : M α) : M α := fun σ h => (t σ h).bind fun c h => match c with
  | true => a σ h
  | false => b σ h
def mSub (a i : M EV) : M EV := fun σ h => (a σ h).bind fun x h => (i σ h).bind fun y h => getE x y h
def mSlc (a : M EV) (lo hi : M (Option Int)) : M EV := fun σ h => (a σ h).bind fun x h => (lo σ h).bind fun l h => (hi σ h).bind fun u h => slcE x l u h
def mLc (F : Nat) (own : List Nat) (elt : M EV) (g : EV → M Sg) (it : M IT) (tt : M Bool) : M EV := fun σ h =>
  (it σ h).bind fun j h => (lcL g tt elt (swipe σ own) F j [] h).bind lstE
def mDc (F : Nat) (own : List Nat) (key val : M EV) (g : EV → M Sg) (it : M IT) (tt : M Bool) : M EV := fun σ h =>
  (it σ h).bind fun j h => (dcL g tt key val (swipe σ own) F j [] h).bind dcE
def mCall (C : Nat → List EV → EH → R EV) (k : Nat) (es : M (List EV)) : M EV := fun σ h => (es σ h).bind fun vs h => C k vs h
def mMet (m : Me) (o : M EV) (es : M (List EV)) : M EV := fun σ h => (o σ h).bind fun x h => match knd h x with
  | some T => match mtOk T m with
    | true => (es σ h).bind fun vs h => metE T m x vs h
    | false => .bad
  | none => .bad
def mAndV (e : M EV) (r : M EV) : M EV := fun σ h => (e σ h).bind fun v h => (truE v h).bind fun b h => match b with
  | true => r σ h
  | false => .ok v h
def mOrV (e : M EV) (r : M EV) : M EV := fun σ h => (e σ h).bind fun v h => (truE v h).bind fun b h => match b with
  | true => .ok v h
  | false => r σ h
def mAnd (e r : M Bool) : M Bool := fun σ h => (e σ h).bind fun b h => match b with
  | true => r σ h
  | false => .ok false h
def mOr (e r : M Bool) : M Bool := fun σ h => (e σ h).bind fun b h => match b with
  | true => .ok true h
  | false => r σ h
def mCons (e : M EV) (r : M (List EV)) : M (List EV) := fun σ h => (e σ h).bind fun v h => (r σ h).bind fun vs h => .ok (v :: vs) h
def mStar (e : M EV) (r : M (List EV)) : M (List EV) := fun σ h => (e σ h).bind fun v h => match items h v with
  | some xs => (r σ h).bind fun vs h => .ok (xs ++ vs) h
  | none => .bad
def mZip (a b : M EV) : M IT := fun σ h => (a σ h).bind fun x h => (b σ h).bind fun y h => zipE x y h
def gNm (i : Nat) (v : EV) : M Sg := fun σ h => .ok (sset σ i (some v)) h
def gTp (n : Nat) (gs : List EV → M Sg) (v : EV) : M Sg := fun σ h => match setTup n v with
  | some vs => gs vs σ h
  | none => .bad
def gSb (o i : M EV) (v : EV) : M Sg := fun σ h => (o σ h).bind fun x h => (i σ h).bind fun y h => (setE x y v h).bind fun _ h => .ok σ h
def gNil (vs : List EV) : M Sg := fun σ h => match vs with
  | [] => .ok σ h
  | _ :: _ => .bad
def gCons (g : EV → M Sg) (r : List EV → M Sg) (vs : List EV) : M Sg := fun σ h => match vs with
  | [] => .bad
  | v :: vs => (g v σ h).bind fun σ h => r vs σ h
def psets : List Nat → List EV → Sg → Option Sg
  | [], [], σ => some σ
  | i :: r, v :: vs, σ => psets r vs (sset σ i (some v))
  | _, _, _ => none
def sNx : M Fl := fun σ h => .ok (.nx σ) h
def sBk : M Fl := fun σ h => .ok (.bk σ) h
def sCt : M Fl := fun σ h => .ok (.ct σ) h
def sEx (e : M EV) : M Fl := fun σ h => (e σ h).bind fun _ h => .ok (.nx σ) h
def sRet (e : M EV) : M Fl := fun σ h => (e σ h).bind fun v h => .ok (.rt v) h
def sAsg (g : EV → M Sg) (e : M EV) : M Fl := fun σ h => (e σ h).bind fun v h => (g v σ h).bind fun σ h => .ok (.nx σ) h
def sPar (is : List Nat) (es : M (List EV)) : M Fl := fun σ h => (es σ h).bind fun vs h => match psets is vs σ with
  | some σ => .ok (.nx σ) h
  | none => .bad
def sWhl (F : Nat) (t : M Bool) (b : M Fl) : M Fl := fun σ h => whlL t b F σ h
def sFor (F : Nat) (g : EV → M Sg) (it : M IT) (b : M Fl) : M Fl := fun σ h => (it σ h).bind fun j h => forL g b F j σ h
def sSeq (s r : M Fl) : M Fl := fun σ h => (s σ h).bind fun fl h => match fl with
  | .nx σ => r σ h
  | .bk σ => .ok (.bk σ) h
  | .ct σ => .ok (.ct σ) h
  | .rt v => .ok (.rt v) h

section
variable (K : Nat → Option EV) (C : Nat → List EV → EH → R EV) (F : Nat)
mutual
def ev : XE → M EV
  | .nev => mBad
  | .var i _ => mVar i
  | .cI i => mC (.int i)
  | .cS s => mC (.str s)
  | .cB b => mC (.bl b)
  | .cN => mC .non
  | .glo k _ => mOpt (K k)
  | .bin op a b => mBin op (ev a) (ev b)
  | .neg a => mThen (ev a) negE
  | .cmp op a b => mCmp op (ev a) (ev b)
  | .chn o1 o2 a b c => mChn o1 o2 (ev a) (ev b) (ev c)
  | .lg o es => elg o es
  | .nt a => mNt (ev a)
  | .ite t a b => mIte (et t) (ev a) (ev b)
  | .sub a i => mSub (ev a) (ev i)
  | .slc a lo hi => mSlc (ev a) (eo lo) (eo hi)
  | .tup es => mThen (evs es) tupE
  | .lst es => mThen (evs es) lstE
  | .dct kvs => mThen (evs kvs) dctE
  | .lc own elt g it tt => mLc F own (ev elt) (eg g) (eit it) (ets tt)
  | .dc own key val g it tt => mDc F own (ev key) (ev val) (eg g) (eit it) (ets tt)
  | .call k _ es => mCall C k (evs es)
  | .isi a _ ts => mThen (ev a) fun x h => isiR x ts h
  | .bi b es => mThen (evs es) (biE b)
  | .met m o es => mMet m (ev o) (evs es)
/-- as a test -/
def et : XT → M Bool
  | .va e => mThen (ev e) truE
  | .lg o ts => etl o ts
  | .nt t => mNot (et t)
/-- and, or as values -/
def elg : BoolOp → XEs → M EV
  | _, .nil => mBad
  | o, .cons _ e r => match r with
    | .nil => ev e
    | .cons _ _ _ => match o with
        | .And => mAndV (ev e) (elg .And r)
        | .Or => mOrV (ev e) (elg .Or r)
/-- .. as tests -/
def etl : BoolOp → XTs → M Bool
  | o, .nil => match o with
    | .And => mC true
    | .Or => mC false
  | o, .cons e r => match o with
    | .And => mAnd (et e) (etl .And r)
    | .Or => mOr (et e) (etl .Or r)
/-- a clause's tests: all -/
def ets : XTs → M Bool
  | .nil => mC true
  | .cons e r => mAnd (et e) (ets r)
/-- a slice's end: an int, or left out -/
def eo : XO → M (Option Int)
  | .no => mC none
  | .so e => mThen (ev e) intO
/-- items, with stars -/
def evs : XEs → M (List EV)
  | .nil => mC []
  | .cons st e r => match st with
    | false => mCons (ev e) (evs r)
    | true => mStar (ev e) (evs r)
/-- what is walked -/
def eit : XI → M IT
  | .ex e => mThen (ev e) itOf
  | .rng es => mThen (evs es) rngE
  | .enu e => mThen (ev e) enuE
  | .zip a b => mZip (ev a) (ev b)
/-- a target -/
def eg : XG → EV → M Sg
  | .nm i _ => gNm i
  | .tp gs => gTp gs.len (egs gs)
  | .sb o i => gSb (ev o) (ev i)
def egs : XGs → List EV → M Sg
  | .nil => gNil
  | .cons g r => gCons (eg g) (egs r)
end
mutual
def ex : XS → M Fl
  | .nev => mBad
  | .ex e => sEx (ev K C F e)
  | .ret e => sRet (ev K C F e)
  | .retN => mC (.rt .non)
  | .asg g e => sAsg (eg K C F g) (ev K C F e)
  | .par is es => sPar (is.map Prod.fst) (evs K C F es)
  | .ifs t a b => mIte (et K C F t) (exs a) (exs b)
  | .whl t b => sWhl F (et K C F t) (exs b)
  | .for_ g it b => sFor F (eg K C F g) (eit K C F it) (exs b)
  | .brk => sBk
  | .cnt => sCt
  | .pass => sNx
def exs : XSs → M Fl
  | .nil => sNx
  | .cons s r => sSeq (ex s) (exs r)
end
end
/-- one def -/
structure FD where
  name : PySem.Str
  ps : List PySem.Str
  N : List PySem.Str
  code : XSs
structure TB where
  fns : List FD
  cst : List EV
def fnAt : List FD → Nat → Option FD
  | [], _ => none
  | x :: _, 0 => some x
  | _ :: r, i + 1 => fnAt r i
def cstAt : List EV → Nat → Option EV
  | [], _ => none
  | x :: _, 0 => some x
  | _ :: r, i + 1 => cstAt r i
/-- the parameters' values, then nothing -/
def sgOf : Nat → List EV → Sg
  | 0, _ => []
  | n + 1, [] => none :: sgOf n []
  | n + 1, v :: vs => some v :: sgOf n vs
def retFl : Fl → EH → R EV
  | .rt v, h => .ok v h
  | .nx _, h => .ok .non h
  | _, _ => .bad
def ecall (T : TB) (F : Nat) : Nat → Nat → List EV → EH → R EV
  | 0, _, _, _ => .bad
  | d + 1, k, vs, h => match fnAt T.fns k with
    | some fd => match Nat.beq vs.length fd.ps.length with
      | true => (exs (cstAt T.cst) (fun k vs h => ecall T F d k vs h) F fd.code (sgOf fd.N.length vs) h).bind retFl
      | false => .bad
    | none => .bad
/-- the same in closed form -/
structure SD where
  np : Nat
  nN : Nat
  code : Nat → (Nat → List EV → EH → R EV) → M Fl
def sdAt : List SD → Nat → Option SD
  | [], _ => none
  | x :: _, 0 => some x
  | _ :: r, i + 1 => sdAt r i
def scall (S : List SD) (F : Nat) : Nat → Nat → List EV → EH → R EV
  | 0, _, _, _ => .bad
  | d + 1, k, vs, h => match sdAt S k with
    | some sd => match Nat.beq vs.length sd.np with
      | true => (sd.code F (fun k vs h => scall S F d k vs h) (sgOf sd.nN vs) h).bind retFl
      | false => .bad
    | none => .bad
end EM
end
section
set_option Elab.async false
set_option linter.all false
set_option maxRecDepth 100000
/-! E2: what the E-machine's state is in the layer's abstract heap. -/
namespace EM
open PySem PySem.Spec PyProof.Rows L2

/-! ### the tree of cells -/
theorem tr_same (c : CL) : ∀ (f n : Nat) (t : Tr), n + 1 < 2 ^ f → Tr.get f (Tr.put f t n c) n = some c
  | 0, n, t, h => by simp at h
  | f + 1, 0, .lf, _ => rfl
  | f + 1, 0, .nd l v r, _ => rfl
  | f + 1, m + 1, .lf, h => by
    have hb : m / 2 + 1 < 2 ^ f := by rw [Nat.pow_succ] at h; omega
    rcases Nat.mod_two_eq_zero_or_one m with e | e
    · simp only [Tr.put, e, Tr.get]; exact tr_same c f (m / 2) .lf hb
    · simp only [Tr.put, e, Tr.get]; exact tr_same c f (m / 2) .lf hb
  | f + 1, m + 1, .nd l v r, h => by
    have hb : m / 2 + 1 < 2 ^ f := by rw [Nat.pow_succ] at h; omega
    rcases Nat.mod_two_eq_zero_or_one m with e | e
    · simp only [Tr.put, e, Tr.get]; exact tr_same c f (m / 2) l hb
    · simp only [Tr.put, e, Tr.get]; exact tr_same c f (m / 2) r hb
theorem tr_lf (f n : Nat) : Tr.get f .lf n = none := by cases f <;> rfl
theorem tr_ne (c : CL) : ∀ (f n m : Nat) (t : Tr), n ≠ m → Tr.get f (Tr.put f t n c) m = Tr.get f t m
  | 0, n, m, t, h => rfl
  | f + 1, 0, 0, t, h => absurd rfl h
  | f + 1, 0, m + 1, .lf, h => by
    simp only [Tr.put, Tr.get]
    rcases Nat.mod_two_eq_zero_or_one m with e | e <;> simp only [e, tr_lf]
  | f + 1, 0, m + 1, .nd l v r, h => rfl
  | f + 1, n + 1, 0, .lf, h => by
    rcases Nat.mod_two_eq_zero_or_one n with e | e <;> simp only [Tr.put, e, Tr.get]
  | f + 1, n + 1, 0, .nd l v r, h => by
    rcases Nat.mod_two_eq_zero_or_one n with e | e <;> simp only [Tr.put, e, Tr.get]
  | f + 1, n + 1, m + 1, .lf, h => by
    have hnm : n ≠ m := fun e => h (by rw [e])
    rcases Nat.mod_two_eq_zero_or_one n with e | e <;> rcases Nat.mod_two_eq_zero_or_one m with e' | e'
    · simp only [Tr.put, e, Tr.get, e']
      rw [tr_ne c f (n / 2) (m / 2) .lf (by omega), tr_lf]
    · simp only [Tr.put, e, Tr.get, e', tr_lf]
    · simp only [Tr.put, e, Tr.get, e', tr_lf]
    · simp only [Tr.put, e, Tr.get, e']
      rw [tr_ne c f (n / 2) (m / 2) .lf (by omega), tr_lf]
  | f + 1, n + 1, m + 1, .nd l v r, h => by
    have hnm : n ≠ m := fun e => h (by rw [e])
    rcases Nat.mod_two_eq_zero_or_one n with e | e <;> rcases Nat.mod_two_eq_zero_or_one m with e' | e'
    · simp only [Tr.put, e, Tr.get, e']
      exact tr_ne c f (n / 2) (m / 2) l (by omega)
    · simp only [Tr.put, e, Tr.get, e']
    · simp only [Tr.put, e, Tr.get, e']
    · simp only [Tr.put, e, Tr.get, e']
      exact tr_ne c f (n / 2) (m / 2) r (by omega)

theorem EH.get_lt {h : EH} {i : Nat} {c : CL} (e : h.get i = some c) : i < h.n := by
  unfold EH.get at e
  cases q : Nat.blt i h.n with
  | true => simp only [Nat.blt, Nat.ble_eq] at q; omega
  | false => rw [q] at e; cases e
theorem EH.get_of {h : EH} {i : Nat} (l : i < h.n) : h.get i = h.t.get 40 i := by
  unfold EH.get
  have q : Nat.blt i h.n = true := by simp only [Nat.blt, Nat.ble_eq]; omega
  rw [q]
theorem EH.get_put_same {h : EH} {i : Nat} {c : CL} (l : i < h.n) (hb : h.n ≤ 1000000000) : (h.put i c).get i = some c := by
  rw [EH.get_of (show i < (h.put i c).n from l)]
  exact tr_same c 40 i h.t (by omega)
theorem EH.get_put_ne {h : EH} {i j : Nat} {c : CL} (l : j ≠ i) : (h.put i c).get j = h.get j := by
  unfold EH.get
  show (match Nat.blt j h.n with | true => Tr.get 40 (Tr.put 40 h.t i c) j | false => none) = _
  rw [tr_ne c 40 i j h.t (Ne.symm l)] <;> rfl
def EH.push (h : EH) (c : CL) : EH := ⟨h.n + 1, h.t.put 40 h.n c⟩
theorem EH.get_push_same {h : EH} {c : CL} (hb : h.n < 1000000000) : (h.push c).get h.n = some c := by
  rw [EH.get_of (show h.n < (h.push c).n from Nat.lt_succ_self _)]
  exact tr_same c 40 h.n h.t (by omega)
theorem EH.get_push_lt {h : EH} {j : Nat} {c : CL} (l : j < h.n) : (h.push c).get j = h.get j := by
  rw [EH.get_of (show j < (h.push c).n from Nat.lt_succ_of_lt l), EH.get_of l]
  exact tr_ne c 40 h.n j h.t (by omega)
theorem EH.put_n {h : EH} {i : Nat} {c : CL} : (h.put i c).n = h.n := rfl
theorem EH.push_n {h : EH} {c : CL} : (h.push c).n = h.n + 1 := rfl
theorem mk_eq {c : CL} {h : EH} : mkC c h = if h.n < 1000000000 then .ok (.ref h.n) (h.push c) else .bad := by
  unfold mkC
  by_cases q : h.n < 1000000000
  · have e : EH.room h = true := by simp only [EH.room, Nat.blt, Nat.ble_eq]; omega
    rw [e, if_pos q]
    exact fN_eq _ _
  · have e : EH.room h = false := by
      cases r : EH.room h with
      | false => rfl
      | true => exact absurd (by simp only [EH.room, Nat.blt, Nat.ble_eq] at r; omega) q
    rw [e, if_neg q]

/-! ### representation -/
/-- what is fixed: the program, its written part, where defs stand; error classes and their field -/
structure Da where
  P : Program
  w : World
  K : PySem.W.Frag
  FA : Nat → Addr
  CA : Nat → Option (Addr × Option PySem.Str)
abbrev Ro := Nat → Addr

/-- keys as the library has them -/
def nk : EV → NestedKey
  | .int i => .num i
  | .str s => .text s
  | .tup xs => .tup (xs.map nk)
  | _ => .none

/-- a list that never changes -/
def KL (K : PySem.W.Frag) (H : Hp) (a : Addr) (xs : List V) : Prop := (∃ o, H a = some (.frz o (.lst xs))) ∨
  ∃ (o : Obj) (its : Array Value) (n : Nat), K.lookup a = some o ∧ o.cls = .type "list" ∧ o.dict = none ∧ o.data = .seq its n ∧ its.size ≤ sizeLine ∧ Vals xs its.toList
theorem KL.sq {K : PySem.W.Frag} {H : Hp} {a : Addr} {xs : List V} (h : KL K H a xs) : SqL K H a xs := by
  rcases h with h | h
  · exact .inl (.inr h)
  · exact .inr h
section
variable (D : Da) (ρ : Ro) (n : Nat) (H : Hp)
mutual
inductive RV : EV → V → Prop
  | non : RV .non .non
  | bl (b : Bool) : RV (.bl b) (.bl b)
  | int (i : Int) : RV (.int i) (.int i)
  | str (s : PySem.Str) : RV (.str s) (.str s)
  | tup {xs : List EV} {a : Addr} {vs : List V} : SqT D.K H a vs → RVs xs vs → RV (.tup xs) (.ref a)
  | ref {i : Nat} : i < n → RV (.ref i) (.ref (ρ i))
  | fn {k : Nat} : RV (.fn k) (.ref (D.FA k))
  | kl {xs : List EV} {a : Addr} {vs : List V} : KL D.K H a vs → RVs xs vs → RV (.kl xs) (.ref a)
inductive RVs : List EV → List V → Prop
  | nil : RVs [] []
  | cons {x : EV} {xs : List EV} {v : V} {vs : List V} : RV x v → RVs xs vs → RVs (x :: xs) (v :: vs)
end
end
/-- a dict's entries: keys are tuples -/
def dO (D : Da) (a : Addr) (xs : List (NestedKey × Addr × Value)) : HO :=
  .ext fun h => ∃ o es ep, h.get? a = some o ∧ o.ExactDict ∧ o.data = .dict es ep ∧ es.toList = xs.map (entryOfKey (nestedKind D.P D.w))
inductive RKs (D : Da) (ρ : Ro) (n : Nat) (H : Hp) : List (EV × EV) → List (NestedKey × Addr × Value) → Prop
  | nil : RKs D ρ n H [] []
  | cons {k x : EV} {a : Addr} {v : V} {u : Value} {kvs : List (EV × EV)} {xs : List (NestedKey × Addr × Value)} : kT k = true → RV D ρ n H k (.ref a) → RV D ρ n H x v → RelV v u → RKs D ρ n H kvs xs → RKs D ρ n H ((k, x) :: kvs) ((nk k, a, u) :: xs)
/-- what stands at a cell -/
def RC (D : Da) (ρ : Ro) (n : Nat) (H : Hp) (a : Addr) : CL → Prop
  | .lst xs lk => xs.length ≤ sizeLine ∧ ∃ vs, RVs D ρ n H xs vs ∧ match lk with
    | false => H a = some (.lst vs)
    | true => ∃ o, H a = some (.frz o (.lst vs))
  | .dct kvs lk => kvs.length ≤ sizeLine ∧ (a == sysModules) = false ∧ (kvs.map fun p => nk p.1).Nodup ∧ ∃ xs, RKs D ρ n H kvs xs ∧ match lk with
    | false => H a = some (dO D a xs)
    | true => ∃ o, H a = some (.frz o (dO D a xs))
structure RH (D : Da) (ρ : Ro) (h : EH) (H : Hp) : Prop where
  inj : ∀ i j, i < h.n → j < h.n → ρ i = ρ j → i = j
  cell : ∀ i, i < h.n → ∃ c, h.get i = some c ∧ RC D ρ h.n H (ρ i) c
  bnd : h.n ≤ 1000000000
structure RS (D : Da) (ρ : Ro) (n : Nat) (H : Hp) (τ : Sg) (σ : L2.St) : Prop where
  len : τ.length = σ.length
  at_ : ∀ i x, sget τ i = some x → ∃ v, σ[i]? = some (some v) ∧ RV D ρ n H x v

/-- what the running of a piece keeps -/
structure Xt (ρ : Ro) (n : Nat) (H : Hp) (ρ' : Ro) (n' : Nat) (H' : Hp) : Prop where
  le : n ≤ n'
  ag : ∀ i, i < n → ρ' i = ρ i
  tups : ∀ a xs, H a = some (.tup xs) → H' a = some (.tup xs)
  frzs : ∀ a o u, H a = some (.frz o u) → H' a = some (.frz o u)
  fr : ∀ a o, H a = some o → (∀ i, i < n → ρ i ≠ a) → H' a = some o
  nw : ∀ i, n ≤ i → i < n' → H (ρ' i) = none
  dom : ∀ a, H' a = none → H a = none

section
variable {D : Da} {ρ ρ' ρ'' : Ro} {n n' n'' : Nat} {H H' H'' : Hp}
theorem Xt.refl : Xt ρ n H ρ n H := ⟨Nat.le_refl _, fun _ _ => rfl, fun _ _ h => h, fun _ _ _ h => h, fun _ _ h _ => h, fun i h1 h2 => absurd h1 (by omega), fun _ h => h⟩
theorem Xt.trans (a : Xt ρ n H ρ' n' H') (b : Xt ρ' n' H' ρ'' n'' H'') : Xt ρ n H ρ'' n'' H'' where
  le := Nat.le_trans a.le b.le
  ag := fun i hi => (b.ag i (Nat.lt_of_lt_of_le hi a.le)).trans (a.ag i hi)
  tups := fun x xs h => b.tups x xs (a.tups x xs h)
  frzs := fun x o u h => b.frzs x o u (a.frzs x o u h)
  fr := fun x o h hn => b.fr x o (a.fr x o h hn) fun i hi => by
    by_cases q : i < n
    · rw [a.ag i q]; exact hn i q
    · intro e
      have := a.nw i (by omega) hi
      rw [e, h] at this
      cases this
  nw := fun i h1 h2 => by
    by_cases q : i < n'
    · rw [b.ag i q]; exact a.nw i h1 q
    · exact a.dom _ (b.nw i (by omega) h2)
  dom := fun x h => a.dom x (b.dom x h)
end

section
variable {D : Da} {ρ ρ' ρ'' : Ro} {n n' n'' : Nat} {H H' H'' : Hp}
theorem Rd.mono (x : Xt ρ n H ρ' n' H') {a : Addr} {xs : List V} (r : Rd H a (.tup xs)) : Rd H' a (.tup xs) := by
  rcases r with r | ⟨o, r⟩
  · exact .inl (x.tups _ _ r)
  · exact .inr ⟨o, x.frzs _ _ _ r⟩
theorem SqT.mono (x : Xt ρ n H ρ' n' H') {K : PySem.W.Frag} {a : Addr} {xs : List V} (r : SqT K H a xs) : SqT K H' a xs := by
  rcases r with r | r
  · exact .inl (Rd.mono x r)
  · exact .inr r
theorem KL.mono (x : Xt ρ n H ρ' n' H') {K : PySem.W.Frag} {a : Addr} {xs : List V} (r : KL K H a xs) : KL K H' a xs := by
  rcases r with ⟨o, r⟩ | r
  · exact .inl ⟨o, x.frzs _ _ _ r⟩
  · exact .inr r
mutual
theorem RV.mono (x : Xt ρ n H ρ' n' H') {v : EV} {w : V} (r : RV D ρ n H v w) : RV D ρ' n' H' v w := by
  match r with
  | .non => exact .non
  | .bl b => exact .bl b
  | .int i => exact .int i
  | .str s => exact .str s
  | .tup q rs => exact .tup (SqT.mono x q) (RVs.mono x rs)
  | .ref h => rw [← x.ag _ h]; exact .ref (Nat.lt_of_lt_of_le h x.le)
  | .fn => exact .fn
  | .kl q rs => exact .kl (KL.mono x q) (RVs.mono x rs)
theorem RVs.mono (x : Xt ρ n H ρ' n' H') {v : List EV} {w : List V} (r : RVs D ρ n H v w) : RVs D ρ' n' H' v w := by
  match r with
  | .nil => exact .nil
  | .cons r rs => exact .cons (RV.mono x r) (RVs.mono x rs)
end
theorem RKs.mono (x : Xt ρ n H ρ' n' H') {v : List (EV × EV)} {w : List (NestedKey × Addr × Value)} (r : RKs D ρ n H v w) : RKs D ρ' n' H' v w := by
  induction r with
  | nil => exact .nil
  | cons a b c d _ ih => exact .cons a (b.mono x) (c.mono x) d ih
theorem RS.mono (x : Xt ρ n H ρ' n' H') {τ : Sg} {σ : L2.St} (r : RS D ρ n H τ σ) : RS D ρ' n' H' τ σ :=
  ⟨r.len, fun i y e => let ⟨v, h1, h2⟩ := r.at_ i y e; ⟨v, h1, h2.mono x⟩⟩
theorem RVs.length {v : List EV} {w : List V} : RVs D ρ n H v w → v.length = w.length
  | .nil => rfl
  | .cons _ r => by simp [RVs.length r]
theorem RVs.get {v : List EV} {w : List V} (r : RVs D ρ n H v w) : ∀ {i : Nat} {x : EV}, v[i]? = some x → ∃ y, w[i]? = some y ∧ RV D ρ n H x y := by
  match r with
  | .nil => intro i x h; simp at h
  | .cons (v := y) q rs =>
    intro i x h
    cases i with
    | zero => simp at h; subst h; exact ⟨y, by simp, q⟩
    | succ i =>
      obtain ⟨z, h1, h2⟩ := RVs.get rs (i := i) (x := x) (by simpa using h)
      exact ⟨z, by simpa using h1, h2⟩
theorem RVs.append {v v' : List EV} {w w' : List V} (r : RVs D ρ n H v w) (q : RVs D ρ n H v' w') : RVs D ρ n H (v ++ v') (w ++ w') := by
  match r with
  | .nil => exact q
  | .cons a b => exact .cons a (RVs.append b q)
theorem RVs.drop {v : List EV} {w : List V} (r : RVs D ρ n H v w) : ∀ i, RVs D ρ n H (v.drop i) (w.drop i) := by
  match r with
  | .nil => intro i; simp; exact .nil
  | .cons a b =>
    intro i
    cases i with
    | zero => exact .cons a b
    | succ i => simpa using RVs.drop b i
theorem RVs.take {v : List EV} {w : List V} (r : RVs D ρ n H v w) : ∀ i, RVs D ρ n H (v.take i) (w.take i) := by
  match r with
  | .nil => intro i; simp; exact .nil
  | .cons a b =>
    intro i
    cases i with
    | zero => exact .nil
    | succ i => simpa using RVs.cons a (RVs.take b i)
theorem RVs.set {v : List EV} {w : List V} {x : EV} {y : V} (r : RVs D ρ n H v w) (q : RV D ρ n H x y) : ∀ i, RVs D ρ n H (v.set i x) (w.set i y) := by
  match r with
  | .nil => intro i; simp; exact .nil
  | .cons a b =>
    intro i
    cases i with
    | zero => exact .cons q b
    | succ i => simpa using RVs.cons a (RVs.set b q i)
theorem RVs.eraseIdx {v : List EV} {w : List V} (r : RVs D ρ n H v w) : ∀ i, RVs D ρ n H (v.eraseIdx i) (w.eraseIdx i) := by
  match r with
  | .nil => intro i; simp; exact .nil
  | .cons a b =>
    intro i
    cases i with
    | zero => simpa using b
    | succ i => simpa using RVs.cons a (RVs.eraseIdx b i)
theorem RVs.reverse {v : List EV} {w : List V} (r : RVs D ρ n H v w) : RVs D ρ n H v.reverse w.reverse := by
  match r with
  | .nil => exact .nil
  | .cons a b => rw [List.reverse_cons, List.reverse_cons]; exact (RVs.reverse b).append (.cons a .nil)

/-! ### what comes of a run -/
/-- an error: its class and field -/
def ER (D : Da) (ρ : Ro) (n : Nat) (H : Hp) (c : Nat) (p : EV) (cls : Value) (d : Option Addr) : Prop :=
  ∃ C f, D.CA c = some (C, f) ∧ cls = .ref C ∧ match f with
    | none => True
    | some x => ∃ dx v, d = some dx ∧ H dx = some (.xd [(x, v)]) ∧ RV D ρ n H p v
def Af {α : Type} (D : Da) (ρ : Ro) (n : Nat) (H : Hp) (E : XK) (post : α → EH → Ro → Hp → Prop) : R α → Prop
  | .ok a h' => ∀ ρ' H', Xt ρ n H ρ' h'.n H' → RH D ρ' h' H' → post a h' ρ' H'
  | .ex c p h' => ∀ ρ' H' cls d, Xt ρ n H ρ' h'.n H' → RH D ρ' h' H' → ER D ρ' h'.n H' c p cls d → E cls d H'
  | .bad => False
variable {α β : Type} {E : XK}
theorem Af.start {post : α → EH → Ro → Hp → Prop} {r : R α} (x : Xt ρ n H ρ' n' H') (a : Af D ρ n H E post r) : Af D ρ' n' H' E post r := by
  cases r with
  | ok v h => exact fun ρ2 H2 y r => a ρ2 H2 (x.trans y) r
  | ex c p h => exact fun ρ2 H2 cls d y r q => a ρ2 H2 cls d (x.trans y) r q
  | bad => exact a
theorem Af.bind {post : β → EH → Ro → Hp → Prop} {m : R α} {f : α → EH → R β} (a : Af D ρ n H E post (m.bind f)) :
    Af D ρ n H E (fun v h1 ρ1 H1 => Af D ρ1 h1.n H1 E post (f v h1)) m := by
  cases m with
  | ok v h => exact fun ρ2 H2 y r => Af.start y a
  | ex c p h => exact a
  | bad => exact a
theorem Af.imp {post post' : α → EH → Ro → Hp → Prop} {r : R α} (a : Af D ρ n H E post r) (h : ∀ v h' ρ' H', Xt ρ n H ρ' h'.n H' → RH D ρ' h' H' → post v h' ρ' H' → post' v h' ρ' H') : Af D ρ n H E post' r := by
  cases r with
  | ok v h2 => exact fun ρ2 H2 y r => h v h2 ρ2 H2 y r (a ρ2 H2 y r)
  | ex c p h => exact a
  | bad => exact a
/-- what is wanted of a value -/
abbrev pV (D : Da) (Q : VK) : EV → EH → Ro → Hp → Prop := fun v h' ρ' H' => ∀ w, RV D ρ' h'.n H' v w → Q w H'
abbrev pB (Q : Bool → Hp → Prop) : Bool → EH → Ro → Hp → Prop := fun b _ _ H' => Q b H'
abbrev pVs (D : Da) (Q : List V → Hp → Prop) : List EV → EH → Ro → Hp → Prop := fun v h' ρ' H' => ∀ w, RVs D ρ' h'.n H' v w → Q w H'
/-- no heap is touched -/
theorem Af.here {post : α → EH → Ro → Hp → Prop} {v : α} {h : EH} (r : RH D ρ h H) (a : Af D ρ h.n H E post (.ok v h)) : post v h ρ H := a ρ H Xt.refl r
end
end EM
end
section
set_option Elab.async false
set_option linter.all false
set_option maxRecDepth 100000
/-! E3: what the operators do, over the layer's heap. -/
namespace EM
open PySem PySem.Spec PyProof.Rows L2

section
variable {D : Da} {ρ ρ' : Ro} {n n' : Nat} {H H' : Hp} {h : EH}
/-! ### the heap's steps -/
theorem Xt.fresh {p : Addr} {o : HO} (hp : H p = none) : Xt ρ n H ρ n (upd H p o) where
  le := Nat.le_refl _
  ag := fun _ _ => rfl
  tups := fun a xs e => by rw [upd_ne (ne_of_none e hp)]; exact e
  frzs := fun a ob u e => by rw [upd_ne (ne_of_none e hp)]; exact e
  fr := fun a ob e _ => by rw [upd_ne (ne_of_none e hp)]; exact e
  nw := fun i h1 h2 => absurd h1 (by omega)
  dom := fun a e => by
    by_cases q : a = p
    · rw [q]; exact hp
    · rw [upd_ne q] at e; exact e
/-- the place of a new cell -/
def ext (ρ : Ro) (n : Nat) (p : Addr) : Ro := fun i => if i = n then p else ρ i
theorem ext_lt {p : Addr} {i : Nat} (hi : i < n) : ext ρ n p i = ρ i := if_neg (by omega)
theorem ext_at {p : Addr} : ext ρ n p n = p := if_pos rfl
theorem Xt.new {p : Addr} {o : HO} (hp : H p = none) : Xt ρ n H (ext ρ n p) (n + 1) (upd H p o) where
  le := Nat.le_succ _
  ag := fun i hi => ext_lt hi
  tups := fun a xs e => by rw [upd_ne (ne_of_none e hp)]; exact e
  frzs := fun a ob u e => by rw [upd_ne (ne_of_none e hp)]; exact e
  fr := fun a ob e _ => by rw [upd_ne (ne_of_none e hp)]; exact e
  nw := fun i h1 h2 => by
    have e : i = n := by omega
    rw [e, ext_at]; exact hp
  dom := fun a e => by
    by_cases q : a = p
    · rw [q]; exact hp
    · rw [upd_ne q] at e; exact e
theorem Xt.write {i : Nat} {u o : HO} (hi : i < n) (hu : H (ρ i) = some u) (mu : Mut (some u)) : Xt ρ n H ρ n (upd H (ρ i) o) where
  le := Nat.le_refl _
  ag := fun _ _ => rfl
  tups := fun a xs e => by rw [upd_ne (fun z => by rw [z, hu] at e; cases e; exact mu)]; exact e
  frzs := fun a ob u' e => by rw [upd_ne (fun z => by rw [z, hu] at e; cases e; exact mu)]; exact e
  fr := fun a ob e hn => by rw [upd_ne (fun z => hn i hi z.symm)]; exact e
  nw := fun i h1 h2 => absurd h1 (by omega)
  dom := fun a e => by
    by_cases q : a = ρ i
    · rw [q, upd_same] at e; cases e
    · rw [upd_ne q] at e; exact e
theorem RC.mono {a : Addr} {c : CL} (x : Xt ρ n H ρ' n' H') (e : ∀ o, H a = some o → H' a = some o) (r : RC D ρ n H a c) : RC D ρ' n' H' a c := by
  cases c with
  | lst xs lk =>
    obtain ⟨z, vs, rs, q⟩ := r
    refine ⟨z, vs, rs.mono x, ?_⟩
    cases lk with
    | false => exact e _ q
    | true => obtain ⟨o, q⟩ := q; exact ⟨o, e _ q⟩
  | dct kvs lk =>
    obtain ⟨z, y, nd, xs, rs, q⟩ := r
    refine ⟨z, y, nd, xs, rs.mono x, ?_⟩
    cases lk with
    | false => exact e _ q
    | true => obtain ⟨o, q⟩ := q; exact ⟨o, e _ q⟩
theorem RC.some {a : Addr} {c : CL} (r : RC D ρ n H a c) : ∃ o, H a = some o := by
  cases c with
  | lst xs lk =>
    obtain ⟨z, vs, rs, q⟩ := r
    cases lk with
    | false => exact ⟨_, q⟩
    | true => obtain ⟨o, q⟩ := q; exact ⟨_, q⟩
  | dct kvs lk =>
    obtain ⟨z, y, nd, xs, rs, q⟩ := r
    cases lk with
    | false => exact ⟨_, q⟩
    | true => obtain ⟨o, q⟩ := q; exact ⟨_, q⟩
theorem RH.at (r : RH D ρ h H) {i : Nat} {c : CL} (e : h.get i = some c) : RC D ρ h.n H (ρ i) c := by
  obtain ⟨c', e', q⟩ := r.cell i (EH.get_lt e)
  rw [e] at e'; cases e'; exact q
/-- a tuple, or what the machine does not see, is laid -/
theorem RH.fresh {p : Addr} {o : HO} (r : RH D ρ h H) (hp : H p = none) : RH D ρ h (upd H p o) :=
  ⟨r.inj, fun i hi => let ⟨c, e, q⟩ := r.cell i hi; ⟨c, e, q.mono (Xt.fresh hp) fun ob e => by rw [upd_ne (ne_of_none e hp)]; exact e⟩, r.bnd⟩
theorem RH.new {p : Addr} {o : HO} {c : CL} (r : RH D ρ h H) (hp : H p = none) (hb : h.n < 1000000000) (q : RC D (ext ρ h.n p) (h.n + 1) (upd H p o) p c) : RH D (ext ρ h.n p) (h.push c) (upd H p o) where
  inj := fun i j hi hj e => by
    have hi : i < h.n + 1 := hi
    have hj : j < h.n + 1 := hj
    have key : ∀ k, k < h.n → ρ k ≠ p := fun k hk z => by
      obtain ⟨c', e', q'⟩ := r.cell k hk
      obtain ⟨o', eo⟩ := q'.some
      rw [z, hp] at eo; cases eo
    by_cases h1 : i = h.n
    · by_cases h2 : j = h.n
      · omega
      · rw [h1, ext_at, ext_lt (by omega)] at e
        exact absurd e.symm (key j (by omega))
    · by_cases h2 : j = h.n
      · rw [h2, ext_at, ext_lt (by omega)] at e
        exact absurd e (key i (by omega))
      · rw [ext_lt (by omega), ext_lt (by omega)] at e
        exact r.inj i j (by omega) (by omega) e
  cell := fun i hi => by
    have hi : i < h.n + 1 := hi
    by_cases h1 : i = h.n
    · rw [h1, ext_at]
      exact ⟨c, EH.get_push_same hb, q⟩
    · obtain ⟨c', e', q'⟩ := r.cell i (by omega)
      rw [ext_lt (by omega)]
      exact ⟨c', by rw [EH.get_push_lt (by omega)]; exact e', q'.mono (Xt.new hp) fun ob e => by rw [upd_ne (ne_of_none e hp)]; exact e⟩
  bnd := by show h.n + 1 ≤ _; omega
theorem RH.write {i : Nat} {u o : HO} {c : CL} (r : RH D ρ h H) (hi : i < h.n) (hu : H (ρ i) = some u) (mu : Mut (some u)) (q : RC D ρ h.n (upd H (ρ i) o) (ρ i) c) : RH D ρ (h.put i c) (upd H (ρ i) o) where
  inj := r.inj
  cell := fun j hj => by
    have hj : j < h.n := hj
    by_cases h1 : j = i
    · rw [h1]
      exact ⟨c, EH.get_put_same hi r.bnd, q⟩
    · obtain ⟨c', e', q'⟩ := r.cell j hj
      refine ⟨c', by rw [EH.get_put_ne h1]; exact e', q'.mono (Xt.write hi hu mu) fun ob e => ?_⟩
      rw [upd_ne fun z => h1 (r.inj j i hj hi z)]
      exact e
  bnd := r.bnd
end

/-- the machine's context fits the layer's -/
structure Fit (D : Da) (X : Cx) : Prop where
  P : X.prog = D.P
  w : X.w = D.w
  K : X.K = D.K

section
variable {D : Da} {X : Cx} {ρ : Ro} {H : Hp} {h : EH} {Q : VK} {E : XK}
/-- a value comes, nothing is touched -/
theorem Af.val (r : RH D ρ h H) {v : EV} {w : V} (a : Af D ρ h.n H E (pV D Q) (.ok v h)) (q : RV D ρ h.n H v w) : Q w H := a.here r w q
theorem Af.int {i : Int} (r : RH D ρ h H) (a : Af D ρ h.n H E (pV D Q) (retI i h)) : Q (.int i) H := by
  rw [retI, fI_eq] at a
  exact a.val r (.int i)
theorem Af.bool {b : Bool} (r : RH D ρ h H) (a : Af D ρ h.n H E (pV D Q) (retB b h)) : Q (.bl b) H := a.val r (.bl b)
/-- a new cell -/
theorem Af.mk {c : CL} (r : RH D ρ h H) (a : Af D ρ h.n H E (pV D Q) (mkC c h)) {p : Addr} {o : HO} (hp : H p = none) (q : RC D (ext ρ h.n p) (h.n + 1) (upd H p o) p c) : Q (.ref p) (upd H p o) := by
  rw [mk_eq] at a
  by_cases hb : h.n < 1000000000
  · rw [if_pos hb] at a
    have := a _ _ (Xt.new hp) (r.new hp hb q) (.ref p)
    exact this (by
      have e : p = ext ρ h.n p h.n := ext_at.symm
      have k : RV D (ext ρ h.n p) (h.push c).n (upd H p o) (.ref h.n) (.ref (ext ρ h.n p h.n)) := .ref (Nat.lt_succ_self _)
      rw [ext_at] at k
      exact k)
  · rw [if_neg hb] at a
    exact a.elim
theorem Af.mkL {xs : List EV} {vs : List V} (r : RH D ρ h H) (a : Af D ρ h.n H E (pV D Q) (mkC (.lst xs false) h)) (rs : RVs D ρ h.n H xs vs) (hz : xs.length ≤ sizeLine) {p : Addr} (hp : H p = none) : Q (.ref p) (upd H p (.lst vs)) :=
  a.mk r hp ⟨hz, vs, rs.mono (Xt.new hp), upd_same⟩
theorem Af.tup {xs : List EV} {vs : List V} (r : RH D ρ h H) (a : Af D ρ h.n H E (pV D Q) (.ok (.tup xs) h)) (rs : RVs D ρ h.n H xs vs) {p : Addr} (hp : H p = none) : Q (.ref p) (upd H p (.tup vs)) :=
  a _ _ (Xt.fresh hp) (r.fresh hp) (.ref p) (.tup (.inl (.inl upd_same)) (rs.mono (Xt.fresh hp)))
theorem sz_le {k : Nat} (e : sz k = true) : k ≤ sizeLine := by
  have : k ≤ 16777216 := by simpa [sz, Nat.ble_eq] using e
  exact this
theorem lim64_ok {i : Int} (e : lim64 i = true) : -(2 ^ 64) < i ∧ i < 2 ^ 64 := by
  cases i with
  | ofNat k => simp only [lim64, Nat.blt, Nat.ble_eq] at e; simp only [Int.ofNat_eq_natCast]; constructor <;> omega
  | negSucc k => simp only [lim64, Nat.blt, Nat.ble_eq] at e; constructor <;> omega

/-- an operator's reading, by the machine -/
def rOp (D : Da) (E : XK) (f : EV → EV → EH → R EV) : R2 := fun x y H Q => ∃ ρ h a b, RH D ρ h H ∧ RV D ρ h.n H a x ∧ RV D ρ h.n H b y ∧ Af D ρ h.n H E (pV D Q) (f a b h)
theorem op_binE (F : Fit D X) (op : Operator) : OpR X (binaryOp op) (rOp D E (binE op)) := by
  intro pins s σ H x y v u Q I rx ry hq
  obtain ⟨ρ, h, a, b, rh, ra, rb, af⟩ := hq
  cases op with
  | Add =>
    cases ra with
    | int i =>
      cases rb with
      | int j => exact op_add pins s σ H _ _ v u Q I rx ry ⟨i, j, rfl, rfl, af.int rh⟩
      | _ => exact af.elim
    | str z =>
      cases rb with
      | str t =>
        simp only [binE] at af
        split at af
        · rename_i e
          exact op_add_str pins s σ H _ _ v u Q I rx ry ⟨z, t, rfl, rfl, sz_le e, af.val rh (.str _)⟩
        · exact af.elim
      | _ => exact af.elim
    | tup q1 r1 =>
      cases rb with
      | tup q2 r2 =>
        rename_i xs p vs ys p2 ws
        simp only [binE] at af
        split at af
        · exact af.elim
        · rename_i hd tl
          split at af
          · rename_i e
            have hz := sz_le e
            refine op_catT pins s σ H _ _ v u Q I rx ry ⟨p, p2, vs, ws, rfl, rfl, F.K ▸ q1, F.K ▸ q2, fun z => ?_, ?_, fun z => ?_, fun z q hq => ?_⟩
            · rw [z] at r1; cases r1
            · rw [← r1.length, ← r2.length, ← List.length_append]; exact hz
            · rw [z] at r2
              cases r2
              rw [List.append_nil] at af
              exact af.val rh (.tup q1 r1)
            · exact af.tup rh (r1.append r2) hq
          · exact af.elim
      | _ => exact af.elim
    | ref hi =>
      cases rb with
      | ref hj =>
        rename_i i j
        simp only [binE] at af
        split at af
        · rename_i xs e1
          split at af
          · rename_i ys e2
            split at af
            · rename_i e
              obtain ⟨_, vs, r1, o1⟩ := rh.at e1
              obtain ⟨_, ws, r2, o2⟩ := rh.at e2
              have hz := sz_le e
              refine op_cat pins s σ H _ _ v u Q I rx ry ⟨_, _, vs, ws, rfl, rfl, o1, o2, ?_, fun p hp => af.mkL rh (r1.append r2) hz hp⟩
              rw [← r1.length, ← r2.length, ← List.length_append]; exact hz
            · exact af.elim
          · exact af.elim
        · exact af.elim
      | _ => exact af.elim
    | _ => exact af.elim
  | Sub =>
    cases ra with
    | int i =>
      cases rb with
      | int j => exact op_sub pins s σ H _ _ v u Q I rx ry ⟨i, j, rfl, rfl, af.int rh⟩
      | _ => exact af.elim
    | _ => exact af.elim
  | Mult =>
    cases ra with
    | int i =>
      cases rb with
      | int j =>
        simp only [binE] at af
        split at af
        · rename_i e
          exact op_mul pins s σ H _ _ v u Q I rx ry ⟨i, j, rfl, rfl, .inl (lim64_ok e), af.int rh⟩
        · split at af
          · rename_i e
            exact op_mul pins s σ H _ _ v u Q I rx ry ⟨i, j, rfl, rfl, .inr (lim64_ok e), af.int rh⟩
          · exact af.elim
      | _ => exact af.elim
    | _ => exact af.elim
  | FloorDiv =>
    cases ra with
    | int i =>
      cases rb with
      | int j =>
        simp only [binE] at af
        split at af
        · rename_i k
          split at af
          · rename_i e
            simp only [Nat.blt, Nat.ble_eq] at e
            refine op_fdiv pins s σ H _ _ v u Q I rx ry ⟨i, _, rfl, rfl, ⟨?_, ?_⟩, af.int rh⟩
            · show (0 : Int) < Int.ofNat (k + 1); exact Int.natCast_pos.mpr (Nat.succ_pos _)
            · show Int.ofNat (k + 1) < 1073741824; simp only [Int.ofNat_eq_natCast]; omega
          · exact af.elim
        · exact af.elim
      | _ => exact af.elim
    | _ => exact af.elim
  | Mod =>
    cases ra with
    | int i =>
      cases rb with
      | int j =>
        simp only [binE] at af
        split at af
        · rename_i k
          refine op_mod pins s σ H _ _ v u Q I rx ry ⟨i, _, rfl, rfl, ?_, af.int rh⟩
          show (0 : Int) < Int.ofNat (k + 1); exact Int.natCast_pos.mpr (Nat.succ_pos _)
        · exact af.elim
      | _ => exact af.elim
    | _ => exact af.elim
  | Pow =>
    cases ra with
    | int i =>
      cases rb with
      | int j =>
        simp only [binE] at af
        split at af
        · rename_i k
          split at af
          · rename_i e1
            split at af
            · rename_i e2
              obtain ⟨b1, b2⟩ := lim64_ok e2
              have q := af.int rh
              simp only [Nat.ble_eq] at e1
              refine op_pow pins s σ H _ _ v u Q I rx ry ⟨i, _, rfl, rfl, ⟨?_, ?_, ?_⟩, q⟩
              · exact Int.natCast_nonneg _
              · show Int.ofNat k ≤ 1000000; simp only [Int.ofNat_eq_natCast]; omega
              · omega
            · exact af.elim
          · exact af.elim
        · exact af.elim
      | _ => exact af.elim
    | _ => exact af.elim
  | _ => exact af.elim
end
end EM
end
section
set_option Elab.async false
set_option linter.all false
set_option maxRecDepth 100000
/-! E4: dicts, data, comparisons, items. -/
namespace EM
open PySem PySem.Spec PyProof.Rows L2

/-! ### keys -/
mutual
theorem keq_sound : ∀ (x y : EV), keq x y = true → nk x = nk y
  | .int i, .int j, h => by
    have e := (ieq_iff i j).mp h
    rw [e]
  | .non, .non, _ => rfl
  | .str s, .str t, h => by
    have e : s = t := of_decide_eq_true h
    rw [e]
  | .tup xs, .tup ys, h => by
    have e := keqs_sound xs ys h
    simp only [nk, e]
  | .int _, .non, h | .int _, .str _, h | .int _, .tup _, h | .int _, .bl _, h | .int _, .ref _, h | .int _, .fn _, h => by cases h
  | .non, .int _, h | .non, .str _, h | .non, .tup _, h | .non, .bl _, h | .non, .ref _, h | .non, .fn _, h => by cases h
  | .str _, .int _, h | .str _, .non, h | .str _, .tup _, h | .str _, .bl _, h | .str _, .ref _, h | .str _, .fn _, h => by cases h
  | .tup _, .int _, h | .tup _, .str _, h | .tup _, .non, h | .tup _, .bl _, h | .tup _, .ref _, h | .tup _, .fn _, h => by cases h
  | .bl _, y, h => by cases y <;> cases h
  | .ref _, y, h => by cases y <;> cases h
  | .fn _, y, h => by cases y <;> cases h
theorem keqs_sound : ∀ (xs ys : List EV), keqs xs ys = true → xs.map nk = ys.map nk
  | [], [], _ => rfl
  | x :: xs, y :: ys, h => by
    unfold keqs at h
    split at h
    · rename_i e
      rw [List.map_cons, List.map_cons, keq_sound x y e, keqs_sound xs ys h]
    · cases h
  | [], _ :: _, h => by cases h
  | _ :: _, [], h => by cases h
end
mutual
theorem keq_back : ∀ (x y : EV) (f g : Nat), kok f x = true → kok g y = true → nk x = nk y → keq x y = true
  | x, y, 0, _, h, _, _ => by cases h
  | x, y, _ + 1, 0, _, h, _ => by cases h
  | .int i, .int j, f + 1, g + 1, _, _, e => by
    simp only [nk, NestedKey.num.injEq] at e
    exact (ieq_iff i j).mpr e
  | .non, .non, f + 1, g + 1, _, _, _ => rfl
  | .str s, .str t, f + 1, g + 1, _, _, e => by
    simp only [nk, NestedKey.text.injEq] at e
    exact decide_eq_true e
  | .tup xs, .tup ys, f + 1, g + 1, hx, hy, e => by
    simp only [nk, NestedKey.tup.injEq] at e
    exact keqs_back xs ys f g hx hy e
  | .int _, .non, f + 1, g + 1, _, _, e | .int _, .str _, f + 1, g + 1, _, _, e | .int _, .tup _, f + 1, g + 1, _, _, e => by simp only [nk] at e; cases e
  | .non, .int _, f + 1, g + 1, _, _, e | .non, .str _, f + 1, g + 1, _, _, e | .non, .tup _, f + 1, g + 1, _, _, e => by simp only [nk] at e; cases e
  | .str _, .int _, f + 1, g + 1, _, _, e | .str _, .non, f + 1, g + 1, _, _, e | .str _, .tup _, f + 1, g + 1, _, _, e => by simp only [nk] at e; cases e
  | .tup _, .int _, f + 1, g + 1, _, _, e | .tup _, .str _, f + 1, g + 1, _, _, e | .tup _, .non, f + 1, g + 1, _, _, e => by simp only [nk] at e; cases e
  | .bl _, y, f + 1, g + 1, h, _, _ => by cases h
  | .ref _, y, f + 1, g + 1, h, _, _ => by cases h
  | .fn _, y, f + 1, g + 1, h, _, _ => by cases h
  | .int _, .bl _, f + 1, g + 1, _, h, _ | .int _, .ref _, f + 1, g + 1, _, h, _ | .int _, .fn _, f + 1, g + 1, _, h, _ => by cases h
  | .non, .bl _, f + 1, g + 1, _, h, _ | .non, .ref _, f + 1, g + 1, _, h, _ | .non, .fn _, f + 1, g + 1, _, h, _ => by cases h
  | .str _, .bl _, f + 1, g + 1, _, h, _ | .str _, .ref _, f + 1, g + 1, _, h, _ | .str _, .fn _, f + 1, g + 1, _, h, _ => by cases h
  | .tup _, .bl _, f + 1, g + 1, _, h, _ | .tup _, .ref _, f + 1, g + 1, _, h, _ | .tup _, .fn _, f + 1, g + 1, _, h, _ => by cases h
theorem keqs_back : ∀ (xs ys : List EV) (f g : Nat), xs.all (kok f) = true → ys.all (kok g) = true → xs.map nk = ys.map nk → keqs xs ys = true
  | [], [], _, _, _, _, _ => rfl
  | x :: xs, y :: ys, f, g, hx, hy, e => by
    simp only [List.all_cons, Bool.and_eq_true] at hx hy
    simp only [List.map_cons, List.cons.injEq] at e
    unfold keqs
    rw [keq_back x y f g hx.1 hy.1 e.1]
    exact keqs_back xs ys f g hx.2 hy.2 e.2
  | [], _ :: _, _, _, _, _, e => by simp at e
  | _ :: _, [], _, _, _, _, e => by simp at e
end
theorem kT_kok {k : EV} (h : kT k = true) : kok 6 k = true := by
  cases k <;> first | exact h | cases h
theorem kT_tup {k : EV} (h : kT k = true) : ∃ xs, k = .tup xs := by
  cases k <;> first | exact ⟨_, rfl⟩ | cases h
theorem keq_nk {x y : EV} (hx : kT x = true) (hy : kT y = true) : keq x y = true ↔ nk x = nk y :=
  ⟨keq_sound x y, keq_back x y 6 6 (kT_kok hx) (kT_kok hy)⟩
mutual
theorem nk_depth : ∀ (x : EV) (f : Nat), kok f x = true → (nk x).depth ≤ f
  | x, 0, h => by cases h
  | .int i, f + 1, _ => by simp [nk, NestedKey.depth]
  | .non, f + 1, _ => by simp [nk, NestedKey.depth]
  | .str s, f + 1, _ => by simp [nk, NestedKey.depth]
  | .tup xs, f + 1, h => by
    have := nks_depth xs f h
    simp only [nk, NestedKey.depth]
    omega
  | .bl _, f + 1, h => by cases h
  | .ref _, f + 1, h => by cases h
  | .fn _, f + 1, h => by cases h
theorem nks_depth : ∀ (xs : List EV) (f : Nat), xs.all (kok f) = true → NestedKey.depthAll (xs.map nk) ≤ f
  | [], f, _ => by simp [NestedKey.depthAll]
  | x :: xs, f, h => by
    simp only [List.all_cons, Bool.and_eq_true] at h
    have h1 := nk_depth x f h.1
    have h2 := nks_depth xs f h.2
    simp only [List.map_cons, NestedKey.depthAll]
    omega
end

section
variable {D : Da} {X : Cx} {ρ : Ro} {n : Nat} {H : Hp} {h : EH} {Q : VK} {E : XK} {pins : List (Addr × Obj)} {s : Shared} {σ : L2.St}
mutual
theorem nk_is (F : Fit D X) (I : Inv X pins σ H s) : ∀ (x : EV) (f : Nat) (v : V) (u : Value), kok f x = true → RV D ρ n H x v → RelV v u → NestedIs s.heap (nk x) u
  | x, 0, _, _, hk, _, _ => by cases hk
  | .int i, f + 1, _, _, _, r, q => by
    cases r
    obtain ⟨t, rfl⟩ := q
    simp only [nk]
    exact .int i t
  | .non, f + 1, _, _, _, r, q => by
    cases r
    cases q
    simp only [nk]
    exact .none
  | .str z, f + 1, _, _, _, r, q => by
    cases r
    obtain ⟨t, rfl⟩ := q
    simp only [nk]
    exact .text z t
  | .tup xs, f + 1, _, _, hk, r, q => by
    cases r with
    | tup hq rs =>
      cases q
      obtain ⟨its, rv, ⟨o, ho, hc, m, hd⟩, hz⟩ := I.tuple (F.K ▸ hq)
      simp only [nk]
      exact .tup ho hc hd (by simpa using nks_is F I xs f _ its hk rs rv)
  | .bl _, f + 1, _, _, hk, _, _ => by cases hk
  | .ref _, f + 1, _, _, hk, _, _ => by cases hk
  | .fn _, f + 1, _, _, hk, _, _ => by cases hk
theorem nks_is (F : Fit D X) (I : Inv X pins σ H s) : ∀ (xs : List EV) (f : Nat) (vs : List V) (us : List Value), xs.all (kok f) = true → RVs D ρ n H xs vs → Vals vs us → NestedAll s.heap (xs.map nk) us
  | [], f, _, _, _, r, q => by
    cases r
    cases q
    exact .nil
  | x :: xs, f, _, _, hk, r, q => by
    simp only [List.all_cons, Bool.and_eq_true] at hk
    cases r with
    | cons r rs =>
      cases q with
      | cons q qs => exact .cons (nk_is F I x f _ _ hk.1 r q) (nks_is F I xs f _ _ hk.2 rs qs)
end
theorem key_is (F : Fit D X) (I : Inv X pins σ H s) {k : EV} {a : Addr} (hk : kT k = true) (r : RV D ρ n H k (.ref a)) : (nestedKind D.P D.w).is s.heap (nk k) a :=
  ⟨nk_is F I k 6 _ _ (kT_kok hk) r rfl, Nat.le_trans (nk_depth k 6 (kT_kok hk)) (by omega)⟩
theorem RKs.keys {kvs : List (EV × EV)} {xs : List (NestedKey × Addr × Value)} (r : RKs D ρ n H kvs xs) : xs.map (·.1) = kvs.map fun p => nk p.1 := by
  induction r with
  | nil => rfl
  | cons _ _ _ _ _ ih => simp [ih]
theorem RKs.length {kvs : List (EV × EV)} {xs : List (NestedKey × Addr × Value)} (r : RKs D ρ n H kvs xs) : kvs.length = xs.length := by
  induction r with
  | nil => rfl
  | cons _ _ _ _ _ ih => simp [ih]
theorem RKs.is (F : Fit D X) (I : Inv X pins σ H s) {kvs : List (EV × EV)} {xs : List (NestedKey × Addr × Value)} (r : RKs D ρ n H kvs xs) : ∀ x ∈ xs, (nestedKind D.P D.w).is s.heap x.1 x.2.1 := by
  induction r with
  | nil => intro x hx; cases hx
  | cons hk rk _ _ _ ih =>
    intro x hx
    rcases List.mem_cons.mp hx with rfl | hx
    · exact key_is F I hk rk
    · exact ih x hx
/-- the dict at a cell, for the library's rules -/
theorem RC.dict (F : Fit D X) (I : Inv X pins σ H s) {a : Addr} {kvs : List (EV × EV)} {lk : Bool} (r : RC D ρ n H a (.dct kvs lk)) :
    ∃ xs, RKs D ρ n H kvs xs ∧ s.heap.DictOfH (nestedKind D.P D.w) a xs ∧ (a == sysModules) = false ∧ xs.length ≤ sizeLine := by
  obtain ⟨hz, hs, nd, xs, rk, q⟩ := r
  have ok : ObjOk X.prog X.w H s.heap a (dO D a xs) := by
    cases lk with
    | false => exact I.hok a _ q
    | true =>
      obtain ⟨o, q⟩ := q
      exact (I.hok a _ q).2
  obtain ⟨⟨o, es, ep, ho, hx, hd, he⟩, _, _⟩ := ok
  exact ⟨xs, rk, ⟨o, es, ep, ho, hx, hd, he, rk.is F I, by rw [rk.keys]; exact nd⟩, hs, by rw [← rk.length]; exact hz⟩
theorem dget_at {kvs : List (EV × EV)} {xs : List (NestedKey × Addr × Value)} (r : RKs D ρ n H kvs xs) {k : EV} (hk : kT k = true) :
    (dget kvs k = none ∧ atKey xs (nk k) = none) ∨ ∃ x a v u, dget kvs k = some x ∧ atKey xs (nk k) = some (a, u) ∧ RV D ρ n H x v ∧ RelV v u := by
  induction r with
  | nil => exact .inl ⟨rfl, rfl⟩
  | cons hk' rk rx ru _ ih =>
    rename_i k' x a v u kvs xs rest
    unfold dget
    cases q : keq k' k with
    | true =>
      have e := (keq_nk hk' hk).mp q
      refine .inr ⟨x, a, v, u, rfl, ?_, rx, ru⟩
      simp [atKey, e]
    | false =>
      have e : nk k' ≠ nk k := fun z => by rw [(keq_nk hk' hk).mpr z] at q; cases q
      have e2 : atKey ((nk k', a, u) :: xs) (nk k) = atKey xs (nk k) := by simp [atKey, e]
      rw [e2]
      exact ih
theorem dput_at {kvs : List (EV × EV)} {xs : List (NestedKey × Addr × Value)} (r : RKs D ρ n H kvs xs) {k y : EV} {a : Addr} {v : V} {u : Value} (hk : kT k = true) (rk : RV D ρ n H k (.ref a)) (ry : RV D ρ n H y v) (ru : RelV v u)
    (nd : (xs.map (·.1)).Nodup) : RKs D ρ n H (dput kvs k y) (storedH xs (nk k) a u) := by
  have key : ∀ {kvs xs}, RKs D ρ n H kvs xs → (xs.map (·.1)).Nodup → (atKey xs (nk k) = none → RKs D ρ n H (dput kvs k y) (xs ++ [(nk k, a, u)])) ∧ (∀ p, atKey xs (nk k) = some p → RKs D ρ n H (dput kvs k y) (xs.map (putAt (nk k) u))) := by
    intro kvs xs r nd
    induction r with
    | nil => exact ⟨fun _ => .cons hk rk ry ru .nil, fun p h => by cases h⟩
    | cons hk' rk' rx rw' rest ih =>
      rename_i k' x a' v' u' kvs xs
      simp only [List.map_cons, List.nodup_cons] at nd
      unfold dput
      cases q : keq k' k with
      | true =>
        have e := (keq_nk hk' hk).mp q
        refine ⟨fun z => ?_, fun p z => ?_⟩
        · simp [atKey, e] at z
        · rw [List.map_cons]
          have h1 : putAt (nk k) u (nk k', a', u') = (nk k', a', u) := by simp [putAt, e]
          have h2 : xs.map (putAt (nk k) u) = xs := by
            rw [List.map_congr_left (g := id), List.map_id]
            intro z hz
            unfold putAt
            rw [if_neg]
            · rfl
            · intro e2
              exact nd.1 (by rw [e, ← e2]; exact List.mem_map_of_mem hz)
          rw [h1, h2]
          exact .cons hk' rk' ry ru rest
      | false =>
        have e : nk k' ≠ nk k := fun z => by rw [(keq_nk hk' hk).mpr z] at q; cases q
        have e2 : atKey ((nk k', a', u') :: xs) (nk k) = atKey xs (nk k) := by simp [atKey, e]
        rw [e2]
        obtain ⟨i1, i2⟩ := ih nd.2
        refine ⟨fun z => .cons hk' rk' rx rw' (i1 z), fun p z => ?_⟩
        rw [List.map_cons]
        have h1 : putAt (nk k) u (nk k', a', u') = (nk k', a', u') := by simp [putAt, e]
        rw [h1]
        exact .cons hk' rk' rx rw' (i2 p z)
  obtain ⟨i1, i2⟩ := key r nd
  cases q : atKey xs (nk k) with
  | none => rw [storedH_new q]; exact i1 q
  | some p => rw [storedH_old q]; exact i2 p q
end
end EM
end
section
set_option Elab.async false
set_option linter.all false
set_option maxRecDepth 100000
/-! E5: data read, comparisons, items, truth. -/
namespace EM
open PySem PySem.Spec PyProof.Rows L2

section
variable {D : Da} {X : Cx} {ρ : Ro} {n : Nat} {H : Hp} {h : EH} {Q : VK} {E : XK} {pins : List (Addr × Obj)} {s : Shared} {σ : L2.St}
theorem RH.sq (r : RH D ρ h H) {i : Nat} {xs : List EV} {lk : Bool} (e : h.get i = some (.lst xs lk)) : ∃ vs, RVs D ρ h.n H xs vs ∧ SqL D.K H (ρ i) vs ∧ xs.length ≤ sizeLine := by
  obtain ⟨z, vs, rs, q⟩ := r.at e
  refine ⟨vs, rs, .inl ?_, z⟩
  cases lk with
  | false => exact .inl q
  | true => exact .inr q
theorem dps {g : EV → Option PyData} (hg : ∀ x d w, g x = some d → RV D ρ n H x w → Dp D.K H w d) : ∀ {xs : List EV} {ds : List PyData} {vs : List V}, mapO g xs = some ds → RVs D ρ n H xs vs → DpAll D.K H vs ds
  | [], ds, vs, e, r => by
    cases r
    cases e
    exact .nil
  | x :: xs, ds, vs, e, r => by
    cases r with
    | cons r rs =>
      unfold mapO at e
      split at e
      · rename_i d ed
        split at e
        · rename_i ds' eds
          cases e
          exact .cons (hg x d _ ed r) (dps hg eds rs)
        · cases e
      · cases e
theorem dp_of (rh : RH D ρ h H) : ∀ (f : Nat) (x : EV) (d : PyData) (w : V), rd f h x = some d → RV D ρ h.n H x w → Dp D.K H w d
  | 0, x, d, w, e, r => by cases e
  | f + 1, x, d, w, e, r => by
    unfold rd at e
    cases r with
    | non => cases e; exact .non
    | bl b => cases e; exact .bl b
    | int i => cases e; exact .int i
    | str z => cases e; exact .str z
    | tup q rs =>
      simp only at e
      split at e
      · rename_i ds ed
        cases e
        exact .tup q (dps (fun x d w => dp_of rh f x d w) ed rs)
      · cases e
    | ref hi =>
      simp only at e
      split at e
      · rename_i xs lk ec
        split at e
        · rename_i ds ed
          cases e
          obtain ⟨vs, rs, q, _⟩ := rh.sq ec
          exact .lst q (dps (fun x d w => dp_of rh f x d w) ed rs)
        · cases e
      · cases e
    | fn => cases e
    | kl _ _ => cases e
theorem dpall_of (rh : RH D ρ h H) {xs : List EV} {ds : List PyData} {vs : List V} (f : Nat) (e : mapO (rd f h) xs = some ds) (r : RVs D ρ h.n H xs vs) : DpAll D.K H vs ds :=
  dps (fun x d w => dp_of rh f x d w) e r
theorem eq_of {x y : EV} {v w : V} {b : Bool} (rh : RH D ρ h H) (e : eqE h x y = some b) (rx : RV D ρ h.n H x v) (ry : RV D ρ h.n H y w) :
    ∃ d e, Dp D.K H v d ∧ Dp D.K H w e ∧ SeqAt.shaped d = true ∧ SeqAt.shaped e = true ∧ b = PyData.eqv d e := by
  unfold eqE at e
  split at e
  · rename_i d e1
    split at e
    · rename_i d2 e2
      split at e
      · rename_i s1
        split at e
        · rename_i s2
          cases e
          exact ⟨d, d2, dp_of rh _ _ _ _ e1 rx, dp_of rh _ _ _ _ e2 ry, s1, s2, rfl⟩
        · cases e
      · cases e
    · cases e
  · cases e
theorem ixE_eq (n : Nat) (i : Int) : ixE n i = ixN n i := by
  cases i with
  | ofNat k =>
    unfold ixE ixN
    simp only [Nat.blt]
    by_cases hk : k < n
    · have e : (k + 1).ble n = true := by rw [Nat.ble_eq]; omega
      rw [e, if_pos (by exact Int.natCast_nonneg k), if_pos (by simp only [Int.ofNat_eq_natCast]; omega)]
      rfl
    · have e : (k + 1).ble n = false := by
        cases q : (k + 1).ble n with
        | false => rfl
        | true => rw [Nat.ble_eq] at q; omega
      rw [e, if_pos (by exact Int.natCast_nonneg k), if_neg (by simp only [Int.ofNat_eq_natCast]; omega)]
  | negSucc k =>
    unfold ixE ixN
    simp only [Nat.blt]
    have h0 : ¬ (0 : Int) ≤ Int.negSucc k := by omega
    by_cases hk : k < n
    · have e : (k + 1).ble n = true := by rw [Nat.ble_eq]; omega
      rw [e, if_neg h0, if_pos (by omega)]
      simp only [Option.some.injEq]
      omega
    · have e : (k + 1).ble n = false := by
        cases q : (k + 1).ble n with
        | false => rfl
        | true => rw [Nat.ble_eq] at q; omega
      rw [e, if_neg h0, if_neg (by omega)]
theorem atI_of {vs : List V} {i : Int} {k : Nat} {v : V} (e : ixE vs.length i = some k) (e2 : vs[k]? = some v) : atI vs i = some v := by
  unfold atI
  rw [← ixE_eq, e]
  exact e2

/-! ### comparisons -/
theorem in_dict (F : Fit D X) (hr : Room 0 X.A) (I : Inv X pins σ H s) (rh : RH D ρ h H) {i : Nat} {kvs : List (EV × EV)} {lk : Bool} {k : EV} {a : Addr} (e : h.get i = some (.dct kvs lk)) (hk : kT k = true) (rk : RV D ρ h.n H k (.ref a)) {Q : VK}
    (q : Q (.bl (dget kvs k).isSome) H) : wpAny (model X.prog X.w) X.A (contains (.ref (ρ i)) (.ref a)) (fun b s' => b = (dget kvs k).isSome ∧ Inv X pins σ H s') X.xe s := by
  obtain ⟨xs, rks, hm, hs, hz⟩ := (rh.at e).dict F I
  have hm' : s.heap.DictOfH (nestedKind X.prog X.w) (ρ i) xs := by rw [F.P, F.w]; exact hm
  have hk' : (nestedKind X.prog X.w).is s.heap (nk k) a := by rw [F.P, F.w]; exact key_is F I hk rk
  have hu : (nestedKind X.prog X.w).room X.A.in1 := by
    show X.A.units + 1 + 8 < cLine
    have := hr.un
    omega
  refine wpAny_contains_heap hu hk' hs hm' ⟨?_, I.tok _⟩
  rcases dget_at rks hk with ⟨e1, e2⟩ | ⟨x, a', v, u, e1, e2, _, _⟩ <;> rw [e1, e2] <;> rfl
theorem op_cmpE (F : Fit D X) (hr : Room 0 X.A) (op : CmpOp) : OpR X (compareOp op) (rOp D E (cmpE op)) := by
  intro pins s σ H x y v u Q I rx ry hq
  obtain ⟨ρ, h, a, b, rh, ra, rb, af⟩ := hq
  have hu : X.A.units + 64 < cLine := by have := hr.un; omega
  have hu' : X.A.units + 65 < cLine := by have := hr.un; omega
  cases op with
  | Eq =>
    simp only [cmpE] at af
    split at af
    · rename_i k e
      obtain ⟨d, d2, hd, he, sd, se, rfl⟩ := eq_of rh e ra rb
      exact op_eqD hu pins s σ H _ _ v u Q I rx ry ⟨d, d2, F.K ▸ hd, F.K ▸ he, sd, se, af.bool rh⟩
    · exact af.elim
  | NotEq =>
    simp only [cmpE] at af
    split at af
    · rename_i k e
      obtain ⟨d, d2, hd, he, sd, se, rfl⟩ := eq_of rh e ra rb
      exact op_neD hu pins s σ H _ _ v u Q I rx ry ⟨d, d2, F.K ▸ hd, F.K ▸ he, sd, se, af.bool rh⟩
    · exact af.elim
  | Lt =>
    cases ra with
    | int i =>
      cases rb with
      | int j =>
        simp only [cmpE, ilt_eq] at af
        exact op_lt pins s σ H _ _ v u Q I rx ry ⟨i, j, rfl, rfl, af.bool rh⟩
      | _ => exact af.elim
    | _ => exact af.elim
  | LtE =>
    cases ra with
    | int i =>
      cases rb with
      | int j =>
        have e : (!ilt j i) = decide (i ≤ j) := by rw [ilt_eq]; by_cases q : j < i <;> simp [q] <;> omega
        simp only [cmpE, e] at af
        exact op_le pins s σ H _ _ v u Q I rx ry ⟨i, j, rfl, rfl, af.bool rh⟩
      | _ => exact af.elim
    | _ => exact af.elim
  | Gt =>
    cases ra with
    | int i =>
      cases rb with
      | int j =>
        simp only [cmpE, ilt_eq] at af
        exact op_gt pins s σ H _ _ v u Q I rx ry ⟨i, j, rfl, rfl, af.bool rh⟩
      | _ => exact af.elim
    | _ => exact af.elim
  | GtE =>
    cases ra with
    | int i =>
      cases rb with
      | int j =>
        have e : (!ilt i j) = decide (j ≤ i) := by rw [ilt_eq]; by_cases q : i < j <;> simp [q] <;> omega
        simp only [cmpE, e] at af
        exact op_ge pins s σ H _ _ v u Q I rx ry ⟨i, j, rfl, rfl, af.bool rh⟩
      | _ => exact af.elim
    | _ => exact af.elim
  | In =>
    simp only [cmpE] at af
    split at af
    · rename_i k e
      have q := af.bool rh
      unfold inE at e
      cases rb with
      | ref hi =>
        rename_i i
        simp only at e
        split at e
        · rename_i kvs lk ec
          split at e
          · rename_i hk
            cases e
            obtain ⟨xs, rfl⟩ := kT_tup hk
            cases ra with
            | tup q1 r1 =>
              cases rx
              cases ry
              rename_i a' vs'
              show wpAny _ _ (do return Value.bool (← contains (.ref (ρ i)) (.ref a'))) _ _ s
              refine wpAny_bind (thn (in_dict F hr I rh ec hk (.tup q1 r1) (Q := Q) q) fun b s' ⟨eb, I'⟩ => ?_)
              subst eb
              exact wpAny_pure ⟨V.bl _, H, I', rfl, q⟩
          · cases e
        · rename_i ys lk ec
          split at e
          · rename_i d e1
            split at e
            · rename_i ds e2
              split at e
              · rename_i s1
                split at e
                · rename_i s2
                  cases e
                  obtain ⟨vs, rs, sq, _⟩ := rh.sq ec
                  exact op_inD hu' pins s σ H _ _ v u Q I rx ry ⟨d, ds, F.K ▸ dp_of rh _ _ _ _ e1 ra, F.K ▸ Dp.lst sq (dpall_of rh _ e2 rs), s1, s2, q⟩
                · cases e
              · cases e
            · cases e
          · cases e
        · cases e
      | _ => cases e
    · exact af.elim
  | NotIn =>
    simp only [cmpE] at af
    split at af
    · rename_i k e
      have q := af.bool rh
      unfold inE at e
      cases rb with
      | ref hi =>
        rename_i i
        simp only at e
        split at e
        · rename_i kvs lk ec
          split at e
          · rename_i hk
            cases e
            obtain ⟨xs, rfl⟩ := kT_tup hk
            cases ra with
            | tup q1 r1 =>
              cases rx
              cases ry
              rename_i a' vs'
              show wpAny _ _ (do return Value.bool (!(← contains (.ref (ρ i)) (.ref a')))) _ _ s
              refine wpAny_bind (thn (in_dict F hr I rh ec hk (.tup q1 r1) (Q := fun _ _ => True) trivial) fun b s' ⟨eb, I'⟩ => ?_)
              subst eb
              exact wpAny_pure ⟨V.bl _, H, I', rfl, q⟩
          · cases e
        · rename_i ys lk ec
          split at e
          · rename_i d e1
            split at e
            · rename_i ds e2
              split at e
              · rename_i s1
                split at e
                · rename_i s2
                  cases e
                  obtain ⟨vs, rs, sq, _⟩ := rh.sq ec
                  exact op_notInD hu' pins s σ H _ _ v u Q I rx ry ⟨d, ds, F.K ▸ dp_of rh _ _ _ _ e1 ra, F.K ▸ Dp.lst sq (dpall_of rh _ e2 rs), s1, s2, q⟩
                · cases e
              · cases e
            · cases e
          · cases e
        · cases e
      | _ => cases e
    · exact af.elim
  | Is =>
    cases rb with
    | non =>
      simp only [cmpE] at af
      refine op_isN pins s σ H _ _ v u Q I rx ry ⟨rfl, ?_⟩
      cases ra <;> exact af.bool rh
    | _ => exact af.elim
  | IsNot =>
    cases rb with
    | non =>
      simp only [cmpE] at af
      refine op_notN pins s σ H _ _ v u Q I rx ry ⟨rfl, ?_⟩
      cases ra <;> exact af.bool rh
    | _ => exact af.elim
end
end EM
end
section
set_option Elab.async false
set_option linter.all false
set_option maxRecDepth 100000
/-! E6: items read and stored, slices, truth, kinds. -/
namespace EM
open PySem PySem.Spec PyProof.Rows L2

section
variable {D : Da} {X : Cx} {ρ : Ro} {n : Nat} {H : Hp} {h : EH} {Q : VK} {E : XK} {pins : List (Addr × Obj)} {s : Shared} {σ : L2.St}
theorem ix_getE (F : Fit D X) (hr : Room 0 X.A) : IxR X (rOp D E getE) := by
  intro value slice pins s σ H x y v u Q I rx ry hq hs
  obtain ⟨ρ, h, a, b, rh, ra, rb, af⟩ := hq
  cases ra with
  | ref hi =>
    rename_i i
    simp only [getE] at af
    split at af
    · rename_i xs lk ec
      cases rb with
      | int j =>
        simp only at af
        split at af
        · rename_i k ek
          split at af
          · rename_i z ez
            obtain ⟨vs, rs, sq, _⟩ := rh.sq ec
            obtain ⟨w, ew, rw'⟩ := rs.get ez
            exact ix_list value slice pins s σ H _ _ v u Q I rx ry ⟨_, vs, j, w, rfl, rfl, F.K ▸ sq, atI_of (by rw [← rs.length]; exact ek) ew, af.val rh rw'⟩ hs
          · exact af.elim
        · exact af.elim
      | _ => exact af.elim
    · rename_i kvs lk ec
      split at af
      · rename_i hk
        split at af
        · rename_i z ez
          obtain ⟨ks, rfl⟩ := kT_tup hk
          cases rb with
          | tup q1 r1 =>
            cases rx
            cases ry
            obtain ⟨xs, rks, hm, hsm, hz⟩ := (rh.at ec).dict F I
            have hm' : s.heap.DictOfH (nestedKind X.prog X.w) (ρ i) xs := by rw [F.P, F.w]; exact hm
            have hk' := key_is F I hk (RV.tup q1 r1)
            rw [← F.P, ← F.w] at hk'
            have hu : (nestedKind X.prog X.w).room X.A.in1 := by
              show X.A.units + 1 + 8 < cLine
              have := hr.un
              omega
            rcases dget_at rks hk with ⟨e1, e2⟩ | ⟨x, a', w, u, e1, e2, rz, ru⟩
            · rw [e1] at ez; cases ez
            · rw [e1] at ez; cases ez
              exact tail_any hm'.typeIs PySem.F.slot_dict_getitem.lookup (wpAny_getItem_heap hu hk' hm' e2 ⟨w, H, I.tok _, ru, af.val rh rz⟩) hs
        · exact af.elim
      · exact af.elim
    · exact af.elim
  | tup q1 r1 =>
    cases rb with
    | int j =>
      simp only [getE] at af
      split at af
      · rename_i k ek
        split at af
        · rename_i z ez
          obtain ⟨w, ew, rw'⟩ := r1.get ez
          exact ix_tup value slice pins s σ H _ _ v u Q I rx ry ⟨_, _, j, w, rfl, rfl, F.K ▸ q1, atI_of (by rw [← r1.length]; exact ek) ew, af.val rh rw'⟩ hs
        · exact af.elim
      · exact af.elim
    | _ => exact af.elim
  | _ => exact af.elim

/-- a store's reading -/
def rSt (D : Da) (E : XK) : TSet := fun o i v H Q => ∃ ρ h a b c, RH D ρ h H ∧ RV D ρ h.n H a o ∧ RV D ρ h.n H b i ∧ RV D ρ h.n H c v ∧ Af D ρ h.n H E (fun _ h' ρ' H' => Q H') (setE a b c h)
theorem dO_mut {a : Addr} {xs : List (NestedKey × Addr × Value)} : Mut (some (dO D a xs)) := trivial
/-- a dict in the heap is as the abstract one says -/
theorem dO_ok {P : Program} {w : World} {H : Hp} {hp : Heap} {a : Addr} {xs : List (NestedKey × Addr × Value)} (hm : hp.DictOfH (nestedKind D.P D.w) a xs) : ObjOk P w H hp a (dO D a xs) := by
  obtain ⟨o, es, ep, ho, hx, hd, he, _, _⟩ := hm
  refine ⟨⟨o, es, ep, ho, hx, hd, he⟩, ⟨o, ho⟩, fun h1 h2 ⟨o, es, ep, ho, hx, hd, he⟩ st => ⟨o, es, ep, st o ho, hx, hd, he⟩⟩
/-- a dict's cell is written -/
theorem write_dict (F : Fit D X) (I : Inv X pins σ H s) (rh : RH D ρ h H) {i : Nat} {kvs kvs' : List (EV × EV)} {xs' : List (NestedKey × Addr × Value)} {hp : Heap} {tk : Nat} (ec : h.get i = some (.dct kvs false)) (rks : RKs D ρ h.n H kvs' xs')
    (hz : kvs'.length ≤ sizeLine) (hm : hp.DictOfH (nestedKind D.P D.w) (ρ i) xs') (sb : Heap.SameBut (ρ i) s.heap hp) :
    ∃ H', Xt ρ h.n H ρ h.n H' ∧ RH D ρ (h.put i (.dct kvs' false)) H' ∧ Inv X pins σ H' { s with heap := hp, toks := tk } := by
  obtain ⟨_, hs, _, xs0, _, q⟩ := rh.at ec
  have hi := EH.get_lt ec
  refine ⟨upd H (ρ i) (dO D (ρ i) xs'), Xt.write hi q trivial, rh.write hi q trivial ⟨hz, hs, ?_, xs', rks.mono (Xt.write hi q trivial), upd_same⟩, ?_⟩
  · obtain ⟨_, _, _, _, _, _, _, _, nd⟩ := hm
    rw [← rks.keys]; exact nd
  · refine I.write (x := ρ i) (e := ρ i) (by rw [q]; trivial) (.inl rfl) (fun b u hb e => (sb.2 b hb).trans e) ?_ (dO_ok hm)
    obtain ⟨o, _, _, ho, _⟩ := hm
    exact ⟨o, ho⟩
theorem set_setE (F : Fit D X) (hr : Room 0 X.A) : PSet X (rSt D E) := by
  intro pins s σ H o i v ov iv u Q I ro ri rv hq
  obtain ⟨ρ, h, a, b, c, rh, ra, rb, rc, af⟩ := hq
  cases ra with
  | ref hi =>
    rename_i j
    simp only [setE] at af
    split at af
    · rename_i xs ec
      cases rb with
      | int k =>
        simp only at af
        split at af
        · rename_i m em
          obtain ⟨z, vs, rs, q⟩ := rh.at ec
          refine set_list pins s σ H _ _ v ov iv u Q I ro ri rv ⟨_, vs, k, m, rfl, rfl, q, by rw [← rs.length, ← ixE_eq]; exact em, ?_⟩
          exact af _ _ (Xt.write hi q trivial) (rh.write hi q trivial ⟨by simpa using z, _, (rs.set rc m).mono (Xt.write hi q trivial), upd_same⟩)
        · exact af.elim
      | _ => exact af.elim
    · rename_i kvs ec
      split at af
      · rename_i hk
        split at af
        · rename_i ez
          obtain ⟨ks, rfl⟩ := kT_tup hk
          cases rb with
          | tup q1 r1 =>
            cases ro
            cases ri
            obtain ⟨xs, rks, hm, hsm, hz⟩ := (rh.at ec).dict F I
            have hm' : s.heap.DictOfH (nestedKind X.prog X.w) (ρ j) xs := by rw [F.P, F.w]; exact hm
            have hk' := key_is F I hk (RV.tup q1 r1)
            rw [← F.P, ← F.w] at hk'
            have hu : (nestedKind X.prog X.w).room X.A.in1 := by
              show X.A.units + 1 + 8 < cLine
              have := hr.un
              omega
            refine wpAny_setItem_heap (hsz := hz) hu hk' hm' fun hp hm2 sb => ?_
            have nd : (xs.map (·.1)).Nodup := by obtain ⟨_, _, _, _, _, _, _, _, nd⟩ := hm; exact nd
            have rk2 := dput_at rks hk (RV.tup q1 r1) rc rv nd
            rw [F.P, F.w] at hm2
            have hl : (dput kvs (EV.tup ks) c).length ≤ sizeLine := by
              have h1 := sz_le ez
              have h2 : ∀ l : List (EV × EV), (dput l (EV.tup ks) c).length ≤ l.length + 1 := by
                intro l
                induction l with
                | nil => simp [dput]
                | cons p r ih =>
                  obtain ⟨k', v'⟩ := p
                  unfold dput
                  split
                  · simp
                  · simp only [List.length_cons]; omega
              exact Nat.le_trans (h2 kvs) h1
            obtain ⟨H', x, r', I'⟩ := write_dict (tk := s.toks + (nestedKind X.prog X.w).draws (nk (.tup ks))) F I rh ec rk2 hl hm2 sb
            exact ⟨H', I', af _ _ x r'⟩
        · exact af.elim
      · exact af.elim
    · exact af.elim
  | _ => exact af.elim

/-! ### slices -/
theorem cutI_eq (n d : Nat) (o : Option Int) : cutI n d o = HT.sIx n d o := by
  cases o with
  | none => rfl
  | some i =>
    cases i with
    | ofNat k =>
      have e : HT.sIx n d (some (Int.ofNat k)) = min k n := HT.sIx_nat n d k
      rw [e]
      unfold cutI
      by_cases hk : k ≤ n
      · have q : Nat.ble k n = true := by rw [Nat.ble_eq]; exact hk
        simp only [q]; omega
      · have q : Nat.ble k n = false := by
          cases q : Nat.ble k n with
          | false => rfl
          | true => rw [Nat.ble_eq] at q; exact absurd q hk
        simp only [q]; omega
    | negSucc k =>
      unfold cutI
      show n - (k + 1) = if Int.negSucc k < 0 then (Int.negSucc k + (n : Int)).toNat else min (Int.negSucc k).toNat n
      rw [if_pos (by omega)]
      omega
theorem cut_rvs {xs : List EV} {vs : List V} (rs : RVs D ρ n H xs vs) (l u : Option Int) : RVs D ρ n H (cutE xs l u) (cutV vs l u) := by
  unfold cutE cutV
  simp only [cutI_eq, rs.length]
  exact (rs.drop _).take _
def rSlE (D : Da) (E : XK) : V → Option Int → Option Int → Hp → VK → Prop := fun x l u H Q => ∃ ρ h a, RH D ρ h H ∧ RV D ρ h.n H a x ∧ Af D ρ h.n H E (pV D Q) (slcE a l u h)
theorem sl_slcE (F : Fit D X) : SlR X (rSlE D E) := by
  intro pins s σ H x v vl vu lo hi sl Q I rx hs pl pu hq
  obtain ⟨ρ, h, a, rh, ra, af⟩ := hq
  cases ra with
  | ref hi' =>
    rename_i i
    simp only [slcE] at af
    split at af
    · rename_i xs lk ec
      obtain ⟨vs, rs, sq, hz⟩ := rh.sq ec
      refine sl_list pins s σ H _ v vl vu lo hi sl Q I rx hs pl pu ⟨_, vs, rfl, F.K ▸ sq, fun p hp => af.mkL rh (cut_rvs rs lo hi) ?_ hp⟩
      rw [(cut_rvs rs lo hi).length]
      exact Nat.le_trans (cutV_length _ _ _) (by rw [← rs.length]; exact hz)
    · exact af.elim
  | tup q1 r1 =>
    simp only [slcE] at af
    split at af
    · exact af.elim
    · rename_i e
      refine sl_tup pins s σ H _ v vl vu lo hi sl Q I rx hs pl pu ⟨_, _, rfl, F.K ▸ q1, fun z => ?_, fun p hp => af.tup rh (cut_rvs r1 lo hi) hp⟩
      obtain ⟨z1, z2⟩ := z
      have hl := (cut_rvs r1 lo hi).length
      unfold cutV at hl
      rw [z1, z2, List.drop_zero, Nat.sub_zero, List.take_length, ← r1.length] at hl
      rw [hl] at e
      simp at e
  | _ => exact af.elim

/-! ### truth -/
theorem call_len_dH (hd : (a == sysModules) = false) {P : Program} {w : World} {A : Around} {E' : Value → Shared → Prop} {xs : List (NestedKey × Addr × Value)} {Q : Value → Shared → Prop} (hm : s.heap.DictOfH (nestedKind P w) a xs) (hfit : (xs.length : Int) < 2 ^ 63)
    (q : Q (.int xs.length (s.toks + 1)) { s with toks := s.toks + 1 + 1 }) : wpAny (model P w) A (Builtin.«len» ⟨[.ref a], []⟩) (fun fin s' => ∃ r, fin = .done (.ret r) ∧ Q r s') E' s := by
  unfold Builtin.«len»
  refine wpAny_bind (m := oneArg "len" _) (wpAny_pure ?_)
  have hk : s.heap.DictKeyed (nestedKind P w) a (pairsH xs) := ⟨xs, hm, rfl⟩
  refine wpAny_bind (m := callSpecial? (.ref a) (Str.ofString "__len__")) (wpAny_callSpecial?_slot (name := Str.ofString "__len__") hm.typeIs PySem.F.slot_dict_len
    (len_keyed hd hk ?_))
  rw [pairsH_length]
  show wpAny _ _ _ _ _ { s with toks := s.toks + 1 }
  refine wpAny_bind (wpAny_holding (wpAny_pure ?_))
  refine wpAny_bind (wpAny_letGo ?_)
  show wpAny _ _ (if ((xs.length : Nat) : Int) < 0 then _ else _) _ _ _
  rw [if_neg (by omega)]
  show wpAny _ _ (if ((xs.length : Nat) : Int) ≥ 2 ^ 63 then _ else _) _ _ _
  rw [if_neg (by omega)]
  exact wpAny_bind (wpAny_mkInt (wpAny_pure ⟨_, rfl, q⟩))
theorem truthy_dH (hd : (a == sysModules) = false) {P : Program} {w : World} {A : Around} {E' : Value → Shared → Prop} {xs : List (NestedKey × Addr × Value)} {Q : Bool → Shared → Prop} (hm : s.heap.DictOfH (nestedKind P w) a xs) (hfit : (xs.length : Int) < 2 ^ 63)
    (q : Q (!xs.isEmpty) { s with toks := s.toks + 1 + 1 }) : wpAny (model P w) A (truthy (.ref a)) Q E' s := by
  have hne : ((xs.length : Int) != 0) = !xs.isEmpty := by cases xs <;> simp <;> omega
  have key : wpAny (model P w) A (runValue (.builtin "len" ⟨[.ref a], []⟩)) (fun r s' => r = .int xs.length (s.toks + 1) ∧ Q (!xs.isEmpty) s') E' s := by
    refine wpAny_runValue (codeAny_builtin PySem.entry_len ?_)
    rw [Around.under_plainId PySem.plain_len _]
    exact wpAny_mono (call_len_dH (Q := fun r s' => r = .int xs.length (s.toks + 1) ∧ Q (!xs.isEmpty) s') hd hm hfit ⟨rfl, q⟩)
      (fun fin s' h' => by obtain ⟨r, rfl, hq⟩ := h'; exact hq) fun _ _ e => e
  unfold truthy
  first
    | refine wpAny_bind (wpAny_callSpecial?_none (name := Str.ofString "__bool__") hm.typeIs noBool_dict ?_)
    | refine wpAny_bind (wpAny_pure (wpAny_bind (wpAny_callSpecial?_none (name := Str.ofString "__bool__") hm.typeIs noBool_dict ?_)))
  first
    | refine wpAny_bind (wpAny_specialOf (name := Str.ofString "__len__") hm.typeIs PySem.F.slot_dict_len.lookup ?_)
    | refine wpAny_bind (wpAny_pure (wpAny_bind (wpAny_specialOf (name := Str.ofString "__len__") hm.typeIs PySem.F.slot_dict_len.lookup ?_)))
  first
    | exact wpAny_bind (wpAny_mono key (fun r s' h' => by obtain ⟨rfl, hq⟩ := h'; exact wpAny_pure (hne ▸ hq)) fun _ _ e => e)
    | exact wpAny_bind (wpAny_pure (wpAny_bind (wpAny_mono key (fun r s' h' => by obtain ⟨rfl, hq⟩ := h'; exact wpAny_pure (hne ▸ hq)) fun _ _ e => e)))
def rTr (D : Da) (E : XK) : V → Hp → (Bool → Hp → Prop) → Prop := fun x H Q => ∃ ρ h a, RH D ρ h H ∧ RV D ρ h.n H a x ∧ Af D ρ h.n H E (pB Q) (truE a h)
theorem tr_truE (F : Fit D X) : TruR X (rTr D E) := by
  intro pins s σ H x v Q I rx hq
  obtain ⟨ρ, h, a, rh, ra, af⟩ := hq
  simp only [truE] at af
  split at af
  · rename_i k ek
    have q : Q k H := af.here rh
    cases ra with
    | non => simp only [tru] at ek; cases ek; exact tru_ok pins s σ H _ v Q I rx ⟨_, rfl, q⟩
    | bl b => simp only [tru] at ek; cases ek; exact tru_ok pins s σ H _ v Q I rx ⟨_, rfl, q⟩
    | int i =>
      simp only [tru] at ek
      cases ek
      refine tru_ok pins s σ H _ v Q I rx ⟨_, ?_, q⟩
      show (!ieq i 0) = (i != 0)
      rw [ieq_eq, bne, Bool.beq_eq_decide_eq]
    | str z =>
      simp only [tru] at ek
      split at ek
      · rename_i es
        cases ek
        refine tru_ok pins s σ H _ v Q I rx ⟨_, ⟨sz_le es, ?_⟩, q⟩
        show (!Nat.beq z.cps.size 0) = ((z.cps.size : Int) != 0)
        cases z.cps.size <;> simp [Nat.beq] <;> omega
      · cases ek
    | tup q1 r1 =>
      simp only [tru] at ek
      cases ek
      refine tru_ok pins s σ H _ v Q I rx ⟨_, .inr (.inl ⟨_, F.K ▸ q1, ?_⟩), q⟩
      cases r1 <;> rfl
    | ref hi =>
      rename_i i
      simp only [tru] at ek
      split at ek
      · rename_i xs lk ec
        cases ek
        obtain ⟨vs, rs, sq, hz⟩ := rh.sq ec
        refine tru_ok pins s σ H _ v Q I rx ⟨_, .inl ⟨vs, F.K ▸ sq, ?_⟩, q⟩
        cases rs <;> rfl
      · rename_i kvs lk ec
        cases ek
        obtain ⟨xs, rks, hm, hsm, hz⟩ := (rh.at ec).dict F I
        cases rx
        have hm' : s.heap.DictOfH (nestedKind X.prog X.w) (ρ i) xs := by rw [F.P, F.w]; exact hm
        refine truthy_dH hsm hm' ?_ ⟨H, I.tok _, ?_⟩
        · have : sizeLine = 16777216 := sizeLine_eq
          omega
        · cases rks with
          | nil => exact q
          | cons _ _ _ _ _ => exact q
      · cases ek
    | fn => cases ek
    | kl _ _ => cases ek
  · exact af.elim
end
end EM
end
section
set_option Elab.async false
set_option linter.all false
set_option maxRecDepth 100000
/-! E7: built-in functions and methods. -/
namespace EM
open PySem PySem.Spec PyProof.Rows L2

def Ty.nm : Ty → String
  | .int => "int"
  | .bool => "bool"
  | .str => "str"
  | .list => "list"
  | .tuple => "tuple"
  | .dict => "dict"
section
variable {D : Da} {X : Cx} {ρ : Ro} {n : Nat} {H : Hp} {h : EH} {Q : VK} {E : XK} {pins : List (Addr × Obj)} {s : Shared} {σ : L2.St}
/-! ### isinstance -/
theorem kit_E (F : Fit D X) (I : Inv X pins σ H s) (rh : RH D ρ h H) {a : EV} {x : V} {u : Value} {T : Ty} {c : Bool} (ra : RV D ρ h.n H a x) (rx : RelV x u) (e : tyOf h a = some (T, c)) :
    ∃ P, PySem.W.KitX X.K u (.type (if c = true then T.nm else "NoneType")) P ∧ P s.heap ∧ u ≠ .builtin "__main__.__loader__#opaque" := by
  cases ra with
  | non => cases e; cases rx; exact ⟨_, PySem.W.kitx_none, True.intro, fun z => nomatch z⟩
  | bl b => cases e; cases rx; exact ⟨_, PySem.W.kitx_bool, True.intro, fun z => nomatch z⟩
  | int i => cases e; obtain ⟨t, rfl⟩ := rx; exact ⟨_, PySem.W.kitx_int, True.intro, fun z => nomatch z⟩
  | str z => cases e; obtain ⟨t, rfl⟩ := rx; exact ⟨_, PySem.W.kitx_str, True.intro, fun z => nomatch z⟩
  | tup q1 r1 =>
    cases e
    cases rx
    obtain ⟨its, _, ⟨o, ho, hc, _⟩, _⟩ := I.tuple (F.K ▸ q1)
    exact ⟨_, PySem.W.kitx_tuple, ⟨o, ho, hc⟩, fun z => nomatch z⟩
  | ref hi =>
    simp only [tyOf] at e
    split at e
    · rename_i ec
      cases e
      cases rx
      obtain ⟨vs, rs, sq, hz⟩ := rh.sq ec
      obtain ⟨its, _, ⟨o, m, ho, hc, _⟩, _⟩ := I.list (F.K ▸ sq)
      exact ⟨_, PySem.W.kitx_list, ⟨o, ho, hc⟩, fun z => nomatch z⟩
    · rename_i ec
      cases e
      cases rx
      obtain ⟨xs, rks, ⟨o, _, _, ho, hx, _⟩, hsm, hz⟩ := (rh.at ec).dict F I
      exact ⟨_, PySem.W.kitx_dict, ⟨o, ho, hx.1⟩, fun z => nomatch z⟩
    · cases e
  | fn => cases e
  | kl _ _ => cases e
theorem kit_one {K : PySem.W.Frag} (T U : Ty) : PySem.W.kitOne K (.type T.nm) (.type U.nm) = some (match T with
    | .bool => decide (U = .bool) || decide (U = .int)
    | _ => decide (U = T)) := by
  cases T <;> cases U <;> exact kit_ty (by decide +kernel)
theorem kit_non {K : PySem.W.Frag} (U : Ty) : PySem.W.kitOne K (.type "NoneType") (.type U.nm) = some false := by
  cases U <;> exact kit_ty (by decide +kernel)
theorem kit_any {K : PySem.W.Frag} {t : Value} {f : Ty → Bool} (hf : ∀ U, PySem.W.kitOne K t (.type U.nm) = some (f U)) : ∀ ts : List Ty, PySem.W.kitAny K t (ts.map fun U => .type U.nm) = some (ts.any f)
  | [] => rfl
  | U :: ts => by
    rw [List.map_cons, List.any_cons]
    refine kitAny_cons (hf U) (fun e => ?_) fun e => ?_
    · rw [e, Bool.false_or]; exact kit_any hf ts
    · rw [e, Bool.true_or]
theorem isi_any {K : PySem.W.Frag} {a : EV} {ts : List Ty} {b : Bool} (e : isiE h a ts = some b) : ∃ T c, tyOf h a = some (T, c) ∧ PySem.W.kitAny K (.type (if c = true then T.nm else "NoneType")) (ts.map fun U => .type U.nm) = some b := by
  unfold isiE at e
  split at e
  · rename_i T et
    refine ⟨T, true, et, ?_⟩
    rw [if_pos rfl, kit_any (fun U => kit_one T U)]
    exact e
  · rename_i T et
    refine ⟨T, false, et, ?_⟩
    rw [if_neg (by decide), kit_any (f := fun _ => false) (fun U => kit_non U)]
    rw [← e]
    simp
  · cases e
theorem tys_eq : ∀ (ts : List Ty) (its : List Value), Vals (ts.map fun T => V.ty T.nm) its → its = ts.map fun U => Value.type U.nm
  | [], its, r => by cases r; rfl
  | T :: ts, its, r => by
    cases r with
    | cons r rs =>
      cases r
      rw [List.map_cons, tys_eq ts _ rs]
/-- isinstance of a value and one type, or a new tuple of types -/
def rIs (D : Da) (E : XK) (one : Bool) (ts : List Ty) : List V → Hp → VK → Prop := fun xs H Q => ∃ ρ h a x c, xs = [x, c] ∧ RH D ρ h H ∧ RV D ρ h.n H a x ∧
  (match one with
    | true => ∃ T, ts = [T] ∧ c = .ty T.nm
    | false => ∃ p, c = .ref p ∧ H p = some (.tup (ts.map fun T => .ty T.nm))) ∧ Af D ρ h.n H E (pV D Q) (isiR a ts h)
theorem call_isE (F : Fit D X) (one : Bool) (ts : List Ty) : CallR X (.builtin "isinstance") (rIs D E one ts) := by
  intro pins s σ H xs us Q I r hq
  obtain ⟨ρ, h, a, x, c, rfl, rh, ra, hc, af⟩ := hq
  obtain ⟨u1, u2, rfl, r1, r2⟩ := vals2 r
  simp only [isiR] at af
  split at af
  · rename_i b eb
    obtain ⟨T, k, et, ka⟩ := isi_any (K := X.K) eb
    obtain ⟨P, Z, p, hx⟩ := kit_E F I rh ra r1 et
    have q := af.bool rh
    cases one with
    | true =>
      obtain ⟨U, rfl, rfl⟩ := hc
      cases r2
      have ko : PySem.W.kitOne X.K (.type (if k = true then T.nm else "NoneType")) (.type U.nm) = some b := by
        rw [List.map_cons, List.map_nil] at ka
        unfold PySem.W.kitAny at ka
        split at ka
        · rename_i e1; cases ka; exact e1
        · rename_i e1; rw [e1]; exact ka
        · cases ka
      exact PySem.W.kia_one Z I.kIn p ko hx fun tk => ⟨.bl b, H, I.tok tk, rfl, q⟩
    | false =>
      obtain ⟨tp, rfl, hT⟩ := hc
      cases r2
      obtain ⟨_, its, rv, o, h1, h2, m, h3⟩ := (show ObjOk X.prog X.w H s.heap tp (.tup _) from I.hok tp _ hT)
      have e3 := tys_eq ts its rv
      subst e3
      obtain ⟨oc, od, dt, sl⟩ := o
      simp only at h2 h3
      subst h2 h3
      exact PySem.W.kia_tup Z I.kIn p h1 ka hx fun tk => ⟨.bl b, H, I.tok tk, rfl, q⟩
  · exact af.elim

/-! ### functions -/
def rBi (D : Da) (E : XK) (b : Bi) : List V → Hp → VK → Prop := fun xs H Q => ∃ ρ h vs, RH D ρ h H ∧ RVs D ρ h.n H vs xs ∧ Af D ρ h.n H E (pV D Q) (biE b vs h)
theorem bls_map : ∀ {xs : List EV} {bs : List Bool} {vs : List V}, bls xs = some bs → RVs D ρ n H xs vs → vs = bs.map V.bl
  | [], bs, vs, e, r => by cases r; cases e; rfl
  | .bl b :: xs, bs, vs, e, r => by
    cases r with
    | cons r rs =>
      cases r
      simp only [bls] at e
      split at e
      · rename_i bs' e'
        cases e
        rw [List.map_cons, bls_map e' rs]
      · cases e
  | .non :: _, _, _, e, _ => by cases e
  | .int _ :: _, _, _, e, _ => by cases e
  | .str _ :: _, _, _, e, _ => by cases e
  | .tup _ :: _, _, _, e, _ => by cases e
  | .ref _ :: _, _, _, e, _ => by cases e
  | .fn _ :: _, _, _, e, _ => by cases e
  | .kl _ :: _, _, _, e, _ => by cases e
theorem listAt_sq (rh : RH D ρ h H) {v : EV} {w : V} {xs : List EV} (e : listAt h v = some xs) (r : RV D ρ h.n H v w) : ∃ a vs, w = .ref a ∧ RVs D ρ h.n H xs vs ∧ SqL D.K H a vs := by
  cases r with
  | ref hi =>
    simp only [listAt] at e
    split at e
    · rename_i ec
      cases e
      obtain ⟨vs, rs, sq, _⟩ := rh.sq ec
      exact ⟨_, vs, rfl, rs, sq⟩
    · cases e
  | _ => cases e
theorem items_sq (rh : RH D ρ h H) {v : EV} {w : V} {xs : List EV} (e : items h v = some xs) (r : RV D ρ h.n H v w) : ∃ a vs, w = .ref a ∧ RVs D ρ h.n H xs vs ∧ (SqL D.K H a vs ∨ SqT D.K H a vs) := by
  cases r with
  | ref hi =>
    simp only [items] at e
    split at e
    · rename_i ec
      cases e
      obtain ⟨vs, rs, sq, _⟩ := rh.sq ec
      exact ⟨_, vs, rfl, rs, .inl sq⟩
    · cases e
  | tup q1 r1 =>
    cases e
    exact ⟨_, _, rfl, r1, .inr q1⟩
  | kl q1 r1 =>
    cases e
    exact ⟨_, _, rfl, r1, .inl q1.sq⟩
  | _ => cases e
theorem call_all_E (F : Fit D X) (hc : X.calm = true) : CallR X (.builtin "all") (rBi D E .all) := by
  intro pins s σ H xs us Q I r hq
  obtain ⟨ρ, h, vs, rh, rvs, af⟩ := hq
  simp only [biE] at af
  split at af
  · rename_i v
    cases rvs with
    | cons rv rn =>
      cases rn
      split at af
      · rename_i ys ey
        split at af
        · rename_i bs eb
          obtain ⟨a, ws, rfl, rws, sq⟩ := listAt_sq rh ey rv
          have e := bls_map eb rws
          subst e
          exact cr_all hc pins s σ H _ us Q I r ⟨a, bs, rfl, F.K ▸ sq, af.bool rh⟩
        · exact af.elim
      · exact af.elim
  · exact af.elim
theorem call_any_E (F : Fit D X) (hc : X.calm = true) : CallR X (.builtin "any") (rBi D E .any) := by
  intro pins s σ H xs us Q I r hq
  obtain ⟨ρ, h, vs, rh, rvs, af⟩ := hq
  simp only [biE] at af
  split at af
  · rename_i v
    cases rvs with
    | cons rv rn =>
      cases rn
      split at af
      · rename_i ys ey
        split at af
        · rename_i bs eb
          obtain ⟨a, ws, rfl, rws, sq⟩ := listAt_sq rh ey rv
          have e := bls_map eb rws
          subst e
          exact cr_any hc pins s σ H _ us Q I r ⟨a, bs, rfl, F.K ▸ sq, af.bool rh⟩
        · exact af.elim
      · exact af.elim
  · exact af.elim
theorem call_list_E (F : Fit D X) : CallR X (.type "list") (rBi D E .list) := by
  intro pins s σ H xs us Q I r hq
  obtain ⟨ρ, h, vs, rh, rvs, af⟩ := hq
  simp only [biE] at af
  split at af
  · rename_i v
    cases rvs with
    | cons rv rn =>
      cases rn
      split at af
      · rename_i ys ey
        obtain ⟨a, ws, rfl, rws, sq⟩ := items_sq rh ey rv
        have hz : ys.length ≤ sizeLine := by
          rw [rws.length]
          rcases sq with sq | sq
          · obtain ⟨_, _, _, z⟩ := I.list (F.K ▸ sq); exact z
          · obtain ⟨_, _, _, z⟩ := I.tuple (F.K ▸ sq); exact z
        exact call_list_of pins s σ H _ us Q I r ⟨a, ws, rfl, F.K ▸ sq, fun p hp => af.mkL rh rws hz hp⟩
      · exact af.elim
  · exact af.elim
theorem call_tuple_E (F : Fit D X) : CallR X (.type "tuple") (rBi D E .tuple) := by
  intro pins s σ H xs us Q I r hq
  obtain ⟨ρ, h, vs, rh, rvs, af⟩ := hq
  simp only [biE] at af
  split at af
  · rename_i v
    cases rvs with
    | cons rv rn =>
      cases rn
      split at af
      · rename_i ys ey
        obtain ⟨a, ws, rfl, rws, sq⟩ := items_sq rh ey rv
        refine call_tuple_of pins s σ H _ us Q I r ⟨a, ws, rfl, ?_⟩
        rcases sq with sq | sq
        · exact .inl ⟨F.K ▸ sq, fun p hp => af.tup rh rws hp⟩
        · exact .inr ⟨F.K ▸ sq, af.val rh (.tup sq rws)⟩
      · exact af.elim
  · exact af.elim
theorem call_int_E (F : Fit D X) : CallR X (.type "int") (rBi D E .int) := by
  intro pins s σ H xs us Q I r hq
  obtain ⟨ρ, h, vs, rh, rvs, af⟩ := hq
  simp only [biE] at af
  split at af
  · rename_i i
    cases rvs with
    | cons rv rn =>
      cases rn
      cases rv
      exact call_int1 pins s σ H _ us Q I r (.inl ⟨i, rfl, af.int rh⟩)
  · exact af.elim
theorem call_abs_E (F : Fit D X) : CallR X (.builtin "abs") (rBi D E .abs) := by
  intro pins s σ H xs us Q I r hq
  obtain ⟨ρ, h, vs, rh, rvs, af⟩ := hq
  simp only [biE] at af
  split at af
  · rename_i i
    cases rvs with
    | cons rv rn =>
      cases rn
      cases rv
      have q := af.int rh
      refine call_abs pins s σ H _ us Q I r ⟨i, rfl, ?_⟩
      have e : (if i < 0 then -i else i) = absI i := by
        cases i with
        | ofNat k => exact if_neg (by simp only [Int.ofNat_eq_natCast]; omega)
        | negSucc k => rw [if_pos (by omega)]; rfl
      rw [e]; exact q
  · exact af.elim
theorem call_len_E (F : Fit D X) : CallR X (.builtin "len") (rBi D E .len) := by
  intro pins s σ H xs us Q I r hq
  obtain ⟨ρ, h, vs, rh, rvs, af⟩ := hq
  simp only [biE] at af
  split at af
  · rename_i z
    cases rvs with
    | cons rv rn =>
      cases rn
      cases rv
      split at af
      · rename_i ez
        exact call_len_str pins s σ H _ us Q I r ⟨z, rfl, sz_le ez, af.int rh⟩
      · exact af.elim
  · rename_i v hno
    cases rvs with
    | cons rv rn =>
      cases rn
      split at af
      · rename_i ys ey
        have q := af.int rh
        cases rv with
        | ref hi =>
          rename_i i
          simp only [itemsD] at ey
          split at ey
          · rename_i ec
            cases ey
            obtain ⟨ws, rs, sq, hz⟩ := rh.sq ec
            refine call_len_seq pins s σ H _ us Q I r ⟨_, ws, rfl, .inl (F.K ▸ sq), ?_⟩
            rw [← rs.length]; exact q
          · rename_i kvs lk ec
            cases ey
            obtain ⟨xs, rks, hm, hsm, hz⟩ := (rh.at ec).dict F I
            obtain ⟨u, rfl, ru⟩ := vals1 r
            cases ru
            have hm' : s.heap.DictOfH (nestedKind X.prog X.w) (ρ i) xs := by rw [F.P, F.w]; exact hm
            refine Calls.call_function_entry PySem.kind_len PySem.plain_len PySem.entry_len (PySem.args_len1 _) (call_len_dH hsm hm' ?_ ⟨.int _, H, (I.tok _), ⟨_, rfl⟩, ?_⟩)
            · have : sizeLine = 16777216 := sizeLine_eq
              omega
            · rw [← rks.length]
              rw [List.length_map] at q
              exact q
          · cases ey
        | tup q1 r1 =>
          cases ey
          refine call_len_seq pins s σ H _ us Q I r ⟨_, _, rfl, .inr (F.K ▸ q1), ?_⟩
          rw [← r1.length]; exact q
        | _ => cases ey
      · exact af.elim
  · exact af.elim

/-! ### methods -/
def rMe (D : Da) (E : XK) (T : Kd) (m : Me) : V → List V → Hp → VK → Prop := fun x xs H Q => ∃ ρ h a vs, RH D ρ h H ∧ RV D ρ h.n H a x ∧ RVs D ρ h.n H vs xs ∧ Af D ρ h.n H E (pV D Q) (metE T m a vs h)
theorem metE_lst {m : Me} {a : EV} {vs : List EV} {post : EV → EH → Ro → Hp → Prop} (af : Af D ρ n H E post (metE .lst m a vs h)) : ∃ i xs lk, a = .ref i ∧ h.get i = some (.lst xs lk) ∧ Af D ρ n H E post (lstM m i xs lk vs h) := by
  cases a with
  | ref i =>
    simp only [metE] at af
    split at af
    · rename_i xs lk ec
      exact ⟨i, xs, lk, rfl, ec, af⟩
    · exact af.elim
    · exact af.elim
  | _ => exact af.elim
theorem metE_dct {m : Me} {a : EV} {vs : List EV} {post : EV → EH → Ro → Hp → Prop} (af : Af D ρ n H E post (metE .dct m a vs h)) : ∃ i kvs lk, a = .ref i ∧ h.get i = some (.dct kvs lk) ∧ Af D ρ n H E post (dctM m i kvs lk vs h) := by
  cases a with
  | ref i =>
    simp only [metE] at af
    split at af
    · exact af.elim
    · rename_i xs lk ec
      exact ⟨i, xs, lk, rfl, ec, af⟩
    · exact af.elim
  | _ => exact af.elim
/-- a list's cell is written -/
theorem Af.wrL {i : Nat} {xs ys : List EV} {vs : List V} {r : EV} {w : V} {Q : VK} (rh : RH D ρ h H) (ec : h.get i = some (.lst xs false)) (rs : RVs D ρ h.n H ys vs) (hz : ys.length ≤ sizeLine) (rr : RV D ρ h.n H r w)
    (af : Af D ρ h.n H E (pV D Q) (.ok r (h.put i (.lst ys false)))) : Q w (upd H (ρ i) (.lst vs)) := by
  obtain ⟨_, ws, _, q⟩ := rh.at ec
  have hi := EH.get_lt ec
  have x : Xt ρ h.n H ρ h.n (upd H (ρ i) (.lst vs)) := Xt.write hi q trivial
  exact af _ _ x (rh.write hi q trivial ⟨hz, vs, rs.mono x, upd_same⟩) w (rr.mono x)
theorem mt_append_E (F : Fit D X) : MtR X "list.append" (rMe D E .lst .append) := by
  intro pins s σ H x xs v us Q I rx rxs hq
  obtain ⟨ρ, h, a, vs, rh, ra, rvs, af⟩ := hq
  obtain ⟨i, ys, lk, rfl, ec, af⟩ := metE_lst af
  simp only [lstM] at af
  split at af
  · split at af
    · rename_i y
      split at af
      · rename_i ez
        cases ra
        cases rvs with
        | cons ry rn =>
          cases rn
          obtain ⟨_, ws, rws, q⟩ := rh.at ec
          have hz := sz_le ez
          refine mt_append pins s σ H _ _ v us Q I rx rxs ⟨_, ws, _, rfl, rfl, q, ?_, Af.wrL rh ec (rws.append (.cons ry .nil)) (by simpa using hz) .non af⟩
          rw [← rws.length]
          have : sizeLine = 16777216 := sizeLine_eq
          omega
      · exact af.elim
    · exact af.elim
  · exact af.elim
theorem mt_extend_E (F : Fit D X) : MtR X "list.extend" (rMe D E .lst .extend) := by
  intro pins s σ H x xs v us Q I rx rxs hq
  obtain ⟨ρ, h, a, vs, rh, ra, rvs, af⟩ := hq
  obtain ⟨i, ys, lk, rfl, ec, af⟩ := metE_lst af
  simp only [lstM] at af
  split at af
  · split at af
    · rename_i j
      split at af
      · rename_i zs ec2
        split at af
        · rename_i ez
          cases ra
          cases rvs with
          | cons ry rn =>
            cases rn
            cases ry
            obtain ⟨_, ws, rws, q⟩ := rh.at ec
            obtain ⟨_, ws2, rws2, q2⟩ := rh.at ec2
            have hz := sz_le ez
            refine mt_extend pins s σ H _ _ v us Q I rx rxs ⟨_, _, ws, ws2, rfl, rfl, q, q2, ?_, Af.wrL rh ec (rws.append rws2) hz .non af⟩
            rw [← rws.length, ← rws2.length, ← List.length_append]; exact hz
        · exact af.elim
      · exact af.elim
    · exact af.elim
  · exact af.elim
theorem ixE_seq {n : Nat} {i : Int} {k : Nat} (e : ixE n i = some k) : seqIndex? i n = some k ∧ k < n ∧ -(n : Int) ≤ i ∧ i < n := ixN_seq (by rw [← ixE_eq]; exact e)
theorem mt_pop_E (F : Fit D X) : MtR X "list.pop" (rMe D E .lst .pop) := by
  intro pins s σ H x xs v us Q I rx rxs hq
  obtain ⟨ρ, h, a, vs, rh, ra, rvs, af⟩ := hq
  obtain ⟨i, ys, lk, rfl, ec, af⟩ := metE_lst af
  simp only [lstM] at af
  split at af
  · split at af
    · split at af
      · rename_i y ey
        cases ra
        cases rvs
        obtain ⟨hz, ws, rws, q⟩ := rh.at ec
        obtain ⟨w, ew, rw'⟩ := rws.get ey
        have hd : RVs D ρ h.n H ys.dropLast ws.dropLast := by
          rw [List.dropLast_eq_take, List.dropLast_eq_take, ← rws.length]
          exact rws.take _
        refine mt_pop pins s σ H _ _ v us Q I rx rxs ⟨_, ws, w, rfl, rfl, q, by rw [← rws.length]; exact ew, Af.wrL rh ec hd ?_ rw' af⟩
        rw [List.length_dropLast]
        omega
      · exact af.elim
    · rename_i j _
      split at af
      · rename_i k ek
        split at af
        · rename_i y ey
          cases ra
          cases rvs with
          | cons rj rn =>
            cases rn
            cases rj
            obtain ⟨hz, ws, rws, q⟩ := rh.at ec
            obtain ⟨w, ew, rw'⟩ := rws.get ey
            obtain ⟨h1, h2, h3, h4⟩ := ixE_seq ek
            have hs : sizeLine = 16777216 := sizeLine_eq
            refine mt_popAt pins s σ H _ _ v us Q I rx rxs ⟨_, ws, j, k, w, rfl, rfl, q, by omega, by omega, by rw [← rws.length]; exact h1, ew, Af.wrL rh ec (rws.eraseIdx k) ?_ rw' af⟩
            rw [List.length_eraseIdx]
            split <;> omega
        · exact af.elim
      · exact af.elim
    · exact af.elim
  · exact af.elim
theorem seek_ok (rh : RH D ρ h H) {xs : List EV} {v : EV} {ds : List PyData} {d : PyData} {vs : List V} {w : V} (e : seek h xs v = some (ds, d)) (rs : RVs D ρ h.n H xs vs) (rv : RV D ρ h.n H v w) :
    DpAll D.K H vs ds ∧ Dp D.K H w d ∧ SeqAt.shaped d = true ∧ SeqAt.shaped (.list ds) = true := by
  unfold seek at e
  split at e
  · rename_i d' e1
    split at e
    · rename_i ds' e2
      split at e
      · rename_i s1
        split at e
        · rename_i s2
          cases e
          exact ⟨dpall_of rh _ e2 rs, dp_of rh _ _ _ _ e1 rv, s1, s2⟩
        · cases e
      · cases e
    · cases e
  · cases e
theorem mt_index_E (F : Fit D X) (hr : Room 0 X.A) : MtR X "list.index" (rMe D E .lst .index) := by
  intro pins s σ H x xs v us Q I rx rxs hq
  obtain ⟨ρ, h, a, vs, rh, ra, rvs, af⟩ := hq
  obtain ⟨i, ys, lk, rfl, ec, af⟩ := metE_lst af
  have hu' : X.A.units + 65 < cLine := by have := hr.un; omega
  simp only [lstM] at af
  split at af
  · rename_i y
    split at af
    · rename_i ds d es
      split at af
      · rename_i j ej
        cases ra
        cases rvs with
        | cons ry rn =>
          cases rn
          obtain ⟨ws, rws, sq, hz⟩ := rh.sq ec
          obtain ⟨h1, h2, h3, h4⟩ := seek_ok rh es rws ry
          rw [List.findIdx?_eq_some_iff_getElem] at ej
          obtain ⟨hj, e1, e2⟩ := ej
          refine mt_indexD hu' pins s σ H _ _ v us Q I rx rxs ⟨_, _, d, ds, j, ds[j], rfl, rfl, F.K ▸ Dp.lst sq h1, F.K ▸ h2, h4, h3, List.getElem?_eq_getElem hj, e1, fun m z hm hz => ?_, af.int rh⟩
          have hm' : m < ds.length := by omega
          rw [List.getElem?_eq_getElem hm'] at hz
          cases hz
          simpa using e2 m hm
      · exact af.elim
    · exact af.elim
  · exact af.elim
theorem mt_count_E (F : Fit D X) (hr : Room 0 X.A) : MtR X "list.count" (rMe D E .lst .count) := by
  intro pins s σ H x xs v us Q I rx rxs hq
  obtain ⟨ρ, h, a, vs, rh, ra, rvs, af⟩ := hq
  obtain ⟨i, ys, lk, rfl, ec, af⟩ := metE_lst af
  have hu' : X.A.units + 65 < cLine := by have := hr.un; omega
  simp only [lstM] at af
  split at af
  · rename_i y
    split at af
    · rename_i ds d es
      cases ra
      cases rx
      cases rvs with
      | cons ry rn =>
        cases rn
        cases rxs with
        | cons rxy rt =>
          cases rt
          obtain ⟨ws, rws, sq, hz⟩ := rh.sq ec
          obtain ⟨ha, hy, s1, s2⟩ := seek_ok rh es rws ry
          obtain ⟨bs, r1⟩ := Dp.reads I d _ _ (F.K ▸ hy) rxy
          have hxs : PyData.canLayAll0 ds = true := SeqAt.canLay_of_shaped s2
          have hroom : X.A.units + 1 + min (PyData.depthAll ds) d.depth < cLine := room_in_shaped s1 hu'
          obtain ⟨its, rv, ⟨⟨cls, dd, data, sls⟩, m, ho, hc, hdn, hdt⟩, hlen⟩ := I.list (F.K ▸ sq)
          simp only at hc hdt
          subst hc hdt
          obtain ⟨as, h4⟩ := Dp.readsAll I ds _ its (F.K ▸ ha) rv
          have hmap : its.map (SeqAt.readOf s.heap) = ds := SeqAt.readsAll_map ds its as hxs h4
          refine call_meets PySem.F.slot_list_count ⟨_, ho, rfl⟩ PySem.F.entry_list_count (PySem.F.args_list_count_2 _ _)
            (SeqAt.list_countAt _ its.toArray m dd sls _ (fun u => PyData.eqv (SeqAt.readOf s.heap u) d)) ⟨ho, SeqAt.items_eqAt (vs := its.toArray) (show ReadsAll s.heap its.toArray.toList ds as from h4) r1 hxs (SeqAt.canLay_of_shaped s1) hroom, ?_⟩
          refine ⟨.int _, H, I.tok _, ⟨_, rfl⟩, ?_⟩
          have e : its.toArray.toList.countP (fun u => PyData.eqv (SeqAt.readOf s.heap u) d) = ds.countP fun z => PyData.eqv z d := by
            rw [← hmap, List.countP_map]
            rfl
          rw [e]
          exact af.int rh
    · exact af.elim
  · exact af.elim
theorem mt_get_E (F : Fit D X) (hr : Room 0 X.A) : MtR X "dict.get" (rMe D E .dct .get) := by
  intro pins s σ H x xs v us Q I rx rxs hq
  obtain ⟨ρ, h, a, vs, rh, ra, rvs, af⟩ := hq
  obtain ⟨i, kvs, lk, rfl, ec, af⟩ := metE_dct af
  simp only [dctM] at af
  split at af
  · rename_i k y
    split at af
    · rename_i hk
      cases ra
      cases rx
      obtain ⟨ks, rfl⟩ := kT_tup hk
      cases rvs with
      | cons rk rn =>
        cases rn with
        | cons ry rn =>
          cases rn
          cases rxs with
          | cons rxk rt =>
            cases rt with
            | cons rxy rt =>
              cases rt
              cases rk with
              | tup q1 r1 =>
                cases rxk
                obtain ⟨ws, rks, hm, hsm, hz⟩ := (rh.at ec).dict F I
                have hm' : s.heap.DictOfH (nestedKind X.prog X.w) (ρ i) ws := by rw [F.P, F.w]; exact hm
                have hk' := key_is F I hk (RV.tup q1 r1)
                rw [← F.P, ← F.w] at hk'
                have hu : (nestedKind X.prog X.w).room X.A.in1 := by
                  show X.A.units + 1 + 8 < cLine
                  have := hr.un
                  omega
                refine call_meetsIn PySem.F.slot_dict_get hm'.typeIs PySem.F.entry_dict_get (PySem.F.args_dict_get_3 _ _ _) (meetsH_dict_get_default (nestedKind X.prog X.w) _ _ hsm _) ⟨hu, _, ws, hk', hm', ?_⟩
                rcases dget_at rks hk with ⟨e1, e2⟩ | ⟨z, a', w, u, e1, e2, rz, ru⟩
                · rw [e1] at af
                  rw [e2]
                  exact ⟨_, H, I.tok _, rxy, af.val rh ry⟩
                · rw [e1] at af
                  rw [e2]
                  exact ⟨w, H, I.tok _, ru, af.val rh rz⟩
    · exact af.elim
  · exact af.elim
end
end EM
end
section
set_option Elab.async false
set_option linter.all false
set_option maxRecDepth 100000
/-! E8: sorted. -/
namespace EM
open PySem PySem.Spec PyProof.Rows L2

/-! ### the machine's own sort is the library's -/
abbrev sK : KeyOrd := listOrd PyProof.Rows.itemOrd
abbrev sF (p : PyData × EV) : sK.α := PySem.W.keyToks p.1
abbrev sLe : PyData × EV → PyData × EV → Bool := PySem.W.sortLe sK false sF
theorem sLe_eq (a b : PyData × EV) : sLe a b = !PySem.W.dataLt b.1 a.1 := rfl
theorem sLe_tot : PySem.W.TotalLe sLe := PySem.W.sortLe_total sK false sF
theorem ins_filter (c x : PyData × EV) : ∀ l, (ins x l).filter (PySem.W.sameRank sLe c) = (x :: l).filter (PySem.W.sameRank sLe c)
  | [] => rfl
  | y :: r => by
    unfold ins
    split
    · rename_i e
      have ih := ins_filter c x r
      by_cases hy : PySem.W.sameRank sLe c y = true
      · have hx : ¬ PySem.W.sameRank sLe c x = true := fun hx => by
          unfold PySem.W.sameRank at hx hy
          rw [Bool.and_eq_true] at hx hy
          have t := sLe_tot.trans x c y hx.2 hy.1
          rw [sLe_eq, e] at t
          cases t
        rw [List.filter_cons_of_pos hy, ih, List.filter_cons_of_neg hx, List.filter_cons_of_neg hx, List.filter_cons_of_pos hy]
      · rw [List.filter_cons_of_neg hy, ih]
        by_cases hx : PySem.W.sameRank sLe c x = true
        · rw [List.filter_cons_of_pos hx, List.filter_cons_of_pos hx, List.filter_cons_of_neg hy]
        · rw [List.filter_cons_of_neg hx, List.filter_cons_of_neg hx, List.filter_cons_of_neg hy]
    · rfl
theorem ins_perm (x : PyData × EV) : ∀ l, (ins x l).Perm (x :: l)
  | [] => List.Perm.refl _
  | y :: r => by
    unfold ins
    split
    · exact ((ins_perm x r).cons y).trans (List.Perm.swap x y r)
    · exact List.Perm.refl _
theorem isort_perm : ∀ l, (isort l).Perm l
  | [] => List.Perm.refl _
  | x :: r => (ins_perm x (isort r)).trans ((isort_perm r).cons x)
theorem ins_srt (x : PyData × EV) : ∀ l, l.Pairwise (fun a b => sLe a b = true) → (ins x l).Pairwise fun a b => sLe a b = true
  | [], _ => List.pairwise_singleton _ _
  | y :: r, s => by
    unfold ins
    have s' := List.pairwise_cons.mp s
    split
    · rename_i e
      have hyx : sLe y x = true := by
        rcases sLe_tot.total x y with t | t
        · rw [sLe_eq, e] at t; cases t
        · exact t
      refine List.pairwise_cons.mpr ⟨fun z hz => ?_, ins_srt x r s'.2⟩
      rcases List.mem_cons.mp ((ins_perm x r).mem_iff.mp hz) with rfl | hm
      · exact hyx
      · exact s'.1 z hm
    · rename_i e
      have hxy : sLe x y = true := by rw [sLe_eq, e]; rfl
      refine List.pairwise_cons.mpr ⟨fun z hz => ?_, s⟩
      rcases List.mem_cons.mp hz with rfl | hz
      · exact hxy
      · exact sLe_tot.trans _ _ _ hxy (s'.1 z hz)
theorem isort_srt : ∀ l, (isort l).Pairwise fun a b => sLe a b = true
  | [] => List.Pairwise.nil
  | x :: r => ins_srt x _ (isort_srt r)
theorem isort_filter (c : PyData × EV) : ∀ l, (isort l).filter (PySem.W.sameRank sLe c) = l.filter (PySem.W.sameRank sLe c)
  | [] => rfl
  | x :: r => by
    show (ins x (isort r)).filter _ = _
    rw [ins_filter]
    by_cases hx : PySem.W.sameRank sLe c x = true
    · rw [List.filter_cons_of_pos hx, List.filter_cons_of_pos hx, isort_filter c r]
    · rw [List.filter_cons_of_neg hx, List.filter_cons_of_neg hx, isort_filter c r]
theorem isort_merge (l : List (PyData × EV)) : isort l = l.mergeSort sLe := PySem.W.sort_unique sLe_tot (isort_srt l) fun c => isort_filter c l

section
variable {D : Da} {X : Cx} {ρ : Ro} {n : Nat} {H : Hp} {h : EH} {Q : VK} {E : XK} {pins : List (Addr × Obj)} {s : Shared} {σ : L2.St}
theorem reads_each {hp : Heap} : ∀ {us : List Value} {ds : List PyData} {as : List Addr}, ReadsAll hp us ds as → PySem.W.EachIs (fun v d => ∃ as, Reads hp v d as) us ds
  | _, _, _, .nil => .nil
  | _, _, _, .cons r rs => .cons ⟨_, r⟩ (reads_each rs)
theorem keys_each {hp : Heap} {ds₀ : List PyData} (hal : PySem.W.AllAlike ds₀) {us : List Value} {ds : List PyData} (t : PySem.W.EachIs (fun v d => ∃ as, Reads hp v d as) us ds) :
    ∀ {xs : List EV}, (∀ d ∈ ds, d ∈ ds₀) → ds.length = xs.length → PySem.W.EachIs (fun v p => (PySem.W.dataKind hp ds₀).keyOf v = some (sF p)) us (ds.zip xs) := by
  induction t with
  | nil =>
    intro xs _ l
    cases xs with
    | nil => exact .nil
    | cons _ _ => cases l
  | cons h1 t ih =>
    intro xs hm l
    obtain ⟨as, r⟩ := h1
    cases xs with
    | nil => cases l
    | cons x xs => exact .cons (PySem.W.dataKind_some hal (hm _ (by simp)) r) (ih (fun d' h' => hm d' (by simp [h'])) (Nat.succ.inj l))
theorem vals_each : ∀ {xs : List EV} {vs : List V} {us : List Value} {ds : List PyData}, RVs D ρ n H xs vs → Vals vs us → ds.length = xs.length → PySem.W.EachIs (fun u (p : PyData × EV) => ∃ v, RelV v u ∧ RV D ρ n H p.2 v) us (ds.zip xs)
  | _, _, _, ds, .nil, .nil, l => by
    cases ds with
    | nil => exact .nil
    | cons _ _ => cases l
  | _, _, _, ds, .cons r rs, .cons q qs, l => by
    cases ds with
    | nil => cases l
    | cons d ds => exact .cons ⟨_, q, r⟩ (vals_each rs qs (Nat.succ.inj l))
theorem each_vals : ∀ {us : List Value} {ps : List (PyData × EV)}, PySem.W.EachIs (fun u (p : PyData × EV) => ∃ v, RelV v u ∧ RV D ρ n H p.2 v) us ps → ∃ vs, RVs D ρ n H (ps.map Prod.snd) vs ∧ Vals vs us
  | _, _, .nil => ⟨[], .nil, .nil⟩
  | _, _, .cons ⟨v, a, b⟩ t => let ⟨vs, c, d⟩ := each_vals t; ⟨v :: vs, .cons b c, .cons a d⟩
theorem all_of {α : Type} {p : α → Bool} {l : List α} (e : l.all p = true) : ∀ x ∈ l, p x = true := List.all_eq_true.mp e
theorem sortD_ok {ds : List PyData} (e : sortD ds = true) : PySem.W.AllAlike ds ∧ PySem.W.Sortable ds ∧ ∀ d ∈ ds, SeqAt.shaped d = true := by
  unfold sortD at e
  split at e
  · rename_i e1
    split at e
    · rename_i e2
      have h1 : PySem.W.AllAlike ds := fun d hd d' hd' => all_of (all_of e1 d hd) d' hd'
      refine ⟨h1, ?_, all_of e2⟩
      split at e
      · rename_i e3
        left
        intro d hd
        have t := all_of e3 d hd
        cases d with
        | tuple xs =>
          cases xs with
          | nil => cases t
          | cons x r => exact ⟨x, r, rfl⟩
        | _ => cases t
      · right
        intro d hd
        have t := all_of e d hd
        constructor
        · rintro rfl; cases t
        · rintro xs rfl; cases t
    · cases e
  · cases e
theorem mapO_len {α β : Type} {g : α → Option β} : ∀ {xs : List α} {ys : List β}, mapO g xs = some ys → ys.length = xs.length
  | [], ys, e => by cases e; rfl
  | x :: xs, ys, e => by
    unfold mapO at e
    split at e
    · split at e
      · rename_i e2
        cases e
        simp [mapO_len e2]
      · cases e
    · cases e
/-- sorted, whatever is collected -/
theorem sortedX (F : Fit D X) (hr : Room 0 X.A) {x : Value} {xs : List EV} {ds : List PyData} {vs : List V} {us : List Value} (I : Inv X pins σ H s) (rs : RVs D ρ n H xs vs) (rv : Vals vs us) (hd : DpAll D.K H vs ds) (hs : sortD ds = true) (hlen : ds.length = xs.length)
    (hcol : ∀ (Q : List Value → Shared → Prop) (E : Value → Shared → Prop), (∀ h' tk, (∀ b o, s.heap.get? b = some o → h'.get? b = some o) → s.heap.objs.size ≤ h'.objs.size → Q us { s with heap := h', toks := tk }) → wpAny (model X.prog X.w) X.A.in1 (collect x) Q E s)
    (hL : xs.length ≤ sizeLine)
    (q : ∀ p ws, H p = none → RVs D ρ n H ((isort (ds.zip xs)).map Prod.snd) ws → Q (.ref p) (upd H p (.lst ws))) :
    wpAny (model X.prog X.w) X.A (call (.builtin "sorted") [x]) (EP X pins σ Q) X.xe s := by
  have hus : us.length ≤ sizeLine := by rw [← rv.length, ← rs.length]; exact hL
  obtain ⟨hal, hso, hsh⟩ := sortD_ok hs
  obtain ⟨as, hra⟩ := Dp.readsAll I ds vs us (F.K ▸ hd) rv
  have he := reads_each hra
  refine Calls.call_function_entry kind_sorted plain_sorted entry_sorted (args_sorted1 _) ?_
  unfold Builtin.«sorted»
  refine wpAny_bind (m := checkCount "sorted" 1 1 _) (wpAny_pure ?_)
  refine wpAny_bind (hcol _ _ fun h' tk k1 hsz => ?_)
  refine wpAny_bind (wpAny_newList ?_ (by exact hus))
  have hoL : (h'.push (seqObj "list" us.toArray 0)).get? h'.objs.size = some (seqObj "list" us.toArray 0) := Heap.get?_push_size _ rfl
  have kS : ∀ b o, s.heap.get? b = some o → (PySem.W.sortingHeap (h'.push (seqObj "list" us.toArray 0)) h'.objs.size us).get? b = some o := fun b o e => by
    have hb := k1 b o e
    exact PySem.W.sortingHeap_old (Nat.ne_of_lt (Heap.lt_size hb)) (Heap.get?_push_of_some _ hb)
  have heS : PySem.W.EachIs (fun v d => ∃ as, Reads (PySem.W.sortingHeap (h'.push (seqObj "list" us.toArray 0)) h'.objs.size us) v d as) us ds := he.mono fun v d ⟨as, r⟩ => ⟨as, Reads.keeps kS r⟩
  refine wpAny_bind (wpAny_holding (wpAny_call_entry slot_list_sort ⟨_, hoL, rfl⟩ entry_list_sort (PySem.W.list_sort_vals hoL (PySem.W.SortsAt.data heS hal hso fun d hd => ?roomG) hus ⟨_, rfl, ?retG⟩) (args_list_sort _)))
  case roomG =>
    have h1 := SeqAt.depth_of_shaped (hsh d hd)
    have h2 := hr.un
    show X.A.units + 1 + 1 + d.depth < cLine
    omega
  case retG =>
    refine wpAny_pure ⟨_, rfl, ?_⟩
    have hev := PySem.W.sortVals_each (rev := false) (κ := PySem.W.dataKind (PySem.W.sortingHeap (h'.push (seqObj "list" us.toArray 0)) h'.objs.size us) ds) sF (vals_each rs rv hlen) (keys_each hal heS (fun _ h => h) hlen)
    have hev' : PySem.W.EachIs (fun u (p : PyData × EV) => ∃ v, RelV v u ∧ RV D ρ n H p.2 v) (PySem.W.sortVals (PySem.W.dataKind (PySem.W.sortingHeap (h'.push (seqObj "list" us.toArray 0)) h'.objs.size us) ds) false us us) (isort (ds.zip xs)) := by
      rw [isort_merge]; exact hev
    obtain ⟨ws, rw', rv'⟩ := each_vals hev'
    have kp : ∀ b o, s.heap.get? b = some o → (sortedHeap (h'.push (seqObj "list" us.toArray 0)) h'.objs.size us (PySem.W.sortVals (PySem.W.dataKind (PySem.W.sortingHeap (h'.push (seqObj "list" us.toArray 0)) h'.objs.size us) ds) false us us).toArray).get? b = some o := fun b o e => by
      have hb := k1 b o e
      have hlt := Heap.lt_size hb
      rw [sortedHeap_old (Nat.ne_of_lt hlt) (by rw [size_push']; exact Nat.lt_succ_of_lt hlt), Heap.get?_push_ne _ _ _ (Nat.ne_of_lt hlt)]
      exact hb
    obtain ⟨ep, hat⟩ := sortedHeap_at (out := (PySem.W.sortVals (PySem.W.dataKind (PySem.W.sortingHeap (h'.push (seqObj "list" us.toArray 0)) h'.objs.size us) ds) false us us).toArray) hoL
    have hn := I.hok.fresh hsz
    refine ⟨.ref h'.objs.size, _, I.laid (o := .lst ws) (t' := tk) kp hsz ⟨?_, _, ep, rv', hat⟩, rfl, q _ ws hn rw'⟩
    rw [← rw'.length, List.length_map, (isort_perm _).length_eq, List.length_zip, hlen, Nat.min_self]
    exact hL
/-! ### what is sorted: a list, or a dict's keys -/
/-- a dict's keys, collected -/
theorem col_dict {prog : Program} {w : World} {A : Around} {E : Value → Shared → Prop} {s : Shared} {Q : List Value → Shared → Prop} {d : Addr} {es : Array DictEntry} {ep : Nat} (hh : A.handled = none) (lo : (d == sysModules) = false) (hm : s.heap.DictRaw d es ep) (hn : es.size ≤ sizeLine)
    (h : ∀ h' tk, (∀ b o, s.heap.get? b = some o → h'.get? b = some o) → s.heap.objs.size ≤ h'.objs.size → Q (es.toList.map (·.key)) { s with heap := h', toks := tk }) : wpAny (model prog w) A (collect (.ref d)) Q E s := by
  have src := KdlSrc.rawDict (prog := prog) (w := w) (ep := ep) (es := es) lo
  have hd := (src.there _ hm).1
  unfold collect
  refine wpAny_bind (wpAny_runValue (codeAny_builtin entry_proto_collect' ?_))
  rw [Around.under_plainId PySem.F.plain_proto_collect _]
  show wpAny _ A.in1 (newList [] >>= fun dest => again (.builtin "list.__iadd__" ⟨[dest, .ref d], []⟩)) _ _ s
  refine wpAny_bind (wpAny_newObj_type ?_)
  refine wpAny_pure ⟨plainId_quiet PySem.F.plain_list_iadd _, codeAny_builtin entry_list_iadd' ?_⟩
  rw [Around.under_plainId PySem.F.plain_list_iadd _]
  have hnew : (s.heap.push { cls := .type "list", data := .seq ([] : List Value).toArray }).get? s.heap.objs.size = some { cls := .type "list", data := .seq #[] } := Heap.get?_push_size _ rfl
  show wpAny _ A.in1 (Builtin.List.listExtendWith (.ref s.heap.objs.size) (.ref d) (.ref s.heap.objs.size)) _ _ _
  have hfin : ∀ (h' : Heap) (tk : Nat) (acc : Array Value) (c' : Nat), (∀ b o, s.heap.get? b = some o → h'.get? b = some o) → h'.get? s.heap.objs.size = some { cls := .type "list", dict := none, data := .seq acc c', slots := #[] } → ItemsOf (fun i v => ∃ hi : i < es.size, v = es[i].key) acc es.size →
      Q acc.toList { s with heap := h', toks := tk } := by
    intro h' tk acc c' hk hS hacc
    have e : acc.toList = es.toList.map (·.key) := by
      refine List.ext_getElem? fun i => ?_
      by_cases hi : i < es.size
      · have hi2 : i < acc.size := by rw [hacc.1]; exact hi
        have e1 : acc[i]? = some acc[i] := Array.getElem?_eq_getElem hi2
        obtain ⟨hi', ev⟩ := hacc.2 i _ e1
        rw [Array.getElem?_toList, e1, List.getElem?_map, Array.getElem?_toList, Array.getElem?_eq_getElem hi, ev]
        rfl
      · have hi2 : ¬ i < acc.size := by rw [hacc.1]; exact hi
        rw [Array.getElem?_toList, List.getElem?_map, Array.getElem?_toList, Array.getElem?_eq_none (by omega), Array.getElem?_eq_none (by omega)]
        rfl
    rw [e]
    exact h h' tk hk (Nat.le_of_lt (Heap.lt_size hS))
  have main := PySem.W.kdl_extend (A := A) (s := { s with heap := s.heap.push { cls := .type "list", data := .seq ([] : List Value).toArray } })
    (R := fun (q : Result) (s' : Shared) => ∃ (h' : Heap) (tk : Nat) (acc : Array Value) (c' : Nat), q = .ok (.ret (.ref s.heap.objs.size)) ∧ s' = { s with heap := h', toks := tk } ∧
      (∀ b o, s.heap.get? b = some o → h'.get? b = some o) ∧ h'.get? s.heap.objs.size = some { cls := .type "list", dict := none, data := .seq acc c', slots := #[] } ∧ ItemsOf (fun i v => ∃ hi : i < es.size, v = es[i].key) acc es.size)
    src hh (src.keep _ _ hm fun b _ o e => Heap.get?_push_of_some _ e) s.heap.objs.size (Nat.ne_of_gt hd) (Nat.ne_of_gt hd) (.ref s.heap.objs.size) 0 hnew
    (fun h' tk acc c' hk hS hacc => ⟨h', tk, acc, c', rfl, rfl, fun b o e => hk b o (Nat.ne_of_lt (Heap.lt_size e)) (Heap.get?_push_of_some _ e), hS, hacc⟩) hn
  refine wpAny_mono main (fun fin s' x => ?_) fun e s' x => ?_
  · cases fin with
    | done f =>
      obtain ⟨h', tk, acc, c', e, rfl, hk, hS, hacc⟩ := x
      cases e
      show wpAny _ A (load s.heap.objs.size >>= _) _ _ _
      exact wpAny_bind (wpAny_load hS (wpAny_pure (hfin h' tk acc c' hk hS hacc)))
    | again cd =>
      refine ⟨x.1, codeAny_mono x.2 fun q s₂ y => ?_⟩
      obtain ⟨h', tk, acc, c', rfl, rfl, hk, hS, hacc⟩ := y
      show wpAny _ A (load s.heap.objs.size >>= _) _ _ _
      exact wpAny_bind (wpAny_load hS (wpAny_pure (hfin h' tk acc c' hk hS hacc)))
  · obtain ⟨_, _, _, _, e, _⟩ := x
    cases e
theorem RKs.vs {kvs : List (EV × EV)} {xs : List (NestedKey × Addr × Value)} (r : RKs D ρ n H kvs xs) : RVs D ρ n H (kvs.map Prod.fst) (xs.map fun x => V.ref x.2.1) ∧ Vals (xs.map fun x => V.ref x.2.1) (xs.map fun x => Value.ref x.2.1) := by
  induction r with
  | nil => exact ⟨.nil, .nil⟩
  | cons a b c d _ ih => exact ⟨.cons b ih.1, .cons rfl ih.2⟩
theorem call_sorted_E (F : Fit D X) (hr : Room 0 X.A) : CallR X (.builtin "sorted") (rBi D E .sorted) := by
  intro pins s σ H xs us Q I r hq
  obtain ⟨ρ, h, vs, rh, rvs, af⟩ := hq
  simp only [biE] at af
  split at af
  · rename_i v
    cases rvs with
    | cons rv rn =>
      cases rn
      obtain ⟨u, rfl, ru⟩ := vals1 r
      split at af
      · rename_i ys ey
        split at af
        · rename_i zs ez
          unfold sortE at ez
          split at ez
          · rename_i ds ed
            split at ez
            · rename_i es
              cases ez
              cases rv with
              | ref hi =>
                rename_i i
                cases ru
                simp only [keysD] at ey
                split at ey
                · rename_i ec
                  cases ey
                  obtain ⟨ws, rs, sq, hz⟩ := rh.sq ec
                  obtain ⟨its, rits, hl, _⟩ := I.list (F.K ▸ sq)
                  refine sortedX F hr I rs rits (dpall_of rh _ ed rs) es (mapO_len ed) (fun Q E q => ?_) hz fun p ws' hp rw' => af.mkL rh rw' ?_ hp
                  · refine collect_list ?_ (q _ _ (fun b o e => ?_) ?_) (by rw [← rits.length, ← rs.length]; exact hz)
                    · obtain ⟨o, m, ho, hc, hdn, hd⟩ := hl
                      exact ⟨o, ho, hc, m, hd⟩
                    · have hlt := Heap.lt_size e
                      rw [Heap.get?_update_ne _ _ _ _ (Nat.ne_of_lt hlt), Heap.get?_push_ne _ _ _ (Nat.ne_of_lt hlt)]
                      exact e
                    · rw [Heap.size_update, size_push']
                      exact Nat.le_succ _
                  · rw [List.length_map, (isort_perm _).length_eq, List.length_zip, mapO_len ed, Nat.min_self]
                    exact hz
                · rename_i kvs lk ec
                  cases ey
                  obtain ⟨ks, rks, ⟨o, es', ep, ho, hx, hdt, hes, hnd⟩, hsm, hz⟩ := (rh.at ec).dict F I
                  obtain ⟨r1, r2⟩ := rks.vs
                  have hsz : es'.size = ks.length := by rw [← Array.length_toList, hes, List.length_map]
                  have hzk : (kvs.map Prod.fst).length ≤ sizeLine := by rw [List.length_map, rks.length]; exact hz
                  refine sortedX F hr I r1 r2 (dpall_of rh _ ed r1) es (mapO_len ed) (fun Q E q => ?_) hzk fun p ws' hp rw' => af.mkL rh rw' ?_ hp
                  · have e : es'.toList.map (·.key) = ks.map fun x => Value.ref x.2.1 := by
                      rw [hes, List.map_map]
                      rfl
                    have q' := e ▸ q
                    exact col_dict (es := es') (ep := ep) hr.hd hsm ⟨o, ho, hx, hdt⟩ (by rw [hsz]; exact hz) fun h' tk k1 k2 => by
                      rw [e]
                      exact q h' tk k1 k2
                  · rw [List.length_map, (isort_perm _).length_eq, List.length_zip, mapO_len ed, Nat.min_self]
                    exact hzk
                · cases ey
              | _ => cases ey
            · cases ez
          · cases ez
        · exact af.elim
      · exact af.elim
  · exact af.elim
end
end EM
end
section
set_option Elab.async false
set_option linter.all false
set_option maxRecDepth 100000
/-! E9: the machine's code read as the layer's readings. -/
namespace EM
open PySem PySem.Spec PyProof.Rows L2

section
variable {D : Da} {X : Cx} {ρ ρ' : Ro} {n n' : Nat} {H H' : Hp} {h : EH} {E : XK} {α β : Type} {post : β → EH → Ro → Hp → Prop}
theorem Af.bind' {m : R α} {f : α → EH → R β} (a : Af D ρ n H E post (m.bind f)) : Af D ρ n H E (fun v h1 _ _ => Af D ρ n H E post (f v h1)) m := by
  cases m with
  | ok v h => exact fun _ _ _ _ => a
  | ex c p h => exact a
  | bad => exact a
theorem Af.no {post : α → EH → Ro → Hp → Prop} {m : R α} (a : Af D ρ n H E post (noX m)) (E' : XK) : Af D ρ n H E' post m := by
  cases m with
  | ok v h => exact a
  | ex c p h => exact a.elim
  | bad => exact a.elim
theorem noX_bind {m : R α} {f : α → EH → R β} (a : Af D ρ n H E post ((noX m).bind f)) (E' : XK) : Af D ρ n H E' (fun v h1 _ _ => Af D ρ n H E post (f v h1)) m :=
  (Af.bind' a).no E'
end

theorem rbind_assoc {α β γ : Type} (m : R α) (f : α → EH → R β) (g : β → EH → R γ) : (m.bind f).bind g = m.bind fun v h => (f v h).bind g := by
  cases m <;> rfl
/-! ### readings -/
section
variable (D : Da) (E : XK)
def tE (m : M EV) : TE := fun σ H Q => ∃ ρ h τ, RS D ρ h.n H τ σ ∧ RH D ρ h H ∧ Af D ρ h.n H E (pV D Q) (m τ h)
def tT (m : M Bool) : TT := fun σ H Q => ∃ ρ h τ, RS D ρ h.n H τ σ ∧ RH D ρ h H ∧ Af D ρ h.n H E (pB Q) (m τ h)
def tA (m : M (List EV)) : TA := fun σ H Q => ∃ ρ h τ, RS D ρ h.n H τ σ ∧ RH D ρ h H ∧ Af D ρ h.n H E (pVs D Q) (m τ h)
def tO (m : M (Option Int)) : TO := fun σ H Q => ∃ ρ h τ, RS D ρ h.n H τ σ ∧ RH D ρ h H ∧ Af D ρ h.n H E (fun v _ _ H' => Q v H') (m τ h)
/-- where states differ -/
def Only (is : List Nat) (σ σ' : L2.St) : Prop := σ'.length = σ.length ∧ ∀ i, i ∉ is → σ'[i]? = σ[i]?
def pG (D : Da) (is : List Nat) (σ : L2.St) (Q : L2.St → Hp → Prop) : Sg → EH → Ro → Hp → Prop := fun τ' h' ρ' H' => ∀ σ', RS D ρ' h'.n H' τ' σ' → Only is σ σ' → Q σ' H'
def tG (is : List Nat) (g : EV → M Sg) : TG := fun v σ H Q => ∃ ρ h τ x, RS D ρ h.n H τ σ ∧ RH D ρ h H ∧ RV D ρ h.n H x v ∧ Af D ρ h.n H E (pG D is σ Q) (g x τ h)
def tGs (is : List Nat) (g : List EV → M Sg) : TGs := fun vs σ H Q => ∃ ρ h τ xs, RS D ρ h.n H τ σ ∧ RH D ρ h H ∧ RVs D ρ h.n H xs vs ∧ Af D ρ h.n H E (pG D is σ Q) (g xs τ h)
def pF (D : Da) (N : Ends) : Fl → EH → Ro → Hp → Prop := fun fl h' ρ' H' => match fl with
  | .nx τ => ∀ σ, RS D ρ' h'.n H' τ σ → N.nx σ H'
  | .bk τ => ∀ σ, RS D ρ' h'.n H' τ σ → N.bk σ H'
  | .ct τ => ∀ σ, RS D ρ' h'.n H' τ σ → N.ct σ H'
  | .rt v => ∀ w, RV D ρ' h'.n H' v w → N.rt w H'
def tS (m : M Fl) : TS := fun N σ H => ∃ ρ h τ, RS D ρ h.n H τ σ ∧ RH D ρ h H ∧ Af D ρ h.n H E (pF D N) (m τ h)
end

section
variable {D : Da} {X : Cx} {ρ : Ro} {n : Nat} {H : Hp} {h : EH} {E : XK} {τ : Sg} {σ : L2.St} {α β : Type} {post : β → EH → Ro → Hp → Prop} {pins : List (Addr × Obj)} {s : Shared}
/-! ### a piece, and what comes behind it -/
theorem goE {a : M EV} {f : EV → EH → R β} {Q : VK} (rs : RS D ρ h.n H τ σ) (rh : RH D ρ h H) (af : Af D ρ h.n H E post ((a τ h).bind f))
    (k : ∀ v h1 ρ1 H1 w, Xt ρ h.n H ρ1 h1.n H1 → RH D ρ1 h1 H1 → RS D ρ1 h1.n H1 τ σ → RV D ρ1 h1.n H1 v w → Af D ρ1 h1.n H1 E post (f v h1) → Q w H1) : tE D E a σ H Q :=
  ⟨ρ, h, τ, rs, rh, (Af.bind af).imp fun v h1 ρ1 H1 x r q w rv => k v h1 ρ1 H1 w x r (rs.mono x) rv q⟩
theorem goT {a : M Bool} {f : Bool → EH → R β} {Q : Bool → Hp → Prop} (rs : RS D ρ h.n H τ σ) (rh : RH D ρ h H) (af : Af D ρ h.n H E post ((a τ h).bind f))
    (k : ∀ v h1 ρ1 H1, Xt ρ h.n H ρ1 h1.n H1 → RH D ρ1 h1 H1 → RS D ρ1 h1.n H1 τ σ → Af D ρ1 h1.n H1 E post (f v h1) → Q v H1) : tT D E a σ H Q :=
  ⟨ρ, h, τ, rs, rh, (Af.bind af).imp fun v h1 ρ1 H1 x r q => k v h1 ρ1 H1 x r (rs.mono x) q⟩
theorem goA {a : M (List EV)} {f : List EV → EH → R β} {Q : List V → Hp → Prop} (rs : RS D ρ h.n H τ σ) (rh : RH D ρ h H) (af : Af D ρ h.n H E post ((a τ h).bind f))
    (k : ∀ v h1 ρ1 H1 w, Xt ρ h.n H ρ1 h1.n H1 → RH D ρ1 h1 H1 → RS D ρ1 h1.n H1 τ σ → RVs D ρ1 h1.n H1 v w → Af D ρ1 h1.n H1 E post (f v h1) → Q w H1) : tA D E a σ H Q :=
  ⟨ρ, h, τ, rs, rh, (Af.bind af).imp fun v h1 ρ1 H1 x r q w rv => k v h1 ρ1 H1 w x r (rs.mono x) rv q⟩
theorem goO {a : M (Option Int)} {f : Option Int → EH → R β} {Q : Option Int → Hp → Prop} (rs : RS D ρ h.n H τ σ) (rh : RH D ρ h H) (af : Af D ρ h.n H E post ((a τ h).bind f))
    (k : ∀ v h1 ρ1 H1, Xt ρ h.n H ρ1 h1.n H1 → RH D ρ1 h1 H1 → RS D ρ1 h1.n H1 τ σ → Af D ρ1 h1.n H1 E post (f v h1) → Q v H1) : tO D E a σ H Q :=
  ⟨ρ, h, τ, rs, rh, (Af.bind af).imp fun v h1 ρ1 H1 x r q => k v h1 ρ1 H1 x r (rs.mono x) q⟩
theorem goG {is : List Nat} {a : EV → M Sg} {v : EV} {w : V} {f : Sg → EH → R β} {Q : L2.St → Hp → Prop} (rs : RS D ρ h.n H τ σ) (rh : RH D ρ h H) (rv : RV D ρ h.n H v w) (af : Af D ρ h.n H E post ((a v τ h).bind f))
    (k : ∀ τ' h1 ρ1 H1 σ', Xt ρ h.n H ρ1 h1.n H1 → RH D ρ1 h1 H1 → RS D ρ1 h1.n H1 τ' σ' → Only is σ σ' → Af D ρ1 h1.n H1 E post (f τ' h1) → Q σ' H1) : tG D E is a w σ H Q :=
  ⟨ρ, h, τ, v, rs, rh, rv, (Af.bind af).imp fun τ' h1 ρ1 H1 x r q σ' rs' o => k τ' h1 ρ1 H1 σ' x r rs' o q⟩
theorem goGs {is : List Nat} {a : List EV → M Sg} {v : List EV} {w : List V} {f : Sg → EH → R β} {Q : L2.St → Hp → Prop} (rs : RS D ρ h.n H τ σ) (rh : RH D ρ h H) (rv : RVs D ρ h.n H v w) (af : Af D ρ h.n H E post ((a v τ h).bind f))
    (k : ∀ τ' h1 ρ1 H1 σ', Xt ρ h.n H ρ1 h1.n H1 → RH D ρ1 h1 H1 → RS D ρ1 h1.n H1 τ' σ' → Only is σ σ' → Af D ρ1 h1.n H1 E post (f τ' h1) → Q σ' H1) : tGs D E is a w σ H Q :=
  ⟨ρ, h, τ, v, rs, rh, rv, (Af.bind af).imp fun τ' h1 ρ1 H1 x r q σ' rs' o => k τ' h1 ρ1 H1 σ' x r rs' o q⟩
theorem imE {e : Expr} {t t' : TE} (p : PE X e t) (i : ∀ σ H Q, t' σ H Q → t σ H Q) : PE X e t' := ⟨fun pins s σ H Q I hw => p.run pins s σ H Q I (i σ H Q hw)⟩
theorem imT {e : Expr} {t t' : TT} (p : PT X e t) (i : ∀ σ H Q, t' σ H Q → t σ H Q) : PT X e t' := ⟨fun pins s σ H Q I hw => p.run pins s σ H Q I (i σ H Q hw)⟩
theorem imW {e : Expr} {t t' : TT} (p : PW X e t) (i : ∀ σ H Q, t' σ H Q → t σ H Q) : PW X e t' := ⟨fun w pins s σ H Q I hw => p.run w pins s σ H Q I (i σ H Q hw)⟩
theorem imA {e : List Expr} {t t' : TA} (p : PA X e t) (i : ∀ σ H Q, t' σ H Q → t σ H Q) : PA X e t' := ⟨fun pos pins s σ H Q I hw => p.run pos pins s σ H Q I (i σ H Q hw)⟩
theorem imO {e : Option Expr} {t t' : TO} (p : PO X e t) (i : ∀ σ H Q, t' σ H Q → t σ H Q) : PO X e t' := ⟨fun pins s σ H Q I hw => p.run pins s σ H Q I (i σ H Q hw)⟩
theorem imG {e : Expr} {t t' : TG} (p : PG X e t) (i : ∀ v σ H Q, t' v σ H Q → t v σ H Q) : PG X e t' := ⟨fun pins s σ H v u Q I r hw => p.run pins s σ H v u Q I r (i v σ H Q hw)⟩
theorem imGs {e : List Expr} {t t' : TGs} (p : PGs X e t) (i : ∀ v σ H Q, t' v σ H Q → t v σ H Q) : PGs X e t' := ⟨fun pins s σ H v u Q I r hw => p.run pins s σ H v u Q I r (i v σ H Q hw)⟩
theorem imS {e : Stmt} {t t' : TS} (p : PS X e t) (i : ∀ N σ H, t' N σ H → t N σ H) : PS X e t' := ⟨fun pins s σ H N I hw => p.run pins s σ H N I (i N σ H hw)⟩
theorem imSs {e : List Stmt} {t t' : TS} (p : PSs X e t) (i : ∀ N σ H, t' N σ H → t N σ H) : PSs X e t' := ⟨fun pins s σ H N I hw => p.run pins s σ H N I (i N σ H hw)⟩
theorem imI {tg e : Expr} {t t' : TI} (p : PI X tg e t) (i : ∀ σ H R, t' σ H R → t σ H R) : PI X tg e t' := ⟨fun pins s σ H Q I hw => p.run pins s σ H Q I (i σ H Q hw)⟩

/-! ### expressions -/
section
variable {a b c : Expr} {ma mb mc : M EV} {pos : Pos}
theorem e_bad {e : Expr} : PE X e (tE D E mBad) := ⟨fun pins s σ H Q I ⟨_, _, _, _, _, af⟩ => af.elim⟩
theorem e_var {i : Nat} {x : PySem.Str} (hN : X.N[i]? = some x) (hv : Vis X.env.scope x) (hd : (x == ("__debug__" : PySem.Str)) = false) (hcd : (x == ("__classdict__" : PySem.Str)) = false) : PE X (.Name x pos) (tE D E (mVar i)) :=
  imE (pe_var hN hv hd hcd) fun σ H Q ⟨ρ, h, τ, rs, rh, af⟩ => by
    unfold mVar at af
    split at af
    · rename_i v e
      obtain ⟨w, h1, h2⟩ := rs.at_ i v e
      exact ⟨w, h1, af.val rh h2⟩
    · exact af.elim
theorem e_C {e : Expr} {v : EV} {w : V} (p : PE X e (tC w)) (r : ∀ ρ n H, RV D ρ n H v w) : PE X e (tE D E (mC v)) :=
  imE p fun σ H Q ⟨ρ, h, τ, rs, rh, af⟩ => af.val rh (r _ _ _)
theorem e_opt {e : Expr} {o : Option EV} (p : ∀ v, o = some v → ∃ w, PE X e (tC w) ∧ ∀ ρ n H, RV D ρ n H v w) : PE X e (tE D E (mOpt o)) := by
  cases o with
  | none => exact ⟨fun pins s σ H Q I ⟨_, _, _, _, _, af⟩ => af.elim⟩
  | some v =>
    obtain ⟨w, h1, h2⟩ := p v rfl
    exact e_C h1 h2
theorem e_bin (F : Fit D X) {op : Operator} (ha : PE X a (tE D E ma)) (hb : PE X b (tE D E mb)) : PE X (.BinOp a op b pos) (tE D E (mBin op ma mb)) :=
  imE (pe_op (op_binE F op) ha hb) fun σ H Q ⟨ρ, h, τ, rs, rh, af⟩ =>
    goE rs rh af fun v h1 ρ1 H1 w x1 rh1 rs1 rv af1 => goE rs1 rh1 af1 fun v2 h2 ρ2 H2 w2 x2 rh2 rs2 rv2 af2 => ⟨ρ2, h2, v, v2, rh2, rv.mono x2, rv2, af2⟩
theorem e_neg (ha : PE X a (tE D E ma)) : PE X (.UnaryOp .USub a pos) (tE D E (mThen ma negE)) :=
  imE (pe_un un_neg ha) fun σ H Q ⟨ρ, h, τ, rs, rh, af⟩ =>
    goE rs rh af fun v h1 ρ1 H1 w x1 rh1 rs1 rv af1 => by
      cases rv with
      | int i => exact ⟨i, rfl, af1.int rh1⟩
      | _ => exact af1.elim
theorem e_cmp (F : Fit D X) (hr : Room 0 X.A) {op : CmpOp} (ha : PE X a (tE D E ma)) (hb : PE X b (tE D E mb)) (hm : behindInMarks op b = false) : PE X (.Compare a [op] [b] pos) (tE D E (mCmp op ma mb)) :=
  imE (pe_cmpR (op_cmpE F hr op) ha hb hm) fun σ H Q ⟨ρ, h, τ, rs, rh, af⟩ =>
    goE rs rh af fun v h1 ρ1 H1 w x1 rh1 rs1 rv af1 => goE rs1 rh1 af1 fun v2 h2 ρ2 H2 w2 x2 rh2 rs2 rv2 af2 => ⟨ρ2, h2, v, v2, rh2, rv.mono x2, rv2, af2⟩
theorem cmpE_bl {op : CmpOp} {x y : EV} {post : EV → EH → Ro → Hp → Prop} (af : Af D ρ h.n H E post (cmpE op x y h)) : ∃ b, cmpE op x y h = .ok (.bl b) h := by
  cases op <;> simp only [cmpE, retB] at af ⊢ <;> (repeat (split at af)) <;> first | exact af.elim | exact ⟨_, rfl⟩ | (cases x <;> exact ⟨_, rfl⟩)
theorem e_chn (F : Fit D X) (hr : Room 0 X.A) {o1 o2 : CmpOp} (ha : PE X a (tE D E ma)) (hb : PE X b (tE D E mb)) (hc : PE X c (tE D E mc)) (hm : lastMarks [o1, o2] [b, c] = false) :
    PE X (.Compare a [o1, o2] [b, c] pos) (tE D E (mChn o1 o2 ma mb mc)) :=
  imE (pe_chain (op_cmpE F hr o1) (op_cmpE F hr o2) ha hb hc hm) fun σ H Q ⟨ρ, h, τ, rs, rh, af⟩ =>
    goE rs rh af fun v h1 ρ1 H1 w x1 rh1 rs1 rv af1 => goE rs1 rh1 af1 fun v2 h2 ρ2 H2 w2 x2 rh2 rs2 rv2 af2 => by
      refine ⟨ρ2, h2, v, v2, rh2, rv.mono x2, rv2, ?_⟩
      refine (Af.bind af2).imp fun z h3 ρ3 H3 x3 rh3 af3 w3 rz => ?_
      split at af3
      · cases rz
        exact ⟨true, rfl, goE (rs2.mono x3) rh3 af3 fun v4 h4 ρ4 H4 w4 x4 rh4 rs4 rv4 af4 => ⟨ρ4, h4, v2, v4, rh4, (rv2.mono x3).mono x4, rv4, af4⟩⟩
      · cases rz
        exact ⟨false, rfl, af3.val rh3 (.bl _)⟩
      · exact af3.elim
theorem t_va (F : Fit D X) (ha : PE X a (tE D E ma)) (he : ∀ whole, isTrue a X.env whole = (do let v ← whole; standAt a.pos; holding [v] (truthy v))) : PT X a (tT D E (mThen ma truE)) :=
  ⟨fun pins s σ H Q I ⟨ρ, h, τ, rs, rh, af⟩ => by
    rw [he]
    have g := goE (Q := fun w H1 => rTr D E w H1 Q) rs rh af fun v h1 ρ1 H1 w x1 rh1 rs1 rv af1 => ⟨ρ1, h1, v, rh1, rv, af1⟩
    refine wpAny_bind (thn (ha.run pins s σ H _ I g) fun u s1 ⟨w, H1, I1, r1, q1⟩ => ?_)
    refine wpAny_bind (wpAny_standAt ?_)
    exact wpAny_holding (tr_truE F pins s1 σ H1 w u Q I1 r1 q1)⟩
theorem t_cmp (F : Fit D X) (hr : Room 0 X.A) {op : CmpOp} (ha : PE X a (tE D E ma)) (hb : PE X b (tE D E mb)) (hm : behindInMarks op b = false) : PT X (.Compare a [op] [b] pos) (tT D E (mThen (mCmp op ma mb) truE)) :=
  imT (pt_cmpR (op_cmpE (E := E) F hr op) ha hb hm) fun σ H Q ⟨ρ, h, τ, rs, rh, af⟩ => by
    simp only [mThen, mCmp, rbind_assoc] at af
    exact goE rs rh af fun v h1 ρ1 H1 w x1 rh1 rs1 rv af1 => goE rs1 rh1 af1 fun v2 h2 ρ2 H2 w2 x2 rh2 rs2 rv2 af2 => by
      refine ⟨ρ2, h2, v, v2, rh2, rv.mono x2, rv2, ?_⟩
      obtain ⟨k, ek⟩ := cmpE_bl (Af.bind' af2)
      rw [ek] at af2 ⊢
      intro ρ3 H3 x3 rh3 w3 rz
      cases rz
      exact ⟨k, rfl, (Af.start x3 af2).here rh3⟩
theorem t_not {m : M Bool} (ha : PT X a (tT D E m)) : PT X (.UnaryOp .Not a pos) (tT D E (mNot m)) :=
  imT (pt_not ha) fun σ H Q ⟨ρ, h, τ, rs, rh, af⟩ => goT rs rh af fun b h1 ρ1 H1 x1 rh1 rs1 af1 => af1.here rh1
theorem w_one {o : BoolOp} {m : M Bool} {k : Bool} (hk : o = .And ∧ k = true ∨ o = .Or ∧ k = false) (ha : PT X a (tT D E m)) : PW X (.BoolOp o [a] pos) (tT D E (match o with
    | .And => mAnd m (mC true)
    | .Or => mOr m (mC false))) := by
  rcases hk with ⟨rfl, rfl⟩ | ⟨rfl, rfl⟩
  · refine imW (pw_and1 ha) fun σ H Q ⟨ρ, h, τ, rs, rh, af⟩ => goT rs rh af fun b h1 ρ1 H1 x1 rh1 rs1 af1 => ?_
    cases b
    · exact af1.here rh1
    · exact af1.here rh1
  · refine imW (pw_or1 ha) fun σ H Q ⟨ρ, h, τ, rs, rh, af⟩ => goT rs rh af fun b h1 ρ1 H1 x1 rh1 rs1 af1 => ?_
    cases b
    · exact af1.here rh1
    · exact af1.here rh1
theorem w_and {m r : M Bool} {rest : List Expr} (ha : PT X a (tT D E m)) (hb : PW X (.BoolOp .And (b :: rest) pos) (tT D E r)) : PW X (.BoolOp .And (a :: b :: rest) pos) (tT D E (mAnd m r)) :=
  imW (pw_and ha hb) fun σ H Q ⟨ρ, h, τ, rs, rh, af⟩ => goT rs rh af fun c h1 ρ1 H1 x1 rh1 rs1 af1 => by
    cases c with
    | false => exact af1.here rh1
    | true => exact ⟨ρ1, h1, τ, rs1, rh1, af1⟩
theorem w_or {m r : M Bool} {rest : List Expr} (ha : PT X a (tT D E m)) (hb : PW X (.BoolOp .Or (b :: rest) pos) (tT D E r)) : PW X (.BoolOp .Or (a :: b :: rest) pos) (tT D E (mOr m r)) :=
  imW (pw_or ha hb) fun σ H Q ⟨ρ, h, τ, rs, rh, af⟩ => goT rs rh af fun c h1 ρ1 H1 x1 rh1 rs1 af1 => by
    cases c with
    | true => exact af1.here rh1
    | false => exact ⟨ρ1, h1, τ, rs1, rh1, af1⟩
/-- and, or, not as values, by truth -/
theorem e_and (F : Fit D X) {ma mr : M EV} {rest : List Expr} (ha : PE X a (tE D E ma)) (hb : PE X (.BoolOp .And (b :: rest) pos) (tE D E mr)) : PE X (.BoolOp .And (a :: b :: rest) pos) (tE D E (mAndV ma mr)) :=
  ⟨fun pins s σ H Q I ⟨ρ, h, τ, rs, rh, af⟩ => by
    have g := goE (Q := fun w H1 => rTr D E w H1 fun k H2 => if k = true then tE D E mr σ H2 Q else Q w H2) rs rh af fun v h1 ρ1 H1 w x1 rh1 rs1 rv af1 => ⟨ρ1, h1, v, rh1, rv, (Af.bind af1).imp fun k h2 ρ2 H2 x2 rh2 af2 => by
      cases k with
      | true => exact ⟨ρ2, h2, τ, rs1.mono x2, rh2, af2⟩
      | false => exact af2.val rh2 (rv.mono x2)⟩
    refine BoolOp_and (thn (ha.run pins s σ H _ I g) fun u s1 ⟨w, H1, I1, r1, q1⟩ => ?_)
    refine thn (tr_truE F pins s1 σ H1 w u _ I1 r1 q1) fun c s2 ⟨H2, I2, q2⟩ => ?_
    cases c with
    | true => exact hb.run pins s2 σ H2 Q I2 q2
    | false => exact ⟨w, H2, I2, r1, q2⟩⟩
theorem e_or (F : Fit D X) {ma mr : M EV} {rest : List Expr} (ha : PE X a (tE D E ma)) (hb : PE X (.BoolOp .Or (b :: rest) pos) (tE D E mr)) : PE X (.BoolOp .Or (a :: b :: rest) pos) (tE D E (mOrV ma mr)) :=
  ⟨fun pins s σ H Q I ⟨ρ, h, τ, rs, rh, af⟩ => by
    have g := goE (Q := fun w H1 => rTr D E w H1 fun k H2 => if k = true then Q w H2 else tE D E mr σ H2 Q) rs rh af fun v h1 ρ1 H1 w x1 rh1 rs1 rv af1 => ⟨ρ1, h1, v, rh1, rv, (Af.bind af1).imp fun k h2 ρ2 H2 x2 rh2 af2 => by
      cases k with
      | false => exact ⟨ρ2, h2, τ, rs1.mono x2, rh2, af2⟩
      | true => exact af2.val rh2 (rv.mono x2)⟩
    refine BoolOp_or (thn (ha.run pins s σ H _ I g) fun u s1 ⟨w, H1, I1, r1, q1⟩ => ?_)
    refine thn (tr_truE F pins s1 σ H1 w u _ I1 r1 q1) fun c s2 ⟨H2, I2, q2⟩ => ?_
    cases c with
    | false => exact hb.run pins s2 σ H2 Q I2 q2
    | true => exact ⟨w, H2, I2, r1, q2⟩⟩
theorem e_not (F : Fit D X) (ha : PE X a (tE D E ma)) : PE X (.UnaryOp .Not a pos) (tE D E (mNt ma)) :=
  ⟨fun pins s σ H Q I ⟨ρ, h, τ, rs, rh, af⟩ => by
    have g := goE (Q := fun w H1 => rTr D E w H1 fun k H2 => Q (.bl (!k)) H2) rs rh af fun v h1 ρ1 H1 w x1 rh1 rs1 rv af1 => ⟨ρ1, h1, v, rh1, rv, (Af.bind af1).imp fun k h2 ρ2 H2 x2 rh2 af2 => af2.val rh2 (.bl _)⟩
    refine UnaryOp_ (thn (ha.run pins s σ H _ I g) fun u s1 ⟨w, H1, I1, r1, q1⟩ => ?_)
    exact not_of (thn (tr_truE F pins s1 σ H1 w u _ I1 r1 q1) fun c s2 ⟨H2, I2, q2⟩ => ⟨.bl (!c), H2, I2, rfl, q2⟩)⟩
theorem e_one {o : BoolOp} (ha : PE X a (tE D E ma)) : PE X (.BoolOp o [a] pos) (tE D E ma) := pe_one ha
theorem t_chn (F : Fit D X) (hr : Room 0 X.A) {o1 o2 : CmpOp} (ha : PE X a (tE D E ma)) (hb : PE X b (tE D E mb)) (hc : PE X c (tE D E mc)) (hm : lastMarks [o1, o2] [b, c] = false) :
    PT X (.Compare a [o1, o2] [b, c] pos) (tT D E (mThen (mChn o1 o2 ma mb mc) truE)) :=
  imT (pt_chain (op_cmpE (E := E) F hr o1) (op_cmpE (E := E) F hr o2) ha hb hc hm) fun σ H Q ⟨ρ, h, τ, rs, rh, af⟩ => by
    simp only [mThen, mChn, rbind_assoc] at af
    exact goE rs rh af fun v h1 ρ1 H1 w x1 rh1 rs1 rv af1 => goE rs1 rh1 af1 fun v2 h2 ρ2 H2 w2 x2 rh2 rs2 rv2 af3 => by
      refine ⟨ρ2, h2, v, v2, rh2, rv.mono x2, rv2, ?_⟩
      obtain ⟨k, ek⟩ := cmpE_bl (Af.bind' af3)
      rw [ek] at af3 ⊢
      intro ρ3 H3 x3 rh3 w3 rz
      have af4 := Af.start x3 af3
      cases rz
      cases k with
      | true =>
        refine ⟨true, rfl, ?_⟩
        have af5 : Af D ρ3 h2.n H3 E (pB Q) ((mc τ h2).bind fun z h => (cmpE o2 v2 z h).bind truE) := by
          have t : Af D ρ3 h2.n H3 E (pB Q) (((mc τ h2).bind fun z h => cmpE o2 v2 z h).bind truE) := af4
          rw [rbind_assoc] at t
          exact t
        exact goE (rs2.mono x3) rh3 af5 fun v4 h4 ρ4 H4 w4 x4 rh4 rs4 rv4 af6 => by
          refine ⟨ρ4, h4, v2, v4, rh4, (rv2.mono x3).mono x4, rv4, ?_⟩
          obtain ⟨k, ek⟩ := cmpE_bl (Af.bind' af6)
          rw [ek] at af6 ⊢
          intro ρ5 H5 x5 rh5 w5 rz5
          cases rz5
          exact ⟨k, rfl, (Af.start x5 af6).here rh5⟩
      | false => exact ⟨false, rfl, false, rfl, af4.here rh3⟩
theorem e_ite {m : M Bool} (hc : PT X c (tT D E m)) (ha : PE X a (tE D E ma)) (hb : PE X b (tE D E mb)) : PE X (.IfExp c a b pos) (tE D E (mIte m ma mb)) :=
  imE (pe_ifExp hc ha hb) fun σ H Q ⟨ρ, h, τ, rs, rh, af⟩ => goT rs rh af fun k h1 ρ1 H1 x1 rh1 rs1 af1 => by
    cases k with
    | true => exact ⟨ρ1, h1, τ, rs1, rh1, af1⟩
    | false => exact ⟨ρ1, h1, τ, rs1, rh1, af1⟩
theorem e_sub (F : Fit D X) (hr : Room 0 X.A) (ha : PE X a (tE D E ma)) (hb : PE X b (tE D E mb)) (hs : PlainIx b) : PE X (.Subscript a b pos) (tE D E (mSub ma mb)) :=
  imE (pe_ix (ix_getE F hr) ha hb hs) fun σ H Q ⟨ρ, h, τ, rs, rh, af⟩ =>
    goE rs rh af fun v h1 ρ1 H1 w x1 rh1 rs1 rv af1 => goE rs1 rh1 af1 fun v2 h2 ρ2 H2 w2 x2 rh2 rs2 rv2 af2 => ⟨ρ2, h2, v, v2, rh2, rv.mono x2, rv2, af2⟩
theorem o_none : PO X none (tO D E (mC none)) := ⟨fun pins s σ H Q I ⟨ρ, h, τ, rs, rh, af⟩ => po_none.run pins s σ H Q I (af.here rh)⟩
theorem o_some (ha : PE X a (tE D E ma)) : PO X (some a) (tO D E (mThen ma intO)) :=
  imO (po_some ha) fun σ H Q ⟨ρ, h, τ, rs, rh, af⟩ => goE rs rh af fun v h1 ρ1 H1 w x1 rh1 rs1 rv af1 => by
    cases rv with
    | int i => exact ⟨i, rfl, af1.here rh1⟩
    | _ => exact af1.elim
theorem e_slc (F : Fit D X) {lo hi : Option Expr} {ml mh : M (Option Int)} {p2 : Pos} (ha : PE X a (tE D E ma)) (hl : PO X lo (tO D E ml)) (hh : PO X hi (tO D E mh)) : PE X (.Subscript a (.Slice lo hi none p2) pos) (tE D E (mSlc ma ml mh)) :=
  imE (pe_slice (sl_slcE F) ha hl hh) fun σ H Q ⟨ρ, h, τ, rs, rh, af⟩ =>
    goE rs rh af fun v h1 ρ1 H1 w x1 rh1 rs1 rv af1 => goO rs1 rh1 af1 fun l h2 ρ2 H2 x2 rh2 rs2 af2 => goO rs2 rh2 af2 fun u h3 ρ3 H3 x3 rh3 rs3 af3 => ⟨ρ3, h3, v, rh3, (rv.mono x2).mono x3, af3⟩
/-! lists of expressions -/
theorem a_nil : PA X [] (tA D E (mC [])) := imA pa_nil fun σ H Q ⟨ρ, h, τ, rs, rh, af⟩ => af _ _ Xt.refl rh [] .nil
theorem a_cons {es : List Expr} {mr : M (List EV)} (ha : PE X a (tE D E ma)) (hr : PA X es (tA D E mr)) (hs : starEach (a :: es) X.env = (false, eval a X.env) :: starEach es X.env) : PA X (a :: es) (tA D E (mCons ma mr)) :=
  imA (pa_cons ha hr hs) fun σ H Q ⟨ρ, h, τ, rs, rh, af⟩ =>
    goE rs rh af fun v h1 ρ1 H1 w x1 rh1 rs1 rv af1 => goA rs1 rh1 af1 fun vs h2 ρ2 H2 ws x2 rh2 rs2 rvs af2 => af2 _ _ Xt.refl rh2 (w :: ws) (.cons (rv.mono x2) rvs)
theorem a_star (F : Fit D X) {es : List Expr} {p : Pos} {mr : M (List EV)} (ha : PE X a (tE D E ma)) (hr : PA X es (tA D E mr)) : PA X (.Starred a p :: es) (tA D E (mStar ma mr)) :=
  imA (StX.pa_star ha hr) fun σ H Q ⟨ρ, h, τ, rs, rh, af⟩ =>
    goE rs rh af fun v h1 ρ1 H1 w x1 rh1 rs1 rv af1 => by
      split at af1
      · rename_i xs ex
        obtain ⟨p, ws, rfl, rws, sq⟩ := items_sq rh1 ex rv
        refine ⟨p, ws, rfl, ?_, goA rs1 rh1 af1 fun vs h2 ρ2 H2 ws2 x2 rh2 rs2 rvs af2 => af2 _ _ Xt.refl rh2 (ws ++ ws2) ((rws.mono x2).append rvs)⟩
        rcases sq with sq | sq
        · exact .inr (F.K ▸ sq)
        · exact .inl (F.K ▸ sq)
      · exact af1.elim
theorem e_tup {es : List Expr} {k : Nat} {m : M (List EV)} (h : PA X es (tA D E m)) : PE X (.Tuple es k pos) (tE D E (mThen m tupE)) :=
  imE (pe_tup h) fun σ H Q ⟨ρ, h, τ, rs, rh, af⟩ => goA rs rh af fun vs h1 ρ1 H1 ws x1 rh1 rs1 rvs af1 => by
    simp only [tupE] at af1
    split at af1
    · rename_i ez
      exact ⟨by rw [← rvs.length]; exact sz_le ez, fun p hp => af1.tup rh1 rvs hp⟩
    · exact af1.elim
theorem e_lst {es : List Expr} {m : M (List EV)} (h : PA X es (tA D E m)) : PE X (.List es pos) (tE D E (mThen m lstE)) :=
  imE (pe_lst h) fun σ H Q ⟨ρ, h, τ, rs, rh, af⟩ => goA rs rh af fun vs h1 ρ1 H1 ws x1 rh1 rs1 rvs af1 => by
    simp only [lstE] at af1
    split at af1
    · rename_i ez
      exact ⟨by rw [← rvs.length]; exact sz_le ez, fun p hp => af1.mkL rh1 rvs (sz_le ez) hp⟩
    · exact af1.elim
/-- {} -/
theorem big_ne (I : Inv X pins σ H s) : (s.heap.objs.size == sysModules) = false := by
  exact beq_eq_false_iff_ne.mpr (Nat.ne_of_gt I.big)
theorem e_dnew {es : XEs} (he : es = .nil) {K : Nat → Option EV} {C : Nat → List EV → EH → R EV} {fu : Nat} : PE X (.Dict [] [] pos) (tE D E (mThen (evs K C fu es) dctE)) :=
  ⟨fun pins s σ H Q I ⟨ρ, h, τ, rs, rh, af⟩ => by
    subst he
    have hn := I.hok.fresh (Nat.le_refl s.heap.objs.size)
    have af1 : Af D ρ h.n H E (pV D Q) (mkC (.dct [] false) h) := af
    refine wpAny_Dict_empty ⟨.ref s.heap.objs.size, _, I.laid (a := s.heap.objs.size) (o := dO D s.heap.objs.size []) (t' := s.toks) (fun _ _ q => Heap.get?_push_of_some _ q) (Nat.le_refl _) ?_, rfl, af1.mk rh hn ?_⟩
    · refine dO_ok ⟨_, _, _, Heap.get?_push_size _ rfl, ⟨rfl, rfl, rfl⟩, rfl, rfl, ⟨(fun x hx => absurd hx (by simp)), List.nodup_nil⟩⟩
    · exact ⟨Nat.zero_le _, big_ne I, List.nodup_nil, [], .nil, upd_same⟩⟩
end
end
end EM
end
section
set_option Elab.async false
set_option linter.all false
set_option maxRecDepth 100000
/-! EA: calls. -/
namespace EM
open PySem PySem.Spec PyProof.Rows L2

def isStar : Expr → Bool
  | .Starred _ _ => true
  | _ => false
def noStar (es : List Expr) : Bool := es.all fun e => !isStar e
theorem st_cons {e : Expr} {es : List Expr} {env : Env} (h : isStar e = false) : starEach (e :: es) env = (false, eval e env) :: starEach es env := by
  cases e <;> first | rfl | cases h
theorem st_any : ∀ {es : List Expr} {env : Env} {pos : Pos}, noStar es = true → (backTo pos (starEach es env)).any (·.1) = false
  | [], _, _, _ => rfl
  | e :: es, env, pos, h => by
    have h' : (!isStar e) = true ∧ noStar es = true := by simpa [noStar] using h
    rw [st_cons (by simpa using h'.1)]
    show (false || (backTo pos (starEach es env)).any (·.1)) = false
    rw [st_any h'.2]
    rfl
theorem st_all : ∀ {es : List Expr} {env : Env} {pos : Pos}, noStar es = true → (backTo pos (starEach es env)).all (fun x => !x.1) = true
  | [], _, _, _ => rfl
  | e :: es, env, pos, h => by
    have h' : (!isStar e) = true ∧ noStar es = true := by simpa [noStar] using h
    rw [st_cons (by simpa using h'.1)]
    show ((!false) && (backTo pos (starEach es env)).all (fun x => !x.1)) = true
    rw [st_all h'.2]
    rfl
theorem st_split {e : Expr} {es : List Expr} (h : noStar (e :: es) = true) : isStar e = false ∧ noStar es = true := by
  simpa [noStar] using h

section
variable {D : Da} {X : Cx} {ρ : Ro} {n : Nat} {H : Hp} {h : EH} {E : XK} {τ : Sg} {σ : L2.St} {pins : List (Addr × Obj)} {s : Shared}
variable {e : Expr} {es : List Expr} {m : M (List EV)} {x : PySem.Str} {p pos : Pos}
/-! ### built-in functions -/
theorem e_callB {b : Bi} {id : String} (cr : CallR X (.builtin id) (rBi D E b)) (hg : Gl X x) (hm : X.mg x = none) (hv : bootBuiltins x = some (.builtin id)) (hn : x ≠ "__name__") (hdb : (x == ("__debug__" : PySem.Str)) = false)
    (hs : noStar (e :: es) = true) (ha : PA X (e :: es) (tA D E m)) : PE X (.Call (.Name x p) (e :: es) [] pos) (tE D E (mThen m (biE b))) :=
  imE (pe_callB cr hg hm hv ha hn hdb (st_cons (st_split hs).1) (st_any (st_split hs).2)) fun σ H Q ⟨ρ, h, τ, rs, rh, af⟩ => goA rs rh af fun vs h1 ρ1 H1 ws x1 rh1 rs1 rvs af1 => ⟨ρ1, h1, vs, rh1, rvs, af1⟩
theorem e_callTy {b : Bi} {id : String} (cr : CallR X (.type id) (rBi D E b)) (hg : Gl X x) (hm : X.mg x = none) (hv : bootBuiltins x = some (.type id)) (hn : x ≠ "__name__") (hdb : (x == ("__debug__" : PySem.Str)) = false)
    (hs : noStar (e :: es) = true) (ha : PA X (e :: es) (tA D E m)) : PE X (.Call (.Name x p) (e :: es) [] pos) (tE D E (mThen m (biE b))) :=
  imE (pe_callTy cr hg hm hv ha hn hdb (st_cons (st_split hs).1) (st_any (st_split hs).2)) fun σ H Q ⟨ρ, h, τ, rs, rh, af⟩ => goA rs rh af fun vs h1 ρ1 H1 ws x1 rh1 rs1 rvs af1 => ⟨ρ1, h1, vs, rh1, rvs, af1⟩
def Bi.nm : Bi → String
  | .len => "len"
  | .all => "all"
  | .any => "any"
  | .tuple => "tuple"
  | .list => "list"
  | .sorted => "sorted"
  | .int => "int"
  | .abs => "abs"
theorem e_bi (F : Fit D X) (hr : Room 0 X.A) (hc : X.calm = true) (b : Bi) (hg : Gl X b.nm) (hm : X.mg b.nm = none)
    (hs : noStar (e :: es) = true) (ha : PA X (e :: es) (tA D E m)) : PE X (.Call (.Name b.nm p) (e :: es) [] pos) (tE D E (mThen m (biE b))) := by
  cases b with
  | len => exact e_callB (call_len_E F) hg hm (by decide +kernel) (by decide +kernel) (by decide +kernel) hs ha
  | all => exact e_callB (call_all_E F hc) hg hm (by decide +kernel) (by decide +kernel) (by decide +kernel) hs ha
  | any => exact e_callB (call_any_E F hc) hg hm (by decide +kernel) (by decide +kernel) (by decide +kernel) hs ha
  | sorted => exact e_callB (call_sorted_E F hr) hg hm (by decide +kernel) (by decide +kernel) (by decide +kernel) hs ha
  | abs => exact e_callB (call_abs_E F) hg hm (by decide +kernel) (by decide +kernel) (by decide +kernel) hs ha
  | tuple => exact e_callTy (call_tuple_E F) hg hm (by decide +kernel) (by decide +kernel) (by decide +kernel) hs ha
  | list => exact e_callTy (call_list_E F) hg hm (by decide +kernel) (by decide +kernel) (by decide +kernel) hs ha
  | int => exact e_callTy (call_int_E F) hg hm (by decide +kernel) (by decide +kernel) (by decide +kernel) hs ha

/-! ### isinstance -/
def tTys (ts : List Ty) : TA := fun _ H Q => Q (ts.map fun T => V.ty T.nm) H
theorem ty_boot (T : Ty) : bootBuiltins T.nm = some (.type T.nm) ∧ ((T.nm : PySem.Str) ≠ "__name__") ∧ ((T.nm : PySem.Str) == ("__debug__" : PySem.Str)) = false := by
  cases T <;> decide +kernel
theorem e_ty (T : Ty) (hg : Gl X T.nm) (hm : X.mg T.nm = none) : PE X (.Name T.nm p) (tC (.ty T.nm)) :=
  pe_bltn hg hm (ty_boot T).1 rfl (ty_boot T).2.1 (ty_boot T).2.2
/-- names of types -/
inductive Tys (X : Cx) : List Expr → List Ty → Prop
  | nil : Tys X [] []
  | cons {T : Ty} {p : Pos} {es : List Expr} {ts : List Ty} : Gl X T.nm → X.mg T.nm = none → Tys X es ts → Tys X (.Name T.nm p :: es) (T :: ts)
theorem a_tys {ts : List Ty} (h : Tys X es ts) : PA X es (tTys ts) := by
  induction h with
  | nil => exact pa_nil
  | cons hg hm _ ih => exact imA (pa_cons (e_ty _ hg hm) ih) fun σ H Q q => q
theorem isi_boot : bootBuiltins "isinstance" = some (.builtin "isinstance") ∧ (("isinstance" : PySem.Str) ≠ "__name__") ∧ (("isinstance" : PySem.Str) == ("__debug__" : PySem.Str)) = false := by decide +kernel
theorem e_isi1 (F : Fit D X) {ma : M EV} {T : Ty} {p2 : Pos} (hg : Gl X "isinstance") (hm : X.mg "isinstance" = none) (hg2 : Gl X T.nm) (hm2 : X.mg T.nm = none) (hs : isStar e = false) (ha : PE X e (tE D E ma)) :
    PE X (.Call (.Name "isinstance" p) [e, .Name T.nm p2] [] pos) (tE D E (mThen ma fun v h => isiR v [T] h)) :=
  imE (pe_callB (call_isE (E := E) F true [T]) hg hm isi_boot.1 (pa_cons ha (pa_cons (e_ty T hg2 hm2) pa_nil) (st_cons hs)) isi_boot.2.1 isi_boot.2.2 (st_cons hs) rfl) fun σ H Q ⟨ρ, h, τ, rs, rh, af⟩ =>
    goE rs rh af fun v h1 ρ1 H1 w x1 rh1 rs1 rv af1 => ⟨ρ1, h1, v, w, _, rfl, rh1, rv, ⟨T, rfl, rfl⟩, af1⟩
theorem e_isi2 (F : Fit D X) {ma : M EV} {ts : List Ty} {ps : List Expr} {k : Nat} {p2 : Pos} (hg : Gl X "isinstance") (hm : X.mg "isinstance" = none) (ht : Tys X ps ts) (hz : ts.length ≤ sizeLine) (hs : isStar e = false) (ha : PE X e (tE D E ma)) :
    PE X (.Call (.Name "isinstance" p) [e, .Tuple ps k p2] [] pos) (tE D E (mThen ma fun v h => isiR v ts h)) :=
  imE (pe_callB (call_isE (E := E) F false ts) hg hm isi_boot.1 (pa_cons ha (pa_cons (pe_tup (a_tys ht)) pa_nil) (st_cons hs)) isi_boot.2.1 isi_boot.2.2 (st_cons hs) rfl) fun σ H Q ⟨ρ, h, τ, rs, rh, af⟩ =>
    goE rs rh af fun v h1 ρ1 H1 w x1 rh1 rs1 rv af1 => ⟨by rw [List.length_map]; exact hz, fun q hq => ⟨ρ1, h1, v, w, _, rfl, rh1.fresh hq, rv.mono (Xt.fresh hq), ⟨q, rfl, upd_same⟩, Af.start (Xt.fresh hq) af1⟩⟩

/-! ### defs -/
def spC (D : Da) (C : Nat → List EV → EH → R EV) (k : Nat) : Sp := fun vs H Q E => ∃ ρ h xs, RH D ρ h H ∧ RVs D ρ h.n H xs vs ∧ Af D ρ h.n H E (pV D Q) (C k xs h)
theorem e_call {CX : CXT} {C : Nat → List EV → EH → R EV} {d k : Nat} {f : Addr} {fd : FuncData} {ps : List PySem.Str} (G : FnOk X.prog X.w X.K X.mg X.base CX d f fd ps (spC D C k)) (hr : Room d X.A) (hg : Gl X x) (hm : X.mg x = some (.ref f))
    (hk : PySem.W.keepIn X.K (.ref f) = true) (hb : Binds X.K fd ps []) (hx : Passes CX X E) (hdb : (x == ("__debug__" : PySem.Str)) = false) (hs : noStar (e :: es) = true) (ha : PA X (e :: es) (tA D E m)) :
    PE X (.Call (.Name x p) (e :: es) [] pos) (tE D E (mCall C k m)) :=
  imE (pe_call G hr hg hm hk hb .nil hx ha hdb (st_cons (st_split hs).1) (st_any (st_split hs).2)) fun σ H Q ⟨ρ, h, τ, rs, rh, af⟩ =>
    goA rs rh af fun vs h1 ρ1 H1 ws x1 rh1 rs1 rvs af1 => ⟨ρ1, h1, vs, rh1, by rw [List.append_nil]; exact rvs, af1⟩
theorem e_call0 {CX : CXT} {C : Nat → List EV → EH → R EV} {d k : Nat} {f : Addr} {fd : FuncData} {ps : List PySem.Str} (G : FnOk X.prog X.w X.K X.mg X.base CX d f fd ps (spC D C k)) (hr : Room d X.A) (hg : Gl X x) (hm : X.mg x = some (.ref f))
    (hk : PySem.W.keepIn X.K (.ref f) = true) (hb : Binds X.K fd ps []) (hx : Passes CX X E) (hdb : (x == ("__debug__" : PySem.Str)) = false) :
    PE X (.Call (.Name x p) [] [] pos) (tE D E (mCall C k (mC []))) :=
  imE (pe_call0 G hr hg hm hk hb .nil hx hdb) fun σ H Q ⟨ρ, h, τ, rs, rh, af⟩ => ⟨ρ, h, [], rh, .nil, af⟩

/-! ### methods -/
def Kd.nm : Kd → String
  | .lst => "list"
  | .dct => "dict"
  | .str => "str"
def Me.nm : Me → String
  | .append => "append"
  | .extend => "extend"
  | .pop => "pop"
  | .count => "count"
  | .index => "index"
  | .get => "get"
theorem knd_is (F : Fit D X) (I : Inv X pins σ H s) (rh : RH D ρ h H) {v : EV} {w : V} {u : Value} {T : Kd} (rv : RV D ρ h.n H v w) (ru : RelV w u) (e : knd h v = some T) :
    s.TypeIs u T.nm ∧ ∀ a, u = .ref a → ∃ ob, s.heap.get? a = some ob ∧ ob.dict = none := by
  cases rv with
  | str z =>
    obtain ⟨t, rfl⟩ := ru
    cases e
    exact ⟨typeIs_str s z t, fun _ e => nomatch e⟩
  | ref hi =>
    cases ru
    simp only [knd] at e
    split at e
    · rename_i ec
      cases e
      obtain ⟨ws, rs, sq, hz⟩ := rh.sq ec
      obtain ⟨its, _, pl, _⟩ := I.list (F.K ▸ sq)
      refine ⟨pl.isList.typeIs, fun a e => ?_⟩
      cases e
      obtain ⟨o, n, e, c, hd, _⟩ := pl
      exact ⟨o, e, hd⟩
    · rename_i ec
      cases e
      obtain ⟨xs, rks, ⟨o, _, _, ho, hx, _⟩, hsm, hz⟩ := (rh.at ec).dict F I
      refine ⟨⟨o, ho, hx.1⟩, fun a e => ?_⟩
      cases e
      exact ⟨o, ho, hx.2.1⟩
    · cases e
  | _ => cases e
/-- what a method is -/
structure MeOk (D : Da) (X : Cx) (E : XK) (T : Kd) (m : Me) (id : String) : Prop where
  pa : PlainAttrs T.nm
  slot : Slot T.nm m.nm id
  ty : typeOf (.builtin id) = pure (.type "method_descriptor")
  run : MtR X id (rMe D E T m)
theorem me_ok (F : Fit D X) (hr : Room 0 X.A) (T : Kd) (m : Me) (e : mtOk T m = true) : ∃ id, MeOk D X E T m id := by
  cases T with
  | lst =>
    cases m with
    | append => exact ⟨_, PySem.F.plainAttrs_list, PySem.F.slot_list_append, PySem.F.type_list_append, mt_append_E F⟩
    | extend => exact ⟨_, PySem.F.plainAttrs_list, PySem.F.slot_list_extend, PySem.F.type_list_extend, mt_extend_E F⟩
    | pop => exact ⟨_, PySem.F.plainAttrs_list, PySem.F.slot_list_pop, PySem.F.type_list_pop, mt_pop_E F⟩
    | count => exact ⟨_, PySem.F.plainAttrs_list, PySem.F.slot_list_count, PySem.F.type_list_count, mt_count_E F hr⟩
    | index => exact ⟨_, PySem.F.plainAttrs_list, PySem.F.slot_list_index, PySem.F.type_list_index, mt_index_E F hr⟩
    | get => cases e
  | dct =>
    cases m with
    | get => exact ⟨_, PySem.F.plainAttrs_dict, PySem.F.slot_dict_get, PySem.F.type_dict_get, mt_get_E F hr⟩
    | _ => cases e
  | str => cases m <;> cases e
theorem kw_nil {pos : Pos} {env : Env} : backToKw pos (keywordEach [] env) = [] := rfl
theorem e_met (F : Fit D X) (hr : Room 0 X.A) {mt : Me} {o : Expr} {mo : M EV} {apos cpos : Pos} (ho : PE X o (tE D E mo)) (ha : PA X (e :: es) (tA D E m)) (hs : noStar (e :: es) = true)
    (hbase : attributeBase o mt.nm X.env (eval o X.env) = eval o X.env) (hl : (e :: es).length < 30) (hline : (apos.endLine == cpos.line) = true) : PE X (.Call (.Attribute o mt.nm apos) (e :: es) [] cpos) (tE D E (mMet mt mo m)) := by
  refine ⟨fun pins s σ H Q I ⟨ρ, h, τ, rs, rh, af⟩ => ?_⟩
  have hfew : ((backTo cpos (starEach (e :: es) X.env)).all (fun x => !x.1) && (backToKw cpos (keywordEach [] X.env)).all (fun x => x.1.isSome)
      && decide ((e :: es).length + ([] : List Keyword).length + (if ([] : List Keyword).isEmpty then 0 else 1) < 30)) = true := by
    rw [st_all hs, kw_nil]
    have : decide ((e :: es).length + ([] : List Keyword).length + (if ([] : List Keyword).isEmpty then 0 else 1) < 30) = true := by
      rw [decide_eq_true_eq]
      show (e :: es).length + 0 + 0 < 30
      omega
    rw [this]
    rfl
  refine wpAny_Call_method_late hbase hfew hline rfl ?_
  have g := goE (Q := fun w H1 => ∃ ρ1 h1 v, RS D ρ1 h1.n H1 τ σ ∧ RH D ρ1 h1 H1 ∧ RV D ρ1 h1.n H1 v w ∧ Af D ρ1 h1.n H1 E (pV D Q) (match knd h1 v with
    | some T => match mtOk T mt with
      | true => (m τ h1).bind fun vs h => metE T mt v vs h
      | false => .bad
    | none => .bad)) rs rh af fun v h1 ρ1 H1 w x1 rh1 rs1 rv af1 => ⟨ρ1, h1, v, rs1, rh1, rv, af1⟩
  refine thn (ho.run pins s σ H _ I g) fun u s1 ⟨w, H1, I1, r1, ρ1, h1, v, rs1, rh1, rv, af1⟩ => ?_
  split at af1
  · rename_i T eT
    obtain ⟨t1, t2⟩ := knd_is F I1 rh1 rv r1 eT
    split at af1
    · rename_i em
      obtain ⟨id, ok⟩ := me_ok (E := E) F hr T mt em
      refine ⟨T.nm, id, ok.pa, ok.slot, ok.ty, t1, t2, ?_⟩
      have g2 := goA (Q := fun ws H2 => rMe D E T mt w ws H2 Q) rs1 rh1 af1 fun vs h2 ρ2 H2 ws x2 rh2 rs2 rvs af2 => ⟨ρ2, h2, v, vs, rh2, rv.mono x2, rvs, af2⟩
      have hA := ha.run cpos pins s1 σ H1 _ I1 g2
      have hc := st_cons (env := X.env) (es := es) (st_split hs).1
      rw [hc] at hA ⊢
      refine Calls.callWith_builtin (by show (false || (backTo cpos (starEach es X.env)).any (·.1)) = false; rw [st_any (st_split hs).2] <;> rfl) (Calls.evalArgs_plain ?_)
      exact thn hA fun us s2 ⟨vs, H2, I2, r2, q2⟩ => ok.run pins s2 σ H2 w vs u us Q I2 r1 r2 q2
    · exact af1.elim
  · exact af1.elim
theorem e_met0 (F : Fit D X) (hr : Room 0 X.A) {mt : Me} {o : Expr} {mo : M EV} {apos cpos : Pos} (ho : PE X o (tE D E mo))
    (hbase : attributeBase o mt.nm X.env (eval o X.env) = eval o X.env) (hline : (apos.endLine == cpos.line) = true) : PE X (.Call (.Attribute o mt.nm apos) [] [] cpos) (tE D E (mMet mt mo (mC []))) := by
  refine ⟨fun pins s σ H Q I ⟨ρ, h, τ, rs, rh, af⟩ => ?_⟩
  refine wpAny_Call_method0_late hbase hline ?_
  have g := goE (Q := fun w H1 => ∃ ρ1 h1 v, RS D ρ1 h1.n H1 τ σ ∧ RH D ρ1 h1 H1 ∧ RV D ρ1 h1.n H1 v w ∧ Af D ρ1 h1.n H1 E (pV D Q) (match knd h1 v with
    | some T => match mtOk T mt with
      | true => metE T mt v [] h1
      | false => .bad
    | none => .bad)) rs rh af fun v h1 ρ1 H1 w x1 rh1 rs1 rv af1 => ⟨ρ1, h1, v, rs1, rh1, rv, af1⟩
  refine thn (ho.run pins s σ H _ I g) fun u s1 ⟨w, H1, I1, r1, ρ1, h1, v, rs1, rh1, rv, af1⟩ => ?_
  split at af1
  · rename_i T eT
    obtain ⟨t1, t2⟩ := knd_is F I1 rh1 rv r1 eT
    split at af1
    · rename_i em
      obtain ⟨id, ok⟩ := me_ok (E := E) F hr T mt em
      exact ⟨T.nm, id, ok.pa, ok.slot, ok.ty, t1, t2, Calls.callWith_builtin rfl (PySem.evalArgs_none (ok.run pins s1 σ H1 w [] u [] Q I1 r1 .nil ⟨ρ1, h1, v, [], rh1, rv, .nil, af1⟩))⟩
    · exact af1.elim
  · exact af1.elim

/-! ### targets -/
theorem sset_len : ∀ (τ : Sg) (i : Nat) (v : Option EV), (sset τ i v).length = τ.length
  | [], _, _ => rfl
  | _ :: _, 0, _ => rfl
  | x :: r, i + 1, v => by simp [sset, sset_len r i v]
theorem sget_sset : ∀ (τ : Sg) (i j : Nat) (v : Option EV) (x : EV), sget (sset τ i v) j = some x → (j = i ∧ v = some x) ∨ (j ≠ i ∧ sget τ j = some x)
  | [], _, _, _, _, e => by simp [sset, sget] at e
  | _ :: _, 0, 0, v, x, e => .inl ⟨rfl, e⟩
  | _ :: _, 0, j + 1, v, x, e => .inr ⟨by omega, e⟩
  | _ :: _, i + 1, 0, v, x, e => .inr ⟨by omega, e⟩
  | _ :: r, i + 1, j + 1, v, x, e => by
    rcases sget_sset r i j v x e with ⟨h1, h2⟩ | ⟨h1, h2⟩
    · exact .inl ⟨by omega, h2⟩
    · exact .inr ⟨by omega, h2⟩
theorem sget_lt : ∀ (τ : Sg) (i : Nat) (x : EV), sget τ i = some x → i < τ.length
  | [], _, _, e => by simp [sget] at e
  | _ :: _, 0, _, _ => by simp
  | _ :: r, i + 1, x, e => by have := sget_lt r i x e; simp; omega
theorem sset_lt : ∀ (τ : Sg) (i : Nat) (v : Option EV) (x : EV), sget (sset τ i v) i = some x → i < τ.length := fun τ i v x e => by
  have := sget_lt _ _ _ e
  rw [sset_len] at this
  exact this
theorem RS.set {i : Nat} {v : EV} {w : V} (rs : RS D ρ n H τ σ) (rv : RV D ρ n H v w) : RS D ρ n H (sset τ i (some v)) (σ.set i (some w)) where
  len := by rw [sset_len, List.length_set]; exact rs.len
  at_ := fun j x e => by
    have hj := sget_lt _ _ _ e
    rw [sset_len, rs.len] at hj
    rcases sget_sset τ i j _ x e with ⟨rfl, e2⟩ | ⟨h1, e2⟩
    · cases e2
      exact ⟨w, by rw [List.getElem?_set_self hj], rv⟩
    · obtain ⟨w', h2, h3⟩ := rs.at_ j x e2
      exact ⟨w', by rw [List.getElem?_set_ne (Ne.symm h1)]; exact h2, h3⟩
theorem Only.refl {is : List Nat} : Only is σ σ := ⟨rfl, fun _ _ => rfl⟩
theorem Only.set {i : Nat} {w : Option V} {is : List Nat} (h : i ∈ is) : Only is σ (σ.set i w) := ⟨List.length_set .., fun j hj => List.getElem?_set_ne fun (e : i = j) => hj (by rw [← e]; exact h)⟩
theorem Only.trans {is : List Nat} {σ1 σ2 σ3 : L2.St} (a : Only is σ1 σ2) (b : Only is σ2 σ3) : Only is σ1 σ3 := ⟨b.1.trans a.1, fun i h => (b.2 i h).trans (a.2 i h)⟩
theorem Only.sub {is js : List Nat} {σ1 σ2 : L2.St} (a : Only is σ1 σ2) (h : ∀ i ∈ is, i ∈ js) : Only js σ1 σ2 := ⟨a.1, fun i hi => a.2 i fun z => hi (h i z)⟩
theorem g_nm {i : Nat} (hN : X.N.Nodup) (hi : X.N[i]? = some x) (hx : Loc X.env.scope x) (hf : X.fn x = true ∨ X.env.scope.names.lookup x = some .local) : PG X (.Name x pos) (tG D E [i] (gNm i)) :=
  imG (pg_name hN hi hx hf) fun w σ H Q ⟨ρ, h, τ, v, rs, rh, rv, af⟩ => af _ _ Xt.refl rh _ (rs.set rv) (Only.set (by simp))
theorem gs_nil {is : List Nat} : PGs X [] (tGs D E is gNil) :=
  imGs pgs_nil fun ws σ H Q ⟨ρ, h, τ, vs, rs, rh, rvs, af⟩ => by
    cases rvs with
    | nil => exact ⟨rfl, af _ _ Xt.refl rh σ rs Only.refl⟩
    | cons _ _ => exact af.elim
theorem as_cons {e : Expr} {es : List Expr} {env : Env} (h : isStar e = false) : (assignEach (e :: es) env).map (·.2) = assign e env :: (assignEach es env).map (·.2) := by
  cases e <;> first | rfl | cases h
theorem gs_cons {is js : List Nat} {g : EV → M Sg} {gr : List EV → M Sg} (hg : PG X e (tG D E is g)) (hr : PGs X es (tGs D E js gr)) (hs : isStar e = false) : PGs X (e :: es) (tGs D E (is ++ js) (gCons g gr)) :=
  imGs (pgs_cons hg hr (as_cons hs)) fun ws σ H Q ⟨ρ, h, τ, vs, rs, rh, rvs, af⟩ => by
    cases rvs with
    | nil => exact af.elim
    | cons rv rvs =>
      refine ⟨_, _, rfl, goG rs rh rv af fun τ' h1 ρ1 H1 σ' x1 rh1 rs1 o1 af1 => ⟨ρ1, h1, τ', _, rs1, rh1, rvs.mono x1, af1.imp fun τ2 h2 ρ2 H2 x2 rh2 q σ2 rs2 o2 => q σ2 rs2 ?_⟩⟩
      exact (o1.sub (by simp; intro i h; exact .inl h)).trans (o2.sub (by simp; intro i h; exact .inr h))
theorem as_len {es : List Expr} {env : Env} : noStar es = true → (assignEach es env).length = es.length ∧ (assignEach es env).findIdx? (·.1) = none := by
  induction es with
  | nil => intro _; exact ⟨rfl, rfl⟩
  | cons e es ih =>
    intro h
    obtain ⟨h1, h2⟩ := st_split h
    obtain ⟨a, b⟩ := ih h2
    have : assignEach (e :: es) env = (false, assign e env) :: assignEach es env := by
      cases e <;> first | rfl | cases h1
    rw [this]
    refine ⟨by simp [a], ?_⟩
    simp [List.findIdx?_cons, b]
theorem g_tp (F : Fit D X) (hc : X.calm = true) {is : List Nat} {g : List EV → M Sg} {k nn : Nat} (hg : PGs X es (tGs D E is g)) (hn : nn = es.length) (hs : noStar es = true) : PG X (.Tuple es k pos) (tG D E is (gTp nn g)) := by
  subst hn
  refine imG (pg_tup hc hg (as_len hs).1 (as_len hs).2) fun w σ H Q ⟨ρ, h, τ, v, rs, rh, rv, af⟩ => ?_
  simp only [gTp] at af
  split at af
  · rename_i xs ex
    cases rv with
    | tup q1 r1 =>
      simp only [setTup] at ex
      split at ex
      · rename_i el
        cases ex
        refine ⟨_, _, rfl, F.K ▸ q1, ?_, ρ, h, τ, _, rs, rh, r1, af⟩
        rw [← r1.length]
        exact Nat.eq_of_beq_eq_true el
      · cases ex
    | _ => cases ex
  · exact af.elim
theorem g_sb (F : Fit D X) (hr : Room 0 X.A) {o i : Expr} {mo mi : M EV} (ho : PE X o (tE D E mo)) (hi : PE X i (tE D E mi))
    (hx : ∀ v, assign (.Subscript o i pos) X.env v = (do
      let ov ← holding [v] (eval o X.env)
      let iv ← holding [v, ov] (eval i X.env)
      standAt pos
      holding [v, ov, iv] (setItem ov iv v)
      release [v, ov, iv] [])) : PG X (.Subscript o i pos) (tG D E [] (gSb mo mi)) :=
  imG (pg_sub ho hi (set_setE (E := E) F hr) hx) fun w σ H Q ⟨ρ, h, τ, v, rs, rh, rv, af⟩ =>
    goE rs rh af fun vo h1 ρ1 H1 wo x1 rh1 rs1 rvo af1 => goE rs1 rh1 af1 fun vi h2 ρ2 H2 wi x2 rh2 rs2 rvi af2 =>
      ⟨ρ2, h2, vo, vi, v, rh2, rvo.mono x2, rvi, (rv.mono x1).mono x2, (Af.bind af2).imp fun _ h3 ρ3 H3 x3 rh3 q => q _ _ Xt.refl rh3 σ (rs2.mono x3) Only.refl⟩
end
end EM
end
section
set_option Elab.async false
set_option linter.all false
set_option maxRecDepth 100000
/-! EB: walks. -/
namespace EM
open PySem PySem.Spec PyProof.Rows L2

section
variable {D : Da} {X : Cx} {ρ : Ro} {n : Nat} {H : Hp} {h : EH} {E : XK} {τ : Sg} {σ : L2.St} {pins : List (Addr × Obj)} {s : Shared} {tg : Expr}
/-! what is not the machine's may be written -/
mutual
theorem RV.off {p : Addr} {o u : HO} (hu : H p = some u) (mu : Mut (some u)) {v : EV} {w : V} (r : RV D ρ n H v w) : RV D ρ n (upd H p o) v w := by
  match r with
  | .non => exact .non
  | .bl b => exact .bl b
  | .int i => exact .int i
  | .str s => exact .str s
  | .tup (a := a) q rs =>
    refine .tup ?_ (RVs.off hu mu rs)
    rcases q with q | q
    · refine .inl ?_
      rcases q with q | ⟨ob, q⟩
      · exact .inl (by rw [upd_ne (fun z => by rw [z, hu] at q; cases q; exact mu)]; exact q)
      · exact .inr ⟨ob, by rw [upd_ne (fun z => by rw [z, hu] at q; cases q; exact mu)]; exact q⟩
    · exact .inr q
  | .ref h => exact .ref h
  | .fn => exact .fn
  | .kl (a := a) q rs =>
    refine .kl ?_ (RVs.off hu mu rs)
    rcases q with ⟨ob, q⟩ | q
    · exact .inl ⟨ob, by rw [upd_ne (fun z => by rw [z, hu] at q; cases q; exact mu)]; exact q⟩
    · exact .inr q
theorem RVs.off {p : Addr} {o u : HO} (hu : H p = some u) (mu : Mut (some u)) {v : List EV} {w : List V} (r : RVs D ρ n H v w) : RVs D ρ n (upd H p o) v w := by
  match r with
  | .nil => exact .nil
  | .cons r rs => exact .cons (RV.off hu mu r) (RVs.off hu mu rs)
end
theorem RKs.off {p : Addr} {o u : HO} (hu : H p = some u) (mu : Mut (some u)) {v : List (EV × EV)} {w : List (NestedKey × Addr × Value)} (r : RKs D ρ n H v w) : RKs D ρ n (upd H p o) v w := by
  induction r with
  | nil => exact .nil
  | cons a b c d _ ih => exact .cons a (b.off hu mu) (c.off hu mu) d ih
theorem SqT.off {p a : Addr} {o u : HO} {K : PySem.W.Frag} {xs : List V} (hu : H p = some u) (mu : Mut (some u)) (q : SqT K H a xs) : SqT K (upd H p o) a xs := by
  rcases q with q | q
  · refine .inl ?_
    rcases q with q | ⟨ob, q⟩
    · exact .inl (by rw [upd_ne (fun z => by rw [z, hu] at q; cases q; exact mu)]; exact q)
    · exact .inr ⟨ob, by rw [upd_ne (fun z => by rw [z, hu] at q; cases q; exact mu)]; exact q⟩
  · exact .inr q
end
/-- a walk of the layer goes as the machine's -/
structure Wk (D : Da) (J : It) (I : Nat → IT → Ro → Nat → Hp → Prop) : Prop where
  mono : ∀ i it ρ n H ρ' n' H', I i it ρ n H → Xt ρ n H ρ' n' H' → I i it ρ' n' H'
  off : ∀ i it ρ n H p o u, I i it ρ n H → H p = some u → Mut (some u) → (∀ i, i < n → ρ i ≠ p) → I i it ρ n (upd H p o)
  step : ∀ i it ρ h H, RH D ρ h H → I i it ρ h.n H → match it.step h with
    | none => True
    | some none => J.stop i H
    | some (some (v, it')) => J.go i H ∧ ∀ x H', J.yld i H x H' → Xt ρ h.n H ρ h.n H' ∧ RH D ρ h H' ∧ RV D ρ h.n H' v x ∧ I (i + 1) it' ρ h.n H'
def pI (D : Da) (R : It → Hp → Prop) : IT → EH → Ro → Hp → Prop := fun it h' ρ' H' => ∀ J I, Wk D J I → I 0 it ρ' h'.n H' → R J H'
def tI (D : Da) (E : XK) (m : M IT) : TI := fun σ H R => ∃ ρ h τ, RS D ρ h.n H τ σ ∧ RH D ρ h H ∧ Af D ρ h.n H E (pI D R) (m τ h)

section
variable {D : Da} {X : Cx} {ρ : Ro} {n : Nat} {H : Hp} {h : EH} {E : XK} {τ : Sg} {σ : L2.St} {pins : List (Addr × Obj)} {s : Shared} {tg : Expr}
/-! ### the walks -/
theorem wk_lst (a : Addr) : Wk D (Itl D.K a) fun i it ρ n H => ∃ m, it = .lst m i ∧ m < n ∧ ρ m = a where
  mono := fun i it ρ n H ρ' n' H' ⟨m, e, l, q⟩ x => ⟨m, e, Nat.lt_of_lt_of_le l x.le, (x.ag m l).trans q⟩
  off := fun i it ρ n H p o u q _ _ _ => q
  step := fun i it ρ h H rh ⟨m, e, l, q⟩ => by
    subst e q
    simp only [IT.step]
    split
    · trivial
    · rename_i e
      split at e
      · rename_i xs lk ec
        split at e
        · rw [fN_eq] at e; cases e
        · rename_i ei
          obtain ⟨vs, rs, sq, _⟩ := rh.sq ec
          rw [List.getElem?_eq_none_iff, rs.length] at ei
          exact ⟨vs, sq, ei⟩
      · cases e
    · rename_i v it' e
      split at e
      · rename_i xs lk ec
        split at e
        · rename_i x ei
          rw [fN_eq] at e
          cases e
          obtain ⟨vs, rs, sq, _⟩ := rh.sq ec
          obtain ⟨y, ey, ry⟩ := rs.get ei
          refine ⟨⟨vs, y, sq, ey⟩, fun x' H' ⟨e1, e2⟩ => ?_⟩
          subst e1
          have := e2 vs sq
          rw [ey] at this
          cases this
          exact ⟨Xt.refl, rh, ry, m, rfl, l, rfl⟩
        · cases e
      · cases e
theorem drop_cons {α : Type} {xs : List α} {i : Nat} {x : α} {r : List α} (e : xs.drop i = x :: r) : xs[i]? = some x ∧ r = xs.drop (i + 1) := by
  constructor
  · have : (xs.drop i)[0]? = some x := by rw [e]; rfl
    rw [List.getElem?_drop] at this
    simpa using this
  · have : (xs.drop i).tail = r := by rw [e]; rfl
    rw [← this, List.tail_drop]
theorem wk_tup (a : Addr) : Wk D (Itt D.K a) fun i it ρ n H => ∃ xs vs, it = .tup (xs.drop i) ∧ SqT D.K H a vs ∧ RVs D ρ n H xs vs where
  mono := fun i it ρ n H ρ' n' H' ⟨xs, vs, e, sq, rs⟩ x => ⟨xs, vs, e, SqT.mono x sq, rs.mono x⟩
  off := fun i it ρ n H p o u ⟨xs, vs, e, sq, rs⟩ hu mu _ => ⟨xs, vs, e, SqT.off hu mu sq, rs.off hu mu⟩
  step := fun i it ρ h H rh ⟨xs, vs, e, sq, rs⟩ => by
    subst e
    cases ed : xs.drop i with
    | nil =>
      simp only [IT.step]
      rw [List.drop_eq_nil_iff, rs.length] at ed
      exact ⟨vs, sq, ed⟩
    | cons x r =>
      obtain ⟨e1, rfl⟩ := drop_cons ed
      simp only [IT.step]
      obtain ⟨y, ey, ry⟩ := rs.get e1
      refine ⟨⟨vs, y, sq, ey⟩, fun x' H' ⟨e2, e3⟩ => ?_⟩
      subst e2
      have := e3 vs sq
      rw [ey] at this
      cases this
      exact ⟨Xt.refl, rh, ry, xs, vs, rfl, sq, rs⟩
theorem wk_rng (lo : Int) (c : Nat) : Wk D (Itr lo c) fun i it ρ n H => ∃ m, it = .rng (lo + i) m ∧ i + m = c where
  mono := fun i it ρ n H ρ' n' H' q _ => q
  off := fun i it ρ n H p o u q _ _ _ => q
  step := fun i it ρ h H rh ⟨m, e, q⟩ => by
    subst e
    cases m with
    | zero => show c ≤ i; omega
    | succ m =>
      simp only [IT.step, fI_eq]
      refine ⟨by show i < c; omega, fun x' H' ⟨e2, e3⟩ => ?_⟩
      subst e2 e3
      refine ⟨Xt.refl, rh, .int _, m, ?_, by omega⟩
      rw [show lo + ((i + 1 : Nat) : Int) = lo + i + 1 by omega]
theorem lstep (rh : RH D ρ h H) (m i : Nat) : match IT.step h (.lst m i) with
    | none => True
    | some none => ∃ vs, SqL D.K H (ρ m) vs ∧ vs.length ≤ i
    | some (some (v, it')) => it' = .lst m (i + 1) ∧ ∃ vs y, SqL D.K H (ρ m) vs ∧ vs[i]? = some y ∧ RV D ρ h.n H v y := by
  simp only [IT.step]
  split
  · trivial
  · rename_i e
    split at e
    · rename_i xs lk ec
      split at e
      · rw [fN_eq] at e; cases e
      · rename_i ei
        obtain ⟨vs, rs, sq, _⟩ := rh.sq ec
        rw [List.getElem?_eq_none_iff, rs.length] at ei
        exact ⟨vs, sq, ei⟩
    · cases e
  · rename_i v it' e
    split at e
    · rename_i xs lk ec
      split at e
      · rename_i x ei
        rw [fN_eq] at e
        cases e
        obtain ⟨vs, rs, sq, _⟩ := rh.sq ec
        obtain ⟨y, ey, ry⟩ := rs.get ei
        exact ⟨rfl, vs, y, sq, ey, ry⟩
      · cases e
    · cases e
theorem wk_enu (a : Addr) : Wk D (Ite D.K a) fun i it ρ n H => ∃ m, it = .enu i (.lst m i) ∧ m < n ∧ ρ m = a where
  mono := fun i it ρ n H ρ' n' H' ⟨m, e, l, q⟩ x => ⟨m, e, Nat.lt_of_lt_of_le l x.le, (x.ag m l).trans q⟩
  off := fun i it ρ n H p o u q _ _ _ => q
  step := fun i it ρ h H rh ⟨m, e, l, q⟩ => by
    have w := lstep rh m i
    subst e q
    rw [IT.step]
    split at w
    · rename_i e; rw [e]; trivial
    · rename_i e; rw [e]; exact w
    · rename_i v it' e
      rw [e]
      obtain ⟨rfl, vs, y, sq, ey, ry⟩ := w
      simp only [fN_eq]
      refine ⟨⟨vs, y, sq, ey⟩, fun x' H' ⟨T, x, e1, hT, e2, e3⟩ => ?_⟩
      have := e3 vs sq
      rw [ey] at this
      cases this
      subst e1 e2
      exact ⟨Xt.fresh hT, rh.fresh hT, .tup (.inl (.inl upd_same)) (.cons (.int _) (.cons (ry.mono (Xt.fresh hT)) .nil)), m, rfl, l, rfl⟩
theorem wk_zip (a b : Addr) : Wk D (Itz D.K a b) fun i it ρ n H => ∃ m k, it = .zp (.lst m i) (.lst k i) ∧ m < n ∧ k < n ∧ ρ m = a ∧ ρ k = b where
  mono := fun i it ρ n H ρ' n' H' ⟨m, k, e, l, l2, q, q2⟩ x => ⟨m, k, e, Nat.lt_of_lt_of_le l x.le, Nat.lt_of_lt_of_le l2 x.le, (x.ag m l).trans q, (x.ag k l2).trans q2⟩
  off := fun i it ρ n H p o u q _ _ _ => q
  step := fun i it ρ h H rh ⟨m, k, e, l, l2, q, q2⟩ => by
    have w := lstep rh m i
    have w2 := lstep rh k i
    subst e q q2
    rw [IT.step]
    split at w
    · rename_i e; rw [e]; trivial
    · rename_i e
      rw [e]
      obtain ⟨vs, sq, hl⟩ := w
      simp only
      split at w2
      · rename_i e; rw [e]; trivial
      · rename_i e
        rw [e]
        obtain ⟨ws, sq2, hl2⟩ := w2
        exact ⟨vs, ws, sq, sq2, .inl hl⟩
      · rename_i v2 it2 e
        rw [e]
        obtain ⟨_, ws, y2, sq2, _, _⟩ := w2
        exact ⟨vs, ws, sq, sq2, .inl hl⟩
    · rename_i v it' e
      rw [e]
      obtain ⟨rfl, vs, y, sq, ey, ry⟩ := w
      simp only
      split at w2
      · rename_i e; rw [e]; trivial
      · rename_i e
        rw [e]
        obtain ⟨ws, sq2, hl⟩ := w2
        exact ⟨vs, ws, sq, sq2, .inr hl⟩
      · rename_i v2 it2 e
        rw [e]
        obtain ⟨rfl, ws, y2, sq2, ey2, ry2⟩ := w2
        refine ⟨⟨vs, ws, y, y2, sq, sq2, ey, ey2⟩, fun x' H' ⟨T, x, x2, e1, hT, e2, e3, e4⟩ => ?_⟩
        have := e3 vs sq
        rw [ey] at this
        cases this
        have := e4 ws sq2
        rw [ey2] at this
        cases this
        subst e1 e2
        exact ⟨Xt.fresh hT, rh.fresh hT, .tup (.inl (.inl upd_same)) (.cons (ry.mono (Xt.fresh hT)) (.cons (ry2.mono (Xt.fresh hT)) .nil)), m, k, rfl, l, l2, rfl, rfl⟩
theorem wk_zipT (a b : Addr) : Wk D (RZ.ItzT D.K a b) fun i it ρ n H => ∃ xs ys vs ws, it = .zp (.tup (xs.drop i)) (.tup (ys.drop i)) ∧ SqT D.K H a vs ∧ SqT D.K H b ws ∧ RVs D ρ n H xs vs ∧ RVs D ρ n H ys ws where
  mono := fun i it ρ n H ρ' n' H' ⟨xs, ys, vs, ws, e, q, q2, r, r2⟩ x => ⟨xs, ys, vs, ws, e, SqT.mono x q, SqT.mono x q2, r.mono x, r2.mono x⟩
  off := fun i it ρ n H p o u ⟨xs, ys, vs, ws, e, q, q2, r, r2⟩ hu mu _ => ⟨xs, ys, vs, ws, e, SqT.off hu mu q, SqT.off hu mu q2, r.off hu mu, r2.off hu mu⟩
  step := fun i it ρ h H rh ⟨xs, ys, vs, ws, e, q, q2, r, r2⟩ => by
    subst e
    rw [IT.step]
    cases ed : xs.drop i with
    | nil =>
      rw [List.drop_eq_nil_iff, r.length] at ed
      cases ed2 : ys.drop i with
      | nil => exact ⟨vs, ws, q, q2, .inl ed⟩
      | cons y t => exact ⟨vs, ws, q, q2, .inl ed⟩
    | cons x t =>
      obtain ⟨e1, rfl⟩ := drop_cons ed
      obtain ⟨x', ex, rx⟩ := r.get e1
      cases ed2 : ys.drop i with
      | nil =>
        rw [List.drop_eq_nil_iff, r2.length] at ed2
        exact ⟨vs, ws, q, q2, .inr ed2⟩
      | cons y t =>
        obtain ⟨e2, rfl⟩ := drop_cons ed2
        obtain ⟨y', ey, ry⟩ := r2.get e2
        refine ⟨⟨vs, ws, x', y', q, q2, ex, ey⟩, fun z H' ⟨T, u, u2, e3, hT, e4, e5, e6⟩ => ?_⟩
        have := e5 vs q
        rw [ex] at this
        cases this
        have := e6 ws q2
        rw [ey] at this
        cases this
        subst e3 e4
        exact ⟨Xt.fresh hT, rh.fresh hT, .tup (.inl (.inl upd_same)) (.cons (rx.mono (Xt.fresh hT)) (.cons (ry.mono (Xt.fresh hT)) .nil)), xs, ys, vs, ws, rfl, SqT.mono (Xt.fresh (ρ := ρ) (n := h.n) hT) q, SqT.mono (Xt.fresh (ρ := ρ) (n := h.n) hT) q2, r.mono (Xt.fresh hT), r2.mono (Xt.fresh hT)⟩
/-! a dict's keys -/
def Itx (D : Da) (d : Addr) (o : Obj) (xs : List (NestedKey × Addr × Value)) : It :=
  ⟨fun i H => H d = some (.frz o (dO D d xs)) ∧ i < xs.length, fun i H x H' => H' = H ∧ ∃ q, xs[i]? = some q ∧ x = .ref q.2.1, fun i H => H d = some (.frz o (dO D d xs)) ∧ xs.length ≤ i⟩
theorem frzX {d : Addr} {o : Obj} {xs : List (NestedKey × Addr × Value)} (I : Inv X pins σ H s) (hd : H d = some (.frz o (dO D d xs))) :
    s.heap.get? d = some o ∧ o.ExactDict ∧ ∃ es ep, o.data = .dict es ep ∧ es.toList = xs.map (entryOfKey (nestedKind D.P D.w)) := by
  obtain ⟨h1, ⟨o', es, ep, ho, hx, hdt, he⟩, _⟩ := I.hok d _ hd
  rw [h1] at ho
  cases ho
  exact ⟨h1, hx, es, ep, hdt, he⟩
theorem turn_x {P : Program} {w : World} {K : PySem.W.Frag} {d : Addr} {o : Obj} {xs : List (NestedKey × Addr × Value)} {es : Array DictEntry} {ep : Nat} (it : Addr) (hod : o.data = .dict es ep) :
    Turn P w K tg (Itx D d o xs) [it] it (fun i h => h.IsKeyIter it d i xs.length ep) where
  mem := by simp
  obj := fun i h st b hb => by
    have z : b = it := by simpa using hb
    subst z
    obtain ⟨oi, e1, _, e2⟩ := st
    exact ⟨oi, e1, fun v z => by rw [e2] at z; cases z⟩
  keep := fun i h h' st k => st.at fun ob e => k it (by simp) ob e
  item := by
    intro X hP hw hK hc i pins s σ H E I hf st hg
    subst hP hw hK
    obtain ⟨hd, hi⟩ := hg
    obtain ⟨f0, f1, f2, f3, f4, f5⟩ := hf it (by simp)
    obtain ⟨hgd, hx, es', ep', hdt, he⟩ := frzX I hd
    obtain ⟨rfl, rfl⟩ := dict_ep hod hdt
    have hsz := size_of_entries he
    have hen := entry_at he i
    rw [List.getElem?_eq_getElem hi] at hen
    refine next_key_item st hgd hdt hsz hen fun h' st' sb => ?_
    have I1 : Inv X pins σ H { s with heap := h' } := I.turned (t' := s.toks) (fun b ob hb q => (sb.2 b hb).trans q) f0 f1 f3 f4 f5
    obtain ⟨oi, e1, e2, e3⟩ := id st'
    exact ⟨_, rfl, go_of (s := { s with heap := h' }) e1 e2 e3 (by decide) ⟨.ref xs[i].2.1, H, I1, rfl, ⟨rfl, _, List.getElem?_eq_getElem hi, rfl⟩, st', fun b hb => (hf b hb).1⟩⟩
  done := by
    intro X hP hw hK hc i pins s σ H E I hf st hg
    subst hP hw hK
    obtain ⟨hd, hi⟩ := hg
    obtain ⟨f0, f1, f2, f3, f4, f5⟩ := hf it (by simp)
    obtain ⟨hgd, hx, es', ep', hdt, he⟩ := frzX I hd
    obtain ⟨rfl, rfl⟩ := dict_ep hod hdt
    exact next_key_end (I.ok.hd hc) st hgd hdt (size_of_entries he) hi fun h' eb => ⟨rfl, I.turned (t' := s.toks) (fun b ob hb q => eb b ob hb q) f0 f1 f3 f4 f5⟩
  self := fun A i s Q E st h => by
    refine wpAny_pyIter_slot st.typeIs PySem.F.slot_dict_keyiterator_iter (wpAny_call_entry PySem.F.slot_dict_keyiterator_iter st.typeIs PySem.F.entry_dict_keyiterator_iter ?_ (PySem.F.args_dict_keyiterator_iter_1 _))
    show wpAny _ _ (ret (.ref it)) _ _ s
    exact wpAny_pure ⟨_, rfl, "dict_keyiterator", _, st.typeIs, PySem.F.slot_dict_keyiterator_next.lookup, h⟩
theorem RKs.get {kvs : List (EV × EV)} {xs : List (NestedKey × Addr × Value)} (r : RKs D ρ n H kvs xs) {i : Nat} {k : EV} (e : (kvs.map Prod.fst)[i]? = some k) : ∃ q, xs[i]? = some q ∧ RV D ρ n H k (.ref q.2.1) := by
  induction r generalizing i with
  | nil => simp at e
  | cons a b c d _ ih =>
    cases i with
    | zero => simp at e; subst e; exact ⟨_, rfl, b⟩
    | succ i => exact ih (i := i) (by simpa using e)
theorem wk_key (d : Addr) (o : Obj) (xs : List (NestedKey × Addr × Value)) (ks : List EV) (c : Nat) :
    Wk D (Itx D d o xs) fun i it ρ n H => it = .key c (ks.drop i) ∧ H d = some (.frz o (dO D d xs)) ∧ ∃ kvs, ks = kvs.map Prod.fst ∧ RKs D ρ n H kvs xs where
  mono := fun i it ρ n H ρ' n' H' ⟨e, hd, kvs, e2, rk⟩ x => ⟨e, x.frzs _ _ _ hd, kvs, e2, rk.mono x⟩
  off := fun i it ρ n H p o' u ⟨e, hd, kvs, e2, rk⟩ hu mu _ => ⟨e, by rw [upd_ne (fun z => by rw [z, hu] at hd; cases hd; exact mu)]; exact hd, kvs, e2, rk.off hu mu⟩
  step := fun i it ρ h H rh ⟨e, hd, kvs, e2, rk⟩ => by
    subst e
    cases ed : ks.drop i with
    | nil =>
      simp only [IT.step]
      rw [List.drop_eq_nil_iff, e2, List.length_map, rk.length] at ed
      exact ⟨hd, ed⟩
    | cons x r =>
      obtain ⟨e1, rfl⟩ := drop_cons ed
      simp only [IT.step]
      rw [e2] at e1
      obtain ⟨q, eq, rq⟩ := rk.get e1
      refine ⟨⟨hd, ?_⟩, fun x' H' ⟨e3, q', eq', e4⟩ => ?_⟩
      · have := (List.getElem?_eq_some_iff.mp eq).1
        exact this
      · subst e3 e4
        rw [eq] at eq'
        cases eq'
        exact ⟨Xt.refl, rh, rq, by first | rfl | trivial, hd, kvs, e2, rk⟩
/-! ### what is walked -/
/-- a dict's cell is locked -/
theorem lock_dict (I : Inv X pins σ H s) (rh : RH D ρ h H) {i : Nat} {kvs : List (EV × EV)} {xs : List (NestedKey × Addr × Value)} (ec : h.get i = some (.dct kvs false)) (hz : kvs.length ≤ sizeLine) (hs : (ρ i == sysModules) = false) (nd : (kvs.map fun p => nk p.1).Nodup)
    (rk : RKs D ρ h.n H kvs xs) (q : H (ρ i) = some (dO D (ρ i) xs)) : ∃ od H', H' (ρ i) = some (.frz od (dO D (ρ i) xs)) ∧ Inv X pins σ H' s ∧ Xt ρ h.n H ρ h.n H' ∧ RH D ρ (h.put i (.dct kvs true)) H' := by
  have hi := EH.get_lt ec
  obtain ⟨od, I1⟩ := I.lock q trivial
  have x : Xt ρ h.n H ρ h.n (upd H (ρ i) (.frz od (dO D (ρ i) xs))) := Xt.write hi q trivial
  exact ⟨od, _, upd_same, I1, x, rh.write hi q trivial ⟨hz, hs, nd, xs, rk.mono x, od, upd_same⟩⟩
theorem i_ex (F : Fit D X) {e : Expr} {m : M EV} (he : PE X e (tE D E m)) : PI X tg e (tI D E (mThen m itOf)) := by
  refine ⟨fun pins s σ H R I ⟨ρ, h, τ, rs, rh, af⟩ => ?_⟩
  have g := goE (Q := fun w H1 => ∃ ρ1 h1 v, RH D ρ1 h1 H1 ∧ RV D ρ1 h1.n H1 v w ∧ Af D ρ1 h1.n H1 E (pI D R) (itOf v h1)) rs rh af fun v h1 ρ1 H1 w x1 rh1 rs1 rv af1 => ⟨ρ1, h1, v, rh1, rv, af1⟩
  refine thn (he.run pins s σ H _ I g) fun u s1 ⟨w, H1, I1, r1, ρ1, h1, v, rh1, rv, af1⟩ => ?_
  cases rv with
  | tup q1 r =>
    rename_i xs a vs
    have q : R (Itt X.K a) H1 := by
      rw [F.K]
      exact af1 _ _ Xt.refl rh1 _ _ (wk_tup a) ⟨xs, vs, rfl, q1, r⟩
    cases r1
    obtain ⟨its, rv, p, hz⟩ := I1.tuple (F.K ▸ q1)
    exact wpAny_pyIter_tuple (show s1.heap.IsTuple a its.toArray from p) (pi_one (tk := s1.toks) I1 _ (turn_tuple a _) ⟨_, Heap.get?_push_size _ rfl, rfl, rfl⟩ q)
  | ref hi =>
    rename_i i
    cases r1
    simp only [itOf] at af1
    split at af1
    · rename_i xs lk ec
      obtain ⟨vs, rs', sq, _⟩ := rh1.sq ec
      have q : R (Itl X.K (ρ1 i)) H1 := by
        rw [F.K]
        exact af1 _ _ Xt.refl rh1 _ _ (wk_lst (ρ1 i)) ⟨i, rfl, hi, rfl⟩
      obtain ⟨its, rv, p, hz⟩ := I1.list (F.K ▸ sq)
      exact wpAny_pyIter_list p.isList (pi_one (tk := s1.toks) I1 _ (turn_list _ _) ⟨_, Heap.get?_push_size _ rfl, rfl, rfl⟩ q)
    · rename_i kvs lk ec
      obtain ⟨hz, hs, nd, xs, rk, q⟩ := rh1.at ec
      have fin : ∀ od H2, H2 (ρ1 i) = some (.frz od (dO D (ρ1 i) xs)) → Inv X pins σ H2 s1 → R (Itx D (ρ1 i) od xs) H2 → wpAny (model X.prog X.w) X.A (pyIter (.ref (ρ1 i))) (PIE X pins σ tg R) X.xe s1 := fun od H2 e I2 q => by
        obtain ⟨hgd, hx, es, ep, hdt, he'⟩ := frzX I2 e
        refine iter_keys hs hgd hx hdt (pi_one (tk := s1.toks) I2 _ (turn_x _ hdt) ⟨_, Heap.get?_push_size _ rfl, rfl, ?_⟩ q)
        rw [size_of_entries he'] <;> rfl
      cases lk with
      | true =>
        obtain ⟨od, q⟩ := q
        exact fin od H1 q I1 (af1 _ _ Xt.refl rh1 _ _ (wk_key _ od xs _ i) ⟨rfl, q, kvs, rfl, rk⟩)
      | false =>
        obtain ⟨od, H2, e2, I2, x2, rh2⟩ := lock_dict I1 rh1 ec hz hs nd rk q
        exact fin od H2 e2 I2 (af1 _ _ x2 rh2 _ _ (wk_key _ od xs _ i) ⟨rfl, e2, kvs, rfl, rk.mono x2⟩)
    · exact af1.elim
  | _ => exact af1.elim
theorem lim62_ok {i : Int} (e : lim62 i = true) : -(2 ^ 62) ≤ i ∧ i < 2 ^ 62 := by
  cases i with
  | ofNat k => simp only [lim62, Nat.blt, Nat.ble_eq] at e; simp only [Int.ofNat_eq_natCast]; constructor <;> omega
  | negSucc k => simp only [lim62, Nat.blt, Nat.ble_eq] at e; constructor <;> omega
theorem ok_bind {α β : Type} (a : α) (h : EH) (f : α → EH → EM.R β) : (EM.R.ok a h).bind f = f a h := rfl
theorem i_rng1 {e : Expr} {m : M EV} {p pos : Pos} (hg : Gl X "range") (hm : X.mg "range" = none) (hs : isStar e = false) (he : PE X e (tE D E m)) : PI X tg (.Call (.Name "range" p) [e] [] pos) (tI D E (mThen (mCons m (mC [])) rngE)) :=
  imI (pi_range1 hg hm (pa_cons he pa_nil (st_cons hs)) (st_cons hs)) fun σ H R ⟨ρ, h, τ, rs, rh, af⟩ => by
    have af' : Af D ρ h.n H E (pI D R) ((m τ h).bind fun v h => rngE [v] h) := by
      simp only [mThen, mCons, mC, rbind_assoc, ok_bind] at af
      exact af
    exact goE rs rh af' fun v h1 ρ1 H1 w x1 rh1 rs1 rv af1 => by
      cases rv with
      | int j =>
        simp only [rngE] at af1
        split at af1
        · rename_i ej
          rw [fN_eq] at af1
          obtain ⟨b1, b2⟩ := lim62_ok ej
          exact ⟨j, rfl, b1, b2, af1 _ _ Xt.refl rh1 _ _ (wk_rng 0 j.toNat) ⟨j.toNat, by simp, by omega⟩⟩
        · exact af1.elim
      | _ => exact af1.elim
theorem i_rng2 {e e2 : Expr} {m m2 : M EV} {p pos : Pos} (hg : Gl X "range") (hm : X.mg "range" = none) (hs : isStar e = false) (hs2 : isStar e2 = false) (he : PE X e (tE D E m)) (he2 : PE X e2 (tE D E m2)) :
    PI X tg (.Call (.Name "range" p) [e, e2] [] pos) (tI D E (mThen (mCons m (mCons m2 (mC []))) rngE)) :=
  imI (pi_range2 hg hm (pa_cons he (pa_cons he2 pa_nil (st_cons hs2)) (st_cons hs)) (by rw [st_cons hs, st_cons hs2]; rfl) (st_cons hs2)) fun σ H R ⟨ρ, h, τ, rs, rh, af⟩ => by
    have af' : Af D ρ h.n H E (pI D R) ((m τ h).bind fun v h => (m2 τ h).bind fun v2 h => rngE [v, v2] h) := by
      simp only [mThen, mCons, mC, rbind_assoc, ok_bind] at af
      exact af
    exact goE rs rh af' fun v h1 ρ1 H1 w x1 rh1 rs1 rv af1 => goE rs1 rh1 af1 fun v2 h2 ρ2 H2 w2 x2 rh2 rs2 rv2 af2 => by
      cases rv with
      | int i =>
        cases rv2 with
        | int j =>
          simp only [rngE] at af2
          split at af2
          · rename_i ei
            split at af2
            · rename_i ej
              rw [fN_eq] at af2
              obtain ⟨b1, b2⟩ := lim62_ok ei
              obtain ⟨b3, b4⟩ := lim62_ok ej
              exact ⟨i, j, rfl, ⟨b1, b2, b3, b4⟩, af2 _ _ Xt.refl rh2 _ _ (wk_rng i (j - i).toNat) ⟨(j - i).toNat, by simp, by omega⟩⟩
            · exact af2.elim
          · exact af2.elim
        | _ => exact af2.elim
      | _ => exact af2.elim
theorem zOf_sq (rh : RH D ρ h H) {v : EV} {w : V} {j : IT} (e : zOf v h = some j) (rv : RV D ρ h.n H v w) : ∃ m vs, j = .lst m 0 ∧ m < h.n ∧ w = .ref (ρ m) ∧ SqL D.K H (ρ m) vs := by
  cases rv with
  | ref hi =>
    simp only [zOf] at e
    split at e
    · rename_i ec
      cases e
      obtain ⟨vs, _, sq, _⟩ := rh.sq ec
      exact ⟨_, vs, rfl, hi, rfl, sq⟩
    · cases e
  | _ => cases e
theorem i_enu (F : Fit D X) {e : Expr} {m : M EV} {p pos tpos : Pos} {elts : List Expr} {kk : Nat} (hg : Gl X "enumerate") (hm : X.mg "enumerate" = none) (hs : isStar e = false) (he : PE X e (tE D E m)) :
    PI X (.Tuple elts kk tpos) (.Call (.Name "enumerate" p) [e] [] pos) (tI D E (mThen m enuE)) :=
  imI (pi_enum hg hm (pa_cons he pa_nil (st_cons hs)) (st_cons hs)) fun σ H R ⟨ρ, h, τ, rs, rh, af⟩ => goE rs rh af fun v h1 ρ1 H1 w x1 rh1 rs1 rv af1 => by
    simp only [enuE] at af1
    split at af1
    · rename_i j ej
      obtain ⟨m, vs, rfl, hm, rfl, sq⟩ := zOf_sq rh1 ej rv
      refine ⟨ρ1 m, vs, rfl, F.K ▸ sq, ?_⟩
      rw [F.K]
      exact af1 _ _ Xt.refl rh1 _ _ (wk_enu (ρ1 m)) ⟨m, rfl, hm, rfl⟩
    · exact af1.elim
theorem i_zip (F : Fit D X) {e e2 : Expr} {m m2 : M EV} {p pos tpos : Pos} {elts : List Expr} {kk : Nat} (hg : Gl X "zip") (hm : X.mg "zip" = none) (hs : isStar e = false) (hs2 : isStar e2 = false) (he : PE X e (tE D E m)) (he2 : PE X e2 (tE D E m2)) :
    PI X (.Tuple elts kk tpos) (.Call (.Name "zip" p) [e, e2] [] pos) (tI D E (mZip m m2)) :=
  imI (RZ.pi_zipA hg hm (pa_cons he (pa_cons he2 pa_nil (st_cons hs2)) (st_cons hs)) (st_cons hs) (st_any (es := [e2]) (by simp [noStar, hs2]))) fun σ H R ⟨ρ, h, τ, rs, rh, af⟩ => goE rs rh af fun v h1 ρ1 H1 w x1 rh1 rs1 rv af1 =>
    goE rs1 rh1 af1 fun v2 h2 ρ2 H2 w2 x2 rh2 rs2 rv2 af2 => by
    have rv' := rv.mono x2
    unfold zipE at af2
    split at af2
    · rename_i xs
      split at af2
      · rename_i ys
        cases rv' with
        | tup q1 r1 =>
          cases rv2 with
          | tup q2 r2 =>
            rename_i a vs b ws
            refine ⟨a, b, vs, ws, rfl, .inr ⟨F.K ▸ q1, F.K ▸ q2, ?_⟩⟩
            rw [F.K]
            exact af2 _ _ Xt.refl rh2 _ _ (wk_zipT a b) ⟨xs, ys, vs, ws, rfl, q1, q2, r1, r2⟩
      · exact af2.elim
    · split at af2
      · rename_i i ei
        split at af2
        · rename_i j ej
          obtain ⟨m, vs, rfl, hm, e1, sq⟩ := zOf_sq rh2 ei rv'
          obtain ⟨k, ws, rfl, hk, rfl, sq2⟩ := zOf_sq rh2 ej rv2
          subst e1
          refine ⟨ρ2 m, ρ2 k, vs, ws, rfl, .inl ⟨F.K ▸ sq, F.K ▸ sq2, ?_⟩⟩
          rw [F.K]
          exact af2 _ _ Xt.refl rh2 _ _ (wk_zip (ρ2 m) (ρ2 k)) ⟨m, k, rfl, hm, hk, rfl, rfl⟩
        · exact af2.elim
      · exact af2.elim
end
end EM
end
section
set_option Elab.async false
set_option linter.all false
set_option maxRecDepth 100000
/-! EC: comprehensions. -/
namespace EM
open PySem PySem.Spec PyProof.Rows L2

def noE : XK := fun _ _ _ => False
section
variable {D : Da} {X : Cx} {ρ ρ1 : Ro} {n n1 : Nat} {H H1 : Hp} {h : EH} {E E1 : XK} {τ : Sg} {σ : L2.St} {α β : Type} {post : β → EH → Ro → Hp → Prop} {pins : List (Addr × Obj)} {s : Shared}
/-! ### a piece within a loop: the loop's start is kept -/
theorem gwE {a : M EV} {f : EV → EH → R β} {Q : VK} (x0 : Xt ρ1 n1 H1 ρ h.n H) (rs : RS D ρ h.n H τ σ) (rh : RH D ρ h H) (af : Af D ρ1 n1 H1 E1 (fun v h1 _ _ => Af D ρ1 n1 H1 E post (f v h1)) (a τ h))
    (k : ∀ v h2 ρ2 H2 w, Xt ρ h.n H ρ2 h2.n H2 → RH D ρ2 h2 H2 → RS D ρ2 h2.n H2 τ σ → RV D ρ2 h2.n H2 v w → Af D ρ1 n1 H1 E post (f v h2) → Q w H2) : tE D E1 a σ H Q :=
  ⟨ρ, h, τ, rs, rh, (Af.start x0 af).imp fun v h1 ρ1 H1 x r q w rv => k v h1 ρ1 H1 w x r (rs.mono x) rv q⟩
theorem gwT {a : M Bool} {f : Bool → EH → R β} {Q : Bool → Hp → Prop} (x0 : Xt ρ1 n1 H1 ρ h.n H) (rs : RS D ρ h.n H τ σ) (rh : RH D ρ h H) (af : Af D ρ1 n1 H1 E1 (fun v h1 _ _ => Af D ρ1 n1 H1 E post (f v h1)) (a τ h))
    (k : ∀ v h2 ρ2 H2, Xt ρ h.n H ρ2 h2.n H2 → RH D ρ2 h2 H2 → RS D ρ2 h2.n H2 τ σ → Af D ρ1 n1 H1 E post (f v h2) → Q v H2) : tT D E1 a σ H Q :=
  ⟨ρ, h, τ, rs, rh, (Af.start x0 af).imp fun v h1 ρ1 H1 x r q => k v h1 ρ1 H1 x r (rs.mono x) q⟩
theorem gwG {is : List Nat} {a : EV → M Sg} {v : EV} {w : V} {f : Sg → EH → R β} {Q : L2.St → Hp → Prop} (x0 : Xt ρ1 n1 H1 ρ h.n H) (rs : RS D ρ h.n H τ σ) (rh : RH D ρ h H) (rv : RV D ρ h.n H v w)
    (af : Af D ρ1 n1 H1 E1 (fun v h1 _ _ => Af D ρ1 n1 H1 E post (f v h1)) (a v τ h))
    (k : ∀ τ' h2 ρ2 H2 σ', Xt ρ h.n H ρ2 h2.n H2 → RH D ρ2 h2 H2 → RS D ρ2 h2.n H2 τ' σ' → Only is σ σ' → Af D ρ1 n1 H1 E post (f τ' h2) → Q σ' H2) : tG D E1 is a w σ H Q :=
  ⟨ρ, h, τ, v, rs, rh, rv, (Af.start x0 af).imp fun τ' h1 ρ1 H1 x r q σ' rs' o => k τ' h1 ρ1 H1 σ' x r rs' o q⟩
theorem gwS {a : M Fl} {f : Fl → EH → R β} {N : Ends} (x0 : Xt ρ1 n1 H1 ρ h.n H) (rs : RS D ρ h.n H τ σ) (rh : RH D ρ h H) (af : Af D ρ1 n1 H1 E1 (fun v h1 _ _ => Af D ρ1 n1 H1 E post (f v h1)) (a τ h))
    (k : ∀ fl h2 ρ2 H2, Xt ρ h.n H ρ2 h2.n H2 → RH D ρ2 h2 H2 → Af D ρ1 n1 H1 E post (f fl h2) → pF D N fl h2 ρ2 H2) : tS D E1 a N σ H :=
  ⟨ρ, h, τ, rs, rh, (Af.start x0 af).imp fun fl h1 ρ1 H1 x r q => k fl h1 ρ1 H1 x r q⟩

/-! ### a new cell that the machine had not seen -/
theorem Xt.adopt {p : Addr} (x : Xt ρ1 n1 H1 ρ n H) (hp : H1 p = none) (hc : ∃ o, H p = some o) : Xt ρ1 n1 H1 (ext ρ n p) (n + 1) H where
  le := Nat.le_succ_of_le x.le
  ag := fun i hi => (ext_lt (Nat.lt_of_lt_of_le hi x.le)).trans (x.ag i hi)
  tups := x.tups
  frzs := x.frzs
  fr := x.fr
  nw := fun i h1 h2 => by
    by_cases e : i = n
    · rw [e, ext_at]; exact hp
    · rw [ext_lt (by omega)]; exact x.nw i h1 (by omega)
  dom := x.dom
/-- the map of the cells grows, the heap stays -/
theorem Xt.grow {p : Addr} : RVs D ρ n H [] [] → True := fun _ => trivial
mutual
theorem RV.grow {p : Addr} {v : EV} {w : V} (r : RV D ρ n H v w) : RV D (ext ρ n p) (n + 1) H v w := by
  match r with
  | .non => exact .non
  | .bl b => exact .bl b
  | .int i => exact .int i
  | .str s => exact .str s
  | .tup q rs => exact .tup q (RVs.grow rs)
  | .ref h => rw [← ext_lt (ρ := ρ) (p := p) h]; exact .ref (Nat.lt_succ_of_lt h)
  | .fn => exact .fn
  | .kl q rs => exact .kl q (RVs.grow rs)
theorem RVs.grow {p : Addr} {v : List EV} {w : List V} (r : RVs D ρ n H v w) : RVs D (ext ρ n p) (n + 1) H v w := by
  match r with
  | .nil => exact .nil
  | .cons r rs => exact .cons (RV.grow r) (RVs.grow rs)
end
theorem RKs.grow {p : Addr} {v : List (EV × EV)} {w : List (NestedKey × Addr × Value)} (r : RKs D ρ n H v w) : RKs D (ext ρ n p) (n + 1) H v w := by
  induction r with
  | nil => exact .nil
  | cons a b c d _ ih => exact .cons a b.grow c.grow d ih
theorem RC.grow {p a : Addr} {c : CL} (r : RC D ρ n H a c) : RC D (ext ρ n p) (n + 1) H a c := by
  cases c with
  | lst xs lk => obtain ⟨z, vs, rs, q⟩ := r; exact ⟨z, vs, rs.grow, q⟩
  | dct kvs lk => obtain ⟨z, y, nd, xs, rs, q⟩ := r; exact ⟨z, y, nd, xs, rs.grow, q⟩
theorem RH.adopt {p : Addr} {c : CL} (r : RH D ρ h H) (hne : ∀ i, i < h.n → ρ i ≠ p) (hb : h.n < 1000000000) (q : RC D (ext ρ h.n p) (h.n + 1) H p c) : RH D (ext ρ h.n p) (h.push c) H where
  inj := fun i j hi hj e => by
    have hi : i < h.n + 1 := hi
    have hj : j < h.n + 1 := hj
    by_cases h1 : i = h.n
    · by_cases h2 : j = h.n
      · omega
      · rw [h1, ext_at, ext_lt (by omega)] at e
        exact absurd e.symm (hne j (by omega))
    · by_cases h2 : j = h.n
      · rw [h2, ext_at, ext_lt (by omega)] at e
        exact absurd e (hne i (by omega))
      · rw [ext_lt (by omega), ext_lt (by omega)] at e
        exact r.inj i j (by omega) (by omega) e
  cell := fun i hi => by
    have hi : i < h.n + 1 := hi
    by_cases h1 : i = h.n
    · rw [h1, ext_at]
      exact ⟨c, EH.get_push_same hb, q⟩
    · obtain ⟨c', e', q'⟩ := r.cell i (by omega)
      rw [ext_lt (by omega)]
      exact ⟨c', by rw [EH.get_push_lt (by omega)]; exact e', q'.grow⟩
  bnd := by show h.n + 1 ≤ _; omega
theorem Af.adopt {c : CL} {p : Addr} {Q : VK} (x : Xt ρ1 n1 H1 ρ h.n H) (r : RH D ρ h H) (a : Af D ρ1 n1 H1 E (pV D Q) (mkC c h)) (hp : H1 p = none) (hc : ∃ o, H p = some o) (hne : ∀ i, i < h.n → ρ i ≠ p) (q : RC D (ext ρ h.n p) (h.n + 1) H p c) : Q (.ref p) H := by
  rw [mk_eq] at a
  by_cases hb : h.n < 1000000000
  · rw [if_pos hb] at a
    have k : RV D (ext ρ h.n p) (h.push c).n H (.ref h.n) (.ref (ext ρ h.n p h.n)) := .ref (Nat.lt_succ_self _)
    rw [ext_at] at k
    exact a _ _ (x.adopt hp hc) (r.adopt hne hb q) _ k
  · rw [if_neg hb] at a
    exact a.elim
theorem Xt.ne {ρ2 : Ro} {n2 : Nat} {H2 : Hp} {p : Addr} {o : HO} (x : Xt ρ n H ρ2 n2 H2) (hc : H p = some o) (hne : ∀ i, i < n → ρ i ≠ p) : ∀ i, i < n2 → ρ2 i ≠ p := fun i hi e => by
  by_cases q : i < n
  · rw [x.ag i q] at e; exact hne i q e
  · have := x.nw i (by omega) hi
    rw [e, hc] at this
    cases this
/-- what is not the machine's may be written -/
theorem Xt.off {p : Addr} {o : HO} (x : Xt ρ1 n1 H1 ρ n H) (hp : H1 p = none) (hne : ∀ i, i < n1 → ρ1 i ≠ p) : Xt ρ1 n1 H1 ρ n (upd H p o) where
  le := x.le
  ag := x.ag
  tups := fun a xs e => by rw [upd_ne (ne_of_none e hp)]; exact x.tups _ _ e
  frzs := fun a ob u e => by rw [upd_ne (ne_of_none e hp)]; exact x.frzs _ _ _ e
  fr := fun a ob e hn => by rw [upd_ne (ne_of_none e hp)]; exact x.fr _ _ e hn
  nw := x.nw
  dom := fun a e => by
    by_cases q : a = p
    · rw [q]; exact hp
    · rw [upd_ne q] at e; exact x.dom a e
theorem RH.off {p : Addr} {o u : HO} (r : RH D ρ h H) (hu : H p = some u) (mu : Mut (some u)) (hne : ∀ i, i < h.n → ρ i ≠ p) : RH D ρ h (upd H p o) where
  inj := r.inj
  cell := fun i hi => by
    obtain ⟨c, e, q⟩ := r.cell i hi
    refine ⟨c, e, ?_⟩
    cases c with
    | lst xs lk =>
      obtain ⟨z, vs, rs, q⟩ := q
      refine ⟨z, vs, rs.off hu mu, ?_⟩
      rw [upd_ne (hne i hi)]
      exact q
    | dct kvs lk =>
      obtain ⟨z, y, nd, xs, rs, q⟩ := q
      refine ⟨z, y, nd, xs, rs.off hu mu, ?_⟩
      rw [upd_ne (hne i hi)]
      exact q
  bnd := r.bnd
theorem RS.off {p : Addr} {o u : HO} (r : RS D ρ n H τ σ) (hu : H p = some u) (mu : Mut (some u)) : RS D ρ n (upd H p o) τ σ :=
  ⟨r.len, fun i x e => let ⟨v, h1, h2⟩ := r.at_ i x e; ⟨v, h1, h2.off hu mu⟩⟩

/-! ### the block's own names -/
theorem RS.unset {i : Nat} (rs : RS D ρ n H τ σ) : RS D ρ n H (sset τ i none) (σ.set i none) where
  len := by rw [sset_len, List.length_set]; exact rs.len
  at_ := fun j x e => by
    rcases sget_sset τ i j _ x e with ⟨rfl, e2⟩ | ⟨h1, e2⟩
    · cases e2
    · obtain ⟨w', h2, h3⟩ := rs.at_ j x e2
      exact ⟨w', by rw [List.getElem?_set_ne (Ne.symm h1)]; exact h2, h3⟩
theorem RS.wipe (rs : RS D ρ n H τ σ) : ∀ own : List Nat, RS D ρ n H (swipe τ own) (wipe σ own)
  | [] => rs
  | i :: own => (RS.wipe rs own).unset
theorem wipe_only {own is : List Nat} {σ σ' : L2.St} (o : Only is (wipe σ own) σ') (h : ∀ i ∈ is, i ∈ own) : wipe σ' own = wipe σ own := by
  have key : ∀ (σ : L2.St) (own : List Nat) (i : Nat), (wipe σ own)[i]? = if i ∈ own then (if i < σ.length then some none else none) else σ[i]? := by
    intro σ own
    induction own with
    | nil => intro i; simp [wipe]
    | cons j own ih =>
      intro i
      show ((wipe σ own).set j none)[i]? = _
      by_cases e : j = i
      · subst e
        by_cases hl : j < σ.length
        · rw [List.getElem?_set_self (by rw [wipe_length]; exact hl)]; simp [hl]
        · rw [List.getElem?_eq_none (by rw [List.length_set, wipe_length]; omega)]; simp [hl]
      · rw [List.getElem?_set_ne e, ih]
        simp [Ne.symm e]
  refine List.ext_getElem? fun i => ?_
  rw [key, key, o.1, wipe_length]
  by_cases hi : i ∈ own
  · simp [hi]
  · simp only [hi, if_false]
    rw [o.2 i (fun z => hi (h i z)), key]
    simp [hi]
/-! ### list comprehensions -/
theorem lc_read {is own : List Nat} {g : EV → M Sg} {it : M IT} {tt : M Bool} {elt : M EV} {F : Nat} (hF : F ≤ sizeLine) (hi : ∀ i ∈ is, i ∈ own) {σ : L2.St} {H : Hp} {Q : VK} (q : tE D E (mLc F own elt g it tt) σ H Q) :
    tLc (tI D E it) (tG D noE is g) (tT D noE tt) (tE D noE elt) own σ H Q := by
  obtain ⟨ρ, h, τ, rs, rh, af⟩ := q
  refine ⟨ρ, h, τ, rs, rh, (Af.bind af).imp fun j h1 ρ1 H1 x1 rh1 af1 J I wk i0 Dd hD => ?_⟩
  have hD1 : ∀ i, i < h1.n → ρ1 i ≠ Dd := fun i hi z => by
    obtain ⟨c, _, q⟩ := rh1.cell i hi
    obtain ⟨o, e⟩ := q.some
    rw [z, hD] at e; cases e
  refine ⟨fun i m H2 => ∃ ρ2 h2 it acc vs, Xt ρ1 h1.n H1 ρ2 h2.n H2 ∧ RH D ρ2 h2 H2 ∧ I i it ρ2 h2.n H2 ∧ RVs D ρ2 h2.n H2 acc.reverse vs ∧ H2 Dd = some (.lst vs) ∧ (∀ i, i < h2.n → ρ2 i ≠ Dd) ∧ vs.length + m ≤ sizeLine ∧
    Af D ρ1 h1.n H1 E (pV D Q) ((lcL g tt elt (swipe τ own) m it acc h2).bind lstE), ⟨F, ρ1, h1, j, [], [], Xt.refl.off hD hD1, rh1.fresh hD, wk.mono _ _ _ _ _ _ _ _ i0 (Xt.fresh hD), .nil, upd_same, hD1, by simpa using hF, af1⟩, ?_⟩
  rintro i m H2 ⟨ρ2, h2, it, acc, vs, x2, rh2, i2, rvs, hDd, hne, hz, af2⟩
  cases m with
  | zero => exact af2.elim
  | succ m =>
    have ws := wk.step i it ρ2 h2 H2 rh2 i2
    have rs2 : RS D ρ2 h2.n H2 (swipe τ own) (wipe σ own) := ((rs.mono x1).mono x2).wipe own
    unfold lcL at af2
    split at af2
    · exact af2.elim
    · rename_i e
      rw [e] at ws
      left
      refine ⟨ws, ?_⟩
      simp only [ok_bind, lstE] at af2
      split at af2
      · rename_i ez
        exact Af.adopt x2 rh2 af2 hD ⟨_, hDd⟩ hne ⟨sz_le ez, vs, rvs.grow, hDd⟩
      · exact af2.elim
    · rename_i v it' e
      rw [e] at ws
      right
      refine ⟨ws.1, fun H' => ∃ ρ2 h2 it acc vs, Xt ρ1 h1.n H1 ρ2 h2.n H' ∧ RH D ρ2 h2 H' ∧ I (i + 1) it ρ2 h2.n H' ∧ RVs D ρ2 h2.n H' acc.reverse vs ∧ H' Dd = some (.lst vs) ∧ (∀ i, i < h2.n → ρ2 i ≠ Dd) ∧ vs.length + m ≤ sizeLine ∧
        Af D ρ1 h1.n H1 E (pV D Q) ((lcL g tt elt (swipe τ own) m it acc h2).bind lstE), fun H' z => ⟨m, Nat.lt_succ_self m, z⟩, fun x H' hy => ?_⟩
      obtain ⟨xy, rhy, rvy, iy⟩ := ws.2 x H' hy
      simp only [rbind_assoc] at af2
      refine gwG (x2.trans xy) (rs2.mono xy) rhy rvy (noX_bind af2 noE) fun τ3 h3 ρ3 H3 σ3 x3 rh3 rs3 o3 af3 => ⟨wipe_only o3 hi, ?_⟩
      refine gwT ((x2.trans xy).trans x3) rs3 rh3 (noX_bind af3 noE) fun b h4 ρ4 H4 x4 rh4 rs4 af4 => ?_
      have x24 := (xy.trans x3).trans x4
      cases b with
      | false => exact ⟨ρ4, h4, it', acc, vs, x2.trans x24, rh4, wk.mono _ _ _ _ _ _ _ _ iy (x3.trans x4), rvs.mono x24, x24.fr _ _ hDd hne, x24.ne hDd hne, by omega, af4⟩
      | true =>
        simp only [if_true]
        simp only [rbind_assoc] at af4
        refine gwE (x2.trans x24) rs4 rh4 (noX_bind af4 noE) fun y h5 ρ5 H5 w x5 rh5 rs5 rv5 af5 => ?_
        have x25 := x24.trans x5
        have hd5 := x25.fr _ _ hDd hne
        have hn5 := x25.ne hDd hne
        have rvs' : RVs D ρ5 h5.n H5 (y :: acc).reverse (vs ++ [w]) := by
          rw [List.reverse_cons]
          exact (rvs.mono x25).append (.cons rv5 .nil)
        refine ⟨vs, hd5, by omega, ρ5, h5, it', y :: acc, vs ++ [w], (x2.trans x25).off hD hD1, rh5.off hd5 trivial hn5, wk.off _ _ _ _ _ _ _ _ (wk.mono _ _ _ _ _ _ _ _ iy ((x3.trans x4).trans x5)) hd5 trivial hn5, rvs'.off hd5 trivial, upd_same, hn5, by simp; omega, af5⟩
end
end EM
end
section
set_option Elab.async false
set_option linter.all false
set_option maxRecDepth 100000
/-! ED: dict comprehensions whose keys are tuples. -/
namespace EM
open PySem PySem.Spec PyProof.Rows L2
/-- the store of a pair in the new dict, by values -/
abbrev TPut := Addr → V → V → Hp → (Hp → Prop) → Prop
section
variable {D : Da} {X : Cx}
def tDx (D : Da) (wi : TI) (g : TG) (tt : TT) (tk tv : TE) (put : TPut) (vs : List Nat) : TE := fun σ H Q => wi σ H fun J H1 => ∀ dd, H1 dd = none → (dd == sysModules) = false → ∃ W : Nat → Nat → Hp → Prop, (∃ m, W 0 m (upd H1 dd (dO D dd []))) ∧ ∀ i m H, W i m H →
  (J.stop i H ∧ Q (.ref dd) H) ∨ (J.go i H ∧ ∃ Nx : Hp → Prop, (∀ H', Nx H' → ∃ m', m' < m ∧ W (i + 1) m' H') ∧ ∀ x H', J.yld i H x H' → g x (wipe σ vs) H' fun σ2 H2 => wipe σ2 vs = wipe σ vs ∧ tt σ2 H2 fun b H3 =>
    if b = true then tk σ2 H3 fun y H4 => tv σ2 H4 fun z H5 => put dd y z H5 Nx else Nx H3)
theorem dx_core {pins : List (Addr × Obj)} {s : Shared} {σ : L2.St} {H : Hp} {Q : VK} {kx vx tg iter : Expr} {ifs : List Expr} {scope : Scope} {own : List (PySem.Str × Nat)} {pos pos' : Pos} {wi : TI} {g : TG} {tt : TT} {tk tv : TE} {put : TPut} {use : Option (Value → Sem Unit)} {Qf : Value → Shared → Prop}
    (hc : X.calm = true) (hN : X.N.Nodup) (I : Inv X pins σ H s) (hi : PI X tg iter wi) (ok : BlkOk X.N X.env.scope scope own)
    (hg : ∀ (s : Shared) (H : Hp) (C : Addr) (cl : List (PySem.Str × Addr)) (fp : List Addr), PG (X.blk s H scope (compEnvC scope cl C X.env) fp) tg g) (ht : ∀ (s : Shared) (H : Hp) (C : Addr) (cl : List (PySem.Str × Addr)) (fp : List Addr), PTs (X.blk s H scope (compEnvC scope cl C X.env) fp) ifs tt)
    (hk : ∀ (s : Shared) (H : Hp) (C : Addr) (cl : List (PySem.Str × Addr)) (fp : List Addr), PE (X.blk s H scope (compEnvC scope cl C X.env) fp) kx tk)
    (he : ∀ (s : Shared) (H : Hp) (C : Addr) (cl : List (PySem.Str × Addr)) (fp : List Addr), PE (X.blk s H scope (compEnvC scope cl C X.env) fp) vx tv) (hs : ∀ x, foldedSetIterable iter X.env x = pure x)
    (hst : ∀ (s : Shared) (H : Hp) (C : Addr) (cl : List (PySem.Str × Addr)) (fp : List Addr) (ce : Env) (dd : Addr) (Nx : Hp → Prop) (s1 : Shared) (pins : List (Addr × Obj)) (σ : L2.St) (H1 : Hp) (y z : V) (u r : Value) (R : Unit → Shared → Prop) (Ex : Value → Shared → Prop), Inv (X.blk s H scope ce fp) pins σ H1 s1 → L2.RelV y u → L2.RelV z r → put dd y z H1 Nx →
      (∀ s2 H2, Inv (X.blk s H scope ce fp) pins σ H2 s2 → Nx H2 → R () s2) → wpAny (model X.prog X.w) X.A (dictSet dd u r) R Ex s1)
    (h : tDx D wi g tt tk tv put (own.map (·.2)) σ H Q)
    (hRR : ∀ dd C s' m H', Inv X pins σ H' s' → Q (.ref dd) H' → s'.heap.Ns C m → FpOk X pins H' C → compPost (model X.prog X.w) X.A X.xe use Qf (.ref dd) C (.ok .next) s') :
    wpAny (model X.prog X.w) X.A (comprehension (.DictComp kx vx [⟨tg, iter, ifs, 0⟩] scope pos) scope X.env pos' newDict false (eval iter X.env) use) Qf X.xe s := by
  have capt : ∀ y ∈ scope.names, y.2 = .free → ∃ c, X.env.cells.lookup y.1 = some c := fun y hy e => by
    rcases ok.free y hy e with k | k
    · exact I.ok.has _ (.inl k)
    · exact I.ok.has _ (.inr k)
  refine wpAny_comprehension_free (use := use) rfl hs (closure_ok capt) ok.kind (fun y hy e => by rw [ok.uniq y hy, e])
    (thn (hi.run pins s σ H _ I h) fun xv s1 hx => thn hx fun itv r2 h2 => ?_)
  obtain ⟨it, fp, tn, J, G2, e, J2, T, tn2, own2, q⟩ := h2
  subst e
  refine wpAny_newObj_type (newEnv_comp ?_)
  generalize hD : r2.heap.objs.size = dd
  have hNone : G2 dd = none := J2.hok.fresh (Nat.le_of_eq hD)
  obtain ⟨W, ⟨m0, w0⟩, turn⟩ := q dd hNone (by rw [← hD]; exact big_ne J2)
  generalize hs3 : ({ r2 with heap := r2.heap.push { cls := .type "dict", data := .dict #[] } } : Shared) = r3
  have J3 : Inv X pins σ (upd G2 dd (dO D dd [])) r3 := by
    rw [← hs3]
    refine J2.laid (t' := r2.toks) (fun b o e => Heap.get?_push_of_some _ e) (Nat.le_of_eq hD) ?_
    rw [← hD]
    exact dO_ok ⟨_, _, _, Heap.get?_push_size _ rfl, ⟨rfl, rfl, rfl⟩, rfl, rfl, ⟨(fun x hx => absurd hx (by simp)), List.nodup_nil⟩⟩
  have e3h : r3.heap = r2.heap.push { cls := .type "dict", data := .dict #[] } := by rw [← hs3]
  have sz : ∀ b ∈ fp, b < r2.heap.objs.size := fun b hb => by
    obtain ⟨o, e, _⟩ := T.obj _ _ tn2 b hb
    exact Heap.lt_size e
  have own3 : ∀ b ∈ fp, FpOk X pins (upd G2 dd (dO D dd [])) b ∧ b < r3.heap.objs.size := fun b hb => by
    have hlt := sz b hb
    refine ⟨⟨?_, (own2 b hb).2⟩, by rw [e3h, Heap.size_push]; exact Nat.lt_succ_of_lt hlt⟩
    rw [upd_ne (by rw [← hD]; exact Nat.ne_of_lt hlt)]
    exact (own2 b hb).1
  have tn3 : tn 0 r3.heap := T.keep _ _ _ tn2 fun b _ o e => by rw [e3h]; exact Heap.get?_push_of_some _ e
  have J4 := block_start J3 ok hN own3
  have gG := hg r3 (upd G2 dd (dO D dd [])) r3.heap.objs.size (cellsFrom (r3.heap.objs.size + 1) scope.names (cloFrom X.env.cells scope.names [])) fp
  have gT := ht r3 (upd G2 dd (dO D dd [])) r3.heap.objs.size (cellsFrom (r3.heap.objs.size + 1) scope.names (cloFrom X.env.cells scope.names [])) fp
  have gK := hk r3 (upd G2 dd (dO D dd [])) r3.heap.objs.size (cellsFrom (r3.heap.objs.size + 1) scope.names (cloFrom X.env.cells scope.names [])) fp
  have gE := he r3 (upd G2 dd (dO D dd [])) r3.heap.objs.size (cellsFrom (r3.heap.objs.size + 1) scope.names (cloFrom X.env.cells scope.names [])) fp
  show codeAny _ _ (.compStart (.DictComp kx vx [⟨tg, iter, ifs, 0⟩] scope pos) 0 (.ref it) (.ref dd) (compEnvC scope (cellsFrom (r3.heap.objs.size + 1) scope.names (cloFrom X.env.cells scope.names [])) r3.heap.objs.size X.env)) (compPost (model X.prog X.w) X.A X.xe use Qf (.ref dd) r3.heap.objs.size) { r3 with heap := pushCells (r3.heap.push { cls := .type "dict", data := .dict #[] }) scope.names }
  have nb3 : ∀ b ∈ fp, (upd G2 dd (dO D dd [])) b = none := fun b hb => (own3 b hb).1.1
  generalize hcenv : compEnvC scope (cellsFrom (r3.heap.objs.size + 1) scope.names (cloFrom X.env.cells scope.names [])) r3.heap.objs.size X.env = cenv at J4 gG gT gK gE ⊢
  have locE : cenv.locals = r3.heap.objs.size := by subst hcenv; rfl
  generalize hH3 : upd G2 dd (dO D dd []) = G3 at J3 J4 gG gT gK gE w0 nb3 own3
  generalize hs4 : ({ r3 with heap := pushCells (r3.heap.push { cls := .type "dict", data := .dict #[] }) scope.names } : Shared) = r4 at J4 ⊢
  have tn4 : tn 0 r4.heap := T.keep _ _ _ tn3 fun b _ o e => by rw [← hs4]; exact pushCells_keeps _ _ _ _ (Heap.get?_push_of_some _ e)
  have still : ∀ {σ' : L2.St} {H' : Hp} {s' : Shared}, Inv (X.blk r3 G3 scope cenv fp) [] σ' H' s' → (∀ b ∈ fp, H' b = none) → ∀ b ∈ fp, FpOk (X.blk r3 G3 scope cenv fp) [] H' b := fun {σ' H' s'} I' hn b hb =>
    ⟨hn b hb, (I'.ok.exf b hb).1, I'.ok.exfs b hb, .inl hb, fun x c e => (I'.ok.exf b hb).2 x c e, fun p hp => absurd (show p ∈ ([] : List (Addr × Obj)) ++ [] from hp) (by simp)⟩
  have turns : codeAny (model X.prog X.w) X.A (.compLoop (.DictComp kx vx [⟨tg, iter, ifs, 0⟩] scope pos) 0 (.ref it) (.ref dd) cenv) (compPost (model X.prog X.w) X.A X.xe use Qf (.ref dd) r3.heap.objs.size) r4 := by
    refine compLoop_anyD (fun n s' => ∃ i H', Inv (X.blk r3 G3 scope cenv fp) [] (wipe σ (own.map (·.2))) H' s' ∧ tn i s'.heap ∧ (∀ b ∈ fp, H' b = none) ∧ W i n H') ?_ m0 ⟨0, G3, J4, tn4, nb3, w0⟩
    rintro n r5 ⟨i, G5, J5, tn5, nb5, hw5⟩
    rcases turn i n G5 hw5 with ⟨stop, qEnd⟩ | ⟨go, Nx, hNx, step⟩
    · have tDone := T.done (X.blk r3 G3 scope cenv fp) rfl rfl rfl hc i [] r5 _ G5 (fun _ _ => False) J5 (still J5 nb5) tn5 stop
      refine thnF tDone fun r r6 ⟨hr, J6⟩ => ?_
      subst hr
      have J7 : Inv X pins σ G5 r6 := J3.call' (ch := fp) J6.os J6.base J6.hok J6.bare fun b hb => ⟨(own3 b hb).1.2.2.2.1, (own3 b hb).1.2.1, (own3 b hb).1.2.2.2.2.1, (own3 b hb).1.2.2.2.2.2⟩
      have nC : G5 r3.heap.objs.size = none := by
        have z : G5 cenv.locals = none := J6.free
        rw [locE] at z
        exact z
      obtain ⟨m, hn, _⟩ := J6.loc
      have hn : r6.heap.Ns cenv.locals m := hn
      rw [locE] at hn
      exact hRR dd r3.heap.objs.size r6 m G5 J7 qEnd hn (J3.fpOk (Nat.le_refl _) nC)
    · have tItem := T.item (X.blk r3 G3 scope cenv fp) rfl rfl rfl hc i [] r5 _ G5 (fun _ _ => False) J5 (still J5 nb5) tn5 go
      refine thnF tItem fun r r6 ⟨u, hr, h6⟩ => ?_
      subst hr
      refine thnF h6 fun _ r7v ⟨x, G7, J7, rl7, yl7, tn7, nb7⟩ => ?_
      have J7' := J7.pinned (still J7 nb7) (T.obj _ _ tn7)
      refine thnF (gG.run _ r7v _ G7 x u _ J7' rl7 (step x G7 yl7)) fun _ r8 ⟨σ8, G8, J8, hw8, q8⟩ => ?_
      refine thnF (gT.run _ r8 σ8 G8 _ J8 q8) fun b r9 ⟨G9, J9, q9⟩ => ?_
      have close : ∀ {s' : Shared} {H' : Hp}, Inv (X.blk r3 G3 scope cenv fp) ([] ++ pinsAt fp r7v.heap) σ8 H' s' → Nx H' → ∃ m, m < n ∧ ∃ i H', Inv (X.blk r3 G3 scope cenv fp) [] (wipe σ (own.map (·.2))) H' s' ∧ tn i s'.heap ∧ (∀ b ∈ fp, H' b = none) ∧ W i m H' := fun {s' H'} I' nx => by
        obtain ⟨m', hm, w'⟩ := hNx H' nx
        have pin' : ∀ b ∈ fp, ∀ o, r7v.heap.get? b = some o → s'.heap.get? b = some o ∧ H' b = none := fun b hb o e =>
          let z := I'.pin (b, o) (List.mem_append_right _ (List.mem_append_right _ (mem_pinsAt hb e)))
          ⟨z.1, z.2.1⟩
        have hl : (wipe σ (own.map (·.2))).length = σ8.length := by rw [← hw8, wipe_length]
        refine ⟨m', hm, i + 1, H', (I'.unpinned (pins := [])).weak hl (fun j v e => ?_), T.keep _ _ _ tn7 fun b hb o e => (pin' b hb o e).1, fun b hb => ?_, w'⟩
        · rw [← hw8] at e
          exact (wipe_some e).1
        · obtain ⟨o, e, _⟩ := T.obj _ _ tn7 b hb
          exact (pin' b hb o e).2
      cases b with
      | false =>
        simp only [Bool.false_eq_true, if_false] at q9 ⊢
        exact close J9 q9
      | true =>
        simp only [if_true] at q9 ⊢
        refine thnF (gK.run _ r9 σ8 G9 _ J9 q9) fun z r10v ⟨yk, G10, J10, r10, q10⟩ => ?_
        refine thnF (gE.run _ r10v σ8 G10 _ J10 q10) fun z2 r11v ⟨yv, G11, J11, r11, q11⟩ => ?_
        exact hst r3 G3 r3.heap.objs.size (cellsFrom (r3.heap.objs.size + 1) scope.names (cloFrom X.env.cells scope.names [])) fp cenv dd Nx r11v _ σ8 G11 yk yv z z2 _ _ J11 r10 r11 q11 fun s12 G12 J12 q12 => close J12 q12
  exact codeAny_compStart_dict turns (T.self X.A 0 _ _ _ tn4 turns)
theorem pe_dx {pos : Pos} {kx vx tg iter : Expr} {ifs : List Expr} {scope : Scope} {own : List (PySem.Str × Nat)} {wi : TI} {g : TG} {tt : TT} {tk tv : TE} {put : TPut}
    (hc : X.calm = true) (hN : X.N.Nodup) (hi : PI X tg iter wi) (ok : BlkOk X.N X.env.scope scope own)
    (hg : ∀ (s : Shared) (H : Hp) (C : Addr) (cl : List (PySem.Str × Addr)) (fp : List Addr), PG (X.blk s H scope (compEnvC scope cl C X.env) fp) tg g) (ht : ∀ (s : Shared) (H : Hp) (C : Addr) (cl : List (PySem.Str × Addr)) (fp : List Addr), PTs (X.blk s H scope (compEnvC scope cl C X.env) fp) ifs tt)
    (hk : ∀ (s : Shared) (H : Hp) (C : Addr) (cl : List (PySem.Str × Addr)) (fp : List Addr), PE (X.blk s H scope (compEnvC scope cl C X.env) fp) kx tk)
    (he : ∀ (s : Shared) (H : Hp) (C : Addr) (cl : List (PySem.Str × Addr)) (fp : List Addr), PE (X.blk s H scope (compEnvC scope cl C X.env) fp) vx tv) (hs : ∀ x, foldedSetIterable iter X.env x = pure x)
    (hst : ∀ (s : Shared) (H : Hp) (C : Addr) (cl : List (PySem.Str × Addr)) (fp : List Addr) (ce : Env) (dd : Addr) (Nx : Hp → Prop) (s1 : Shared) (pins : List (Addr × Obj)) (σ : L2.St) (H1 : Hp) (y z : V) (u r : Value) (R : Unit → Shared → Prop) (Ex : Value → Shared → Prop), Inv (X.blk s H scope ce fp) pins σ H1 s1 → L2.RelV y u → L2.RelV z r → put dd y z H1 Nx →
      (∀ s2 H2, Inv (X.blk s H scope ce fp) pins σ H2 s2 → Nx H2 → R () s2) → wpAny (model X.prog X.w) X.A (dictSet dd u r) R Ex s1) :
    PE X (.DictComp kx vx [⟨tg, iter, ifs, 0⟩] scope pos) (tDx D wi g tt tk tv put (own.map (·.2))) := by
  refine ⟨fun pins s σ H Q I h => ?_⟩
  rw [arm_eval_DictComp]
  refine dx_core hc hN I hi ok hg ht hk he hs hst h fun dd C s' m H' J' q hn f => ⟨m, hn, fun h'' sb => ?_⟩
  obtain ⟨f0, f1, f2, f3, f4, f5⟩ := f
  exact ⟨.ref dd, H', J'.turned (t' := s'.toks) (fun b o hb e => (sb.2 b hb).trans e) f0 f1 f3 f4 f5, rfl, q⟩
/-- the machine's store -/
def rDs (D : Da) : TPut := fun dd y z H N => ∃ ρ n kvs xs k a, kT k = true ∧ RV D ρ n H k (.ref a) ∧ y = .ref a ∧ H dd = some (dO D dd xs) ∧ RKs D ρ n H kvs xs ∧ (xs.map (·.1)).Nodup ∧ xs.length ≤ sizeLine ∧
  ∀ u, L2.RelV z u → N (upd H dd (dO D dd (storedH xs (nk k) a u)))
theorem put_ds (F : Fit D X) (hr : Room 0 X.A) {pins : List (Addr × Obj)} {s1 : Shared} {σ : L2.St} {H1 : Hp} {dd : Addr} {Nx : Hp → Prop} {y z : V} {u r : Value} {R : Unit → Shared → Prop} {Ex : Value → Shared → Prop}
    (I : Inv X pins σ H1 s1) (ry : L2.RelV y u) (rz : L2.RelV z r) (q : rDs D dd y z H1 Nx) (k : ∀ s2 H2, Inv X pins σ H2 s2 → Nx H2 → R () s2) : wpAny (model X.prog X.w) X.A (dictSet dd u r) R Ex s1 := by
  obtain ⟨ρ, n, kvs, xs, key, a, hk, rk, rfl, hd, rks, nd, hz, q⟩ := q
  cases ry
  have hk' := key_is F I hk rk
  rw [← F.P, ← F.w] at hk'
  obtain ⟨⟨o, es, ep, ho, hx, hdt, he⟩, _, _⟩ := I.hok dd _ hd
  have hm : s1.heap.DictOfH (nestedKind D.P D.w) dd xs := ⟨o, es, ep, ho, hx, hdt, he, rks.is F I, nd⟩
  have hm' : s1.heap.DictOfH (nestedKind X.prog X.w) dd xs := by rw [F.P, F.w]; exact hm
  have hu : (nestedKind X.prog X.w).room X.A := by
    show X.A.units + 8 < cLine
    have := hr.un
    omega
  refine wpAny_dictSet_heap hu hk' hm' (fun hp hm2 sb => ?_) hz
  rw [F.P, F.w] at hm2
  refine k _ (upd H1 dd (dO D dd (storedH xs (nk key) a r))) (I.write (x := dd) (e := dd) (by rw [hd]; trivial) (.inl rfl) (fun b u hb e => (sb.2 b hb).trans e) ?_ (dO_ok hm2)) (q r rz)
  obtain ⟨o, _, _, ho, _⟩ := hm2
  exact ⟨o, ho⟩
theorem dput_len (k x : EV) : ∀ l : List (EV × EV), (dput l k x).length ≤ l.length + 1
  | [] => by simp [dput]
  | (k', v') :: r => by
    have ih := dput_len k x r
    unfold dput
    split
    · simp
    · simp only [List.length_cons]; omega
theorem storedH_nodup {xs : List (NestedKey × Addr × Value)} {k : NestedKey} {a : Addr} {u : Value} (h : (xs.map (·.1)).Nodup) : ((storedH xs k a u).map (·.1)).Nodup := by
  cases e : atKey xs k with
  | some p =>
    rw [storedH_old e]
    have : (xs.map (putAt k u)).map (·.1) = xs.map (·.1) := by
      rw [List.map_map]
      refine List.map_congr_left fun x _ => ?_
      show (putAt k u x).1 = x.1
      unfold putAt
      split <;> rfl
    rw [this]
    exact h
  | none =>
    rw [storedH_new e]
    have hn : k ∉ xs.map (·.1) := by
      intro hm
      obtain ⟨x, hx, rfl⟩ := List.mem_map.mp hm
      unfold atKey at e
      have := List.find?_eq_none.mp (Option.map_eq_none_iff.mp e) x hx
      simp at this
    rw [List.map_append, List.nodup_append]
    refine ⟨h, by simp, fun a ha b hb => ?_⟩
    simp at hb
    subst hb
    exact fun z => hn (z ▸ ha)
theorem dc_read {E : XK} {is own : List Nat} {g : EV → M Sg} {it : M IT} {tt : M Bool} {key val : M EV} {F : Nat} (hF : F ≤ sizeLine) (hi : ∀ i ∈ is, i ∈ own) {σ : L2.St} {H : Hp} {Q : VK} (q : tE D E (mDc F own key val g it tt) σ H Q) :
    tDx D (tI D E it) (tG D noE is g) (tT D noE tt) (tE D noE key) (tE D noE val) (rDs D) own σ H Q := by
  obtain ⟨ρ, h, τ, rs, rh, af⟩ := q
  refine ⟨ρ, h, τ, rs, rh, (Af.bind af).imp fun j h1 ρ1 H1 x1 rh1 af1 J I wk i0 Dd hD hsm => ?_⟩
  have hD1 : ∀ i, i < h1.n → ρ1 i ≠ Dd := fun i hi z => by
    obtain ⟨c, _, q⟩ := rh1.cell i hi
    obtain ⟨o, e⟩ := q.some
    rw [z, hD] at e; cases e
  refine ⟨fun i m H2 => ∃ ρ2 h2 it acc xs, Xt ρ1 h1.n H1 ρ2 h2.n H2 ∧ RH D ρ2 h2 H2 ∧ I i it ρ2 h2.n H2 ∧ RKs D ρ2 h2.n H2 acc xs ∧ (xs.map (·.1)).Nodup ∧ H2 Dd = some (dO D Dd xs) ∧ (∀ i, i < h2.n → ρ2 i ≠ Dd) ∧ acc.length + m ≤ sizeLine ∧
    Af D ρ1 h1.n H1 E (pV D Q) ((dcL g tt key val (swipe τ own) m it acc h2).bind dcE), ⟨F, ρ1, h1, j, [], [], Xt.refl.off hD hD1, rh1.fresh hD, wk.mono _ _ _ _ _ _ _ _ i0 (Xt.fresh hD), .nil, List.nodup_nil, upd_same, hD1, by simpa using hF, af1⟩, ?_⟩
  rintro i m H2 ⟨ρ2, h2, it, acc, xs, x2, rh2, i2, rks, nd, hDd, hne, hz, af2⟩
  cases m with
  | zero => exact af2.elim
  | succ m =>
    have ws := wk.step i it ρ2 h2 H2 rh2 i2
    have rs2 : RS D ρ2 h2.n H2 (swipe τ own) (wipe σ own) := ((rs.mono x1).mono x2).wipe own
    unfold dcL at af2
    split at af2
    · exact af2.elim
    · rename_i e
      rw [e] at ws
      left
      refine ⟨ws, ?_⟩
      simp only [ok_bind, dcE] at af2
      split at af2
      · rename_i ez
        exact Af.adopt x2 rh2 af2 hD ⟨_, hDd⟩ hne ⟨sz_le ez, hsm, by rw [← rks.keys]; exact nd, xs, rks.grow, hDd⟩
      · exact af2.elim
    · rename_i v it' e
      rw [e] at ws
      right
      refine ⟨ws.1, fun H' => ∃ ρ2 h2 it acc xs, Xt ρ1 h1.n H1 ρ2 h2.n H' ∧ RH D ρ2 h2 H' ∧ I (i + 1) it ρ2 h2.n H' ∧ RKs D ρ2 h2.n H' acc xs ∧ (xs.map (·.1)).Nodup ∧ H' Dd = some (dO D Dd xs) ∧ (∀ i, i < h2.n → ρ2 i ≠ Dd) ∧ acc.length + m ≤ sizeLine ∧
        Af D ρ1 h1.n H1 E (pV D Q) ((dcL g tt key val (swipe τ own) m it acc h2).bind dcE), fun H' z => ⟨m, Nat.lt_succ_self m, z⟩, fun x H' hy => ?_⟩
      obtain ⟨xy, rhy, rvy, iy⟩ := ws.2 x H' hy
      simp only [rbind_assoc] at af2
      refine gwG (x2.trans xy) (rs2.mono xy) rhy rvy (noX_bind af2 noE) fun τ3 h3 ρ3 H3 σ3 x3 rh3 rs3 o3 af3 => ⟨wipe_only o3 hi, ?_⟩
      refine gwT ((x2.trans xy).trans x3) rs3 rh3 (noX_bind af3 noE) fun b h4 ρ4 H4 x4 rh4 rs4 af4 => ?_
      have x24 := (xy.trans x3).trans x4
      cases b with
      | false => exact ⟨ρ4, h4, it', acc, xs, x2.trans x24, rh4, wk.mono _ _ _ _ _ _ _ _ iy (x3.trans x4), rks.mono x24, nd, x24.fr _ _ hDd hne, x24.ne hDd hne, by omega, af4⟩
      | true =>
        simp only [if_true]
        simp only [rbind_assoc] at af4
        refine gwE (x2.trans x24) rs4 rh4 (noX_bind af4 noE) fun k h5 ρ5 H5 w x5 rh5 rs5 rv5 af5 => ?_
        refine gwE ((x2.trans x24).trans x5) rs5 rh5 (noX_bind af5 noE) fun y h6 ρ6 H6 w6 x6 rh6 rs6 rv6 af6 => ?_
        have x26 := (x24.trans x5).trans x6
        have hd6 := x26.fr _ _ hDd hne
        have hn6 := x26.ne hDd hne
        split at af6
        · rename_i hk
          obtain ⟨ks, rfl⟩ := kT_tup hk
          have rk6 := rv5.mono x6
          cases rk6 with
          | tup q1 r1 =>
            refine ⟨ρ6, h6.n, acc, xs, _, _, hk, .tup q1 r1, rfl, hd6, rks.mono x26, nd, by rw [← rks.length]; omega, fun u ru => ?_⟩
            have rk2 := dput_at (rks.mono x26) hk (.tup q1 r1) rv6 ru nd
            exact ⟨ρ6, h6, it', _, _, (x2.trans x26).off hD hD1, rh6.off hd6 trivial hn6, wk.off _ _ _ _ _ _ _ _ (wk.mono _ _ _ _ _ _ _ _ iy (((x3.trans x4).trans x5).trans x6)) hd6 trivial hn6, rk2.off hd6 trivial, storedH_nodup nd, upd_same, hn6, by have := dput_len (.tup ks) y acc; omega, af6⟩
        · exact af6.elim
end
end EM
end
section
set_option Elab.async false
set_option linter.all false
set_option maxRecDepth 100000
/-! EE: the written expressions, turned into the machine's code; the code runs as the text does. -/
namespace EM
open PySem PySem.Spec PyProof.Rows L2

/-- the names of the defs and of the constants -/
structure GT where
  fns : List PySem.Str
  cst : List PySem.Str
def ixOf : List PySem.Str → PySem.Str → Option Nat
  | [], _ => none
  | y :: r, x => if y = x then some 0 else (ixOf r x).map (· + 1)
theorem ixOf_at : ∀ {l : List PySem.Str} {x : PySem.Str} {i : Nat}, ixOf l x = some i → l[i]? = some x
  | [], _, _, e => by cases e
  | y :: r, x, i, e => by
    unfold ixOf at e
    split at e
    · rename_i h
      cases e
      rw [h]; rfl
    · cases q : ixOf r x with
      | none => rw [q] at e; cases e
      | some j =>
        rw [q] at e
        cases e
        show (y :: r)[j + 1]? = some x
        rw [List.getElem?_cons_succ]
        exact ixOf_at q
def okN (x : PySem.Str) : Bool := !(x == ("__debug__" : PySem.Str)) && !(x == ("__classdict__" : PySem.Str))
theorem okN_d {x : PySem.Str} (h : okN x = true) : (x == ("__debug__" : PySem.Str)) = false ∧ (x == ("__classdict__" : PySem.Str)) = false := by
  simpa [okN] using h
/-- what a name is, here -/
inductive NmK where
  | loc (i : Nat) | glo | no
def nmK (N : List PySem.Str) (sc : Scope) (x : PySem.Str) : NmK := match okN x with
  | false => .no
  | true => match sc.names.lookup x with
    | some .globalImplicit => .glo
    | some .globalExplicit => .no
    | some _ => match ixOf N x with
      | some i => .loc i
      | none => .no
    | none => .no
theorem nmK_loc {N : List PySem.Str} {sc : Scope} {x : PySem.Str} {i : Nat} (h : nmK N sc x = .loc i) : N[i]? = some x ∧ Vis sc x ∧ okN x = true := by
  unfold nmK at h
  split at h
  · cases h
  · rename_i ho
    split at h
    · cases h
    · cases h
    · rename_i k h1 h2 hk
      split at h
      · rename_i j ej
        cases h
        refine ⟨ixOf_at ej, ?_, ho⟩
        cases k with
        | «local» => exact .inl hk
        | cell => exact .inr (.inl hk)
        | free => exact .inr (.inr hk)
        | globalExplicit => exact (h2 rfl).elim
        | globalImplicit => exact (h1 rfl).elim
      · cases h
    · cases h
theorem nmK_glo {N : List PySem.Str} {sc : Scope} {x : PySem.Str} (h : nmK N sc x = .glo) : sc.names.lookup x = some .globalImplicit ∧ okN x = true := by
  unfold nmK at h
  split at h
  · cases h
  · rename_i ho
    split at h
    · rename_i e; exact ⟨e, ho⟩
    · cases h
    · split at h <;> cases h
    · cases h
def biOf (x : PySem.Str) : Option Bi :=
  if x = Bi.nm .len then some .len else if x = Bi.nm .all then some .all else if x = Bi.nm .any then some .any else if x = Bi.nm .tuple then some .tuple else
  if x = Bi.nm .list then some .list else if x = Bi.nm .sorted then some .sorted else if x = Bi.nm .int then some .int else if x = Bi.nm .abs then some .abs else none
theorem biOf_nm {x : PySem.Str} {b : Bi} (h : biOf x = some b) : x = b.nm := by
  unfold biOf at h
  repeat (split at h; · rename_i e; cases h; exact e)
  cases h
def tyN (x : PySem.Str) : Option Ty :=
  if x = Ty.nm .int then some .int else if x = Ty.nm .bool then some .bool else if x = Ty.nm .str then some .str else if x = Ty.nm .list then some .list else
  if x = Ty.nm .tuple then some .tuple else if x = Ty.nm .dict then some .dict else none
theorem tyN_nm {x : PySem.Str} {b : Ty} (h : tyN x = some b) : x = b.nm := by
  unfold tyN at h
  repeat (split at h; · rename_i e; cases h; exact e)
  cases h
def meOf (x : PySem.Str) : Option Me :=
  if x = Me.nm .append then some .append else if x = Me.nm .extend then some .extend else if x = Me.nm .pop then some .pop else if x = Me.nm .count then some .count else
  if x = Me.nm .index then some .index else if x = Me.nm .get then some .get else none
theorem meOf_nm {x : PySem.Str} {b : Me} (h : meOf x = some b) : x = b.nm := by
  unfold meOf at h
  repeat (split at h; · rename_i e; cases h; exact e)
  cases h
/-- the built-in names that are used -/
def biN : List PySem.Str := ["len", "all", "any", "tuple", "list", "sorted", "int", "abs", "bool", "str", "dict", "isinstance", "range", "enumerate", "zip"]
theorem bi_mem (b : Bi) : (b.nm : PySem.Str) ∈ biN := by cases b <;> decide +kernel
theorem ty_mem (b : Ty) : (b.nm : PySem.Str) ∈ biN := by cases b <;> decide +kernel

/-! ### the translation -/
def isSet : Expr → Bool
  | .Set _ _ _ => true
  | _ => false
def isTup : Expr → Bool
  | .Tuple _ _ _ => true
  | _ => false
def isSlice : Expr → Bool
  | .Slice _ _ _ _ => true
  | _ => false
def isCall0 : Expr → Bool
  | .Call _ es ks _ => match es with
    | [] => match ks with
      | [] => true
      | _ :: _ => false
    | _ :: _ => false
  | _ => false
def trEs (r : Expr → XE) : List Expr → XEs
  | [] => .nil
  | e :: es => match e with
    | .Starred a _ => .cons true (r a) (trEs r es)
    | _ => .cons false (r e) (trEs r es)
def trTys (N : List PySem.Str) (sc : Scope) : List Expr → Option (List Ty)
  | [] => some []
  | e :: es => match e with
    | .Name x _ => match nmK N sc x with
      | .glo => match tyN x with
        | some T => match trTys N sc es with
          | some ts => some (T :: ts)
          | none => none
        | none => none
      | _ => none
    | _ => none
def trTsL (t : Expr → XT) : List Expr → XTs
  | [] => .nil
  | e :: es => .cons (t e) (trTsL t es)
def trO (r : Expr → XE) : Option Expr → XO
  | none => .no
  | some e => .so (r e)
/-- a target's names -/
def tgN : Nat → Expr → List PySem.Str
  | 0, _ => []
  | f + 1, e => match e with
    | .Name x _ => [x]
    | .Tuple es _ _ => (es.map (tgN f)).flatten
    | _ => []
def ownOf (N : List PySem.Str) : List PySem.Str → Option (List (PySem.Str × Nat))
  | [] => some []
  | x :: r => match ixOf N x with
    | some i => match ownOf N r with
      | some l => some ((x, i) :: l)
      | none => none
    | none => none
/-- the slots of a target -/
def gix : XG → List Nat
  | .nm i _ => [i]
  | .tp gs => gixs gs
  | .sb _ _ => []
where gixs : XGs → List Nat
  | .nil => []
  | .cons g r => gix g ++ gixs r
def subN (is js : List Nat) : Bool := is.all fun i => js.elem i
def trGs (g : Expr → Option XG) : List Expr → Option XGs
  | [] => some .nil
  | e :: es => match g e with
    | some x => match trGs g es with
      | some r => some (.cons x r)
      | none => none
    | none => none
mutual
def trE (G : GT) (N : List PySem.Str) : Nat → Scope → (PySem.Str → Bool) → Expr → XE
  | 0, _, _, _ => .nev
  | f + 1, sc, co, e => match e with
    | .Name x _ => match nmK N sc x with
      | .loc i => .var i x
      | .glo => match ixOf G.cst x with
        | some k => .glo k x
        | none => .nev
      | .no => .nev
    | .Constant c _ _ => match c with
      | .int i => .cI i
      | .bool b => .cB b
      | .none => .cN
      | .str s => .cS s
      | _ => .nev
    | .BinOp a op b _ => .bin op (trE G N f sc co a) (trE G N f sc co b)
    | .UnaryOp op a _ => match op with
      | .USub => .neg (trE G N f sc co a)
      | .Not => .nt (trE G N f sc co a)
      | _ => .nev
    | .Compare a ops bs _ => match ops with
      | [op] => match bs with
        | [b] => match behindInMarks op b with
          | false => .cmp op (trE G N f sc co a) (trE G N f sc co b)
          | true => .nev
        | _ => .nev
      | [o1, o2] => match bs with
        | [b, c] => match lastMarks [o1, o2] [b, c] with
          | false => .chn o1 o2 (trE G N f sc co a) (trE G N f sc co b) (trE G N f sc co c)
          | true => .nev
        | _ => .nev
      | _ => .nev
    | .BoolOp op vs _ => match noStar vs with
      | true => .lg op (trEs (trE G N f sc co) vs)
      | false => .nev
    | .IfExp t a b _ => .ite (trT G N f sc co t) (trE G N f sc co a) (trE G N f sc co b)
    | .Subscript a i _ => match i with
      | .Slice lo hi st _ => match st with
        | none => .slc (trE G N f sc co a) (trO (trE G N f sc co) lo) (trO (trE G N f sc co) hi)
        | some _ => .nev
      | _ => .sub (trE G N f sc co a) (trE G N f sc co i)
    | .Tuple es _ _ => .tup (trEs (trE G N f sc co) es)
    | .List es _ => .lst (trEs (trE G N f sc co) es)
    | .Dict ks vs _ => match ks with
      | [] => match vs with
        | [] => .dct .nil
        | _ => .nev
      | _ => .nev
    | .ListComp elt gens sc2 _ => match gens with
      | [⟨tg, iter, ifs, asy⟩] => match asy == 0 && !isSet iter with
        | true => match ownOf N (tgN f tg) with
          | some own => match blkC N sc sc2 own with
            | true => match trG G N f (relS sc2 sc) (fun x => sc2.names.lookup x == some .cell) tg with
              | some g => match subN (gix g) (own.map (·.2)) with
                | true => match ifs with
                  | [] => .lc (own.map (·.2)) (trE G N f (relS sc2 sc) (fun x => sc2.names.lookup x == some .cell) elt) g (trI G N f sc co (isTup tg) iter) .nil
                  | [c] => .lc (own.map (·.2)) (trE G N f (relS sc2 sc) (fun x => sc2.names.lookup x == some .cell) elt) g (trI G N f sc co (isTup tg) iter) (.cons (trT G N f (relS sc2 sc) (fun x => sc2.names.lookup x == some .cell) c) .nil)
                  | _ => .nev
                | false => .nev
              | none => .nev
            | false => .nev
          | none => .nev
        | false => .nev
      | _ => .nev
    | .DictComp key val gens sc2 _ => match gens with
      | [⟨tg, iter, ifs, asy⟩] => match asy == 0 && !isSet iter with
        | true => match ownOf N (tgN f tg) with
          | some own => match blkC N sc sc2 own with
            | true => match trG G N f (relS sc2 sc) (fun x => sc2.names.lookup x == some .cell) tg with
              | some g => match subN (gix g) (own.map (·.2)) with
                | true => match ifs with
                  | [] => .dc (own.map (·.2)) (trE G N f (relS sc2 sc) (fun x => sc2.names.lookup x == some .cell) key) (trE G N f (relS sc2 sc) (fun x => sc2.names.lookup x == some .cell) val) g (trI G N f sc co (isTup tg) iter) .nil
                  | [c] => .dc (own.map (·.2)) (trE G N f (relS sc2 sc) (fun x => sc2.names.lookup x == some .cell) key) (trE G N f (relS sc2 sc) (fun x => sc2.names.lookup x == some .cell) val) g (trI G N f sc co (isTup tg) iter) (.cons (trT G N f (relS sc2 sc) (fun x => sc2.names.lookup x == some .cell) c) .nil)
                  | _ => .nev
                | false => .nev
              | none => .nev
            | false => .nev
          | none => .nev
        | false => .nev
      | _ => .nev
    | .Call fn es kws pos => match kws with
      | [] => match noStar es with
        | true => match fn with
          | .Name x _ => match nmK N sc x with
            | .glo => match ixOf G.fns x with
              | some k => .call k x (trEs (trE G N f sc co) es)
              | none => match biOf x with
                | some b => match es with
                  | [] => .nev
                  | _ => .bi b (trEs (trE G N f sc co) es)
                | none => match decide (x = ("isinstance" : PySem.Str)) with
                  | true => match es with
                    | [a, t] => match t with
                      | .Name y _ => match nmK N sc y with
                        | .glo => match tyN y with
                          | some T => .isi (trE G N f sc co a) true [T]
                          | none => .nev
                        | _ => .nev
                      | .Tuple ps _ _ => match trTys N sc ps with
                        | some ts => match Nat.ble ts.length 100 with
                          | true => .isi (trE G N f sc co a) false ts
                          | false => .nev
                        | none => .nev
                      | _ => .nev
                    | _ => .nev
                  | false => .nev
            | _ => .nev
          | .Attribute o m ap => match meOf m with
            | some mt => match !isCall0 o && (ap.endLine == pos.line) && Nat.blt es.length 30 with
              | true => .met mt (trE G N f sc co o) (trEs (trE G N f sc co) es)
              | false => .nev
            | none => .nev
          | _ => .nev
        | false => .nev
      | _ => .nev
    | _ => .nev
def trT (G : GT) (N : List PySem.Str) : Nat → Scope → (PySem.Str → Bool) → Expr → XT
  | 0, _, _, _ => .va .nev
  | f + 1, sc, co, e => match e with
    | .BoolOp op vs _ => match vs with
      | [] => .va .nev
      | _ => .lg op (trTsL (trT G N f sc co) vs)
    | .UnaryOp .Not a _ => .nt (trT G N f sc co a)
    | .IfExp _ _ _ _ => .va .nev
    | _ => .va (trE G N f sc co e)
def trI (G : GT) (N : List PySem.Str) : Nat → Scope → (PySem.Str → Bool) → Bool → Expr → XI
  | 0, _, _, _, _ => .ex .nev
  | f + 1, sc, co, tup, e => match e with
    | .Call fn es kws _ => match fn with
      | .Name x _ => match kws with
        | [] => match nmK N sc x with
          | .glo => match decide (x = ("range" : PySem.Str)) with
            | true => match es with
              | [a] => match isStar a with
                | false => .rng (.cons false (trE G N f sc co a) .nil)
                | true => .ex .nev
              | [a, b] => match isStar a || isStar b with
                | false => .rng (.cons false (trE G N f sc co a) (.cons false (trE G N f sc co b) .nil))
                | true => .ex .nev
              | _ => .ex .nev
            | false => match tup && decide (x = ("enumerate" : PySem.Str)) with
              | true => match es with
                | [a] => match isStar a with
                  | false => .enu (trE G N f sc co a)
                  | true => .ex .nev
                | _ => .ex .nev
              | false => match tup && decide (x = ("zip" : PySem.Str)) with
                | true => match es with
                  | [a, b] => match isStar a || isStar b with
                    | false => .zip (trE G N f sc co a) (trE G N f sc co b)
                    | true => .ex .nev
                  | _ => .ex .nev
                | false => .ex (trE G N f sc co e)
          | _ => .ex .nev
        | _ => .ex .nev
      | _ => .ex (trE G N f sc co e)
    | _ => .ex (trE G N f sc co e)
def trG (G : GT) (N : List PySem.Str) : Nat → Scope → (PySem.Str → Bool) → Expr → Option XG
  | 0, _, _, _ => none
  | f + 1, sc, co, e => match e with
    | .Name x _ => match nmK N sc x with
      | .loc i => match (sc.names.lookup x == some .local) || ((sc.names.lookup x == some .cell) && co x) with
        | true => some (.nm i x)
        | false => none
      | _ => none
    | .Tuple es _ _ => match noStar es with
      | true => match trGs (trG G N f sc co) es with
        | some gs => some (.tp gs)
        | none => none
      | false => none
    | .Subscript o i _ => match isSlice i with
      | false => some (.sb (trE G N f sc co o) (trE G N f sc co i))
      | true => none
    | _ => none
end
end EM
end
section
set_option Elab.async false
set_option linter.all false
set_option maxRecDepth 100000
set_option maxHeartbeats 2000000
/-! EF: the machine's code of an expression runs as the expression does. -/
namespace EM
open PySem PySem.Spec PyProof.Rows L2

/-- what the machine's code needs of the context -/
structure Good (D : Da) (G : GT) (K : Nat → Option EV) (C : Nat → List EV → EH → R EV) (CX : CXT) (N : List PySem.Str) (d : Nat) (sc : Scope) (co : PySem.Str → Bool) (X : Cx) (E : XK) : Prop where
  F : Fit D X
  calm : X.calm = true
  nd : X.N.Nodup
  hN : X.N = N
  hsc : X.env.scope = sc
  cell : ∀ x, co x = true → X.fn x = true
  room : Room d X.A
  pass : Passes CX X E
  cxn : ∀ outer H s e s', ¬ CX outer H s noE e s'
  bi : ∀ x ∈ biN, X.mg x = none
  cst : ∀ k x v, G.cst[k]? = some x → K k = some v → ∃ w u, X.mg x = some u ∧ RelV w u ∧ ∀ ρ n H, RV D ρ n H v w
  fns : ∀ k x, G.fns[k]? = some x → ∃ f fd ps, FnOk X.prog X.w X.K X.mg X.base CX d f fd ps (spC D C k) ∧ X.mg x = some (.ref f) ∧ PySem.W.keepIn X.K (.ref f) = true ∧ Binds X.K fd ps []

section
variable {D : Da} {G : GT} {K : Nat → Option EV} {C : Nat → List EV → EH → R EV} {CX : CXT} {N : List PySem.Str} {d : Nat} {sc : Scope} {co : PySem.Str → Bool} {X : Cx} {E : XK} {fu : Nat}
theorem Good.r0 (g : Good D G K C CX N d sc co X E) : Room 0 X.A := g.room.mono (Nat.zero_le _)
theorem Good.gl (g : Good D G K C CX N d sc co X E) {x : PySem.Str} (h : nmK N sc x = .glo) : Gl X x := by
  show X.env.scope.names.lookup x = _
  rw [g.hsc]
  exact (nmK_glo h).1
theorem Good.blk (g : Good D G K C CX N d sc co X E) (s : Shared) (H : Hp) (scope : Scope) (cl : List (PySem.Str × Addr)) (B : Addr) (fp : List Addr) :
    Good D G K C CX N d (relS scope sc) (fun x => scope.names.lookup x == some .cell) (X.blk s H scope (compEnvC scope cl B X.env) fp) noE where
  F := ⟨g.F.P, g.F.w, g.F.K⟩
  calm := g.calm
  nd := g.nd
  hN := g.hN
  hsc := by rw [← g.hsc]; rfl
  cell := fun x h => h
  room := g.room
  pass := fun pins σ H s e s' _ q => (g.cxn _ _ _ _ _ q).elim
  cxn := g.cxn
  bi := g.bi
  cst := g.cst
  fns := g.fns

/-- a list of expressions -/
theorem es_ok {r : Expr → XE} (h : ∀ e, PE X e (tE D E (ev K C fu (r e)))) (F : Fit D X) : ∀ es, PA X es (tA D E (evs K C fu (trEs r es)))
  | [] => a_nil
  | e :: es => by
    have ih := es_ok h F es
    cases e with
    | Starred a p => exact a_star F (h a) ih
    | _ => exact a_cons (h _) ih rfl
theorem sub_ok {is js : List Nat} (h : subN is js = true) : ∀ i ∈ is, i ∈ js := fun i hi => by
  have := List.all_eq_true.mp h i hi
  simpa using this
theorem tys_ok (g : Good D G K C CX N d sc co X E) : ∀ {es : List Expr} {ts : List Ty}, trTys N sc es = some ts → Tys X es ts
  | [], ts, h => by cases h; exact .nil
  | e :: es, ts, h => by
    unfold trTys at h
    split at h
    · rename_i x p
      split at h
      · rename_i hn
        split at h
        · rename_i T hT
          split at h
          · rename_i ts' h'
            cases h
            obtain rfl := tyN_nm hT
            exact .cons (g.gl hn) (g.bi _ (ty_mem T)) (tys_ok g h')
          · cases h
        · cases h
      · cases h
    · cases h
theorem noset {e : Expr} (h : isSet e = false) (env : Env) (x : Value) : foldedSetIterable e env x = pure x := by
  cases e <;> first | rfl | cases h
theorem nosl {e : Expr} (h : isSlice e = false) : PlainIx e := by
  intro o i
  cases e <;> first | rfl | cases h
theorem nosl_as {o e : Expr} {pos : Pos} {env : Env} (h : isSlice e = false) (v : Value) : assign (.Subscript o e pos) env v = (do
      let ov ← holding [v] (eval o env)
      let iv ← holding [v, ov] (eval e env)
      standAt pos
      holding [v, ov, iv] (setItem ov iv v)
      release [v, ov, iv] []) := by
  cases e <;> first | rfl | cases h
theorem nocall {o : Expr} (h : isCall0 o = false) (m : PySem.Str) (env : Env) : attributeBase o m env (eval o env) = eval o env := by
  cases o with
  | Call f es ks p =>
    cases es with
    | nil =>
      cases ks with
      | nil => exact Bool.noConfusion h
      | cons _ _ => cases f <;> rfl
    | cons _ _ => cases f <;> rfl
  | _ => rfl
theorem gs_ok {g : Expr → Option XG} (h : ∀ e x, g e = some x → PG X e (tG D E (gix x) (eg K C fu x))) : ∀ {es : List Expr} {r : XGs}, noStar es = true → trGs g es = some r → PGs X es (tGs D E (gix.gixs r) (egs K C fu r)) ∧ r.len = es.length
  | [], r, _, e => by cases e; exact ⟨gs_nil, rfl⟩
  | e :: es, r, hs, he => by
    unfold trGs at he
    split at he
    · rename_i x ex
      split at he
      · rename_i r' er
        cases he
        obtain ⟨h1, h2⟩ := st_split hs
        obtain ⟨p, l⟩ := gs_ok h h2 er
        refine ⟨gs_cons (h e x ex) p h1, ?_⟩
        show r'.len + 1 = _
        rw [l]
        rfl
      · cases he
    · cases he
theorem isT_va {a : Expr} {env : Env} (h : match a with | .BoolOp _ _ _ => False | .UnaryOp .Not _ _ => False | .IfExp _ _ _ _ => False | .Compare _ _ _ _ => False | _ => True) : ∀ whole, isTrue a env whole = (do let v ← whole; standAt a.pos; holding [v] (truthy v)) := by
  intro whole
  cases a <;> first | rfl | exact h.elim | skip
  rename_i op _ _
  cases op <;> first | rfl | exact h.elim
structure Oks (D : Da) (G : GT) (K : Nat → Option EV) (C : Nat → List EV → EH → R EV) (N : List PySem.Str) (fu f : Nat) (sc : Scope) (co : PySem.Str → Bool) (X : Cx) (E : XK) : Prop where
  e : ∀ e, PE X e (tE D E (ev K C fu (trE G N f sc co e)))
  t : ∀ e, PT X e (tT D E (et K C fu (trT G N f sc co e)))
  i : ∀ tup tg e, (tup = true → isTup tg = true) → PI X tg e (tI D E (eit K C fu (trI G N f sc co tup e)))
  g : ∀ e x, trG G N f sc co e = some x → PG X e (tG D E (gix x) (eg K C fu x))
theorem t_bad {e : Expr} : PT X e (tT D E (et K C fu (.va .nev))) := ⟨fun pins s σ H Q I ⟨_, _, _, _, _, af⟩ => af.elim⟩
theorem i_bad {tg e : Expr} : PI X tg e (tI D E (eit K C fu (.ex .nev))) := ⟨fun pins s σ H Q I ⟨_, _, _, _, _, af⟩ => af.elim⟩
theorem oks_i {f : Nat} (g : Good D G K C CX N d sc co X E) (o : Oks D G K C N fu f sc co X E) : ∀ tup tg e, (tup = true → isTup tg = true) → PI X tg e (tI D E (eit K C fu (trI G N (f + 1) sc co tup e))) := by
  intro tup tg e ht
  have dflt : PI X tg e (tI D E (eit K C fu (.ex (trE G N f sc co e)))) := i_ex g.F (o.e e)
  have ok_tup : ∀ {P : Prop} {q : Bool}, (tup && q) = true → (∀ es k p, tg = .Tuple es k p → P) → P := fun {P q} h k => by
    have := ht (Bool.and_eq_true_iff.mp h).1
    cases tg <;> first | exact k _ _ _ rfl | cases this
  unfold trI
  split
  · split
    · split
      · rename_i x p kws
        split
        · rename_i hn
          have hg := g.gl hn
          split
          · rename_i hx
            have hx := of_decide_eq_true hx
            subst hx
            split
            · split
              · rename_i hs
                exact i_rng1 hg (g.bi _ (by decide +kernel)) hs (o.e _)
              · exact i_bad
            · split
              · rename_i hs
                rw [Bool.or_eq_false_iff] at hs
                exact i_rng2 hg (g.bi _ (by decide +kernel)) hs.1 hs.2 (o.e _) (o.e _)
              · exact i_bad
            · exact i_bad
          · split
            · rename_i hx
              refine ok_tup hx fun es k p e => ?_
              subst e
              have hx := of_decide_eq_true (Bool.and_eq_true_iff.mp hx).2
              subst hx
              split
              · split
                · rename_i hs
                  exact i_enu g.F hg (g.bi _ (by decide +kernel)) hs (o.e _)
                · exact i_bad
              · exact i_bad
            · split
              · rename_i hx
                refine ok_tup hx fun es k p e => ?_
                subst e
                have hx := of_decide_eq_true (Bool.and_eq_true_iff.mp hx).2
                subst hx
                split
                · split
                  · rename_i hs
                    rw [Bool.or_eq_false_iff] at hs
                    exact i_zip g.F hg (g.bi _ (by decide +kernel)) hs.1 hs.2 (o.e _) (o.e _)
                  · exact i_bad
                · exact i_bad
              · exact dflt
        · exact i_bad
      · exact i_bad
    · exact dflt
  · exact dflt
theorem oks_g {f : Nat} (g : Good D G K C CX N d sc co X E) (o : Oks D G K C N fu f sc co X E) : ∀ e x, trG G N (f + 1) sc co e = some x → PG X e (tG D E (gix x) (eg K C fu x)) := by
  intro e x h
  unfold trG at h
  split at h
  · split at h
    · rename_i hn
      split at h
      · rename_i hl
        cases h
        obtain ⟨h1, h2, h3⟩ := nmK_loc hn
        rw [Bool.or_eq_true] at hl
        refine g_nm g.nd (by rw [g.hN]; exact h1) ?_ ?_
        · rw [g.hsc]
          rcases hl with hl | hl
          · exact .inl (by simpa using hl)
          · exact .inr (by simpa using (Bool.and_eq_true_iff.mp hl).1)
        · rw [g.hsc]
          rcases hl with hl | hl
          · exact .inr (by simpa using hl)
          · exact .inl (g.cell _ (Bool.and_eq_true_iff.mp hl).2)
      · cases h
    · cases h
  · split at h
    · rename_i hs
      split at h
      · rename_i gs hg
        cases h
        obtain ⟨p, l⟩ := gs_ok o.g hs hg
        exact g_tp g.F g.calm p l hs
      · cases h
    · cases h
  · split at h
    · rename_i hs
      cases h
      exact g_sb g.F g.r0 (o.e _) (o.e _) (nosl_as hs)
    · cases h
  · cases h
theorem ts_ok {tt : Expr → XT} (h : ∀ e, PT X e (tT D E (et K C fu (tt e)))) (op : BoolOp) (pos : Pos) : ∀ (a : Expr) (es : List Expr), PW X (.BoolOp op (a :: es) pos) (tT D E (etl K C fu op (trTsL tt (a :: es))))
  | a, [] => by
    cases op with
    | And => exact w_one (o := .And) (k := true) (.inl ⟨rfl, rfl⟩) (h a)
    | Or => exact w_one (o := .Or) (k := false) (.inr ⟨rfl, rfl⟩) (h a)
  | a, b :: es => by
    have ih := ts_ok h op pos b es
    cases op with
    | And => exact w_and (h a) ih
    | Or => exact w_or (h a) ih
theorem lg_ok {r : Expr → XE} (h : ∀ e, PE X e (tE D E (ev K C fu (r e)))) (F : Fit D X) (op : BoolOp) (pos : Pos) : ∀ (a : Expr) (es : List Expr), noStar (a :: es) = true → PE X (.BoolOp op (a :: es) pos) (tE D E (elg K C fu op (trEs r (a :: es))))
  | a, [], hs => by
    have e : trEs r [a] = .cons false (r a) .nil := by
      cases a <;> first | rfl | cases hs
    rw [e]
    cases op with
    | And => exact e_one (h a)
    | Or => exact e_one (h a)
  | a, b :: es, hs => by
    obtain ⟨h1, h2⟩ := st_split hs
    have ih := lg_ok h F op pos b es h2
    have e1 : trEs r (a :: b :: es) = .cons false (r a) (trEs r (b :: es)) := by
      cases a <;> first | rfl | cases h1
    have e2 : ∃ x y, trEs r (b :: es) = .cons false x y := by
      have h3 := (st_split h2).1
      cases b <;> first | exact ⟨_, _, rfl⟩ | cases h3
    rw [e1]
    obtain ⟨x, y, e2⟩ := e2
    rw [e2] at ih ⊢
    cases op with
    | And => exact e_and F (h a) ih
    | Or => exact e_or F (h a) ih
theorem oks_t {f : Nat} (g : Good D G K C CX N d sc co X E) (o : Oks D G K C N fu f sc co X E) (hc : ∀ a ops bs pos, PT X (.Compare a ops bs pos) (tT D E (et K C fu (.va (trE G N f sc co (.Compare a ops bs pos)))))) :
    ∀ e, PT X e (tT D E (et K C fu (trT G N (f + 1) sc co e))) := by
  intro e
  unfold trT
  split
  · rename_i op vs pos
    cases vs with
    | nil => exact t_bad
    | cons a es => exact (ts_ok o.t op pos a es).pt
  · exact t_not (o.t _)
  · exact t_bad
  · rename_i h1 h2 h3
    cases e with
    | Compare a ops bs pos => exact hc a ops bs pos
    | BoolOp op vs pos => exact (h1 _ _ _ rfl).elim
    | IfExp a b c pos => exact (h3 _ _ _ _ rfl).elim
    | UnaryOp op a pos =>
      cases op with
      | Not => exact (h2 _ _ rfl).elim
      | _ => exact t_va g.F (o.e _) fun _ => rfl
    | _ => exact t_va g.F (o.e _) fun _ => rfl
theorem cmp_t {f : Nat} (g : Good D G K C CX N d sc co X E) (o : Oks D G K C N fu f sc co X E) : ∀ a ops bs pos, PT X (.Compare a ops bs pos) (tT D E (et K C fu (.va (trE G N (f + 1) sc co (.Compare a ops bs pos))))) := by
  intro a ops bs pos
  unfold trE
  simp only
  split
  · split
    · split
      · rename_i hm
        exact t_cmp g.F g.r0 (o.e _) (o.e _) hm
      · exact t_bad
    · exact t_bad
  · split
    · split
      · rename_i hm
        exact t_chn g.F g.r0 (o.e _) (o.e _) (o.e _) hm
      · exact t_bad
    · exact t_bad
  · exact t_bad
end
end EM
end
section
set_option Elab.async false
set_option linter.all false
set_option maxRecDepth 100000
set_option maxHeartbeats 4000000
/-! EG: every expression. -/
namespace EM
open PySem PySem.Spec PyProof.Rows L2
section
variable {D : Da} {G : GT} {K : Nat → Option EV} {C : Nat → List EV → EH → R EV} {CX : CXT} {N : List PySem.Str} {d : Nat} {sc : Scope} {co : PySem.Str → Bool} {X : Cx} {E : XK} {fu : Nat}
theorem e_nev {e : Expr} : PE X e (tE D E (ev K C fu .nev)) := ⟨fun pins s σ H Q I ⟨_, _, _, _, _, af⟩ => af.elim⟩
theorem pts_c {c : Expr} {m : M Bool} (h : PT X c (tT D E m)) : PTs X [c] (tT D E (mAnd m (mC true))) :=
  pts_one (imT h fun σ H Q ⟨ρ, h, τ, rs, rh, af⟩ => goT rs rh af fun b h1 ρ1 H1 x1 rh1 rs1 af1 => by
    cases b with
    | true => exact af1.here rh1
    | false => exact af1.here rh1)
theorem pts_0 : PTs X [] (tT D E (mC true)) := ⟨fun pins s σ H Q I ⟨ρ, h, τ, rs, rh, af⟩ => pts_nil.run pins s σ H Q I (af.here rh)⟩
theorem e_lc (g : Good D G K C CX N d sc co X E) (hF : fu ≤ sizeLine) {elt tg iter : Expr} {ifs : List Expr} {sc2 : Scope} {own : List (PySem.Str × Nat)} {is : List Nat} {pos : Pos} {gt : EV → M Sg} {it : M IT} {tt : M Bool} {me : M EV}
    (hb : blkC N sc sc2 own = true) (hi : ∀ i ∈ is, i ∈ own.map (·.2)) (h1 : PI X tg iter (tI D E it)) (hs : isSet iter = false)
    (h2 : ∀ X', Good D G K C CX N d (relS sc2 sc) (fun x => sc2.names.lookup x == some .cell) X' noE → PG X' tg (tG D noE is gt) ∧ PTs X' ifs (tT D noE tt) ∧ PE X' elt (tE D noE me)) :
    PE X (.ListComp elt [⟨tg, iter, ifs, 0⟩] sc2 pos) (tE D E (mLc fu (own.map (·.2)) me gt it tt)) :=
  imE (pe_lc g.calm g.nd h1 (blkOk_by (by rw [g.hN, g.hsc]; exact hb)) (fun s H B cl fp => (h2 _ (g.blk s H sc2 cl B fp)).1) (fun s H B cl fp => (h2 _ (g.blk s H sc2 cl B fp)).2.1) (fun s H B cl fp => (h2 _ (g.blk s H sc2 cl B fp)).2.2) (noset hs _))
    fun σ H Q q => lc_read hF hi q
theorem e_dc (g : Good D G K C CX N d sc co X E) (hF : fu ≤ sizeLine) {key val tg iter : Expr} {ifs : List Expr} {sc2 : Scope} {own : List (PySem.Str × Nat)} {is : List Nat} {pos : Pos} {gt : EV → M Sg} {it : M IT} {tt : M Bool} {mk mv : M EV}
    (hb : blkC N sc sc2 own = true) (hi : ∀ i ∈ is, i ∈ own.map (·.2)) (h1 : PI X tg iter (tI D E it)) (hs : isSet iter = false)
    (h2 : ∀ X', Good D G K C CX N d (relS sc2 sc) (fun x => sc2.names.lookup x == some .cell) X' noE → PG X' tg (tG D noE is gt) ∧ PTs X' ifs (tT D noE tt) ∧ PE X' key (tE D noE mk) ∧ PE X' val (tE D noE mv)) :
    PE X (.DictComp key val [⟨tg, iter, ifs, 0⟩] sc2 pos) (tE D E (mDc fu (own.map (·.2)) mk mv gt it tt)) :=
  imE (pe_dx (D := D) (put := rDs D) g.calm g.nd h1 (blkOk_by (by rw [g.hN, g.hsc]; exact hb)) (fun s H B cl fp => (h2 _ (g.blk s H sc2 cl B fp)).1) (fun s H B cl fp => (h2 _ (g.blk s H sc2 cl B fp)).2.1) (fun s H B cl fp => (h2 _ (g.blk s H sc2 cl B fp)).2.2.1)
    (fun s H B cl fp => (h2 _ (g.blk s H sc2 cl B fp)).2.2.2) (noset hs _) fun s H B cl fp ce dd Nx s1 pins σ H1 y z u r R Ex I ry rz q k => put_ds (X := X.blk s H sc2 ce fp) ⟨g.F.P, g.F.w, g.F.K⟩ g.r0 I ry rz q k)
    fun σ H Q q => dc_read hF hi q
theorem oks_e {f : Nat} (hF : fu ≤ sizeLine) (hA : ∀ sc co X E, Good D G K C CX N d sc co X E → Oks D G K C N fu f sc co X E) (g : Good D G K C CX N d sc co X E) : ∀ e, PE X e (tE D E (ev K C fu (trE G N (f + 1) sc co e))) := by
  have o := hA sc co X E g
  intro e
  unfold trE
  split
  · -- a name
    split
    · rename_i hn
      obtain ⟨h1, h2, h3⟩ := nmK_loc hn
      obtain ⟨h4, h5⟩ := okN_d h3
      exact e_var (by rw [g.hN]; exact h1) (by rw [g.hsc]; exact h2) h4 h5
    · rename_i hn
      split
      · rename_i k hk
        refine e_opt fun v hv => ?_
        obtain ⟨w, u, h1, h2, h3⟩ := g.cst k _ v (ixOf_at hk) hv
        exact ⟨w, pe_glob (g.gl hn) h1 h2 (okN_d (nmK_glo hn).2).1, h3⟩
      · exact e_nev
    · exact e_nev
  · -- a constant
    split
    · exact e_C pe_int fun _ _ _ => .int _
    · exact e_C pe_bl fun _ _ _ => .bl _
    · exact e_C pe_non fun _ _ _ => .non
    · exact e_C pe_str fun _ _ _ => .str _
    · exact e_nev
  · exact e_bin g.F (o.e _) (o.e _)
  · split
    · exact e_neg (o.e _)
    · exact e_not g.F (o.e _)
    · exact e_nev
  · split
    · split
      · split
        · rename_i hm
          exact e_cmp g.F g.r0 (o.e _) (o.e _) hm
        · exact e_nev
      · exact e_nev
    · split
      · split
        · rename_i hm
          exact e_chn g.F g.r0 (o.e _) (o.e _) (o.e _) hm
        · exact e_nev
      · exact e_nev
    · exact e_nev
  · rename_i op vs pos
    split
    · rename_i hs
      cases vs with
      | nil => exact ⟨fun pins s σ H Q I ⟨_, _, _, _, _, af⟩ => af.elim⟩
      | cons a es => exact lg_ok o.e g.F op pos a es hs
    · exact e_nev
  · exact e_ite (o.t _) (o.e _) (o.e _)
  · split
    · rename_i lo hi st p2
      split
      · refine e_slc g.F (o.e _) ?_ ?_
        · cases lo with
          | none => exact o_none
          | some a => exact o_some (o.e a)
        · cases hi with
          | none => exact o_none
          | some a => exact o_some (o.e a)
      · exact e_nev
    · rename_i i p _ hi
      refine e_sub g.F g.r0 (o.e _) (o.e _) (nosl ?_)
      cases i <;> first | rfl | exact (hi _ _ _ _ rfl).elim
  · exact e_tup (es_ok o.e g.F _)
  · exact e_lst (es_ok o.e g.F _)
  · split
    · split
      · exact e_dnew rfl
      · exact e_nev
    · exact e_nev
  · -- a list comprehension
    split
    · rename_i tg iter ifs asy
      split
      · rename_i ha
        rw [Bool.and_eq_true] at ha
        have ha1 : asy = 0 := by simpa using ha.1
        have ha2 : isSet iter = false := by simpa using ha.2
        subst ha1
        split
        · split
          · rename_i hb
            split
            · rename_i gg hg
              split
              · rename_i hsub
                split
                · refine e_lc g hF hb (sub_ok hsub) (o.i _ _ _ fun h => h) ha2 fun X' g' => ?_
                  have o' := hA _ _ X' noE g'
                  exact ⟨o'.g _ _ hg, pts_0, o'.e _⟩
                · refine e_lc g hF hb (sub_ok hsub) (o.i _ _ _ fun h => h) ha2 fun X' g' => ?_
                  have o' := hA _ _ X' noE g'
                  exact ⟨o'.g _ _ hg, pts_c (o'.t _), o'.e _⟩
                · exact e_nev
              · exact e_nev
            · exact e_nev
          · exact e_nev
        · exact e_nev
      · exact e_nev
    · exact e_nev
  · -- a dict comprehension
    split
    · rename_i tg iter ifs asy
      split
      · rename_i ha
        rw [Bool.and_eq_true] at ha
        have ha1 : asy = 0 := by simpa using ha.1
        have ha2 : isSet iter = false := by simpa using ha.2
        subst ha1
        split
        · split
          · rename_i hb
            split
            · rename_i gg hg
              split
              · rename_i hsub
                split
                · refine e_dc g hF hb (sub_ok hsub) (o.i _ _ _ fun h => h) ha2 fun X' g' => ?_
                  have o' := hA _ _ X' noE g'
                  exact ⟨o'.g _ _ hg, pts_0, o'.e _, o'.e _⟩
                · refine e_dc g hF hb (sub_ok hsub) (o.i _ _ _ fun h => h) ha2 fun X' g' => ?_
                  have o' := hA _ _ X' noE g'
                  exact ⟨o'.g _ _ hg, pts_c (o'.t _), o'.e _, o'.e _⟩
                · exact e_nev
              · exact e_nev
            · exact e_nev
          · exact e_nev
        · exact e_nev
      · exact e_nev
    · exact e_nev
  · -- a call
    split
    · split
      · rename_i es pos _ _ hs
        split
        · rename_i x p
          split
          · rename_i hn
            split
            · rename_i k hk
              obtain ⟨f', fd, ps, h1, h2, h3, h4⟩ := g.fns k x (ixOf_at hk)
              cases es with
              | nil => exact e_call0 h1 g.room (g.gl hn) h2 h3 h4 g.pass (okN_d (nmK_glo hn).2).1
              | cons a es => exact e_call h1 g.room (g.gl hn) h2 h3 h4 g.pass (okN_d (nmK_glo hn).2).1 hs (es_ok o.e g.F _)
            · split
              · rename_i b hb
                obtain rfl := biOf_nm hb
                split
                · exact e_nev
                · rename_i hne
                  cases es with
                  | nil => exact (hne rfl).elim
                  | cons a es => exact e_bi g.F g.r0 g.calm b (g.gl hn) (g.bi _ (bi_mem b)) hs (es_ok o.e g.F _)
              · split
                · rename_i hx
                  have hx := of_decide_eq_true hx
                  subst hx
                  split
                  · rename_i a t
                    have hsa := (st_split hs).1
                    split
                    · split
                      · rename_i hn2
                        split
                        · rename_i T hT
                          obtain rfl := tyN_nm hT
                          exact e_isi1 g.F (g.gl hn) (g.bi _ (by decide +kernel)) (g.gl hn2) (g.bi _ (ty_mem T)) hsa (o.e _)
                        · exact e_nev
                      · exact e_nev
                    · split
                      · rename_i ts ht
                        split
                        · rename_i hz
                          exact e_isi2 g.F (g.gl hn) (g.bi _ (by decide +kernel)) (tys_ok g ht) (by rw [sizeLine_eq]; rw [Nat.ble_eq] at hz; omega) hsa (o.e _)
                        · exact e_nev
                      · exact e_nev
                    · exact e_nev
                  · exact e_nev
                · exact e_nev
          · exact e_nev
        · rename_i ob m ap
          split
          · rename_i mt hm
            obtain rfl := meOf_nm hm
            split
            · rename_i hc
              rw [Bool.and_eq_true, Bool.and_eq_true] at hc
              obtain ⟨⟨c1, c2⟩, c3⟩ := hc
              have c1 : isCall0 ob = false := by simpa using c1
              have c3 : es.length < 30 := by simpa [Nat.blt, Nat.ble_eq, Nat.lt_iff_add_one_le] using c3
              cases es with
              | nil => exact e_met0 g.F g.r0 (o.e _) (nocall c1 _ _) c2
              | cons a es => exact e_met g.F g.r0 (o.e _) (es_ok o.e g.F _) hs (nocall c1 _ _) c3 c2
            · exact e_nev
          · exact e_nev
        · exact e_nev
      · exact e_nev
    · exact e_nev
  · exact e_nev
theorem oks (hF : fu ≤ sizeLine) : ∀ (f : Nat) (sc : Scope) (co : PySem.Str → Bool) (X : Cx) (E : XK), Good D G K C CX N d sc co X E → Oks D G K C N fu f sc co X E
  | 0, sc, co, X, E, g => ⟨fun e => by unfold trE; exact e_nev, fun e => by unfold trT; exact t_bad, fun _ _ e _ => by unfold trI; exact i_bad, fun e x h => by unfold trG at h; cases h⟩
  | f + 1, sc, co, X, E, g => by
    have hA := oks hF f
    have o := hA sc co X E g
    refine ⟨oks_e hF hA g, oks_t g o ?_, oks_i g o, oks_g g o⟩
    cases f with
    | zero => intro a ops bs pos; unfold trE; exact t_bad
    | succ f => exact cmp_t g (oks hF f sc co X E g)
end
end EM
end
section
set_option Elab.async false
set_option linter.all false
set_option maxRecDepth 100000
set_option maxHeartbeats 4000000
/-! EH: statements. -/
namespace EM
open PySem PySem.Spec PyProof.Rows L2
section
variable {D : Da} {X : Cx} {E : XK} {fu : Nat} {pos : Pos} {e : Expr} {m : M EV}
theorem s_bad {st : Stmt} : PS X st (tS D E mBad) := ⟨fun pins s σ H N I ⟨_, _, _, _, _, af⟩ => af.elim⟩
theorem s_ex (he : PE X e (tE D E m)) (hs : swapsWith e none pos.line X.env = pure false) : PS X (.Expr e pos) (tS D E (sEx m)) :=
  imS (ps_expr he hs) fun N σ H ⟨ρ, h, τ, rs, rh, af⟩ => goE rs rh af fun v h1 ρ1 H1 w x1 rh1 rs1 rv af1 => af1.here rh1 σ rs1
theorem s_ret (he : PE X e (tE D E m)) : PS X (.Return (some e) pos) (tS D E (sRet m)) :=
  imS (ps_ret he) fun N σ H ⟨ρ, h, τ, rs, rh, af⟩ => goE rs rh af fun v h1 ρ1 H1 w x1 rh1 rs1 rv af1 => af1.here rh1 w rv
theorem s_retN : PS X (.Return none pos) (tS D E (mC (.rt .non))) :=
  imS ps_retN fun N σ H ⟨ρ, h, τ, rs, rh, af⟩ => af.here rh .non .non
theorem s_pass : PS X (.Pass pos) (tS D E sNx) := imS ps_pass fun N σ H ⟨ρ, h, τ, rs, rh, af⟩ => af.here rh σ rs
theorem s_brk : PS X (.Break pos) (tS D E sBk) := imS ps_break fun N σ H ⟨ρ, h, τ, rs, rh, af⟩ => af.here rh σ rs
theorem s_cnt : PS X (.Continue pos) (tS D E sCt) := imS ps_continue fun N σ H ⟨ρ, h, τ, rs, rh, af⟩ => af.here rh σ rs
theorem s_if {c : Expr} {a b : List Stmt} {mc : M Bool} {ma mb : M Fl} (hc : PT X c (tT D E mc)) (ha : PSs X a (tS D E ma)) (hb : PSs X b (tS D E mb)) : PS X (.If c a b pos) (tS D E (mIte mc ma mb)) :=
  imS (ps_if hc ha hb) fun N σ H ⟨ρ, h, τ, rs, rh, af⟩ => goT rs rh af fun k h1 ρ1 H1 x1 rh1 rs1 af1 => by
    cases k with
    | true => exact ⟨ρ1, h1, τ, rs1, rh1, af1⟩
    | false => exact ⟨ρ1, h1, τ, rs1, rh1, af1⟩
theorem ss_nil : PSs X [] (tS D E sNx) := imSs pss_nil fun N σ H ⟨ρ, h, τ, rs, rh, af⟩ => af.here rh σ rs
theorem ss_cons {st : Stmt} {r : List Stmt} {ma mr : M Fl} (ha : PS X st (tS D E ma)) (hr : PSs X r (tS D E mr)) : PSs X (st :: r) (tS D E (sSeq ma mr)) :=
  imSs (pss_cons ha hr) fun N σ H ⟨ρ, h, τ, rs, rh, af⟩ => ⟨ρ, h, τ, rs, rh, (Af.bind af).imp fun fl h1 ρ1 H1 x1 rh1 af1 => by
    cases fl with
    | nx τ1 => exact fun σ1 rs1 => ⟨ρ1, h1, τ1, rs1, rh1, af1⟩
    | bk τ1 => exact Af.here (E := E) (post := pF D N) (v := Fl.bk τ1) rh1 af1
    | ct τ1 => exact Af.here (E := E) (post := pF D N) (v := Fl.ct τ1) rh1 af1
    | rt v => exact Af.here (E := E) (post := pF D N) (v := Fl.rt v) rh1 af1⟩
theorem s_asg {tg : Expr} {is : List Nat} {g : EV → M Sg} (he : PE X e (tE D E m)) (hg : PG X tg (tG D E is g)) (hs : swapsWithSole [tg] e pos.line X.env = pure false) (hw : swappedStores [tg] e X.env = pure none) (hst : isStar tg = false) :
    PS X (.Assign [tg] e pos) (tS D E (sAsg g m)) :=
  imS (ps_asg he hg hs hw (as_cons hst)) fun N σ H ⟨ρ, h, τ, rs, rh, af⟩ => goE rs rh af fun v h1 ρ1 H1 w x1 rh1 rs1 rv af1 => goG rs1 rh1 rv af1 fun τ' h2 ρ2 H2 σ' x2 rh2 rs2 o2 af2 => af2.here rh2 σ' rs2
theorem s_par (hc : X.calm = true) {i j : Nat} {x y : PySem.Str} {a b : Expr} {ma : M (List EV)} {px py pt : Pos} {kt k2 : Nat} {pt2 : Pos} (hN : X.N.Nodup) (hi : X.N[i]? = some x) (hj : X.N[j]? = some y) (hij : i ≠ j)
    (hx : X.env.scope.names.lookup x = some .local) (hy : X.env.scope.names.lookup y = some .local) (ha : PA X [a, b] (tA D E ma)) (hw : swappedStores [.Tuple [.Name x px, .Name y py] kt pt] (.Tuple [a, b] k2 pt2) X.env = pure (some [x, y])) :
    PS X (.Assign [.Tuple [.Name x px, .Name y py] kt pt] (.Tuple [a, b] k2 pt2) pos) (tS D E (sPar [i, j] ma)) :=
  imS (ps_par hc hN hi hj hij hx hy ha hw) fun N σ H ⟨ρ, h, τ, rs, rh, af⟩ => goA rs rh af fun vs h1 ρ1 H1 ws x1 rh1 rs1 rvs af1 => by
    cases rvs with
    | nil => exact af1.elim
    | cons r1 rvs =>
      cases rvs with
      | nil => exact af1.elim
      | cons r2 rvs =>
        cases rvs with
        | nil => exact ⟨_, _, rfl, af1.here rh1 _ ((rs1.set r1).set r2)⟩
        | cons _ _ => exact af1.elim
theorem s_while {c : Expr} {body : List Stmt} {mc : M Bool} {mb : M Fl} (hp : PassesOwn (model X.prog X.w) X.A X.env X.xe) (hc : PT X c (tT D E mc)) (hb : PSs X body (tS D E mb)) : PS X (.While c body [] pos) (tS D E (sWhl fu mc mb)) :=
  imS (ps_while hp hc hb) fun N σ H ⟨ρ0, h0, τ, rs, rh, af⟩ => by
    refine ⟨fun k σ1 H1 => ∃ ρ1 h1 τ1, Xt ρ0 h0.n H ρ1 h1.n H1 ∧ RS D ρ1 h1.n H1 τ1 σ1 ∧ RH D ρ1 h1 H1 ∧ Af D ρ0 h0.n H E (pF D N) (whlL mc mb k τ1 h1), ⟨fu, ρ0, h0, τ, Xt.refl, rs, rh, af⟩, ?_⟩
    rintro k σ1 H1 ⟨ρ1, h1, τ1, x1, rs1, rh1, af1⟩
    cases k with
    | zero => exact af1.elim
    | succ k =>
      unfold whlL at af1
      refine gwT x1 rs1 rh1 (Af.bind' af1) fun b h2 ρ2 H2 x2 rh2 rs2 af2 => ?_
      cases b with
      | false => exact (Af.start (x1.trans x2) af2).here rh2 σ1 rs2
      | true =>
        refine ⟨fun σ' H' => ∃ ρ3 h3 τ3, Xt ρ0 h0.n H ρ3 h3.n H' ∧ RS D ρ3 h3.n H' τ3 σ' ∧ RH D ρ3 h3 H' ∧ Af D ρ0 h0.n H E (pF D N) (whlL mc mb k τ3 h3), fun σ' H' q => ⟨k, Nat.lt_succ_self k, q⟩, ?_⟩
        refine gwS (x1.trans x2) rs2 rh2 (Af.bind' af2) fun fl h3 ρ3 H3 x3 rh3 af3 => ?_
        have x03 := (x1.trans x2).trans x3
        cases fl with
        | nx τ3 => exact fun σ3 rs3 => ⟨ρ3, h3, τ3, x03, rs3, rh3, af3⟩
        | ct τ3 => exact fun σ3 rs3 => ⟨ρ3, h3, τ3, x03, rs3, rh3, af3⟩
        | bk τ3 => exact Af.here (E := E) (post := pF D N) (v := Fl.nx τ3) rh3 (Af.start x03 af3)
        | rt v => exact Af.here (E := E) (post := pF D N) (v := Fl.rt v) rh3 (Af.start x03 af3)
theorem s_for {tg iter : Expr} {body : List Stmt} {is : List Nat} {g : EV → M Sg} {it : M IT} {mb : M Fl} (hc : X.calm = true) (hp : PassesOwn (model X.prog X.w) X.A X.env X.xe) (hi : PI X tg iter (tI D E it)) (hg : PG X tg (tG D E is g)) (hb : PSs X body (tS D E mb)) (hs : isSet iter = false) :
    PS X (.For tg iter body [] pos) (tS D E (sFor fu g it mb)) :=
  imS (ps_for hp hc hi hg hb (noset hs _)) fun N σ H ⟨ρ, h, τ, rs, rh, af⟩ => by
    refine ⟨ρ, h, τ, rs, rh, (Af.bind af).imp fun j h0 ρ0 H0 x0 rh0 af0 J I wk i0 => ?_⟩
    refine ⟨fun i k σ1 H1 => ∃ ρ1 h1 τ1 it, Xt ρ0 h0.n H0 ρ1 h1.n H1 ∧ RS D ρ1 h1.n H1 τ1 σ1 ∧ RH D ρ1 h1 H1 ∧ I i it ρ1 h1.n H1 ∧ Af D ρ0 h0.n H0 E (pF D N) (forL g mb k it τ1 h1), ⟨fu, ρ0, h0, τ, j, Xt.refl, rs.mono x0, rh0, i0, af0⟩, ?_⟩
    rintro i k σ1 H1 ⟨ρ1, h1, τ1, it, x1, rs1, rh1, i1, af1⟩
    cases k with
    | zero => exact af1.elim
    | succ k =>
      have ws := wk.step i it ρ1 h1 H1 rh1 i1
      unfold forL at af1
      split at af1
      · exact af1.elim
      · rename_i e
        rw [e] at ws
        exact .inl ⟨ws, (Af.start x1 af1).here rh1 σ1 rs1⟩
      · rename_i v it' e
        rw [e] at ws
        refine .inr ⟨ws.1, fun σ' H' => ∃ ρ3 h3 τ3 it, Xt ρ0 h0.n H0 ρ3 h3.n H' ∧ RS D ρ3 h3.n H' τ3 σ' ∧ RH D ρ3 h3 H' ∧ I (i + 1) it ρ3 h3.n H' ∧ Af D ρ0 h0.n H0 E (pF D N) (forL g mb k it τ3 h3), fun σ' H' q => ⟨k, Nat.lt_succ_self k, q⟩, fun x H' hy => ?_⟩
        obtain ⟨xy, rhy, rvy, iy⟩ := ws.2 x H' hy
        refine gwG (x1.trans xy) (rs1.mono xy) rhy rvy (Af.bind' af1) fun τ2 h2 ρ2 H2 σ2 x2 rh2 rs2 o2 af2 => ?_
        refine gwS ((x1.trans xy).trans x2) rs2 rh2 (Af.bind' af2) fun fl h3 ρ3 H3 x3 rh3 af3 => ?_
        have x03 := ((x1.trans xy).trans x2).trans x3
        have i3 := wk.mono _ _ _ _ _ _ _ _ iy (x2.trans x3)
        cases fl with
        | nx τ3 => exact fun σ3 rs3 => ⟨ρ3, h3, τ3, it', x03, rs3, rh3, i3, af3⟩
        | ct τ3 => exact fun σ3 rs3 => ⟨ρ3, h3, τ3, it', x03, rs3, rh3, i3, af3⟩
        | bk τ3 => exact Af.here (E := E) (post := pF D N) (v := Fl.nx τ3) rh3 (Af.start x03 af3)
        | rt v => exact Af.here (E := E) (post := pF D N) (v := Fl.rt v) rh3 (Af.start x03 af3)
end
end EM
end
section
set_option Elab.async false
set_option linter.all false
set_option maxRecDepth 100000
set_option maxHeartbeats 4000000
namespace EM
open PySem PySem.Spec PyProof.Rows L2
def isComp : Expr → Bool
  | .ListComp _ _ _ _ => true
  | .SetComp _ _ _ _ => true
  | .DictComp _ _ _ _ _ => true
  | _ => false
theorem sw_no {e : Expr} {t : Option Expr} {l : Nat} {env : Env} (h : isComp e = false) : swapsWith e t l env = pure false := by
  cases e <;> first | rfl | cases h
theorem sws_no {e t : Expr} {l : Nat} {env : Env} (h : isComp e = false) : swapsWithSole [t] e l env = pure false := sw_no h
def isLst : Expr → Bool
  | .List _ _ => true
  | _ => false
theorem st_one {t e : Expr} {env : Env} (h : isTup t = false) (h2 : isLst t = false) : swappedStores [t] e env = pure none := by
  cases t <;> first | rfl | exact Bool.noConfusion h | exact Bool.noConfusion h2
theorem st_tup {ts : List Expr} {k : Nat} {p : Pos} {e : Expr} {env : Env} (h : isTup e = false) : swappedStores [.Tuple ts k p] e env = pure none := by
  cases e <;> first | rfl | cases h
/-- the plain local names on the first one's line -/
def swN (sc : Scope) (line : Nat) (ts : List Expr) : List PySem.Str := ts.filterMap fun
    | .Name id pos => if sc.names.lookup id == some .local && pos.line == line then some id else none
    | _ => none
def swL (ts : List Expr) : Nat := (ts.head?.map (·.pos.line)).getD 0
theorem sw_form {ts vs : List Expr} {k k2 : Nat} {p p2 : Pos} {env : Env} : swappedStores [.Tuple ts k p] (.Tuple vs k2 p2) env =
    (if (!(ts.length == 2 || ts.length == 3) || vs.length != ts.length || env.blockKind != .function) = true then pure none
    else if (vs.any isStar) = true then pure none
    else if ((swN env.scope (swL ts) ts).length != ts.length || (swN env.scope (swL ts) ts).eraseDups.length != (swN env.scope (swL ts) ts).length) = true then pure none
    else if (vs.all (foldedForSure 8)) = true then pure none
    else if (vs.all (constantsAlone 8)) = true then ((unsupported "assign.tuple-of-constant-expressions:order-of-the-stores" : Sem PUnit) >>= fun _ => pure (some (swN env.scope (swL ts) ts)))
    else pure (some (swN env.scope (swL ts) ts))) := by
  have e1 : (vs.any fun | .Starred .. => true | _ => false) = vs.any isStar := by
    congr 1
  unfold swappedStores
  rfl
theorem sw_0 {ts vs : List Expr} {k k2 : Nat} {p p2 : Pos} {env : Env} (h : (!(ts.length == 2 || ts.length == 3) || vs.length != ts.length || vs.any isStar ||
    ((swN env.scope (swL ts) ts).length != ts.length || (swN env.scope (swL ts) ts).eraseDups.length != (swN env.scope (swL ts) ts).length) || vs.all (foldedForSure 8)) = true) : swappedStores [.Tuple ts k p] (.Tuple vs k2 p2) env = pure none := by
  rw [sw_form]
  split
  · rfl
  · rename_i h1
    split
    · rfl
    · rename_i h2
      split
      · rfl
      · rename_i h3
        split
        · rfl
        · rename_i h4
          exfalso
          simp only [Bool.or_eq_true] at h h1 h2 h3 h4
          rcases h with ((((h | h) | h) | h) | h)
          · exact h1 (.inl (.inl h))
          · exact h1 (.inl (.inr h))
          · exact h2 h
          · exact h3 h
          · exact h4 h
theorem sw_1 {ts vs : List Expr} {k k2 : Nat} {p p2 : Pos} {env : Env} (hk : env.scope.kind = .function) (h : ((ts.length == 2 || ts.length == 3) && vs.length == ts.length && !vs.any isStar &&
    (swN env.scope (swL ts) ts).length == ts.length && (swN env.scope (swL ts) ts).eraseDups.length == (swN env.scope (swL ts) ts).length && !vs.all (foldedForSure 8) && !vs.all (constantsAlone 8)) = true) :
    swappedStores [.Tuple ts k p] (.Tuple vs k2 p2) env = pure (some (swN env.scope (swL ts) ts)) := by
  simp only [Bool.and_eq_true, Bool.not_eq_true'] at h
  obtain ⟨⟨⟨⟨⟨⟨h1, h2⟩, h3⟩, h4⟩, h5⟩, h6⟩, h7⟩ := h
  have hb : env.blockKind = .function := by
    unfold Env.blockKind
    rw [hk]
    rfl
  rw [sw_form, if_neg (by rw [h1, hb]; simp [bne, h2]), if_neg (by rw [h3]; decide), if_neg (by simp [bne, h4, h5]), if_neg (by rw [h6]; decide), if_neg (by rw [h7]; decide)]
/-- a comprehension's value, stored -/
def cmpSc : Expr → Option Scope
  | .ListComp _ _ s _ => some s
  | .SetComp _ _ s _ => some s
  | .DictComp _ _ _ s _ => some s
  | _ => none
theorem sw_nm {e : Expr} {t : PySem.Str} {p : Pos} {l : Nat} {env : Env} {s : Scope} (h : cmpSc e = some s) :
    swapsWith e (some (.Name t p)) l env = pure (env.blockKind == .function && env.kindOf t == some .local && p.line == e.pos.line && !(s.names.any fun (n, k) => n == t && (k == .local || k == .cell))) := by
  cases e <;> first | (cases h; rfl) | exact absurd h (by simp [cmpSc])
theorem sw_tg {e t : Expr} {l : Nat} {env : Env} (h : (match t with | .Name _ _ => true | _ => false) = false) : swapsWithSole [t] e l env = pure false := by
  cases hc : isComp e with
  | false => exact sws_no hc
  | true =>
    cases e <;> first | exact Bool.noConfusion hc | (cases t <;> first | rfl | exact Bool.noConfusion h)
end EM
end
section
set_option Elab.async false
set_option linter.all false
set_option maxRecDepth 100000
set_option maxHeartbeats 4000000
/-! EI: the written statements, turned into the machine's code. -/
namespace EM
open PySem PySem.Spec PyProof.Rows L2
def isNm : Expr → Bool
  | .Name _ _ => true
  | _ => false
def swap0 (sc : Scope) (ts vs : List Expr) : Bool := !(ts.length == 2 || ts.length == 3) || vs.length != ts.length || vs.any isStar ||
    ((swN sc (swL ts) ts).length != ts.length || (swN sc (swL ts) ts).eraseDups.length != (swN sc (swL ts) ts).length) || vs.all (foldedForSure 8)
def swap1 (sc : Scope) (ts vs : List Expr) : Bool := (ts.length == 2 || ts.length == 3) && vs.length == ts.length && !vs.any isStar &&
    (swN sc (swL ts) ts).length == ts.length && (swN sc (swL ts) ts).eraseDups.length == (swN sc (swL ts) ts).length && !vs.all (foldedForSure 8) && !vs.all (constantsAlone 8)
def fnK (sc : Scope) : Bool := match sc.kind with
  | .function => true
  | _ => false
def all1 : PySem.Str → Bool := fun _ => true
def isLc : Expr → Bool
  | .ListComp _ _ _ _ => true
  | _ => false
def swapNm (sc : Scope) (x : PySem.Str) (p : Pos) (e : Expr) (s2 : Scope) : Bool := fnK sc && sc.names.lookup x == some .local && p.line == e.pos.line && !(s2.names.any fun (n, k) => n == x && (k == .local || k == .cell))
def mkAsg (g : Option XG) (e : XE) : XS := match g with
  | some g => .asg g e
  | none => .nev
def trAsg (G : GT) (N : List PySem.Str) (f : Nat) (sc : Scope) (tg e : Expr) : XS := match tg with
  | .Name x p => match cmpSc e with
    | none => mkAsg (trG G N f sc all1 tg) (trE G N f sc all1 e)
    | some s2 => match fnK sc with
      | true => match swapNm sc x p e s2 with
        | false => mkAsg (trG G N f sc all1 tg) (trE G N f sc all1 e)
        | true => match isLc e with
          | true => match ixOf N x with
            | some i => .asg (.nm i x) (trE G N f sc all1 e)
            | none => .nev
          | false => .nev
      | false => .nev
  | .Tuple ts _ _ => match e with
    | .Tuple vs _ _ => match swap0 sc ts vs with
      | true => mkAsg (trG G N f sc all1 tg) (trE G N f sc all1 e)
      | false => match swap1 sc ts vs && fnK sc with
        | true => match ts with
          | [t1, t2] => match vs with
            | [a, b] => match t1 with
              | .Name x px => match t2 with
                | .Name y py => match ixOf N x with
                  | some i => match ixOf N y with
                    | some j => match !(i == j) && sc.names.lookup x == some .local && sc.names.lookup y == some .local with
                      | true => .par [(i, x), (j, y)] (trEs (trE G N f sc all1) [a, b])
                      | false => .nev
                    | none => .nev
                  | none => .nev
                | _ => .nev
              | _ => .nev
            | _ => .nev
          | _ => .nev
        | false => .nev
    | _ => mkAsg (trG G N f sc all1 tg) (trE G N f sc all1 e)
  | .Subscript _ _ _ => mkAsg (trG G N f sc all1 tg) (trE G N f sc all1 e)
  | _ => .nev
def trSs (r : Stmt → XS) : List Stmt → XSs
  | [] => .nil
  | s :: ss => .cons (r s) (trSs r ss)
def trS (G : GT) (N : List PySem.Str) : Nat → Scope → Stmt → XS
  | 0, _, _ => .nev
  | f + 1, sc, st => match st with
    | .Expr e _ => match isComp e with
      | false => .ex (trE G N f sc all1 e)
      | true => .nev
    | .Return v _ => match v with
      | some e => .ret (trE G N f sc all1 e)
      | none => .retN
    | .Assign ts e _ => match ts with
      | [tg] => trAsg G N f sc tg e
      | _ => .nev
    | .If t a b _ => .ifs (trT G N f sc all1 t) (trSs (trS G N f sc) a) (trSs (trS G N f sc) b)
    | .While t b oe _ => match oe with
      | [] => .whl (trT G N f sc all1 t) (trSs (trS G N f sc) b)
      | _ => .nev
    | .For tg it b oe _ => match oe with
      | [] => match isSet it with
        | false => match trG G N f sc all1 tg with
          | some g => .for_ g (trI G N f sc all1 (isTup tg) it) (trSs (trS G N f sc) b)
          | none => .nev
        | true => .nev
      | _ => .nev
    | .Break _ => .brk
    | .Continue _ => .cnt
    | .Pass _ => .pass
    | _ => .nev
section
variable {D : Da} {G : GT} {K : Nat → Option EV} {C : Nat → List EV → EH → R EV} {CX : CXT} {N : List PySem.Str} {d : Nat} {sc : Scope} {X : Cx} {E : XK} {fu : Nat}
theorem s_nev {st : Stmt} : PS X st (tS D E (ex K C fu .nev)) := s_bad
theorem s_setLc (g : Good D G K C CX N d sc all1 X E) (hF : fu ≤ sizeLine) {i : Nat} {y : PySem.Str} {py : Pos} {elt tg iter : Expr} {ifs : List Expr} {sc2 : Scope} {own : List (PySem.Str × Nat)} {is : List Nat} {pos spos : Pos} {gt : EV → M Sg} {it : M IT} {tt : M Bool} {me : M EV}
    (hy : X.N[i]? = some y) (hyl : X.env.scope.names.lookup y = some .local) (hsw : swapsWith (.ListComp elt [⟨tg, iter, ifs, 0⟩] sc2 pos) (some (.Name y py)) spos.line X.env = pure true)
    (hb : blkC N sc sc2 own = true) (hi : ∀ i ∈ is, i ∈ own.map (·.2)) (h1 : PI X tg iter (tI D E it)) (hs : isSet iter = false)
    (h2 : ∀ X', Good D G K C CX N d (relS sc2 sc) (fun x => sc2.names.lookup x == some .cell) X' noE → PG X' tg (tG D noE is gt) ∧ PTs X' ifs (tT D noE tt) ∧ PE X' elt (tE D noE me)) :
    PS X (.Assign [.Name y py] (.ListComp elt [⟨tg, iter, ifs, 0⟩] sc2 pos) spos) (tS D E (sAsg (gNm i) (mLc fu (own.map (·.2)) me gt it tt))) :=
  imS (ps_setLc g.calm g.nd hy hyl hsw h1 (blkOk_by (by rw [g.hN, g.hsc]; exact hb)) (fun s H B cl fp => (h2 _ (g.blk s H sc2 cl B fp)).1) (fun s H B cl fp => (h2 _ (g.blk s H sc2 cl B fp)).2.1) (fun s H B cl fp => (h2 _ (g.blk s H sc2 cl B fp)).2.2) (noset hs _))
    fun Nn σ H ⟨ρ, h, τ, rs, rh, af⟩ => lc_read hF hi (goE rs rh af fun v h1 ρ1 H1 w x1 rh1 rs1 rv af1 => af1.here rh1 _ (rs1.set rv))
theorem kind_fn {sc : Scope} (h : fnK sc = true) : sc.kind = .function := by
  unfold fnK at h
  split at h
  · rename_i e; exact e
  · cases h
theorem bk_fn {env : Env} (h : env.scope.kind = .function) : env.blockKind = .function := by
  unfold Env.blockKind
  rw [h]
  rfl
theorem s_mk {f : Nat} {tg e : Expr} {pos : Pos} (o : Oks D G K C N fu f sc all1 X E) (hs : swapsWithSole [tg] e pos.line X.env = pure false) (hw : swappedStores [tg] e X.env = pure none) (hst : isStar tg = false) :
    PS X (.Assign [tg] e pos) (tS D E (ex K C fu (mkAsg (trG G N f sc all1 tg) (trE G N f sc all1 e)))) := by
  unfold mkAsg
  split
  · rename_i g hg
    exact s_asg (o.e e) (o.g _ _ hg) hs hw hst
  · exact s_nev
theorem s_lc {f : Nat} (g : Good D G K C CX N d sc all1 X E) (hF : fu ≤ sizeLine) {i : Nat} {y : PySem.Str} {py : Pos} {e : Expr} {spos : Pos} (he : isLc e = true) (hy : X.N[i]? = some y) (hyl : X.env.scope.names.lookup y = some .local) (hsw : swapsWith e (some (.Name y py)) spos.line X.env = pure true) :
    PS X (.Assign [.Name y py] e spos) (tS D E (ex K C fu (.asg (.nm i y) (trE G N f sc all1 e)))) := by
  have nev : PS X (.Assign [.Name y py] e spos) (tS D E (ex K C fu (.asg (.nm i y) .nev))) := ⟨fun pins s σ H N I ⟨_, _, _, _, _, af⟩ => af.elim⟩
  cases f with
  | zero => unfold trE; exact nev
  | succ f =>
    have hA := fun sc co X E => oks (D := D) (G := G) (K := K) (C := C) (CX := CX) (N := N) (d := d) hF f sc co X E
    have o := hA sc all1 X E g
    cases e with
    | ListComp elt gens sc2 pos =>
      unfold trE
      simp only
      split
      · rename_i tg iter ifs asy
        split
        · rename_i ha
          rw [Bool.and_eq_true] at ha
          have ha1 : asy = 0 := by simpa using ha.1
          have ha2 : isSet iter = false := by simpa using ha.2
          subst ha1
          split
          · split
            · rename_i hb
              split
              · rename_i gg hg
                split
                · rename_i hsub
                  split
                  · refine s_setLc g hF hy hyl hsw hb (sub_ok hsub) (o.i _ _ _ fun h => h) ha2 fun X' g' => ?_
                    have o' := hA _ _ X' noE g'
                    exact ⟨o'.g _ _ hg, pts_0, o'.e _⟩
                  · refine s_setLc g hF hy hyl hsw hb (sub_ok hsub) (o.i _ _ _ fun h => h) ha2 fun X' g' => ?_
                    have o' := hA _ _ X' noE g'
                    exact ⟨o'.g _ _ hg, pts_c (o'.t _), o'.e _⟩
                  · exact nev
                · exact nev
              · exact nev
            · exact nev
          · exact nev
        · exact nev
      · exact nev
    | _ => exact Bool.noConfusion he
theorem swN_two {x y : PySem.Str} {px py : Pos} {vs : List Expr} (hx : (sc.names.lookup x == some .local) = true) (hy : (sc.names.lookup y == some .local) = true) (h : swap1 sc [.Name x px, .Name y py] vs = true) :
    swN sc (swL [.Name x px, .Name y py]) [.Name x px, .Name y py] = [x, y] := by
  have hl : (swN sc (swL [.Name x px, .Name y py]) [.Name x px, .Name y py]).length = 2 := by
    unfold swap1 at h
    simp only [Bool.and_eq_true] at h
    simpa using h.1.1.1.2
  have e1 : swL [.Name x px, .Name y py] = px.line := rfl
  rw [e1] at hl ⊢
  unfold swN at hl ⊢
  simp only [List.filterMap_cons, List.filterMap_nil, hx, hy, Bool.true_and, beq_self_eq_true, if_true] at hl ⊢
  split at hl
  · simp at hl
  · rename_i z ez
    split at ez
    · cases ez
      rename_i h2
      simp [h2]
    · cases ez
theorem s_trAsg {f : Nat} (hF : fu ≤ sizeLine) (g : Good D G K C CX N d sc all1 X E) {tg e : Expr} {pos : Pos} : PS X (.Assign [tg] e pos) (tS D E (ex K C fu (trAsg G N f sc tg e))) := by
  have o := oks (D := D) (G := G) (K := K) (C := C) (CX := CX) (N := N) (d := d) hF f sc all1 X E g
  unfold trAsg
  split
  · rename_i x p
    split
    · rename_i hc
      refine s_mk o ?_ (st_one rfl rfl) rfl
      refine sws_no ?_
      cases e <;> first | rfl | cases hc
    · rename_i s2 hc
      split
      · rename_i hk
        have hk := kind_fn hk
        have hb : X.env.blockKind = .function := bk_fn (by rw [g.hsc]; exact hk)
        split
        · rename_i hs
          refine s_mk o ?_ (st_one rfl rfl) rfl
          have e1 : swapsWithSole [.Name x p] e pos.line X.env = swapsWith e (some (.Name x p)) pos.line X.env := rfl
          rw [e1, sw_nm hc]
          congr 1
          rw [← hs]
          unfold swapNm fnK
          rw [hb, hk, ← g.hsc]
          rfl
        · rename_i hs
          split
          · rename_i hl
            split
            · rename_i i hi
              have h2 : X.env.scope.names.lookup x = some .local := by
                rw [g.hsc]
                unfold swapNm at hs
                rw [Bool.and_eq_true, Bool.and_eq_true, Bool.and_eq_true] at hs
                simpa using hs.1.1.2
              refine s_lc g hF hl (by rw [g.hN]; exact ixOf_at hi) h2 ?_
              rw [sw_nm hc]
              congr 1
              rw [← hs]
              unfold swapNm fnK
              rw [hb, hk, ← g.hsc]
              rfl
            · exact s_nev
          · exact s_nev
      · exact s_nev
  · rename_i ts k p
    split
    · rename_i vs k2 p2
      split
      · rename_i h0
        refine s_mk o (sw_tg rfl) (sw_0 (by rw [g.hsc]; exact h0)) rfl
      · split
        · rename_i h1
          rw [Bool.and_eq_true] at h1
          split
          · split
            · split
              · split
                · split
                  · rename_i i hi
                    split
                    · rename_i j hj
                      split
                      · rename_i hh
                        rw [Bool.and_eq_true, Bool.and_eq_true] at hh
                        have hw := sw_1 (env := X.env) (k := k) (k2 := k2) (p := p) (p2 := p2) (by rw [g.hsc]; exact kind_fn h1.2) (by rw [g.hsc]; exact h1.1)
                        refine s_par g.calm g.nd (by rw [g.hN]; exact ixOf_at hi) (by rw [g.hN]; exact ixOf_at hj) (by simpa using hh.1.1) (by rw [g.hsc]; simpa using hh.1.2) (by rw [g.hsc]; simpa using hh.2) (es_ok o.e g.F _) ?_
                        rw [hw, g.hsc]
                        congr 2
                        exact swN_two hh.1.2 hh.2 h1.1
                      · exact s_nev
                    · exact s_nev
                  · exact s_nev
                · exact s_nev
              · exact s_nev
            · exact s_nev
          · exact s_nev
        · exact s_nev
    · rename_i hne
      refine s_mk o (sw_tg rfl) (st_tup ?_) rfl
      cases e <;> first | rfl | exact (hne _ _ _ rfl).elim
  · exact s_mk o (sw_tg rfl) (st_one rfl rfl) rfl
  · exact s_nev
theorem ss_ok {r : Stmt → XS} (h : ∀ st, PS X st (tS D E (ex K C fu (r st)))) : ∀ ss, PSs X ss (tS D E (exs K C fu (trSs r ss)))
  | [] => ss_nil
  | s :: ss => ss_cons (h s) (ss_ok h ss)
theorem s_ok (hF : fu ≤ sizeLine) (g : Good D G K C CX N d sc all1 X E) (hp : PassesOwn (model X.prog X.w) X.A X.env X.xe) : ∀ (f : Nat) (st : Stmt), PS X st (tS D E (ex K C fu (trS G N f sc st)))
  | 0, st => by unfold trS; exact s_nev
  | f + 1, st => by
    have o := oks (D := D) (G := G) (K := K) (C := C) (CX := CX) (N := N) (d := d) hF f sc all1 X E g
    have ih := s_ok hF g hp f
    unfold trS
    split
    · split
      · rename_i hc
        exact s_ex (o.e _) (sw_no hc)
      · exact s_nev
    · split
      · exact s_ret (o.e _)
      · exact s_retN
    · split
      · exact s_trAsg hF g
      · exact s_nev
    · exact s_if (o.t _) (ss_ok ih _) (ss_ok ih _)
    · split
      · exact s_while hp (o.t _) (ss_ok ih _)
      · exact s_nev
    · split
      · split
        · rename_i hs
          split
          · rename_i gg hg
            exact s_for g.calm hp (o.i _ _ _ fun h => h) (o.g _ _ hg) (ss_ok ih _) hs
          · exact s_nev
        · exact s_nev
      · exact s_nev
    · exact s_brk
    · exact s_cnt
    · exact s_pass
    · exact s_nev
end
end EM
end
section
set_option Elab.async false
set_option linter.all false
set_option maxRecDepth 100000
set_option maxHeartbeats 4000000
/-! EJ: defs. -/
namespace EM
open PySem PySem.Spec PyProof.Rows L2

/-- what is known of the module -/
structure Facts (D : Da) (G : GT) (Kc : Nat → Option EV) (S : List SD) (F : Nat) (mg : PySem.Str → Option Value) : Prop where
  bi : ∀ x ∈ biN, mg x = none
  cst : ∀ k x v, G.cst[k]? = some x → Kc k = some v → ∃ w u, mg x = some u ∧ RelV w u ∧ ∀ ρ n H, RV D ρ n H v w
  def_ : ∀ k x, G.fns[k]? = some x → ∃ f qual params body scope N ps fd sd, FunD D.K x qual params body scope [] [] f fd ∧ mg x = some (.ref f) ∧ Binds D.K fd ps [] ∧ FnScope N ps scope ∧
    sdAt S k = some sd ∧ sd.np = ps.length ∧ sd.nN = N.length ∧ ∀ C, sd.code F C = exs Kc C F (trSs (trS G N 60 scope) body)

section
variable {D : Da} {G : GT} {Kc : Nat → Option EV} {S : List SD} {F : Nat} {mg : PySem.Str → Option Value} {base : Heap} {CX : CXT}
theorem rs_start {ρ : Ro} {n : Nat} {H : Hp} {N : List PySem.Str} : ∀ {xs : List EV} {vs : List V} {m : Nat}, RVs D ρ n H xs vs → xs.length ≤ m → RS D ρ n H (sgOf m xs) (vs.map some ++ List.replicate (m - vs.length) none) := by
  have nil : ∀ m, RS D ρ n H (sgOf m []) (List.replicate m none) := by
    intro m
    induction m with
    | zero => exact ⟨rfl, fun i x e => by simp [sgOf, sget] at e⟩
    | succ m ih =>
      refine ⟨by simp [sgOf]; simpa using ih.len, fun i x e => ?_⟩
      cases i with
      | zero => simp [sgOf, sget] at e
      | succ i =>
        obtain ⟨w, h1, h2⟩ := ih.at_ i x e
        exact ⟨w, by rw [List.replicate_succ, List.getElem?_cons_succ]; exact h1, h2⟩
  intro xs
  induction xs with
  | nil =>
    intro vs m r _
    cases r
    simpa using nil m
  | cons x xs ih =>
    intro vs m r hl
    cases r with
    | cons r rs =>
      rename_i v vs
      cases m with
      | zero => simp at hl
      | succ m =>
        have q := ih (m := m) rs (by simpa using hl)
        have e : (m + 1) - (v :: vs).length = m - vs.length := by simp
        rw [e]
        refine ⟨by simpa [sgOf] using q.len, fun i y e => ?_⟩
        cases i with
        | zero =>
          simp [sgOf, sget] at e
          subst e
          exact ⟨v, rfl, r⟩
        | succ i => exact q.at_ i y e
theorem start_eq (N : List PySem.Str) (vs : List V) : start N vs = vs.map some ++ List.replicate (N.length - vs.length) none := rfl
/-- one def, over all defs one level lower -/
theorem fn_step (hF : F ≤ sizeLine) (cxn : ∀ outer H s e s', ¬ CX outer H s noE e s')
    (hpass : ∀ (N : List PySem.Str) (qual : PySem.Str) (scope : Scope) (f : Addr) (cd : Value) (A : Around) (outer : List Env) (s : Shared) (H : Hp) (E : XK), Passes CX (cxOf CX D.P D.w D.K mg base N qual scope f cd A outer s H E) E)
    (Z : Facts D G Kc S F mg) {d : Nat} (ih : ∀ k x, G.fns[k]? = some x → ∃ f fd ps, FnOk D.P D.w D.K mg base CX d f fd ps (spC D (fun k vs h => scall S F d k vs h) k) ∧ mg x = some (.ref f) ∧ PySem.W.keepIn D.K (.ref f) = true ∧ Binds D.K fd ps [])
    {k : Nat} {x : PySem.Str} {f : Addr} {qual : PySem.Str} {params : Arguments} {body : List Stmt} {scope : Scope} {N ps : List PySem.Str} {fd : FuncData} {sd : SD} (h1 : FunD D.K x qual params body scope [] [] f fd) (h4 : FnScope N ps scope)
    (h5 : sdAt S k = some sd) (h6 : sd.np = ps.length) (h7 : sd.nN = N.length) (h8 : ∀ C, sd.code F C = exs Kc C F (trSs (trS G N 60 scope) body)) :
    FnOk D.P D.w D.K mg base CX (d + 1) f fd ps (spC D (fun k vs h => scall S F (d + 1) k vs h) k) := by
  have unf : ∀ {ρ : Ro} {n : Nat} {H : Hp} {E : XK} {post : EV → EH → Ro → Hp → Prop} {xs : List EV} {h : EH}, Af D ρ n H E post (scall S F (d + 1) k xs h) → xs.length = ps.length ∧ Af D ρ n H E post ((exs Kc (fun k vs h => scall S F d k vs h) F (trSs (trS G N 60 scope) body) (sgOf N.length xs) h).bind retFl) := by
    intro ρ n H E post xs h af
    simp only [scall] at af
    rw [h5] at af
    simp only at af
    split at af
    · rename_i e
      rw [h8, h7] at af
      exact ⟨by rw [← h6]; exact Nat.eq_of_beq_eq_true e, af⟩
    · exact af.elim
  refine h1.ok h4 ?_ ?_
  · rintro vs H Q E ⟨ρ, h, xs, rh, rvs, af⟩
    rw [← rvs.length]
    exact (unf af).1
  · rintro cdv A outer s H vs Q E hr ⟨ρ, h, xs, rh, rvs, af⟩
    obtain ⟨hl, af⟩ := unf af
    have g : Good D G Kc (fun k vs h => scall S F d k vs h) CX N d scope all1 (cxOf CX D.P D.w D.K mg base N qual scope f cdv A outer s H E) E :=
      ⟨⟨rfl, rfl, rfl⟩, rfl, h4.nd, rfl, rfl, fun _ _ => rfl, hr, hpass _ _ _ _ _ _ _ _ _ _, cxn, Z.bi, Z.cst, ih⟩
    refine ⟨_, ss_ok (s_ok hF g (passes_of rfl) 60) body, ρ, h, sgOf N.length xs, ?_, rh, ?_⟩
    · rw [start_eq]
      refine rs_start (N := N) rvs ?_
      have := congrArg List.length h4.pre
      rw [List.length_take] at this
      omega
    · refine (Af.bind af).imp fun fl h1 ρ1 H1 x1 rh1 af1 => ?_
      cases fl with
      | nx τ => exact fun σ rs => af1.here rh1 .non .non
      | bk τ => exact af1.elim
      | ct τ => exact af1.elim
      | rt v => exact Af.here (E := E) (post := pV D Q) (v := v) rh1 af1
/-- every def, to every depth -/
theorem fns_ok (hF : F ≤ sizeLine) (cxn : ∀ outer H s e s', ¬ CX outer H s noE e s')
    (hpass : ∀ (N : List PySem.Str) (qual : PySem.Str) (scope : Scope) (f : Addr) (cd : Value) (A : Around) (outer : List Env) (s : Shared) (H : Hp) (E : XK), Passes CX (cxOf CX D.P D.w D.K mg base N qual scope f cd A outer s H E) E)
    (Z : Facts D G Kc S F mg) : ∀ (d : Nat) k x, G.fns[k]? = some x → ∃ f fd ps, FnOk D.P D.w D.K mg base CX d f fd ps (spC D (fun k vs h => scall S F d k vs h) k) ∧ mg x = some (.ref f) ∧ PySem.W.keepIn D.K (.ref f) = true ∧ Binds D.K fd ps []
  | 0, k, x, hk => by
    obtain ⟨f, qual, params, body, scope, N, ps, fd, sd, h1, h2, h3, h4, h5, h6, h7, h8⟩ := Z.def_ k x hk
    refine ⟨f, fd, ps, ⟨?_, ?_⟩, h2, h1.kp, h3⟩
    · rintro vs H Q E ⟨_, _, _, _, _, af⟩
      exact af.elim
    · rintro A outer s H args us vs Q E _ _ _ _ ⟨_, _, _, _, _, af⟩
      exact af.elim
  | d + 1, k, x, hk => by
    obtain ⟨f, qual, params, body, scope, N, ps, fd, sd, h1, h2, h3, h4, h5, h6, h7, h8⟩ := Z.def_ k x hk
    exact ⟨f, fd, ps, fn_step hF cxn hpass Z (fns_ok hF cxn hpass Z d) h1 h4 h5 h6 h7 h8, h2, h1.kp, h3⟩
end
/-! ### the module's constants -/
mutual
def cvB (K : PySem.W.Frag) : Nat → EV → Value → Bool
  | 0, _, _ => false
  | f + 1, v, u => match v with
    | .int i => match u with
      | .int j _ => decide (i = j)
      | _ => false
    | .str x => match u with
      | .str y _ => decide (x = y)
      | _ => false
    | .bl b => match u with
      | .bool c => b == c
      | _ => false
    | .non => match u with
      | .none => true
      | _ => false
    | .tup xs => match u with
      | .ref a => match K.lookup a with
        | some ⟨.type c, _, .seq its _, _⟩ => decide (c = "tuple") && (decide (its.size ≤ sizeLine) && cvsB K f xs its.toList)
        | _ => false
      | _ => false
    | _ => false
def cvsB (K : PySem.W.Frag) : Nat → List EV → List Value → Bool
  | 0, _, _ => false
  | f + 1, xs, us => match xs, us with
    | [], [] => true
    | x :: xs, u :: us => cvB K f x u && cvsB K f xs us
    | _, _ => false
end
mutual
theorem cvB_ok {D : Da} : ∀ (f : Nat) (v : EV) (u : Value), cvB D.K f v u = true → ∃ w, RelV w u ∧ ∀ ρ n H, RV D ρ n H v w
  | 0, _, _, h => by unfold cvB at h; cases h
  | f + 1, v, u, h => by
    unfold cvB at h
    split at h
    · split at h
      · have := of_decide_eq_true h
        subst this
        exact ⟨.int _, ⟨_, rfl⟩, fun _ _ _ => .int _⟩
      · cases h
    · split at h
      · have := of_decide_eq_true h
        subst this
        exact ⟨.str _, ⟨_, rfl⟩, fun _ _ _ => .str _⟩
      · cases h
    · split at h
      · have := eq_of_beq h
        subst this
        exact ⟨.bl _, rfl, fun _ _ _ => .bl _⟩
      · cases h
    · split at h
      · exact ⟨.non, rfl, fun _ _ _ => .non⟩
      · cases h
    · split at h
      · rename_i xs _ a
        split at h
        · rename_i c d its m sl hl
          rw [Bool.and_eq_true, Bool.and_eq_true] at h
          obtain ⟨vs, h1, h2⟩ := cvsB_ok f xs its.toList h.2.2
          have hc := of_decide_eq_true h.1
          subst hc
          exact ⟨.ref a, rfl, fun ρ n H => .tup (.inr ⟨_, its, m, hl, rfl, rfl, of_decide_eq_true h.2.1, h1⟩) (h2 ρ n H)⟩
        · cases h
      · cases h
    · cases h
theorem cvsB_ok {D : Da} : ∀ (f : Nat) (xs : List EV) (us : List Value), cvsB D.K f xs us = true → ∃ vs, Vals vs us ∧ ∀ ρ n H, RVs D ρ n H xs vs
  | 0, _, _, h => by unfold cvsB at h; cases h
  | f + 1, xs, us, h => by
    unfold cvsB at h
    split at h
    · exact ⟨[], .nil, fun _ _ _ => .nil⟩
    · rw [Bool.and_eq_true] at h
      obtain ⟨w, h1, h2⟩ := cvB_ok f _ _ h.1
      obtain ⟨ws, h3, h4⟩ := cvsB_ok f _ _ h.2
      exact ⟨w :: ws, .cons h1 h3, fun ρ n H => .cons (h2 ρ n H) (h4 ρ n H)⟩
    · cases h
end
/-- all constants are as written -/
def cstB (cn : List PySem.Str) (cv : List EV) (K : PySem.W.Frag) : Bool := (cn.zip cv).all fun p => match PySem.W.nsIn K mainGlobals p.1 with
  | some (some u) => cvB K 40 p.2 u
  | _ => false
theorem cstB_ok {D : Da} {cn : List PySem.Str} {cv : List EV} {h : Heap} {mg : PySem.Str → Option Value} (X : D.K.In h) (G : h.Ns mainGlobals mg) (e : cstB cn cv D.K = true) :
    ∀ k x v, cn[k]? = some x → cstAt cv k = some v → ∃ w u, mg x = some u ∧ RelV w u ∧ ∀ ρ n H, RV D ρ n H v w := by
  have at_ : ∀ (l : List EV) (k : Nat), cstAt l k = l[k]? := by
    intro l
    induction l with
    | nil => intro k; rfl
    | cons a l ih =>
      intro k
      cases k with
      | zero => rfl
      | succ k => exact ih k
  intro k x v h1 h2
  rw [at_] at h2
  have hm : (x, v) ∈ cn.zip cv := by
    refine List.mem_of_getElem? (i := k) ?_
    rw [List.getElem?_zip_eq_some]
    exact ⟨h1, h2⟩
  have q := List.all_eq_true.mp e _ hm
  simp only at q
  split at q
  · rename_i u hu
    obtain ⟨w, h3, h4⟩ := cvB_ok 40 v u q
    exact ⟨w, u, PySem.W.mg_of X G hu, h3, h4⟩
  · cases q
/-- a def's scope, checked -/
def fsC (N ps : List PySem.Str) (sc : Scope) : Bool := fnK sc && !sc.isCoroutine && !sc.isGenerator && decide N.Nodup && decide (N.take ps.length = ps) &&
  (ps.all fun x => sc.names.lookup x == some .local || sc.names.lookup x == some .cell) && sc.names.all fun y => !(y.2 == .free)
theorem fsC_ok {N ps : List PySem.Str} {sc : Scope} (h : fsC N ps sc = true) : FnScope N ps sc := by
  unfold fsC at h
  simp only [Bool.and_eq_true] at h
  obtain ⟨⟨⟨⟨⟨⟨h1, h2⟩, h3⟩, h4⟩, h5⟩, h6⟩, h7⟩ := h
  refine ⟨kind_fn h1, by simpa using h2, by simpa using h3, of_decide_eq_true h4, of_decide_eq_true h5, fun x hx => ?_, fun y hy => ?_⟩
  · have := List.all_eq_true.mp h6 x hx
    simpa using this
  · have := List.all_eq_true.mp h7 y hy
    simpa using this
/-- the law's own call: the script is a list that never changes -/
theorem law_sp {D : Da} {S : List SD} {F d k : Nat} {H : Hp} {a : Addr} {ns : List Int} (hO : L2.Only H) (hS : SqL D.K H a (ns.map V.int)) (h : ∃ h', scall S F d k [.kl (ns.map EV.int)] EH.emp = .ok (.bl true) h') :
    spC D (fun k vs h => scall S F d k vs h) k [.ref a] H (fun v _ => v = .bl true) fun _ _ _ => False := by
  obtain ⟨h', e⟩ := h
  have hk : KL D.K H a (ns.map V.int) := by
    rcases hS with (q | q) | q
    · rcases hO a with z | ⟨o, xs, z⟩
      · rw [z] at q; cases q
      · rw [z] at q; cases q
    · exact .inl q
    · exact .inr q
  have hv : ∀ ns : List Int, RVs D (fun _ => 0) 0 H (ns.map EV.int) (ns.map V.int) := by
    intro ns
    induction ns with
    | nil => exact .nil
    | cons i ns ih => exact .cons (.int i) ih
  refine ⟨fun _ => 0, EH.emp, [.kl (ns.map EV.int)], ⟨fun i j hi => absurd hi (by simp [EH.emp]), fun i hi => absurd hi (by simp [EH.emp]), by simp [EH.emp]⟩, .cons (.kl hk (hv ns)) .nil, ?_⟩
  show Af D _ _ H _ _ (scall S F d k [.kl (ns.map EV.int)] EH.emp)
  rw [e]
  intro ρ' H' x r w rw'
  cases rw'
  rfl
theorem code_eq {a b : XSs} (h : decide (a = b) = true) : a = b := of_decide_eq_true h
end EM
end
section
set_option linter.all false
/-! F0: the E-machine over whole numbers that are not known: c + u1·s1 + u2·s2 + .. (s: whole numbers within bounds). -/
namespace EM
open PySem

structure AI where
  c : Int
  us : List Int
def dotL : List Int → List Int → Int
  | u :: us, s :: ss => u * s + dotL us ss
  | _, _ => 0
def AI.val (s : List Int) (x : AI) : Int := x.c + dotL x.us s
def kI (i : Int) : AI := ⟨i, []⟩
/-- lists, forced -/
def addK {α : Type} : List Int → List Int → (List Int → α) → α
  | u :: us, v :: vs, k => fI (u + v) fun w => addK us vs fun r => k (w :: r)
  | [], vs, k => k vs
  | us, [], k => k us
def mulK {α : Type} (m : Int) : List Int → (List Int → α) → α
  | u :: us, k => fI (m * u) fun w => mulK m us fun r => k (w :: r)
  | [], k => k []
def zeroL : List Int → Bool
  | [] => true
  | u :: us => match ieq u 0 with
    | true => zeroL us
    | false => false
def AI.add (x y : AI) : AI := fI (x.c + y.c) fun c => addK x.us y.us fun us => ⟨c, us⟩
def AI.smul (m : Int) (x : AI) : AI := fI (m * x.c) fun c => mulK m x.us fun us => ⟨c, us⟩
def AI.sub (x y : AI) : AI := x.add (y.smul (-1))
/-- the least and the greatest of u1·s1 + .. -/
def rngL : List Int → List (Int × Int) → Option (Int × Int)
  | [], _ => some (0, 0)
  | u :: us, b :: bs => match rngL us bs with
    | some p => match ilt u 0 with
      | false => some (u * b.1 + p.1, u * b.2 + p.2)
      | true => some (u * b.2 + p.1, u * b.1 + p.2)
    | none => none
  | u :: us, [] => match ieq u 0 with
    | true => rngL us []
    | false => none
/-- d = 0 -/
def eq0 (bs : List (Int × Int)) (d : AI) : Option Bool := match zeroL d.us with
  | true => some (ieq d.c 0)
  | false => match rngL d.us bs with
    | some p => match ilt 0 (d.c + p.1) with
      | true => some false
      | false => match ilt (d.c + p.2) 0 with
        | true => some false
        | false => none
    | none => none
/-- d < 0 -/
def lt0 (bs : List (Int × Int)) (d : AI) : Option Bool := match zeroL d.us with
  | true => some (ilt d.c 0)
  | false => match rngL d.us bs with
    | some p => match ilt (d.c + p.2) 0 with
      | true => some true
      | false => match ilt (d.c + p.1) 0 with
        | true => none
        | false => some false
    | none => none
def dvdL (m : Int) : List Int → Bool
  | [] => true
  | u :: us => match ieq (u % m) 0 with
    | true => dvdL m us
    | false => false
def divK {α : Type} (m : Int) : List Int → (List Int → α) → α
  | u :: us, k => fI (u / m) fun w => divK m us fun r => k (w :: r)
  | [], k => k []

/-! ### values -/
inductive SV where
  | non | bl (b : Bool) | int (x : AI) | str (s : PySem.Str) | tup (xs : List SV) | ref (n : Nat)
  deriving Inhabited
inductive SCL where
  | lst (xs : List SV) (lk : Bool)
  | dct (kvs : List (SV × SV)) (lk : Bool)
  deriving Inhabited
inductive STr where
  | lf
  | nd (l : STr) (v : Option SCL) (r : STr)
def STr.get : Nat → STr → Nat → Option SCL
  | 0, _, _ => none
  | _ + 1, .lf, _ => none
  | f + 1, .nd l v r, n => match n with
    | 0 => v
    | m + 1 => match m % 2 with
      | 0 => l.get f (m / 2)
      | _ + 1 => r.get f (m / 2)
def STr.put : Nat → STr → Nat → SCL → STr
  | 0, t, _, _ => t
  | f + 1, .lf, n, c => match n with
    | 0 => .nd .lf (some c) .lf
    | m + 1 => match m % 2 with
      | 0 => .nd (STr.put f .lf (m / 2) c) none .lf
      | _ + 1 => .nd .lf none (STr.put f .lf (m / 2) c)
  | f + 1, .nd l v r, n, c => match n with
    | 0 => .nd l (some c) r
    | m + 1 => match m % 2 with
      | 0 => .nd (STr.put f l (m / 2) c) v r
      | _ + 1 => .nd l v (STr.put f r (m / 2) c)
/-- n cells; m: no more than these stand in the heap itself -/
structure SH where
  n : Nat
  m : Nat
  t : STr
def SH.get (h : SH) (i : Nat) : Option SCL := match Nat.blt i h.n with
  | true => h.t.get 40 i
  | false => none
def SH.put (h : SH) (i : Nat) (c : SCL) : SH := ⟨h.n, h.m, h.t.put 40 i c⟩

inductive SQ (α : Type) where
  | ok (a : α) (h : SH)
  | no
def SQ.bind {α β : Type} : SQ α → (α → SH → SQ β) → SQ β
  | .ok a h, f => f a h
  | .no, _ => .no
/-- a new cell; the heap itself has room -/
def smk (c : SCL) (h : SH) : SQ SV := match Nat.blt h.m 1000000000 with
  | true => fN (h.n + 1) fun n => fN (h.m + 1) fun m => .ok (.ref h.n) ⟨n, m, h.t.put 40 h.n c⟩
  | false => .no
def sint (x : AI) (h : SH) : SQ SV := match x with
  | ⟨c, us⟩ => .ok (.int ⟨c, us⟩) h

/-! ### data -/
inductive DD where
  | non | bl (b : Bool) | int (x : AI) | str (s : PySem.Str) | tup (xs : List DD) | lst (xs : List DD)
def srd : Nat → SH → SV → Option DD
  | 0, _, _ => none
  | f + 1, h, v => match v with
    | .non => some .non
    | .bl b => some (.bl b)
    | .int i => some (.int i)
    | .str s => match PyData.canLay0 (.str s) with
      | true => some (.str s)
      | false => none
    | .tup xs => match mapO (srd f h) xs with
      | some ds => some (.tup ds)
      | none => none
    | .ref n => match h.get n with
      | some (.lst xs _) => match mapO (srd f h) xs with
        | some ds => some (.lst ds)
        | none => none
      | _ => none
section
variable (bs : List (Int × Int))
mutual
/-- == of data, where it is the same for all -/
def seqd : DD → DD → Option Bool
  | .non, .non => some true
  | .bl a, .bl b => some (a == b)
  | .int x, .int y => eq0 bs (x.sub y)
  | .str a, .str b => some (decide (a = b))
  | .tup xs, .tup ys => seqds xs ys
  | .lst xs, .lst ys => seqds xs ys
  | .non, .int _ => some false
  | .int _, .non => some false
  | .tup _, .lst _ => some false
  | .lst _, .tup _ => some false
  | .non, .tup _ => some false
  | .tup _, .non => some false
  | .int _, .tup _ => some false
  | .tup _, .int _ => some false
  | .int _, .str _ => some false
  | .str _, .int _ => some false
  | _, _ => none
def seqds : List DD → List DD → Option Bool
  | [], [] => some true
  | x :: xs, y :: ys => match seqd x y with
    | some true => seqds xs ys
    | some false => some false
    | none => none
  | [], _ :: _ => some false
  | _ :: _, [] => some false
end
mutual
def slt : DD → DD → Option Bool
  | .int x, .int y => lt0 bs (x.sub y)
  | .tup xs, .tup ys => slts xs ys
  | _, _ => none
def slts : List DD → List DD → Option Bool
  | [], [] => some false
  | x :: xs, y :: ys => match seqd bs x y with
    | some true => slts xs ys
    | some false => slt x y
    | none => none
  | _, _ => none
end
end
mutual
def salk : DD → DD → Bool
  | .int _, .int _ => true
  | .tup xs, .tup ys => salks xs ys
  | _, _ => false
def salks : List DD → List DD → Bool
  | [], [] => true
  | x :: xs, y :: ys => match salk x y with
    | true => salks xs ys
    | false => false
  | _, _ => false
end
def sneT : DD → Bool
  | .tup (_ :: _) => true
  | _ => false
def snoT : DD → Bool
  | .int _ => true
  | _ => false
def ssortD (ds : List DD) : Bool := match ds.all fun d => ds.all fun e => salk d e with
  | true => match ds.all sneT with
    | true => true
    | false => ds.all snoT
  | false => false
section
variable (bs : List (Int × Int))
def sins (x : DD × SV) : List (DD × SV) → Option (List (DD × SV))
  | [] => some [x]
  | y :: r => match slt bs y.1 x.1 with
    | some true => match sins x r with
      | some r => some (y :: r)
      | none => none
    | some false => some (x :: y :: r)
    | none => none
def sisort : List (DD × SV) → Option (List (DD × SV))
  | [] => some []
  | x :: r => match sisort r with
    | some r => sins bs x r
    | none => none
def ssortE (h : SH) (xs : List SV) : Option (List SV) := match mapO (srd 20 h) xs with
  | some ds => match ssortD ds with
    | true => match sisort bs (ds.zip xs) with
      | some r => some (r.map Prod.snd)
      | none => none
    | false => none
  | none => none

/-! ### keys -/
mutual
def skeq : SV → SV → Option Bool
  | .int x, .int y => eq0 bs (x.sub y)
  | .tup xs, .tup ys => skeqs xs ys
  | _, _ => none
def skeqs : List SV → List SV → Option Bool
  | [], [] => some true
  | x :: xs, y :: ys => match skeq x y with
    | some true => skeqs xs ys
    | some false => some false
    | none => none
  | [], _ :: _ => some false
  | _ :: _, [] => some false
end
def skok : Nat → SV → Bool
  | 0, _ => false
  | f + 1, v => match v with
    | .int _ => true
    | .tup xs => xs.all (skok f)
    | _ => false
def skT (v : SV) : Bool := match v with
  | .tup _ => skok 6 v
  | _ => false
def sdget : List (SV × SV) → SV → Option (Option SV)
  | [], _ => some none
  | (k, v) :: r, x => match skeq bs k x with
    | some true => some (some v)
    | some false => sdget r x
    | none => none
def sdput : List (SV × SV) → SV → SV → Option (List (SV × SV))
  | [], x, y => some [(x, y)]
  | (k, v) :: r, x, y => match skeq bs k x with
    | some true => some ((k, y) :: r)
    | some false => match sdput r x y with
      | some r => some ((k, v) :: r)
      | none => none
    | none => none

/-! ### operators -/
def stru (h : SH) : SV → Option Bool
  | .non => some false
  | .bl b => some b
  | .int i => match eq0 bs i with
    | some b => some (!b)
    | none => none
  | .tup xs => some (match xs with
    | [] => false
    | _ :: _ => true)
  | .ref n => match h.get n with
    | some (.lst xs _) => some (match xs with
      | [] => false
      | _ :: _ => true)
    | some (.dct xs _) => some (match xs with
      | [] => false
      | _ :: _ => true)
    | none => none
  | .str _ => none
def sbinE (op : Operator) (x y : SV) (h : SH) : SQ SV := match x with
  | .int i => match y with
    | .int j => match op with
      | .Add => sint (i.add j) h
      | .Sub => sint (i.sub j) h
      | .Mult => match zeroL i.us with
        | true => match lim64 i.c with
          | true => sint (j.smul i.c) h
          | false => .no
        | false => match zeroL j.us with
          | true => match lim64 j.c with
            | true => sint (i.smul j.c) h
            | false => .no
          | false => .no
      | .FloorDiv => match zeroL j.us with
        | true => match j.c with
          | .ofNat (n + 1) => match Nat.blt (n + 1) 1073741824 with
            | true => match dvdL (.ofNat (n + 1)) i.us with
              | true => fI (i.c / .ofNat (n + 1)) fun c => divK (.ofNat (n + 1)) i.us fun us => .ok (.int ⟨c, us⟩) h
              | false => .no
            | false => .no
          | _ => .no
        | false => .no
      | .Mod => match zeroL j.us with
        | true => match j.c with
          | .ofNat (n + 1) => match dvdL (.ofNat (n + 1)) i.us with
            | true => fI (i.c % .ofNat (n + 1)) fun c => .ok (.int ⟨c, []⟩) h
            | false => .no
          | _ => .no
        | false => .no
      | _ => .no
    | _ => .no
  | .tup xs => match y with
    | .tup ys => match op with
      | .Add => match xs with
        | [] => .no
        | _ :: _ => match sz (xs ++ ys).length with
          | true => .ok (.tup (xs ++ ys)) h
          | false => .no
      | _ => .no
    | _ => .no
  | .ref n => match y with
    | .ref m => match op with
      | .Add => match h.get n with
        | some (.lst xs false) => match h.get m with
          | some (.lst ys false) => match sz (xs ++ ys).length with
            | true => smk (.lst (xs ++ ys) false) h
            | false => .no
          | _ => .no
        | _ => .no
      | _ => .no
    | _ => .no
  | _ => .no
def seqE (h : SH) (x y : SV) : Option Bool := match srd 20 h x with
  | some d => match srd 20 h y with
    | some e => seqd bs d e
    | none => none
  | none => none
def sretB (b : Bool) (h : SH) : SQ SV := .ok (.bl b) h
def sitems (h : SH) : SV → Option (List SV)
  | .tup xs => some xs
  | .ref n => match h.get n with
    | some (.lst xs _) => some xs
    | _ => none
  | _ => none
def sany (d : DD) : List DD → Option Bool
  | [] => some false
  | z :: r => match seqd bs z d with
    | some true => some true
    | some false => sany d r
    | none => none
def sinE (h : SH) (x y : SV) : Option Bool := match y with
  | .ref n => match h.get n with
    | some (.dct kvs _) => match skT x with
      | true => match sdget bs kvs x with
        | some o => some o.isSome
        | none => none
      | false => none
    | some (.lst ys _) => match srd 20 h x with
      | some d => match mapO (srd 19 h) ys with
        | some ds => sany bs d ds
        | none => none
      | none => none
    | none => none
  | _ => none
def scmpE (op : CmpOp) (x y : SV) (h : SH) : SQ SV := match op with
  | .Eq => match seqE bs h x y with
    | some b => sretB b h
    | none => .no
  | .NotEq => match seqE bs h x y with
    | some b => sretB (!b) h
    | none => .no
  | .In => match sinE bs h x y with
    | some b => sretB b h
    | none => .no
  | .NotIn => match sinE bs h x y with
    | some b => sretB (!b) h
    | none => .no
  | .Is => match y with
    | .non => sretB (match x with
      | .non => true
      | _ => false) h
    | _ => .no
  | .IsNot => match y with
    | .non => sretB (match x with
      | .non => false
      | _ => true) h
    | _ => .no
  | .Lt => match x with
    | .int i => match y with
      | .int j => match lt0 bs (i.sub j) with
        | some b => sretB b h
        | none => .no
      | _ => .no
    | _ => .no
  | .LtE => match x with
    | .int i => match y with
      | .int j => match lt0 bs (j.sub i) with
        | some b => sretB (!b) h
        | none => .no
      | _ => .no
    | _ => .no
  | .Gt => match x with
    | .int i => match y with
      | .int j => match lt0 bs (j.sub i) with
        | some b => sretB b h
        | none => .no
      | _ => .no
    | _ => .no
  | .GtE => match x with
    | .int i => match y with
      | .int j => match lt0 bs (i.sub j) with
        | some b => sretB (!b) h
        | none => .no
      | _ => .no
    | _ => .no
def sgetE (x y : SV) (h : SH) : SQ SV := match x with
  | .ref n => match h.get n with
    | some (.lst xs _) => match y with
      | .int i => match zeroL i.us with
        | true => match ixE xs.length i.c with
          | some k => match xs[k]? with
            | some v => .ok v h
            | none => .no
          | none => .no
        | false => .no
      | _ => .no
    | some (.dct kvs _) => match skT y with
      | true => match sdget bs kvs y with
        | some (some v) => .ok v h
        | _ => .no
      | false => .no
    | none => .no
  | .tup xs => match y with
    | .int i => match zeroL i.us with
      | true => match ixE xs.length i.c with
        | some k => match xs[k]? with
          | some v => .ok v h
          | none => .no
        | none => .no
      | false => .no
    | _ => .no
  | _ => .no
def ssetE (x y v : SV) (h : SH) : SQ Unit := match x with
  | .ref n => match h.get n with
    | some (.lst xs false) => match y with
      | .int i => match zeroL i.us with
        | true => match ixE xs.length i.c with
          | some k => .ok () (h.put n (.lst (xs.set k v) false))
          | none => .no
        | false => .no
      | _ => .no
    | some (.dct kvs false) => match skT y with
      | true => match sz (kvs.length + 1) with
        | true => match sdput bs kvs y v with
          | some r => .ok () (h.put n (.dct r false))
          | none => .no
        | false => .no
      | false => .no
    | _ => .no
  | _ => .no

/-! ### walks -/
inductive ST where
  | tup (xs : List SV)
  | lst (n i : Nat)
  | rng (lo : AI) (m : Nat)
  | key (n : Nat) (ks : List SV)
  | enu (i : Nat) (j : ST)
  | zp (a b : ST)
def ST.step (h : SH) : ST → Option (Option (SV × ST))
  | .tup [] => some none
  | .tup (x :: r) => some (some (x, .tup r))
  | .lst n i => match h.get n with
    | some (.lst xs _) => match xs[i]? with
      | some x => fN (i + 1) fun j => some (some (x, .lst n j))
      | none => some none
    | _ => none
  | .rng _ 0 => some none
  | .rng lo (m + 1) => match lo.add (kI 1) with
    | ⟨c, us⟩ => some (some (.int lo, .rng ⟨c, us⟩ m))
  | .key _ [] => some none
  | .key n (k :: r) => some (some (k, .key n r))
  | .enu i j => match j.step h with
    | some (some (v, j')) => fN (i + 1) fun k => some (some (.tup [.int (kI i), v], .enu k j'))
    | some none => some none
    | none => none
  | .zp a b => match a.step h with
    | some (some (v, a')) => match b.step h with
      | some (some (w, b')) => some (some (.tup [v, w], .zp a' b'))
      | some none => some none
      | none => none
    | some none => match b.step h with
      | none => none
      | some _ => some none
    | none => none
def sitOf (v : SV) (h : SH) : SQ ST := match v with
  | .tup xs => .ok (.tup xs) h
  | .ref n => match h.get n with
    | some (.lst _ _) => .ok (.lst n 0) h
    | some (.dct kvs lk) => match lk with
      | true => .ok (.key n (kvs.map Prod.fst)) h
      | false => .ok (.key n (kvs.map Prod.fst)) (h.put n (.dct kvs true))
    | none => .no
  | _ => .no
def szOf (v : SV) (h : SH) : Option ST := match v with
  | .ref n => match h.get n with
    | some (.lst _ _) => some (.lst n 0)
    | _ => none
  | _ => none
/-- within ±2^62, whatever the numbers -/
def slim (x : AI) : Bool := match lt0 bs (x.sub (kI 4611686018427387904)) with
  | some true => match lt0 bs (x.sub (kI (-4611686018427387903))) with
    | some false => true
    | _ => false
  | _ => false
def srngE (vs : List SV) (h : SH) : SQ ST := match vs with
  | [.int j] => match zeroL j.us with
    | true => match lim62 j.c with
      | true => fN j.c.toNat fun n => .ok (.rng (kI 0) n) h
      | false => .no
    | false => .no
  | [.int i, .int j] => match slim bs i with
    | true => match slim bs j with
      | true => match j.sub i with
        | ⟨c, us⟩ => match zeroL us with
          | true => fN c.toNat fun n => .ok (.rng i n) h
          | false => .no
      | false => .no
    | false => .no
  | _ => .no
def senuE (v : SV) (h : SH) : SQ ST := match szOf v h with
  | some j => .ok (.enu 0 j) h
  | none => .no
def szipE (x y : SV) (h : SH) : SQ ST := match x with
  | .tup xs => match y with
    | .tup ys => .ok (.zp (.tup xs) (.tup ys)) h
    | _ => .no
  | _ => match szOf x h with
    | some i => match szOf y h with
      | some j => .ok (.zp i j) h
      | none => .no
    | none => .no

/-! ### built-ins -/
def styOf (h : SH) : SV → Option (Ty × Bool)
  | .bl _ => some (.bool, true)
  | .int _ => some (.int, true)
  | .str _ => some (.str, true)
  | .tup _ => some (.tuple, true)
  | .ref n => match h.get n with
    | some (.lst _ _) => some (.list, true)
    | some (.dct _ _) => some (.dict, true)
    | none => none
  | .non => some (.int, false)
def sisiR (v : SV) (ts : List Ty) (h : SH) : SQ SV := match styOf h v with
  | some (t, true) => sretB (ts.any fun u => match t with
    | .bool => decide (u = .bool) || decide (u = .int)
    | _ => decide (u = t)) h
  | some (_, false) => sretB false h
  | none => .no
def sitemsD (h : SH) : SV → Option (List SV)
  | .tup xs => some xs
  | .ref n => match h.get n with
    | some (.lst xs _) => some xs
    | some (.dct kvs _) => some (kvs.map Prod.fst)
    | none => none
  | _ => none
def skeysD (h : SH) : SV → Option (List SV)
  | .ref n => match h.get n with
    | some (.lst xs _) => some xs
    | some (.dct kvs _) => some (kvs.map Prod.fst)
    | none => none
  | _ => none
def sbls : List SV → Option (List Bool)
  | [] => some []
  | .bl b :: r => match sbls r with
    | some bs => some (b :: bs)
    | none => none
  | _ :: _ => none
def slistAt (h : SH) : SV → Option (List SV)
  | .ref n => match h.get n with
    | some (.lst xs _) => some xs
    | _ => none
  | _ => none
def sbiE (b : Bi) (vs : List SV) (h : SH) : SQ SV := match vs with
  | [v] => match b with
    | .len => match sitemsD h v with
      | some xs => fN xs.length fun n => .ok (.int ⟨n, []⟩) h
      | none => .no
    | .all => match slistAt h v with
      | some xs => match sbls xs with
        | some bs => sretB (bs.all id) h
        | none => .no
      | none => .no
    | .any => match slistAt h v with
      | some xs => match sbls xs with
        | some bs => sretB (bs.any id) h
        | none => .no
      | none => .no
    | .tuple => match sitems h v with
      | some xs => .ok (.tup xs) h
      | none => .no
    | .list => match sitems h v with
      | some xs => smk (.lst xs false) h
      | none => .no
    | .sorted => match skeysD h v with
      | some xs => match ssortE bs h xs with
        | some ys => smk (.lst ys false) h
        | none => .no
      | none => .no
    | .int => match v with
      | .int i => .ok (.int i) h
      | _ => .no
    | .abs => match v with
      | .int i => match lt0 bs i with
        | some true => sint (i.smul (-1)) h
        | some false => .ok (.int i) h
        | none => .no
      | _ => .no
  | _ => .no
def sknd (h : SH) : SV → Option Kd
  | .str _ => some .str
  | .ref n => match h.get n with
    | some (.lst _ _) => some .lst
    | some (.dct _ _) => some .dct
    | none => none
  | _ => none
/-- where the first is -/
def sfind (d : DD) : List DD → Nat → Option Nat
  | [], _ => none
  | z :: r, i => match seqd bs z d with
    | some true => some i
    | some false => sfind d r (i + 1)
    | none => none
/-- how many -/
def scnt (d : DD) : List DD → Option Nat
  | [] => some 0
  | z :: r => match scnt d r with
    | some k => match seqd bs z d with
      | some true => some (k + 1)
      | some false => some k
      | none => none
    | none => none
def smetE (T : Kd) (m : Me) (o : SV) (vs : List SV) (h : SH) : SQ SV := match o with
  | .ref n => match h.get n with
    | some (.lst xs lk) => match T with
      | .lst => match m with
        | .append => match lk with
          | false => match vs with
            | [v] => match sz (xs.length + 1) with
              | true => .ok .non (h.put n (.lst (xs ++ [v]) false))
              | false => .no
            | _ => .no
          | true => .no
        | .extend => match lk with
          | false => match vs with
            | [.ref m] => match h.get m with
              | some (.lst ys false) => match sz (xs ++ ys).length with
                | true => .ok .non (h.put n (.lst (xs ++ ys) false))
                | false => .no
              | _ => .no
            | _ => .no
          | true => .no
        | .count => match vs with
          | [v] => match srd 20 h v with
            | some d => match mapO (srd 19 h) xs with
              | some ds => match scnt bs d ds with
                | some k => fN k fun k => .ok (.int ⟨k, []⟩) h
                | none => .no
              | none => .no
            | none => .no
          | _ => .no
        | .index => match vs with
          | [v] => match srd 20 h v with
            | some d => match mapO (srd 19 h) xs with
              | some ds => match sfind bs d ds 0 with
                | some k => fN k fun k => .ok (.int ⟨k, []⟩) h
                | none => .no
              | none => .no
            | none => .no
          | _ => .no
        | _ => .no
      | _ => .no
    | some (.dct kvs lk) => match T with
      | .dct => match m with
        | .get => match vs with
          | [k, x] => match skT k with
            | true => match sdget bs kvs k with
              | some o => .ok (o.getD x) h
              | none => .no
            | false => .no
          | _ => .no
        | _ => .no
      | _ => .no
    | none => .no
  | _ => .no
end

/-! ### the machine -/
abbrev SSg := List (Option SV)
def ssget : SSg → Nat → Option SV
  | [], _ => none
  | x :: _, 0 => x
  | _ :: r, i + 1 => ssget r i
def ssset : SSg → Nat → Option SV → SSg
  | [], _, _ => []
  | _ :: r, 0, v => v :: r
  | x :: r, i + 1, v => x :: ssset r i v
def sswipe (σ : SSg) : List Nat → SSg
  | [] => σ
  | i :: r => ssset (sswipe σ r) i none
inductive SFl where
  | nx (σ : SSg) | bk (σ : SSg) | ct (σ : SSg) | rt (v : SV)
abbrev SM (α : Type) := SSg → SH → SQ α
def slcL (tgt : SV → SSg → SH → SQ SSg) (tt : SSg → SH → SQ Bool) (elt : SSg → SH → SQ SV) (σ : SSg) : Nat → ST → List SV → SH → SQ (List SV)
  | 0, _, _, _ => .no
  | f + 1, it, acc, h => match it.step h with
    | none => .no
    | some none => .ok acc.reverse h
    | some (some (v, it')) => (tgt v σ h).bind fun σ2 h => (tt σ2 h).bind fun b h => match b with
      | true => (elt σ2 h).bind fun y h => slcL tgt tt elt σ f it' (y :: acc) h
      | false => slcL tgt tt elt σ f it' acc h
def sdcL (bs : List (Int × Int)) (tgt : SV → SSg → SH → SQ SSg) (tt : SSg → SH → SQ Bool) (key val : SSg → SH → SQ SV) (σ : SSg) : Nat → ST → List (SV × SV) → SH → SQ (List (SV × SV))
  | 0, _, _, _ => .no
  | f + 1, it, acc, h => match it.step h with
    | none => .no
    | some none => .ok acc h
    | some (some (v, it')) => (tgt v σ h).bind fun σ2 h => (tt σ2 h).bind fun b h => match b with
      | true => (key σ2 h).bind fun k h => (val σ2 h).bind fun y h => match skT k with
        | true => match sdput bs acc k y with
          | some acc => sdcL bs tgt tt key val σ f it' acc h
          | none => .no
        | false => .no
      | false => sdcL bs tgt tt key val σ f it' acc h
def sforL (tgt : SV → SSg → SH → SQ SSg) (body : SSg → SH → SQ SFl) : Nat → ST → SSg → SH → SQ SFl
  | 0, _, _, _ => .no
  | f + 1, it, σ, h => match it.step h with
    | none => .no
    | some none => .ok (.nx σ) h
    | some (some (v, it')) => (tgt v σ h).bind fun σ2 h => (body σ2 h).bind fun fl h => match fl with
      | .nx σ3 => sforL tgt body f it' σ3 h
      | .ct σ3 => sforL tgt body f it' σ3 h
      | .bk σ3 => .ok (.nx σ3) h
      | .rt v => .ok (.rt v) h
def swhlL (t : SSg → SH → SQ Bool) (body : SSg → SH → SQ SFl) : Nat → SSg → SH → SQ SFl
  | 0, _, _ => .no
  | f + 1, σ, h => (t σ h).bind fun b h => match b with
    | false => .ok (.nx σ) h
    | true => (body σ h).bind fun fl h => match fl with
      | .nx σ3 => swhlL t body f σ3 h
      | .ct σ3 => swhlL t body f σ3 h
      | .bk σ3 => .ok (.nx σ3) h
      | .rt v => .ok (.rt v) h
def sslcE (x : SV) (l u : Option Int) (h : SH) : SQ SV := match x with
  | .tup xs => match Nat.beq ((xs.drop (cutI xs.length 0 l)).take (cutI xs.length xs.length u - cutI xs.length 0 l)).length xs.length with
    | true => .no
    | false => .ok (.tup ((xs.drop (cutI xs.length 0 l)).take (cutI xs.length xs.length u - cutI xs.length 0 l))) h
  | .ref n => match h.get n with
    | some (.lst xs _) => smk (.lst ((xs.drop (cutI xs.length 0 l)).take (cutI xs.length xs.length u - cutI xs.length 0 l)) false) h
    | _ => .no
  | _ => .no
def snegE (x : SV) (h : SH) : SQ SV := match x with
  | .int i => sint (i.smul (-1)) h
  | _ => .no
def stupE (vs : List SV) (h : SH) : SQ SV := match sz vs.length with
  | true => .ok (.tup vs) h
  | false => .no
def slstE (vs : List SV) (h : SH) : SQ SV := match sz vs.length with
  | true => smk (.lst vs false) h
  | false => .no
def sdctE (vs : List SV) (h : SH) : SQ SV := match vs with
  | [] => smk (.dct [] false) h
  | _ :: _ => .no
def sdcE (kvs : List (SV × SV)) (h : SH) : SQ SV := match sz kvs.length with
  | true => smk (.dct kvs false) h
  | false => .no
def sintO (v : SV) (h : SH) : SQ (Option Int) := match v with
  | .int i => match zeroL i.us with
    | true => .ok (some i.c) h
    | false => .no
  | _ => .no
def ssetTup (n : Nat) : SV → Option (List SV)
  | .tup xs => match Nat.beq xs.length n with
    | true => some xs
    | false => none
  | _ => none
def spsets : List Nat → List SV → SSg → Option SSg
  | [], [], σ => some σ
  | i :: r, v :: vs, σ => spsets r vs (ssset σ i (some v))
  | _, _, _ => none
/-- a constant, as a value -/
def ofEV : Nat → EV → Option SV
  | 0, _ => none
  | f + 1, v => match v with
    | .non => some .non
    | .bl b => some (.bl b)
    | .int i => some (.int ⟨i, []⟩)
    | .str s => some (.str s)
    | .tup xs => match mapO (ofEV f) xs with
      | some ys => some (.tup ys)
      | none => none
    | _ => none

section
variable (bs : List (Int × Int)) (K : Nat → Option SV) (C : Nat → List SV → SH → SQ SV) (F : Nat)
def struE (v : SV) (h : SH) : SQ Bool := match stru bs h v with
  | some b => .ok b h
  | none => .no
def vOpt (o : Option SV) (h : SH) : SQ SV := match o with
  | some v => .ok v h
  | none => .no
def zBad {α : Type} : SM α := fun _ _ => .no
def zVar (i : Nat) : SM SV := fun σ h => vOpt (ssget σ i) h
def zC {α : Type} (v : α) : SM α := fun _ h => .ok v h
def zThen {α β : Type} (a : SM α) (f : α → SH → SQ β) : SM β := fun σ h => (a σ h).bind f
def zTwo {α β γ : Type} (a : SM α) (b : SM β) (f : α → β → SH → SQ γ) : SM γ := fun σ h => (a σ h).bind fun x h => (b σ h).bind fun y h => f x y h
def zIte {α : Type} (t : SM Bool) (a b : SM α) : SM α := fun σ h => (t σ h).bind fun c h => match c with
  | true => a σ h
  | false => b σ h
def zChn (o1 o2 : CmpOp) (a b c : SM SV) : SM SV := fun σ h => (a σ h).bind fun x h => (b σ h).bind fun y h => (scmpE bs o1 x y h).bind fun r h => match r with
  | .bl true => (c σ h).bind fun z h => scmpE bs o2 y z h
  | .bl false => .ok r h
  | _ => .no
def zNt (a : SM SV) : SM SV := fun σ h => (a σ h).bind fun v h => (struE bs v h).bind fun b h => .ok (.bl (!b)) h
def zNot (a : SM Bool) : SM Bool := fun σ h => (a σ h).bind fun b h => .ok (!b) h
def zSlc (a : SM SV) (lo hi : SM (Option Int)) : SM SV := fun σ h => (a σ h).bind fun x h => (lo σ h).bind fun l h => (hi σ h).bind fun u h => sslcE x l u h
def zLc (own : List Nat) (elt : SM SV) (g : SV → SM SSg) (it : SM ST) (tt : SM Bool) : SM SV := fun σ h =>
  (it σ h).bind fun j h => (slcL g tt elt (sswipe σ own) F j [] h).bind slstE
def zDc (own : List Nat) (key val : SM SV) (g : SV → SM SSg) (it : SM ST) (tt : SM Bool) : SM SV := fun σ h =>
  (it σ h).bind fun j h => (sdcL bs g tt key val (sswipe σ own) F j [] h).bind sdcE
def zMet (m : Me) (o : SM SV) (es : SM (List SV)) : SM SV := fun σ h => (o σ h).bind fun x h => match sknd h x with
  | some T => match mtOk T m with
    | true => (es σ h).bind fun vs h => smetE bs T m x vs h
    | false => .no
  | none => .no
def zAndV (e r : SM SV) : SM SV := fun σ h => (e σ h).bind fun v h => (struE bs v h).bind fun b h => match b with
  | true => r σ h
  | false => .ok v h
def zOrV (e r : SM SV) : SM SV := fun σ h => (e σ h).bind fun v h => (struE bs v h).bind fun b h => match b with
  | true => .ok v h
  | false => r σ h
def zAnd (e r : SM Bool) : SM Bool := fun σ h => (e σ h).bind fun b h => match b with
  | true => r σ h
  | false => .ok false h
def zOr (e r : SM Bool) : SM Bool := fun σ h => (e σ h).bind fun b h => match b with
  | true => .ok true h
  | false => r σ h
def zCons (e : SM SV) (r : SM (List SV)) : SM (List SV) := fun σ h => (e σ h).bind fun v h => (r σ h).bind fun vs h => .ok (v :: vs) h
def zStar (e : SM SV) (r : SM (List SV)) : SM (List SV) := fun σ h => (e σ h).bind fun v h => match sitems h v with
  | some xs => (r σ h).bind fun vs h => .ok (xs ++ vs) h
  | none => .no
def yNm (i : Nat) (v : SV) : SM SSg := fun σ h => .ok (ssset σ i (some v)) h
def yTp (n : Nat) (gs : List SV → SM SSg) (v : SV) : SM SSg := fun σ h => match ssetTup n v with
  | some vs => gs vs σ h
  | none => .no
def ySb (o i : SM SV) (v : SV) : SM SSg := fun σ h => (o σ h).bind fun x h => (i σ h).bind fun y h => (ssetE bs x y v h).bind fun _ h => .ok σ h
def yNil (vs : List SV) : SM SSg := fun σ h => match vs with
  | [] => .ok σ h
  | _ :: _ => .no
def yCons (g : SV → SM SSg) (r : List SV → SM SSg) (vs : List SV) : SM SSg := fun σ h => match vs with
  | [] => .no
  | v :: vs => (g v σ h).bind fun σ h => r vs σ h
mutual
def zev : XE → SM SV
  | .nev => zBad
  | .var i _ => zVar i
  | .cI i => zC (.int ⟨i, []⟩)
  | .cS s => zC (.str s)
  | .cB b => zC (.bl b)
  | .cN => zC .non
  | .glo k _ => fun _ h => vOpt (K k) h
  | .bin op a b => zTwo (zev a) (zev b) (sbinE op)
  | .neg a => zThen (zev a) snegE
  | .cmp op a b => zTwo (zev a) (zev b) (scmpE bs op)
  | .chn o1 o2 a b c => zChn bs o1 o2 (zev a) (zev b) (zev c)
  | .lg o es => zelg o es
  | .nt a => zNt bs (zev a)
  | .ite t a b => zIte (zet t) (zev a) (zev b)
  | .sub a i => zTwo (zev a) (zev i) (sgetE bs)
  | .slc a lo hi => zSlc (zev a) (zeo lo) (zeo hi)
  | .tup es => zThen (zevs es) stupE
  | .lst es => zThen (zevs es) slstE
  | .dct kvs => zThen (zevs kvs) sdctE
  | .lc own elt g it tt => zLc F own (zev elt) (zeg g) (zeit it) (zets tt)
  | .dc own key val g it tt => zDc bs F own (zev key) (zev val) (zeg g) (zeit it) (zets tt)
  | .call k _ es => zThen (zevs es) (C k)
  | .isi a _ ts => zThen (zev a) fun x h => sisiR x ts h
  | .bi b es => zThen (zevs es) (sbiE bs b)
  | .met m o es => zMet bs m (zev o) (zevs es)
def zet : XT → SM Bool
  | .va e => zThen (zev e) (struE bs)
  | .lg o ts => zetl o ts
  | .nt t => zNot (zet t)
def zelg : BoolOp → XEs → SM SV
  | _, .nil => zBad
  | o, .cons _ e r => match r with
    | .nil => zev e
    | .cons _ _ _ => match o with
        | .And => zAndV bs (zev e) (zelg .And r)
        | .Or => zOrV bs (zev e) (zelg .Or r)
def zetl : BoolOp → XTs → SM Bool
  | o, .nil => match o with
    | .And => zC true
    | .Or => zC false
  | o, .cons e r => match o with
    | .And => zAnd (zet e) (zetl .And r)
    | .Or => zOr (zet e) (zetl .Or r)
def zets : XTs → SM Bool
  | .nil => zC true
  | .cons e r => zAnd (zet e) (zets r)
def zeo : XO → SM (Option Int)
  | .no => zC none
  | .so e => zThen (zev e) sintO
def zevs : XEs → SM (List SV)
  | .nil => zC []
  | .cons st e r => match st with
    | false => zCons (zev e) (zevs r)
    | true => zStar (zev e) (zevs r)
def zeit : XI → SM ST
  | .ex e => zThen (zev e) sitOf
  | .rng es => zThen (zevs es) (srngE bs)
  | .enu e => zThen (zev e) senuE
  | .zip a b => zTwo (zev a) (zev b) szipE
def zeg : XG → SV → SM SSg
  | .nm i _ => yNm i
  | .tp gs => yTp gs.len (zegs gs)
  | .sb o i => ySb bs (zev o) (zev i)
def zegs : XGs → List SV → SM SSg
  | .nil => yNil
  | .cons g r => yCons (zeg g) (zegs r)
end
def tNx : SM SFl := fun σ h => .ok (.nx σ) h
def tSq (s r : SM SFl) : SM SFl := fun σ h => (s σ h).bind fun fl h => match fl with
  | .nx σ => r σ h
  | .bk σ => .ok (.bk σ) h
  | .ct σ => .ok (.ct σ) h
  | .rt v => .ok (.rt v) h
def tAsg (g : SV → SM SSg) (e : SM SV) : SM SFl := fun σ h => (e σ h).bind fun v h => (g v σ h).bind fun σ h => .ok (.nx σ) h
def tPar (is : List Nat) (es : SM (List SV)) : SM SFl := fun σ h => (es σ h).bind fun vs h => match spsets is vs σ with
  | some σ => .ok (.nx σ) h
  | none => .no
def tWhl (t : SM Bool) (b : SM SFl) : SM SFl := fun σ h => swhlL t b F σ h
def tFor (g : SV → SM SSg) (it : SM ST) (b : SM SFl) : SM SFl := fun σ h => (it σ h).bind fun j h => sforL g b F j σ h
mutual
def zex : XS → SM SFl
  | .nev => zBad
  | .ex e => fun σ h => (zev bs K C F e σ h).bind fun _ h => .ok (.nx σ) h
  | .ret e => fun σ h => (zev bs K C F e σ h).bind fun v h => .ok (.rt v) h
  | .retN => zC (.rt .non)
  | .asg g e => tAsg (zeg bs K C F g) (zev bs K C F e)
  | .par is es => tPar (is.map Prod.fst) (zevs bs K C F es)
  | .ifs t a b => zIte (zet bs K C F t) (zexs a) (zexs b)
  | .whl t b => tWhl F (zet bs K C F t) (zexs b)
  | .for_ g it b => tFor F (zeg bs K C F g) (zeit bs K C F it) (zexs b)
  | .brk => fun σ h => .ok (.bk σ) h
  | .cnt => fun σ h => .ok (.ct σ) h
  | .pass => tNx
def zexs : XSs → SM SFl
  | .nil => tNx
  | .cons s r => tSq (zex s) (zexs r)
end
end
def ssgOf : Nat → List SV → SSg
  | 0, _ => []
  | n + 1, [] => none :: ssgOf n []
  | n + 1, v :: vs => some v :: ssgOf n vs
def sretFl : SFl → SH → SQ SV
  | .rt v, h => .ok v h
  | .nx _, h => .ok .non h
  | _, _ => .no
/-- one def: parameters, names, code -/
structure SFD where
  np : Nat
  nN : Nat
  code : XSs
def sfdAt : List SFD → Nat → Option SFD
  | [], _ => none
  | x :: _, 0 => some x
  | _ :: r, i + 1 => sfdAt r i
/-- calls: summaries first (O), else the code -/
def zcall (bs : List (Int × Int)) (K : Nat → Option SV) (T : List SFD) (O : Nat → Nat → List SV → SH → Option (SQ SV)) (F : Nat) : Nat → Nat → List SV → SH → SQ SV
  | 0, _, _, _ => .no
  | d + 1, k, vs, h => match O (d + 1) k vs h with
    | some r => r
    | none => match sfdAt T k with
      | some fd => match Nat.beq vs.length fd.np with
        | true => (zexs bs K (fun k vs h => zcall bs K T O F d k vs h) F fd.code (ssgOf fd.nN vs) h).bind sretFl
        | false => .no
      | none => .no
end EM
end
section
set_option Elab.async false
set_option linter.all false
set_option maxRecDepth 100000
/-! F1: numbers, values, heaps: what is computed over unknown numbers holds for all. -/
namespace EM
open PySem

inductive Bnd : List Int → List (Int × Int) → Prop
  | nil : Bnd [] []
  | cons {x : Int} {b : Int × Int} {s : List Int} {bs : List (Int × Int)} : b.1 ≤ x → x ≤ b.2 → Bnd s bs → Bnd (x :: s) (b :: bs)

/-! ### numbers -/
def addL : List Int → List Int → List Int
  | u :: us, v :: vs => (u + v) :: addL us vs
  | [], vs => vs
  | us, [] => us
theorem addK_eq {α : Type} : ∀ (us vs : List Int) (k : List Int → α), addK us vs k = k (addL us vs)
  | u :: us, v :: vs, k => by
    unfold addK addL
    rw [fI_eq, addK_eq us vs]
  | [], vs, k => by unfold addK addL; rfl
  | u :: us, [], k => by unfold addK addL; rfl
theorem mulK_eq {α : Type} (m : Int) : ∀ (us : List Int) (k : List Int → α), mulK m us k = k (us.map (m * ·))
  | u :: us, k => by
    unfold mulK
    rw [fI_eq, mulK_eq m us]
    rfl
  | [], k => rfl
theorem divK_eq {α : Type} (m : Int) : ∀ (us : List Int) (k : List Int → α), divK m us k = k (us.map (· / m))
  | u :: us, k => by
    unfold divK
    rw [fI_eq, divK_eq m us]
    rfl
  | [], k => rfl
theorem dotL_nil (s : List Int) : dotL [] s = 0 := by cases s <;> rfl
theorem dotL_nil2 (us : List Int) : dotL us [] = 0 := by cases us <;> rfl
theorem dot_add : ∀ (us vs s : List Int), dotL (addL us vs) s = dotL us s + dotL vs s
  | u :: us, v :: vs, [] => by simp [dotL_nil2]
  | u :: us, v :: vs, x :: s => by
    simp only [addL, dotL, dot_add us vs s, Int.add_mul]
    omega
  | [], vs, s => by simp [addL, dotL_nil]
  | u :: us, [], s => by simp [addL, dotL_nil]
theorem dot_mul (m : Int) : ∀ (us s : List Int), dotL (us.map (m * ·)) s = m * dotL us s
  | u :: us, [] => by simp [dotL_nil2]
  | u :: us, x :: s => by
    simp only [List.map_cons, dotL, dot_mul m us s, Int.mul_add, Int.mul_assoc]
  | [], s => by simp [dotL_nil]
theorem AI.val_add (s : List Int) (x y : AI) : (x.add y).val s = x.val s + y.val s := by
  unfold AI.add AI.val
  rw [fI_eq, addK_eq]
  show x.c + y.c + dotL (addL x.us y.us) s = _
  rw [dot_add]
  omega
theorem AI.val_smul (s : List Int) (m : Int) (x : AI) : (x.smul m).val s = m * x.val s := by
  unfold AI.smul AI.val
  rw [fI_eq, mulK_eq]
  show m * x.c + dotL (x.us.map (m * ·)) s = _
  rw [dot_mul, Int.mul_add]
theorem AI.val_sub (s : List Int) (x y : AI) : (x.sub y).val s = x.val s - y.val s := by
  unfold AI.sub
  rw [AI.val_add, AI.val_smul]
  omega
theorem AI.val_k (s : List Int) (i : Int) : (⟨i, []⟩ : AI).val s = i := by simp [AI.val, dotL_nil]
theorem zero_dot : ∀ {us : List Int} (s : List Int), zeroL us = true → dotL us s = 0
  | [], s, _ => dotL_nil s
  | u :: us, [], _ => rfl
  | u :: us, x :: s, h => by
    unfold zeroL at h
    split at h
    · rename_i e
      have := (ieq_iff _ _).mp e
      subst this
      simp [dotL, zero_dot s h]
    · cases h
theorem zero_val {x : AI} (s : List Int) (h : zeroL x.us = true) : x.val s = x.c := by simp [AI.val, zero_dot s h]
theorem rng_ok : ∀ {us : List Int} {bs : List (Int × Int)} {s : List Int} {p : Int × Int}, Bnd s bs → rngL us bs = some p → p.1 ≤ dotL us s ∧ dotL us s ≤ p.2
  | [], bs, s, p, hB, h => by
    unfold rngL at h
    cases h
    simp [dotL_nil]
  | u :: us, [], s, p, hB, h => by
    cases hB
    unfold rngL at h
    split at h
    · have := rng_ok (us := us) .nil h
      rw [dotL_nil2] at this
      rw [dotL_nil2]
      exact this
    · cases h
  | u :: us, b :: bs, s, p, hB, h => by
    cases hB with
    | cons h1 h2 hB =>
      rename_i x s
      unfold rngL at h
      split at h
      · rename_i q eq
        obtain ⟨q1, q2⟩ := rng_ok hB eq
        split at h
        · rename_i el
          cases h
          have hu : 0 ≤ u := by
            rw [ilt_eq] at el
            have := of_decide_eq_false el
            omega
          have a1 := Int.mul_le_mul_of_nonneg_left h1 hu
          have a2 := Int.mul_le_mul_of_nonneg_left h2 hu
          simp only [dotL]
          constructor <;> omega
        · rename_i el
          cases h
          have hu : u ≤ 0 := by
            have := (ilt_iff _ _).mp el
            omega
          have a1 := Int.mul_le_mul_of_nonpos_left hu h1
          have a2 := Int.mul_le_mul_of_nonpos_left hu h2
          simp only [dotL]
          constructor <;> omega
      · cases h
section
variable {bs : List (Int × Int)} {s : List Int}
theorem eq0_ok (hB : Bnd s bs) {d : AI} {b : Bool} (h : eq0 bs d = some b) : b = decide (d.val s = 0) := by
  unfold eq0 at h
  split at h
  · rename_i e
    cases h
    rw [zero_val s e, ieq_eq]
  · split at h
    · rename_i p ep
      obtain ⟨p1, p2⟩ := rng_ok hB ep
      split at h
      · rename_i e
        cases h
        have := (ilt_iff _ _).mp e
        symm
        rw [decide_eq_false_iff_not]
        unfold AI.val
        omega
      · split at h
        · rename_i e
          cases h
          have := (ilt_iff _ _).mp e
          symm
          rw [decide_eq_false_iff_not]
          unfold AI.val
          omega
        · cases h
    · cases h
theorem lt0_ok (hB : Bnd s bs) {d : AI} {b : Bool} (h : lt0 bs d = some b) : b = decide (d.val s < 0) := by
  unfold lt0 at h
  split at h
  · rename_i e
    cases h
    rw [zero_val s e, ilt_eq]
  · split at h
    · rename_i p ep
      obtain ⟨p1, p2⟩ := rng_ok hB ep
      split at h
      · rename_i e
        cases h
        have := (ilt_iff _ _).mp e
        symm
        rw [decide_eq_true_eq]
        unfold AI.val
        omega
      · split at h
        · cases h
        · rename_i e
          cases h
          rw [ilt_eq] at e
          have := of_decide_eq_false e
          symm
          rw [decide_eq_false_iff_not]
          unfold AI.val
          omega
    · cases h
theorem eq_sub (hB : Bnd s bs) {x y : AI} {b : Bool} (h : eq0 bs (x.sub y) = some b) : b = decide (x.val s = y.val s) := by
  rw [eq0_ok hB h, AI.val_sub]
  by_cases e : x.val s = y.val s
  · rw [decide_eq_true e, decide_eq_true (by omega)]
  · rw [decide_eq_false e, decide_eq_false (by omega)]
theorem lt_sub (hB : Bnd s bs) {x y : AI} {b : Bool} (h : lt0 bs (x.sub y) = some b) : b = decide (x.val s < y.val s) := by
  rw [lt0_ok hB h, AI.val_sub]
  by_cases e : x.val s < y.val s
  · rw [decide_eq_true e, decide_eq_true (by omega)]
  · rw [decide_eq_false e, decide_eq_false (by omega)]
theorem dvd_dot {m : Int} (hm : 0 < m) : ∀ {us : List Int} (s : List Int), dvdL m us = true → dotL us s = m * dotL (us.map (· / m)) s
  | [], s, _ => by simp [dotL_nil]
  | u :: us, [], _ => by simp [dotL_nil2]
  | u :: us, x :: s, h => by
    unfold dvdL at h
    split at h
    · rename_i e
      have e := (ieq_iff _ _).mp e
      have hu : u = m * (u / m) := by
        have := Int.emod_add_mul_ediv u m
        omega
      have ih := dvd_dot hm s h
      simp only [List.map_cons, dotL]
      rw [Int.mul_add, ← ih, ← Int.mul_assoc, ← hu]
    · cases h
theorem div_val {m : Int} (hm : 0 < m) {x : AI} (h : dvdL m x.us = true) : x.val s / m = x.c / m + dotL (x.us.map (· / m)) s := by
  unfold AI.val
  rw [dvd_dot hm s h, Int.add_mul_ediv_left _ _ (by omega)]
theorem mod_val {m : Int} (hm : 0 < m) {x : AI} (h : dvdL m x.us = true) : x.val s % m = x.c % m := by
  unfold AI.val
  rw [dvd_dot hm s h, Int.add_mul_emod_self_left]
end

/-! ### values, heaps -/
section
variable (s : List Int) (ρ : Nat → Nat) (n : Nat)
mutual
inductive SR : SV → EV → Prop
  | non : SR .non .non
  | bl (b : Bool) : SR (.bl b) (.bl b)
  | int {x : AI} {i : Int} : i = x.val s → SR (.int x) (.int i)
  | str (z : PySem.Str) : SR (.str z) (.str z)
  | tup {xs : List SV} {ys : List EV} : SRs xs ys → SR (.tup xs) (.tup ys)
  | ref {i : Nat} : i < n → SR (.ref i) (.ref (ρ i))
inductive SRs : List SV → List EV → Prop
  | nil : SRs [] []
  | cons {x : SV} {y : EV} {xs : List SV} {ys : List EV} : SR x y → SRs xs ys → SRs (x :: xs) (y :: ys)
end
inductive SKs : List (SV × SV) → List (EV × EV) → Prop
  | nil : SKs [] []
  | cons {k v : SV} {k' v' : EV} {r : List (SV × SV)} {r' : List (EV × EV)} : SR s ρ n k k' → SR s ρ n v v' → SKs r r' → SKs ((k, v) :: r) ((k', v') :: r')
inductive SCr : SCL → CL → Prop
  | lst {xs : List SV} {ys : List EV} {lk : Bool} : SRs s ρ n xs ys → SCr (.lst xs lk) (.lst ys lk)
  | dct {xs : List (SV × SV)} {ys : List (EV × EV)} {lk : Bool} : SKs s ρ n xs ys → SCr (.dct xs lk) (.dct ys lk)
end
structure Sim (s : List Int) (ρ : Nat → Nat) (hs : SH) (hc : EH) : Prop where
  inj : ∀ i j, i < hs.n → j < hs.n → ρ i = ρ j → i = j
  cell : ∀ i, i < hs.n → ∃ c c', hs.get i = some c ∧ hc.get (ρ i) = some c' ∧ SCr s ρ hs.n c c'
  le1 : hs.n ≤ hs.m
  le2 : hc.n ≤ hs.m
  le3 : hs.m ≤ 1000000000
section
variable {s : List Int} {ρ ρ' : Nat → Nat} {n n' : Nat}
mutual
theorem SR.mono (hn : n ≤ n') (ag : ∀ i, i < n → ρ' i = ρ i) {v : SV} {w : EV} (r : SR s ρ n v w) : SR s ρ' n' v w := by
  match r with
  | .non => exact .non
  | .bl b => exact .bl b
  | .int e => exact .int e
  | .str z => exact .str z
  | .tup rs => exact .tup (SRs.mono hn ag rs)
  | .ref h => rw [← ag _ h]; exact .ref (Nat.lt_of_lt_of_le h hn)
theorem SRs.mono (hn : n ≤ n') (ag : ∀ i, i < n → ρ' i = ρ i) {v : List SV} {w : List EV} (r : SRs s ρ n v w) : SRs s ρ' n' v w := by
  match r with
  | .nil => exact .nil
  | .cons r rs => exact .cons (SR.mono hn ag r) (SRs.mono hn ag rs)
end
theorem SKs.mono (hn : n ≤ n') (ag : ∀ i, i < n → ρ' i = ρ i) {v : List (SV × SV)} {w : List (EV × EV)} (r : SKs s ρ n v w) : SKs s ρ' n' v w := by
  induction r with
  | nil => exact .nil
  | cons a b _ ih => exact .cons (a.mono hn ag) (b.mono hn ag) ih
theorem SCr.mono (hn : n ≤ n') (ag : ∀ i, i < n → ρ' i = ρ i) {v : SCL} {w : CL} (r : SCr s ρ n v w) : SCr s ρ' n' v w := by
  cases r with
  | lst r => exact .lst (r.mono hn ag)
  | dct r => exact .dct (r.mono hn ag)
theorem SRs.length {v : List SV} {w : List EV} (r : SRs s ρ n v w) : v.length = w.length := by
  match r with
  | .nil => rfl
  | .cons _ rs => simp [SRs.length rs]
theorem SKs.length {v : List (SV × SV)} {w : List (EV × EV)} (r : SKs s ρ n v w) : v.length = w.length := by
  induction r with
  | nil => rfl
  | cons _ _ _ ih => simp [ih]
theorem SRs.get {v : List SV} {w : List EV} (r : SRs s ρ n v w) : ∀ {i : Nat} {x : SV}, v[i]? = some x → ∃ y, w[i]? = some y ∧ SR s ρ n x y := by
  match r with
  | .nil => intro i x h; simp at h
  | .cons (y := y) q rs =>
    intro i x h
    cases i with
    | zero => simp at h; subst h; exact ⟨y, by simp, q⟩
    | succ i =>
      obtain ⟨z, h1, h2⟩ := SRs.get rs (i := i) (x := x) (by simpa using h)
      exact ⟨z, by simpa using h1, h2⟩
theorem SRs.append {v v' : List SV} {w w' : List EV} (r : SRs s ρ n v w) (q : SRs s ρ n v' w') : SRs s ρ n (v ++ v') (w ++ w') := by
  match r with
  | .nil => exact q
  | .cons a b => exact .cons a (SRs.append b q)
theorem SRs.drop {v : List SV} {w : List EV} (r : SRs s ρ n v w) : ∀ i, SRs s ρ n (v.drop i) (w.drop i) := by
  match r with
  | .nil => intro i; simp; exact .nil
  | .cons a b =>
    intro i
    cases i with
    | zero => exact .cons a b
    | succ i => simpa using SRs.drop b i
theorem SRs.take {v : List SV} {w : List EV} (r : SRs s ρ n v w) : ∀ i, SRs s ρ n (v.take i) (w.take i) := by
  match r with
  | .nil => intro i; simp; exact .nil
  | .cons a b =>
    intro i
    cases i with
    | zero => exact .nil
    | succ i => simpa using SRs.cons a (SRs.take b i)
theorem SRs.set {v : List SV} {w : List EV} {x : SV} {y : EV} (r : SRs s ρ n v w) (q : SR s ρ n x y) : ∀ i, SRs s ρ n (v.set i x) (w.set i y) := by
  match r with
  | .nil => intro i; simp; exact .nil
  | .cons a b =>
    intro i
    cases i with
    | zero => exact .cons q b
    | succ i => simpa using SRs.cons a (SRs.set b q i)
theorem SRs.reverse {v : List SV} {w : List EV} (r : SRs s ρ n v w) : SRs s ρ n v.reverse w.reverse := by
  match r with
  | .nil => exact .nil
  | .cons a b => rw [List.reverse_cons, List.reverse_cons]; exact (SRs.reverse b).append (.cons a .nil)
theorem SKs.keys {v : List (SV × SV)} {w : List (EV × EV)} (r : SKs s ρ n v w) : SRs s ρ n (v.map Prod.fst) (w.map Prod.fst) := by
  induction r with
  | nil => exact .nil
  | cons a _ _ ih => exact .cons a ih
end

/-! ### the tree of cells -/
theorem str_same (c : SCL) : ∀ (f n : Nat) (t : STr), n + 1 < 2 ^ f → STr.get f (STr.put f t n c) n = some c
  | 0, n, t, h => by simp at h
  | f + 1, 0, .lf, _ => rfl
  | f + 1, 0, .nd l v r, _ => rfl
  | f + 1, m + 1, .lf, h => by
    have hb : m / 2 + 1 < 2 ^ f := by rw [Nat.pow_succ] at h; omega
    rcases Nat.mod_two_eq_zero_or_one m with e | e
    · simp only [STr.put, e, STr.get]; exact str_same c f (m / 2) .lf hb
    · simp only [STr.put, e, STr.get]; exact str_same c f (m / 2) .lf hb
  | f + 1, m + 1, .nd l v r, h => by
    have hb : m / 2 + 1 < 2 ^ f := by rw [Nat.pow_succ] at h; omega
    rcases Nat.mod_two_eq_zero_or_one m with e | e
    · simp only [STr.put, e, STr.get]; exact str_same c f (m / 2) l hb
    · simp only [STr.put, e, STr.get]; exact str_same c f (m / 2) r hb
theorem str_lf (f n : Nat) : STr.get f .lf n = none := by cases f <;> rfl
theorem str_ne (c : SCL) : ∀ (f n m : Nat) (t : STr), n ≠ m → STr.get f (STr.put f t n c) m = STr.get f t m
  | 0, n, m, t, h => rfl
  | f + 1, 0, 0, t, h => absurd rfl h
  | f + 1, 0, m + 1, .lf, h => by
    simp only [STr.put, STr.get]
    rcases Nat.mod_two_eq_zero_or_one m with e | e <;> simp only [e, str_lf]
  | f + 1, 0, m + 1, .nd l v r, h => rfl
  | f + 1, n + 1, 0, .lf, h => by
    rcases Nat.mod_two_eq_zero_or_one n with e | e <;> simp only [STr.put, e, STr.get]
  | f + 1, n + 1, 0, .nd l v r, h => by
    rcases Nat.mod_two_eq_zero_or_one n with e | e <;> simp only [STr.put, e, STr.get]
  | f + 1, n + 1, m + 1, .lf, h => by
    have hnm : n ≠ m := fun e => h (by rw [e])
    rcases Nat.mod_two_eq_zero_or_one n with e | e <;> rcases Nat.mod_two_eq_zero_or_one m with e' | e'
    · simp only [STr.put, e, STr.get, e']
      rw [str_ne c f (n / 2) (m / 2) .lf (by omega), str_lf]
    · simp only [STr.put, e, STr.get, e', str_lf]
    · simp only [STr.put, e, STr.get, e', str_lf]
    · simp only [STr.put, e, STr.get, e']
      rw [str_ne c f (n / 2) (m / 2) .lf (by omega), str_lf]
  | f + 1, n + 1, m + 1, .nd l v r, h => by
    have hnm : n ≠ m := fun e => h (by rw [e])
    rcases Nat.mod_two_eq_zero_or_one n with e | e <;> rcases Nat.mod_two_eq_zero_or_one m with e' | e'
    · simp only [STr.put, e, STr.get, e']
      exact str_ne c f (n / 2) (m / 2) l (by omega)
    · simp only [STr.put, e, STr.get, e']
    · simp only [STr.put, e, STr.get, e']
    · simp only [STr.put, e, STr.get, e']
      exact str_ne c f (n / 2) (m / 2) r (by omega)
theorem SH.get_lt {h : SH} {i : Nat} {c : SCL} (e : h.get i = some c) : i < h.n := by
  unfold SH.get at e
  cases q : Nat.blt i h.n with
  | true => simp only [Nat.blt, Nat.ble_eq] at q; omega
  | false => rw [q] at e; cases e
theorem SH.get_of {h : SH} {i : Nat} (l : i < h.n) : h.get i = h.t.get 40 i := by
  unfold SH.get
  have q : Nat.blt i h.n = true := by simp only [Nat.blt, Nat.ble_eq]; omega
  rw [q]
theorem SH.get_put_same {h : SH} {i : Nat} {c : SCL} (l : i < h.n) (hb : h.n ≤ 1000000000) : (h.put i c).get i = some c := by
  rw [SH.get_of (show i < (h.put i c).n from l)]
  exact str_same c 40 i h.t (by omega)
theorem SH.get_put_ne {h : SH} {i j : Nat} {c : SCL} (l : j ≠ i) : (h.put i c).get j = h.get j := by
  unfold SH.get
  show (match Nat.blt j h.n with | true => STr.get 40 (STr.put 40 h.t i c) j | false => none) = _
  rw [str_ne c 40 i j h.t (Ne.symm l)] <;> rfl
def SH.push (h : SH) (c : SCL) : SH := ⟨h.n + 1, h.m + 1, h.t.put 40 h.n c⟩
theorem SH.get_push_same {h : SH} {c : SCL} (hb : h.n < 1000000000) : (h.push c).get h.n = some c := by
  rw [SH.get_of (show h.n < (h.push c).n from Nat.lt_succ_self _)]
  exact str_same c 40 h.n h.t (by omega)
theorem SH.get_push_lt {h : SH} {j : Nat} {c : SCL} (l : j < h.n) : (h.push c).get j = h.get j := by
  rw [SH.get_of (show j < (h.push c).n from Nat.lt_succ_of_lt l), SH.get_of l]
  exact str_ne c 40 h.n j h.t (by omega)
theorem smk_eq {c : SCL} {h : SH} : smk c h = if h.m < 1000000000 then .ok (.ref h.n) (h.push c) else .no := by
  unfold smk
  by_cases q : h.m < 1000000000
  · have e : Nat.blt h.m 1000000000 = true := by simp only [Nat.blt, Nat.ble_eq]; omega
    rw [e, if_pos q]
    simp only [fN_eq]
    rfl
  · have e : Nat.blt h.m 1000000000 = false := by
      cases r : Nat.blt h.m 1000000000 with
      | false => rfl
      | true => exact absurd (by simp only [Nat.blt, Nat.ble_eq] at r; omega) q
    rw [e, if_neg q]

/-! ### steps -/
structure Stp (s : List Int) (ρ : Nat → Nat) (hs : SH) (hc : EH) (ρ' : Nat → Nat) (hs' : SH) (hc' : EH) : Prop where
  le : hs.n ≤ hs'.n
  ag : ∀ i, i < hs.n → ρ' i = ρ i
  sim : Sim s ρ' hs' hc'
  len : hc.n ≤ hc'.n
  old : ∀ j, j < hc.n → (∀ i, i < hs.n → ρ i ≠ j) → hc'.get j = hc.get j
  new : ∀ i, hs.n ≤ i → i < hs'.n → hc.n ≤ ρ' i
  grow : hc'.n + hs.m ≤ hc.n + hs'.m
section
variable {s : List Int} {ρ ρ' ρ'' : Nat → Nat} {hs hs' hs'' : SH} {hc hc' hc'' : EH}
theorem Sim.lt (m : Sim s ρ hs hc) {i : Nat} (hi : i < hs.n) : ρ i < hc.n := by
  obtain ⟨c, c', _, e, _⟩ := m.cell i hi
  exact EH.get_lt e
theorem Stp.refl (m : Sim s ρ hs hc) : Stp s ρ hs hc ρ hs hc := ⟨Nat.le_refl _, fun _ _ => rfl, m, Nat.le_refl _, fun _ _ _ => rfl, fun i h1 h2 => absurd h1 (by omega), Nat.le_refl _⟩
theorem Stp.trans (a : Stp s ρ hs hc ρ' hs' hc') (b : Stp s ρ' hs' hc' ρ'' hs'' hc'') : Stp s ρ hs hc ρ'' hs'' hc'' where
  le := Nat.le_trans a.le b.le
  ag := fun i hi => (b.ag i (Nat.lt_of_lt_of_le hi a.le)).trans (a.ag i hi)
  sim := b.sim
  len := Nat.le_trans a.len b.len
  old := fun j hj hn => by
    rw [b.old j (Nat.lt_of_lt_of_le hj a.len) fun i hi e => ?_, a.old j hj hn]
    by_cases q : i < hs.n
    · rw [a.ag i q] at e; exact hn i q e
    · have := a.new i (by omega) hi
      omega
  new := fun i h1 h2 => by
    by_cases q : i < hs'.n
    · rw [b.ag i q]; exact a.new i h1 q
    · exact Nat.le_trans a.len (b.new i (by omega) h2)
  grow := by
    have h1 := a.grow
    have h2 := b.grow
    omega
def Okk {α β : Type} (s : List Int) (rel : (Nat → Nat) → Nat → α → β → Prop) (ρ : Nat → Nat) (hs : SH) (hc : EH) (r : SQ α) (rc : R β) : Prop := match r with
  | .no => True
  | .ok a hs' => ∃ b hc' ρ', rc = .ok b hc' ∧ Stp s ρ hs hc ρ' hs' hc' ∧ rel ρ' hs'.n a b
theorem Okk.bind {α β γ δ : Type} {rel : (Nat → Nat) → Nat → α → β → Prop} {rel2 : (Nat → Nat) → Nat → γ → δ → Prop} {r : SQ α} {rc : R β} {f : α → SH → SQ γ} {g : β → EH → R δ} (h : Okk s rel ρ hs hc r rc)
    (k : ∀ a b ρ' hs' hc', Stp s ρ hs hc ρ' hs' hc' → rel ρ' hs'.n a b → Okk s rel2 ρ' hs' hc' (f a hs') (g b hc')) : Okk s rel2 ρ hs hc (r.bind f) (rc.bind g) := by
  cases r with
  | no => trivial
  | ok a h1 =>
    obtain ⟨b, hc', ρ', rfl, st, rl⟩ := h
    have q := k a b ρ' h1 hc' st rl
    show Okk s rel2 ρ hs hc (f a h1) (g b hc')
    revert q
    cases f a h1 with
    | no => intro _; trivial
    | ok c h2 =>
      rintro ⟨d, hc2, ρ2, e, st2, rl2⟩
      exact ⟨d, hc2, ρ2, e, st.trans st2, rl2⟩
theorem Okk.here {α β : Type} {rel : (Nat → Nat) → Nat → α → β → Prop} (m : Sim s ρ hs hc) {a : α} {b : β} (r : rel ρ hs.n a b) : Okk s rel ρ hs hc (.ok a hs) (.ok b hc) := ⟨b, hc, ρ, rfl, Stp.refl m, r⟩
abbrev rV (s : List Int) : (Nat → Nat) → Nat → SV → EV → Prop := fun ρ n a b => SR s ρ n a b
abbrev rVs (s : List Int) : (Nat → Nat) → Nat → List SV → List EV → Prop := fun ρ n a b => SRs s ρ n a b
abbrev rEq {α : Type} : (Nat → Nat) → Nat → α → α → Prop := fun _ _ a b => a = b
/-- a new cell -/
theorem Sim.mkc (m : Sim s ρ hs hc) {c : SCL} {c' : CL} (r : SCr s ρ hs.n c c') : Okk s (rV s) ρ hs hc (smk c hs) (mkC c' hc) := by
  rw [smk_eq, mk_eq]
  by_cases q : hs.m < 1000000000
  · rw [if_pos q, if_pos (by have := m.le2; omega)]
    have ag : ∀ i, i < hs.n → (fun i => if i = hs.n then hc.n else ρ i) i = ρ i := fun i hi => if_neg (by omega)
    have at_ : (fun i => if i = hs.n then hc.n else ρ i) hs.n = hc.n := if_pos rfl
    refine ⟨_, _, fun i => if i = hs.n then hc.n else ρ i, rfl, ⟨Nat.le_succ _, ag, ⟨?_, ?_, ?_, ?_, ?_⟩, Nat.le_succ _, ?_, ?_, ?_⟩, ?_⟩
    · intro i j hi hj e
      have hi : i < hs.n + 1 := hi
      have hj : j < hs.n + 1 := hj
      by_cases h1 : i = hs.n
      · by_cases h2 : j = hs.n
        · omega
        · simp only [if_pos h1, if_neg h2] at e
          have := m.lt (i := j) (by omega)
          omega
      · by_cases h2 : j = hs.n
        · simp only [if_neg h1, if_pos h2] at e
          have := m.lt (i := i) (by omega)
          omega
        · simp only [if_neg h1, if_neg h2] at e
          exact m.inj i j (by omega) (by omega) e
    · intro i hi
      have hi : i < hs.n + 1 := hi
      by_cases h1 : i = hs.n
      · subst h1
        refine ⟨c, c', SH.get_push_same (by have := m.le1; omega), ?_, r.mono (Nat.le_succ _) ag⟩
        rw [if_pos rfl]
        exact EH.get_push_same (by have := m.le2; omega)
      · obtain ⟨d, d', e1, e2, e3⟩ := m.cell i (by omega)
        have hi' : i < hs.n := by omega
        refine ⟨d, d', by rw [SH.get_push_lt hi']; exact e1, ?_, e3.mono (Nat.le_succ _) ag⟩
        rw [if_neg h1, EH.get_push_lt (m.lt hi')]
        exact e2
    · show hs.n + 1 ≤ hs.m + 1
      have := m.le1
      omega
    · show hc.n + 1 ≤ hs.m + 1
      have := m.le2
      omega
    · show hs.m + 1 ≤ 1000000000
      omega
    · intro j hj _
      exact EH.get_push_lt hj
    · intro i h1 h2
      have h2 : i < hs.n + 1 := h2
      have : i = hs.n := by omega
      simp only [this, if_pos]
      exact Nat.le_refl _
    · show hc.n + 1 + hs.m ≤ hc.n + (hs.m + 1)
      omega
    · show SR s _ (hs.n + 1) (.ref hs.n) (.ref hc.n)
      have k : SR s (fun i => if i = hs.n then hc.n else ρ i) (hs.n + 1) (.ref hs.n) (.ref ((fun i => if i = hs.n then hc.n else ρ i) hs.n)) := .ref (Nat.lt_succ_self _)
      rw [at_] at k
      exact k
  · rw [if_neg q]
    trivial
/-- a cell is written -/
theorem Sim.write (m : Sim s ρ hs hc) {i : Nat} (hi : i < hs.n) {c : SCL} {c' : CL} (r : SCr s ρ hs.n c c') : Stp s ρ hs hc ρ (hs.put i c) (hc.put (ρ i) c') where
  le := Nat.le_refl _
  ag := fun _ _ => rfl
  sim := ⟨m.inj, fun j hj => by
    have hj : j < hs.n := hj
    by_cases h1 : j = i
    · rw [h1]
      exact ⟨c, c', SH.get_put_same hi (by have := m.le1; have := m.le3; omega), EH.get_put_same (m.lt hi) (by have := m.le2; have := m.le3; omega), r⟩
    · obtain ⟨d, d', e1, e2, e3⟩ := m.cell j hj
      exact ⟨d, d', by rw [SH.get_put_ne h1]; exact e1, by rw [EH.get_put_ne fun z => h1 (m.inj j i hj hi z)]; exact e2, e3⟩, m.le1, m.le2, m.le3⟩
  len := Nat.le_refl _
  old := fun j hj hn => EH.get_put_ne fun z => hn i hi z.symm
  new := fun i h1 h2 => absurd h1 (by have : i < hs.n := h2; omega)
  grow := Nat.le_refl _
theorem Sim.at (m : Sim s ρ hs hc) {i : Nat} {c : SCL} (e : hs.get i = some c) : ∃ c', hc.get (ρ i) = some c' ∧ SCr s ρ hs.n c c' := by
  obtain ⟨d, d', e1, e2, e3⟩ := m.cell i (SH.get_lt e)
  rw [e] at e1
  cases e1
  exact ⟨d', e2, e3⟩
end
end EM
end
section
set_option Elab.async false
set_option linter.all false
set_option maxRecDepth 100000
/-! F2: operators over unknown numbers. -/
namespace EM
open PySem

/-! ### data -/
section
variable (s : List Int)
mutual
inductive DR : DD → PyData → Prop
  | non : DR .non .none
  | bl (b : Bool) : DR (.bl b) (.bool b)
  | int {x : AI} {i : Int} : i = x.val s → DR (.int x) (.int i)
  | str (z : PySem.Str) : DR (.str z) (.str z)
  | tup {xs : List DD} {ys : List PyData} : DRs xs ys → DR (.tup xs) (.tuple ys)
  | lst {xs : List DD} {ys : List PyData} : DRs xs ys → DR (.lst xs) (.list ys)
inductive DRs : List DD → List PyData → Prop
  | nil : DRs [] []
  | cons {x : DD} {y : PyData} {xs : List DD} {ys : List PyData} : DR x y → DRs xs ys → DRs (x :: xs) (y :: ys)
end
end
section
variable {s : List Int} {bs : List (Int × Int)} {ρ : Nat → Nat} {n : Nat} {hs : SH} {hc : EH}
/-- read data: it may be laid, and is not deep -/
def Fine (f : Nat) (d : PyData) : Prop := PyData.canLay0 d = true ∧ d.depth ≤ f
theorem srds {f : Nat} {g : SV → Option DD} {g' : EV → Option PyData} (hg : ∀ v d w, g v = some d → SR s ρ n v w → ∃ e, g' w = some e ∧ DR s d e ∧ Fine f e) : ∀ {xs : List SV} {ds : List DD} {ys : List EV}, mapO g xs = some ds → SRs s ρ n xs ys →
    ∃ es, mapO g' ys = some es ∧ DRs s ds es ∧ PyData.canLayAll0 es = true ∧ PyData.depthAll es ≤ f
  | [], ds, ys, e, r => by
    cases r
    cases e
    exact ⟨[], rfl, .nil, by simp [PyData.canLayAll0], by simp [PyData.depthAll]⟩
  | x :: xs, ds, ys, e, r => by
    cases r with
    | cons r rs =>
      unfold mapO at e
      split at e
      · rename_i d ed
        split at e
        · rename_i ds' eds
          cases e
          obtain ⟨e1, h1, h2, h3, h4⟩ := hg x d _ ed r
          obtain ⟨es, h5, h6, h7, h8⟩ := srds hg eds rs
          refine ⟨e1 :: es, ?_, .cons h2 h6, ?_, ?_⟩
          · unfold mapO
            rw [h1, h5]
          · rw [PyData.canLayAll0, h3, h7]; rfl
          · rw [PyData.depthAll]
            exact Nat.max_le.mpr ⟨h4, h8⟩
        · cases e
      · cases e
theorem srd_ok (m : Sim s ρ hs hc) : ∀ (f : Nat) (v : SV) (d : DD) (w : EV), srd f hs v = some d → SR s ρ hs.n v w → ∃ e, rd f hc w = some e ∧ DR s d e ∧ Fine f e
  | 0, v, d, w, e, r => by cases e
  | f + 1, v, d, w, e, r => by
    unfold srd at e
    cases r with
    | non => cases e; exact ⟨_, rfl, .non, by simp [PyData.canLay0], by simp [PyData.depth]⟩
    | bl b => cases e; exact ⟨_, rfl, .bl b, by simp [PyData.canLay0], by simp [PyData.depth]⟩
    | int h => cases e; exact ⟨_, rfl, .int h, by simp [PyData.canLay0], by simp [PyData.depth]⟩
    | str z =>
      simp only at e
      split at e
      · rename_i ez
        cases e
        exact ⟨_, rfl, .str z, ez, by simp [PyData.depth]⟩
      · cases e
    | tup rs =>
      simp only at e
      split at e
      · rename_i ds ed
        cases e
        obtain ⟨es, h1, h2, h3, h4⟩ := srds (fun v d w => srd_ok m f v d w) ed rs
        refine ⟨.tuple es, ?_, .tup h2, by simpa [PyData.canLay0] using h3, by simp [PyData.depth]; omega⟩
        unfold rd
        simp only [h1]
      · cases e
    | ref hi =>
      simp only at e
      split at e
      · rename_i xs lk ec
        obtain ⟨c', e2, rc⟩ := m.at ec
        cases rc with
        | lst rs =>
          split at e
          · rename_i ds ed
            cases e
            obtain ⟨es, h1, h2, h3, h4⟩ := srds (fun v d w => srd_ok m f v d w) ed rs
            refine ⟨.list es, ?_, .lst h2, by simpa [PyData.canLay0] using h3, by simp [PyData.depth]; omega⟩
            unfold rd
            simp only [e2, h1]
          · cases e
      · cases e
theorem Fine.shaped {f : Nat} {d : PyData} (h : Fine f d) (hf : f ≤ 64) : SeqAt.shaped d = true := by
  unfold SeqAt.shaped
  rw [h.1]
  have : decide (d.depth ≤ 64) = true := decide_eq_true (Nat.le_trans h.2 hf)
  rw [this]
  rfl
mutual
theorem seqd_ok (hB : Bnd s bs) : ∀ (d e : DD) (b : Bool) (p q : PyData), seqd bs d e = some b → DR s d p → DR s e q → PyData.eqv p q = b := by
  intro d e b p q h r1 r2
  match r1, r2 with
  | .non, .non => unfold seqd at h; cases h; simp [PyData.eqv]
  | .bl a, .bl c => unfold seqd at h; cases h; simp [PyData.eqv]
  | .int e1, .int e2 =>
    unfold seqd at h
    rw [eq_sub hB h, e1, e2, PyData.eqv, Bool.beq_eq_decide_eq]
  | .str a, .str c =>
    unfold seqd at h
    cases h
    rw [PyData.eqv, Bool.beq_eq_decide_eq]
  | .tup a, .tup c =>
    unfold seqd at h
    rw [PyData.eqv]
    exact seqds_ok hB _ _ _ _ _ h a c
  | .lst a, .lst c =>
    unfold seqd at h
    rw [PyData.eqv]
    exact seqds_ok hB _ _ _ _ _ h a c
  | .non, .int _ => unfold seqd at h; cases h; simp [PyData.eqv]
  | .int _, .non => unfold seqd at h; cases h; simp [PyData.eqv]
  | .tup _, .lst _ => unfold seqd at h; cases h; simp [PyData.eqv]
  | .lst _, .tup _ => unfold seqd at h; cases h; simp [PyData.eqv]
  | .non, .tup _ => unfold seqd at h; cases h; simp [PyData.eqv]
  | .tup _, .non => unfold seqd at h; cases h; simp [PyData.eqv]
  | .int _, .tup _ => unfold seqd at h; cases h; simp [PyData.eqv]
  | .tup _, .int _ => unfold seqd at h; cases h; simp [PyData.eqv]
  | .int _, .str _ => unfold seqd at h; cases h; simp [PyData.eqv]
  | .str _, .int _ => unfold seqd at h; cases h; simp [PyData.eqv]
  | .non, .bl _ => unfold seqd at h; cases h
  | .non, .str _ => unfold seqd at h; cases h
  | .non, .lst _ => unfold seqd at h; cases h
  | .bl _, .non => unfold seqd at h; cases h
  | .bl _, .int _ => unfold seqd at h; cases h
  | .bl _, .str _ => unfold seqd at h; cases h
  | .bl _, .tup _ => unfold seqd at h; cases h
  | .bl _, .lst _ => unfold seqd at h; cases h
  | .int _, .bl _ => unfold seqd at h; cases h
  | .int _, .lst _ => unfold seqd at h; cases h
  | .str _, .non => unfold seqd at h; cases h
  | .str _, .bl _ => unfold seqd at h; cases h
  | .str _, .tup _ => unfold seqd at h; cases h
  | .str _, .lst _ => unfold seqd at h; cases h
  | .tup _, .bl _ => unfold seqd at h; cases h
  | .tup _, .str _ => unfold seqd at h; cases h
  | .lst _, .non => unfold seqd at h; cases h
  | .lst _, .bl _ => unfold seqd at h; cases h
  | .lst _, .int _ => unfold seqd at h; cases h
  | .lst _, .str _ => unfold seqd at h; cases h
theorem seqds_ok (hB : Bnd s bs) : ∀ (d e : List DD) (b : Bool) (p q : List PyData), seqds bs d e = some b → DRs s d p → DRs s e q → PyData.eqvAll p q = b := by
  intro d e b p q h r1 r2
  match r1, r2 with
  | .nil, .nil => unfold seqds at h; cases h; simp [PyData.eqvAll]
  | .nil, .cons _ _ => unfold seqds at h; cases h; simp [PyData.eqvAll]
  | .cons _ _, .nil => unfold seqds at h; cases h; simp [PyData.eqvAll]
  | .cons a as, .cons c cs =>
    unfold seqds at h
    rw [PyData.eqvAll]
    split at h
    · rename_i e1
      rw [seqd_ok hB _ _ _ _ _ e1 a c, seqds_ok hB _ _ _ _ _ h as cs]
      rfl
    · rename_i e1
      cases h
      rw [seqd_ok hB _ _ _ _ _ e1 a c]
      rfl
    · cases h
end
theorem seqE_ok (hB : Bnd s bs) (m : Sim s ρ hs hc) {x y : SV} {x' y' : EV} {b : Bool} (h : seqE bs hs x y = some b) (rx : SR s ρ hs.n x x') (ry : SR s ρ hs.n y y') : eqE hc x' y' = some b := by
  unfold seqE at h
  split at h
  · rename_i d e1
    split at h
    · rename_i e e2
      obtain ⟨p, h1, h2, h3⟩ := srd_ok m _ _ _ _ e1 rx
      obtain ⟨q, h4, h5, h6⟩ := srd_ok m _ _ _ _ e2 ry
      unfold eqE
      simp only [h1, h4, h3.shaped (by decide : 20 ≤ 64), h6.shaped (by decide : 20 ≤ 64), seqd_ok hB _ _ _ _ _ h h2 h5]
    · cases h
  · cases h

/-! ### order -/
mutual
theorem salk_ok : ∀ (d e : DD) (p q : PyData), salk d e = true → DR s d p → DR s e q → W.alike p q = true := by
  intro d e p q h r1 r2
  match r1, r2 with
  | .int _, .int _ => simp [W.alike]
  | .tup a, .tup c =>
    unfold salk at h
    rw [W.alike]
    exact salks_ok _ _ _ _ h a c
  | .non, r => cases r <;> (unfold salk at h; cases h)
  | .bl _, r => cases r <;> (unfold salk at h; cases h)
  | .str _, r => cases r <;> (unfold salk at h; cases h)
  | .lst _, r => cases r <;> (unfold salk at h; cases h)
  | .int _, .non => unfold salk at h; cases h
  | .int _, .bl _ => unfold salk at h; cases h
  | .int _, .str _ => unfold salk at h; cases h
  | .int _, .tup _ => unfold salk at h; cases h
  | .int _, .lst _ => unfold salk at h; cases h
  | .tup _, .non => unfold salk at h; cases h
  | .tup _, .bl _ => unfold salk at h; cases h
  | .tup _, .str _ => unfold salk at h; cases h
  | .tup _, .int _ => unfold salk at h; cases h
  | .tup _, .lst _ => unfold salk at h; cases h
theorem salks_ok : ∀ (d e : List DD) (p q : List PyData), salks d e = true → DRs s d p → DRs s e q → W.alikeAll p q = true := by
  intro d e p q h r1 r2
  match r1, r2 with
  | .nil, .nil => simp [W.alikeAll]
  | .nil, .cons _ _ => simp [W.alikeAll]
  | .cons _ _, .nil => simp [W.alikeAll]
  | .cons a as, .cons c cs =>
    unfold salks at h
    split at h
    · rename_i e1
      rw [W.alikeAll, salk_ok _ _ _ _ e1 a c, salks_ok _ _ _ _ h as cs]
      rfl
    · cases h
end
mutual
theorem slt_ok (hB : Bnd s bs) : ∀ (d e : DD) (b : Bool) (p q : PyData), slt bs d e = some b → W.alike p q = true → DR s d p → DR s e q → W.dataLt p q = b := by
  intro d e b p q h ha r1 r2
  match r1, r2 with
  | .int e1, .int e2 =>
    unfold slt at h
    rw [lt_sub hB h, e1, e2, W.dataLt_int]
  | .tup a, .tup c =>
    unfold slt at h
    rw [W.alike] at ha
    rw [W.dataLt_tuple]
    exact slts_ok hB _ _ _ _ _ h ha a c
  | .non, r => cases r <;> (unfold slt at h; cases h)
  | .bl _, r => cases r <;> (unfold slt at h; cases h)
  | .str _, r => cases r <;> (unfold slt at h; cases h)
  | .lst _, r => cases r <;> (unfold slt at h; cases h)
  | .int _, .non => unfold slt at h; cases h
  | .int _, .bl _ => unfold slt at h; cases h
  | .int _, .str _ => unfold slt at h; cases h
  | .int _, .tup _ => unfold slt at h; cases h
  | .int _, .lst _ => unfold slt at h; cases h
  | .tup _, .non => unfold slt at h; cases h
  | .tup _, .bl _ => unfold slt at h; cases h
  | .tup _, .str _ => unfold slt at h; cases h
  | .tup _, .int _ => unfold slt at h; cases h
  | .tup _, .lst _ => unfold slt at h; cases h
theorem slts_ok (hB : Bnd s bs) : ∀ (d e : List DD) (b : Bool) (p q : List PyData), slts bs d e = some b → W.alikeAll p q = true → DRs s d p → DRs s e q → PyProof.Rows.lexLt PyProof.Rows.itemOrd (W.keyToksAll p) (W.keyToksAll q) = b := by
  intro d e b p q h ha r1 r2
  match r1, r2 with
  | .nil, .nil =>
    unfold slts at h
    cases h
    exact PyProof.Rows.lex_irrefl _
  | .nil, .cons _ _ => unfold slts at h; cases h
  | .cons _ _, .nil => unfold slts at h; cases h
  | .cons a as, .cons c cs =>
    obtain ⟨ha1, ha2⟩ := W.alike_all_cons ha
    unfold slts at h
    split at h
    · rename_i e1
      rw [W.dataLt_all_yes ha1 (seqd_ok hB _ _ _ _ _ e1 a c)]
      exact slts_ok hB _ _ _ _ _ h ha2 as cs
    · rename_i e1
      rw [W.dataLt_all_no ha1 (seqd_ok hB _ _ _ _ _ e1 a c)]
      exact slt_ok hB _ _ _ _ _ h ha1 a c
    · cases h
end
/-- items with their data -/
inductive PRs (s : List Int) (ρ : Nat → Nat) (n : Nat) : List (DD × SV) → List (PyData × EV) → Prop
  | nil : PRs s ρ n [] []
  | cons {d : DD} {v : SV} {p : PyData} {w : EV} {r : List (DD × SV)} {r' : List (PyData × EV)} : DR s d p → SR s ρ n v w → PRs s ρ n r r' → PRs s ρ n ((d, v) :: r) ((p, w) :: r')
theorem PRs.zip : ∀ {ds : List DD} {ps : List PyData} {xs : List SV} {ys : List EV}, DRs s ds ps → SRs s ρ n xs ys → PRs s ρ n (ds.zip xs) (ps.zip ys)
  | _, _, _, _, .nil, _ => by simp; exact .nil
  | _, _, _, _, .cons _ _, .nil => by simp; exact .nil
  | _, _, _, _, .cons a as, .cons b bs => by
    simp only [List.zip_cons_cons]
    exact .cons a b (PRs.zip as bs)
theorem PRs.snd {r : List (DD × SV)} {r' : List (PyData × EV)} (h : PRs s ρ n r r') : SRs s ρ n (r.map Prod.snd) (r'.map Prod.snd) := by
  induction h with
  | nil => exact .nil
  | cons _ b _ ih => exact .cons b ih
theorem sins_ok (hB : Bnd s bs) {x : DD × SV} {x' : PyData × EV} (rx : DR s x.1 x'.1) (rv : SR s ρ n x.2 x'.2) {l : List (DD × SV)} {l' : List (PyData × EV)} (r : PRs s ρ n l l') :
    ∀ {o : List (DD × SV)}, sins bs x l = some o → (∀ y ∈ l', W.alike y.1 x'.1 = true) → PRs s ρ n o (ins x' l') := by
  induction r with
  | nil =>
    intro o h ha
    cases h
    exact .cons rx rv .nil
  | cons a b c ih =>
    rename_i d v p w r r'
    intro o h ha
    unfold sins at h
    have hp := ha (p, w) (by simp)
    split at h
    · rename_i e1
      split at h
      · rename_i r2 e2
        cases h
        have h2 := ih e2 (fun y hy => ha y (by simp [hy]))
        unfold ins
        rw [show W.dataLt p x'.1 = true from slt_ok hB _ _ _ _ _ e1 hp a rx]
        exact .cons a b h2
      · cases h
    · rename_i e1
      cases h
      unfold ins
      rw [show W.dataLt p x'.1 = false from slt_ok hB _ _ _ _ _ e1 hp a rx]
      exact .cons rx rv (.cons a b c)
    · cases h
theorem ins_mem (x : PyData × EV) : ∀ (l : List (PyData × EV)), ∀ y ∈ ins x l, y = x ∨ y ∈ l
  | [], y, h => by
    unfold ins at h
    exact .inl (by simpa using h)
  | z :: r, y, h => by
    unfold ins at h
    split at h
    · rcases List.mem_cons.mp h with h | h
      · exact .inr (by simp [h])
      · rcases ins_mem x r y h with h | h
        · exact .inl h
        · exact .inr (by simp [h])
    · rcases List.mem_cons.mp h with h | h
      · exact .inl h
      · exact .inr h
theorem isort_mem : ∀ (l : List (PyData × EV)), ∀ y ∈ isort l, y ∈ l
  | [], y, h => h
  | x :: r, y, h => by
    rcases ins_mem x (isort r) y h with h | h
    · simp [h]
    · exact List.mem_cons_of_mem _ (isort_mem r y h)
theorem sisort_ok (hB : Bnd s bs) {l : List (DD × SV)} {l' : List (PyData × EV)} (r : PRs s ρ n l l') : ∀ {o : List (DD × SV)}, sisort bs l = some o → (∀ y ∈ l', ∀ z ∈ l', W.alike y.1 z.1 = true) → PRs s ρ n o (isort l') := by
  induction r with
  | nil =>
    intro o h ha
    cases h
    exact .nil
  | cons a b c ih =>
    rename_i d v p w r r'
    intro o h ha
    unfold sisort at h
    split at h
    · rename_i r2 e2
      have ih := ih e2 (fun y hy z hz => ha y (by simp [hy]) z (by simp [hz]))
      exact sins_ok hB (x := (d, v)) (x' := (p, w)) a b ih h (fun y hy => ha y (List.mem_cons_of_mem _ (isort_mem _ y hy)) _ (by simp))
    · cases h
theorem drs_get : ∀ {ds : List DD} {ps : List PyData}, DRs s ds ps → ∀ p ∈ ps, ∃ d ∈ ds, DR s d p
  | _, _, .nil, p, h => by cases h
  | _, _, .cons a as, p, h => by
    rcases List.mem_cons.mp h with rfl | h
    · exact ⟨_, by simp, a⟩
    · obtain ⟨d, h1, h2⟩ := drs_get as p h
      exact ⟨d, by simp [h1], h2⟩
theorem ssortE_ok (hB : Bnd s bs) (m : Sim s ρ hs hc) {xs ys : List SV} {zs : List EV} (h : ssortE bs hs xs = some ys) (r : SRs s ρ hs.n xs zs) : ∃ ws, sortE hc zs = some ws ∧ SRs s ρ hs.n ys ws := by
  unfold ssortE at h
  split at h
  · rename_i ds e1
    obtain ⟨ps, h1, h2, h3, h4⟩ := srds (fun v d w => srd_ok m 20 v d w) e1 r
    split at h
    · rename_i e2
      split at h
      · rename_i o e3
        cases h
        unfold ssortD at e2
        split at e2
        · rename_i e4
          have hal : ∀ p ∈ ps, ∀ q ∈ ps, W.alike p q = true := fun p hp q hq => by
            obtain ⟨d, d1, d2⟩ := drs_get h2 p hp
            obtain ⟨e, e5, e6⟩ := drs_get h2 q hq
            exact salk_ok _ _ _ _ (List.all_eq_true.mp (List.all_eq_true.mp e4 d d1) e e5) d2 e6
          have hall : (ps.all fun d => ps.all fun e => W.alike d e) = true := List.all_eq_true.mpr fun p hp => List.all_eq_true.mpr fun q hq => hal p hp q hq
          have hsh : ps.all SeqAt.shaped = true := by
            rw [List.all_eq_true]
            have key : ∀ (l : List PyData), PyData.canLayAll0 l = true → PyData.depthAll l ≤ 20 → ∀ p ∈ l, SeqAt.shaped p = true := by
              intro l
              induction l with
              | nil => intro _ _ p hp; cases hp
              | cons a l ih =>
                intro c1 c2 p hp
                rw [PyData.canLayAll0, Bool.and_eq_true] at c1
                rw [PyData.depthAll] at c2
                have := Nat.max_le.mp c2
                rcases List.mem_cons.mp hp with rfl | hp
                · exact Fine.shaped ⟨c1.1, this.1⟩ (by decide)
                · exact ih c1.2 this.2 p hp
            exact key ps h3 h4
          have hso : sortD ps = true := by
            unfold sortD
            rw [hall, hsh]
            simp only
            split
            · rfl
            · rename_i hne
              split at e2
              · rename_i e5
                exfalso
                have : ps.all neT = true := by
                  rw [List.all_eq_true]
                  intro p hp
                  obtain ⟨d, d1, d2⟩ := drs_get h2 p hp
                  have := List.all_eq_true.mp e5 d d1
                  cases d2 with
                  | tup rs =>
                    cases rs with
                    | nil => cases this
                    | cons _ _ => rfl
                  | _ => cases this
                rw [this] at hne
                cases hne
              · rw [List.all_eq_true]
                intro p hp
                obtain ⟨d, d1, d2⟩ := drs_get h2 p hp
                have := List.all_eq_true.mp e2 d d1
                cases d2 with
                | int _ => rfl
                | _ => cases this
          unfold sortE
          simp only [h1, hso]
          exact ⟨_, rfl, (sisort_ok hB (PRs.zip h2 r) e3 (fun y hy z hz => hal _ (List.of_mem_zip hy).1 _ (List.of_mem_zip hz).1)).snd⟩
        · cases e2
      · cases h
    · cases h
  · cases h

/-! ### keys -/
mutual
theorem skeq_ok (hB : Bnd s bs) : ∀ (x y : SV) (b : Bool) (x' y' : EV), skeq bs x y = some b → SR s ρ n x x' → SR s ρ n y y' → keq x' y' = b := by
  intro x y b x' y' h r1 r2
  match r1, r2 with
  | .int e1, .int e2 =>
    unfold skeq at h
    rw [eq_sub hB h, e1, e2, keq, ieq_eq]
  | .tup a, .tup c =>
    unfold skeq at h
    rw [keq]
    exact skeqs_ok hB _ _ _ _ _ h a c
  | .non, r => cases r <;> (unfold skeq at h; cases h)
  | .bl _, r => cases r <;> (unfold skeq at h; cases h)
  | .str _, r => cases r <;> (unfold skeq at h; cases h)
  | .ref _, r => cases r <;> (unfold skeq at h; cases h)
  | .int _, .non => unfold skeq at h; cases h
  | .int _, .bl _ => unfold skeq at h; cases h
  | .int _, .str _ => unfold skeq at h; cases h
  | .int _, .tup _ => unfold skeq at h; cases h
  | .int _, .ref _ => unfold skeq at h; cases h
  | .tup _, .non => unfold skeq at h; cases h
  | .tup _, .bl _ => unfold skeq at h; cases h
  | .tup _, .str _ => unfold skeq at h; cases h
  | .tup _, .int _ => unfold skeq at h; cases h
  | .tup _, .ref _ => unfold skeq at h; cases h
theorem skeqs_ok (hB : Bnd s bs) : ∀ (x y : List SV) (b : Bool) (x' y' : List EV), skeqs bs x y = some b → SRs s ρ n x x' → SRs s ρ n y y' → keqs x' y' = b := by
  intro x y b x' y' h r1 r2
  match r1, r2 with
  | .nil, .nil => unfold skeqs at h; cases h; rfl
  | .nil, .cons _ _ => unfold skeqs at h; cases h; rfl
  | .cons _ _, .nil => unfold skeqs at h; cases h; rfl
  | .cons a as, .cons c cs =>
    unfold skeqs at h
    rw [keqs]
    split at h
    · rename_i e1
      rw [skeq_ok hB _ _ _ _ _ e1 a c]
      exact skeqs_ok hB _ _ _ _ _ h as cs
    · rename_i e1
      cases h
      rw [skeq_ok hB _ _ _ _ _ e1 a c]
    · cases h
end
theorem skok_ok : ∀ (f : Nat) (x : SV) (x' : EV), skok f x = true → SR s ρ n x x' → kok f x' = true
  | 0, x, x', h, r => by cases h
  | f + 1, x, x', h, r => by
    unfold skok at h
    cases r with
    | int _ => rfl
    | tup rs =>
      simp only at h
      show (_ : List EV).all (kok f) = true
      rename_i xs ys
      have key : ∀ (xs : List SV) (ys : List EV), xs.all (skok f) = true → SRs s ρ n xs ys → ys.all (kok f) = true := by
        intro xs
        induction xs with
        | nil => intro ys _ r; cases r; rfl
        | cons x xs ih =>
          intro ys h r
          cases r with
          | cons r rs =>
            rw [List.all_cons, Bool.and_eq_true] at h
            rw [List.all_cons, skok_ok f _ _ h.1 r, ih _ h.2 rs]
            rfl
      exact key xs ys h rs
    | _ => cases h
theorem skT_ok {x : SV} {x' : EV} (h : skT x = true) (r : SR s ρ n x x') : kT x' = true := by
  unfold skT at h
  split at h
  · have := skok_ok 6 _ _ h r
    cases r
    exact this
  · cases h
theorem sdget_ok (hB : Bnd s bs) {x : SV} {x' : EV} (rx : SR s ρ n x x') : ∀ {kvs : List (SV × SV)} {kvs' : List (EV × EV)} {o : Option SV}, sdget bs kvs x = some o → SKs s ρ n kvs kvs' → match o with
    | some v => ∃ v', dget kvs' x' = some v' ∧ SR s ρ n v v'
    | none => dget kvs' x' = none
  | _, _, o, h, .nil => by
    cases h
    rfl
  | _, _, o, h, .cons a b c => by
    unfold sdget at h
    split at h
    · rename_i e1
      cases h
      refine ⟨_, ?_, b⟩
      unfold dget
      rw [skeq_ok hB _ _ _ _ _ e1 a rx]
    · rename_i e1
      have ih := sdget_ok hB rx h c
      unfold dget
      rw [skeq_ok hB _ _ _ _ _ e1 a rx]
      exact ih
    · cases h
theorem sdput_ok (hB : Bnd s bs) {x y : SV} {x' y' : EV} (rx : SR s ρ n x x') (ry : SR s ρ n y y') : ∀ {kvs : List (SV × SV)} {kvs' : List (EV × EV)} {o : List (SV × SV)}, sdput bs kvs x y = some o → SKs s ρ n kvs kvs' → SKs s ρ n o (dput kvs' x' y')
  | _, _, o, h, .nil => by
    cases h
    exact .cons rx ry .nil
  | _, _, o, h, .cons a b c => by
    unfold sdput at h
    split at h
    · rename_i e1
      cases h
      unfold dput
      rw [skeq_ok hB _ _ _ _ _ e1 a rx]
      exact .cons a ry c
    · rename_i e1
      split at h
      · rename_i r2 e2
        cases h
        unfold dput
        rw [skeq_ok hB _ _ _ _ _ e1 a rx]
        exact .cons a b (sdput_ok hB rx ry e2 c)
      · cases h
    · cases h
end
end EM
end
section
set_option Elab.async false
set_option linter.all false
set_option maxRecDepth 100000
/-! F3: operators, built-ins, walks over unknown numbers. -/
namespace EM
open PySem
section
variable {s : List Int} {bs : List (Int × Int)} {ρ : Nat → Nat} {n : Nat} {hs : SH} {hc : EH}
/-! ### results -/
theorem okI (m : Sim s ρ hs hc) {x : AI} {i : Int} (h : i = x.val s) : Okk s (rV s) ρ hs hc (.ok (.int x) hs) (retI i hc) := by
  rw [retI, fI_eq]
  exact Okk.here m (.int h)
theorem okSI (m : Sim s ρ hs hc) {x : AI} {i : Int} (h : i = x.val s) : Okk s (rV s) ρ hs hc (sint x hs) (retI i hc) := okI m h
theorem okB (m : Sim s ρ hs hc) (b : Bool) : Okk s (rV s) ρ hs hc (sretB b hs) (retB b hc) := Okk.here m (.bl b)
theorem okV (m : Sim s ρ hs hc) {x : SV} {y : EV} (h : SR s ρ hs.n x y) : Okk s (rV s) ρ hs hc (.ok x hs) (.ok y hc) := Okk.here m h
theorem okNo {α β : Type} {rel : (Nat → Nat) → Nat → α → β → Prop} {rc : R β} : Okk s rel ρ hs hc (.no) rc := trivial

theorem bin_ok (m : Sim s ρ hs hc) (op : Operator) {x y : SV} {x' y' : EV} (rx : SR s ρ hs.n x x') (ry : SR s ρ hs.n y y') : Okk s (rV s) ρ hs hc (sbinE op x y hs) (binE op x' y' hc) := by
  unfold sbinE
  split
  · rename_i i
    cases rx with
    | int ei =>
      split
      · rename_i j
        cases ry with
        | int ej =>
          split
          · exact okSI m (by rw [AI.val_add, ei, ej])
          · exact okSI m (by rw [AI.val_sub, ei, ej])
          · split
            · rename_i z
              split
              · rename_i l
                simp only [binE]
                rw [ei, zero_val s z, l]
                exact okSI m (by rw [AI.val_smul, ej])
              · exact okNo
            · split
              · rename_i z
                split
                · rename_i l
                  simp only [binE]
                  rw [ej, zero_val s z, l]
                  cases lim64 _ with
                  | true => exact okSI m (by rw [AI.val_smul, ei, Int.mul_comm])
                  | false => exact okSI m (by rw [AI.val_smul, ei, Int.mul_comm])
                · exact okNo
              · exact okNo
          · split
            · rename_i z
              split
              · rename_i k ek
                split
                · rename_i l
                  split
                  · rename_i d
                    simp only [binE]
                    rw [ej, zero_val s z, ek]
                    simp only [l, fI_eq, divK_eq]
                    refine okI m ?_
                    rw [ei, div_val (by show (0 : Int) < Int.ofNat (k + 1); exact Int.natCast_pos.mpr (Nat.succ_pos _)) d]
                    rfl
                  · exact okNo
                · exact okNo
              · exact okNo
            · exact okNo
          · split
            · rename_i z
              split
              · rename_i k ek
                split
                · rename_i d
                  simp only [binE]
                  rw [ej, zero_val s z, ek]
                  simp only [fI_eq]
                  refine okI m ?_
                  rw [ei, mod_val (by show (0 : Int) < Int.ofNat (k + 1); exact Int.natCast_pos.mpr (Nat.succ_pos _)) d, AI.val_k]
                · exact okNo
              · exact okNo
            · exact okNo
          · exact okNo
      · exact okNo
  · rename_i xs
    cases rx with
    | tup r1 =>
      split
      · rename_i ys
        cases ry with
        | tup r2 =>
          split
          · split
            · exact okNo
            · split
              · rename_i e
                simp only [binE]
                have r := r1.append r2
                have hl := r.length
                cases r1 with
                | cons a b =>
                  simp only
                  rw [hl] at e
                  simp only [List.cons_append] at e r ⊢
                  rw [e]
                  exact okV m (.tup r)
              · exact okNo
          · exact okNo
      · exact okNo
  · rename_i i
    cases rx with
    | ref hi =>
      split
      · rename_i j
        cases ry with
        | ref hj =>
          split
          · split
            · rename_i xs e1
              split
              · rename_i ys e2
                split
                · rename_i e
                  obtain ⟨c1, d1, q1⟩ := m.at e1
                  obtain ⟨c2, d2, q2⟩ := m.at e2
                  cases q1 with
                  | lst r1 =>
                    cases q2 with
                    | lst r2 =>
                      have r := r1.append r2
                      rw [r.length] at e
                      simp only [binE, d1, d2, e]
                      exact m.mkc (.lst r)
                · exact okNo
              · exact okNo
            · exact okNo
          · exact okNo
      · exact okNo
  · exact okNo
theorem any_ok (hB : Bnd s bs) {d : DD} {p : PyData} (rd : DR s d p) : ∀ {ds : List DD} {ps : List PyData} {b : Bool}, sany bs d ds = some b → DRs s ds ps → (ps.any fun z => PyData.eqv z p) = b
  | [], ps, b, h, r => by
    cases r
    cases h
    rfl
  | z :: ds, ps, b, h, r => by
    cases r with
    | cons r rs =>
      unfold sany at h
      rw [List.any_cons]
      split at h
      · rename_i e1
        cases h
        rw [seqd_ok hB _ _ _ _ _ e1 r rd]
        rfl
      · rename_i e1
        rw [seqd_ok hB _ _ _ _ _ e1 r rd, any_ok hB rd h rs]
        rfl
      · cases h
theorem fines {f : Nat} {ps : List PyData} (h1 : PyData.canLayAll0 ps = true) (h2 : PyData.depthAll ps ≤ f) (hf : f ≤ 63) : SeqAt.shaped (.list ps) = true := by
  refine Fine.shaped (f := f + 1) ⟨?_, ?_⟩ (by omega)
  · simpa [PyData.canLay0] using h1
  · simp [PyData.depth]; omega
theorem in_ok (hB : Bnd s bs) (m : Sim s ρ hs hc) {x y : SV} {x' y' : EV} {b : Bool} (h : sinE bs hs x y = some b) (rx : SR s ρ hs.n x x') (ry : SR s ρ hs.n y y') : inE hc x' y' = some b := by
  unfold sinE at h
  split at h
  · rename_i i
    cases ry with
    | ref hi =>
      split at h
      · rename_i kvs lk ec
        obtain ⟨c, e2, q⟩ := m.at ec
        cases q with
        | dct rk =>
          split at h
          · rename_i hk
            split at h
            · rename_i o eo
              cases h
              have q := sdget_ok hB rx eo rk
              simp only [inE, e2, skT_ok hk rx]
              cases o with
              | none => simp only at q; rw [q]; rfl
              | some v =>
                obtain ⟨v', q1, _⟩ := q
                rw [q1]; rfl
            · cases h
          · cases h
      · rename_i ys lk ec
        obtain ⟨c, e2, q⟩ := m.at ec
        cases q with
        | lst rs =>
          split at h
          · rename_i d e3
            split at h
            · rename_i ds e4
              obtain ⟨p, h1, h2, h3⟩ := srd_ok m _ _ _ _ e3 rx
              obtain ⟨ps, h4, h5, h6, h7⟩ := srds (fun v d w => srd_ok m 19 v d w) e4 rs
              simp only [inE, e2, h1, h4, h3.shaped (by decide : 20 ≤ 64), fines h6 h7 (by decide), any_ok hB h2 h h5]
            · cases h
          · cases h
      · cases h
  · cases h
theorem cmp_ok (hB : Bnd s bs) (m : Sim s ρ hs hc) (op : CmpOp) {x y : SV} {x' y' : EV} (rx : SR s ρ hs.n x x') (ry : SR s ρ hs.n y y') : Okk s (rV s) ρ hs hc (scmpE bs op x y hs) (cmpE op x' y' hc) := by
  cases op with
  | Eq =>
    simp only [scmpE]
    split
    · rename_i b e
      simp only [cmpE, seqE_ok hB m e rx ry]
      exact okB m b
    · exact okNo
  | NotEq =>
    simp only [scmpE]
    split
    · rename_i b e
      simp only [cmpE, seqE_ok hB m e rx ry]
      exact okB m _
    · exact okNo
  | In =>
    simp only [scmpE]
    split
    · rename_i b e
      simp only [cmpE, in_ok hB m e rx ry]
      exact okB m b
    · exact okNo
  | NotIn =>
    simp only [scmpE]
    split
    · rename_i b e
      simp only [cmpE, in_ok hB m e rx ry]
      exact okB m _
    · exact okNo
  | Is =>
    simp only [scmpE]
    split
    · cases ry
      simp only [cmpE]
      cases rx <;> exact okB m _
    · exact okNo
  | IsNot =>
    simp only [scmpE]
    split
    · cases ry
      simp only [cmpE]
      cases rx <;> exact okB m _
    · exact okNo
  | Lt =>
    simp only [scmpE]
    split
    · cases rx with
      | int ei =>
        split
        · cases ry with
          | int ej =>
            split
            · rename_i b e
              simp only [cmpE]
              rw [ilt_eq, ei, ej, ← lt_sub hB e]
              exact okB m b
            · exact okNo
        · exact okNo
    · exact okNo
  | LtE =>
    simp only [scmpE]
    split
    · cases rx with
      | int ei =>
        split
        · cases ry with
          | int ej =>
            split
            · rename_i b e
              simp only [cmpE]
              rw [ilt_eq, ei, ej, ← lt_sub hB e]
              exact okB m _
            · exact okNo
        · exact okNo
    · exact okNo
  | Gt =>
    simp only [scmpE]
    split
    · cases rx with
      | int ei =>
        split
        · cases ry with
          | int ej =>
            split
            · rename_i b e
              simp only [cmpE]
              rw [ilt_eq, ei, ej, ← lt_sub hB e]
              exact okB m b
            · exact okNo
        · exact okNo
    · exact okNo
  | GtE =>
    simp only [scmpE]
    split
    · cases rx with
      | int ei =>
        split
        · cases ry with
          | int ej =>
            split
            · rename_i b e
              simp only [cmpE]
              rw [ilt_eq, ei, ej, ← lt_sub hB e]
              exact okB m _
            · exact okNo
        · exact okNo
    · exact okNo
theorem get_ok (hB : Bnd s bs) (m : Sim s ρ hs hc) {x y : SV} {x' y' : EV} (rx : SR s ρ hs.n x x') (ry : SR s ρ hs.n y y') : Okk s (rV s) ρ hs hc (sgetE bs x y hs) (getE x' y' hc) := by
  unfold sgetE
  split
  · cases rx with
    | ref hi =>
      split
      · rename_i xs lk ec
        obtain ⟨c, e2, q⟩ := m.at ec
        cases q with
        | lst rs =>
          split
          · cases ry with
            | int ej =>
              split
              · rename_i z
                split
                · rename_i k ek
                  split
                  · rename_i v ev
                    obtain ⟨w, ew, rw'⟩ := rs.get ev
                    rw [rs.length] at ek
                    simp only [getE, e2]
                    rw [ej, zero_val s z, ek]
                    simp only [ew]
                    exact okV m rw'
                  · exact okNo
                · exact okNo
              · exact okNo
          · exact okNo
      · rename_i kvs lk ec
        obtain ⟨c, e2, q⟩ := m.at ec
        cases q with
        | dct rk =>
          split
          · rename_i hk
            split
            · rename_i v eo
              obtain ⟨v', q1, q2⟩ := sdget_ok hB ry eo rk
              simp only [getE, e2, skT_ok hk ry, q1]
              exact okV m q2
            · exact okNo
          · exact okNo
      · exact okNo
  · cases rx with
    | tup rs =>
      split
      · cases ry with
        | int ej =>
          split
          · rename_i z
            split
            · rename_i k ek
              split
              · rename_i v ev
                obtain ⟨w, ew, rw'⟩ := rs.get ev
                rw [rs.length] at ek
                simp only [getE]
                rw [ej, zero_val s z, ek]
                simp only [ew]
                exact okV m rw'
              · exact okNo
            · exact okNo
          · exact okNo
      · exact okNo
  · exact okNo
theorem set_ok (hB : Bnd s bs) (m : Sim s ρ hs hc) {x y v : SV} {x' y' v' : EV} (rx : SR s ρ hs.n x x') (ry : SR s ρ hs.n y y') (rv : SR s ρ hs.n v v') : Okk s rEq ρ hs hc (ssetE bs x y v hs) (setE x' y' v' hc) := by
  unfold ssetE
  split
  · cases rx with
    | ref hi =>
      split
      · rename_i xs ec
        obtain ⟨c, e2, q⟩ := m.at ec
        cases q with
        | lst rs =>
          split
          · cases ry with
            | int ej =>
              split
              · rename_i z
                split
                · rename_i k ek
                  rw [rs.length] at ek
                  simp only [setE, e2]
                  rw [ej, zero_val s z, ek]
                  exact ⟨(), _, ρ, rfl, m.write hi (.lst (rs.set rv k)), rfl⟩
                · exact okNo
              · exact okNo
          · exact okNo
      · rename_i kvs ec
        obtain ⟨c, e2, q⟩ := m.at ec
        cases q with
        | dct rk =>
          split
          · rename_i hk
            split
            · rename_i ez
              split
              · rename_i r er
                rw [rk.length] at ez
                simp only [setE, e2, skT_ok hk ry, ez]
                exact ⟨(), _, ρ, rfl, m.write hi (.dct (sdput_ok hB ry rv er rk)), rfl⟩
              · exact okNo
            · exact okNo
          · exact okNo
      · exact okNo
  · exact okNo
theorem tru_ok' (hB : Bnd s bs) (m : Sim s ρ hs hc) {x : SV} {x' : EV} (rx : SR s ρ hs.n x x') : Okk s rEq ρ hs hc (struE bs x hs) (truE x' hc) := by
  have key : ∀ b, stru bs hs x = some b → tru hc x' = some b := by
    intro b h
    cases rx with
    | non => cases h; rfl
    | bl b => cases h; rfl
    | int e =>
      simp only [stru] at h
      split at h
      · rename_i c ec
        cases h
        simp only [tru]
        rw [ieq_eq, e, ← eq0_ok hB ec]
      · cases h
    | str z => cases h
    | tup rs =>
      cases h
      cases rs <;> rfl
    | ref hi =>
      simp only [stru] at h
      split at h
      · rename_i xs lk ec
        obtain ⟨c, e2, q⟩ := m.at ec
        cases q with
        | lst rs =>
          cases h
          simp only [tru, e2]
          cases rs <;> rfl
      · rename_i xs lk ec
        obtain ⟨c, e2, q⟩ := m.at ec
        cases q with
        | dct rs =>
          cases h
          simp only [tru, e2]
          cases rs <;> rfl
      · cases h
  unfold struE truE
  split
  · rename_i b e
    rw [key b e]
    exact Okk.here m rfl
  · exact okNo
theorem items_ok (m : Sim s ρ hs hc) {x : SV} {x' : EV} (rx : SR s ρ hs.n x x') {xs : List SV} (h : sitems hs x = some xs) : ∃ ys, items hc x' = some ys ∧ SRs s ρ hs.n xs ys := by
  cases rx with
  | tup rs => cases h; exact ⟨_, rfl, rs⟩
  | ref hi =>
    simp only [sitems] at h
    split at h
    · rename_i ys lk ec
      cases h
      obtain ⟨c, e2, q⟩ := m.at ec
      cases q with
      | lst rs => exact ⟨_, by simp only [items, e2], rs⟩
    · cases h
  | _ => cases h

/-! ### walks -/
inductive TR (s : List Int) (ρ : Nat → Nat) (n : Nat) : ST → IT → Prop
  | tup {xs : List SV} {ys : List EV} : SRs s ρ n xs ys → TR s ρ n (.tup xs) (.tup ys)
  | lst {i k : Nat} : i < n → TR s ρ n (.lst i k) (.lst (ρ i) k)
  | rng {lo : AI} {i : Int} {k : Nat} : i = lo.val s → TR s ρ n (.rng lo k) (.rng i k)
  | key {i j : Nat} {ks : List SV} {ks' : List EV} : SRs s ρ n ks ks' → TR s ρ n (.key i ks) (.key j ks')
  | enu {i : Nat} {a : ST} {b : IT} : TR s ρ n a b → TR s ρ n (.enu i a) (.enu i b)
  | zp {a c : ST} {b d : IT} : TR s ρ n a b → TR s ρ n c d → TR s ρ n (.zp a c) (.zp b d)
theorem TR.mono {ρ' : Nat → Nat} {n' : Nat} (hn : n ≤ n') (ag : ∀ i, i < n → ρ' i = ρ i) {a : ST} {b : IT} (r : TR s ρ n a b) : TR s ρ' n' a b := by
  induction r with
  | tup r => exact .tup (r.mono hn ag)
  | lst h => rw [← ag _ h]; exact .lst (Nat.lt_of_lt_of_le h hn)
  | rng e => exact .rng e
  | key r => exact .key (r.mono hn ag)
  | enu _ ih => exact .enu ih
  | zp _ _ ih1 ih2 => exact .zp ih1 ih2
theorem step_ok (m : Sim s ρ hs hc) : ∀ {a : ST} {b : IT}, TR s ρ hs.n a b → match a.step hs with
    | none => True
    | some none => b.step hc = some none
    | some (some (v, a')) => ∃ w b', b.step hc = some (some (w, b')) ∧ SR s ρ hs.n v w ∧ TR s ρ hs.n a' b' := by
  intro a b r
  induction r with
  | tup r =>
    cases r with
    | nil => rfl
    | cons r rs => exact ⟨_, _, rfl, r, .tup rs⟩
  | @lst i k hi =>
    simp only [ST.step, IT.step]
    split
    · trivial
    · rename_i e
      split at e
      · rename_i xs lk ec
        obtain ⟨c, e2, q⟩ := m.at ec
        cases q with
        | lst rs =>
          simp only [e2]
          split at e
          · rw [fN_eq] at e; cases e
          · rename_i ei
            rw [List.getElem?_eq_none_iff, rs.length] at ei
            rw [List.getElem?_eq_none_iff.mpr ei]
      · cases e
    · rename_i v a' e
      split at e
      · rename_i xs lk ec
        obtain ⟨c, e2, q⟩ := m.at ec
        cases q with
        | lst rs =>
          simp only [e2]
          split at e
          · rename_i x ei
            rw [fN_eq] at e
            cases e
            obtain ⟨w, ew, rw'⟩ := rs.get ei
            rw [ew]
            simp only [fN_eq]
            exact ⟨_, _, rfl, rw', .lst hi⟩
          · cases e
      · cases e
  | @rng lo i k e =>
    cases k with
    | zero => rfl
    | succ k =>
      simp only [ST.step, IT.step, fI_eq]
      exact ⟨_, _, rfl, .int e, .rng (by
        show i + 1 = (lo.add (kI 1)).val s
        rw [AI.val_add, e]
        show _ = _ + (⟨1, []⟩ : AI).val s
        rw [AI.val_k])⟩
  | key r =>
    cases r with
    | nil => rfl
    | cons r rs => exact ⟨_, _, rfl, r, .key rs⟩
  | @enu i a b r ih =>
    simp only [ST.step, IT.step]
    revert ih
    cases e : a.step hs with
    | none => intro _; trivial
    | some o =>
      cases o with
      | none =>
        intro ih
        simp only at ih
        rw [ih]
      | some p =>
        obtain ⟨v, a'⟩ := p
        rintro ⟨w, b', e2, r1, r2⟩
        rw [e2]
        simp only [fN_eq]
        exact ⟨_, _, rfl, .tup (.cons (.int (by show (i : Int) = (⟨(i : Int), []⟩ : AI).val s; rw [AI.val_k])) (.cons r1 .nil)), .enu r2⟩
  | @zp a c b d r1 r2 ih1 ih2 =>
    simp only [ST.step, IT.step]
    revert ih1
    cases e : a.step hs with
    | none => intro _; trivial
    | some o =>
      cases o with
      | none =>
        intro ih1
        simp only at ih1
        rw [ih1]
        revert ih2
        cases e2 : c.step hs with
        | none => intro _; trivial
        | some o2 =>
          cases o2 with
          | none =>
            intro ih2
            simp only at ih2
            rw [ih2]
          | some p2 =>
            obtain ⟨v2, c'⟩ := p2
            rintro ⟨w2, d', e4, _, _⟩
            rw [e4]
      | some p =>
        obtain ⟨v, a'⟩ := p
        rintro ⟨w, b', e3, q1, q2⟩
        rw [e3]
        revert ih2
        cases e2 : c.step hs with
        | none => intro _; trivial
        | some o2 =>
          cases o2 with
          | none =>
            intro ih2
            simp only at ih2
            rw [ih2]
          | some p2 =>
            obtain ⟨v2, c'⟩ := p2
            rintro ⟨w2, d', e4, q3, q4⟩
            rw [e4]
            exact ⟨_, _, rfl, .tup (.cons q1 (.cons q3 .nil)), .zp q2 q4⟩
abbrev rT (s : List Int) : (Nat → Nat) → Nat → ST → IT → Prop := fun ρ n a b => TR s ρ n a b
theorem itOf_ok (m : Sim s ρ hs hc) {x : SV} {x' : EV} (rx : SR s ρ hs.n x x') : Okk s (rT s) ρ hs hc (sitOf x hs) (itOf x' hc) := by
  unfold sitOf
  split
  · cases rx with
    | tup rs => exact Okk.here m (.tup rs)
  · cases rx with
    | ref hi =>
      split
      · rename_i ec
        obtain ⟨c, e2, q⟩ := m.at ec
        cases q with
        | lst rs =>
          simp only [itOf, e2]
          exact Okk.here m (.lst hi)
      · rename_i kvs lk ec
        obtain ⟨c, e2, q⟩ := m.at ec
        cases q with
        | dct rk =>
          split
          · simp only [itOf, e2]
            exact Okk.here m (.key rk.keys)
          · simp only [itOf, e2]
            exact ⟨_, _, ρ, rfl, m.write hi (.dct rk), .key rk.keys⟩
      · exact okNo
  · exact okNo
theorem zOf_ok (m : Sim s ρ hs hc) {x : SV} {x' : EV} (rx : SR s ρ hs.n x x') {j : ST} (h : szOf x hs = some j) : ∃ k, zOf x' hc = some k ∧ TR s ρ hs.n j k := by
  unfold szOf at h
  split at h
  · cases rx with
    | ref hi =>
      split at h
      · rename_i ec
        cases h
        obtain ⟨c, e2, q⟩ := m.at ec
        cases q with
        | lst rs => exact ⟨_, by simp only [zOf, e2], .lst hi⟩
      · cases h
  · cases h
theorem lim_ok (hB : Bnd s bs) {x : AI} (h : slim bs x = true) : lim62 (x.val s) = true := by
  unfold slim at h
  split at h
  · rename_i e1
    split at h
    · rename_i e2
      have h1 := lt_sub hB e1
      have h2 := lt_sub hB e2
      have k1 : (kI 4611686018427387904).val s = 4611686018427387904 := AI.val_k s _
      have k2 : (kI (-4611686018427387903)).val s = -4611686018427387903 := AI.val_k s _
      rw [k1] at h1
      rw [k2] at h2
      have h1 := of_decide_eq_true h1.symm
      have h2 := of_decide_eq_false h2.symm
      generalize x.val s = v at h1 h2
      cases v with
      | ofNat k =>
        have h1' : (k : Int) < 4611686018427387904 := h1
        have h3 : k + 1 ≤ 4611686018427387904 := by omega
        exact Nat.ble_eq_true_of_le h3
      | negSucc k =>
        have h2' : ¬ (Int.negSucc k < -4611686018427387903) := h2
        rw [Int.negSucc_eq] at h2'
        have h3 : k + 1 ≤ 4611686018427387903 := by omega
        exact Nat.ble_eq_true_of_le h3
    · cases h
  · cases h
theorem rng_ok' (hB : Bnd s bs) (m : Sim s ρ hs hc) {xs : List SV} {ys : List EV} (r : SRs s ρ hs.n xs ys) : Okk s (rT s) ρ hs hc (srngE bs xs hs) (rngE ys hc) := by
  unfold srngE
  split
  · cases r with
    | cons r rs =>
      cases rs
      cases r with
      | int e =>
        split
        · rename_i z
          split
          · rename_i l
            simp only [rngE]
            rw [e, zero_val s z, l]
            simp only [fN_eq]
            exact Okk.here m (.rng (AI.val_k s 0).symm)
          · exact okNo
        · exact okNo
  · rename_i i j
    cases r with
    | cons r rs =>
      cases rs with
      | cons r2 rs =>
        cases rs
        cases r with
        | int e =>
          cases r2 with
          | int e2 =>
            split
            · rename_i l1
              split
              · rename_i l2
                split
                · rename_i c us ec
                  split
                  · rename_i z
                    simp only [rngE]
                    rw [e, e2, lim_ok hB l1, lim_ok hB l2]
                    simp only [fN_eq]
                    have hv := AI.val_sub s
                    have h1 := zero_val (x := ⟨c, us⟩) s z
                    have h2 := hv j i
                    rw [ec, h1] at h2
                    rw [← h2]
                    exact Okk.here m (.rng rfl)
                  · exact okNo
              · exact okNo
            · exact okNo
  · exact okNo
theorem enu_ok (m : Sim s ρ hs hc) {x : SV} {x' : EV} (rx : SR s ρ hs.n x x') : Okk s (rT s) ρ hs hc (senuE x hs) (enuE x' hc) := by
  unfold senuE
  split
  · rename_i j ej
    obtain ⟨k, e, t⟩ := zOf_ok m rx ej
    simp only [enuE, e]
    exact Okk.here m (.enu t)
  · exact okNo
theorem zip_ok (m : Sim s ρ hs hc) {x y : SV} {x' y' : EV} (rx : SR s ρ hs.n x x') (ry : SR s ρ hs.n y y') : Okk s (rT s) ρ hs hc (szipE x y hs) (zipE x' y' hc) := by
  unfold szipE
  split
  · cases rx with
    | tup r1 =>
      split
      · cases ry with
        | tup r2 => exact Okk.here m (.zp (.tup r1) (.tup r2))
      · exact okNo
  · rename_i hne
    split
    · rename_i i ei
      split
      · rename_i j ej
        obtain ⟨k1, e1, t1⟩ := zOf_ok m rx ei
        obtain ⟨k2, e2, t2⟩ := zOf_ok m ry ej
        have : zipE x' y' hc = .ok (.zp k1 k2) hc := by
          cases rx with
          | tup r => exact (hne _ rfl).elim
          | ref h => simp only [zipE, e1, e2]
          | _ => simp only [zipE, e1, e2]
        rw [this]
        exact Okk.here m (.zp t1 t2)
      · exact okNo
    · exact okNo
end
end EM
end
section
set_option Elab.async false
set_option linter.all false
set_option maxRecDepth 100000
set_option maxHeartbeats 1000000
/-! F4: built-ins, methods; the whole machine over unknown numbers. -/
namespace EM
open PySem
section
variable {s : List Int} {bs : List (Int × Int)} {ρ : Nat → Nat} {n : Nat} {hs : SH} {hc : EH}
theorem ty_ok (m : Sim s ρ hs hc) {x : SV} {x' : EV} (rx : SR s ρ hs.n x x') {p : Ty × Bool} (h : styOf hs x = some p) : tyOf hc x' = some p := by
  cases rx with
  | ref hi =>
    simp only [styOf] at h
    split at h
    · rename_i ec
      obtain ⟨c, e2, q⟩ := m.at ec
      cases q with
      | lst rs => cases h; simp only [tyOf, e2]
    · rename_i ec
      obtain ⟨c, e2, q⟩ := m.at ec
      cases q with
      | dct rs => cases h; simp only [tyOf, e2]
    · cases h
  | non => cases h; rfl
  | bl b => cases h; rfl
  | int e => cases h; rfl
  | str z => cases h; rfl
  | tup rs => cases h; rfl
theorem isi_ok (m : Sim s ρ hs hc) {x : SV} {x' : EV} (rx : SR s ρ hs.n x x') (ts : List Ty) : Okk s (rV s) ρ hs hc (sisiR x ts hs) (isiR x' ts hc) := by
  unfold sisiR
  split
  · rename_i t e
    have := ty_ok m rx e
    unfold isiR isiE
    simp only [this]
    exact okB m _
  · rename_i t e
    have := ty_ok m rx e
    unfold isiR isiE
    simp only [this]
    exact okB m _
  · exact okNo
theorem itemsD_ok (m : Sim s ρ hs hc) {x : SV} {x' : EV} (rx : SR s ρ hs.n x x') {xs : List SV} (h : sitemsD hs x = some xs) : ∃ ys, itemsD hc x' = some ys ∧ SRs s ρ hs.n xs ys := by
  cases rx with
  | tup rs => cases h; exact ⟨_, rfl, rs⟩
  | ref hi =>
    simp only [sitemsD] at h
    split at h
    · rename_i ec
      cases h
      obtain ⟨c, e2, q⟩ := m.at ec
      cases q with
      | lst rs => exact ⟨_, by simp only [itemsD, e2], rs⟩
    · rename_i ec
      cases h
      obtain ⟨c, e2, q⟩ := m.at ec
      cases q with
      | dct rk => exact ⟨_, by simp only [itemsD, e2], rk.keys⟩
    · cases h
  | _ => cases h
theorem keysD_ok (m : Sim s ρ hs hc) {x : SV} {x' : EV} (rx : SR s ρ hs.n x x') {xs : List SV} (h : skeysD hs x = some xs) : ∃ ys, keysD hc x' = some ys ∧ SRs s ρ hs.n xs ys := by
  cases rx with
  | ref hi =>
    simp only [skeysD] at h
    split at h
    · rename_i ec
      cases h
      obtain ⟨c, e2, q⟩ := m.at ec
      cases q with
      | lst rs => exact ⟨_, by simp only [keysD, e2], rs⟩
    · rename_i ec
      cases h
      obtain ⟨c, e2, q⟩ := m.at ec
      cases q with
      | dct rk => exact ⟨_, by simp only [keysD, e2], rk.keys⟩
    · cases h
  | _ => cases h
theorem bls_ok : ∀ {xs : List SV} {bs : List Bool} {ys : List EV}, sbls xs = some bs → SRs s ρ n xs ys → bls ys = some bs
  | [], bs, ys, h, r => by cases r; cases h; rfl
  | x :: xs, bs, ys, h, r => by
    cases r with
    | cons r rs =>
      cases r with
      | bl b =>
        simp only [sbls] at h
        split at h
        · rename_i b2 e2
          cases h
          simp only [bls, bls_ok e2 rs]
        · cases h
      | _ => cases h
theorem listAt_ok (m : Sim s ρ hs hc) {x : SV} {x' : EV} (rx : SR s ρ hs.n x x') {xs : List SV} (h : slistAt hs x = some xs) : ∃ ys, listAt hc x' = some ys ∧ SRs s ρ hs.n xs ys := by
  cases rx with
  | ref hi =>
    simp only [slistAt] at h
    split at h
    · rename_i ec
      cases h
      obtain ⟨c, e2, q⟩ := m.at ec
      cases q with
      | lst rs => exact ⟨_, by simp only [listAt, e2], rs⟩
    · cases h
  | _ => cases h
theorem bi_ok (hB : Bnd s bs) (m : Sim s ρ hs hc) (b : Bi) {xs : List SV} {ys : List EV} (r : SRs s ρ hs.n xs ys) : Okk s (rV s) ρ hs hc (sbiE bs b xs hs) (biE b ys hc) := by
  unfold sbiE
  split
  · rename_i v
    cases r with
    | cons rv rs =>
      cases rs
      rename_i w
      split
      · split
        · rename_i zs e
          obtain ⟨ws, h1, h2⟩ := itemsD_ok m rv e
          have : biE .len [w] hc = retI ws.length hc := by
            cases rv with
            | str z => cases e
            | tup r => simp only [biE, h1]
            | ref h => simp only [biE, h1]
            | _ => cases e
          rw [this]
          simp only [fN_eq]
          exact okI m (by rw [AI.val_k, h2.length])
        · exact okNo
      · split
        · rename_i zs e
          obtain ⟨ws, h1, h2⟩ := listAt_ok m rv e
          split
          · rename_i bb eb
            simp only [biE, h1, bls_ok eb h2]
            exact okB m _
          · exact okNo
        · exact okNo
      · split
        · rename_i zs e
          obtain ⟨ws, h1, h2⟩ := listAt_ok m rv e
          split
          · rename_i bb eb
            simp only [biE, h1, bls_ok eb h2]
            exact okB m _
          · exact okNo
        · exact okNo
      · split
        · rename_i zs e
          obtain ⟨ws, h1, h2⟩ := items_ok m rv e
          simp only [biE, h1]
          exact okV m (.tup h2)
        · exact okNo
      · split
        · rename_i zs e
          obtain ⟨ws, h1, h2⟩ := items_ok m rv e
          simp only [biE, h1]
          exact m.mkc (.lst h2)
        · exact okNo
      · split
        · rename_i zs e
          obtain ⟨ws, h1, h2⟩ := keysD_ok m rv e
          split
          · rename_i os eo
            obtain ⟨us, h3, h4⟩ := ssortE_ok hB m eo h2
            simp only [biE, h1, h3]
            exact m.mkc (.lst h4)
          · exact okNo
        · exact okNo
      · split
        · cases rv with
          | int e => exact okI m e
        · exact okNo
      · split
        · cases rv with
          | int e =>
            rename_i x i
            split
            · rename_i el
              have h1 := of_decide_eq_true (lt0_ok hB el).symm
              simp only [biE]
              refine okSI m ?_
              rw [AI.val_smul, ← e]
              rw [← e] at h1
              cases i with
              | ofNat k => exact absurd h1 (by simp only [Int.ofNat_eq_natCast]; omega)
              | negSucc k =>
                rw [Int.negSucc_eq]
                show ((k + 1 : Nat) : Int) = _
                omega
            · rename_i el
              have h1 := of_decide_eq_false (lt0_ok hB el).symm
              simp only [biE]
              refine okI m ?_
              rw [← e]
              rw [← e] at h1
              cases i with
              | ofNat k => rfl
              | negSucc k => exact absurd (Int.negSucc_lt_zero k) h1
            · exact okNo
        · exact okNo
  · exact okNo
theorem knd_ok (m : Sim s ρ hs hc) {x : SV} {x' : EV} (rx : SR s ρ hs.n x x') {T : Kd} (h : sknd hs x = some T) : knd hc x' = some T := by
  cases rx with
  | str z => cases h; rfl
  | ref hi =>
    simp only [sknd] at h
    split at h
    · rename_i ec
      obtain ⟨c, e2, q⟩ := m.at ec
      cases q with
      | lst rs => cases h; simp only [knd, e2]
    · rename_i ec
      obtain ⟨c, e2, q⟩ := m.at ec
      cases q with
      | dct rs => cases h; simp only [knd, e2]
    · cases h
  | _ => cases h
theorem cnt_ok (hB : Bnd s bs) {d : DD} {p : PyData} (rd : DR s d p) : ∀ {ds : List DD} {ps : List PyData} {k : Nat}, scnt bs d ds = some k → DRs s ds ps → (ps.countP fun z => PyData.eqv z p) = k
  | [], ps, k, h, r => by cases r; cases h; rfl
  | z :: ds, ps, k, h, r => by
    cases r with
    | cons r rs =>
      unfold scnt at h
      split at h
      · rename_i k2 e2
        have ih := cnt_ok hB rd e2 rs
        split at h
        · rename_i e1
          cases h
          rw [List.countP_cons, ih, seqd_ok hB _ _ _ _ _ e1 r rd]
          rfl
        · rename_i e1
          cases h
          rw [List.countP_cons, ih, seqd_ok hB _ _ _ _ _ e1 r rd]
          rfl
        · cases h
      · cases h
theorem find_ok (hB : Bnd s bs) {d : DD} {p : PyData} (rd : DR s d p) : ∀ {ds : List DD} {ps : List PyData} {i k : Nat}, sfind bs d ds i = some k → DRs s ds ps → ∃ j, k = i + j ∧ (ps.findIdx? fun z => PyData.eqv z p) = some j
  | [], ps, i, k, h, r => by cases h
  | z :: ds, ps, i, k, h, r => by
    cases r with
    | cons r rs =>
      unfold sfind at h
      split at h
      · rename_i e1
        cases h
        refine ⟨0, rfl, ?_⟩
        rw [List.findIdx?_cons, seqd_ok hB _ _ _ _ _ e1 r rd]
        rfl
      · rename_i e1
        obtain ⟨j, h1, h2⟩ := find_ok hB rd h rs
        refine ⟨j + 1, by omega, ?_⟩
        rw [List.findIdx?_cons, seqd_ok hB _ _ _ _ _ e1 r rd, h2]
        rfl
      · cases h
theorem seek_ok' (m : Sim s ρ hs hc) {v : SV} {v' : EV} {xs : List SV} {ys : List EV} {d : DD} {ds : List DD} (e1 : srd 20 hs v = some d) (e2 : mapO (srd 19 hs) xs = some ds) (rv : SR s ρ hs.n v v') (rs : SRs s ρ hs.n xs ys) :
    ∃ p ps, seek hc ys v' = some (ps, p) ∧ DR s d p ∧ DRs s ds ps := by
  obtain ⟨p, h1, h2, h3⟩ := srd_ok m _ _ _ _ e1 rv
  obtain ⟨ps, h4, h5, h6, h7⟩ := srds (fun v d w => srd_ok m 19 v d w) e2 rs
  refine ⟨p, ps, ?_, h2, h5⟩
  unfold seek
  simp only [h1, h4, h3.shaped (by decide : 20 ≤ 64), fines h6 h7 (by decide)]
theorem met_ok (hB : Bnd s bs) (m : Sim s ρ hs hc) (T : Kd) (mt : Me) {x : SV} {x' : EV} {xs : List SV} {ys : List EV} (rx : SR s ρ hs.n x x') (r : SRs s ρ hs.n xs ys) : Okk s (rV s) ρ hs hc (smetE bs T mt x xs hs) (metE T mt x' ys hc) := by
  unfold smetE
  split
  · cases rx with
    | ref hi =>
      split
      · rename_i zs lk ec
        obtain ⟨c, e2, q⟩ := m.at ec
        cases q with
        | lst rs =>
          split
          · split
            · split
              · split
                · cases r with
                  | cons rv rr =>
                    cases rr
                    split
                    · rename_i ez
                      rw [rs.length] at ez
                      simp only [metE, e2, lstM, ez]
                      exact ⟨_, _, ρ, rfl, m.write hi (.lst (rs.append (.cons rv .nil))), .non⟩
                    · exact okNo
                · exact okNo
              · exact okNo
            · split
              · split
                · cases r with
                  | cons rv rr =>
                    cases rr
                    cases rv with
                    | ref hj =>
                      split
                      · rename_i us ec2
                        obtain ⟨c2, e3, q2⟩ := m.at ec2
                        cases q2 with
                        | lst rs2 =>
                          split
                          · rename_i ez
                            have ra := rs.append rs2
                            rw [ra.length] at ez
                            simp only [metE, e2, lstM, e3, ez]
                            exact ⟨_, _, ρ, rfl, m.write hi (.lst ra), .non⟩
                          · exact okNo
                      · exact okNo
                · exact okNo
              · exact okNo
            · split
              · cases r with
                | cons rv rr =>
                  cases rr
                  split
                  · rename_i d e3
                    split
                    · rename_i ds e4
                      obtain ⟨p, ps, h1, h2, h3⟩ := seek_ok' m e3 e4 rv rs
                      split
                      · rename_i k ek
                        simp only [metE, e2, lstM, h1, fN_eq, cnt_ok hB h2 ek h3]
                        exact okI m (AI.val_k s k).symm
                      · exact okNo
                    · exact okNo
                  · exact okNo
              · exact okNo
            · split
              · cases r with
                | cons rv rr =>
                  cases rr
                  split
                  · rename_i d e3
                    split
                    · rename_i ds e4
                      obtain ⟨p, ps, h1, h2, h3⟩ := seek_ok' m e3 e4 rv rs
                      split
                      · rename_i k ek
                        obtain ⟨j, h4, h5⟩ := find_ok hB h2 ek h3
                        simp only [metE, e2, lstM, h1, fN_eq, h5]
                        refine okI m ?_
                        rw [AI.val_k]
                        omega
                      · exact okNo
                    · exact okNo
                  · exact okNo
              · exact okNo
            · exact okNo
          · exact okNo
      · rename_i kvs lk ec
        obtain ⟨c, e2, q⟩ := m.at ec
        cases q with
        | dct rk =>
          split
          · split
            · split
              · cases r with
                | cons r1 rr =>
                  cases rr with
                  | cons r2 rr =>
                    cases rr
                    split
                    · rename_i hk
                      split
                      · rename_i o eo
                        have q := sdget_ok hB r1 eo rk
                        simp only [metE, e2, dctM, skT_ok hk r1]
                        cases o with
                        | none => simp only at q; rw [q]; exact okV m r2
                        | some v =>
                          obtain ⟨v', q1, q2⟩ := q
                          rw [q1]; exact okV m q2
                      · exact okNo
                    · exact okNo
              · exact okNo
            · exact okNo
          · exact okNo
      · exact okNo
  · exact okNo
theorem tup_ok (m : Sim s ρ hs hc) {xs : List SV} {ys : List EV} (r : SRs s ρ hs.n xs ys) : Okk s (rV s) ρ hs hc (stupE xs hs) (tupE ys hc) := by
  unfold stupE
  split
  · rename_i e
    rw [r.length] at e
    simp only [tupE, e]
    exact okV m (.tup r)
  · exact okNo
theorem lst_ok (m : Sim s ρ hs hc) {xs : List SV} {ys : List EV} (r : SRs s ρ hs.n xs ys) : Okk s (rV s) ρ hs hc (slstE xs hs) (lstE ys hc) := by
  unfold slstE
  split
  · rename_i e
    rw [r.length] at e
    simp only [lstE, e]
    exact m.mkc (.lst r)
  · exact okNo
theorem dct_ok (m : Sim s ρ hs hc) {xs : List SV} {ys : List EV} (r : SRs s ρ hs.n xs ys) : Okk s (rV s) ρ hs hc (sdctE xs hs) (dctE ys hc) := by
  unfold sdctE
  split
  · cases r
    exact m.mkc (.dct .nil)
  · exact okNo
theorem dcE_ok (m : Sim s ρ hs hc) {xs : List (SV × SV)} {ys : List (EV × EV)} (r : SKs s ρ hs.n xs ys) : Okk s (rV s) ρ hs hc (sdcE xs hs) (dcE ys hc) := by
  unfold sdcE
  split
  · rename_i e
    rw [r.length] at e
    simp only [dcE, e]
    exact m.mkc (.dct r)
  · exact okNo
theorem slc_ok (m : Sim s ρ hs hc) {x : SV} {x' : EV} (rx : SR s ρ hs.n x x') (l u : Option Int) : Okk s (rV s) ρ hs hc (sslcE x l u hs) (slcE x' l u hc) := by
  have cut : ∀ {xs : List SV} {ys : List EV}, SRs s ρ hs.n xs ys → SRs s ρ hs.n ((xs.drop (cutI xs.length 0 l)).take (cutI xs.length xs.length u - cutI xs.length 0 l)) (cutE ys l u) := by
    intro xs ys r
    unfold cutE
    rw [r.length]
    exact (r.drop _).take _
  unfold sslcE
  split
  · cases rx with
    | tup r =>
      have rc := cut r
      split
      · exact okNo
      · rename_i e
        rw [rc.length, r.length] at e
        simp only [slcE, e]
        exact okV m (.tup rc)
  · cases rx with
    | ref hi =>
      split
      · rename_i ec
        obtain ⟨c, e2, q⟩ := m.at ec
        cases q with
        | lst rs =>
          simp only [slcE, e2]
          exact m.mkc (.lst (cut rs))
      · exact okNo
  · exact okNo
theorem neg_ok (m : Sim s ρ hs hc) {x : SV} {x' : EV} (rx : SR s ρ hs.n x x') : Okk s (rV s) ρ hs hc (snegE x hs) (negE x' hc) := by
  unfold snegE
  split
  · cases rx with
    | int e => exact okSI m (by rw [AI.val_smul, e]; omega)
  · exact okNo
theorem intO_ok (m : Sim s ρ hs hc) {x : SV} {x' : EV} (rx : SR s ρ hs.n x x') : Okk s rEq ρ hs hc (sintO x hs) (intO x' hc) := by
  unfold sintO
  split
  · cases rx with
    | int e =>
      split
      · rename_i z
        simp only [intO]
        rw [e, zero_val s z]
        exact Okk.here m rfl
      · exact okNo
  · exact okNo
end

/-! ### states -/
inductive SS (s : List Int) (ρ : Nat → Nat) (n : Nat) : SSg → Sg → Prop
  | nil : SS s ρ n [] []
  | no {o : Option EV} {r : SSg} {r' : Sg} : SS s ρ n r r' → SS s ρ n (none :: r) (o :: r')
  | so {v : SV} {w : EV} {r : SSg} {r' : Sg} : SR s ρ n v w → SS s ρ n r r' → SS s ρ n (some v :: r) (some w :: r')
section
variable {s : List Int} {bs : List (Int × Int)} {ρ ρ' : Nat → Nat} {n n' : Nat} {hs : SH} {hc : EH}
theorem SS.mono (hn : n ≤ n') (ag : ∀ i, i < n → ρ' i = ρ i) {a : SSg} {b : Sg} (r : SS s ρ n a b) : SS s ρ' n' a b := by
  induction r with
  | nil => exact .nil
  | no _ ih => exact .no ih
  | so a _ ih => exact .so (a.mono hn ag) ih
theorem SS.get {a : SSg} {b : Sg} (r : SS s ρ n a b) : ∀ {i : Nat} {v : SV}, ssget a i = some v → ∃ w, sget b i = some w ∧ SR s ρ n v w := by
  induction r with
  | nil => intro i v h; simp [ssget] at h
  | no _ ih =>
    intro i v h
    cases i with
    | zero => simp [ssget] at h
    | succ i => exact ih (by simpa [ssget] using h)
  | so q _ ih =>
    intro i v h
    cases i with
    | zero => simp [ssget] at h; subst h; exact ⟨_, rfl, q⟩
    | succ i => exact ih (by simpa [ssget] using h)
theorem SS.set {a : SSg} {b : Sg} (r : SS s ρ n a b) {v : SV} {w : EV} (q : SR s ρ n v w) : ∀ i, SS s ρ n (ssset a i (some v)) (sset b i (some w)) := by
  induction r with
  | nil => intro i; exact .nil
  | no r ih =>
    intro i
    cases i with
    | zero => exact .so q r
    | succ i => exact .no (ih i)
  | so a r ih =>
    intro i
    cases i with
    | zero => exact .so q r
    | succ i => exact .so a (ih i)
theorem SS.unset {a : SSg} {b : Sg} (r : SS s ρ n a b) : ∀ i, SS s ρ n (ssset a i none) (sset b i none) := by
  induction r with
  | nil => intro i; exact .nil
  | no r ih =>
    intro i
    cases i with
    | zero => exact .no r
    | succ i => exact .no (ih i)
  | so a r ih =>
    intro i
    cases i with
    | zero => exact .no r
    | succ i => exact .so a (ih i)
theorem SS.wipe {a : SSg} {b : Sg} (r : SS s ρ n a b) : ∀ own, SS s ρ n (sswipe a own) (swipe b own)
  | [] => r
  | i :: own => (SS.wipe r own).unset i
theorem SS.of : ∀ {xs : List SV} {ys : List EV} (k : Nat), SRs s ρ n xs ys → SS s ρ n (ssgOf k xs) (sgOf k ys)
  | _, _, 0, _ => .nil
  | _, _, k + 1, .nil => .no (SS.of k .nil)
  | _, _, k + 1, .cons a b => .so a (SS.of k b)
abbrev rS (s : List Int) : (Nat → Nat) → Nat → SSg → Sg → Prop := fun ρ n a b => SS s ρ n a b
inductive FR (s : List Int) (ρ : Nat → Nat) (n : Nat) : SFl → Fl → Prop
  | nx {a : SSg} {b : Sg} : SS s ρ n a b → FR s ρ n (.nx a) (.nx b)
  | bk {a : SSg} {b : Sg} : SS s ρ n a b → FR s ρ n (.bk a) (.bk b)
  | ct {a : SSg} {b : Sg} : SS s ρ n a b → FR s ρ n (.ct a) (.ct b)
  | rt {a : SV} {b : EV} : SR s ρ n a b → FR s ρ n (.rt a) (.rt b)
abbrev rF (s : List Int) : (Nat → Nat) → Nat → SFl → Fl → Prop := fun ρ n a b => FR s ρ n a b
/-- two pieces of code that go together -/
def MM {α β : Type} (s : List Int) (rel : (Nat → Nat) → Nat → α → β → Prop) (a : SM α) (b : M β) : Prop := ∀ ρ hs hc σ τ, Sim s ρ hs hc → SS s ρ hs.n σ τ → Okk s rel ρ hs hc (a σ hs) (b τ hc)
def GG (s : List Int) (a : SV → SM SSg) (b : EV → M Sg) : Prop := ∀ ρ hs hc σ τ v w, Sim s ρ hs hc → SS s ρ hs.n σ τ → SR s ρ hs.n v w → Okk s (rS s) ρ hs hc (a v σ hs) (b w τ hc)
def GGs (s : List Int) (a : List SV → SM SSg) (b : List EV → M Sg) : Prop := ∀ ρ hs hc σ τ v w, Sim s ρ hs hc → SS s ρ hs.n σ τ → SRs s ρ hs.n v w → Okk s (rS s) ρ hs hc (a v σ hs) (b w τ hc)
end
end EM
end
section
set_option Elab.async false
set_option linter.all false
set_option maxRecDepth 100000
set_option maxHeartbeats 1000000
/-! F5: the whole machine over unknown numbers. -/
namespace EM
open PySem
section
variable {s : List Int} {bs : List (Int × Int)} {ρ : Nat → Nat} {n : Nat} {hs : SH} {hc : EH}
theorem Okk.nox {α β : Type} {rel : (Nat → Nat) → Nat → α → β → Prop} {r : SQ α} {rc : R β} (h : Okk s rel ρ hs hc r rc) : Okk s rel ρ hs hc r (noX rc) := by
  cases r with
  | no => trivial
  | ok a h1 =>
    obtain ⟨b, hc', ρ', rfl, st, rl⟩ := h
    exact ⟨b, hc', ρ', rfl, st, rl⟩
theorem mm_bad {α β : Type} {rel : (Nat → Nat) → Nat → α → β → Prop} {b : M β} : MM s rel (zBad : SM α) b := fun _ _ _ _ _ _ _ => okNo
theorem mm_var (i : Nat) : MM s (rV s) (zVar i) (mVar i) := fun ρ hs hc σ τ m ss => by
  unfold zVar vOpt
  split
  · rename_i v e
    obtain ⟨w, e2, r⟩ := ss.get e
    unfold mVar
    rw [e2]
    exact okV m r
  · exact okNo
theorem mm_c {v : SV} {w : EV} (h : ∀ ρ n, SR s ρ n v w) : MM s (rV s) (zC v) (mC w) := fun ρ hs hc σ τ m ss => okV m (h _ _)
theorem mm_then {α β γ δ : Type} {rel : (Nat → Nat) → Nat → α → β → Prop} {rel2 : (Nat → Nat) → Nat → γ → δ → Prop} {a : SM α} {b : M β} {f : α → SH → SQ γ} {g : β → EH → R δ} (h : MM s rel a b)
    (k : ∀ x y ρ hs hc, Sim s ρ hs hc → rel ρ hs.n x y → Okk s rel2 ρ hs hc (f x hs) (g y hc)) : MM s rel2 (zThen a f) (mThen b g) := fun ρ hs hc σ τ m ss =>
  (h ρ hs hc σ τ m ss).bind fun x y ρ1 h1 c1 st r => k x y ρ1 h1 c1 st.sim r
theorem mm_two {α β γ δ ε ζ : Type} {rel : (Nat → Nat) → Nat → α → β → Prop} {rel2 : (Nat → Nat) → Nat → γ → δ → Prop} {rel3 : (Nat → Nat) → Nat → ε → ζ → Prop} {a : SM α} {b : M β} {a2 : SM γ} {b2 : M δ} {f : α → γ → SH → SQ ε} {g : β → δ → EH → R ζ}
    (h : MM s rel a b) (h2 : MM s rel2 a2 b2) (mono : ∀ x y ρ n ρ' n', rel ρ n x y → n ≤ n' → (∀ i, i < n → ρ' i = ρ i) → rel ρ' n' x y)
    (k : ∀ x y z w ρ hs hc, Sim s ρ hs hc → rel ρ hs.n x y → rel2 ρ hs.n z w → Okk s rel3 ρ hs hc (f x z hs) (g y w hc)) {mb : M ζ} (e : mb = fun σ h => (b σ h).bind fun x h => (b2 σ h).bind fun y h => g x y h) : MM s rel3 (zTwo a a2 f) mb := by
  subst e
  exact fun ρ hs hc σ τ m ss => (h ρ hs hc σ τ m ss).bind fun x y ρ1 h1 c1 st r => (h2 ρ1 h1 c1 σ τ st.sim (ss.mono st.le st.ag)).bind fun z w ρ2 h2 c2 st2 r2 => k x y z w ρ2 h2 c2 st2.sim (mono _ _ _ _ _ _ r st2.le st2.ag) r2
theorem srmono {x : SV} {y : EV} {ρ : Nat → Nat} {n : Nat} {ρ' : Nat → Nat} {n' : Nat} (r : SR s ρ n x y) (hn : n ≤ n') (ag : ∀ i, i < n → ρ' i = ρ i) : SR s ρ' n' x y := r.mono hn ag
theorem mm_ite {α β : Type} {rel : (Nat → Nat) → Nat → α → β → Prop} {t : SM Bool} {t' : M Bool} {a b : SM α} {a' b' : M β} (ht : MM s rEq t t') (ha : MM s rel a a') (hb : MM s rel b b') : MM s rel (zIte t a b) (mIte t' a' b') := fun ρ hs hc σ τ m ss =>
  (ht ρ hs hc σ τ m ss).bind fun x y ρ1 h1 c1 st r => by
    cases r
    cases x with
    | true => exact ha ρ1 h1 c1 σ τ st.sim (ss.mono st.le st.ag)
    | false => exact hb ρ1 h1 c1 σ τ st.sim (ss.mono st.le st.ag)
theorem mm_chn (hB : Bnd s bs) (o1 o2 : CmpOp) {a b c : SM SV} {a' b' c' : M EV} (ha : MM s (rV s) a a') (hb : MM s (rV s) b b') (hc' : MM s (rV s) c c') : MM s (rV s) (zChn bs o1 o2 a b c) (mChn o1 o2 a' b' c') := fun ρ hs hc σ τ m ss =>
  (ha ρ hs hc σ τ m ss).bind fun x x' ρ1 h1 c1 st1 r1 => (hb ρ1 h1 c1 σ τ st1.sim (ss.mono st1.le st1.ag)).bind fun y y' ρ2 h2 c2 st2 r2 =>
    (cmp_ok hB st2.sim o1 (SR.mono st2.le st2.ag r1) r2).bind fun r r' ρ3 h3 c3 st3 rr => by
      have ss3 := ((ss.mono st1.le st1.ag).mono st2.le st2.ag).mono st3.le st3.ag
      split
      · cases rr
        exact (hc' ρ3 h3 c3 σ τ st3.sim ss3).bind fun z z' ρ4 h4 c4 st4 r4 => cmp_ok hB st4.sim o2 (SR.mono st4.le st4.ag (SR.mono st3.le st3.ag r2)) r4
      · cases rr
        exact okV st3.sim (.bl _)
      · exact okNo
theorem mm_nt (hB : Bnd s bs) {a : SM SV} {a' : M EV} (ha : MM s (rV s) a a') : MM s (rV s) (zNt bs a) (mNt a') := fun ρ hs hc σ τ m ss =>
  (ha ρ hs hc σ τ m ss).bind fun x x' ρ1 h1 c1 st1 r1 => (tru_ok' hB st1.sim r1).bind fun b b' ρ2 h2 c2 st2 r2 => by
    cases r2
    exact okV st2.sim (.bl _)
theorem mm_not {a : SM Bool} {a' : M Bool} (ha : MM s rEq a a') : MM s rEq (zNot a) (mNot a') := fun ρ hs hc σ τ m ss =>
  (ha ρ hs hc σ τ m ss).bind fun x x' ρ1 h1 c1 st1 r1 => by
    cases r1
    exact Okk.here st1.sim rfl
theorem mm_slc {a : SM SV} {a' : M EV} {l u : SM (Option Int)} {l' u' : M (Option Int)} (ha : MM s (rV s) a a') (hl : MM s rEq l l') (hu : MM s rEq u u') : MM s (rV s) (zSlc a l u) (mSlc a' l' u') := fun ρ hs hc σ τ m ss =>
  (ha ρ hs hc σ τ m ss).bind fun x x' ρ1 h1 c1 st1 r1 => (hl ρ1 h1 c1 σ τ st1.sim (ss.mono st1.le st1.ag)).bind fun y y' ρ2 h2 c2 st2 r2 =>
    (hu ρ2 h2 c2 σ τ st2.sim ((ss.mono st1.le st1.ag).mono st2.le st2.ag)).bind fun z z' ρ3 h3 c3 st3 r3 => by
      cases r2
      cases r3
      exact slc_ok st3.sim (SR.mono st3.le st3.ag (SR.mono st2.le st2.ag r1)) _ _
theorem mm_lc (F : Nat) (own : List Nat) {elt : SM SV} {elt' : M EV} {g : SV → SM SSg} {g' : EV → M Sg} {it : SM ST} {it' : M IT} {tt : SM Bool} {tt' : M Bool} (he : MM s (rV s) elt elt') (hg : GG s g g') (hi : MM s (rT s) it it') (ht : MM s rEq tt tt') :
    MM s (rV s) (zLc F own elt g it tt) (mLc F own elt' g' it' tt') := fun ρ hs hc σ τ m ss => by
  have loop : ∀ (f : Nat) (j : ST) (j' : IT) (acc : List SV) (acc' : List EV) ρ hs hc σ τ, Sim s ρ hs hc → SS s ρ hs.n σ τ → TR s ρ hs.n j j' → SRs s ρ hs.n acc acc' → Okk s (rVs s) ρ hs hc (slcL g tt elt σ f j acc hs) (lcL g' tt' elt' τ f j' acc' hc) := by
    intro f
    induction f with
    | zero => intros; exact okNo
    | succ f ih =>
      intro j j' acc acc' ρ hs hc σ τ m ss tr ra
      have q := step_ok m tr
      unfold slcL lcL
      split
      · exact okNo
      · rename_i e
        rw [e] at q
        simp only at q
        rw [q]
        exact Okk.here m ra.reverse
      · rename_i v jn e
        rw [e] at q
        obtain ⟨w, jn', e2, rv, tr2⟩ := q
        rw [e2]
        refine (hg ρ hs hc σ τ v w m ss rv).nox.bind fun σ2 τ2 ρ2 h2 c2 st2 ss2 => ?_
        refine (ht ρ2 h2 c2 σ2 τ2 st2.sim ss2).nox.bind fun b b' ρ3 h3 c3 st3 rb => ?_
        cases rb
        cases b with
        | false => exact ih jn jn' acc acc' ρ3 h3 c3 σ τ st3.sim ((ss.mono st2.le st2.ag).mono st3.le st3.ag) ((tr2.mono st2.le st2.ag).mono st3.le st3.ag) ((ra.mono st2.le st2.ag).mono st3.le st3.ag)
        | true =>
          refine (he ρ3 h3 c3 σ2 τ2 st3.sim (ss2.mono st3.le st3.ag)).nox.bind fun y y' ρ4 h4 c4 st4 ry => ?_
          exact ih jn jn' (y :: acc) (y' :: acc') ρ4 h4 c4 σ τ st4.sim (((ss.mono st2.le st2.ag).mono st3.le st3.ag).mono st4.le st4.ag) (((tr2.mono st2.le st2.ag).mono st3.le st3.ag).mono st4.le st4.ag)
            (.cons ry (((ra.mono st2.le st2.ag).mono st3.le st3.ag).mono st4.le st4.ag))
  refine (hi ρ hs hc σ τ m ss).bind fun j j' ρ1 h1 c1 st1 tr => ?_
  exact (loop F j j' [] [] ρ1 h1 c1 _ _ st1.sim ((ss.mono st1.le st1.ag).wipe own) tr .nil).bind fun xs ys ρ2 h2 c2 st2 r => lst_ok st2.sim r
theorem mm_dc (hB : Bnd s bs) (F : Nat) (own : List Nat) {key val : SM SV} {key' val' : M EV} {g : SV → SM SSg} {g' : EV → M Sg} {it : SM ST} {it' : M IT} {tt : SM Bool} {tt' : M Bool} (hk : MM s (rV s) key key') (hv : MM s (rV s) val val') (hg : GG s g g') (hi : MM s (rT s) it it') (ht : MM s rEq tt tt') :
    MM s (rV s) (zDc bs F own key val g it tt) (mDc F own key' val' g' it' tt') := fun ρ hs hc σ τ m ss => by
  have loop : ∀ (f : Nat) (j : ST) (j' : IT) (acc : List (SV × SV)) (acc' : List (EV × EV)) ρ hs hc σ τ, Sim s ρ hs hc → SS s ρ hs.n σ τ → TR s ρ hs.n j j' → SKs s ρ hs.n acc acc' → Okk s (fun ρ n a b => SKs s ρ n a b) ρ hs hc (sdcL bs g tt key val σ f j acc hs) (dcL g' tt' key' val' τ f j' acc' hc) := by
    intro f
    induction f with
    | zero => intros; exact okNo
    | succ f ih =>
      intro j j' acc acc' ρ hs hc σ τ m ss tr ra
      have q := step_ok m tr
      unfold sdcL dcL
      split
      · exact okNo
      · rename_i e
        rw [e] at q
        simp only at q
        rw [q]
        exact Okk.here m ra
      · rename_i v jn e
        rw [e] at q
        obtain ⟨w, jn', e2, rv, tr2⟩ := q
        rw [e2]
        refine (hg ρ hs hc σ τ v w m ss rv).nox.bind fun σ2 τ2 ρ2 h2 c2 st2 ss2 => ?_
        refine (ht ρ2 h2 c2 σ2 τ2 st2.sim ss2).nox.bind fun b b' ρ3 h3 c3 st3 rb => ?_
        cases rb
        cases b with
        | false => exact ih jn jn' acc acc' ρ3 h3 c3 σ τ st3.sim ((ss.mono st2.le st2.ag).mono st3.le st3.ag) ((tr2.mono st2.le st2.ag).mono st3.le st3.ag) ((ra.mono st2.le st2.ag).mono st3.le st3.ag)
        | true =>
          refine (hk ρ3 h3 c3 σ2 τ2 st3.sim (ss2.mono st3.le st3.ag)).nox.bind fun k k' ρ4 h4 c4 st4 rk => ?_
          refine (hv ρ4 h4 c4 σ2 τ2 st4.sim ((ss2.mono st3.le st3.ag).mono st4.le st4.ag)).nox.bind fun y y' ρ5 h5 c5 st5 ry => ?_
          have rk5 := SR.mono st5.le st5.ag rk
          have ra5 := (((ra.mono st2.le st2.ag).mono st3.le st3.ag).mono st4.le st4.ag).mono st5.le st5.ag
          split
          · rename_i hkt
            split
            · rename_i acc2 ea
              rw [skT_ok hkt rk5]
              exact ih jn jn' acc2 _ ρ5 h5 c5 σ τ st5.sim ((((ss.mono st2.le st2.ag).mono st3.le st3.ag).mono st4.le st4.ag).mono st5.le st5.ag) ((((tr2.mono st2.le st2.ag).mono st3.le st3.ag).mono st4.le st4.ag).mono st5.le st5.ag) (sdput_ok hB rk5 ry ea ra5)
            · exact okNo
          · exact okNo
  refine (hi ρ hs hc σ τ m ss).bind fun j j' ρ1 h1 c1 st1 tr => ?_
  exact (loop F j j' [] [] ρ1 h1 c1 _ _ st1.sim ((ss.mono st1.le st1.ag).wipe own) tr .nil).bind fun xs ys ρ2 h2 c2 st2 r => dcE_ok st2.sim r
theorem mm_met (hB : Bnd s bs) (mt : Me) {o : SM SV} {o' : M EV} {es : SM (List SV)} {es' : M (List EV)} (ho : MM s (rV s) o o') (he : MM s (rVs s) es es') : MM s (rV s) (zMet bs mt o es) (mMet mt o' es') := fun ρ hs hc σ τ m ss =>
  (ho ρ hs hc σ τ m ss).bind fun x x' ρ1 h1 c1 st1 r1 => by
    split
    · rename_i T eT
      rw [knd_ok st1.sim r1 eT]
      simp only
      split
      · rename_i em
        try simp only [em]
        exact (he ρ1 h1 c1 σ τ st1.sim (ss.mono st1.le st1.ag)).bind fun vs ws ρ2 h2 c2 st2 r2 => met_ok hB st2.sim T mt (SR.mono st2.le st2.ag r1) r2
      · exact okNo
    · exact okNo
theorem mm_andV (hB : Bnd s bs) {e r : SM SV} {e' r' : M EV} (he : MM s (rV s) e e') (hr : MM s (rV s) r r') : MM s (rV s) (zAndV bs e r) (mAndV e' r') := fun ρ hs hc σ τ m ss =>
  (he ρ hs hc σ τ m ss).bind fun x x' ρ1 h1 c1 st1 r1 => (tru_ok' hB st1.sim r1).bind fun b b' ρ2 h2 c2 st2 r2 => by
    cases r2
    cases b with
    | true => exact hr ρ2 h2 c2 σ τ st2.sim ((ss.mono st1.le st1.ag).mono st2.le st2.ag)
    | false => exact okV st2.sim (SR.mono st2.le st2.ag r1)
theorem mm_orV (hB : Bnd s bs) {e r : SM SV} {e' r' : M EV} (he : MM s (rV s) e e') (hr : MM s (rV s) r r') : MM s (rV s) (zOrV bs e r) (mOrV e' r') := fun ρ hs hc σ τ m ss =>
  (he ρ hs hc σ τ m ss).bind fun x x' ρ1 h1 c1 st1 r1 => (tru_ok' hB st1.sim r1).bind fun b b' ρ2 h2 c2 st2 r2 => by
    cases r2
    cases b with
    | false => exact hr ρ2 h2 c2 σ τ st2.sim ((ss.mono st1.le st1.ag).mono st2.le st2.ag)
    | true => exact okV st2.sim (SR.mono st2.le st2.ag r1)
theorem mm_and {e r : SM Bool} {e' r' : M Bool} (he : MM s rEq e e') (hr : MM s rEq r r') : MM s rEq (zAnd e r) (mAnd e' r') := fun ρ hs hc σ τ m ss =>
  (he ρ hs hc σ τ m ss).bind fun x x' ρ1 h1 c1 st1 r1 => by
    cases r1
    cases x with
    | true => exact hr ρ1 h1 c1 σ τ st1.sim (ss.mono st1.le st1.ag)
    | false => exact Okk.here st1.sim rfl
theorem mm_or {e r : SM Bool} {e' r' : M Bool} (he : MM s rEq e e') (hr : MM s rEq r r') : MM s rEq (zOr e r) (mOr e' r') := fun ρ hs hc σ τ m ss =>
  (he ρ hs hc σ τ m ss).bind fun x x' ρ1 h1 c1 st1 r1 => by
    cases r1
    cases x with
    | false => exact hr ρ1 h1 c1 σ τ st1.sim (ss.mono st1.le st1.ag)
    | true => exact Okk.here st1.sim rfl
theorem mm_cons {e : SM SV} {e' : M EV} {r : SM (List SV)} {r' : M (List EV)} (he : MM s (rV s) e e') (hr : MM s (rVs s) r r') : MM s (rVs s) (zCons e r) (mCons e' r') := fun ρ hs hc σ τ m ss =>
  (he ρ hs hc σ τ m ss).bind fun x x' ρ1 h1 c1 st1 r1 => (hr ρ1 h1 c1 σ τ st1.sim (ss.mono st1.le st1.ag)).bind fun xs xs' ρ2 h2 c2 st2 r2 => Okk.here st2.sim (.cons (SR.mono st2.le st2.ag r1) r2)
theorem mm_star {e : SM SV} {e' : M EV} {r : SM (List SV)} {r' : M (List EV)} (he : MM s (rV s) e e') (hr : MM s (rVs s) r r') : MM s (rVs s) (zStar e r) (mStar e' r') := fun ρ hs hc σ τ m ss =>
  (he ρ hs hc σ τ m ss).bind fun x x' ρ1 h1 c1 st1 r1 => by
    split
    · rename_i ys ey
      obtain ⟨zs, h2, h3⟩ := items_ok st1.sim r1 ey
      rw [h2]
      exact (hr ρ1 h1 c1 σ τ st1.sim (ss.mono st1.le st1.ag)).bind fun xs xs' ρ2 h2 c2 st2 r2 => Okk.here st2.sim ((SRs.mono st2.le st2.ag h3).append r2)
    · exact okNo
theorem gg_nm (i : Nat) : GG s (yNm i) (gNm i) := fun ρ hs hc σ τ v w m ss r => Okk.here m (ss.set r i)
theorem gg_tp (k : Nat) {gs : List SV → SM SSg} {gs' : List EV → M Sg} (h : GGs s gs gs') : GG s (yTp k gs) (gTp k gs') := fun ρ hs hc σ τ v w m ss r => by
  unfold yTp
  split
  · rename_i vs e
    cases r with
    | tup rs =>
      simp only [ssetTup] at e
      split at e
      · rename_i el
        cases e
        rw [rs.length] at el
        unfold gTp
        simp only [setTup, el]
        exact h ρ hs hc σ τ _ _ m ss rs
      · cases e
    | _ => cases e
  · exact okNo
theorem gg_sb (hB : Bnd s bs) {o i : SM SV} {o' i' : M EV} (ho : MM s (rV s) o o') (hi : MM s (rV s) i i') : GG s (ySb bs o i) (gSb o' i') := fun ρ hs hc σ τ v w m ss r =>
  (ho ρ hs hc σ τ m ss).bind fun x x' ρ1 h1 c1 st1 r1 => (hi ρ1 h1 c1 σ τ st1.sim (ss.mono st1.le st1.ag)).bind fun y y' ρ2 h2 c2 st2 r2 =>
    (set_ok hB st2.sim (SR.mono st2.le st2.ag r1) r2 (SR.mono st2.le st2.ag (SR.mono st1.le st1.ag r))).bind fun _ _ ρ3 h3 c3 st3 _ => Okk.here st3.sim (((ss.mono st1.le st1.ag).mono st2.le st2.ag).mono st3.le st3.ag)
theorem ggs_nil : GGs s yNil gNil := fun ρ hs hc σ τ v w m ss r => by
  cases r with
  | nil => exact Okk.here m ss
  | cons _ _ => exact okNo
theorem ggs_cons {g : SV → SM SSg} {g' : EV → M Sg} {gs : List SV → SM SSg} {gs' : List EV → M Sg} (h : GG s g g') (h2 : GGs s gs gs') : GGs s (yCons g gs) (gCons g' gs') := fun ρ hs hc σ τ v w m ss r => by
  cases r with
  | nil => exact okNo
  | cons r rs => exact (h ρ hs hc σ τ _ _ m ss r).bind fun σ2 τ2 ρ2 h2' c2 st2 ss2 => h2 ρ2 h2' c2 σ2 τ2 _ _ st2.sim ss2 (SRs.mono st2.le st2.ag rs)
end
/-! ### code -/
section
variable {s : List Int} {bs : List (Int × Int)} {K' : Nat → Option SV} {K : Nat → Option EV} {C' : Nat → List SV → SH → SQ SV} {C : Nat → List EV → EH → R EV} {F : Nat}
structure Env2 (s : List Int) (bs : List (Int × Int)) (K' : Nat → Option SV) (K : Nat → Option EV) (C' : Nat → List SV → SH → SQ SV) (C : Nat → List EV → EH → R EV) : Prop where
  hB : Bnd s bs
  hK : ∀ k v, K' k = some v → ∃ w, K k = some w ∧ ∀ ρ n, SR s ρ n v w
  hC : ∀ k ρ hs hc vs ws, Sim s ρ hs hc → SRs s ρ hs.n vs ws → Okk s (rV s) ρ hs hc (C' k vs hs) (C k ws hc)
variable (z : Env2 s bs K' K C' C)
include z
mutual
theorem zev_ok : ∀ x : XE, MM s (rV s) (zev bs K' C' F x) (ev K C F x)
  | .nev => mm_bad
  | .var i _ => mm_var i
  | .cI i => mm_c fun _ _ => .int (AI.val_k s i).symm
  | .cS x => mm_c fun _ _ => .str x
  | .cB b => mm_c fun _ _ => .bl b
  | .cN => mm_c fun _ _ => .non
  | .glo k _ => fun ρ hs hc σ τ m ss => by
    show Okk s (rV s) ρ hs hc (vOpt (K' k) hs) (mOpt (K k) τ hc)
    unfold vOpt
    split
    · rename_i v e
      obtain ⟨w, h1, h2⟩ := z.hK k v e
      rw [h1]
      exact okV m (h2 _ _)
    · exact okNo
  | .bin op a b => mm_two (zev_ok a) (zev_ok b) (fun _ _ _ _ _ _ => srmono) (fun x y u v ρ hs hc m r1 r2 => bin_ok m op r1 r2) rfl
  | .neg a => mm_then (zev_ok a) fun x y ρ hs hc m r => neg_ok m r
  | .cmp op a b => mm_two (zev_ok a) (zev_ok b) (fun _ _ _ _ _ _ => srmono) (fun x y u v ρ hs hc m r1 r2 => cmp_ok z.hB m op r1 r2) rfl
  | .chn o1 o2 a b c => mm_chn z.hB o1 o2 (zev_ok a) (zev_ok b) (zev_ok c)
  | .lg o es => zelg_ok o es
  | .nt a => mm_nt z.hB (zev_ok a)
  | .ite t a b => mm_ite (zet_ok t) (zev_ok a) (zev_ok b)
  | .sub a i => mm_two (zev_ok a) (zev_ok i) (fun _ _ _ _ _ _ => srmono) (fun x y u v ρ hs hc m r1 r2 => get_ok z.hB m r1 r2) rfl
  | .slc a lo hi => mm_slc (zev_ok a) (zeo_ok lo) (zeo_ok hi)
  | .tup es => mm_then (zevs_ok es) fun x y ρ hs hc m r => tup_ok m r
  | .lst es => mm_then (zevs_ok es) fun x y ρ hs hc m r => lst_ok m r
  | .dct kvs => mm_then (zevs_ok kvs) fun x y ρ hs hc m r => dct_ok m r
  | .lc own elt g it tt => mm_lc F own (zev_ok elt) (zeg_ok g) (zeit_ok it) (zets_ok tt)
  | .dc own key val g it tt => mm_dc z.hB F own (zev_ok key) (zev_ok val) (zeg_ok g) (zeit_ok it) (zets_ok tt)
  | .call k _ es => mm_then (zevs_ok es) fun x y ρ hs hc m r => z.hC k ρ hs hc x y m r
  | .isi a _ ts => mm_then (zev_ok a) fun x y ρ hs hc m r => isi_ok m r ts
  | .bi b es => mm_then (zevs_ok es) fun x y ρ hs hc m r => bi_ok z.hB m b r
  | .met m o es => mm_met z.hB m (zev_ok o) (zevs_ok es)
theorem zet_ok : ∀ t : XT, MM s rEq (zet bs K' C' F t) (et K C F t)
  | .va e => mm_then (zev_ok e) fun x y ρ hs hc m r => tru_ok' z.hB m r
  | .lg o ts => zetl_ok o ts
  | .nt t => mm_not (zet_ok t)
theorem zelg_ok : ∀ (o : BoolOp) (es : XEs), MM s (rV s) (zelg bs K' C' F o es) (elg K C F o es)
  | o, .nil => mm_bad
  | o, .cons _ e .nil => zev_ok e
  | .And, .cons _ e (.cons st f r) => mm_andV z.hB (zev_ok e) (zelg_ok .And (.cons st f r))
  | .Or, .cons _ e (.cons st f r) => mm_orV z.hB (zev_ok e) (zelg_ok .Or (.cons st f r))
theorem zetl_ok : ∀ (o : BoolOp) (es : XTs), MM s rEq (zetl bs K' C' F o es) (etl K C F o es)
  | .And, .nil => fun ρ hs hc σ τ m ss => Okk.here m rfl
  | .Or, .nil => fun ρ hs hc σ τ m ss => Okk.here m rfl
  | .And, .cons e r => mm_and (zet_ok e) (zetl_ok .And r)
  | .Or, .cons e r => mm_or (zet_ok e) (zetl_ok .Or r)
theorem zets_ok : ∀ es : XTs, MM s rEq (zets bs K' C' F es) (ets K C F es)
  | .nil => fun ρ hs hc σ τ m ss => Okk.here m rfl
  | .cons e r => mm_and (zet_ok e) (zets_ok r)
theorem zeo_ok : ∀ o : XO, MM s rEq (zeo bs K' C' F o) (eo K C F o)
  | .no => fun ρ hs hc σ τ m ss => Okk.here m rfl
  | .so e => mm_then (zev_ok e) fun x y ρ hs hc m r => intO_ok m r
theorem zevs_ok : ∀ es : XEs, MM s (rVs s) (zevs bs K' C' F es) (evs K C F es)
  | .nil => fun ρ hs hc σ τ m ss => Okk.here m .nil
  | .cons false e r => mm_cons (zev_ok e) (zevs_ok r)
  | .cons true e r => mm_star (zev_ok e) (zevs_ok r)
theorem zeit_ok : ∀ i : XI, MM s (rT s) (zeit bs K' C' F i) (eit K C F i)
  | .ex e => mm_then (zev_ok e) fun x y ρ hs hc m r => itOf_ok m r
  | .rng es => mm_then (zevs_ok es) fun x y ρ hs hc m r => rng_ok' z.hB m r
  | .enu e => mm_then (zev_ok e) fun x y ρ hs hc m r => enu_ok m r
  | .zip a b => mm_two (zev_ok a) (zev_ok b) (fun _ _ _ _ _ _ => srmono) (fun x y u v ρ hs hc m r1 r2 => zip_ok m r1 r2) rfl
theorem zeg_ok : ∀ g : XG, GG s (zeg bs K' C' F g) (eg K C F g)
  | .nm i _ => gg_nm i
  | .tp gs => gg_tp gs.len (zegs_ok gs)
  | .sb o i => gg_sb z.hB (zev_ok o) (zev_ok i)
theorem zegs_ok : ∀ g : XGs, GGs s (zegs bs K' C' F g) (egs K C F g)
  | .nil => ggs_nil
  | .cons g r => ggs_cons (zeg_ok g) (zegs_ok r)
end
end
end EM
end
section
set_option Elab.async false
set_option linter.all false
set_option maxRecDepth 100000
set_option maxHeartbeats 1000000
/-! F6: statements and calls over unknown numbers. -/
namespace EM
open PySem
section
variable {s : List Int} {bs : List (Int × Int)} {ρ : Nat → Nat} {n : Nat} {hs : SH} {hc : EH}
theorem ms_sq {a r : SM SFl} {a' r' : M Fl} (ha : MM s (rF s) a a') (hr : MM s (rF s) r r') : MM s (rF s) (tSq a r) (sSeq a' r') := fun ρ hs hc σ τ m ss =>
  (ha ρ hs hc σ τ m ss).bind fun x x' ρ1 h1 c1 st1 rf => by
    cases rf with
    | nx q => exact hr ρ1 h1 c1 _ _ st1.sim q
    | bk q => exact Okk.here st1.sim (.bk q)
    | ct q => exact Okk.here st1.sim (.ct q)
    | rt q => exact Okk.here st1.sim (.rt q)
theorem ms_asg {g : SV → SM SSg} {g' : EV → M Sg} {e : SM SV} {e' : M EV} (hg : GG s g g') (he : MM s (rV s) e e') : MM s (rF s) (tAsg g e) (sAsg g' e') := fun ρ hs hc σ τ m ss =>
  (he ρ hs hc σ τ m ss).bind fun x x' ρ1 h1 c1 st1 r1 => (hg ρ1 h1 c1 σ τ x x' st1.sim (ss.mono st1.le st1.ag) r1).bind fun σ2 τ2 ρ2 h2 c2 st2 q => Okk.here st2.sim (.nx q)
theorem psets_ok : ∀ {is : List Nat} {vs : List SV} {ws : List EV} {σ σ' : SSg} {τ : Sg}, SRs s ρ n vs ws → SS s ρ n σ τ → spsets is vs σ = some σ' → ∃ τ', psets is ws τ = some τ' ∧ SS s ρ n σ' τ'
  | [], _, _, σ, σ', τ, .nil, ss, h => by cases h; exact ⟨τ, rfl, ss⟩
  | i :: is, _, _, σ, σ', τ, .cons a b, ss, h => psets_ok (is := is) b (ss.set a i) h
  | [], _, _, σ, σ', τ, .cons a b, ss, h => by cases h
  | i :: is, _, _, σ, σ', τ, .nil, ss, h => by cases h
theorem ms_par (is : List Nat) {e : SM (List SV)} {e' : M (List EV)} (he : MM s (rVs s) e e') : MM s (rF s) (tPar is e) (sPar is e') := fun ρ hs hc σ τ m ss =>
  (he ρ hs hc σ τ m ss).bind fun x x' ρ1 h1 c1 st1 r1 => by
    split
    · rename_i σ2 e2
      obtain ⟨τ2, h2, q⟩ := psets_ok r1 (ss.mono st1.le st1.ag) e2
      rw [h2]
      exact Okk.here st1.sim (.nx q)
    · exact okNo
theorem ms_ex {e : SM SV} {e' : M EV} (he : MM s (rV s) e e') : MM s (rF s) (fun σ h => (e σ h).bind fun _ h => .ok (.nx σ) h) (sEx e') := fun ρ hs hc σ τ m ss =>
  (he ρ hs hc σ τ m ss).bind fun x x' ρ1 h1 c1 st1 r1 => Okk.here st1.sim (.nx (ss.mono st1.le st1.ag))
theorem ms_ret {e : SM SV} {e' : M EV} (he : MM s (rV s) e e') : MM s (rF s) (fun σ h => (e σ h).bind fun v h => .ok (.rt v) h) (sRet e') := fun ρ hs hc σ τ m ss =>
  (he ρ hs hc σ τ m ss).bind fun x x' ρ1 h1 c1 st1 r1 => Okk.here st1.sim (.rt r1)
theorem ms_for (F : Nat) {g : SV → SM SSg} {g' : EV → M Sg} {it : SM ST} {it' : M IT} {b : SM SFl} {b' : M Fl} (hg : GG s g g') (hi : MM s (rT s) it it') (hb : MM s (rF s) b b') : MM s (rF s) (tFor F g it b) (sFor F g' it' b') := fun ρ hs hc σ τ m ss => by
  have loop : ∀ (f : Nat) (j : ST) (j' : IT) ρ hs hc σ τ, Sim s ρ hs hc → SS s ρ hs.n σ τ → TR s ρ hs.n j j' → Okk s (rF s) ρ hs hc (sforL g b f j σ hs) (forL g' b' f j' τ hc) := by
    intro f
    induction f with
    | zero => intros; exact okNo
    | succ f ih =>
      intro j j' ρ hs hc σ τ m ss tr
      have q := step_ok m tr
      unfold sforL forL
      split
      · exact okNo
      · rename_i e
        rw [e] at q
        simp only at q
        rw [q]
        exact Okk.here m (.nx ss)
      · rename_i v jn e
        rw [e] at q
        obtain ⟨w, jn', e2, rv, tr2⟩ := q
        rw [e2]
        refine (hg ρ hs hc σ τ v w m ss rv).bind fun σ2 τ2 ρ2 h2 c2 st2 ss2 => ?_
        refine (hb ρ2 h2 c2 σ2 τ2 st2.sim ss2).bind fun x x' ρ3 h3 c3 st3 rf => ?_
        have tr3 := (tr2.mono st2.le st2.ag).mono st3.le st3.ag
        cases rf with
        | nx q => exact ih jn jn' ρ3 h3 c3 _ _ st3.sim q tr3
        | ct q => exact ih jn jn' ρ3 h3 c3 _ _ st3.sim q tr3
        | bk q => exact Okk.here st3.sim (.nx q)
        | rt q => exact Okk.here st3.sim (.rt q)
  exact (hi ρ hs hc σ τ m ss).bind fun j j' ρ1 h1 c1 st1 tr => loop F j j' ρ1 h1 c1 σ τ st1.sim (ss.mono st1.le st1.ag) tr
theorem ms_whl (F : Nat) {t : SM Bool} {t' : M Bool} {b : SM SFl} {b' : M Fl} (ht : MM s rEq t t') (hb : MM s (rF s) b b') : MM s (rF s) (tWhl F t b) (sWhl F t' b') := fun ρ hs hc σ τ m ss => by
  have loop : ∀ (f : Nat) ρ hs hc σ τ, Sim s ρ hs hc → SS s ρ hs.n σ τ → Okk s (rF s) ρ hs hc (swhlL t b f σ hs) (whlL t' b' f τ hc) := by
    intro f
    induction f with
    | zero => intros; exact okNo
    | succ f ih =>
      intro ρ hs hc σ τ m ss
      unfold swhlL whlL
      refine (ht ρ hs hc σ τ m ss).bind fun c c' ρ1 h1 c1 st1 rc => ?_
      cases rc
      cases c with
      | false => exact Okk.here st1.sim (.nx (ss.mono st1.le st1.ag))
      | true =>
        refine (hb ρ1 h1 c1 σ τ st1.sim (ss.mono st1.le st1.ag)).bind fun x x' ρ3 h3 c3 st3 rf => ?_
        cases rf with
        | nx q => exact ih ρ3 h3 c3 _ _ st3.sim q
        | ct q => exact ih ρ3 h3 c3 _ _ st3.sim q
        | bk q => exact Okk.here st3.sim (.nx q)
        | rt q => exact Okk.here st3.sim (.rt q)
  exact loop F ρ hs hc σ τ m ss
end
section
variable {s : List Int} {bs : List (Int × Int)} {K' : Nat → Option SV} {K : Nat → Option EV} {C' : Nat → List SV → SH → SQ SV} {C : Nat → List EV → EH → R EV} {F : Nat}
variable (z : Env2 s bs K' K C' C)
include z
mutual
theorem zex_ok : ∀ x : XS, MM s (rF s) (zex bs K' C' F x) (ex K C F x)
  | .nev => mm_bad
  | .ex e => ms_ex (zev_ok z e)
  | .ret e => ms_ret (zev_ok z e)
  | .retN => fun ρ hs hc σ τ m ss => Okk.here m (.rt .non)
  | .asg g e => ms_asg (zeg_ok z g) (zev_ok z e)
  | .par is es => ms_par (is.map Prod.fst) (zevs_ok z es)
  | .ifs t a b => mm_ite (zet_ok z t) (zexs_ok a) (zexs_ok b)
  | .whl t b => ms_whl F (zet_ok z t) (zexs_ok b)
  | .for_ g it b => ms_for F (zeg_ok z g) (zeit_ok z it) (zexs_ok b)
  | .brk => fun ρ hs hc σ τ m ss => Okk.here m (.bk ss)
  | .cnt => fun ρ hs hc σ τ m ss => Okk.here m (.ct ss)
  | .pass => fun ρ hs hc σ τ m ss => Okk.here m (.nx ss)
theorem zexs_ok : ∀ x : XSs, MM s (rF s) (zexs bs K' C' F x) (exs K C F x)
  | .nil => fun ρ hs hc σ τ m ss => Okk.here m (.nx ss)
  | .cons a r => ms_sq (zex_ok a) (zexs_ok r)
end
end
/-! ### calls -/
/-- the table's codes are the closed forms -/
def Tab (K : Nat → Option EV) (S : List SD) (T : List SFD) : Prop := ∀ k fd, sfdAt T k = some fd → ∃ sd, sdAt S k = some sd ∧ sd.np = fd.np ∧ sd.nN = fd.nN ∧ ∀ F C, sd.code F C = exs K C F fd.code
theorem Tab.nil {K : Nat → Option EV} : Tab K [] [] := fun k fd h => by cases h
theorem Tab.cons {K : Nat → Option EV} {S : List SD} {T : List SFD} {np nN : Nat} {c : Nat → (Nat → List EV → EH → R EV) → M Fl} {d : XSs} (h : ∀ F C, c F C = exs K C F d) (r : Tab K S T) : Tab K (⟨np, nN, c⟩ :: S) (⟨np, nN, d⟩ :: T) := fun k fd e => by
  cases k with
  | zero => cases e; exact ⟨_, rfl, rfl, rfl, h⟩
  | succ k => exact r k fd e
/-- what a summary says is so -/
def OOk (s : List Int) (S : List SD) (F : Nat) (O : Nat → Nat → List SV → SH → Option (SQ SV)) : Prop := ∀ d k vs hs r, O d k vs hs = some r → ∀ ρ hc ws, Sim s ρ hs hc → SRs s ρ hs.n vs ws → Okk s (rV s) ρ hs hc r (scall S F d k ws hc)
theorem OOk.no {s : List Int} {S : List SD} {F : Nat} : OOk s S F fun _ _ _ _ => none := fun d k vs hs r h => by cases h
theorem retFl_ok {s : List Int} {ρ : Nat → Nat} {hs : SH} {hc : EH} (m : Sim s ρ hs hc) {a : SFl} {b : Fl} (r : FR s ρ hs.n a b) : Okk s (rV s) ρ hs hc (sretFl a hs) (retFl b hc) := by
  cases r with
  | nx q => exact Okk.here m .non
  | rt q => exact Okk.here m q
  | bk q => exact okNo
  | ct q => exact okNo
theorem zcall_ok {s : List Int} {bs : List (Int × Int)} (hB : Bnd s bs) {K' : Nat → Option SV} {K : Nat → Option EV} (hK : ∀ k v, K' k = some v → ∃ w, K k = some w ∧ ∀ ρ n, SR s ρ n v w) {S : List SD} {T : List SFD} (hT : Tab K S T)
    {O : Nat → Nat → List SV → SH → Option (SQ SV)} {F : Nat} (hO : OOk s S F O) : ∀ d k ρ hs hc vs ws, Sim s ρ hs hc → SRs s ρ hs.n vs ws → Okk s (rV s) ρ hs hc (zcall bs K' T O F d k vs hs) (scall S F d k ws hc) := by
  intro d
  induction d with
  | zero => intros; exact okNo
  | succ d ih =>
    intro k ρ hs hc vs ws m r
    unfold zcall
    split
    · rename_i q e
      exact hO _ _ _ _ _ e ρ hc ws m r
    · split
      · rename_i fd efd
        obtain ⟨sd, e1, e2, e3, e4⟩ := hT k fd efd
        split
        · rename_i el
          unfold scall
          rw [e1]
          simp only
          rw [← r.length, e2, el, e3, e4]
          refine (zexs_ok (z := ⟨hB, hK, fun k ρ hs hc vs ws m r => ih k ρ hs hc vs ws m r⟩) fd.code ρ hs hc _ _ m (SS.of _ r)).bind fun a b ρ1 h1 c1 st1 rf => retFl_ok st1.sim rf
        · exact okNo
      · exact okNo
/-- constants -/
theorem mapO_SR {s : List Int} {ρ : Nat → Nat} {n : Nat} {g : EV → Option SV} (hg : ∀ v w, g v = some w → SR s ρ n w v) : ∀ {xs : List EV} {ys : List SV}, mapO g xs = some ys → SRs s ρ n ys xs
  | [], ys, e => by cases e; exact .nil
  | x :: xs, ys, e => by
    unfold mapO at e
    split at e
    · rename_i y ey
      split at e
      · rename_i zs ez
        cases e
        exact .cons (hg _ _ ey) (mapO_SR hg ez)
      · cases e
    · cases e
theorem ofEV_ok {s : List Int} {ρ : Nat → Nat} {n : Nat} : ∀ (f : Nat) (v : EV) (w : SV), ofEV f v = some w → SR s ρ n w v := by
  intro f
  induction f with
  | zero => intro v w h; cases h
  | succ f ih =>
    intro v w h
    cases v with
    | non => cases h; exact .non
    | bl b => cases h; exact .bl b
    | int i => cases h; exact .int (AI.val_k s i).symm
    | str z => cases h; exact .str z
    | tup xs =>
      simp only [ofEV] at h
      split at h
      · rename_i ys e
        cases h
        exact .tup (mapO_SR ih e)
      · cases h
    | ref i => cases h
    | fn k => cases h
    | kl xs => cases h
end EM
end
section
set_option Elab.async false
set_option linter.all false
set_option maxRecDepth 100000
set_option maxHeartbeats 1000000
/-! F7: summaries: what a def answers, told once over fresh unknown numbers, used at any forms that stand for them. -/
namespace EM
open PySem
def dotA : List Int → List AI → AI
  | u :: us, t :: ts => (t.smul u).add (dotA us ts)
  | _, _ => ⟨0, []⟩
def AI.put (θ : List AI) (x : AI) : AI := (⟨x.c, []⟩ : AI).add (dotA x.us θ)
theorem dotA_val (s : List Int) : ∀ (us : List Int) (θ : List AI), (dotA us θ).val s = dotL us (θ.map (AI.val s))
  | u :: us, t :: ts => by
    unfold dotA
    rw [AI.val_add, AI.val_smul, dotA_val s us ts]
    rfl
  | [], θ => by cases θ <;> exact AI.val_k s 0
  | u :: us, [] => AI.val_k s 0
theorem AI.val_put (s : List Int) (θ : List AI) (x : AI) : (x.put θ).val s = x.val (θ.map (AI.val s)) := by
  unfold AI.put
  rw [AI.val_add, AI.val_k, dotA_val]
  rfl
section
variable (f : AI → AI)
mutual
/-- f of the one's numbers are the other's -/
def pmt : SV → SV → Bool
  | .int x, .int y => match (f x).sub y with
    | ⟨c, us⟩ => match ieq c 0 with
      | true => zeroL us
      | false => false
  | .tup xs, .tup ys => pmts xs ys
  | .non, .non => true
  | .bl a, .bl b => a == b
  | _, _ => false
def pmts : List SV → List SV → Bool
  | [], [] => true
  | x :: xs, y :: ys => match pmt x y with
    | true => pmts xs ys
    | false => false
  | _, _ => false
end
mutual
/-- f put upon all numbers -/
def vput : SV → Option SV
  | .non => some .non
  | .bl b => some (.bl b)
  | .int x => match f x with
    | ⟨c, us⟩ => some (.int ⟨c, us⟩)
  | .str z => some (.str z)
  | .tup xs => match vputs xs with
    | some ys => some (.tup ys)
    | none => none
  | .ref _ => none
def vputs : List SV → Option (List SV)
  | [] => some []
  | x :: xs => match vput x with
    | some y => match vputs xs with
      | some ys => some (y :: ys)
      | none => none
    | none => none
end
variable {f : AI → AI} {s s' : List Int} (hf : ∀ x, (f x).val s = x.val s') {ρ ρ' : Nat → Nat} {n n' : Nat}
include hf
theorem same_val {x y : AI} (h : (match (f x).sub y with
    | ⟨c, us⟩ => match ieq c 0 with
      | true => zeroL us
      | false => false) = true) : x.val s' = y.val s := by
  have q := AI.val_sub s (f x) y
  rw [hf] at q
  revert h q
  cases (f x).sub y with
  | mk c us =>
    intro h q
    simp only at h
    split at h
    · rename_i e
      have e := (ieq_iff _ _).mp e
      rw [zero_val (x := ⟨c, us⟩) s h] at q
      simp only at q
      omega
    · cases h
mutual
theorem pmt_back : ∀ {p v : SV} {w : EV}, pmt f p v = true → SR s ρ n v w → SR s' ρ' n' p w
  | .int x, v, w, h, r => by
    cases r with
    | int e =>
      unfold pmt at h
      exact .int (e.trans (same_val hf h).symm)
    | _ => simp [pmt] at h
  | .tup xs, v, w, h, r => by
    cases r with
    | tup rs =>
      unfold pmt at h
      exact .tup (pmts_back h rs)
    | _ => simp [pmt] at h
  | .non, v, w, h, r => by
    cases r with
    | non => exact .non
    | _ => simp [pmt] at h
  | .bl a, v, w, h, r => by
    cases r with
    | bl b =>
      unfold pmt at h
      rw [eq_of_beq h]
      exact .bl _
    | _ => simp [pmt] at h
  | .str z, v, w, h, r => by simp [pmt] at h
  | .ref i, v, w, h, r => by simp [pmt] at h
theorem pmts_back : ∀ {p v : List SV} {w : List EV}, pmts f p v = true → SRs s ρ n v w → SRs s' ρ' n' p w
  | [], v, w, h, r => by
    cases r with
    | nil => exact .nil
    | cons _ _ => simp [pmts] at h
  | x :: xs, v, w, h, r => by
    cases r with
    | nil => simp [pmts] at h
    | cons a b =>
      unfold pmts at h
      split at h
      · rename_i e
        exact .cons (pmt_back e a) (pmts_back h b)
      · cases h
end
mutual
theorem vput_ok : ∀ {v v2 : SV} {w : EV}, vput f v = some v2 → SR s' ρ n v w → SR s ρ' n' v2 w
  | .int x, v2, w, h, r => by
    cases r with
    | int e =>
      unfold vput at h
      cases h
      exact .int (e.trans (hf x).symm)
  | .tup xs, v2, w, h, r => by
    cases r with
    | tup rs =>
      unfold vput at h
      split at h
      · rename_i ys ey
        cases h
        exact .tup (vputs_ok ey rs)
      · cases h
  | .non, v2, w, h, r => by cases r; cases h; exact .non
  | .bl a, v2, w, h, r => by cases r; cases h; exact .bl a
  | .str z, v2, w, h, r => by cases r; cases h; exact .str z
  | .ref i, v2, w, h, r => by cases h
theorem vputs_ok : ∀ {v v2 : List SV} {w : List EV}, vputs f v = some v2 → SRs s' ρ n v w → SRs s ρ' n' v2 w
  | [], v2, w, h, r => by cases r; cases h; exact .nil
  | x :: xs, v2, w, h, r => by
    cases r with
    | cons a b =>
      unfold vputs at h
      split at h
      · rename_i y ey
        split at h
        · rename_i ys eys
          cases h
          exact .cons (vput_ok ey a) (vputs_ok eys b)
        · cases h
      · cases h
end
end
/-- forms within bounds -/
def bndA (bs : List (Int × Int)) : List AI → List (Int × Int) → Bool
  | [], [] => true
  | x :: θ, b :: pbs => match rngL x.us bs with
    | some p => match ilt (x.c + p.1) b.1 with
      | true => false
      | false => match ilt b.2 (x.c + p.2) with
        | true => false
        | false => bndA bs θ pbs
    | none => false
  | _, _ => false
theorem bndA_ok {s : List Int} {bs : List (Int × Int)} (hB : Bnd s bs) : ∀ {θ : List AI} {pbs : List (Int × Int)}, bndA bs θ pbs = true → Bnd (θ.map (AI.val s)) pbs
  | [], [], _ => .nil
  | x :: θ, b :: pbs, h => by
    unfold bndA at h
    split at h
    · rename_i p ep
      obtain ⟨p1, p2⟩ := rng_ok hB ep
      split at h
      · cases h
      · rename_i e1
        split at h
        · cases h
        · rename_i e2
          rw [ilt_eq] at e1 e2
          have e1 := of_decide_eq_false e1
          have e2 := of_decide_eq_false e2
          exact .cons (by unfold AI.val; omega) (by unfold AI.val; omega) (bndA_ok hB h)
    · cases h
  | [], _ :: _, h => by cases h
  | _ :: _, [], h => by cases h
inductive SOut where
  | new (xs : List SV)
  | val (v : SV)
structure Smy where
  d : Nat
  k : Nat
  ps : List SV
  pbs : List (Int × Int)
  slv : List SV → Option (List AI)
  out : SOut
def seH : SH := ⟨0, 500000000, .lf⟩
/-- the run tells this answer -/
def sameOut (h : SH) : SV → SOut → Bool
  | .ref i, .new xs => match h.get i with
    | some (.lst ys lk) => match lk with
      | false => pmts id xs ys
      | true => false
    | _ => false
  | v, .val x => pmt id x v
  | _, _ => false
def Smy.chk (y : Smy) (K' : Nat → Option SV) (T : List SFD) (O : Nat → Nat → List SV → SH → Option (SQ SV)) (F : Nat) : Bool := match zcall y.pbs K' T O F y.d y.k y.ps seH with
  | .ok v h => match Nat.ble h.m 500001000 with
    | true => sameOut h v y.out
    | false => false
  | .no => false
/-- what a summary claims, at all numbers within its bounds -/
def Smy.Ok (y : Smy) (S : List SD) (F : Nat) : Prop := ∀ s, Bnd s y.pbs → ∀ ρ hc ws, hc.n ≤ 500000000 → SRs s ρ 0 y.ps ws → ∃ w hc', scall S F y.d y.k ws hc = .ok w hc' ∧ hc.n ≤ hc'.n ∧ hc'.n ≤ hc.n + 1000 ∧ (∀ j, j < hc.n → hc'.get j = hc.get j) ∧ match y.out with
  | .new xs => ∃ i ys, w = .ref i ∧ hc.n ≤ i ∧ hc'.get i = some (.lst ys false) ∧ SRs s ρ 0 xs ys
  | .val v => SR s ρ 0 v w
theorem Smy.ok {y : Smy} {K' : Nat → Option SV} {K : Nat → Option EV} {S : List SD} {T : List SFD} {O : Nat → Nat → List SV → SH → Option (SQ SV)} {F : Nat} (hK : ∀ k v, K' k = some v → ∃ w, K k = some w ∧ ∀ s ρ n, SR s ρ n v w) (hT : Tab K S T) (hO : ∀ s, Bnd s y.pbs → OOk s S F O) (h : y.chk K' T O F = true) : y.Ok S F := by
  intro s hB ρ hc ws hn r
  have m : Sim s ρ seH hc := ⟨fun i j hi => absurd hi (Nat.not_lt_zero i), fun i hi => absurd hi (Nat.not_lt_zero i), by decide, hn, by decide⟩
  have q := zcall_ok hB (K' := K') (K := K) (fun k v e => by obtain ⟨w, h1, h2⟩ := hK k v e; exact ⟨w, h1, h2 s⟩) hT (hO s hB) y.d y.k ρ seH hc y.ps ws m r
  unfold Smy.chk at h
  revert q h
  cases zcall y.pbs K' T O F y.d y.k y.ps seH with
  | no => intro h q; cases h
  | ok v h1 =>
    rintro h ⟨w, hc', ρ', e, st, rv⟩
    simp only at h
    split at h
    · rename_i em
      have em := Nat.le_of_ble_eq_true em
      have g := st.grow
      have g0 : seH.m = 500000000 := rfl
      refine ⟨w, hc', e, st.len, by omega, fun j hj => st.old j hj fun i hi => absurd hi (Nat.not_lt_zero i), ?_⟩
      revert h
      cases y.out with
      | new xs =>
        intro h
        cases rv with
        | ref hi =>
          rename_i i
          simp only [sameOut] at h
          split at h
          · rename_i ec
            split at h
            · obtain ⟨c, e2, q⟩ := st.sim.at ec
              cases q with
              | lst rs => exact ⟨_, _, rfl, st.new i (Nat.zero_le _) hi, e2, pmts_back (f := id) (s := s) (s' := s) (fun _ => rfl) h rs⟩
            · cases h
          · cases h
        | _ => simp [sameOut] at h
      | val x =>
        intro h
        have h' : pmt id x v = true := by
          revert h
          cases v <;> exact fun h => h
        exact pmt_back (f := id) (s := s) (s' := s) (fun _ => rfl) h' rv
    · cases h
/-- summaries, used -/
def orc1 (bs : List (Int × Int)) (y : Smy) (d k : Nat) (vs : List SV) (h : SH) : Option (SQ SV) := match Nat.beq y.k k with
  | false => none
  | true => match Nat.beq y.d d with
    | false => none
    | true => match y.slv vs with
      | none => none
      | some θ => match bndA bs θ y.pbs with
        | false => none
        | true => match pmts (AI.put θ) y.ps vs with
          | false => none
          | true => match Nat.ble h.m 500000000 with
            | false => none
            | true => match y.out with
              | .new xs => match vputs (AI.put θ) xs with
                | some ys => fN (h.n + 1) fun n => fN (h.m + 1000) fun m => some (.ok (.ref h.n) ⟨n, m, h.t.put 40 h.n (.lst ys false)⟩)
                | none => none
              | .val v => match vput (AI.put θ) v with
                | some v => fN (h.m + 1000) fun m => some (.ok v ⟨h.n, m, h.t⟩)
                | none => none
def orc (bs : List (Int × Int)) : List Smy → Nat → Nat → List SV → SH → Option (SQ SV)
  | [], _, _, _, _ => none
  | y :: r, d, k, vs, h => match orc1 bs y d k vs h with
    | some q => some q
    | none => orc bs r d k vs h
theorem orc1_ok {s : List Int} {bs : List (Int × Int)} (hB : Bnd s bs) {S : List SD} {F : Nat} {y : Smy} (hy : y.Ok S F) {d k : Nat} {vs : List SV} {hs : SH} {r : SQ SV} (h : orc1 bs y d k vs hs = some r) {ρ : Nat → Nat} {hc : EH} {ws : List EV} (m : Sim s ρ hs hc) (rs : SRs s ρ hs.n vs ws) : Okk s (rV s) ρ hs hc r (scall S F d k ws hc) := by
  unfold orc1 at h
  split at h
  · cases h
  · rename_i ek
    split at h
    · cases h
    · rename_i ed
      split at h
      · cases h
      · rename_i θ _
        split at h
        · cases h
        · rename_i eb
          split at h
          · cases h
          · rename_i ep
            split at h
            · cases h
            · rename_i em
              have em := Nat.le_of_ble_eq_true em
              have ek := Nat.eq_of_beq_eq_true ek
              have ed := Nat.eq_of_beq_eq_true ed
              have hf := AI.val_put s θ
              obtain ⟨w, hc', e, h1, h2, h3, h4⟩ := hy _ (bndA_ok hB eb) ρ hc ws (by have := m.le2; omega) (pmts_back (f := AI.put θ) hf ep rs)
              rw [ek, ed] at e
              split at h
              · rename_i xs eo
                rw [eo] at h4
                obtain ⟨i, ys, ew, hi, e2, r2⟩ := h4
                split at h
                · rename_i zs ez
                  simp only [fN_eq] at h
                  cases h
                  subst ew
                  have rz := vputs_ok (f := AI.put θ) hf (ρ' := fun j => if j = hs.n then i else ρ j) (n' := hs.n + 1) ez r2
                  have lt := EH.get_lt e2
                  have ag : ∀ j, j < hs.n → (fun j => if j = hs.n then i else ρ j) j = ρ j := fun j hj => if_neg (by omega)
                  have l1 := m.le1
                  have l2 := m.le2
                  refine ⟨_, hc', fun j => if j = hs.n then i else ρ j, e, ⟨Nat.le_succ _, ag, ⟨?_, ?_, ?_, ?_, ?_⟩, h1, fun j hj _ => h3 j hj, ?_, ?_⟩, ?_⟩
                  · intro a b ha hb e
                    have ha : a < hs.n + 1 := ha
                    have hb : b < hs.n + 1 := hb
                    by_cases q1 : a = hs.n
                    · by_cases q2 : b = hs.n
                      · omega
                      · simp only [if_pos q1, if_neg q2] at e
                        have := m.lt (i := b) (by omega)
                        omega
                    · by_cases q2 : b = hs.n
                      · simp only [if_neg q1, if_pos q2] at e
                        have := m.lt (i := a) (by omega)
                        omega
                      · simp only [if_neg q1, if_neg q2] at e
                        exact m.inj a b (by omega) (by omega) e
                  · intro a ha
                    have ha : a < hs.n + 1 := ha
                    by_cases q1 : a = hs.n
                    · subst q1
                      refine ⟨.lst zs false, .lst ys false, SH.get_push_same (h := ⟨hs.n, hs.m, hs.t⟩) (by show hs.n < _; omega), ?_, .lst rz⟩
                      rw [if_pos rfl]
                      exact e2
                    · have ha' : a < hs.n := by omega
                      obtain ⟨c, c', e1, e3, e4⟩ := m.cell a ha'
                      refine ⟨c, c', (SH.get_push_lt (h := ⟨hs.n, hs.m, hs.t⟩) ha').trans e1, ?_, e4.mono (Nat.le_succ _) ag⟩
                      rw [if_neg q1, h3 _ (m.lt ha')]
                      exact e3
                  · show hs.n + 1 ≤ hs.m + 1000
                    omega
                  · show hc'.n ≤ hs.m + 1000
                    omega
                  · show hs.m + 1000 ≤ 1000000000
                    omega
                  · intro a q1 q2
                    have q2 : a < hs.n + 1 := q2
                    have : a = hs.n := by omega
                    simp only [this, if_pos]
                    exact hi
                  · show hc'.n + hs.m ≤ hc.n + (hs.m + 1000)
                    omega
                  · have k : SR s (fun j => if j = hs.n then i else ρ j) (hs.n + 1) (.ref hs.n) (.ref ((fun j => if j = hs.n then i else ρ j) hs.n)) := .ref (Nat.lt_succ_self _)
                    simp only [if_pos] at k
                    exact k
                · cases h
              · rename_i v eo
                rw [eo] at h4
                split at h
                · rename_i v2 ev
                  simp only [fN_eq] at h
                  cases h
                  have l1 := m.le1
                  have l2 := m.le2
                  refine ⟨_, hc', ρ, e, ⟨Nat.le_refl _, fun _ _ => rfl, ⟨m.inj, fun a ha => ?_, ?_, ?_, ?_⟩, h1, fun j hj _ => h3 j hj, fun a q1 q2 => absurd q1 (by have : a < hs.n := q2; omega), ?_⟩, vput_ok (f := AI.put θ) hf ev h4⟩
                  · obtain ⟨c, c', e1, e3, e4⟩ := m.cell a ha
                    exact ⟨c, c', e1, by rw [h3 _ (m.lt ha)]; exact e3, e4⟩
                  · show hs.n ≤ hs.m + 1000
                    omega
                  · show hc'.n ≤ hs.m + 1000
                    omega
                  · show hs.m + 1000 ≤ 1000000000
                    omega
                  · show hc'.n + hs.m ≤ hc.n + (hs.m + 1000)
                    omega
                · cases h
theorem orc_ok {s : List Int} {bs : List (Int × Int)} (hB : Bnd s bs) {S : List SD} {F : Nat} : ∀ {L : List Smy}, (∀ y ∈ L, y.Ok S F) → OOk s S F (orc bs L)
  | [], _ => fun d k vs hs r h => by cases h
  | y :: L, hL => fun d k vs hs r h ρ hc ws m rs => by
    unfold orc at h
    split at h
    · rename_i q e
      cases h
      exact orc1_ok hB (hL y (.head _)) e m rs
    · exact orc_ok hB (fun y hy => hL y (.tail _ hy)) d k vs hs r h ρ hc ws m rs
end EM
end
section
set_option Elab.async false
set_option linter.all false
set_option maxRecDepth 100000
set_option maxHeartbeats 1000000
/-! F8: pieces of a run, one after another: after each piece only what is still wanted is kept, with new numbers for its cells. -/
namespace EM
open PySem
def atN : List Nat → Nat → Option Nat
  | [], _ => none
  | x :: _, 0 => some x
  | _ :: r, i + 1 => atN r i
section
variable (π : List Nat)
mutual
/-- the former, with cells told by π, is the latter -/
def rnv : SV → SV → Bool
  | .int x, .int y => match x.sub y with
    | ⟨c, us⟩ => match ieq c 0 with
      | true => zeroL us
      | false => false
  | .tup xs, .tup ys => rnvs xs ys
  | .ref j, .ref i => match atN π j with
    | some k => Nat.beq k i
    | none => false
  | .non, .non => true
  | .bl a, .bl b => a == b
  | _, _ => false
def rnvs : List SV → List SV → Bool
  | [], [] => true
  | x :: xs, y :: ys => match rnv x y with
    | true => rnvs xs ys
    | false => false
  | _, _ => false
end
def rnks : List (SV × SV) → List (SV × SV) → Bool
  | [], [] => true
  | (k, v) :: r, (k', v') :: r' => match rnv π k k' with
    | true => match rnv π v v' with
      | true => rnks r r'
      | false => false
    | false => false
  | _, _ => false
def rnc : SCL → SCL → Bool
  | .lst xs a, .lst ys b => match a == b with
    | true => rnvs π xs ys
    | false => false
  | .dct xs a, .dct ys b => match a == b with
    | true => rnks π xs ys
    | false => false
  | _, _ => false
def rns : SSg → SSg → Bool
  | [], [] => true
  | none :: r, _ :: r' => rns r r'
  | some v :: r, some w :: r' => match rnv π v w with
    | true => rns r r'
    | false => false
  | _, _ => false
def rnh (h2 h : SH) : Nat → Bool
  | 0 => true
  | k + 1 => match atN π k with
    | some i => match h2.get k with
      | some c2 => match h.get i with
        | some c => match rnc π c2 c with
          | true => rnh h2 h k
          | false => false
        | none => false
      | none => false
    | none => false
def notIn (x : Nat) : List Nat → Bool
  | [] => true
  | y :: r => match Nat.beq x y with
    | true => false
    | false => notIn x r
def once : List Nat → Bool
  | [] => true
  | x :: r => match notIn x r with
    | true => once r
    | false => false
def cmpt (σ : SSg) (h : SH) (σ2 : SSg) (h2 : SH) : Bool := match rns π σ2 σ with
  | true => match rnh π h2 h h2.n with
    | true => match once π with
      | true => Nat.ble h2.n h2.m
      | false => false
    | false => false
  | false => false
end
theorem notIn_ok {x : Nat} : ∀ {l : List Nat} {i y : Nat}, notIn x l = true → atN l i = some y → x ≠ y
  | [], i, y, _, h => by cases h
  | z :: l, i, y, h, e => by
    unfold notIn at h
    split at h
    · cases h
    · rename_i ne
      cases i with
      | zero => cases e; exact fun q => by rw [q, Nat.beq_refl] at ne; cases ne
      | succ i => exact notIn_ok (l := l) (i := i) h e
theorem once_ok : ∀ {l : List Nat} {i j y : Nat}, once l = true → atN l i = some y → atN l j = some y → i = j
  | [], i, j, y, _, h, _ => by cases h
  | z :: l, i, j, y, h, e1, e2 => by
    unfold once at h
    split at h
    · rename_i ni
      cases i with
      | zero =>
        cases j with
        | zero => rfl
        | succ j => cases e1; exact absurd rfl (notIn_ok ni (i := j) e2)
      | succ i =>
        cases j with
        | zero => cases e2; exact absurd rfl (notIn_ok ni (i := i) e1)
        | succ j => rw [once_ok (l := l) (i := i) (j := j) h e1 e2]
    · cases h
section
variable {s : List Int} {π : List Nat} {ρ : Nat → Nat} {n : Nat}
def rhoP (π : List Nat) (ρ : Nat → Nat) (j : Nat) : Nat := match atN π j with
  | some i => ρ i
  | none => 0
theorem atN_lt : ∀ {l : List Nat} {j i : Nat}, atN l j = some i → j < l.length
  | [], j, i, h => by cases h
  | x :: r, 0, i, h => Nat.succ_pos _
  | x :: r, j + 1, i, h => Nat.succ_lt_succ (atN_lt (l := r) h)
structure PI (π : List Nat) (n2 : Nat) : Prop where
  at_ : ∀ j i, atN π j = some i → j < n2
mutual
theorem rnv_ok (hπ : PI π n') : ∀ {p v : SV} {w : EV}, rnv π p v = true → SR s ρ n v w → SR s (rhoP π ρ) n' p w
  | .int x, v, w, h, r => by
    cases r with
    | int e =>
      unfold rnv at h
      exact .int (e.trans (same_val (f := id) (s := s) (s' := s) (fun _ => rfl) h).symm)
    | _ => simp [rnv] at h
  | .tup xs, v, w, h, r => by
    cases r with
    | tup rs =>
      unfold rnv at h
      exact .tup (rnvs_ok hπ h rs)
    | _ => simp [rnv] at h
  | .ref j, v, w, h, r => by
    cases r with
    | @ref i hi =>
      unfold rnv at h
      split at h
      · rename_i k ek
        have e := Nat.eq_of_beq_eq_true h
        subst e
        have q : SR s (rhoP π ρ) n' (.ref j) (.ref (rhoP π ρ j)) := .ref (hπ.at_ _ _ ek)
        have e : rhoP π ρ j = ρ k := by unfold rhoP; rw [ek]
        rw [e] at q
        exact q
      · cases h
    | _ => simp [rnv] at h
  | .non, v, w, h, r => by
    cases r with
    | non => exact .non
    | _ => simp [rnv] at h
  | .bl a, v, w, h, r => by
    cases r with
    | bl b =>
      unfold rnv at h
      rw [eq_of_beq h]
      exact .bl _
    | _ => simp [rnv] at h
  | .str z, v, w, h, r => by simp [rnv] at h
theorem rnvs_ok (hπ : PI π n') : ∀ {p v : List SV} {w : List EV}, rnvs π p v = true → SRs s ρ n v w → SRs s (rhoP π ρ) n' p w
  | [], v, w, h, r => by
    cases r with
    | nil => exact .nil
    | cons _ _ => simp [rnvs] at h
  | x :: xs, v, w, h, r => by
    cases r with
    | nil => simp [rnvs] at h
    | cons a b =>
      unfold rnvs at h
      split at h
      · rename_i e
        exact .cons (rnv_ok hπ e a) (rnvs_ok hπ h b)
      · cases h
end
theorem rnks_ok (hπ : PI π n') : ∀ {p v : List (SV × SV)} {w : List (EV × EV)}, rnks π p v = true → SKs s ρ n v w → SKs s (rhoP π ρ) n' p w
  | [], v, w, h, r => by
    cases r with
    | nil => exact .nil
    | cons _ _ _ => simp [rnks] at h
  | (k, x) :: xs, v, w, h, r => by
    cases r with
    | nil => simp [rnks] at h
    | cons a b c =>
      unfold rnks at h
      split at h
      · rename_i e
        split at h
        · rename_i e2
          exact .cons (rnv_ok hπ e a) (rnv_ok hπ e2 b) (rnks_ok hπ h c)
        · cases h
      · cases h
theorem rnc_ok (hπ : PI π n') {p v : SCL} {w : CL} (h : rnc π p v = true) (r : SCr s ρ n v w) : SCr s (rhoP π ρ) n' p w := by
  cases r with
  | lst rs =>
    cases p with
    | lst xs a =>
      simp only [rnc] at h
      split at h
      · rename_i e
        rw [eq_of_beq e]
        exact .lst (rnvs_ok hπ h rs)
      · cases h
    | dct xs a => simp [rnc] at h
  | dct rs =>
    cases p with
    | lst xs a => simp [rnc] at h
    | dct xs a =>
      simp only [rnc] at h
      split at h
      · rename_i e
        rw [eq_of_beq e]
        exact .dct (rnks_ok hπ h rs)
      · cases h
theorem rns_ok (hπ : PI π n') : ∀ {p v : SSg} {w : Sg}, rns π p v = true → SS s ρ n v w → SS s (rhoP π ρ) n' p w
  | [], _, _, h, .nil => .nil
  | none :: p, _, _, h, .no r => .no (rns_ok hπ (p := p) (by simpa [rns] using h) r)
  | none :: p, _, _, h, .so _ r => .no (rns_ok hπ (p := p) (by simpa [rns] using h) r)
  | some x :: p, _, _, h, .so a r => by
    unfold rns at h
    split at h
    · rename_i e
      exact .so (rnv_ok hπ e a) (rns_ok hπ (p := p) h r)
    · cases h
  | some x :: p, _, _, h, .no r => by simp [rns] at h
  | _ :: p, _, _, h, .nil => by simp [rns] at h
  | [], _, _, h, .so _ r => by simp [rns] at h
  | [], _, _, h, .no r => by simp [rns] at h
theorem rnh_ok {h2 h : SH} : ∀ {k : Nat}, rnh π h2 h k = true → ∀ j, j < k → ∃ i c2 c, atN π j = some i ∧ h2.get j = some c2 ∧ h.get i = some c ∧ rnc π c2 c = true
  | 0, _, j, hj => absurd hj (Nat.not_lt_zero j)
  | k + 1, e, j, hj => by
    unfold rnh at e
    split at e
    · rename_i i ei
      split at e
      · rename_i c2 e2
        split at e
        · rename_i c e3
          split at e
          · rename_i e4
            by_cases q : j = k
            · subst q; exact ⟨i, c2, c, ei, e2, e3, e4⟩
            · exact rnh_ok e j (by omega)
          · cases e
        · cases e
      · cases e
    · cases e
theorem cmpt_ok {σ σ2 : SSg} {h h2 : SH} {hc : EH} {τ : Sg} (hl : π.length = h2.n) (e : cmpt π σ h σ2 h2 = true) (m : Sim s ρ h hc) (ss : SS s ρ h.n σ τ) (hm : hc.n ≤ h2.m) (h9 : h2.m ≤ 1000000000) : Sim s (rhoP π ρ) h2 hc ∧ SS s (rhoP π ρ) h2.n σ2 τ := by
  have hπ : PI π h2.n := ⟨fun j i ei => hl ▸ atN_lt ei⟩
  unfold cmpt at e
  split at e
  · rename_i e1
    split at e
    · rename_i e2
      split at e
      · rename_i e3
        have e4 := Nat.le_of_ble_eq_true e
        refine ⟨⟨fun i j hi hj q => ?_, fun j hj => ?_, e4, hm, h9⟩, rns_ok hπ e1 ss⟩
        · obtain ⟨a, _, ca, ea, _, ga, _⟩ := rnh_ok e2 i hi
          obtain ⟨b, _, cb, eb, _, gb, _⟩ := rnh_ok e2 j hj
          unfold rhoP at q
          rw [ea, eb] at q
          have := m.inj a b (SH.get_lt ga) (SH.get_lt gb) q
          subst this
          exact once_ok e3 ea eb
        · obtain ⟨a, c2, c, ea, g2, ga, rc⟩ := rnh_ok e2 j hj
          obtain ⟨c', g', r⟩ := m.at ga
          refine ⟨c2, c', g2, ?_, rnc_ok hπ rc r⟩
          unfold rhoP
          rw [ea]
          exact g'
      · cases e
    · cases e
  · cases e
end
/-! ### pieces -/
section
variable {s : List Int} {bs : List (Int × Int)} {K' : Nat → Option SV} {K : Nat → Option EV} {C' : Nat → List SV → SH → SQ SV} {C : Nat → List EV → EH → R EV} {F : Nat}
def St (s : List Int) (σ : SSg) (h : SH) (τ : Sg) (hc : EH) : Prop := ∃ ρ, Sim s ρ h hc ∧ SS s ρ h.n σ τ
def apS : XSs → XSs → XSs
  | .nil, q => q
  | .cons a r, q => .cons a (apS r q)
theorem exs_ap {q : XSs} : ∀ {p : XSs} {τ τ' : Sg} {hc hc' : EH}, exs K C F p τ hc = .ok (.nx τ') hc' → exs K C F (apS p q) τ hc = exs K C F q τ' hc'
  | .nil, τ, τ', hc, hc', e => by cases e; rfl
  | .cons a r, τ, τ', hc, hc', e => by
    have e : (ex K C F a τ hc).bind (fun fl h => match fl with
      | .nx σ => exs K C F r σ h
      | .bk σ => .ok (.bk σ) h
      | .ct σ => .ok (.ct σ) h
      | .rt v => .ok (.rt v) h) = .ok (.nx τ') hc' := e
    show (ex K C F a τ hc).bind (fun fl h => match fl with
      | .nx σ => exs K C F (apS r q) σ h
      | .bk σ => .ok (.bk σ) h
      | .ct σ => .ok (.ct σ) h
      | .rt v => .ok (.rt v) h) = _
    revert e
    cases ex K C F a τ hc with
    | ok fl h =>
      cases fl with
      | nx σ => intro e; exact exs_ap (p := r) e
      | bk σ => intro e; cases e
      | ct σ => intro e; cases e
      | rt v => intro e; cases e
    | ex c p h => intro e; cases e
    | bad => intro e; cases e
/-- a piece of code, run; what is kept -/
def chkC (bs : List (Int × Int)) (K' : Nat → Option SV) (C' : Nat → List SV → SH → SQ SV) (F : Nat) (code : XSs) (σ : SSg) (h : SH) (π : List Nat) (σ2 : SSg) (h2 : SH) : Bool := match zexs bs K' C' F code σ h with
  | .ok (.nx σ') h' => match Nat.ble h'.m (h.m + 10000000) with
    | true => cmpt π σ' h' σ2 h2
    | false => false
  | _ => false
theorem chkC_ok (z : Env2 s bs K' K C' C) {code : XSs} {σ σ2 : SSg} {h h2 : SH} {π : List Nat} (e : chkC bs K' C' F code σ h π σ2 h2 = true) (hl : π.length = h2.n) (h9 : h2.m ≤ 1000000000) {τ : Sg} {hc : EH} (st : St s σ h τ hc) (hm : hc.n + 10000000 ≤ h2.m) :
    ∃ τ' hc', exs K C F code τ hc = .ok (.nx τ') hc' ∧ St s σ2 h2 τ' hc' ∧ hc'.n ≤ hc.n + 10000000 := by
  obtain ⟨ρ, m, ss⟩ := st
  have q := zexs_ok (F := F) z code ρ h hc σ τ m ss
  unfold chkC at e
  revert e q
  cases zexs bs K' C' F code σ h with
  | no => intro e q; cases e
  | ok fl h' =>
    cases fl with
    | nx σ' =>
      rintro e ⟨fl', hc', ρ', e1, st, rf⟩
      cases rf with
      | nx ss' =>
        simp only at e
        split at e
        · rename_i em
          have em := Nat.le_of_ble_eq_true em
          have g := st.grow
          obtain ⟨m2, ss2⟩ := cmpt_ok hl e st.sim ss' (by omega) h9
          exact ⟨_, hc', e1, ⟨_, m2, ss2⟩, by omega⟩
        · cases e
    | bk σ' => intro e q; cases e
    | ct σ' => intro e q; cases e
    | rt v => intro e q; cases e
/-- a piece that ends with True -/
def chkT (bs : List (Int × Int)) (K' : Nat → Option SV) (C' : Nat → List SV → SH → SQ SV) (F : Nat) (code : XSs) (σ : SSg) (h : SH) : Bool := match zexs bs K' C' F code σ h with
  | .ok (.rt (.bl true)) _ => true
  | _ => false
theorem chkT_ok (z : Env2 s bs K' K C' C) {code : XSs} {σ : SSg} {h : SH} (e : chkT bs K' C' F code σ h = true) {τ : Sg} {hc : EH} (st : St s σ h τ hc) : ∃ hc', exs K C F code τ hc = .ok (.rt (.bl true)) hc' := by
  obtain ⟨ρ, m, ss⟩ := st
  have q := zexs_ok (F := F) z code ρ h hc σ τ m ss
  unfold chkT at e
  revert e q
  cases zexs bs K' C' F code σ h with
  | no => intro e q; cases e
  | ok fl h' =>
    cases fl with
    | rt v =>
      cases v with
      | bl b =>
        cases b with
        | true =>
          rintro e ⟨fl', hc', ρ', e1, st, rf⟩
          cases rf with
          | rt r => cases r; exact ⟨hc', e1⟩
        | false => intro e q; cases e
      | _ => intro e q; cases e
    | bk σ' => intro e q; cases e
    | ct σ' => intro e q; cases e
    | nx σ' => intro e q; cases e
/-- one turn of a loop leaves all as it was -/
def chkI (bs : List (Int × Int)) (K' : Nat → Option SV) (C' : Nat → List SV → SH → SQ SV) (F : Nat) (g : XG) (b : XSs) (σ : SSg) (h : SH) (π : List Nat) (d : SV) : Bool := match (zeg bs K' C' F g d σ h).bind fun σ2 h => zexs bs K' C' F b σ2 h with
  | .ok (.nx σ') h' => match Nat.ble h'.m (h.m + 1000000) with
    | true => cmpt π σ' h' σ h
    | false => false
  | _ => false
theorem atN_range : ∀ {n j : Nat} (a : Nat), j < n → atN (List.range' a n) j = some (a + j)
  | 0, j, a, h => absurd h (Nat.not_lt_zero j)
  | n + 1, 0, a, h => rfl
  | n + 1, j + 1, a, h => by
    rw [List.range'_succ]
    show atN (List.range' (a + 1) n) j = _
    rw [atN_range (a + 1) (by omega)]
    congr 1
    omega
theorem chkI_ok (z : Env2 s bs K' K C' C) {g : XG} {b : XSs} {σ : SSg} {h : SH} {π : List Nat} (hπ : π = List.range' 0 h.n) (h9 : h.m ≤ 1000000000) : ∀ (ks : List SV), (∀ d ∈ ks, chkI bs K' C' F g b σ h π d = true) →
    ∀ (f : Nat) (i : Nat) (ρ : Nat → Nat) (τ : Sg) (hc : EH) (j' : IT), ks.length < f → Sim s ρ h hc → SS s ρ h.n σ τ → TR s ρ h.n (.key i ks) j' → hc.n + 1000000 * ks.length ≤ h.m →
      ∃ τ' hc', forL (eg K C F g) (exs K C F b) f j' τ hc = .ok (.nx τ') hc' ∧ St s σ h τ' hc' := by
  intro ks
  induction ks with
  | nil =>
    intro _ f i ρ τ hc j' hf m ss tr _
    cases f with
    | zero => cases hf
    | succ f =>
      have q := step_ok m tr
      simp only [ST.step] at q
      exact ⟨τ, hc, by unfold forL; rw [q], ρ, m, ss⟩
  | cons d ks ih =>
    intro hd f i ρ τ hc j' hf m ss tr hm
    cases f with
    | zero => cases hf
    | succ f =>
      have q := step_ok m tr
      simp only [ST.step] at q
      obtain ⟨w, b', eb, rw', tr2⟩ := q
      have hm : hc.n + 1000000 * (ks.length + 1) ≤ h.m := hm
      have q : Okk s (rF s) ρ h hc ((zeg bs K' C' F g d σ h).bind fun σ2 h => zexs bs K' C' F b σ2 h) ((eg K C F g w τ hc).bind fun σ2 h => exs K C F b σ2 h) := (zeg_ok z g ρ h hc σ τ d w m ss rw').bind fun σ2 τ2 ρ2 h2 c2 st2 ss2 => zexs_ok z b ρ2 h2 c2 σ2 τ2 st2.sim ss2
      have e := hd d (.head _)
      unfold chkI at e
      revert q e
      cases (zeg bs K' C' F g d σ h).bind fun σ2 h => zexs bs K' C' F b σ2 h with
      | no => intro q e; cases e
      | ok fl h' =>
        cases fl with
        | nx σ' =>
          rintro ⟨fl', hc', ρ', e1, st, rf⟩ e
          cases rf with
          | nx ss' =>
            simp only at e
            split at e
            · rename_i em
              have em := Nat.le_of_ble_eq_true em
              have g := st.grow
              have hl : π.length = h.n := by rw [hπ, List.length_range']
              obtain ⟨m2, ss2⟩ := cmpt_ok hl e st.sim ss' (by omega) h9
              have ag : ∀ a, a < h.n → rhoP π ρ' a = ρ a := fun a ha => by
                unfold rhoP
                rw [hπ, atN_range 0 ha]
                simp only [Nat.zero_add]
                exact st.ag a ha
              obtain ⟨τ', hc2, e2, r2⟩ := ih (fun d hd' => hd d (.tail _ hd')) f i _ _ hc' b' (by have : ks.length + 1 < f + 1 := hf; omega) m2 ss2 (tr2.mono (Nat.le_refl _) ag) (by omega)
              refine ⟨τ', hc2, ?_, r2⟩
              unfold forL
              rw [eb]
              simp only
              revert e1
              cases h0 : eg K C F _ w τ hc with
              | ok σ2 h =>
                intro e1
                have e1 : exs K C F b σ2 h = .ok (.nx _) hc' := e1
                show (exs K C F b σ2 h).bind _ = _
                rw [e1]
                exact e2
              | ex c p h => intro e1; cases e1
              | bad => intro e1; cases e1
            · cases e
        | bk σ' => intro q e; cases e
        | ct σ' => intro q e; cases e
        | rt v => intro q e; cases e
/-- what a loop over a dict walks -/
def chkW (bs : List (Int × Int)) (K' : Nat → Option SV) (C' : Nat → List SV → SH → SQ SV) (F : Nat) (it : XI) (σ : SSg) (h : SH) (ks : List SV) (π : List Nat) (h2 : SH) : Bool := match zeit bs K' C' F it σ h with
  | .ok (.key i ks') h' => match Nat.ble h'.m (h.m + 1000000) with
    | true => match rnvs π ks ks' with
      | true => cmpt π σ h' σ h2
      | false => false
    | false => false
  | _ => false
theorem PI_of {π : List Nat} {n2 : Nat} (hl : π.length = n2) : PI π n2 := ⟨fun j i ei => hl ▸ atN_lt ei⟩
/-- a loop over a dict whose turns leave all as it was -/
theorem loop_ok (z : Env2 s bs K' K C' C) {g : XG} {it : XI} {b : XSs} {σ : SSg} {h h2 : SH} {π : List Nat} {ks : List SV} (hπ : π = List.range' 0 h2.n) (h9 : h2.m ≤ 1000000000) (hf : ks.length < F) (ew : chkW bs K' C' F it σ h ks π h2 = true) (ei : ∀ d ∈ ks, chkI bs K' C' F g b σ h2 π d = true)
    {τ : Sg} {hc : EH} (st : St s σ h τ hc) (hm : hc.n + 1000000 * (ks.length + 1) ≤ h2.m) : ∃ τ' hc', ex K C F (.for_ g it b) τ hc = .ok (.nx τ') hc' ∧ St s σ h2 τ' hc' := by
  obtain ⟨ρ, m, ss⟩ := st
  have hl : π.length = h2.n := by rw [hπ, List.length_range']
  have q := zeit_ok (F := F) z it ρ h hc σ τ m ss
  unfold chkW at ew
  revert ew q
  cases zeit bs K' C' F it σ h with
  | no => intro e q; cases e
  | ok j h' =>
    cases j with
    | key i ks' =>
      rintro e ⟨j', hc', ρ', e1, st, tr⟩
      simp only at e
      split at e
      · rename_i em
        have em := Nat.le_of_ble_eq_true em
        have g := st.grow
        split at e
        · rename_i ek
          cases tr with
          | @key _ j0 _ ks2 rk =>
            have ss' := ss.mono st.le st.ag
            obtain ⟨m2, ss2⟩ := cmpt_ok hl e st.sim ss' (by omega) h9
            obtain ⟨τ', hc2, e2, r2⟩ := chkI_ok z hπ h9 ks ei F i _ _ hc' (.key j0 ks2) hf m2 ss2 (.key (rnvs_ok (PI_of hl) ek rk)) (by omega)
            refine ⟨τ', hc2, ?_, r2⟩
            show (eit K C F it τ hc).bind _ = _
            rw [e1]
            exact e2
        · cases e
      · cases e
    | _ => intro e q; cases e
end
end EM
end
section
set_option Elab.async false
set_option linter.all false
set_option maxRecDepth 100000
set_option maxHeartbeats 1000000
/-! G0: the laws' draws. -/
namespace EM
open PySem
theorem retI_eq {i : Int} {h : EH} : retI i h = .ok (.int i) h := by unfold retI; rw [fI_eq]
theorem add_int {i j : Int} {h : EH} : binE .Add (.int i) (.int j) h = .ok (.int (i + j)) h := retI_eq
theorem sub_int {i j : Int} {h : EH} : binE .Sub (.int i) (.int j) h = .ok (.int (i - j)) h := retI_eq
theorem mul_r {i j : Int} {h : EH} (l : lim64 j = true) : binE .Mult (.int i) (.int j) h = .ok (.int (i * j)) h := by
  have q : ∀ b c : Bool, c = true → (match b with | true => retI (i * j) h | false => match c with | true => retI (i * j) h | false => .bad) = .ok (.int (i * j)) h := by
    intro b c e
    subst e
    cases b <;> exact retI_eq
  exact q (lim64 i) (lim64 j) l
theorem mul_l {i j : Int} {h : EH} (l : lim64 i = true) : binE .Mult (.int i) (.int j) h = .ok (.int (i * j)) h := by
  have q : ∀ b c : Bool, b = true → (match b with | true => retI (i * j) h | false => match c with | true => retI (i * j) h | false => .bad) = .ok (.int (i * j)) h := by
    intro b c e
    subst e
    exact retI_eq
  exact q (lim64 i) (lim64 j) l
theorem mod_int {i j : Int} {h : EH} (l : 0 < j) : binE .Mod (.int i) (.int j) h = .ok (.int (i % j)) h := by
  match j, l with
  | .ofNat (n + 1), _ => exact retI_eq
theorem div_int {i j : Int} {h : EH} (l : 0 < j) (l2 : j < 1073741824) : binE .FloorDiv (.int i) (.int j) h = .ok (.int (i / j)) h := by
  obtain ⟨n, rfl⟩ := Int.eq_succ_of_zero_lt l
  have e : Nat.blt (n + 1) 1073741824 = true := by
    simp only [Nat.blt, Nat.ble_eq]
    omega
  have q : ∀ b : Bool, b = true → (match b with | true => retI (i / (Int.ofNat (n + 1))) h | false => .bad) = .ok (.int (i / (Int.ofNat (n + 1)))) h := by
    intro b e
    subst e
    exact retI_eq
  exact q _ e
theorem pow_int {i : Int} {n : Nat} {h : EH} (l : lim64 i = true) (l2 : n ≤ 1000000) : binE .Pow (.int i) (.int (.ofNat n)) h = .ok (.int (i ^ n)) h := by
  have e : Nat.ble n 1000000 = true := Nat.ble_eq.mpr l2
  have q : ∀ b c : Bool, b = true → c = true → (match b with | true => (match c with | true => retI (i ^ n) h | false => .bad) | false => .bad) = .ok (.int (i ^ n)) h := by
    intro b c e f
    subst e
    subst f
    exact retI_eq
  exact q _ _ e l
theorem lim_of {i : Int} (h0 : 0 ≤ i) (h1 : i < 18446744073709551616) : lim64 i = true := by
  obtain ⟨n, rfl⟩ := Int.eq_ofNat_of_zero_le h0
  show Nat.blt n 18446744073709551616 = true
  simp only [Nat.blt, Nat.ble_eq]
  omega
theorem shp_int (a : Int) : SeqAt.shaped (.int a) = true := by simp [SeqAt.shaped, PyData.canLay0, PyData.depth]
theorem eq_int {a b : Int} {h : EH} : cmpE .Eq (.int a) (.int b) h = .ok (.bl (decide (a = b))) h := by
  have e : ∀ a : Int, rd 20 h (.int a) = some (.int a) := fun _ => rfl
  simp only [cmpE, eqE, e, shp_int, PyData.eqv, retB, Bool.beq_eq_decide_eq]
theorem rd_ints {h : EH} (f : Nat) : ∀ ms : List Int, mapO (rd (f + 1) h) (ms.map .int) = some (ms.map .int)
  | [] => rfl
  | m :: ms => by
    have e : rd (f + 1) h (.int m) = some (.int m) := rfl
    simp only [List.map_cons, mapO, e, rd_ints f ms]
theorem lay_ints : ∀ ms : List Int, PyData.canLayAll0 (ms.map .int) = true
  | [] => rfl
  | m :: ms => by simp [PyData.canLayAll0, PyData.canLay0, lay_ints ms]
theorem dep_ints : ∀ ms : List Int, PyData.depthAll (ms.map .int) ≤ 1
  | [] => by simp [PyData.depthAll]
  | m :: ms => by
    have := dep_ints ms
    simp [PyData.depthAll, PyData.depth]
    omega
theorem shp_ints (ms : List Int) : SeqAt.shaped (.list (ms.map .int)) = true := fines (lay_ints ms) (dep_ints ms) (by decide)
theorem rd_lst {f q : Nat} {xs : List EV} {lk : Bool} {ds : List PyData} {h : EH} (hq : h.get q = some (.lst xs lk)) (e : mapO (rd f h) xs = some ds) : rd (f + 1) h (.ref q) = some (.list ds) := by
  simp only [rd, hq, e]
theorem ne_ints {q e : Nat} {ms : List Int} {h : EH} (hq : h.get q = some (.lst (ms.map .int) false)) (he : h.get e = some (.lst [] false)) : cmpE .NotEq (.ref q) (.ref e) h = .ok (.bl (!decide (ms = []))) h := by
  have e1 : rd 20 h (.ref q) = some (.list (ms.map .int)) := rd_lst hq (rd_ints 18 ms)
  have e2 : rd 20 h (.ref e) = some (.list (([] : List Int).map .int)) := rd_lst he (rd_ints 18 [])
  simp only [cmpE, eqE, e1, e2, shp_ints, retB]
  cases ms with
  | nil => rfl
  | cons m ms => rfl
theorem gt_int {a b : Int} {h : EH} : cmpE .Gt (.int a) (.int b) h = .ok (.bl (decide (b < a))) h := by simp only [cmpE, retB, ilt_eq]
theorem ge_int {a b : Int} {h : EH} : cmpE .GtE (.int a) (.int b) h = .ok (.bl (!decide (a < b))) h := by simp only [cmpE, retB, ilt_eq]
theorem get_l {r k : Nat} {xs : List EV} {lk : Bool} {v : EV} {h : EH} (hr : h.get r = some (.lst xs lk)) (hk : xs[k]? = some v) : getE (.ref r) (.int (.ofNat k)) h = .ok v h := by
  have lt : k < xs.length := (List.getElem?_eq_some_iff.mp hk).1
  have e : Nat.blt k xs.length = true := by simp only [Nat.blt, Nat.ble_eq]; omega
  simp only [getE, hr, ixE, e, hk]
theorem set_l {r k : Nat} {xs : List EV} {v : EV} {h : EH} (hr : h.get r = some (.lst xs false)) (hk : k < xs.length) : setE (.ref r) (.int (.ofNat k)) v h = .ok () (h.put r (.lst (xs.set k v) false)) := by
  have e : Nat.blt k xs.length = true := by simp only [Nat.blt, Nat.ble_eq]; omega
  simp only [setE, hr, ixE, e]
theorem abs_int {i : Int} {h : EH} : biE .abs [.int i] h = .ok (.int (absI i)) h := by simp only [biE, retI_eq]
theorem int_int {i : Int} {h : EH} : biE .int [.int i] h = .ok (.int i) h := by simp only [biE, retI_eq]
theorem mkc_ok {c : CL} {h : EH} (hn : h.n < 1000000000) : mkC c h = .ok (.ref h.n) (h.push c) := by rw [mk_eq, if_pos hn]
/-- a stream: its cell, what is left of the script, what it keeps -/
structure Strm (h : EH) (r q : Nat) (ms : List Int) (a c x : Int) : Prop where
  ne : r ≠ q
  cell : h.get r = some (.lst [.ref q, .int a, .int c, .int x] false)
  left : h.get q = some (.lst (ms.map .int) false)
  x0 : 0 ≤ x
  x1 : x < 2147483647
/-- all else is as it was; few new cells -/
structure Kept (r q : Nat) (k : Nat) (h h' : EH) : Prop where
  len : h.n ≤ h'.n
  few : h'.n ≤ h.n + k
  old : ∀ j, j < h.n → j ≠ r → j ≠ q → h'.get j = h.get j
theorem Kept.refl {r q : Nat} {h : EH} : Kept r q 0 h h := ⟨Nat.le_refl _, Nat.le_refl _, fun _ _ _ _ => rfl⟩
theorem Kept.trans {r q k l : Nat} {h h' h'' : EH} (a : Kept r q k h h') (b : Kept r q l h' h'') : Kept r q (k + l) h h'' :=
  ⟨Nat.le_trans a.len b.len, by have := a.few; have := b.few; omega, fun j hj h1 h2 => (b.old j (Nat.lt_of_lt_of_le hj a.len) h1 h2).trans (a.old j hj h1 h2)⟩
theorem Kept.put {r q i : Nat} {h : EH} {c : CL} (hi : i = r ∨ i = q) : Kept r q 0 h (h.put i c) := ⟨Nat.le_refl _, Nat.le_refl _, fun j _ h1 h2 => EH.get_put_ne (by rcases hi with rfl | rfl <;> assumption)⟩
theorem Kept.push {r q : Nat} {h : EH} {c : CL} : Kept r q 1 h (h.push c) := ⟨Nat.le_succ _, Nat.le_refl _, fun j hj _ _ => EH.get_push_lt hj⟩
section
variable {σ σ' : Sg} {h h1 h2 : EH} {x y : EV} {a b : M EV}
theorem bin_k {op : Operator} (ea : a σ h = .ok x h1) (eb : b σ h1 = .ok y h2) : mBin op a b σ h = binE op x y h2 := by
  show (a σ h).bind _ = _
  rw [ea]
  show (b σ h1).bind _ = _
  rw [eb]
  rfl
theorem cmp_k {op : CmpOp} (ea : a σ h = .ok x h1) (eb : b σ h1 = .ok y h2) : mCmp op a b σ h = cmpE op x y h2 := by
  show (a σ h).bind _ = _
  rw [ea]
  show (b σ h1).bind _ = _
  rw [eb]
  rfl
theorem then_k {α β : Type} {a : M α} {x : α} {f : α → EH → R β} (ea : a σ h = .ok x h1) : mThen a f σ h = f x h1 := by
  show (a σ h).bind _ = _
  rw [ea]
  rfl
theorem one_k (ea : a σ h = .ok x h1) : mCons a (mC []) σ h = .ok [x] h1 := by
  show (a σ h).bind _ = _
  rw [ea]
  rfl
theorem nm_k {i : Nat} (ea : a σ h = .ok x h1) : sAsg (gNm i) a σ h = .ok (.nx (sset σ i (some x))) h1 := by
  show (a σ h).bind _ = _
  rw [ea]
  rfl
theorem sb_k {o : M EV} {i z : EV} (ea : a σ h = .ok x h1) (eo : o σ h1 = .ok z h1) (es : setE z i x h1 = .ok () h2) : sAsg (gSb o (mC i)) a σ h = .ok (.nx σ) h2 := by
  show (a σ h).bind _ = _
  rw [ea]
  show ((o σ h1).bind fun x_1 h => (setE x_1 i x h).bind fun _ h => .ok σ h).bind _ = _
  rw [eo]
  show ((setE z i x h1).bind fun _ h => .ok σ h).bind _ = _
  rw [es]
  rfl
theorem sq_k {a b : M Fl} (ea : a σ h = .ok (.nx σ') h1) : sSeq a b σ h = b σ' h1 := by
  show (a σ h).bind _ = _
  rw [ea]
  rfl
theorem ite_k {α : Type} {t : M Bool} {a b : M α} {c : Bool} (et : t σ h = .ok c h1) : mIte t a b σ h = bif c then a σ h1 else b σ h1 := by
  unfold mIte
  rw [et]
  cases c <;> rfl
end
def dT : M Bool := mAnd (mThen (mCmp .Eq (mSub (mVar 0) (mC (.int 1))) (mC (.int 0))) truE) (mAnd (mThen (mCmp .NotEq (mSub (mVar 0) (mC (.int 0))) (mThen (mC []) lstE)) truE) (mC true))
def dB : M Fl := (sSeq (sAsg (gNm 3) (mThen (mCons (mMet .pop (mSub (mVar 0) (mC (.int 0))) (mCons (mC (.int 0)) (mC []))) (mC [])) (biE .abs))) (sSeq (sAsg (gSb (mVar 0) (mC (.int 3))) (mBin .Mod (mThen (mCons (mBin .Add (mBin .Add (mBin .Mult (mSub (mVar 0) (mC (.int 3))) (mC (.int 8191))) (mVar 3)) (mC (.int 3))) (mC [])) (biE .int)) (mC (.int 2147483647)))) (sSeq (sAsg (gSb (mVar 0) (mC (.int 1))) (mIte (mThen (mCmp .GtE (mVar 3) (mBin .Pow (mC (.int 10)) (mC (.int 18)))) truE) (mVar 3) (mC (.int 0)))) sNx)))
def dS (r : Nat) (many : Int) (o : Option EV) : Sg := [some (.ref r), some (.int many), none, o, none]
theorem tru_bl {b : Bool} {h : EH} : truE (.bl b) h = .ok b h := rfl
theorem dT_ok {r q : Nat} {ms : List Int} {a c x many : Int} {o : Option EV} {h : EH} (s : Strm h r q ms a c x) (hn : h.n < 999999999) : ∃ h', dT (dS r many o) h = .ok (decide (a = 0) && !decide (ms = [])) h' ∧ Strm h' r q ms a c x ∧ Kept r q 1 h h' := by
  have e1 : mSub (mVar 0) (mC (.int 1)) (dS r many o) h = .ok (.int a) h := get_l (k := 1) s.cell rfl
  have e0 : mSub (mVar 0) (mC (.int 0)) (dS r many o) h = .ok (.ref q) h := get_l (k := 0) s.cell rfl
  unfold dT mAnd mThen mCmp
  rw [e1]
  simp only [R.bind, mC, eq_int, tru_bl]
  by_cases ha : a = 0
  · rw [decide_eq_true ha]
    have rn := EH.get_lt s.cell
    have qn := EH.get_lt s.left
    have hq : (h.push (.lst [] false)).get q = some (.lst (ms.map .int) false) := by rw [EH.get_push_lt qn]; exact s.left
    have hr : (h.push (.lst [] false)).get r = some (.lst [.ref q, .int a, .int c, .int x] false) := by rw [EH.get_push_lt rn]; exact s.cell
    have he : (h.push (.lst [] false)).get h.n = some (.lst [] false) := EH.get_push_same (by omega)
    have el : lstE [] h = .ok (.ref h.n) (h.push (.lst [] false)) := mkc_ok (by omega)
    rw [e0]
    simp only [R.bind, el, ne_ints hq he, tru_bl]
    refine ⟨h.push (.lst [] false), ?_, ⟨s.ne, hr, hq, s.x0, s.x1⟩, Kept.push⟩
    cases decide (ms = []) <;> rfl
  · rw [decide_eq_false ha]
    exact ⟨h, rfl, s, ⟨Nat.le_refl _, Nat.le_succ _, fun _ _ _ _ => rfl⟩⟩
theorem dB_ok {r q : Nat} {m : Int} {ms : List Int} {a c x many : Int} {o : Option EV} {h : EH} (s : Strm h r q (m :: ms) a c x) (hn : h.n < 999999999) : ∃ o' h' a' x', dB (dS r many o) h = .ok (.nx (dS r many o')) h' ∧ Strm h' r q ms a' c x' ∧ Kept r q 0 h h' := by
  have rn := EH.get_lt s.cell
  have qn := EH.get_lt s.left
  have e0 : mSub (mVar 0) (mC (.int 0)) (dS r many o) h = .ok (.ref q) h := get_l (k := 0) s.cell rfl
  have ek : knd h (.ref q) = some .lst := by simp only [knd, s.left]
  let h1 := h.put q (.lst (ms.map .int) false)
  have ep : metE .lst .pop (.ref q) [.int 0] h = .ok (.int m) h1 := by
    have z : ixE ((m :: ms).map EV.int).length 0 = some 0 := by
      have : Nat.blt 0 ((m :: ms).map EV.int).length = true := by simp [Nat.blt]
      unfold ixE
      exact (by rw [this] : (match Nat.blt 0 ((m :: ms).map EV.int).length with | true => some 0 | false => none) = some 0)
    simp only [metE, s.left, lstM, z]
    rfl
  have q1 : h1.get q = some (.lst (ms.map .int) false) := EH.get_put_same qn (by omega)
  have r1 : h1.get r = some (.lst [.ref q, .int a, .int c, .int x] false) := by rw [EH.get_put_ne s.ne]; exact s.cell
  have em : mMet .pop (mSub (mVar 0) (mC (.int 0))) (mCons (mC (.int 0)) (mC [])) (dS r many o) h = .ok (.int m) h1 := by
    unfold mMet
    rw [e0]
    simp only [R.bind, ek, mtOk, mCons, mC, ep]
  let τ := dS r many (some (.int (absI m)))
  have s1 : sAsg (gNm 3) (mThen (mCons (mMet .pop (mSub (mVar 0) (mC (.int 0))) (mCons (mC (.int 0)) (mC []))) (mC [])) (biE .abs)) (dS r many o) h = .ok (.nx τ) h1 := by
    unfold sAsg mThen
    rw [show mCons (mMet .pop (mSub (mVar 0) (mC (.int 0))) (mCons (mC (.int 0)) (mC []))) (mC []) (dS r many o) h = .ok [.int m] h1 by
      show (mMet .pop (mSub (mVar 0) (mC (.int 0))) (mCons (mC (.int 0)) (mC [])) (dS r many o) h).bind _ = _
      rw [em]
      rfl]
    simp only [R.bind, abs_int]
    rfl
  let x' := (x * 8191 + absI m + 3) % 2147483647
  let h2 := h1.put r (.lst [.ref q, .int a, .int c, .int x'] false)
  have e3 : mSub (mVar 0) (mC (.int 3)) τ h1 = .ok (.int x) h1 := get_l (k := 3) r1 rfl
  have v3 : mVar 3 τ h1 = .ok (.int (absI m)) h1 := rfl
  have s2 : sAsg (gSb (mVar 0) (mC (.int 3))) (mBin .Mod (mThen (mCons (mBin .Add (mBin .Add (mBin .Mult (mSub (mVar 0) (mC (.int 3))) (mC (.int 8191))) (mVar 3)) (mC (.int 3))) (mC [])) (biE .int)) (mC (.int 2147483647))) τ h1 = .ok (.nx τ) h2 := by
    have ev : mBin .Mod (mThen (mCons (mBin .Add (mBin .Add (mBin .Mult (mSub (mVar 0) (mC (.int 3))) (mC (.int 8191))) (mVar 3)) (mC (.int 3))) (mC [])) (biE .int)) (mC (.int 2147483647)) τ h1 = .ok (.int x') h1 :=
      (bin_k ((then_k (one_k ((bin_k ((bin_k ((bin_k e3 rfl).trans (mul_r rfl)) v3).trans add_int) rfl).trans add_int))).trans int_int) rfl).trans (mod_int (by decide))
    exact sb_k ev rfl (set_l r1 (by simp))
  have r2 : h2.get r = some (.lst [.ref q, .int a, .int c, .int x'] false) := EH.get_put_same rn (by show h.n ≤ _; omega)
  have q2 : h2.get q = some (.lst (ms.map .int) false) := by rw [EH.get_put_ne s.ne.symm]; exact q1
  let a' := if absI m < 1000000000000000000 then 0 else absI m
  let h3 := h2.put r (.lst [.ref q, .int a', .int c, .int x'] false)
  have s3 : sAsg (gSb (mVar 0) (mC (.int 1))) (mIte (mThen (mCmp .GtE (mVar 3) (mBin .Pow (mC (.int 10)) (mC (.int 18)))) truE) (mVar 3) (mC (.int 0))) τ h2 = .ok (.nx τ) h3 := by
    have ep : mBin .Pow (mC (.int 10)) (mC (.int 18)) τ h2 = .ok (.int 1000000000000000000) h2 := (bin_k rfl rfl).trans (pow_int (i := 10) (n := 18) rfl (by decide))
    have v3 : mVar 3 τ h2 = .ok (.int (absI m)) h2 := rfl
    have et : mThen (mCmp .GtE (mVar 3) (mBin .Pow (mC (.int 10)) (mC (.int 18)))) truE τ h2 = .ok (!decide (absI m < 1000000000000000000)) h2 := then_k ((cmp_k v3 ep).trans ge_int)
    have ev : mIte (mThen (mCmp .GtE (mVar 3) (mBin .Pow (mC (.int 10)) (mC (.int 18)))) truE) (mVar 3) (mC (.int 0)) τ h2 = .ok (.int a') h2 := by
      rw [ite_k et]
      by_cases z : absI m < 1000000000000000000
      · rw [decide_eq_true z]
        simp only [Bool.not_true, a', if_pos z, cond_false]
        rfl
      · rw [decide_eq_false z]
        simp only [Bool.not_false, a', if_neg z, cond_true]
        rfl
    exact sb_k ev rfl (set_l r2 (by simp))
  refine ⟨some (.int (absI m)), h3, a', x', ?_, ⟨s.ne, EH.get_put_same rn (by show h.n ≤ _; omega), by rw [EH.get_put_ne s.ne.symm]; exact q2, Int.emod_nonneg _ (by decide), Int.emod_lt_of_pos _ (by decide)⟩, ((Kept.put (.inr rfl)).trans (Kept.put (.inl rfl))).trans (Kept.put (.inl rfl))⟩
  exact (sq_k s1).trans ((sq_k s2).trans ((sq_k s3).trans rfl))
theorem dW_ok {r q : Nat} {c many : Int} : ∀ (f : Nat) (ms : List Int) (a x : Int) (o : Option EV) (h : EH), ms.length < f → Strm h r q ms a c x → h.n + f < 999999999 → ∃ o' h' ms' a' x', whlL dT dB f (dS r many o) h = .ok (.nx (dS r many o')) h' ∧ Strm h' r q ms' a' c x' ∧ ms'.length ≤ ms.length ∧ Kept r q (ms.length + 1) h h'
  | 0, ms, a, x, o, h, hf, _, _ => absurd hf (Nat.not_lt_zero _)
  | f + 1, ms, a, x, o, h, hf, s, hn => by
    obtain ⟨h1, e1, s1, k1⟩ := dT_ok (many := many) (o := o) s (by omega)
    unfold whlL
    rw [e1]
    simp only [R.bind]
    cases e : (decide (a = 0) && !decide (ms = [])) with
    | false => exact ⟨o, h1, ms, a, x, rfl, s1, Nat.le_refl _, ⟨k1.len, by have := k1.few; omega, k1.old⟩⟩
    | true =>
      cases ms with
      | nil => simp at e
      | cons m ms =>
        have := k1.few
        obtain ⟨o2, h2, a2, x2, e2, s2, k2⟩ := dB_ok (many := many) (o := o) s1 (by omega)
        have := k2.few
        have hf' : ms.length + 1 < f + 1 := hf
        obtain ⟨o3, h3, ms3, a3, x3, e3, s3, l3, k3⟩ := dW_ok f ms a2 x2 o2 h2 (by omega) s2 (by omega)
        refine ⟨o3, h3, ms3, a3, x3, ?_, s3, by show _ ≤ ms.length + 1; omega, ?_⟩
        · rw [e2]
          exact e3
        · have k := (k1.trans k2).trans k3
          exact ⟨k.len, by have := k.few; show _ ≤ h.n + (ms.length + 1 + 1); omega, k.old⟩
/-- the draw's code, with loops of at most F turns -/
def drawF (F : Nat) : M Fl := (sSeq (sAsg (gSb (mVar 0) (mC (.int 2))) (mBin .Add (mSub (mVar 0) (mC (.int 2))) (mC (.int 1)))) (sSeq (sWhl F dT dB) (sSeq (mIte (mThen (mCmp .Gt (mSub (mVar 0) (mC (.int 1))) (mC (.int 0))) truE) (sSeq (sAsg (gNm 4) (mBin .Mod (mThen (mCons (mSub (mVar 0) (mC (.int 1))) (mC [])) (biE .int)) (mVar 1))) (sSeq (sAsg (gSb (mVar 0) (mC (.int 1))) (mBin .FloorDiv (mSub (mVar 0) (mC (.int 1))) (mVar 1))) (sSeq (sRet (mVar 4)) sNx))) sNx) (sSeq (sAsg (gNm 2) (mBin .Mod (mThen (mCons (mBin .Pow (mBin .Add (mBin .Add (mSub (mVar 0) (mC (.int 3))) (mBin .Mult (mC (.int 7919)) (mSub (mVar 0) (mC (.int 2))))) (mC (.int 104729))) (mC (.int 5))) (mC [])) (biE .int)) (mC (.int 2147483629)))) (sSeq (sRet (mBin .Mod (mBin .Mod (mThen (mCons (mBin .Pow (mBin .Add (mBin .Add (mBin .Mult (mVar 2) (mC (.int 48271))) (mBin .Mult (mC (.int 30011)) (mSub (mVar 0) (mC (.int 2))))) (mC (.int 29))) (mC (.int 3))) (mC [])) (biE .int)) (mC (.int 1000000007))) (mVar 1))) sNx)))))
theorem draw_ok {F r q : Nat} {ms : List Int} {a c x many : Int} {h : EH} (s : Strm h r q ms a c x) (hF : ms.length < F) (hn : h.n + F < 999999998) (m0 : 0 < many) (m1 : many < 1073741824) (c0 : 0 ≤ c) (c1 : c < 1000000) : ∃ v h' ms' a' x', (drawF F (dS r many none) h).bind retFl = .ok (.int v) h' ∧ 0 ≤ v ∧ v < many ∧ Strm h' r q ms' a' (c + 1) x' ∧ ms'.length ≤ ms.length ∧ Kept r q (ms.length + 1) h h' := by
  have rn := EH.get_lt s.cell
  let h1 := h.put r (.lst [.ref q, .int a, .int (c + 1), .int x] false)
  have r1 : h1.get r = some (.lst [.ref q, .int a, .int (c + 1), .int x] false) := EH.get_put_same rn (by omega)
  have q1 : h1.get q = some (.lst (ms.map .int) false) := by rw [EH.get_put_ne s.ne.symm]; exact s.left
  have st1 : sAsg (gSb (mVar 0) (mC (.int 2))) (mBin .Add (mSub (mVar 0) (mC (.int 2))) (mC (.int 1))) (dS r many none) h = .ok (.nx (dS r many none)) h1 := by
    have e : mSub (mVar 0) (mC (.int 2)) (dS r many none) h = .ok (.int c) h := get_l (k := 2) s.cell rfl
    exact sb_k ((bin_k e rfl).trans add_int) rfl (set_l s.cell (by simp))
  obtain ⟨o, h2, ms2, a2, x2, e2, s2, l2, k2⟩ := dW_ok (many := many) F ms a x none h1 hF ⟨s.ne, r1, q1, s.x0, s.x1⟩ (by show h.n + F < _; omega)
  have e2 : sWhl F dT dB (dS r many none) h1 = .ok (.nx (dS r many o)) h2 := e2
  have k12 : Kept r q (0 + (ms.length + 1)) h h2 := (Kept.put (.inl rfl)).trans k2
  have n2 := k12.few
  have r2n := EH.get_lt s2.cell
  have ea : mSub (mVar 0) (mC (.int 1)) (dS r many o) h2 = .ok (.int a2) h2 := get_l (k := 1) s2.cell rfl
  have et : mThen (mCmp .Gt (mSub (mVar 0) (mC (.int 1))) (mC (.int 0))) truE (dS r many o) h2 = .ok (decide (0 < a2)) h2 := then_k ((cmp_k ea rfl).trans gt_int)
  unfold drawF
  rw [sq_k st1, sq_k e2]
  by_cases ha : 0 < a2
  · let τ : Sg := [some (.ref r), some (.int many), none, o, some (.int (a2 % many))]
    have e4 : sAsg (gNm 4) (mBin .Mod (mThen (mCons (mSub (mVar 0) (mC (.int 1))) (mC [])) (biE .int)) (mVar 1)) (dS r many o) h2 = .ok (.nx τ) h2 := nm_k ((bin_k ((then_k (one_k ea)).trans int_int) rfl).trans (mod_int m0))
    have ea' : mSub (mVar 0) (mC (.int 1)) τ h2 = .ok (.int a2) h2 := get_l (k := 1) s2.cell rfl
    let h3 := h2.put r (.lst [.ref q, .int (a2 / many), .int (c + 1), .int x2] false)
    have e5 : sAsg (gSb (mVar 0) (mC (.int 1))) (mBin .FloorDiv (mSub (mVar 0) (mC (.int 1))) (mVar 1)) τ h2 = .ok (.nx τ) h3 := sb_k ((bin_k ea' rfl).trans (div_int m0 m1)) rfl (set_l s2.cell (by simp))
    have e6 : sSeq (mIte (mThen (mCmp .Gt (mSub (mVar 0) (mC (.int 1))) (mC (.int 0))) truE) (sSeq (sAsg (gNm 4) (mBin .Mod (mThen (mCons (mSub (mVar 0) (mC (.int 1))) (mC [])) (biE .int)) (mVar 1))) (sSeq (sAsg (gSb (mVar 0) (mC (.int 1))) (mBin .FloorDiv (mSub (mVar 0) (mC (.int 1))) (mVar 1))) (sSeq (sRet (mVar 4)) sNx))) sNx) (sSeq (sAsg (gNm 2) (mBin .Mod (mThen (mCons (mBin .Pow (mBin .Add (mBin .Add (mSub (mVar 0) (mC (.int 3))) (mBin .Mult (mC (.int 7919)) (mSub (mVar 0) (mC (.int 2))))) (mC (.int 104729))) (mC (.int 5))) (mC [])) (biE .int)) (mC (.int 2147483629)))) (sSeq (sRet (mBin .Mod (mBin .Mod (mThen (mCons (mBin .Pow (mBin .Add (mBin .Add (mBin .Mult (mVar 2) (mC (.int 48271))) (mBin .Mult (mC (.int 30011)) (mSub (mVar 0) (mC (.int 2))))) (mC (.int 29))) (mC (.int 3))) (mC [])) (biE .int)) (mC (.int 1000000007))) (mVar 1))) sNx)) (dS r many o) h2 = .ok (.rt (.int (a2 % many))) h3 := by
      have e7 : mIte (mThen (mCmp .Gt (mSub (mVar 0) (mC (.int 1))) (mC (.int 0))) truE) (sSeq (sAsg (gNm 4) (mBin .Mod (mThen (mCons (mSub (mVar 0) (mC (.int 1))) (mC [])) (biE .int)) (mVar 1))) (sSeq (sAsg (gSb (mVar 0) (mC (.int 1))) (mBin .FloorDiv (mSub (mVar 0) (mC (.int 1))) (mVar 1))) (sSeq (sRet (mVar 4)) sNx))) sNx (dS r many o) h2 = .ok (.rt (.int (a2 % many))) h3 := by
        rw [ite_k et, decide_eq_true ha]
        exact (sq_k e4).trans ((sq_k e5).trans rfl)
      show (mIte _ _ _ (dS r many o) h2).bind _ = _
      rw [e7]
      rfl
    rw [e6]
    exact ⟨a2 % many, h3, ms2, a2 / many, x2, rfl, Int.emod_nonneg _ (by omega), Int.emod_lt_of_pos _ m0, ⟨s.ne, EH.get_put_same r2n (by omega), by rw [EH.get_put_ne s.ne.symm]; exact s2.left, s2.x0, s2.x1⟩, l2,
      ⟨k12.len, by show h2.n ≤ _; omega, (k12.trans (Kept.put (.inl rfl))).old⟩⟩
  · have e6 : mIte (mThen (mCmp .Gt (mSub (mVar 0) (mC (.int 1))) (mC (.int 0))) truE) (sSeq (sAsg (gNm 4) (mBin .Mod (mThen (mCons (mSub (mVar 0) (mC (.int 1))) (mC [])) (biE .int)) (mVar 1))) (sSeq (sAsg (gSb (mVar 0) (mC (.int 1))) (mBin .FloorDiv (mSub (mVar 0) (mC (.int 1))) (mVar 1))) (sSeq (sRet (mVar 4)) sNx))) sNx (dS r many o) h2 = .ok (.nx (dS r many o)) h2 := by
      rw [ite_k et, decide_eq_false ha]
      rfl
    have e3 : mSub (mVar 0) (mC (.int 3)) (dS r many o) h2 = .ok (.int x2) h2 := get_l (k := 3) s2.cell rfl
    have ec : mSub (mVar 0) (mC (.int 2)) (dS r many o) h2 = .ok (.int (c + 1)) h2 := get_l (k := 2) s2.cell rfl
    have x0 := s2.x0
    have x1 := s2.x1
    let y := (x2 + 7919 * (c + 1) + 104729) ^ 5 % 2147483629
    have y0 : 0 ≤ y := Int.emod_nonneg _ (by decide)
    have y1 : y < 2147483629 := Int.emod_lt_of_pos _ (by decide)
    let τ : Sg := [some (.ref r), some (.int many), some (.int y), o, none]
    have e7 : sAsg (gNm 2) (mBin .Mod (mThen (mCons (mBin .Pow (mBin .Add (mBin .Add (mSub (mVar 0) (mC (.int 3))) (mBin .Mult (mC (.int 7919)) (mSub (mVar 0) (mC (.int 2))))) (mC (.int 104729))) (mC (.int 5))) (mC [])) (biE .int)) (mC (.int 2147483629))) (dS r many o) h2 = .ok (.nx τ) h2 :=
      nm_k ((bin_k ((then_k (one_k ((bin_k ((bin_k ((bin_k e3 ((bin_k rfl ec).trans (mul_l rfl))).trans add_int) rfl).trans add_int) rfl).trans (pow_int (n := 5) (lim_of (by omega) (by omega)) (by decide))))).trans int_int) rfl).trans (mod_int (by decide)))
    have ec' : mSub (mVar 0) (mC (.int 2)) τ h2 = .ok (.int (c + 1)) h2 := get_l (k := 2) s2.cell rfl
    have v2 : mVar 2 τ h2 = .ok (.int y) h2 := rfl
    let w := (y * 48271 + 30011 * (c + 1) + 29) ^ 3 % 1000000007 % many
    have e8 : mBin .Mod (mBin .Mod (mThen (mCons (mBin .Pow (mBin .Add (mBin .Add (mBin .Mult (mVar 2) (mC (.int 48271))) (mBin .Mult (mC (.int 30011)) (mSub (mVar 0) (mC (.int 2))))) (mC (.int 29))) (mC (.int 3))) (mC [])) (biE .int)) (mC (.int 1000000007))) (mVar 1) τ h2 = .ok (.int w) h2 :=
      (bin_k ((bin_k ((then_k (one_k ((bin_k ((bin_k ((bin_k ((bin_k v2 rfl).trans (mul_r rfl)) ((bin_k rfl ec').trans (mul_l rfl))).trans add_int) rfl).trans add_int) rfl).trans (pow_int (n := 3) (lim_of (by omega) (by omega)) (by decide))))).trans int_int) rfl).trans (mod_int (by decide))) rfl).trans (mod_int m0)
    have e9 : sRet (mBin .Mod (mBin .Mod (mThen (mCons (mBin .Pow (mBin .Add (mBin .Add (mBin .Mult (mVar 2) (mC (.int 48271))) (mBin .Mult (mC (.int 30011)) (mSub (mVar 0) (mC (.int 2))))) (mC (.int 29))) (mC (.int 3))) (mC [])) (biE .int)) (mC (.int 1000000007))) (mVar 1)) τ h2 = .ok (.rt (.int w)) h2 := by
      show (mBin .Mod _ _ τ h2).bind _ = _
      rw [e8]
      rfl
    rw [sq_k e6, sq_k e7]
    refine ⟨w, h2, ms2, a2, x2, ?_, Int.emod_nonneg _ (by omega), Int.emod_lt_of_pos _ m0, s2, l2, ⟨k12.len, by omega, k12.old⟩⟩
    show ((sRet _ τ h2).bind _).bind retFl = _
    rw [e9]
    rfl
/-- a law's stream, of its script -/
def strmF : M Fl := (sSeq (sRet (mThen (mCons (mThen (mCons (mVar 0) (mC [])) (biE .list)) (mCons (mC (.int 0)) (mCons (mC (.int 0)) (mCons (mC (.int 17)) (mC []))))) lstE)) sNx)
theorem strm_ok {ns : List Int} {h : EH} (hn : h.n < 999999998) : ∃ h' r q, (strmF [some (.kl (ns.map .int))] h).bind retFl = .ok (.ref r) h' ∧ Strm h' r q ns 0 0 17 ∧ h.n ≤ r ∧ h.n ≤ q ∧ h'.n = h.n + 2 ∧ ∀ j, j < h.n → h'.get j = h.get j := by
  let h1 := h.push (.lst (ns.map .int) false)
  let h2 := h1.push (.lst [.ref h.n, .int 0, .int 0, .int 17] false)
  have n1 : h1.n = h.n + 1 := rfl
  have e1 : mThen (mCons (mVar 0) (mC [])) (biE .list) [some (.kl (ns.map .int))] h = .ok (.ref h.n) h1 := by
    have e : biE .list [.kl (ns.map .int)] h = .ok (.ref h.n) h1 := mkc_ok (by omega)
    exact (then_k (one_k rfl)).trans e
  have e2 : mCons (mThen (mCons (mVar 0) (mC [])) (biE .list)) (mCons (mC (.int 0)) (mCons (mC (.int 0)) (mCons (mC (.int 17)) (mC [])))) [some (.kl (ns.map .int))] h = .ok [.ref h.n, .int 0, .int 0, .int 17] h1 := by
    show (mThen _ _ _ h).bind _ = _
    rw [e1]
    rfl
  have e3 : lstE [.ref h.n, .int 0, .int 0, .int 17] h1 = .ok (.ref h1.n) h2 := mkc_ok (by omega)
  have e4 : sRet (mThen (mCons (mThen (mCons (mVar 0) (mC [])) (biE .list)) (mCons (mC (.int 0)) (mCons (mC (.int 0)) (mCons (mC (.int 17)) (mC []))))) lstE) [some (.kl (ns.map .int))] h = .ok (.rt (.ref h1.n)) h2 := by
    show (mThen _ lstE _ h).bind _ = _
    rw [(then_k e2).trans e3]
    rfl
  refine ⟨h2, h1.n, h.n, ?_, ⟨by omega, EH.get_push_same (by omega), ?_, by decide, by decide⟩, by omega, Nat.le_refl _, rfl, fun j hj => ?_⟩
  · show ((sRet _ _ h).bind _).bind retFl = _
    rw [e4]
    rfl
  · rw [EH.get_push_lt (by omega)]
    exact EH.get_push_same (by omega)
  · rw [EH.get_push_lt (by omega), EH.get_push_lt hj]
end EM
end
section
set_option Elab.async false
set_option linter.all false
set_option maxRecDepth 100000
set_option maxHeartbeats 0
namespace EM.k63
open PySem PySem.Spec PyProof.Rows L2
def top (i : Nat) : Stmt := PySem.Challenge.pw_onehat_k63_whole_a_patch_of_the_grid.main.body.getD i (.Pass ⟨0, 0, 0, 0⟩)
def k_ROUND : EV := (.tup [(.tup [(.int 1), (.int 0)]), (.tup [(.int 0), (.int 1)]), (.tup [(.int (-1)), (.int 1)]), (.tup [(.int (-1)), (.int 0)]), (.tup [(.int 0), (.int (-1))]), (.tup [(.int 1), (.int (-1))])])
def k_EDGES : EV := (.tup [(.tup [(.int 1), (.int 1)]), (.tup [(.int (-1)), (.int 2)]), (.tup [(.int (-2)), (.int 1)]), (.tup [(.int (-1)), (.int (-1))]), (.tup [(.int 1), (.int (-2))]), (.tup [(.int 2), (.int (-1))])])
def k_TIPS : EV := (.tup [(.tup [(.int 0), (.int 2)]), (.tup [(.int (-2)), (.int 2)]), (.tup [(.int (-2)), (.int 0)]), (.tup [(.int 0), (.int (-2))]), (.tup [(.int 2), (.int (-2))]), (.tup [(.int 2), (.int 0)])])
def tCst : List EV := [k_ROUND, k_EDGES, k_TIPS]
def s_is_list (F : Nat) (C : Nat → List EV → EH → R EV) : M Fl := (sSeq (sRet (mThen (mVar 0) fun x h => isiR x [.list, .tuple] h)) sNx)
def s_is_whole (F : Nat) (C : Nat → List EV → EH → R EV) : M Fl := (sSeq (sRet (mAndV (mThen (mVar 0) fun x h => isiR x [.int] h) (mNt (mThen (mVar 0) fun x h => isiR x [.bool] h)))) sNx)
def s_is_number (F : Nat) (C : Nat → List EV → EH → R EV) : M Fl := (sSeq (sRet (mAndV (mCall C 1 (mCons (mVar 0) (mC []))) (mCmp .GtE (mVar 0) (mC (.int 0))))) sNx)
def s_is_below (F : Nat) (C : Nat → List EV → EH → R EV) : M Fl := (sSeq (sRet (mAndV (mCall C 2 (mCons (mVar 0) (mC []))) (mCmp .Lt (mVar 0) (mVar 1)))) sNx)
def s_is_row (F : Nat) (C : Nat → List EV → EH → R EV) : M Fl := (sSeq (sRet (mAndV (mCall C 0 (mCons (mVar 0) (mC []))) (mCmp .Eq (mThen (mCons (mVar 0) (mC [])) (biE .len)) (mVar 1)))) sNx)
def s_are_whole (F : Nat) (C : Nat → List EV → EH → R EV) : M Fl := (sSeq (sRet (mAndV (mCall C 4 (mCons (mVar 0) (mCons (mVar 1) (mC [])))) (mThen (mCons (mLc F [2] (mCall C 1 (mCons (mVar 2) (mC []))) (gNm 2) (mThen (mVar 0) itOf) (mC true)) (mC [])) (biE .all)))) sNx)
def s_is_kite (F : Nat) (C : Nat → List EV → EH → R EV) : M Fl := (sSeq (sRet (mAndV (mCall C 5 (mCons (mVar 0) (mCons (mC (.int 3)) (mC [])))) (mCall C 3 (mCons (mSub (mVar 0) (mC (.int 2))) (mCons (mC (.int 6)) (mC [])))))) sNx)
def s_need_kite (F : Nat) (C : Nat → List EV → EH → R EV) : M Fl := (sSeq (mIte (mNot (mThen (mCall C 6 (mCons (mVar 0) (mC []))) truE)) (sSeq mBad sNx) sNx) (sSeq (sRet (mThen (mCons (mVar 0) (mC [])) (biE .tuple))) sNx))
def s_is_dot (F : Nat) (C : Nat → List EV → EH → R EV) : M Fl := (sSeq (sRet (mCall C 5 (mCons (mVar 0) (mCons (mC (.int 2)) (mC []))))) sNx)
def s_need_dot (F : Nat) (C : Nat → List EV → EH → R EV) : M Fl := (sSeq (mIte (mNot (mThen (mCall C 8 (mCons (mVar 0) (mC []))) truE)) (sSeq mBad sNx) sNx) (sSeq (sRet (mThen (mCons (mVar 0) (mC [])) (biE .tuple))) sNx))
def s_middle (F : Nat) (C : Nat → List EV → EH → R EV) : M Fl := (sSeq (sRet (mThen (mCons (mBin .Sub (mBin .Mult (mC (.int 2)) (mVar 0)) (mBin .Mult (mC (.int 2)) (mVar 1))) (mCons (mBin .Add (mBin .Mult (mC (.int 2)) (mVar 0)) (mBin .Mult (mC (.int 4)) (mVar 1))) (mC []))) tupE)) sNx)
def s_added (F : Nat) (C : Nat → List EV → EH → R EV) : M Fl := (sSeq (sRet (mThen (mCons (mBin .Add (mSub (mVar 0) (mC (.int 0))) (mSub (mVar 1) (mC (.int 0)))) (mCons (mBin .Add (mSub (mVar 0) (mC (.int 1))) (mSub (mVar 1) (mC (.int 1)))) (mC []))) tupE)) sNx)
def s_beside_by (F : Nat) (C : Nat → List EV → EH → R EV) : M Fl := (sSeq (sAsg (gTp 3 (gCons (gNm 2) (gCons (gNm 3) (gCons (gNm 4) gNil)))) (mVar 0)) (sSeq (sAsg (gNm 1) (mBin .Mod (mBin .Add (mVar 4) (mC (.int 1))) (mC (.int 6)))) (sSeq (sPar [5, 6] (mCons (mCall C 11 (mCons (mThen (mCons (mVar 2) (mCons (mVar 3) (mC []))) tupE) (mCons (mSub (mOpt (some k_ROUND)) (mVar 4)) (mC [])))) (mCons (mCall C 11 (mCons (mThen (mCons (mVar 2) (mCons (mVar 3) (mC []))) tupE) (mCons (mSub (mOpt (some k_ROUND)) (mVar 1)) (mC [])))) (mC [])))) (sSeq (sRet (mThen (mCons (mThen (mCons (mVar 2) (mCons (mVar 3) (mCons (mBin .Mod (mBin .Sub (mVar 4) (mC (.int 1))) (mC (.int 6))) (mC [])))) tupE) (mCons (mThen (mStar (mVar 5) (mCons (mBin .Mod (mBin .Add (mVar 4) (mC (.int 2))) (mC (.int 6))) (mC []))) tupE) (mCons (mThen (mStar (mVar 6) (mCons (mBin .Mod (mBin .Add (mVar 4) (mC (.int 4))) (mC (.int 6))) (mC []))) tupE) (mCons (mThen (mCons (mVar 2) (mCons (mVar 3) (mCons (mVar 1) (mC [])))) tupE) (mC []))))) lstE)) sNx))))
def s_beside (F : Nat) (C : Nat → List EV → EH → R EV) : M Fl := (sSeq (sRet (mCall C 12 (mCons (mCall C 7 (mCons (mVar 0) (mC []))) (mC [])))) sNx)
def s_corners_by (F : Nat) (C : Nat → List EV → EH → R EV) : M Fl := (sSeq (sAsg (gTp 3 (gCons (gNm 2) (gCons (gNm 3) (gCons (gNm 4) gNil)))) (mVar 0)) (sSeq (sAsg (gNm 1) (mCall C 10 (mCons (mVar 2) (mCons (mVar 3) (mC []))))) (sSeq (sRet (mThen (mCons (mVar 1) (mCons (mCall C 11 (mCons (mVar 1) (mCons (mSub (mOpt (some k_EDGES)) (mVar 4)) (mC [])))) (mCons (mCall C 11 (mCons (mVar 1) (mCons (mSub (mOpt (some k_TIPS)) (mVar 4)) (mC [])))) (mCons (mCall C 11 (mCons (mVar 1) (mCons (mSub (mOpt (some k_EDGES)) (mBin .Mod (mBin .Add (mVar 4) (mC (.int 1))) (mC (.int 6)))) (mC [])))) (mC []))))) lstE)) sNx)))
def s_corners (F : Nat) (C : Nat → List EV → EH → R EV) : M Fl := (sSeq (sRet (mCall C 14 (mCons (mCall C 7 (mCons (mVar 0) (mC []))) (mC [])))) sNx)
def s_hexagon_at (F : Nat) (C : Nat → List EV → EH → R EV) : M Fl := (sSeq (sAsg (gTp 2 (gCons (gNm 2) (gCons (gNm 3) gNil))) (mVar 0)) (sSeq (mIte (mOr (mThen (mCmp .NotEq (mBin .Mod (mVar 2) (mC (.int 2))) (mC (.int 0))) truE) (mOr (mThen (mCmp .NotEq (mBin .Mod (mBin .Sub (mVar 3) (mVar 2)) (mC (.int 6))) (mC (.int 0))) truE) (mC false))) (sSeq (sRet (mC .non)) sNx) sNx) (sSeq (sAsg (gNm 1) (mBin .FloorDiv (mBin .Sub (mVar 3) (mVar 2)) (mC (.int 6)))) (sSeq (sRet (mThen (mCons (mBin .Add (mBin .FloorDiv (mVar 2) (mC (.int 2))) (mVar 1)) (mCons (mVar 1) (mC []))) tupE)) sNx))))
def s_kites_by (F : Nat) (C : Nat → List EV → EH → R EV) : M Fl := (sSeq (sAsg (gNm 1) (mCall C 16 (mCons (mVar 0) (mC [])))) (sSeq (sAsg (gNm 2) (mIte (mThen (mCmp .Is (mVar 1) (mC .non)) truE) (mThen (mC []) dctE) (mDc F [3] (mThen (mStar (mVar 1) (mCons (mVar 3) (mC []))) tupE) (mC (.bl true)) (gNm 3) (mThen (mCons (mC (.int 6)) (mC [])) rngE) (mC true)))) (sSeq (sFor F (gNm 3) (mThen (mCons (mC (.int 6)) (mC [])) rngE) (sSeq (sFor F (gTp 2 (gCons (gNm 4) (gCons (gNm 5) gNil))) (mThen (mThen (mCons (mThen (mCons (mOpt (some k_EDGES)) (mCons (mC (.int 0)) (mC []))) tupE) (mCons (mThen (mCons (mOpt (some k_TIPS)) (mCons (mC (.int 0)) (mC []))) tupE) (mCons (mThen (mCons (mOpt (some k_EDGES)) (mCons (mC (.int 1)) (mC []))) tupE) (mC [])))) tupE) itOf) (sSeq (sAsg (gNm 6) (mSub (mVar 4) (mBin .Mod (mBin .Add (mVar 3) (mVar 5)) (mC (.int 6))))) (sSeq (sAsg (gNm 7) (mCall C 16 (mCons (mThen (mCons (mBin .Sub (mSub (mVar 0) (mC (.int 0))) (mSub (mVar 6) (mC (.int 0)))) (mCons (mBin .Sub (mSub (mVar 0) (mC (.int 1))) (mSub (mVar 6) (mC (.int 1)))) (mC []))) tupE) (mC [])))) (sSeq (mIte (mThen (mCmp .IsNot (mVar 7) (mC .non)) truE) (sSeq (sAsg (gSb (mVar 2) (mThen (mCons (mSub (mVar 7) (mC (.int 0))) (mCons (mSub (mVar 7) (mC (.int 1))) (mCons (mVar 3) (mC [])))) tupE)) (mC (.bl true))) sNx) sNx) sNx)))) sNx)) (sSeq (sRet (mThen (mCons (mVar 2) (mC [])) (biE .sorted))) sNx))))
def s_kites_at (F : Nat) (C : Nat → List EV → EH → R EV) : M Fl := (sSeq (sRet (mCall C 17 (mCons (mCall C 9 (mCons (mVar 0) (mC []))) (mC [])))) sNx)
def s__law_stream (F : Nat) (C : Nat → List EV → EH → R EV) : M Fl := (sSeq (sRet (mThen (mCons (mThen (mCons (mVar 0) (mC [])) (biE .list)) (mCons (mC (.int 0)) (mCons (mC (.int 0)) (mCons (mC (.int 17)) (mC []))))) lstE)) sNx)
def s__law_draw (F : Nat) (C : Nat → List EV → EH → R EV) : M Fl := (sSeq (sAsg (gSb (mVar 0) (mC (.int 2))) (mBin .Add (mSub (mVar 0) (mC (.int 2))) (mC (.int 1)))) (sSeq (sWhl F (mAnd (mThen (mCmp .Eq (mSub (mVar 0) (mC (.int 1))) (mC (.int 0))) truE) (mAnd (mThen (mCmp .NotEq (mSub (mVar 0) (mC (.int 0))) (mThen (mC []) lstE)) truE) (mC true))) (sSeq (sAsg (gNm 3) (mThen (mCons (mMet .pop (mSub (mVar 0) (mC (.int 0))) (mCons (mC (.int 0)) (mC []))) (mC [])) (biE .abs))) (sSeq (sAsg (gSb (mVar 0) (mC (.int 3))) (mBin .Mod (mThen (mCons (mBin .Add (mBin .Add (mBin .Mult (mSub (mVar 0) (mC (.int 3))) (mC (.int 8191))) (mVar 3)) (mC (.int 3))) (mC [])) (biE .int)) (mC (.int 2147483647)))) (sSeq (sAsg (gSb (mVar 0) (mC (.int 1))) (mIte (mThen (mCmp .GtE (mVar 3) (mBin .Pow (mC (.int 10)) (mC (.int 18)))) truE) (mVar 3) (mC (.int 0)))) sNx)))) (sSeq (mIte (mThen (mCmp .Gt (mSub (mVar 0) (mC (.int 1))) (mC (.int 0))) truE) (sSeq (sAsg (gNm 4) (mBin .Mod (mThen (mCons (mSub (mVar 0) (mC (.int 1))) (mC [])) (biE .int)) (mVar 1))) (sSeq (sAsg (gSb (mVar 0) (mC (.int 1))) (mBin .FloorDiv (mSub (mVar 0) (mC (.int 1))) (mVar 1))) (sSeq (sRet (mVar 4)) sNx))) sNx) (sSeq (sAsg (gNm 2) (mBin .Mod (mThen (mCons (mBin .Pow (mBin .Add (mBin .Add (mSub (mVar 0) (mC (.int 3))) (mBin .Mult (mC (.int 7919)) (mSub (mVar 0) (mC (.int 2))))) (mC (.int 104729))) (mC (.int 5))) (mC [])) (biE .int)) (mC (.int 2147483629)))) (sSeq (sRet (mBin .Mod (mBin .Mod (mThen (mCons (mBin .Pow (mBin .Add (mBin .Add (mBin .Mult (mVar 2) (mC (.int 48271))) (mBin .Mult (mC (.int 30011)) (mSub (mVar 0) (mC (.int 2))))) (mC (.int 29))) (mC (.int 3))) (mC [])) (biE .int)) (mC (.int 1000000007))) (mVar 1))) sNx)))))
def s__law_same (F : Nat) (C : Nat → List EV → EH → R EV) : M Fl := (sSeq (mIte (mThen (mThen (mVar 1) fun x h => isiR x [.list, .tuple] h) truE) (sSeq (mIte (mOr (mThen (mCmp .NotEq (mThen (mVar 0) fun x h => isiR x [.list] h) (mThen (mVar 1) fun x h => isiR x [.list] h)) truE) (mOr (mThen (mCmp .NotEq (mThen (mVar 0) fun x h => isiR x [.tuple] h) (mThen (mVar 1) fun x h => isiR x [.tuple] h)) truE) (mC false))) (sSeq (sRet (mC (.bl false))) sNx) sNx) (sSeq (sRet (mAndV (mCmp .Eq (mThen (mCons (mVar 0) (mC [])) (biE .len)) (mThen (mCons (mVar 1) (mC [])) (biE .len))) (mThen (mCons (mLc F [2, 3] (mCall C 21 (mCons (mVar 2) (mCons (mVar 3) (mC [])))) (gTp 2 (gCons (gNm 2) (gCons (gNm 3) gNil))) (mZip (mVar 0) (mVar 1)) (mC true)) (mC [])) (biE .all)))) sNx)) sNx) (sSeq (mIte (mThen (mThen (mVar 1) fun x h => isiR x [.dict] h) truE) (sSeq (sRet (mAndV (mThen (mVar 0) fun x h => isiR x [.dict] h) (mCall C 21 (mCons (mThen (mCons mBad (mC [])) (biE .list)) (mCons (mThen (mCons mBad (mC [])) (biE .list)) (mC [])))))) sNx) sNx) (sSeq (mIte (mOr (mThen (mThen (mVar 1) fun x h => isiR x [.bool] h) truE) (mOr (mThen (mThen (mVar 0) fun x h => isiR x [.bool] h) truE) (mC false))) (sSeq (sRet (mAndV (mThen (mVar 1) fun x h => isiR x [.bool] h) (mAndV (mThen (mVar 0) fun x h => isiR x [.bool] h) (mCmp .Eq (mVar 0) (mVar 1))))) sNx) sNx) (sSeq (mIte (mOr (mThen (mCmp .Is (mVar 1) (mC .non)) truE) (mOr (mThen (mCmp .Is (mVar 0) (mC .non)) truE) (mC false))) (sSeq (sRet (mAndV (mCmp .Is (mVar 1) (mC .non)) (mCmp .Is (mVar 0) (mC .non)))) sNx) sNx) (sSeq (mIte (mOr (mThen (mCmp .NotEq (mThen (mVar 1) fun x h => isiR x [.int] h) (mThen (mVar 0) fun x h => isiR x [.int] h)) truE) (mOr (mThen (mCmp .NotEq (mThen (mVar 1) fun x h => isiR x [.str] h) (mThen (mVar 0) fun x h => isiR x [.str] h)) truE) (mC false))) (sSeq (sRet (mC (.bl false))) sNx) sNx) (sSeq (sRet (mAndV (mNt (mThen (mVar 0) fun x h => isiR x [.list, .tuple, .dict] h)) (mCmp .Eq (mVar 0) (mVar 1)))) sNx))))))
def s__law_unlike (F : Nat) (C : Nat → List EV → EH → R EV) : M Fl := (sSeq (sAsg (gNm 1) (mThen (mC []) lstE)) (sSeq (sFor F (gNm 2) (mThen (mThen (mCons (mVar 0) (mC [])) (biE .sorted)) itOf) (sSeq (sEx (mMet .extend (mVar 1) (mCons (mIte (mOr (mThen (mCmp .Eq (mVar 1) (mThen (mC []) lstE)) truE) (mOr (mThen (mCmp .NotEq (mSub (mVar 1) (mThen (mC (.int 1)) negE)) (mVar 2)) truE) (mC false))) (mThen (mCons (mVar 2) (mC [])) lstE) (mThen (mC []) lstE)) (mC [])))) sNx)) (sSeq (sRet (mVar 1)) sNx)))
def s__law_g_round (F : Nat) (C : Nat → List EV → EH → R EV) : M Fl := (sSeq (sFor F (gNm 2) (mThen (mCons (mVar 1) (mC [])) rngE) (sSeq (sAsg (gNm 0) (mThen (mCons (mBin .Sub (mC (.int 0)) (mSub (mVar 0) (mC (.int 1)))) (mCons (mBin .Add (mSub (mVar 0) (mC (.int 0))) (mSub (mVar 0) (mC (.int 1)))) (mC []))) tupE)) sNx)) (sSeq (sRet (mVar 0)) sNx))
def s__law_g_middle (F : Nat) (C : Nat → List EV → EH → R EV) : M Fl := (sSeq (sRet (mThen (mCons (mBin .Sub (mBin .Mult (mC (.int 2)) (mVar 0)) (mBin .Mult (mC (.int 2)) (mVar 1))) (mCons (mBin .Add (mBin .Mult (mC (.int 2)) (mVar 0)) (mBin .Mult (mC (.int 4)) (mVar 1))) (mC []))) tupE)) sNx)
def s__law_g_corners (F : Nat) (C : Nat → List EV → EH → R EV) : M Fl := (sSeq (sAsg (gTp 2 (gCons (gNm 3) (gCons (gNm 4) gNil))) (mCall C 24 (mCons (mSub (mVar 0) (mC (.int 0))) (mCons (mSub (mVar 0) (mC (.int 1))) (mC []))))) (sSeq (sAsg (gNm 1) (mThen (mCons (mThen (mCons (mVar 3) (mCons (mVar 4) (mC []))) tupE) (mC [])) lstE)) (sSeq (sFor F (gNm 2) (mThen (mThen (mCons (mCall C 23 (mCons (mThen (mCons (mC (.int 1)) (mCons (mC (.int 1)) (mC []))) tupE) (mCons (mSub (mVar 0) (mC (.int 2))) (mC [])))) (mCons (mCall C 23 (mCons (mThen (mCons (mC (.int 0)) (mCons (mC (.int 2)) (mC []))) tupE) (mCons (mSub (mVar 0) (mC (.int 2))) (mC [])))) (mCons (mCall C 23 (mCons (mThen (mCons (mC (.int 1)) (mCons (mC (.int 1)) (mC []))) tupE) (mCons (mBin .Add (mSub (mVar 0) (mC (.int 2))) (mC (.int 1))) (mC [])))) (mC [])))) tupE) itOf) (sSeq (sEx (mMet .append (mVar 1) (mCons (mThen (mCons (mBin .Add (mVar 3) (mSub (mVar 2) (mC (.int 0)))) (mCons (mBin .Add (mVar 4) (mSub (mVar 2) (mC (.int 1)))) (mC []))) tupE) (mC [])))) sNx)) (sSeq (sRet (mVar 1)) sNx))))
def s__law_g_at (F : Nat) (C : Nat → List EV → EH → R EV) : M Fl := (sSeq (sAsg (gNm 1) (mBin .FloorDiv (mThen (mCons (mBin .Sub (mSub (mVar 0) (mC (.int 1))) (mSub (mVar 0) (mC (.int 0)))) (mC [])) (biE .int)) (mC (.int 6)))) (sSeq (sAsg (gNm 2) (mBin .FloorDiv (mThen (mCons (mBin .Add (mSub (mVar 0) (mC (.int 0))) (mBin .Mult (mC (.int 2)) (mVar 1))) (mC [])) (biE .int)) (mC (.int 2)))) (sSeq (sAsg (gNm 3) (mThen (mC []) lstE)) (sSeq (sFor F (gNm 4) (mThen (mCons (mBin .Sub (mVar 2) (mC (.int 2))) (mCons (mBin .Add (mVar 2) (mC (.int 4))) (mC []))) rngE) (sSeq (sFor F (gNm 5) (mThen (mCons (mBin .Sub (mVar 1) (mC (.int 2))) (mCons (mBin .Add (mVar 1) (mC (.int 3))) (mC []))) rngE) (sSeq (sEx (mMet .extend (mVar 3) (mCons (mLc F [6] (mThen (mCons (mVar 4) (mCons (mVar 5) (mCons (mVar 6) (mC [])))) tupE) (gNm 6) (mThen (mCons (mC (.int 6)) (mC [])) rngE) (mAnd (mThen (mCmp .In (mVar 0) (mCall C 25 (mCons (mThen (mCons (mVar 4) (mCons (mVar 5) (mCons (mVar 6) (mC [])))) tupE) (mC [])))) truE) (mC true))) (mC [])))) sNx)) sNx)) (sSeq (sRet (mVar 3)) sNx)))))
def s_law (F : Nat) (C : Nat → List EV → EH → R EV) : M Fl := (sSeq (sAsg (gNm 1) (mCall C 19 (mCons (mVar 0) (mC [])))) (sSeq (sPar [5, 6] (mCons (mBin .Sub (mCall C 20 (mCons (mVar 1) (mCons (mC (.int 40)) (mC [])))) (mC (.int 20))) (mCons (mBin .Sub (mCall C 20 (mCons (mVar 1) (mCons (mC (.int 40)) (mC [])))) (mC (.int 20))) (mC [])))) (sSeq (sPar [7, 8] (mCons (mBin .Add (mC (.int 1)) (mCall C 20 (mCons (mVar 1) (mCons (mC (.int 2)) (mC []))))) (mCons (mBin .Add (mC (.int 1)) (mCall C 20 (mCons (mVar 1) (mCons (mC (.int 3)) (mC []))))) (mC [])))) (sSeq (sAsg (gTp 2 (gCons (gNm 9) (gCons (gNm 10) gNil))) (mThen (mCons (mThen (mC []) lstE) (mCons (mThen (mC []) dctE) (mC []))) tupE)) (sSeq (sFor F (gNm 2) (mThen (mCons (mVar 5) (mCons (mBin .Add (mVar 5) (mVar 7)) (mC []))) rngE) (sSeq (sFor F (gNm 11) (mThen (mCons (mVar 6) (mCons (mBin .Add (mVar 6) (mVar 8)) (mC []))) rngE) (sSeq (sEx (mMet .extend (mVar 9) (mCons (mLc F [13] (mThen (mCons (mVar 2) (mCons (mVar 11) (mCons (mVar 13) (mC [])))) tupE) (gNm 13) (mThen (mCons (mC (.int 6)) (mC [])) rngE) (mC true)) (mC [])))) sNx)) sNx)) (sSeq (sFor F (gNm 3) (mThen (mVar 9) itOf) (sSeq (sAsg (gTp 2 (gCons (gNm 14) (gCons (gNm 15) gNil))) (mThen (mCons (mCall C 13 (mCons (mVar 3) (mC []))) (mCons (mCall C 15 (mCons (mVar 3) (mC []))) (mC []))) tupE)) (sSeq (mIte (mOr (mNot (mThen (mCall C 21 (mCons (mVar 15) (mCons (mCall C 25 (mCons (mVar 3) (mC []))) (mC [])))) truE)) (mOr (mThen (mCmp .NotEq (mThen (mCons (mCall C 22 (mCons (mVar 14) (mC []))) (mC [])) (biE .len)) (mC (.int 4))) truE) (mOr (mThen (mCmp .In (mVar 3) (mVar 14)) truE) (mC false)))) (sSeq (sRet (mC (.bl false))) sNx) sNx) (sSeq (sFor F (gTp 2 (gCons (gNm 16) (gCons (gNm 17) gNil))) (mThen (mVar 14) enuE) (sSeq (sAsg (gNm 18) (mCall C 13 (mCons (mVar 17) (mC [])))) (sSeq (mIte (mOr (mThen (mCmp .NotEq (mMet .count (mVar 18) (mCons (mVar 3) (mC []))) (mC (.int 1))) truE) (mOr (mThen (mCmp .NotEq (mThen (mCons (mThen (mCons (mSub (mVar 15) (mVar 16)) (mCons (mSub (mVar 15) (mBin .Mod (mThen (mCons (mBin .Add (mVar 16) (mC (.int 1))) (mC [])) (biE .int)) (mC (.int 4)))) (mC []))) lstE) (mC [])) (biE .sorted)) (mThen (mCons (mLc F [4] (mVar 4) (gNm 4) (mThen (mCall C 15 (mCons (mVar 17) (mC []))) itOf) (mAnd (mThen (mCmp .In (mVar 4) (mVar 15)) truE) (mC true))) (mC [])) (biE .sorted))) truE) (mC false))) (sSeq (sRet (mC (.bl false))) sNx) sNx) sNx))) (sSeq (sFor F (gNm 4) (mThen (mVar 15) itOf) (sSeq (sAsg (gSb (mVar 10) (mVar 4)) (mBin .Add (mMet .get (mVar 10) (mCons (mVar 4) (mCons (mC (.int 0)) (mC [])))) (mC (.int 1)))) sNx)) sNx))))) (sSeq (sFor F (gNm 4) (mThen (mVar 10) itOf) (sSeq (sAsg (gNm 12) (mCall C 18 (mCons (mVar 4) (mC [])))) (sSeq (mIte (mOr (mThen (mCmp .NotEq (mSub (mVar 10) (mVar 4)) (mThen (mCons (mLc F [3] (mVar 3) (gNm 3) (mThen (mVar 12) itOf) (mAnd (mThen (mCmp .In (mVar 3) (mVar 9)) truE) (mC true))) (mC [])) (biE .len))) truE) (mOr (mNot (mThen (mCall C 21 (mCons (mVar 12) (mCons (mCall C 26 (mCons (mVar 4) (mC []))) (mC [])))) truE)) (mC false))) (sSeq (sRet (mC (.bl false))) sNx) sNx) (sSeq (sAsg (gTp 2 (gCons (gNm 19) (gCons (gNm 3) gNil))) (mThen (mCons (mThen (mCons (mSub (mVar 12) (mC (.int 0))) (mC [])) lstE) (mCons (mSub (mVar 12) (mC (.int 0))) (mC []))) tupE)) (sSeq (sFor F (gNm 13) (mThen (mCons (mThen (mCons (mVar 12) (mC [])) (biE .len)) (mC [])) rngE) (sSeq (sAsg (gNm 3) (mSub (mLc F [20] (mVar 20) (gNm 20) (mThen (mCall C 13 (mCons (mVar 3) (mC []))) itOf) (mAnd (mAnd (mThen (mCmp .In (mVar 20) (mVar 12)) truE) (mAnd (mThen (mCmp .Eq (mSub (mCall C 15 (mCons (mVar 20) (mC []))) (mBin .Mod (mThen (mCons (mBin .Add (mMet .index (mCall C 15 (mCons (mVar 20) (mC []))) (mCons (mVar 4) (mC []))) (mC (.int 1))) (mC [])) (biE .int)) (mC (.int 4)))) (mSub (mCall C 15 (mCons (mVar 3) (mC []))) (mBin .Mod (mThen (mCons (mBin .Add (mMet .index (mCall C 15 (mCons (mVar 3) (mC []))) (mCons (mVar 4) (mC []))) (mC (.int 3))) (mC [])) (biE .int)) (mC (.int 4))))) truE) (mC true))) (mC true))) (mC (.int 0)))) (sSeq (sEx (mMet .append (mVar 19) (mCons (mVar 3) (mC [])))) sNx))) (sSeq (mIte (mOr (mThen (mCmp .NotEq (mSub (mVar 19) (mC (.int 0))) (mSub (mVar 19) (mThen (mC (.int 1)) negE))) truE) (mOr (mThen (mCmp .NotEq (mThen (mCons (mSlc (mVar 19) (mThen (mC (.int 1)) intO) (mC none)) (mC [])) (biE .sorted)) (mVar 12)) truE) (mC false))) (sSeq (sRet (mC (.bl false))) sNx) sNx) sNx)))))) (sSeq (sRet (mC (.bl true))) sNx))))))))
def tS : List SD := [⟨1, 1, s_is_list⟩, ⟨1, 1, s_is_whole⟩, ⟨1, 1, s_is_number⟩, ⟨2, 2, s_is_below⟩, ⟨2, 2, s_is_row⟩, ⟨2, 3, s_are_whole⟩, ⟨1, 1, s_is_kite⟩, ⟨1, 1, s_need_kite⟩, ⟨1, 1, s_is_dot⟩, ⟨1, 1, s_need_dot⟩, ⟨2, 2, s_middle⟩, ⟨2, 2, s_added⟩, ⟨1, 7, s_beside_by⟩, ⟨1, 1, s_beside⟩, ⟨1, 5, s_corners_by⟩, ⟨1, 1, s_corners⟩, ⟨1, 4, s_hexagon_at⟩, ⟨1, 8, s_kites_by⟩, ⟨1, 1, s_kites_at⟩, ⟨1, 1, s__law_stream⟩, ⟨2, 5, s__law_draw⟩, ⟨2, 4, s__law_same⟩, ⟨1, 3, s__law_unlike⟩, ⟨2, 3, s__law_g_round⟩, ⟨2, 2, s__law_g_middle⟩, ⟨1, 5, s__law_g_corners⟩, ⟨1, 7, s__law_g_at⟩, ⟨1, 21, s_law⟩]
def tG : GT := ⟨["is_list", "is_whole", "is_number", "is_below", "is_row", "are_whole", "is_kite", "need_kite", "is_dot", "need_dot", "middle", "added", "beside_by", "beside", "corners_by", "corners", "hexagon_at", "kites_by", "kites_at", "_law_stream", "_law_draw", "_law_same", "_law_unlike", "_law_g_round", "_law_g_middle", "_law_g_corners", "_law_g_at", "law"], ["ROUND", "EDGES", "TIPS"]⟩
def d_is_list : He.DefD := ⟨("is_list", none), "is_list", "is_list", defArgs (top 1), defBody (top 1), defScope (top 1), [], []⟩
theorem fs_is_list : FnScope ["thing"] ["thing"] (defScope (top 1)) := fsC_ok (by kernel_rfl)
def c_is_list : XSs := (.cons (.ret (.isi (.var 0 "thing") false [.list, .tuple])) .nil)
theorem ce_is_list : trSs (trS tG ["thing"] 60 (defScope (top 1))) (defBody (top 1)) = c_is_list := code_eq (by kernel_rfl)
theorem cd_is_list (F : Nat) (C : Nat → List EV → EH → R EV) : s_is_list F C = exs (cstAt tCst) C F (trSs (trS tG ["thing"] 60 (defScope (top 1))) (defBody (top 1))) := by
  rw [ce_is_list]
  kernel_rfl
theorem bd_is_list {K : PySem.W.Frag} {f : Addr} {fd : FuncData} (F : FunD K "is_list" "is_list" (defArgs (top 1)) (defBody (top 1)) (defScope (top 1)) [] [] f fd) : Binds K fd ["thing"] [] := F.bindsN fun _ _ _ _ _ _ us hl => match us, hl with | [_], _ => rfl
def d_is_whole : He.DefD := ⟨("is_whole", none), "is_whole", "is_whole", defArgs (top 2), defBody (top 2), defScope (top 2), [], []⟩
theorem fs_is_whole : FnScope ["thing"] ["thing"] (defScope (top 2)) := fsC_ok (by kernel_rfl)
def c_is_whole : XSs := (.cons (.ret (.lg .And (.cons false (.isi (.var 0 "thing") true [.int]) (.cons false (.nt (.isi (.var 0 "thing") true [.bool])) .nil)))) .nil)
theorem ce_is_whole : trSs (trS tG ["thing"] 60 (defScope (top 2))) (defBody (top 2)) = c_is_whole := code_eq (by kernel_rfl)
theorem cd_is_whole (F : Nat) (C : Nat → List EV → EH → R EV) : s_is_whole F C = exs (cstAt tCst) C F (trSs (trS tG ["thing"] 60 (defScope (top 2))) (defBody (top 2))) := by
  rw [ce_is_whole]
  kernel_rfl
theorem bd_is_whole {K : PySem.W.Frag} {f : Addr} {fd : FuncData} (F : FunD K "is_whole" "is_whole" (defArgs (top 2)) (defBody (top 2)) (defScope (top 2)) [] [] f fd) : Binds K fd ["thing"] [] := F.bindsN fun _ _ _ _ _ _ us hl => match us, hl with | [_], _ => rfl
def d_is_number : He.DefD := ⟨("is_number", none), "is_number", "is_number", defArgs (top 3), defBody (top 3), defScope (top 3), [], []⟩
theorem fs_is_number : FnScope ["thing"] ["thing"] (defScope (top 3)) := fsC_ok (by kernel_rfl)
def c_is_number : XSs := (.cons (.ret (.lg .And (.cons false (.call 1 "is_whole" (.cons false (.var 0 "thing") .nil)) (.cons false (.cmp .GtE (.var 0 "thing") (.cI 0)) .nil)))) .nil)
theorem ce_is_number : trSs (trS tG ["thing"] 60 (defScope (top 3))) (defBody (top 3)) = c_is_number := code_eq (by kernel_rfl)
theorem cd_is_number (F : Nat) (C : Nat → List EV → EH → R EV) : s_is_number F C = exs (cstAt tCst) C F (trSs (trS tG ["thing"] 60 (defScope (top 3))) (defBody (top 3))) := by
  rw [ce_is_number]
  kernel_rfl
theorem bd_is_number {K : PySem.W.Frag} {f : Addr} {fd : FuncData} (F : FunD K "is_number" "is_number" (defArgs (top 3)) (defBody (top 3)) (defScope (top 3)) [] [] f fd) : Binds K fd ["thing"] [] := F.bindsN fun _ _ _ _ _ _ us hl => match us, hl with | [_], _ => rfl
def d_is_below : He.DefD := ⟨("is_below", none), "is_below", "is_below", defArgs (top 4), defBody (top 4), defScope (top 4), [], []⟩
theorem fs_is_below : FnScope ["thing", "top"] ["thing", "top"] (defScope (top 4)) := fsC_ok (by kernel_rfl)
def c_is_below : XSs := (.cons (.ret (.lg .And (.cons false (.call 2 "is_number" (.cons false (.var 0 "thing") .nil)) (.cons false (.cmp .Lt (.var 0 "thing") (.var 1 "top")) .nil)))) .nil)
theorem ce_is_below : trSs (trS tG ["thing", "top"] 60 (defScope (top 4))) (defBody (top 4)) = c_is_below := code_eq (by kernel_rfl)
theorem cd_is_below (F : Nat) (C : Nat → List EV → EH → R EV) : s_is_below F C = exs (cstAt tCst) C F (trSs (trS tG ["thing", "top"] 60 (defScope (top 4))) (defBody (top 4))) := by
  rw [ce_is_below]
  kernel_rfl
theorem bd_is_below {K : PySem.W.Frag} {f : Addr} {fd : FuncData} (F : FunD K "is_below" "is_below" (defArgs (top 4)) (defBody (top 4)) (defScope (top 4)) [] [] f fd) : Binds K fd ["thing", "top"] [] := F.bindsN fun _ _ _ _ _ _ us hl => match us, hl with | [_, _], _ => rfl
def d_is_row : He.DefD := ⟨("is_row", none), "is_row", "is_row", defArgs (top 5), defBody (top 5), defScope (top 5), [], []⟩
theorem fs_is_row : FnScope ["thing", "many"] ["thing", "many"] (defScope (top 5)) := fsC_ok (by kernel_rfl)
def c_is_row : XSs := (.cons (.ret (.lg .And (.cons false (.call 0 "is_list" (.cons false (.var 0 "thing") .nil)) (.cons false (.cmp .Eq (.bi .len (.cons false (.var 0 "thing") .nil)) (.var 1 "many")) .nil)))) .nil)
theorem ce_is_row : trSs (trS tG ["thing", "many"] 60 (defScope (top 5))) (defBody (top 5)) = c_is_row := code_eq (by kernel_rfl)
theorem cd_is_row (F : Nat) (C : Nat → List EV → EH → R EV) : s_is_row F C = exs (cstAt tCst) C F (trSs (trS tG ["thing", "many"] 60 (defScope (top 5))) (defBody (top 5))) := by
  rw [ce_is_row]
  kernel_rfl
theorem bd_is_row {K : PySem.W.Frag} {f : Addr} {fd : FuncData} (F : FunD K "is_row" "is_row" (defArgs (top 5)) (defBody (top 5)) (defScope (top 5)) [] [] f fd) : Binds K fd ["thing", "many"] [] := F.bindsN fun _ _ _ _ _ _ us hl => match us, hl with | [_, _], _ => rfl
def d_are_whole : He.DefD := ⟨("are_whole", none), "are_whole", "are_whole", defArgs (top 6), defBody (top 6), defScope (top 6), [], []⟩
theorem fs_are_whole : FnScope ["thing", "many", "one"] ["thing", "many"] (defScope (top 6)) := fsC_ok (by kernel_rfl)
def c_are_whole : XSs := (.cons (.ret (.lg .And (.cons false (.call 4 "is_row" (.cons false (.var 0 "thing") (.cons false (.var 1 "many") .nil))) (.cons false (.bi .all (.cons false (.lc [2] (.call 1 "is_whole" (.cons false (.var 2 "one") .nil)) (.nm 2 "one") (.ex (.var 0 "thing")) .nil) .nil)) .nil)))) .nil)
theorem ce_are_whole : trSs (trS tG ["thing", "many", "one"] 60 (defScope (top 6))) (defBody (top 6)) = c_are_whole := code_eq (by kernel_rfl)
theorem cd_are_whole (F : Nat) (C : Nat → List EV → EH → R EV) : s_are_whole F C = exs (cstAt tCst) C F (trSs (trS tG ["thing", "many", "one"] 60 (defScope (top 6))) (defBody (top 6))) := by
  rw [ce_are_whole]
  kernel_rfl
theorem bd_are_whole {K : PySem.W.Frag} {f : Addr} {fd : FuncData} (F : FunD K "are_whole" "are_whole" (defArgs (top 6)) (defBody (top 6)) (defScope (top 6)) [] [] f fd) : Binds K fd ["thing", "many"] [] := F.bindsN fun _ _ _ _ _ _ us hl => match us, hl with | [_, _], _ => rfl
def d_is_kite : He.DefD := ⟨("is_kite", none), "is_kite", "is_kite", defArgs (top 15), defBody (top 15), defScope (top 15), [], []⟩
theorem fs_is_kite : FnScope ["thing"] ["thing"] (defScope (top 15)) := fsC_ok (by kernel_rfl)
def c_is_kite : XSs := (.cons (.ret (.lg .And (.cons false (.call 5 "are_whole" (.cons false (.var 0 "thing") (.cons false (.cI 3) .nil))) (.cons false (.call 3 "is_below" (.cons false (.sub (.var 0 "thing") (.cI 2)) (.cons false (.cI 6) .nil))) .nil)))) .nil)
theorem ce_is_kite : trSs (trS tG ["thing"] 60 (defScope (top 15))) (defBody (top 15)) = c_is_kite := code_eq (by kernel_rfl)
theorem cd_is_kite (F : Nat) (C : Nat → List EV → EH → R EV) : s_is_kite F C = exs (cstAt tCst) C F (trSs (trS tG ["thing"] 60 (defScope (top 15))) (defBody (top 15))) := by
  rw [ce_is_kite]
  kernel_rfl
theorem bd_is_kite {K : PySem.W.Frag} {f : Addr} {fd : FuncData} (F : FunD K "is_kite" "is_kite" (defArgs (top 15)) (defBody (top 15)) (defScope (top 15)) [] [] f fd) : Binds K fd ["thing"] [] := F.bindsN fun _ _ _ _ _ _ us hl => match us, hl with | [_], _ => rfl
def d_need_kite : He.DefD := ⟨("need_kite", none), "need_kite", "need_kite", defArgs (top 16), defBody (top 16), defScope (top 16), [], []⟩
theorem fs_need_kite : FnScope ["kite"] ["kite"] (defScope (top 16)) := fsC_ok (by kernel_rfl)
def c_need_kite : XSs := (.cons (.ifs (.nt (.va (.call 6 "is_kite" (.cons false (.var 0 "kite") .nil)))) (.cons .nev .nil) .nil) (.cons (.ret (.bi .tuple (.cons false (.var 0 "kite") .nil))) .nil))
theorem ce_need_kite : trSs (trS tG ["kite"] 60 (defScope (top 16))) (defBody (top 16)) = c_need_kite := code_eq (by kernel_rfl)
theorem cd_need_kite (F : Nat) (C : Nat → List EV → EH → R EV) : s_need_kite F C = exs (cstAt tCst) C F (trSs (trS tG ["kite"] 60 (defScope (top 16))) (defBody (top 16))) := by
  rw [ce_need_kite]
  kernel_rfl
theorem bd_need_kite {K : PySem.W.Frag} {f : Addr} {fd : FuncData} (F : FunD K "need_kite" "need_kite" (defArgs (top 16)) (defBody (top 16)) (defScope (top 16)) [] [] f fd) : Binds K fd ["kite"] [] := F.bindsN fun _ _ _ _ _ _ us hl => match us, hl with | [_], _ => rfl
def d_is_dot : He.DefD := ⟨("is_dot", none), "is_dot", "is_dot", defArgs (top 17), defBody (top 17), defScope (top 17), [], []⟩
theorem fs_is_dot : FnScope ["thing"] ["thing"] (defScope (top 17)) := fsC_ok (by kernel_rfl)
def c_is_dot : XSs := (.cons (.ret (.call 5 "are_whole" (.cons false (.var 0 "thing") (.cons false (.cI 2) .nil)))) .nil)
theorem ce_is_dot : trSs (trS tG ["thing"] 60 (defScope (top 17))) (defBody (top 17)) = c_is_dot := code_eq (by kernel_rfl)
theorem cd_is_dot (F : Nat) (C : Nat → List EV → EH → R EV) : s_is_dot F C = exs (cstAt tCst) C F (trSs (trS tG ["thing"] 60 (defScope (top 17))) (defBody (top 17))) := by
  rw [ce_is_dot]
  kernel_rfl
theorem bd_is_dot {K : PySem.W.Frag} {f : Addr} {fd : FuncData} (F : FunD K "is_dot" "is_dot" (defArgs (top 17)) (defBody (top 17)) (defScope (top 17)) [] [] f fd) : Binds K fd ["thing"] [] := F.bindsN fun _ _ _ _ _ _ us hl => match us, hl with | [_], _ => rfl
def d_need_dot : He.DefD := ⟨("need_dot", none), "need_dot", "need_dot", defArgs (top 18), defBody (top 18), defScope (top 18), [], []⟩
theorem fs_need_dot : FnScope ["dot"] ["dot"] (defScope (top 18)) := fsC_ok (by kernel_rfl)
def c_need_dot : XSs := (.cons (.ifs (.nt (.va (.call 8 "is_dot" (.cons false (.var 0 "dot") .nil)))) (.cons .nev .nil) .nil) (.cons (.ret (.bi .tuple (.cons false (.var 0 "dot") .nil))) .nil))
theorem ce_need_dot : trSs (trS tG ["dot"] 60 (defScope (top 18))) (defBody (top 18)) = c_need_dot := code_eq (by kernel_rfl)
theorem cd_need_dot (F : Nat) (C : Nat → List EV → EH → R EV) : s_need_dot F C = exs (cstAt tCst) C F (trSs (trS tG ["dot"] 60 (defScope (top 18))) (defBody (top 18))) := by
  rw [ce_need_dot]
  kernel_rfl
theorem bd_need_dot {K : PySem.W.Frag} {f : Addr} {fd : FuncData} (F : FunD K "need_dot" "need_dot" (defArgs (top 18)) (defBody (top 18)) (defScope (top 18)) [] [] f fd) : Binds K fd ["dot"] [] := F.bindsN fun _ _ _ _ _ _ us hl => match us, hl with | [_], _ => rfl
def d_middle : He.DefD := ⟨("middle", none), "middle", "middle", defArgs (top 19), defBody (top 19), defScope (top 19), [], []⟩
theorem fs_middle : FnScope ["a", "b"] ["a", "b"] (defScope (top 19)) := fsC_ok (by kernel_rfl)
def c_middle : XSs := (.cons (.ret (.tup (.cons false (.bin .Sub (.bin .Mult (.cI 2) (.var 0 "a")) (.bin .Mult (.cI 2) (.var 1 "b"))) (.cons false (.bin .Add (.bin .Mult (.cI 2) (.var 0 "a")) (.bin .Mult (.cI 4) (.var 1 "b"))) .nil)))) .nil)
theorem ce_middle : trSs (trS tG ["a", "b"] 60 (defScope (top 19))) (defBody (top 19)) = c_middle := code_eq (by kernel_rfl)
theorem cd_middle (F : Nat) (C : Nat → List EV → EH → R EV) : s_middle F C = exs (cstAt tCst) C F (trSs (trS tG ["a", "b"] 60 (defScope (top 19))) (defBody (top 19))) := by
  rw [ce_middle]
  kernel_rfl
theorem bd_middle {K : PySem.W.Frag} {f : Addr} {fd : FuncData} (F : FunD K "middle" "middle" (defArgs (top 19)) (defBody (top 19)) (defScope (top 19)) [] [] f fd) : Binds K fd ["a", "b"] [] := F.bindsN fun _ _ _ _ _ _ us hl => match us, hl with | [_, _], _ => rfl
def d_added : He.DefD := ⟨("added", none), "added", "added", defArgs (top 20), defBody (top 20), defScope (top 20), [], []⟩
theorem fs_added : FnScope ["one", "other"] ["one", "other"] (defScope (top 20)) := fsC_ok (by kernel_rfl)
def c_added : XSs := (.cons (.ret (.tup (.cons false (.bin .Add (.sub (.var 0 "one") (.cI 0)) (.sub (.var 1 "other") (.cI 0))) (.cons false (.bin .Add (.sub (.var 0 "one") (.cI 1)) (.sub (.var 1 "other") (.cI 1))) .nil)))) .nil)
theorem ce_added : trSs (trS tG ["one", "other"] 60 (defScope (top 20))) (defBody (top 20)) = c_added := code_eq (by kernel_rfl)
theorem cd_added (F : Nat) (C : Nat → List EV → EH → R EV) : s_added F C = exs (cstAt tCst) C F (trSs (trS tG ["one", "other"] 60 (defScope (top 20))) (defBody (top 20))) := by
  rw [ce_added]
  kernel_rfl
theorem bd_added {K : PySem.W.Frag} {f : Addr} {fd : FuncData} (F : FunD K "added" "added" (defArgs (top 20)) (defBody (top 20)) (defScope (top 20)) [] [] f fd) : Binds K fd ["one", "other"] [] := F.bindsN fun _ _ _ _ _ _ us hl => match us, hl with | [_, _], _ => rfl
def d_beside_by : He.DefD := ⟨("beside_by", none), "beside_by", "beside_by", defArgs (top 21), defBody (top 21), defScope (top 21), [], []⟩
theorem fs_beside_by : FnScope ["kite", "last", "a", "b", "k", "one", "other"] ["kite"] (defScope (top 21)) := fsC_ok (by kernel_rfl)
def c_beside_by : XSs := (.cons (.asg (.tp (.cons (.nm 2 "a") (.cons (.nm 3 "b") (.cons (.nm 4 "k") .nil)))) (.var 0 "kite")) (.cons (.asg (.nm 1 "last") (.bin .Mod (.bin .Add (.var 4 "k") (.cI 1)) (.cI 6))) (.cons (.par [(5, "one"), (6, "other")] (.cons false (.call 11 "added" (.cons false (.tup (.cons false (.var 2 "a") (.cons false (.var 3 "b") .nil))) (.cons false (.sub (.glo 0 "ROUND") (.var 4 "k")) .nil))) (.cons false (.call 11 "added" (.cons false (.tup (.cons false (.var 2 "a") (.cons false (.var 3 "b") .nil))) (.cons false (.sub (.glo 0 "ROUND") (.var 1 "last")) .nil))) .nil))) (.cons (.ret (.lst (.cons false (.tup (.cons false (.var 2 "a") (.cons false (.var 3 "b") (.cons false (.bin .Mod (.bin .Sub (.var 4 "k") (.cI 1)) (.cI 6)) .nil)))) (.cons false (.tup (.cons true (.var 5 "one") (.cons false (.bin .Mod (.bin .Add (.var 4 "k") (.cI 2)) (.cI 6)) .nil))) (.cons false (.tup (.cons true (.var 6 "other") (.cons false (.bin .Mod (.bin .Add (.var 4 "k") (.cI 4)) (.cI 6)) .nil))) (.cons false (.tup (.cons false (.var 2 "a") (.cons false (.var 3 "b") (.cons false (.var 1 "last") .nil)))) .nil)))))) .nil))))
theorem ce_beside_by : trSs (trS tG ["kite", "last", "a", "b", "k", "one", "other"] 60 (defScope (top 21))) (defBody (top 21)) = c_beside_by := code_eq (by kernel_rfl)
theorem cd_beside_by (F : Nat) (C : Nat → List EV → EH → R EV) : s_beside_by F C = exs (cstAt tCst) C F (trSs (trS tG ["kite", "last", "a", "b", "k", "one", "other"] 60 (defScope (top 21))) (defBody (top 21))) := by
  rw [ce_beside_by]
  kernel_rfl
theorem bd_beside_by {K : PySem.W.Frag} {f : Addr} {fd : FuncData} (F : FunD K "beside_by" "beside_by" (defArgs (top 21)) (defBody (top 21)) (defScope (top 21)) [] [] f fd) : Binds K fd ["kite"] [] := F.bindsN fun _ _ _ _ _ _ us hl => match us, hl with | [_], _ => rfl
def d_beside : He.DefD := ⟨("beside", none), "beside", "beside", defArgs (top 22), defBody (top 22), defScope (top 22), [], []⟩
theorem fs_beside : FnScope ["kite"] ["kite"] (defScope (top 22)) := fsC_ok (by kernel_rfl)
def c_beside : XSs := (.cons (.ret (.call 12 "beside_by" (.cons false (.call 7 "need_kite" (.cons false (.var 0 "kite") .nil)) .nil))) .nil)
theorem ce_beside : trSs (trS tG ["kite"] 60 (defScope (top 22))) (defBody (top 22)) = c_beside := code_eq (by kernel_rfl)
theorem cd_beside (F : Nat) (C : Nat → List EV → EH → R EV) : s_beside F C = exs (cstAt tCst) C F (trSs (trS tG ["kite"] 60 (defScope (top 22))) (defBody (top 22))) := by
  rw [ce_beside]
  kernel_rfl
theorem bd_beside {K : PySem.W.Frag} {f : Addr} {fd : FuncData} (F : FunD K "beside" "beside" (defArgs (top 22)) (defBody (top 22)) (defScope (top 22)) [] [] f fd) : Binds K fd ["kite"] [] := F.bindsN fun _ _ _ _ _ _ us hl => match us, hl with | [_], _ => rfl
def d_corners_by : He.DefD := ⟨("corners_by", none), "corners_by", "corners_by", defArgs (top 23), defBody (top 23), defScope (top 23), [], []⟩
theorem fs_corners_by : FnScope ["kite", "here", "a", "b", "k"] ["kite"] (defScope (top 23)) := fsC_ok (by kernel_rfl)
def c_corners_by : XSs := (.cons (.asg (.tp (.cons (.nm 2 "a") (.cons (.nm 3 "b") (.cons (.nm 4 "k") .nil)))) (.var 0 "kite")) (.cons (.asg (.nm 1 "here") (.call 10 "middle" (.cons false (.var 2 "a") (.cons false (.var 3 "b") .nil)))) (.cons (.ret (.lst (.cons false (.var 1 "here") (.cons false (.call 11 "added" (.cons false (.var 1 "here") (.cons false (.sub (.glo 1 "EDGES") (.var 4 "k")) .nil))) (.cons false (.call 11 "added" (.cons false (.var 1 "here") (.cons false (.sub (.glo 2 "TIPS") (.var 4 "k")) .nil))) (.cons false (.call 11 "added" (.cons false (.var 1 "here") (.cons false (.sub (.glo 1 "EDGES") (.bin .Mod (.bin .Add (.var 4 "k") (.cI 1)) (.cI 6))) .nil))) .nil)))))) .nil)))
theorem ce_corners_by : trSs (trS tG ["kite", "here", "a", "b", "k"] 60 (defScope (top 23))) (defBody (top 23)) = c_corners_by := code_eq (by kernel_rfl)
theorem cd_corners_by (F : Nat) (C : Nat → List EV → EH → R EV) : s_corners_by F C = exs (cstAt tCst) C F (trSs (trS tG ["kite", "here", "a", "b", "k"] 60 (defScope (top 23))) (defBody (top 23))) := by
  rw [ce_corners_by]
  kernel_rfl
theorem bd_corners_by {K : PySem.W.Frag} {f : Addr} {fd : FuncData} (F : FunD K "corners_by" "corners_by" (defArgs (top 23)) (defBody (top 23)) (defScope (top 23)) [] [] f fd) : Binds K fd ["kite"] [] := F.bindsN fun _ _ _ _ _ _ us hl => match us, hl with | [_], _ => rfl
def d_corners : He.DefD := ⟨("corners", none), "corners", "corners", defArgs (top 24), defBody (top 24), defScope (top 24), [], []⟩
theorem fs_corners : FnScope ["kite"] ["kite"] (defScope (top 24)) := fsC_ok (by kernel_rfl)
def c_corners : XSs := (.cons (.ret (.call 14 "corners_by" (.cons false (.call 7 "need_kite" (.cons false (.var 0 "kite") .nil)) .nil))) .nil)
theorem ce_corners : trSs (trS tG ["kite"] 60 (defScope (top 24))) (defBody (top 24)) = c_corners := code_eq (by kernel_rfl)
theorem cd_corners (F : Nat) (C : Nat → List EV → EH → R EV) : s_corners F C = exs (cstAt tCst) C F (trSs (trS tG ["kite"] 60 (defScope (top 24))) (defBody (top 24))) := by
  rw [ce_corners]
  kernel_rfl
theorem bd_corners {K : PySem.W.Frag} {f : Addr} {fd : FuncData} (F : FunD K "corners" "corners" (defArgs (top 24)) (defBody (top 24)) (defScope (top 24)) [] [] f fd) : Binds K fd ["kite"] [] := F.bindsN fun _ _ _ _ _ _ us hl => match us, hl with | [_], _ => rfl
def d_hexagon_at : He.DefD := ⟨("hexagon_at", none), "hexagon_at", "hexagon_at", defArgs (top 25), defBody (top 25), defScope (top 25), [], []⟩
theorem fs_hexagon_at : FnScope ["dot", "b", "x", "y"] ["dot"] (defScope (top 25)) := fsC_ok (by kernel_rfl)
def c_hexagon_at : XSs := (.cons (.asg (.tp (.cons (.nm 2 "x") (.cons (.nm 3 "y") .nil))) (.var 0 "dot")) (.cons (.ifs (.lg .Or (.cons (.va (.cmp .NotEq (.bin .Mod (.var 2 "x") (.cI 2)) (.cI 0))) (.cons (.va (.cmp .NotEq (.bin .Mod (.bin .Sub (.var 3 "y") (.var 2 "x")) (.cI 6)) (.cI 0))) .nil))) (.cons (.ret .cN) .nil) .nil) (.cons (.asg (.nm 1 "b") (.bin .FloorDiv (.bin .Sub (.var 3 "y") (.var 2 "x")) (.cI 6))) (.cons (.ret (.tup (.cons false (.bin .Add (.bin .FloorDiv (.var 2 "x") (.cI 2)) (.var 1 "b")) (.cons false (.var 1 "b") .nil)))) .nil))))
theorem ce_hexagon_at : trSs (trS tG ["dot", "b", "x", "y"] 60 (defScope (top 25))) (defBody (top 25)) = c_hexagon_at := code_eq (by kernel_rfl)
theorem cd_hexagon_at (F : Nat) (C : Nat → List EV → EH → R EV) : s_hexagon_at F C = exs (cstAt tCst) C F (trSs (trS tG ["dot", "b", "x", "y"] 60 (defScope (top 25))) (defBody (top 25))) := by
  rw [ce_hexagon_at]
  kernel_rfl
theorem bd_hexagon_at {K : PySem.W.Frag} {f : Addr} {fd : FuncData} (F : FunD K "hexagon_at" "hexagon_at" (defArgs (top 25)) (defBody (top 25)) (defScope (top 25)) [] [] f fd) : Binds K fd ["dot"] [] := F.bindsN fun _ _ _ _ _ _ us hl => match us, hl with | [_], _ => rfl
def d_kites_by : He.DefD := ⟨("kites_by", none), "kites_by", "kites_by", defArgs (top 26), defBody (top 26), defScope (top 26), [], []⟩
theorem fs_kites_by : FnScope ["dot", "here", "found", "k", "row", "ahead", "less", "there"] ["dot"] (defScope (top 26)) := fsC_ok (by kernel_rfl)
def c_kites_by : XSs := (.cons (.asg (.nm 1 "here") (.call 16 "hexagon_at" (.cons false (.var 0 "dot") .nil))) (.cons (.asg (.nm 2 "found") (.ite (.va (.cmp .Is (.var 1 "here") .cN)) (.dct .nil) (.dc [3] (.tup (.cons true (.var 1 "here") (.cons false (.var 3 "k") .nil))) (.cB true) (.nm 3 "k") (.rng (.cons false (.cI 6) .nil)) .nil))) (.cons (.for_ (.nm 3 "k") (.rng (.cons false (.cI 6) .nil)) (.cons (.for_ (.tp (.cons (.nm 4 "row") (.cons (.nm 5 "ahead") .nil))) (.ex (.tup (.cons false (.tup (.cons false (.glo 1 "EDGES") (.cons false (.cI 0) .nil))) (.cons false (.tup (.cons false (.glo 2 "TIPS") (.cons false (.cI 0) .nil))) (.cons false (.tup (.cons false (.glo 1 "EDGES") (.cons false (.cI 1) .nil))) .nil))))) (.cons (.asg (.nm 6 "less") (.sub (.var 4 "row") (.bin .Mod (.bin .Add (.var 3 "k") (.var 5 "ahead")) (.cI 6)))) (.cons (.asg (.nm 7 "there") (.call 16 "hexagon_at" (.cons false (.tup (.cons false (.bin .Sub (.sub (.var 0 "dot") (.cI 0)) (.sub (.var 6 "less") (.cI 0))) (.cons false (.bin .Sub (.sub (.var 0 "dot") (.cI 1)) (.sub (.var 6 "less") (.cI 1))) .nil))) .nil))) (.cons (.ifs (.va (.cmp .IsNot (.var 7 "there") .cN)) (.cons (.asg (.sb (.var 2 "found") (.tup (.cons false (.sub (.var 7 "there") (.cI 0)) (.cons false (.sub (.var 7 "there") (.cI 1)) (.cons false (.var 3 "k") .nil))))) (.cB true)) .nil) .nil) .nil)))) .nil)) (.cons (.ret (.bi .sorted (.cons false (.var 2 "found") .nil))) .nil))))
theorem ce_kites_by : trSs (trS tG ["dot", "here", "found", "k", "row", "ahead", "less", "there"] 60 (defScope (top 26))) (defBody (top 26)) = c_kites_by := code_eq (by kernel_rfl)
theorem cd_kites_by (F : Nat) (C : Nat → List EV → EH → R EV) : s_kites_by F C = exs (cstAt tCst) C F (trSs (trS tG ["dot", "here", "found", "k", "row", "ahead", "less", "there"] 60 (defScope (top 26))) (defBody (top 26))) := by
  rw [ce_kites_by]
  kernel_rfl
theorem bd_kites_by {K : PySem.W.Frag} {f : Addr} {fd : FuncData} (F : FunD K "kites_by" "kites_by" (defArgs (top 26)) (defBody (top 26)) (defScope (top 26)) [] [] f fd) : Binds K fd ["dot"] [] := F.bindsN fun _ _ _ _ _ _ us hl => match us, hl with | [_], _ => rfl
def d_kites_at : He.DefD := ⟨("kites_at", none), "kites_at", "kites_at", defArgs (top 27), defBody (top 27), defScope (top 27), [], []⟩
theorem fs_kites_at : FnScope ["dot"] ["dot"] (defScope (top 27)) := fsC_ok (by kernel_rfl)
def c_kites_at : XSs := (.cons (.ret (.call 17 "kites_by" (.cons false (.call 9 "need_dot" (.cons false (.var 0 "dot") .nil)) .nil))) .nil)
theorem ce_kites_at : trSs (trS tG ["dot"] 60 (defScope (top 27))) (defBody (top 27)) = c_kites_at := code_eq (by kernel_rfl)
theorem cd_kites_at (F : Nat) (C : Nat → List EV → EH → R EV) : s_kites_at F C = exs (cstAt tCst) C F (trSs (trS tG ["dot"] 60 (defScope (top 27))) (defBody (top 27))) := by
  rw [ce_kites_at]
  kernel_rfl
theorem bd_kites_at {K : PySem.W.Frag} {f : Addr} {fd : FuncData} (F : FunD K "kites_at" "kites_at" (defArgs (top 27)) (defBody (top 27)) (defScope (top 27)) [] [] f fd) : Binds K fd ["dot"] [] := F.bindsN fun _ _ _ _ _ _ us hl => match us, hl with | [_], _ => rfl
def d__law_stream : He.DefD := ⟨("_law_stream", none), "_law_stream", "_law_stream", defArgs (top 29), defBody (top 29), defScope (top 29), [], []⟩
theorem fs__law_stream : FnScope ["script"] ["script"] (defScope (top 29)) := fsC_ok (by kernel_rfl)
def c__law_stream : XSs := (.cons (.ret (.lst (.cons false (.bi .list (.cons false (.var 0 "script") .nil)) (.cons false (.cI 0) (.cons false (.cI 0) (.cons false (.cI 17) .nil)))))) .nil)
theorem ce__law_stream : trSs (trS tG ["script"] 60 (defScope (top 29))) (defBody (top 29)) = c__law_stream := code_eq (by kernel_rfl)
theorem cd__law_stream (F : Nat) (C : Nat → List EV → EH → R EV) : s__law_stream F C = exs (cstAt tCst) C F (trSs (trS tG ["script"] 60 (defScope (top 29))) (defBody (top 29))) := by
  rw [ce__law_stream]
  kernel_rfl
theorem bd__law_stream {K : PySem.W.Frag} {f : Addr} {fd : FuncData} (F : FunD K "_law_stream" "_law_stream" (defArgs (top 29)) (defBody (top 29)) (defScope (top 29)) [] [] f fd) : Binds K fd ["script"] [] := F.bindsN fun _ _ _ _ _ _ us hl => match us, hl with | [_], _ => rfl
def d__law_draw : He.DefD := ⟨("_law_draw", none), "_law_draw", "_law_draw", defArgs (top 30), defBody (top 30), defScope (top 30), [], []⟩
theorem fs__law_draw : FnScope ["stream", "many", "mixed", "cell", "digit"] ["stream", "many"] (defScope (top 30)) := fsC_ok (by kernel_rfl)
def c__law_draw : XSs := (.cons (.asg (.sb (.var 0 "stream") (.cI 2)) (.bin .Add (.sub (.var 0 "stream") (.cI 2)) (.cI 1))) (.cons (.whl (.lg .And (.cons (.va (.cmp .Eq (.sub (.var 0 "stream") (.cI 1)) (.cI 0))) (.cons (.va (.cmp .NotEq (.sub (.var 0 "stream") (.cI 0)) (.lst .nil))) .nil))) (.cons (.asg (.nm 3 "cell") (.bi .abs (.cons false (.met .pop (.sub (.var 0 "stream") (.cI 0)) (.cons false (.cI 0) .nil)) .nil))) (.cons (.asg (.sb (.var 0 "stream") (.cI 3)) (.bin .Mod (.bi .int (.cons false (.bin .Add (.bin .Add (.bin .Mult (.sub (.var 0 "stream") (.cI 3)) (.cI 8191)) (.var 3 "cell")) (.cI 3)) .nil)) (.cI 2147483647))) (.cons (.asg (.sb (.var 0 "stream") (.cI 1)) (.ite (.va (.cmp .GtE (.var 3 "cell") (.bin .Pow (.cI 10) (.cI 18)))) (.var 3 "cell") (.cI 0))) .nil)))) (.cons (.ifs (.va (.cmp .Gt (.sub (.var 0 "stream") (.cI 1)) (.cI 0))) (.cons (.asg (.nm 4 "digit") (.bin .Mod (.bi .int (.cons false (.sub (.var 0 "stream") (.cI 1)) .nil)) (.var 1 "many"))) (.cons (.asg (.sb (.var 0 "stream") (.cI 1)) (.bin .FloorDiv (.sub (.var 0 "stream") (.cI 1)) (.var 1 "many"))) (.cons (.ret (.var 4 "digit")) .nil))) .nil) (.cons (.asg (.nm 2 "mixed") (.bin .Mod (.bi .int (.cons false (.bin .Pow (.bin .Add (.bin .Add (.sub (.var 0 "stream") (.cI 3)) (.bin .Mult (.cI 7919) (.sub (.var 0 "stream") (.cI 2)))) (.cI 104729)) (.cI 5)) .nil)) (.cI 2147483629))) (.cons (.ret (.bin .Mod (.bin .Mod (.bi .int (.cons false (.bin .Pow (.bin .Add (.bin .Add (.bin .Mult (.var 2 "mixed") (.cI 48271)) (.bin .Mult (.cI 30011) (.sub (.var 0 "stream") (.cI 2)))) (.cI 29)) (.cI 3)) .nil)) (.cI 1000000007)) (.var 1 "many"))) .nil)))))
theorem ce__law_draw : trSs (trS tG ["stream", "many", "mixed", "cell", "digit"] 60 (defScope (top 30))) (defBody (top 30)) = c__law_draw := code_eq (by kernel_rfl)
theorem cd__law_draw (F : Nat) (C : Nat → List EV → EH → R EV) : s__law_draw F C = exs (cstAt tCst) C F (trSs (trS tG ["stream", "many", "mixed", "cell", "digit"] 60 (defScope (top 30))) (defBody (top 30))) := by
  rw [ce__law_draw]
  kernel_rfl
theorem bd__law_draw {K : PySem.W.Frag} {f : Addr} {fd : FuncData} (F : FunD K "_law_draw" "_law_draw" (defArgs (top 30)) (defBody (top 30)) (defScope (top 30)) [] [] f fd) : Binds K fd ["stream", "many"] [] := F.bindsN fun _ _ _ _ _ _ us hl => match us, hl with | [_, _], _ => rfl
def d__law_same : He.DefD := ⟨("_law_same", none), "_law_same", "_law_same", defArgs (top 31), defBody (top 31), defScope (top 31), [], []⟩
theorem fs__law_same : FnScope ["found", "due", "mine", "theirs"] ["found", "due"] (defScope (top 31)) := fsC_ok (by kernel_rfl)
def c__law_same : XSs := (.cons (.ifs (.va (.isi (.var 1 "due") false [.list, .tuple])) (.cons (.ifs (.lg .Or (.cons (.va (.cmp .NotEq (.isi (.var 0 "found") true [.list]) (.isi (.var 1 "due") true [.list]))) (.cons (.va (.cmp .NotEq (.isi (.var 0 "found") true [.tuple]) (.isi (.var 1 "due") true [.tuple]))) .nil))) (.cons (.ret (.cB false)) .nil) .nil) (.cons (.ret (.lg .And (.cons false (.cmp .Eq (.bi .len (.cons false (.var 0 "found") .nil)) (.bi .len (.cons false (.var 1 "due") .nil))) (.cons false (.bi .all (.cons false (.lc [2, 3] (.call 21 "_law_same" (.cons false (.var 2 "mine") (.cons false (.var 3 "theirs") .nil))) (.tp (.cons (.nm 2 "mine") (.cons (.nm 3 "theirs") .nil))) (.zip (.var 0 "found") (.var 1 "due")) .nil) .nil)) .nil)))) .nil)) .nil) (.cons (.ifs (.va (.isi (.var 1 "due") true [.dict])) (.cons (.ret (.lg .And (.cons false (.isi (.var 0 "found") true [.dict]) (.cons false (.call 21 "_law_same" (.cons false (.bi .list (.cons false .nev .nil)) (.cons false (.bi .list (.cons false .nev .nil)) .nil))) .nil)))) .nil) .nil) (.cons (.ifs (.lg .Or (.cons (.va (.isi (.var 1 "due") true [.bool])) (.cons (.va (.isi (.var 0 "found") true [.bool])) .nil))) (.cons (.ret (.lg .And (.cons false (.isi (.var 1 "due") true [.bool]) (.cons false (.isi (.var 0 "found") true [.bool]) (.cons false (.cmp .Eq (.var 0 "found") (.var 1 "due")) .nil))))) .nil) .nil) (.cons (.ifs (.lg .Or (.cons (.va (.cmp .Is (.var 1 "due") .cN)) (.cons (.va (.cmp .Is (.var 0 "found") .cN)) .nil))) (.cons (.ret (.lg .And (.cons false (.cmp .Is (.var 1 "due") .cN) (.cons false (.cmp .Is (.var 0 "found") .cN) .nil)))) .nil) .nil) (.cons (.ifs (.lg .Or (.cons (.va (.cmp .NotEq (.isi (.var 1 "due") true [.int]) (.isi (.var 0 "found") true [.int]))) (.cons (.va (.cmp .NotEq (.isi (.var 1 "due") true [.str]) (.isi (.var 0 "found") true [.str]))) .nil))) (.cons (.ret (.cB false)) .nil) .nil) (.cons (.ret (.lg .And (.cons false (.nt (.isi (.var 0 "found") false [.list, .tuple, .dict])) (.cons false (.cmp .Eq (.var 0 "found") (.var 1 "due")) .nil)))) .nil))))))
theorem ce__law_same : trSs (trS tG ["found", "due", "mine", "theirs"] 60 (defScope (top 31))) (defBody (top 31)) = c__law_same := code_eq (by kernel_rfl)
theorem cd__law_same (F : Nat) (C : Nat → List EV → EH → R EV) : s__law_same F C = exs (cstAt tCst) C F (trSs (trS tG ["found", "due", "mine", "theirs"] 60 (defScope (top 31))) (defBody (top 31))) := by
  rw [ce__law_same]
  kernel_rfl
theorem bd__law_same {K : PySem.W.Frag} {f : Addr} {fd : FuncData} (F : FunD K "_law_same" "_law_same" (defArgs (top 31)) (defBody (top 31)) (defScope (top 31)) [] [] f fd) : Binds K fd ["found", "due"] [] := F.bindsN fun _ _ _ _ _ _ us hl => match us, hl with | [_, _], _ => rfl
def d__law_unlike : He.DefD := ⟨("_law_unlike", none), "_law_unlike", "_law_unlike", defArgs (top 32), defBody (top 32), defScope (top 32), [], []⟩
theorem fs__law_unlike : FnScope ["things", "found", "one"] ["things"] (defScope (top 32)) := fsC_ok (by kernel_rfl)
def c__law_unlike : XSs := (.cons (.asg (.nm 1 "found") (.lst .nil)) (.cons (.for_ (.nm 2 "one") (.ex (.bi .sorted (.cons false (.var 0 "things") .nil))) (.cons (.ex (.met .extend (.var 1 "found") (.cons false (.ite (.lg .Or (.cons (.va (.cmp .Eq (.var 1 "found") (.lst .nil))) (.cons (.va (.cmp .NotEq (.sub (.var 1 "found") (.neg (.cI 1))) (.var 2 "one"))) .nil))) (.lst (.cons false (.var 2 "one") .nil)) (.lst .nil)) .nil))) .nil)) (.cons (.ret (.var 1 "found")) .nil)))
theorem ce__law_unlike : trSs (trS tG ["things", "found", "one"] 60 (defScope (top 32))) (defBody (top 32)) = c__law_unlike := code_eq (by kernel_rfl)
theorem cd__law_unlike (F : Nat) (C : Nat → List EV → EH → R EV) : s__law_unlike F C = exs (cstAt tCst) C F (trSs (trS tG ["things", "found", "one"] 60 (defScope (top 32))) (defBody (top 32))) := by
  rw [ce__law_unlike]
  kernel_rfl
theorem bd__law_unlike {K : PySem.W.Frag} {f : Addr} {fd : FuncData} (F : FunD K "_law_unlike" "_law_unlike" (defArgs (top 32)) (defBody (top 32)) (defScope (top 32)) [] [] f fd) : Binds K fd ["things"] [] := F.bindsN fun _ _ _ _ _ _ us hl => match us, hl with | [_], _ => rfl
def d__law_g_round : He.DefD := ⟨("_law_g_round", none), "_law_g_round", "_law_g_round", defArgs (top 33), defBody (top 33), defScope (top 33), [], []⟩
theorem fs__law_g_round : FnScope ["pair", "times", "k"] ["pair", "times"] (defScope (top 33)) := fsC_ok (by kernel_rfl)
def c__law_g_round : XSs := (.cons (.for_ (.nm 2 "k") (.rng (.cons false (.var 1 "times") .nil)) (.cons (.asg (.nm 0 "pair") (.tup (.cons false (.bin .Sub (.cI 0) (.sub (.var 0 "pair") (.cI 1))) (.cons false (.bin .Add (.sub (.var 0 "pair") (.cI 0)) (.sub (.var 0 "pair") (.cI 1))) .nil)))) .nil)) (.cons (.ret (.var 0 "pair")) .nil))
theorem ce__law_g_round : trSs (trS tG ["pair", "times", "k"] 60 (defScope (top 33))) (defBody (top 33)) = c__law_g_round := code_eq (by kernel_rfl)
theorem cd__law_g_round (F : Nat) (C : Nat → List EV → EH → R EV) : s__law_g_round F C = exs (cstAt tCst) C F (trSs (trS tG ["pair", "times", "k"] 60 (defScope (top 33))) (defBody (top 33))) := by
  rw [ce__law_g_round]
  kernel_rfl
theorem bd__law_g_round {K : PySem.W.Frag} {f : Addr} {fd : FuncData} (F : FunD K "_law_g_round" "_law_g_round" (defArgs (top 33)) (defBody (top 33)) (defScope (top 33)) [] [] f fd) : Binds K fd ["pair", "times"] [] := F.bindsN fun _ _ _ _ _ _ us hl => match us, hl with | [_, _], _ => rfl
def d__law_g_middle : He.DefD := ⟨("_law_g_middle", none), "_law_g_middle", "_law_g_middle", defArgs (top 34), defBody (top 34), defScope (top 34), [], []⟩
theorem fs__law_g_middle : FnScope ["a", "b"] ["a", "b"] (defScope (top 34)) := fsC_ok (by kernel_rfl)
def c__law_g_middle : XSs := (.cons (.ret (.tup (.cons false (.bin .Sub (.bin .Mult (.cI 2) (.var 0 "a")) (.bin .Mult (.cI 2) (.var 1 "b"))) (.cons false (.bin .Add (.bin .Mult (.cI 2) (.var 0 "a")) (.bin .Mult (.cI 4) (.var 1 "b"))) .nil)))) .nil)
theorem ce__law_g_middle : trSs (trS tG ["a", "b"] 60 (defScope (top 34))) (defBody (top 34)) = c__law_g_middle := code_eq (by kernel_rfl)
theorem cd__law_g_middle (F : Nat) (C : Nat → List EV → EH → R EV) : s__law_g_middle F C = exs (cstAt tCst) C F (trSs (trS tG ["a", "b"] 60 (defScope (top 34))) (defBody (top 34))) := by
  rw [ce__law_g_middle]
  kernel_rfl
theorem bd__law_g_middle {K : PySem.W.Frag} {f : Addr} {fd : FuncData} (F : FunD K "_law_g_middle" "_law_g_middle" (defArgs (top 34)) (defBody (top 34)) (defScope (top 34)) [] [] f fd) : Binds K fd ["a", "b"] [] := F.bindsN fun _ _ _ _ _ _ us hl => match us, hl with | [_, _], _ => rfl
def d__law_g_corners : He.DefD := ⟨("_law_g_corners", none), "_law_g_corners", "_law_g_corners", defArgs (top 35), defBody (top 35), defScope (top 35), [], []⟩
theorem fs__law_g_corners : FnScope ["kite", "found", "pair", "x", "y"] ["kite"] (defScope (top 35)) := fsC_ok (by kernel_rfl)
def c__law_g_corners : XSs := (.cons (.asg (.tp (.cons (.nm 3 "x") (.cons (.nm 4 "y") .nil))) (.call 24 "_law_g_middle" (.cons false (.sub (.var 0 "kite") (.cI 0)) (.cons false (.sub (.var 0 "kite") (.cI 1)) .nil)))) (.cons (.asg (.nm 1 "found") (.lst (.cons false (.tup (.cons false (.var 3 "x") (.cons false (.var 4 "y") .nil))) .nil))) (.cons (.for_ (.nm 2 "pair") (.ex (.tup (.cons false (.call 23 "_law_g_round" (.cons false (.tup (.cons false (.cI 1) (.cons false (.cI 1) .nil))) (.cons false (.sub (.var 0 "kite") (.cI 2)) .nil))) (.cons false (.call 23 "_law_g_round" (.cons false (.tup (.cons false (.cI 0) (.cons false (.cI 2) .nil))) (.cons false (.sub (.var 0 "kite") (.cI 2)) .nil))) (.cons false (.call 23 "_law_g_round" (.cons false (.tup (.cons false (.cI 1) (.cons false (.cI 1) .nil))) (.cons false (.bin .Add (.sub (.var 0 "kite") (.cI 2)) (.cI 1)) .nil))) .nil))))) (.cons (.ex (.met .append (.var 1 "found") (.cons false (.tup (.cons false (.bin .Add (.var 3 "x") (.sub (.var 2 "pair") (.cI 0))) (.cons false (.bin .Add (.var 4 "y") (.sub (.var 2 "pair") (.cI 1))) .nil))) .nil))) .nil)) (.cons (.ret (.var 1 "found")) .nil))))
theorem ce__law_g_corners : trSs (trS tG ["kite", "found", "pair", "x", "y"] 60 (defScope (top 35))) (defBody (top 35)) = c__law_g_corners := code_eq (by kernel_rfl)
theorem cd__law_g_corners (F : Nat) (C : Nat → List EV → EH → R EV) : s__law_g_corners F C = exs (cstAt tCst) C F (trSs (trS tG ["kite", "found", "pair", "x", "y"] 60 (defScope (top 35))) (defBody (top 35))) := by
  rw [ce__law_g_corners]
  kernel_rfl
theorem bd__law_g_corners {K : PySem.W.Frag} {f : Addr} {fd : FuncData} (F : FunD K "_law_g_corners" "_law_g_corners" (defArgs (top 35)) (defBody (top 35)) (defScope (top 35)) [] [] f fd) : Binds K fd ["kite"] [] := F.bindsN fun _ _ _ _ _ _ us hl => match us, hl with | [_], _ => rfl
def d__law_g_at : He.DefD := ⟨("_law_g_at", none), "_law_g_at", "_law_g_at", defArgs (top 36), defBody (top 36), defScope (top 36), [], []⟩
theorem fs__law_g_at : FnScope ["dot", "b", "a", "found", "left", "up", "k"] ["dot"] (defScope (top 36)) := fsC_ok (by kernel_rfl)
def c__law_g_at : XSs := (.cons (.asg (.nm 1 "b") (.bin .FloorDiv (.bi .int (.cons false (.bin .Sub (.sub (.var 0 "dot") (.cI 1)) (.sub (.var 0 "dot") (.cI 0))) .nil)) (.cI 6))) (.cons (.asg (.nm 2 "a") (.bin .FloorDiv (.bi .int (.cons false (.bin .Add (.sub (.var 0 "dot") (.cI 0)) (.bin .Mult (.cI 2) (.var 1 "b"))) .nil)) (.cI 2))) (.cons (.asg (.nm 3 "found") (.lst .nil)) (.cons (.for_ (.nm 4 "left") (.rng (.cons false (.bin .Sub (.var 2 "a") (.cI 2)) (.cons false (.bin .Add (.var 2 "a") (.cI 4)) .nil))) (.cons (.for_ (.nm 5 "up") (.rng (.cons false (.bin .Sub (.var 1 "b") (.cI 2)) (.cons false (.bin .Add (.var 1 "b") (.cI 3)) .nil))) (.cons (.ex (.met .extend (.var 3 "found") (.cons false (.lc [6] (.tup (.cons false (.var 4 "left") (.cons false (.var 5 "up") (.cons false (.var 6 "k") .nil)))) (.nm 6 "k") (.rng (.cons false (.cI 6) .nil)) (.cons (.va (.cmp .In (.var 0 "dot") (.call 25 "_law_g_corners" (.cons false (.tup (.cons false (.var 4 "left") (.cons false (.var 5 "up") (.cons false (.var 6 "k") .nil)))) .nil)))) .nil)) .nil))) .nil)) .nil)) (.cons (.ret (.var 3 "found")) .nil)))))
theorem ce__law_g_at : trSs (trS tG ["dot", "b", "a", "found", "left", "up", "k"] 60 (defScope (top 36))) (defBody (top 36)) = c__law_g_at := code_eq (by kernel_rfl)
theorem cd__law_g_at (F : Nat) (C : Nat → List EV → EH → R EV) : s__law_g_at F C = exs (cstAt tCst) C F (trSs (trS tG ["dot", "b", "a", "found", "left", "up", "k"] 60 (defScope (top 36))) (defBody (top 36))) := by
  rw [ce__law_g_at]
  kernel_rfl
theorem bd__law_g_at {K : PySem.W.Frag} {f : Addr} {fd : FuncData} (F : FunD K "_law_g_at" "_law_g_at" (defArgs (top 36)) (defBody (top 36)) (defScope (top 36)) [] [] f fd) : Binds K fd ["dot"] [] := F.bindsN fun _ _ _ _ _ _ us hl => match us, hl with | [_], _ => rfl
def d_law : He.DefD := ⟨("law", none), "law", "law", defArgs (top 37), defBody (top 37), defScope (top 37), [], []⟩
theorem fs_law : FnScope ["script", "stream", "x", "kite", "dot", "a", "b", "wide", "high", "kites", "dots", "y", "here", "k", "near", "own", "at", "other", "back", "walk", "one"] ["script"] (defScope (top 37)) := fsC_ok (by kernel_rfl)
def c_law : XSs := (.cons (.asg (.nm 1 "stream") (.call 19 "_law_stream" (.cons false (.var 0 "script") .nil))) (.cons (.par [(5, "a"), (6, "b")] (.cons false (.bin .Sub (.call 20 "_law_draw" (.cons false (.var 1 "stream") (.cons false (.cI 40) .nil))) (.cI 20)) (.cons false (.bin .Sub (.call 20 "_law_draw" (.cons false (.var 1 "stream") (.cons false (.cI 40) .nil))) (.cI 20)) .nil))) (.cons (.par [(7, "wide"), (8, "high")] (.cons false (.bin .Add (.cI 1) (.call 20 "_law_draw" (.cons false (.var 1 "stream") (.cons false (.cI 2) .nil)))) (.cons false (.bin .Add (.cI 1) (.call 20 "_law_draw" (.cons false (.var 1 "stream") (.cons false (.cI 3) .nil)))) .nil))) (.cons (.asg (.tp (.cons (.nm 9 "kites") (.cons (.nm 10 "dots") .nil))) (.tup (.cons false (.lst .nil) (.cons false (.dct .nil) .nil)))) (.cons (.for_ (.nm 2 "x") (.rng (.cons false (.var 5 "a") (.cons false (.bin .Add (.var 5 "a") (.var 7 "wide")) .nil))) (.cons (.for_ (.nm 11 "y") (.rng (.cons false (.var 6 "b") (.cons false (.bin .Add (.var 6 "b") (.var 8 "high")) .nil))) (.cons (.ex (.met .extend (.var 9 "kites") (.cons false (.lc [13] (.tup (.cons false (.var 2 "x") (.cons false (.var 11 "y") (.cons false (.var 13 "k") .nil)))) (.nm 13 "k") (.rng (.cons false (.cI 6) .nil)) .nil) .nil))) .nil)) .nil)) (.cons (.for_ (.nm 3 "kite") (.ex (.var 9 "kites")) (.cons (.asg (.tp (.cons (.nm 14 "near") (.cons (.nm 15 "own") .nil))) (.tup (.cons false (.call 13 "beside" (.cons false (.var 3 "kite") .nil)) (.cons false (.call 15 "corners" (.cons false (.var 3 "kite") .nil)) .nil)))) (.cons (.ifs (.lg .Or (.cons (.nt (.va (.call 21 "_law_same" (.cons false (.var 15 "own") (.cons false (.call 25 "_law_g_corners" (.cons false (.var 3 "kite") .nil)) .nil))))) (.cons (.va (.cmp .NotEq (.bi .len (.cons false (.call 22 "_law_unlike" (.cons false (.var 14 "near") .nil)) .nil)) (.cI 4))) (.cons (.va (.cmp .In (.var 3 "kite") (.var 14 "near"))) .nil)))) (.cons (.ret (.cB false)) .nil) .nil) (.cons (.for_ (.tp (.cons (.nm 16 "at") (.cons (.nm 17 "other") .nil))) (.enu (.var 14 "near")) (.cons (.asg (.nm 18 "back") (.call 13 "beside" (.cons false (.var 17 "other") .nil))) (.cons (.ifs (.lg .Or (.cons (.va (.cmp .NotEq (.met .count (.var 18 "back") (.cons false (.var 3 "kite") .nil)) (.cI 1))) (.cons (.va (.cmp .NotEq (.bi .sorted (.cons false (.lst (.cons false (.sub (.var 15 "own") (.var 16 "at")) (.cons false (.sub (.var 15 "own") (.bin .Mod (.bi .int (.cons false (.bin .Add (.var 16 "at") (.cI 1)) .nil)) (.cI 4))) .nil))) .nil)) (.bi .sorted (.cons false (.lc [4] (.var 4 "dot") (.nm 4 "dot") (.ex (.call 15 "corners" (.cons false (.var 17 "other") .nil))) (.cons (.va (.cmp .In (.var 4 "dot") (.var 15 "own"))) .nil)) .nil)))) .nil))) (.cons (.ret (.cB false)) .nil) .nil) .nil))) (.cons (.for_ (.nm 4 "dot") (.ex (.var 15 "own")) (.cons (.asg (.sb (.var 10 "dots") (.var 4 "dot")) (.bin .Add (.met .get (.var 10 "dots") (.cons false (.var 4 "dot") (.cons false (.cI 0) .nil))) (.cI 1))) .nil)) .nil))))) (.cons (.for_ (.nm 4 "dot") (.ex (.var 10 "dots")) (.cons (.asg (.nm 12 "here") (.call 18 "kites_at" (.cons false (.var 4 "dot") .nil))) (.cons (.ifs (.lg .Or (.cons (.va (.cmp .NotEq (.sub (.var 10 "dots") (.var 4 "dot")) (.bi .len (.cons false (.lc [3] (.var 3 "kite") (.nm 3 "kite") (.ex (.var 12 "here")) (.cons (.va (.cmp .In (.var 3 "kite") (.var 9 "kites"))) .nil)) .nil)))) (.cons (.nt (.va (.call 21 "_law_same" (.cons false (.var 12 "here") (.cons false (.call 26 "_law_g_at" (.cons false (.var 4 "dot") .nil)) .nil))))) .nil))) (.cons (.ret (.cB false)) .nil) .nil) (.cons (.asg (.tp (.cons (.nm 19 "walk") (.cons (.nm 3 "kite") .nil))) (.tup (.cons false (.lst (.cons false (.sub (.var 12 "here") (.cI 0)) .nil)) (.cons false (.sub (.var 12 "here") (.cI 0)) .nil)))) (.cons (.for_ (.nm 13 "k") (.rng (.cons false (.bi .len (.cons false (.var 12 "here") .nil)) .nil)) (.cons (.asg (.nm 3 "kite") (.sub (.lc [20] (.var 20 "one") (.nm 20 "one") (.ex (.call 13 "beside" (.cons false (.var 3 "kite") .nil))) (.cons (.lg .And (.cons (.va (.cmp .In (.var 20 "one") (.var 12 "here"))) (.cons (.va (.cmp .Eq (.sub (.call 15 "corners" (.cons false (.var 20 "one") .nil)) (.bin .Mod (.bi .int (.cons false (.bin .Add (.met .index (.call 15 "corners" (.cons false (.var 20 "one") .nil)) (.cons false (.var 4 "dot") .nil)) (.cI 1)) .nil)) (.cI 4))) (.sub (.call 15 "corners" (.cons false (.var 3 "kite") .nil)) (.bin .Mod (.bi .int (.cons false (.bin .Add (.met .index (.call 15 "corners" (.cons false (.var 3 "kite") .nil)) (.cons false (.var 4 "dot") .nil)) (.cI 3)) .nil)) (.cI 4))))) .nil))) .nil)) (.cI 0))) (.cons (.ex (.met .append (.var 19 "walk") (.cons false (.var 3 "kite") .nil))) .nil))) (.cons (.ifs (.lg .Or (.cons (.va (.cmp .NotEq (.sub (.var 19 "walk") (.cI 0)) (.sub (.var 19 "walk") (.neg (.cI 1))))) (.cons (.va (.cmp .NotEq (.bi .sorted (.cons false (.slc (.var 19 "walk") (.so (.cI 1)) .no) .nil)) (.var 12 "here"))) .nil))) (.cons (.ret (.cB false)) .nil) .nil) .nil)))))) (.cons (.ret (.cB true)) .nil))))))))
theorem ce_law : trSs (trS tG ["script", "stream", "x", "kite", "dot", "a", "b", "wide", "high", "kites", "dots", "y", "here", "k", "near", "own", "at", "other", "back", "walk", "one"] 60 (defScope (top 37))) (defBody (top 37)) = c_law := code_eq (by kernel_rfl)
theorem cd_law (F : Nat) (C : Nat → List EV → EH → R EV) : s_law F C = exs (cstAt tCst) C F (trSs (trS tG ["script", "stream", "x", "kite", "dot", "a", "b", "wide", "high", "kites", "dots", "y", "here", "k", "near", "own", "at", "other", "back", "walk", "one"] 60 (defScope (top 37))) (defBody (top 37))) := by
  rw [ce_law]
  kernel_rfl
theorem bd_law {K : PySem.W.Frag} {f : Addr} {fd : FuncData} (F : FunD K "law" "law" (defArgs (top 37)) (defBody (top 37)) (defScope (top 37)) [] [] f fd) : Binds K fd ["script"] [] := F.bindsN fun _ _ _ _ _ _ us hl => match us, hl with | [_], _ => rfl
end EM.k63
end
section
set_option Elab.async false
set_option linter.all false
set_option maxRecDepth 100000
set_option maxHeartbeats 0
namespace EM.k63
open PySem PySem.Spec PyProof.Rows L2
def fnL : List He.DefD := ([d_is_list, d_is_whole, d_is_number, d_is_below, d_is_row, d_are_whole, d_is_kite, d_need_kite, d_is_dot, d_need_dot, d_middle, d_added, d_beside_by, d_beside, d_corners_by, d_corners, d_hexagon_at, d_kites_by, d_kites_at, d__law_stream, d__law_draw, d__law_same, d__law_unlike, d__law_g_round, d__law_g_middle, d__law_g_corners, d__law_g_at, d_law] : List He.DefD)
def faL : List He.Fa := ([He.Fa.glo "is_list", He.Fa.glo "is_whole", He.Fa.glo "is_number", He.Fa.glo "is_below", He.Fa.glo "is_row", He.Fa.glo "are_whole", He.Fa.glo "is_kite", He.Fa.glo "need_kite", He.Fa.glo "is_dot", He.Fa.glo "need_dot", He.Fa.glo "middle", He.Fa.glo "added", He.Fa.glo "beside_by", He.Fa.glo "beside", He.Fa.glo "corners_by", He.Fa.glo "corners", He.Fa.glo "hexagon_at", He.Fa.glo "kites_by", He.Fa.glo "kites_at", He.Fa.glo "_law_stream", He.Fa.glo "_law_draw", He.Fa.glo "_law_same", He.Fa.glo "_law_unlike", He.Fa.glo "_law_g_round", He.Fa.glo "_law_g_middle", He.Fa.glo "_law_g_corners", He.Fa.glo "_law_g_at", He.Fa.glo "law"] : List He.Fa) ++ biN.map fun x => He.Fa.free x
def exK : PySem.W.Frag → Bool := cstB tG.cst tCst
abbrev Rw : PySem.W.OpenRow := PySem.W.OpenLaw.row PySem.Challenge.rw_onehat_k63_whole_a_patch_of_the_grid
abbrev hk : PySem.W.Hook := He.hookX 6 faL fnL [] [] exK
def ob (s : PySem.W.SharedT) : He.AlX := He.obsX 6 faL fnL [] [] exK (HandSHeadRun.getT s)
theorem ob_eq (s : PySem.W.SharedT) : ob s = hk.obs s.abs := He.obsX_eq (HandSHeadRun.getT_eq s)
def loose : List PySem.Str := (["is_list", "is_whole", "is_number", "is_below", "is_row", "are_whole", "HatError", "BadKite", "BadDot", "ROUND", "EDGES", "TIPS"] : List PySem.Str) ++ (["is_kite", "need_kite", "is_dot", "need_dot", "middle", "added", "beside_by", "beside", "corners_by", "corners", "hexagon_at", "kites_by"] : List PySem.Str) ++ (["kites_at", "_law_stream", "_law_draw", "_law_same", "_law_unlike", "_law_g_round", "_law_g_middle", "_law_g_corners", "_law_g_at"] : List PySem.Str)
theorem run (w : World) : HandSHeadRun.RunEq Rw (PySem.W.view Rw.prog [37]) hk ob 20000 loose w := by
  intro os
  kernel_rfl
theorem facts {D : Da} {h : Heap} {mg : PySem.Str → Option Value} (F : Nat) (X : D.K.In h) (G : h.Ns mainGlobals mg) {w : World} (c : He.SaysX faL fnL [] [] exK w h D.K) : Facts D tG (cstAt tCst) tS F mg := by
  have cd : He.SaysD faL fnL D.K := c.t.d
  refine ⟨fun x hx => He.free_ok X G (He.SaysD.facts cd (List.mem_append_right _ (List.mem_map.mpr ⟨x, hx, rfl⟩))), cstB_ok X G c.more, fun k x hk => ?_⟩
  match k, hk with
  | 0, hk => cases hk; obtain ⟨fd, Z⟩ := cd.def_ 0 (d := d_is_list) rfl; exact ⟨_, _, _, _, _, _, _, fd, _, Z, He.glo_ok X G (cd.fact 0 (f := .glo "is_list") rfl), bd_is_list Z, fs_is_list, rfl, rfl, rfl, fun C => cd_is_list F C⟩
  | 1, hk => cases hk; obtain ⟨fd, Z⟩ := cd.def_ 1 (d := d_is_whole) rfl; exact ⟨_, _, _, _, _, _, _, fd, _, Z, He.glo_ok X G (cd.fact 1 (f := .glo "is_whole") rfl), bd_is_whole Z, fs_is_whole, rfl, rfl, rfl, fun C => cd_is_whole F C⟩
  | 2, hk => cases hk; obtain ⟨fd, Z⟩ := cd.def_ 2 (d := d_is_number) rfl; exact ⟨_, _, _, _, _, _, _, fd, _, Z, He.glo_ok X G (cd.fact 2 (f := .glo "is_number") rfl), bd_is_number Z, fs_is_number, rfl, rfl, rfl, fun C => cd_is_number F C⟩
  | 3, hk => cases hk; obtain ⟨fd, Z⟩ := cd.def_ 3 (d := d_is_below) rfl; exact ⟨_, _, _, _, _, _, _, fd, _, Z, He.glo_ok X G (cd.fact 3 (f := .glo "is_below") rfl), bd_is_below Z, fs_is_below, rfl, rfl, rfl, fun C => cd_is_below F C⟩
  | 4, hk => cases hk; obtain ⟨fd, Z⟩ := cd.def_ 4 (d := d_is_row) rfl; exact ⟨_, _, _, _, _, _, _, fd, _, Z, He.glo_ok X G (cd.fact 4 (f := .glo "is_row") rfl), bd_is_row Z, fs_is_row, rfl, rfl, rfl, fun C => cd_is_row F C⟩
  | 5, hk => cases hk; obtain ⟨fd, Z⟩ := cd.def_ 5 (d := d_are_whole) rfl; exact ⟨_, _, _, _, _, _, _, fd, _, Z, He.glo_ok X G (cd.fact 5 (f := .glo "are_whole") rfl), bd_are_whole Z, fs_are_whole, rfl, rfl, rfl, fun C => cd_are_whole F C⟩
  | 6, hk => cases hk; obtain ⟨fd, Z⟩ := cd.def_ 6 (d := d_is_kite) rfl; exact ⟨_, _, _, _, _, _, _, fd, _, Z, He.glo_ok X G (cd.fact 6 (f := .glo "is_kite") rfl), bd_is_kite Z, fs_is_kite, rfl, rfl, rfl, fun C => cd_is_kite F C⟩
  | 7, hk => cases hk; obtain ⟨fd, Z⟩ := cd.def_ 7 (d := d_need_kite) rfl; exact ⟨_, _, _, _, _, _, _, fd, _, Z, He.glo_ok X G (cd.fact 7 (f := .glo "need_kite") rfl), bd_need_kite Z, fs_need_kite, rfl, rfl, rfl, fun C => cd_need_kite F C⟩
  | 8, hk => cases hk; obtain ⟨fd, Z⟩ := cd.def_ 8 (d := d_is_dot) rfl; exact ⟨_, _, _, _, _, _, _, fd, _, Z, He.glo_ok X G (cd.fact 8 (f := .glo "is_dot") rfl), bd_is_dot Z, fs_is_dot, rfl, rfl, rfl, fun C => cd_is_dot F C⟩
  | 9, hk => cases hk; obtain ⟨fd, Z⟩ := cd.def_ 9 (d := d_need_dot) rfl; exact ⟨_, _, _, _, _, _, _, fd, _, Z, He.glo_ok X G (cd.fact 9 (f := .glo "need_dot") rfl), bd_need_dot Z, fs_need_dot, rfl, rfl, rfl, fun C => cd_need_dot F C⟩
  | 10, hk => cases hk; obtain ⟨fd, Z⟩ := cd.def_ 10 (d := d_middle) rfl; exact ⟨_, _, _, _, _, _, _, fd, _, Z, He.glo_ok X G (cd.fact 10 (f := .glo "middle") rfl), bd_middle Z, fs_middle, rfl, rfl, rfl, fun C => cd_middle F C⟩
  | 11, hk => cases hk; obtain ⟨fd, Z⟩ := cd.def_ 11 (d := d_added) rfl; exact ⟨_, _, _, _, _, _, _, fd, _, Z, He.glo_ok X G (cd.fact 11 (f := .glo "added") rfl), bd_added Z, fs_added, rfl, rfl, rfl, fun C => cd_added F C⟩
  | 12, hk => cases hk; obtain ⟨fd, Z⟩ := cd.def_ 12 (d := d_beside_by) rfl; exact ⟨_, _, _, _, _, _, _, fd, _, Z, He.glo_ok X G (cd.fact 12 (f := .glo "beside_by") rfl), bd_beside_by Z, fs_beside_by, rfl, rfl, rfl, fun C => cd_beside_by F C⟩
  | 13, hk => cases hk; obtain ⟨fd, Z⟩ := cd.def_ 13 (d := d_beside) rfl; exact ⟨_, _, _, _, _, _, _, fd, _, Z, He.glo_ok X G (cd.fact 13 (f := .glo "beside") rfl), bd_beside Z, fs_beside, rfl, rfl, rfl, fun C => cd_beside F C⟩
  | 14, hk => cases hk; obtain ⟨fd, Z⟩ := cd.def_ 14 (d := d_corners_by) rfl; exact ⟨_, _, _, _, _, _, _, fd, _, Z, He.glo_ok X G (cd.fact 14 (f := .glo "corners_by") rfl), bd_corners_by Z, fs_corners_by, rfl, rfl, rfl, fun C => cd_corners_by F C⟩
  | 15, hk => cases hk; obtain ⟨fd, Z⟩ := cd.def_ 15 (d := d_corners) rfl; exact ⟨_, _, _, _, _, _, _, fd, _, Z, He.glo_ok X G (cd.fact 15 (f := .glo "corners") rfl), bd_corners Z, fs_corners, rfl, rfl, rfl, fun C => cd_corners F C⟩
  | 16, hk => cases hk; obtain ⟨fd, Z⟩ := cd.def_ 16 (d := d_hexagon_at) rfl; exact ⟨_, _, _, _, _, _, _, fd, _, Z, He.glo_ok X G (cd.fact 16 (f := .glo "hexagon_at") rfl), bd_hexagon_at Z, fs_hexagon_at, rfl, rfl, rfl, fun C => cd_hexagon_at F C⟩
  | 17, hk => cases hk; obtain ⟨fd, Z⟩ := cd.def_ 17 (d := d_kites_by) rfl; exact ⟨_, _, _, _, _, _, _, fd, _, Z, He.glo_ok X G (cd.fact 17 (f := .glo "kites_by") rfl), bd_kites_by Z, fs_kites_by, rfl, rfl, rfl, fun C => cd_kites_by F C⟩
  | 18, hk => cases hk; obtain ⟨fd, Z⟩ := cd.def_ 18 (d := d_kites_at) rfl; exact ⟨_, _, _, _, _, _, _, fd, _, Z, He.glo_ok X G (cd.fact 18 (f := .glo "kites_at") rfl), bd_kites_at Z, fs_kites_at, rfl, rfl, rfl, fun C => cd_kites_at F C⟩
  | 19, hk => cases hk; obtain ⟨fd, Z⟩ := cd.def_ 19 (d := d__law_stream) rfl; exact ⟨_, _, _, _, _, _, _, fd, _, Z, He.glo_ok X G (cd.fact 19 (f := .glo "_law_stream") rfl), bd__law_stream Z, fs__law_stream, rfl, rfl, rfl, fun C => cd__law_stream F C⟩
  | 20, hk => cases hk; obtain ⟨fd, Z⟩ := cd.def_ 20 (d := d__law_draw) rfl; exact ⟨_, _, _, _, _, _, _, fd, _, Z, He.glo_ok X G (cd.fact 20 (f := .glo "_law_draw") rfl), bd__law_draw Z, fs__law_draw, rfl, rfl, rfl, fun C => cd__law_draw F C⟩
  | 21, hk => cases hk; obtain ⟨fd, Z⟩ := cd.def_ 21 (d := d__law_same) rfl; exact ⟨_, _, _, _, _, _, _, fd, _, Z, He.glo_ok X G (cd.fact 21 (f := .glo "_law_same") rfl), bd__law_same Z, fs__law_same, rfl, rfl, rfl, fun C => cd__law_same F C⟩
  | 22, hk => cases hk; obtain ⟨fd, Z⟩ := cd.def_ 22 (d := d__law_unlike) rfl; exact ⟨_, _, _, _, _, _, _, fd, _, Z, He.glo_ok X G (cd.fact 22 (f := .glo "_law_unlike") rfl), bd__law_unlike Z, fs__law_unlike, rfl, rfl, rfl, fun C => cd__law_unlike F C⟩
  | 23, hk => cases hk; obtain ⟨fd, Z⟩ := cd.def_ 23 (d := d__law_g_round) rfl; exact ⟨_, _, _, _, _, _, _, fd, _, Z, He.glo_ok X G (cd.fact 23 (f := .glo "_law_g_round") rfl), bd__law_g_round Z, fs__law_g_round, rfl, rfl, rfl, fun C => cd__law_g_round F C⟩
  | 24, hk => cases hk; obtain ⟨fd, Z⟩ := cd.def_ 24 (d := d__law_g_middle) rfl; exact ⟨_, _, _, _, _, _, _, fd, _, Z, He.glo_ok X G (cd.fact 24 (f := .glo "_law_g_middle") rfl), bd__law_g_middle Z, fs__law_g_middle, rfl, rfl, rfl, fun C => cd__law_g_middle F C⟩
  | 25, hk => cases hk; obtain ⟨fd, Z⟩ := cd.def_ 25 (d := d__law_g_corners) rfl; exact ⟨_, _, _, _, _, _, _, fd, _, Z, He.glo_ok X G (cd.fact 25 (f := .glo "_law_g_corners") rfl), bd__law_g_corners Z, fs__law_g_corners, rfl, rfl, rfl, fun C => cd__law_g_corners F C⟩
  | 26, hk => cases hk; obtain ⟨fd, Z⟩ := cd.def_ 26 (d := d__law_g_at) rfl; exact ⟨_, _, _, _, _, _, _, fd, _, Z, He.glo_ok X G (cd.fact 26 (f := .glo "_law_g_at") rfl), bd__law_g_at Z, fs__law_g_at, rfl, rfl, rfl, fun C => cd__law_g_at F C⟩
  | 27, hk => cases hk; obtain ⟨fd, Z⟩ := cd.def_ 27 (d := d_law) rfl; exact ⟨_, _, _, _, _, _, _, fd, _, Z, He.glo_ok X G (cd.fact 27 (f := .glo "law") rfl), bd_law Z, fs_law, rfl, rfl, rfl, fun C => cd_law F C⟩
  | k + 28, hk => exact absurd hk (by simp [tG])
end EM.k63
open PySem PySem.W PySem.Calls PyProof.Rows
theorem EM.k63.final (F : Nat) (hF : F ≤ PySem.sizeLine) (pure : ∀ ns : List Int, ns.length ≤ 63 → ∃ h, EM.scall EM.k63.tS F 30 27 [.kl (ns.map EM.EV.int)] EM.EH.emp = .ok (.bl true) h) : PySem.Challenge.rw_onehat_k63_whole_a_patch_of_the_grid.Holds := by
  w_on; o_law
  refine HandSHeadRun.head_any (r := EM.k63.Rw) (q := view EM.k63.Rw.prog [37]) (H := EM.k63.hk) (ob := EM.k63.ob) (M := 20000) (loose := EM.k63.loose) (d := HandSHeadRun.topDef EM.k63.Rw.prog 37) (kwd := []) EM.k63.ob_eq
    (by kernel_rfl) (fun s => by kernel_rfl) EM.k63.run (by kernel_rfl) (by kernel_rfl) (by kernel_rfl) (by rfl) (by first | assumption | decide +kernel) (by decide +kernel) ⟨rfl, rfl, rfl, rfl, rfl, by decide +kernel⟩ ?hw ?hc
  case hw => w_witness2
  case hc =>
    refine L2.walk_ofE (l := PySem.Challenge.rw_onehat_k63_whole_a_patch_of_the_grid) (n := 63) (k := 30) (x := "script") (CX := L2.CX0) rfl (by decide) (by kernel_rfl) ⟨rfl, by decide, by decide⟩ ?F (fun _ _ _ _ z => z)
    intro w mg fa h Y G hmg0
    obtain ⟨K, KX, c⟩ := Y
    have hmg : mg ("law" : PySem.Str) = some (.ref fa) := by
      have e : (HandSHeadRun.topDef EM.k63.Rw.prog 37).name = ("law" : PySem.Str) := by kernel_rfl
      rw [← e]
      exact hmg0
    have Z := EM.k63.facts (D := ⟨PySem.Challenge.pw_onehat_k63_whole_a_patch_of_the_grid, w, K, fun _ => 0, fun _ => none⟩) F KX G c
    obtain ⟨fd, T⟩ := c.t.d.def_ 27 (d := EM.k63.d_law) rfl
    have g := hmg.symm.trans (He.glo_ok KX G (c.t.d.fact 27 (f := .glo "law") rfl))
    cases g
    have b := L2.FunD.bindsA (ps := ["script"]) T fun _ _ _ _ _ _ us hl => match us, hl with | [_], _ => rfl
    exact ⟨K, fd, EM.spC ⟨PySem.Challenge.pw_onehat_k63_whole_a_patch_of_the_grid, w, K, fun _ => 0, fun _ => none⟩ (fun k vs h => EM.scall EM.k63.tS F 30 k vs h) 27, KX, fun s v => b s [v] rfl, fun H a ns hl hO hS => EM.law_sp hO hS (pure ns hl),
      fun base _ _ => EM.fn_step hF (fun _ _ _ _ _ z => z) (fun _ _ _ _ _ _ _ _ _ _ => L2.pass0) Z (EM.fns_ok hF (fun _ _ _ _ _ z => z) (fun _ _ _ _ _ _ _ _ _ _ => L2.pass0) Z 29) T EM.k63.fs_law rfl rfl rfl fun C => EM.k63.cd_law F C⟩
end
section
set_option Elab.async false
set_option linter.all false
set_option maxRecDepth 1000000
set_option maxHeartbeats 0
/-! K63C: k63's summaries. -/
namespace EM.k63
open PySem
def tF : List SFD := [⟨1, 1, c_is_list⟩, ⟨1, 1, c_is_whole⟩, ⟨1, 1, c_is_number⟩, ⟨2, 2, c_is_below⟩, ⟨2, 2, c_is_row⟩, ⟨2, 3, c_are_whole⟩, ⟨1, 1, c_is_kite⟩, ⟨1, 1, c_need_kite⟩, ⟨1, 1, c_is_dot⟩, ⟨1, 1, c_need_dot⟩, ⟨2, 2, c_middle⟩, ⟨2, 2, c_added⟩, ⟨1, 7, c_beside_by⟩, ⟨1, 1, c_beside⟩, ⟨1, 5, c_corners_by⟩, ⟨1, 1, c_corners⟩, ⟨1, 4, c_hexagon_at⟩, ⟨1, 8, c_kites_by⟩, ⟨1, 1, c_kites_at⟩, ⟨1, 1, c__law_stream⟩, ⟨2, 5, c__law_draw⟩, ⟨2, 4, c__law_same⟩, ⟨1, 3, c__law_unlike⟩, ⟨2, 3, c__law_g_round⟩, ⟨2, 2, c__law_g_middle⟩, ⟨1, 5, c__law_g_corners⟩, ⟨1, 7, c__law_g_at⟩, ⟨1, 21, c_law⟩]
def Kc : Nat → Option EV := cstAt tCst
def sK (k : Nat) : Option SV := match cstAt tCst k with
  | some v => ofEV 20 v
  | none => none
theorem hK (k : Nat) (v : SV) (h : sK k = some v) : ∃ w, Kc k = some w ∧ ∀ s ρ n, SR s ρ n v w := by
  unfold sK at h
  unfold Kc
  split at h
  · rename_i w e
    exact ⟨w, e, fun s ρ n => ofEV_ok 20 w v h⟩
  · cases h
theorem tab : Tab Kc tS tF := 
  .cons (fun F C => (cd_is_list F C).trans (congrArg (exs Kc C F) ce_is_list)) <| 
  .cons (fun F C => (cd_is_whole F C).trans (congrArg (exs Kc C F) ce_is_whole)) <| 
  .cons (fun F C => (cd_is_number F C).trans (congrArg (exs Kc C F) ce_is_number)) <| 
  .cons (fun F C => (cd_is_below F C).trans (congrArg (exs Kc C F) ce_is_below)) <| 
  .cons (fun F C => (cd_is_row F C).trans (congrArg (exs Kc C F) ce_is_row)) <| 
  .cons (fun F C => (cd_are_whole F C).trans (congrArg (exs Kc C F) ce_are_whole)) <| 
  .cons (fun F C => (cd_is_kite F C).trans (congrArg (exs Kc C F) ce_is_kite)) <| 
  .cons (fun F C => (cd_need_kite F C).trans (congrArg (exs Kc C F) ce_need_kite)) <| 
  .cons (fun F C => (cd_is_dot F C).trans (congrArg (exs Kc C F) ce_is_dot)) <| 
  .cons (fun F C => (cd_need_dot F C).trans (congrArg (exs Kc C F) ce_need_dot)) <| 
  .cons (fun F C => (cd_middle F C).trans (congrArg (exs Kc C F) ce_middle)) <| 
  .cons (fun F C => (cd_added F C).trans (congrArg (exs Kc C F) ce_added)) <| 
  .cons (fun F C => (cd_beside_by F C).trans (congrArg (exs Kc C F) ce_beside_by)) <| 
  .cons (fun F C => (cd_beside F C).trans (congrArg (exs Kc C F) ce_beside)) <| 
  .cons (fun F C => (cd_corners_by F C).trans (congrArg (exs Kc C F) ce_corners_by)) <| 
  .cons (fun F C => (cd_corners F C).trans (congrArg (exs Kc C F) ce_corners)) <| 
  .cons (fun F C => (cd_hexagon_at F C).trans (congrArg (exs Kc C F) ce_hexagon_at)) <| 
  .cons (fun F C => (cd_kites_by F C).trans (congrArg (exs Kc C F) ce_kites_by)) <| 
  .cons (fun F C => (cd_kites_at F C).trans (congrArg (exs Kc C F) ce_kites_at)) <| 
  .cons (fun F C => (cd__law_stream F C).trans (congrArg (exs Kc C F) ce__law_stream)) <| 
  .cons (fun F C => (cd__law_draw F C).trans (congrArg (exs Kc C F) ce__law_draw)) <| 
  .cons (fun F C => (cd__law_same F C).trans (congrArg (exs Kc C F) ce__law_same)) <| 
  .cons (fun F C => (cd__law_unlike F C).trans (congrArg (exs Kc C F) ce__law_unlike)) <| 
  .cons (fun F C => (cd__law_g_round F C).trans (congrArg (exs Kc C F) ce__law_g_round)) <| 
  .cons (fun F C => (cd__law_g_middle F C).trans (congrArg (exs Kc C F) ce__law_g_middle)) <| 
  .cons (fun F C => (cd__law_g_corners F C).trans (congrArg (exs Kc C F) ce__law_g_corners)) <| 
  .cons (fun F C => (cd__law_g_at F C).trans (congrArg (exs Kc C F) ce__law_g_at)) <| 
  .cons (fun F C => (cd_law F C).trans (congrArg (exs Kc C F) ce_law)) <| .nil
def pb : List (Int × Int) := [(-1000000, 1000000), (-1000000, 1000000)]
def kslv (j : Int) (vs : List SV) : Option (List AI) := match vs with
  | [.tup [.int x, .int y, .int k]] => match zeroL k.us with
    | true => match ieq k.c j with
      | true => some [x, y]
      | false => none
    | false => none
  | _ => none
def dslv (cx cy : Int) (vs : List SV) : Option (List AI) := match vs with
  | [.tup [.int x, .int y]] => match (y.sub x).add ⟨cx - cy, []⟩ with
    | ⟨c, us⟩ => match dvdL 6 us with
      | true => match ieq (c % 6) 0 with
        | true => fI (c / 6) fun c => divK 6 us fun us => match (x.add ⟨-cx, []⟩).add ((⟨c, us⟩ : AI).smul 2) with
          | ⟨d, vs⟩ => match dvdL 2 vs with
            | true => match ieq (d % 2) 0 with
              | true => fI (d / 2) fun d => divK 2 vs fun vs => some [⟨d, vs⟩, ⟨c, us⟩]
              | false => none
            | false => none
        | false => none
      | false => none
  | _ => none
def y__law_g_corners_28_0 : Smy := ⟨28, 25, [.tup [.int ⟨0, [1]⟩, .int ⟨0, [0, 1]⟩, .int ⟨0, []⟩]], pb, kslv 0, .new [.tup [.int ⟨0, [2, -2]⟩, .int ⟨0, [2, 4]⟩], .tup [.int ⟨1, [2, -2]⟩, .int ⟨1, [2, 4]⟩], .tup [.int ⟨0, [2, -2]⟩, .int ⟨2, [2, 4]⟩], .tup [.int ⟨-1, [2, -2]⟩, .int ⟨2, [2, 4]⟩]]⟩
theorem y__law_g_corners_28_0_k : y__law_g_corners_28_0.chk sK tF (fun _ _ _ _ => none) 1000 = true := by kernel_rfl
theorem y__law_g_corners_28_0_ok : y__law_g_corners_28_0.Ok tS 1000 := Smy.ok hK tab (fun _ _ => OOk.no) y__law_g_corners_28_0_k
def y__law_g_corners_28_1 : Smy := ⟨28, 25, [.tup [.int ⟨0, [1]⟩, .int ⟨0, [0, 1]⟩, .int ⟨1, []⟩]], pb, kslv 1, .new [.tup [.int ⟨0, [2, -2]⟩, .int ⟨0, [2, 4]⟩], .tup [.int ⟨-1, [2, -2]⟩, .int ⟨2, [2, 4]⟩], .tup [.int ⟨-2, [2, -2]⟩, .int ⟨2, [2, 4]⟩], .tup [.int ⟨-2, [2, -2]⟩, .int ⟨1, [2, 4]⟩]]⟩
theorem y__law_g_corners_28_1_k : y__law_g_corners_28_1.chk sK tF (fun _ _ _ _ => none) 1000 = true := by kernel_rfl
theorem y__law_g_corners_28_1_ok : y__law_g_corners_28_1.Ok tS 1000 := Smy.ok hK tab (fun _ _ => OOk.no) y__law_g_corners_28_1_k
def y__law_g_corners_28_2 : Smy := ⟨28, 25, [.tup [.int ⟨0, [1]⟩, .int ⟨0, [0, 1]⟩, .int ⟨2, []⟩]], pb, kslv 2, .new [.tup [.int ⟨0, [2, -2]⟩, .int ⟨0, [2, 4]⟩], .tup [.int ⟨-2, [2, -2]⟩, .int ⟨1, [2, 4]⟩], .tup [.int ⟨-2, [2, -2]⟩, .int ⟨0, [2, 4]⟩], .tup [.int ⟨-1, [2, -2]⟩, .int ⟨-1, [2, 4]⟩]]⟩
theorem y__law_g_corners_28_2_k : y__law_g_corners_28_2.chk sK tF (fun _ _ _ _ => none) 1000 = true := by kernel_rfl
theorem y__law_g_corners_28_2_ok : y__law_g_corners_28_2.Ok tS 1000 := Smy.ok hK tab (fun _ _ => OOk.no) y__law_g_corners_28_2_k
def y__law_g_corners_28_3 : Smy := ⟨28, 25, [.tup [.int ⟨0, [1]⟩, .int ⟨0, [0, 1]⟩, .int ⟨3, []⟩]], pb, kslv 3, .new [.tup [.int ⟨0, [2, -2]⟩, .int ⟨0, [2, 4]⟩], .tup [.int ⟨-1, [2, -2]⟩, .int ⟨-1, [2, 4]⟩], .tup [.int ⟨0, [2, -2]⟩, .int ⟨-2, [2, 4]⟩], .tup [.int ⟨1, [2, -2]⟩, .int ⟨-2, [2, 4]⟩]]⟩
theorem y__law_g_corners_28_3_k : y__law_g_corners_28_3.chk sK tF (fun _ _ _ _ => none) 1000 = true := by kernel_rfl
theorem y__law_g_corners_28_3_ok : y__law_g_corners_28_3.Ok tS 1000 := Smy.ok hK tab (fun _ _ => OOk.no) y__law_g_corners_28_3_k
def y__law_g_corners_28_4 : Smy := ⟨28, 25, [.tup [.int ⟨0, [1]⟩, .int ⟨0, [0, 1]⟩, .int ⟨4, []⟩]], pb, kslv 4, .new [.tup [.int ⟨0, [2, -2]⟩, .int ⟨0, [2, 4]⟩], .tup [.int ⟨1, [2, -2]⟩, .int ⟨-2, [2, 4]⟩], .tup [.int ⟨2, [2, -2]⟩, .int ⟨-2, [2, 4]⟩], .tup [.int ⟨2, [2, -2]⟩, .int ⟨-1, [2, 4]⟩]]⟩
theorem y__law_g_corners_28_4_k : y__law_g_corners_28_4.chk sK tF (fun _ _ _ _ => none) 1000 = true := by kernel_rfl
theorem y__law_g_corners_28_4_ok : y__law_g_corners_28_4.Ok tS 1000 := Smy.ok hK tab (fun _ _ => OOk.no) y__law_g_corners_28_4_k
def y__law_g_corners_28_5 : Smy := ⟨28, 25, [.tup [.int ⟨0, [1]⟩, .int ⟨0, [0, 1]⟩, .int ⟨5, []⟩]], pb, kslv 5, .new [.tup [.int ⟨0, [2, -2]⟩, .int ⟨0, [2, 4]⟩], .tup [.int ⟨2, [2, -2]⟩, .int ⟨-1, [2, 4]⟩], .tup [.int ⟨2, [2, -2]⟩, .int ⟨0, [2, 4]⟩], .tup [.int ⟨1, [2, -2]⟩, .int ⟨1, [2, 4]⟩]]⟩
theorem y__law_g_corners_28_5_k : y__law_g_corners_28_5.chk sK tF (fun _ _ _ _ => none) 1000 = true := by kernel_rfl
theorem y__law_g_corners_28_5_ok : y__law_g_corners_28_5.Ok tS 1000 := Smy.ok hK tab (fun _ _ => OOk.no) y__law_g_corners_28_5_k
def L1 : List Smy := [y__law_g_corners_28_0, y__law_g_corners_28_1, y__law_g_corners_28_2, y__law_g_corners_28_3, y__law_g_corners_28_4, y__law_g_corners_28_5]
theorem L1_ok : ∀ y ∈ L1, y.Ok tS 1000 := by
  intro y h
  simp only [L1, List.mem_cons, List.not_mem_nil, or_false] at h
  rcases h with rfl | rfl | rfl | rfl | rfl | rfl
  · exact y__law_g_corners_28_0_ok
  · exact y__law_g_corners_28_1_ok
  · exact y__law_g_corners_28_2_ok
  · exact y__law_g_corners_28_3_ok
  · exact y__law_g_corners_28_4_ok
  · exact y__law_g_corners_28_5_ok
def y_beside_29_0 : Smy := ⟨29, 13, [.tup [.int ⟨0, [1]⟩, .int ⟨0, [0, 1]⟩, .int ⟨0, []⟩]], pb, kslv 0, .new [.tup [.int ⟨0, [1]⟩, .int ⟨0, [0, 1]⟩, .int ⟨5, []⟩], .tup [.int ⟨1, [1]⟩, .int ⟨0, [0, 1]⟩, .int ⟨2, []⟩], .tup [.int ⟨0, [1]⟩, .int ⟨1, [0, 1]⟩, .int ⟨4, []⟩], .tup [.int ⟨0, [1]⟩, .int ⟨0, [0, 1]⟩, .int ⟨1, []⟩]]⟩
theorem y_beside_29_0_k : y_beside_29_0.chk sK tF (fun _ _ _ _ => none) 1000 = true := by kernel_rfl
theorem y_beside_29_0_ok : y_beside_29_0.Ok tS 1000 := Smy.ok hK tab (fun _ _ => OOk.no) y_beside_29_0_k
def y_beside_29_1 : Smy := ⟨29, 13, [.tup [.int ⟨0, [1]⟩, .int ⟨0, [0, 1]⟩, .int ⟨1, []⟩]], pb, kslv 1, .new [.tup [.int ⟨0, [1]⟩, .int ⟨0, [0, 1]⟩, .int ⟨0, []⟩], .tup [.int ⟨0, [1]⟩, .int ⟨1, [0, 1]⟩, .int ⟨3, []⟩], .tup [.int ⟨-1, [1]⟩, .int ⟨1, [0, 1]⟩, .int ⟨5, []⟩], .tup [.int ⟨0, [1]⟩, .int ⟨0, [0, 1]⟩, .int ⟨2, []⟩]]⟩
theorem y_beside_29_1_k : y_beside_29_1.chk sK tF (fun _ _ _ _ => none) 1000 = true := by kernel_rfl
theorem y_beside_29_1_ok : y_beside_29_1.Ok tS 1000 := Smy.ok hK tab (fun _ _ => OOk.no) y_beside_29_1_k
def y_beside_29_2 : Smy := ⟨29, 13, [.tup [.int ⟨0, [1]⟩, .int ⟨0, [0, 1]⟩, .int ⟨2, []⟩]], pb, kslv 2, .new [.tup [.int ⟨0, [1]⟩, .int ⟨0, [0, 1]⟩, .int ⟨1, []⟩], .tup [.int ⟨-1, [1]⟩, .int ⟨1, [0, 1]⟩, .int ⟨4, []⟩], .tup [.int ⟨-1, [1]⟩, .int ⟨0, [0, 1]⟩, .int ⟨0, []⟩], .tup [.int ⟨0, [1]⟩, .int ⟨0, [0, 1]⟩, .int ⟨3, []⟩]]⟩
theorem y_beside_29_2_k : y_beside_29_2.chk sK tF (fun _ _ _ _ => none) 1000 = true := by kernel_rfl
theorem y_beside_29_2_ok : y_beside_29_2.Ok tS 1000 := Smy.ok hK tab (fun _ _ => OOk.no) y_beside_29_2_k
def y_beside_29_3 : Smy := ⟨29, 13, [.tup [.int ⟨0, [1]⟩, .int ⟨0, [0, 1]⟩, .int ⟨3, []⟩]], pb, kslv 3, .new [.tup [.int ⟨0, [1]⟩, .int ⟨0, [0, 1]⟩, .int ⟨2, []⟩], .tup [.int ⟨-1, [1]⟩, .int ⟨0, [0, 1]⟩, .int ⟨5, []⟩], .tup [.int ⟨0, [1]⟩, .int ⟨-1, [0, 1]⟩, .int ⟨1, []⟩], .tup [.int ⟨0, [1]⟩, .int ⟨0, [0, 1]⟩, .int ⟨4, []⟩]]⟩
theorem y_beside_29_3_k : y_beside_29_3.chk sK tF (fun _ _ _ _ => none) 1000 = true := by kernel_rfl
theorem y_beside_29_3_ok : y_beside_29_3.Ok tS 1000 := Smy.ok hK tab (fun _ _ => OOk.no) y_beside_29_3_k
def y_beside_29_4 : Smy := ⟨29, 13, [.tup [.int ⟨0, [1]⟩, .int ⟨0, [0, 1]⟩, .int ⟨4, []⟩]], pb, kslv 4, .new [.tup [.int ⟨0, [1]⟩, .int ⟨0, [0, 1]⟩, .int ⟨3, []⟩], .tup [.int ⟨0, [1]⟩, .int ⟨-1, [0, 1]⟩, .int ⟨0, []⟩], .tup [.int ⟨1, [1]⟩, .int ⟨-1, [0, 1]⟩, .int ⟨2, []⟩], .tup [.int ⟨0, [1]⟩, .int ⟨0, [0, 1]⟩, .int ⟨5, []⟩]]⟩
theorem y_beside_29_4_k : y_beside_29_4.chk sK tF (fun _ _ _ _ => none) 1000 = true := by kernel_rfl
theorem y_beside_29_4_ok : y_beside_29_4.Ok tS 1000 := Smy.ok hK tab (fun _ _ => OOk.no) y_beside_29_4_k
def y_beside_29_5 : Smy := ⟨29, 13, [.tup [.int ⟨0, [1]⟩, .int ⟨0, [0, 1]⟩, .int ⟨5, []⟩]], pb, kslv 5, .new [.tup [.int ⟨0, [1]⟩, .int ⟨0, [0, 1]⟩, .int ⟨4, []⟩], .tup [.int ⟨1, [1]⟩, .int ⟨-1, [0, 1]⟩, .int ⟨1, []⟩], .tup [.int ⟨1, [1]⟩, .int ⟨0, [0, 1]⟩, .int ⟨3, []⟩], .tup [.int ⟨0, [1]⟩, .int ⟨0, [0, 1]⟩, .int ⟨0, []⟩]]⟩
theorem y_beside_29_5_k : y_beside_29_5.chk sK tF (fun _ _ _ _ => none) 1000 = true := by kernel_rfl
theorem y_beside_29_5_ok : y_beside_29_5.Ok tS 1000 := Smy.ok hK tab (fun _ _ => OOk.no) y_beside_29_5_k
def y_corners_29_0 : Smy := ⟨29, 15, [.tup [.int ⟨0, [1]⟩, .int ⟨0, [0, 1]⟩, .int ⟨0, []⟩]], pb, kslv 0, .new [.tup [.int ⟨0, [2, -2]⟩, .int ⟨0, [2, 4]⟩], .tup [.int ⟨1, [2, -2]⟩, .int ⟨1, [2, 4]⟩], .tup [.int ⟨0, [2, -2]⟩, .int ⟨2, [2, 4]⟩], .tup [.int ⟨-1, [2, -2]⟩, .int ⟨2, [2, 4]⟩]]⟩
theorem y_corners_29_0_k : y_corners_29_0.chk sK tF (fun _ _ _ _ => none) 1000 = true := by kernel_rfl
theorem y_corners_29_0_ok : y_corners_29_0.Ok tS 1000 := Smy.ok hK tab (fun _ _ => OOk.no) y_corners_29_0_k
def y_corners_29_1 : Smy := ⟨29, 15, [.tup [.int ⟨0, [1]⟩, .int ⟨0, [0, 1]⟩, .int ⟨1, []⟩]], pb, kslv 1, .new [.tup [.int ⟨0, [2, -2]⟩, .int ⟨0, [2, 4]⟩], .tup [.int ⟨-1, [2, -2]⟩, .int ⟨2, [2, 4]⟩], .tup [.int ⟨-2, [2, -2]⟩, .int ⟨2, [2, 4]⟩], .tup [.int ⟨-2, [2, -2]⟩, .int ⟨1, [2, 4]⟩]]⟩
theorem y_corners_29_1_k : y_corners_29_1.chk sK tF (fun _ _ _ _ => none) 1000 = true := by kernel_rfl
theorem y_corners_29_1_ok : y_corners_29_1.Ok tS 1000 := Smy.ok hK tab (fun _ _ => OOk.no) y_corners_29_1_k
def y_corners_29_2 : Smy := ⟨29, 15, [.tup [.int ⟨0, [1]⟩, .int ⟨0, [0, 1]⟩, .int ⟨2, []⟩]], pb, kslv 2, .new [.tup [.int ⟨0, [2, -2]⟩, .int ⟨0, [2, 4]⟩], .tup [.int ⟨-2, [2, -2]⟩, .int ⟨1, [2, 4]⟩], .tup [.int ⟨-2, [2, -2]⟩, .int ⟨0, [2, 4]⟩], .tup [.int ⟨-1, [2, -2]⟩, .int ⟨-1, [2, 4]⟩]]⟩
theorem y_corners_29_2_k : y_corners_29_2.chk sK tF (fun _ _ _ _ => none) 1000 = true := by kernel_rfl
theorem y_corners_29_2_ok : y_corners_29_2.Ok tS 1000 := Smy.ok hK tab (fun _ _ => OOk.no) y_corners_29_2_k
def y_corners_29_3 : Smy := ⟨29, 15, [.tup [.int ⟨0, [1]⟩, .int ⟨0, [0, 1]⟩, .int ⟨3, []⟩]], pb, kslv 3, .new [.tup [.int ⟨0, [2, -2]⟩, .int ⟨0, [2, 4]⟩], .tup [.int ⟨-1, [2, -2]⟩, .int ⟨-1, [2, 4]⟩], .tup [.int ⟨0, [2, -2]⟩, .int ⟨-2, [2, 4]⟩], .tup [.int ⟨1, [2, -2]⟩, .int ⟨-2, [2, 4]⟩]]⟩
theorem y_corners_29_3_k : y_corners_29_3.chk sK tF (fun _ _ _ _ => none) 1000 = true := by kernel_rfl
theorem y_corners_29_3_ok : y_corners_29_3.Ok tS 1000 := Smy.ok hK tab (fun _ _ => OOk.no) y_corners_29_3_k
def y_corners_29_4 : Smy := ⟨29, 15, [.tup [.int ⟨0, [1]⟩, .int ⟨0, [0, 1]⟩, .int ⟨4, []⟩]], pb, kslv 4, .new [.tup [.int ⟨0, [2, -2]⟩, .int ⟨0, [2, 4]⟩], .tup [.int ⟨1, [2, -2]⟩, .int ⟨-2, [2, 4]⟩], .tup [.int ⟨2, [2, -2]⟩, .int ⟨-2, [2, 4]⟩], .tup [.int ⟨2, [2, -2]⟩, .int ⟨-1, [2, 4]⟩]]⟩
theorem y_corners_29_4_k : y_corners_29_4.chk sK tF (fun _ _ _ _ => none) 1000 = true := by kernel_rfl
theorem y_corners_29_4_ok : y_corners_29_4.Ok tS 1000 := Smy.ok hK tab (fun _ _ => OOk.no) y_corners_29_4_k
def y_corners_29_5 : Smy := ⟨29, 15, [.tup [.int ⟨0, [1]⟩, .int ⟨0, [0, 1]⟩, .int ⟨5, []⟩]], pb, kslv 5, .new [.tup [.int ⟨0, [2, -2]⟩, .int ⟨0, [2, 4]⟩], .tup [.int ⟨2, [2, -2]⟩, .int ⟨-1, [2, 4]⟩], .tup [.int ⟨2, [2, -2]⟩, .int ⟨0, [2, 4]⟩], .tup [.int ⟨1, [2, -2]⟩, .int ⟨1, [2, 4]⟩]]⟩
theorem y_corners_29_5_k : y_corners_29_5.chk sK tF (fun _ _ _ _ => none) 1000 = true := by kernel_rfl
theorem y_corners_29_5_ok : y_corners_29_5.Ok tS 1000 := Smy.ok hK tab (fun _ _ => OOk.no) y_corners_29_5_k
def y__law_g_corners_29_0 : Smy := ⟨29, 25, [.tup [.int ⟨0, [1]⟩, .int ⟨0, [0, 1]⟩, .int ⟨0, []⟩]], pb, kslv 0, .new [.tup [.int ⟨0, [2, -2]⟩, .int ⟨0, [2, 4]⟩], .tup [.int ⟨1, [2, -2]⟩, .int ⟨1, [2, 4]⟩], .tup [.int ⟨0, [2, -2]⟩, .int ⟨2, [2, 4]⟩], .tup [.int ⟨-1, [2, -2]⟩, .int ⟨2, [2, 4]⟩]]⟩
theorem y__law_g_corners_29_0_k : y__law_g_corners_29_0.chk sK tF (fun _ _ _ _ => none) 1000 = true := by kernel_rfl
theorem y__law_g_corners_29_0_ok : y__law_g_corners_29_0.Ok tS 1000 := Smy.ok hK tab (fun _ _ => OOk.no) y__law_g_corners_29_0_k
def y__law_g_corners_29_1 : Smy := ⟨29, 25, [.tup [.int ⟨0, [1]⟩, .int ⟨0, [0, 1]⟩, .int ⟨1, []⟩]], pb, kslv 1, .new [.tup [.int ⟨0, [2, -2]⟩, .int ⟨0, [2, 4]⟩], .tup [.int ⟨-1, [2, -2]⟩, .int ⟨2, [2, 4]⟩], .tup [.int ⟨-2, [2, -2]⟩, .int ⟨2, [2, 4]⟩], .tup [.int ⟨-2, [2, -2]⟩, .int ⟨1, [2, 4]⟩]]⟩
theorem y__law_g_corners_29_1_k : y__law_g_corners_29_1.chk sK tF (fun _ _ _ _ => none) 1000 = true := by kernel_rfl
theorem y__law_g_corners_29_1_ok : y__law_g_corners_29_1.Ok tS 1000 := Smy.ok hK tab (fun _ _ => OOk.no) y__law_g_corners_29_1_k
def y__law_g_corners_29_2 : Smy := ⟨29, 25, [.tup [.int ⟨0, [1]⟩, .int ⟨0, [0, 1]⟩, .int ⟨2, []⟩]], pb, kslv 2, .new [.tup [.int ⟨0, [2, -2]⟩, .int ⟨0, [2, 4]⟩], .tup [.int ⟨-2, [2, -2]⟩, .int ⟨1, [2, 4]⟩], .tup [.int ⟨-2, [2, -2]⟩, .int ⟨0, [2, 4]⟩], .tup [.int ⟨-1, [2, -2]⟩, .int ⟨-1, [2, 4]⟩]]⟩
theorem y__law_g_corners_29_2_k : y__law_g_corners_29_2.chk sK tF (fun _ _ _ _ => none) 1000 = true := by kernel_rfl
theorem y__law_g_corners_29_2_ok : y__law_g_corners_29_2.Ok tS 1000 := Smy.ok hK tab (fun _ _ => OOk.no) y__law_g_corners_29_2_k
def y__law_g_corners_29_3 : Smy := ⟨29, 25, [.tup [.int ⟨0, [1]⟩, .int ⟨0, [0, 1]⟩, .int ⟨3, []⟩]], pb, kslv 3, .new [.tup [.int ⟨0, [2, -2]⟩, .int ⟨0, [2, 4]⟩], .tup [.int ⟨-1, [2, -2]⟩, .int ⟨-1, [2, 4]⟩], .tup [.int ⟨0, [2, -2]⟩, .int ⟨-2, [2, 4]⟩], .tup [.int ⟨1, [2, -2]⟩, .int ⟨-2, [2, 4]⟩]]⟩
theorem y__law_g_corners_29_3_k : y__law_g_corners_29_3.chk sK tF (fun _ _ _ _ => none) 1000 = true := by kernel_rfl
theorem y__law_g_corners_29_3_ok : y__law_g_corners_29_3.Ok tS 1000 := Smy.ok hK tab (fun _ _ => OOk.no) y__law_g_corners_29_3_k
def y__law_g_corners_29_4 : Smy := ⟨29, 25, [.tup [.int ⟨0, [1]⟩, .int ⟨0, [0, 1]⟩, .int ⟨4, []⟩]], pb, kslv 4, .new [.tup [.int ⟨0, [2, -2]⟩, .int ⟨0, [2, 4]⟩], .tup [.int ⟨1, [2, -2]⟩, .int ⟨-2, [2, 4]⟩], .tup [.int ⟨2, [2, -2]⟩, .int ⟨-2, [2, 4]⟩], .tup [.int ⟨2, [2, -2]⟩, .int ⟨-1, [2, 4]⟩]]⟩
theorem y__law_g_corners_29_4_k : y__law_g_corners_29_4.chk sK tF (fun _ _ _ _ => none) 1000 = true := by kernel_rfl
theorem y__law_g_corners_29_4_ok : y__law_g_corners_29_4.Ok tS 1000 := Smy.ok hK tab (fun _ _ => OOk.no) y__law_g_corners_29_4_k
def y__law_g_corners_29_5 : Smy := ⟨29, 25, [.tup [.int ⟨0, [1]⟩, .int ⟨0, [0, 1]⟩, .int ⟨5, []⟩]], pb, kslv 5, .new [.tup [.int ⟨0, [2, -2]⟩, .int ⟨0, [2, 4]⟩], .tup [.int ⟨2, [2, -2]⟩, .int ⟨-1, [2, 4]⟩], .tup [.int ⟨2, [2, -2]⟩, .int ⟨0, [2, 4]⟩], .tup [.int ⟨1, [2, -2]⟩, .int ⟨1, [2, 4]⟩]]⟩
theorem y__law_g_corners_29_5_k : y__law_g_corners_29_5.chk sK tF (fun _ _ _ _ => none) 1000 = true := by kernel_rfl
theorem y__law_g_corners_29_5_ok : y__law_g_corners_29_5.Ok tS 1000 := Smy.ok hK tab (fun _ _ => OOk.no) y__law_g_corners_29_5_k
def y_kites_at_29_0 : Smy := ⟨29, 18, [.tup [.int ⟨0, [2, -2]⟩, .int ⟨0, [2, 4]⟩]], pb, dslv (0) (0), .new [.tup [.int ⟨0, [1]⟩, .int ⟨0, [0, 1]⟩, .int ⟨0, []⟩], .tup [.int ⟨0, [1]⟩, .int ⟨0, [0, 1]⟩, .int ⟨1, []⟩], .tup [.int ⟨0, [1]⟩, .int ⟨0, [0, 1]⟩, .int ⟨2, []⟩], .tup [.int ⟨0, [1]⟩, .int ⟨0, [0, 1]⟩, .int ⟨3, []⟩], .tup [.int ⟨0, [1]⟩, .int ⟨0, [0, 1]⟩, .int ⟨4, []⟩], .tup [.int ⟨0, [1]⟩, .int ⟨0, [0, 1]⟩, .int ⟨5, []⟩]]⟩
theorem y_kites_at_29_0_k : y_kites_at_29_0.chk sK tF (fun _ _ _ _ => none) 1000 = true := by kernel_rfl
theorem y_kites_at_29_0_ok : y_kites_at_29_0.Ok tS 1000 := Smy.ok hK tab (fun _ _ => OOk.no) y_kites_at_29_0_k
def y_kites_at_29_1 : Smy := ⟨29, 18, [.tup [.int ⟨1, [2, -2]⟩, .int ⟨1, [2, 4]⟩]], pb, dslv (1) (1), .new [.tup [.int ⟨0, [1]⟩, .int ⟨0, [0, 1]⟩, .int ⟨0, []⟩], .tup [.int ⟨0, [1]⟩, .int ⟨0, [0, 1]⟩, .int ⟨5, []⟩], .tup [.int ⟨1, [1]⟩, .int ⟨0, [0, 1]⟩, .int ⟨2, []⟩], .tup [.int ⟨1, [1]⟩, .int ⟨0, [0, 1]⟩, .int ⟨3, []⟩]]⟩
theorem y_kites_at_29_1_k : y_kites_at_29_1.chk sK tF (fun _ _ _ _ => none) 1000 = true := by kernel_rfl
theorem y_kites_at_29_1_ok : y_kites_at_29_1.Ok tS 1000 := Smy.ok hK tab (fun _ _ => OOk.no) y_kites_at_29_1_k
def y_kites_at_29_2 : Smy := ⟨29, 18, [.tup [.int ⟨-1, [2, -2]⟩, .int ⟨2, [2, 4]⟩]], pb, dslv (-1) (2), .new [.tup [.int ⟨0, [1]⟩, .int ⟨0, [0, 1]⟩, .int ⟨0, []⟩], .tup [.int ⟨0, [1]⟩, .int ⟨0, [0, 1]⟩, .int ⟨1, []⟩], .tup [.int ⟨0, [1]⟩, .int ⟨1, [0, 1]⟩, .int ⟨3, []⟩], .tup [.int ⟨0, [1]⟩, .int ⟨1, [0, 1]⟩, .int ⟨4, []⟩]]⟩
theorem y_kites_at_29_2_k : y_kites_at_29_2.chk sK tF (fun _ _ _ _ => none) 1000 = true := by kernel_rfl
theorem y_kites_at_29_2_ok : y_kites_at_29_2.Ok tS 1000 := Smy.ok hK tab (fun _ _ => OOk.no) y_kites_at_29_2_k
def y_kites_at_29_3 : Smy := ⟨29, 18, [.tup [.int ⟨-2, [2, -2]⟩, .int ⟨1, [2, 4]⟩]], pb, dslv (-2) (1), .new [.tup [.int ⟨-1, [1]⟩, .int ⟨1, [0, 1]⟩, .int ⟨4, []⟩], .tup [.int ⟨-1, [1]⟩, .int ⟨1, [0, 1]⟩, .int ⟨5, []⟩], .tup [.int ⟨0, [1]⟩, .int ⟨0, [0, 1]⟩, .int ⟨1, []⟩], .tup [.int ⟨0, [1]⟩, .int ⟨0, [0, 1]⟩, .int ⟨2, []⟩]]⟩
theorem y_kites_at_29_3_k : y_kites_at_29_3.chk sK tF (fun _ _ _ _ => none) 1000 = true := by kernel_rfl
theorem y_kites_at_29_3_ok : y_kites_at_29_3.Ok tS 1000 := Smy.ok hK tab (fun _ _ => OOk.no) y_kites_at_29_3_k
def y_kites_at_29_4 : Smy := ⟨29, 18, [.tup [.int ⟨0, [2, -2]⟩, .int ⟨2, [2, 4]⟩]], pb, dslv (0) (2), .new [.tup [.int ⟨0, [1]⟩, .int ⟨0, [0, 1]⟩, .int ⟨0, []⟩], .tup [.int ⟨0, [1]⟩, .int ⟨1, [0, 1]⟩, .int ⟨4, []⟩], .tup [.int ⟨1, [1]⟩, .int ⟨0, [0, 1]⟩, .int ⟨2, []⟩]]⟩
theorem y_kites_at_29_4_k : y_kites_at_29_4.chk sK tF (fun _ _ _ _ => none) 1000 = true := by kernel_rfl
theorem y_kites_at_29_4_ok : y_kites_at_29_4.Ok tS 1000 := Smy.ok hK tab (fun _ _ => OOk.no) y_kites_at_29_4_k
def y_kites_at_29_5 : Smy := ⟨29, 18, [.tup [.int ⟨-2, [2, -2]⟩, .int ⟨2, [2, 4]⟩]], pb, dslv (-2) (2), .new [.tup [.int ⟨-1, [1]⟩, .int ⟨1, [0, 1]⟩, .int ⟨5, []⟩], .tup [.int ⟨0, [1]⟩, .int ⟨0, [0, 1]⟩, .int ⟨1, []⟩], .tup [.int ⟨0, [1]⟩, .int ⟨1, [0, 1]⟩, .int ⟨3, []⟩]]⟩
theorem y_kites_at_29_5_k : y_kites_at_29_5.chk sK tF (fun _ _ _ _ => none) 1000 = true := by kernel_rfl
theorem y_kites_at_29_5_ok : y_kites_at_29_5.Ok tS 1000 := Smy.ok hK tab (fun _ _ => OOk.no) y_kites_at_29_5_k
def y__law_g_at_29_0 : Smy := ⟨29, 26, [.tup [.int ⟨0, [2, -2]⟩, .int ⟨0, [2, 4]⟩]], pb, dslv (0) (0), .new [.tup [.int ⟨0, [1]⟩, .int ⟨0, [0, 1]⟩, .int ⟨0, []⟩], .tup [.int ⟨0, [1]⟩, .int ⟨0, [0, 1]⟩, .int ⟨1, []⟩], .tup [.int ⟨0, [1]⟩, .int ⟨0, [0, 1]⟩, .int ⟨2, []⟩], .tup [.int ⟨0, [1]⟩, .int ⟨0, [0, 1]⟩, .int ⟨3, []⟩], .tup [.int ⟨0, [1]⟩, .int ⟨0, [0, 1]⟩, .int ⟨4, []⟩], .tup [.int ⟨0, [1]⟩, .int ⟨0, [0, 1]⟩, .int ⟨5, []⟩]]⟩
theorem y__law_g_at_29_0_k : y__law_g_at_29_0.chk sK tF (orc pb L1) 1000 = true := by kernel_rfl
theorem y__law_g_at_29_0_ok : y__law_g_at_29_0.Ok tS 1000 := Smy.ok hK tab (fun _ hB => orc_ok hB L1_ok) y__law_g_at_29_0_k
def y__law_g_at_29_1 : Smy := ⟨29, 26, [.tup [.int ⟨1, [2, -2]⟩, .int ⟨1, [2, 4]⟩]], pb, dslv (1) (1), .new [.tup [.int ⟨0, [1]⟩, .int ⟨0, [0, 1]⟩, .int ⟨0, []⟩], .tup [.int ⟨0, [1]⟩, .int ⟨0, [0, 1]⟩, .int ⟨5, []⟩], .tup [.int ⟨1, [1]⟩, .int ⟨0, [0, 1]⟩, .int ⟨2, []⟩], .tup [.int ⟨1, [1]⟩, .int ⟨0, [0, 1]⟩, .int ⟨3, []⟩]]⟩
theorem y__law_g_at_29_1_k : y__law_g_at_29_1.chk sK tF (orc pb L1) 1000 = true := by kernel_rfl
theorem y__law_g_at_29_1_ok : y__law_g_at_29_1.Ok tS 1000 := Smy.ok hK tab (fun _ hB => orc_ok hB L1_ok) y__law_g_at_29_1_k
def y__law_g_at_29_2 : Smy := ⟨29, 26, [.tup [.int ⟨-1, [2, -2]⟩, .int ⟨2, [2, 4]⟩]], pb, dslv (-1) (2), .new [.tup [.int ⟨0, [1]⟩, .int ⟨0, [0, 1]⟩, .int ⟨0, []⟩], .tup [.int ⟨0, [1]⟩, .int ⟨0, [0, 1]⟩, .int ⟨1, []⟩], .tup [.int ⟨0, [1]⟩, .int ⟨1, [0, 1]⟩, .int ⟨3, []⟩], .tup [.int ⟨0, [1]⟩, .int ⟨1, [0, 1]⟩, .int ⟨4, []⟩]]⟩
theorem y__law_g_at_29_2_k : y__law_g_at_29_2.chk sK tF (orc pb L1) 1000 = true := by kernel_rfl
theorem y__law_g_at_29_2_ok : y__law_g_at_29_2.Ok tS 1000 := Smy.ok hK tab (fun _ hB => orc_ok hB L1_ok) y__law_g_at_29_2_k
def y__law_g_at_29_3 : Smy := ⟨29, 26, [.tup [.int ⟨-2, [2, -2]⟩, .int ⟨1, [2, 4]⟩]], pb, dslv (-2) (1), .new [.tup [.int ⟨-1, [1]⟩, .int ⟨1, [0, 1]⟩, .int ⟨4, []⟩], .tup [.int ⟨-1, [1]⟩, .int ⟨1, [0, 1]⟩, .int ⟨5, []⟩], .tup [.int ⟨0, [1]⟩, .int ⟨0, [0, 1]⟩, .int ⟨1, []⟩], .tup [.int ⟨0, [1]⟩, .int ⟨0, [0, 1]⟩, .int ⟨2, []⟩]]⟩
theorem y__law_g_at_29_3_k : y__law_g_at_29_3.chk sK tF (orc pb L1) 1000 = true := by kernel_rfl
theorem y__law_g_at_29_3_ok : y__law_g_at_29_3.Ok tS 1000 := Smy.ok hK tab (fun _ hB => orc_ok hB L1_ok) y__law_g_at_29_3_k
def y__law_g_at_29_4 : Smy := ⟨29, 26, [.tup [.int ⟨0, [2, -2]⟩, .int ⟨2, [2, 4]⟩]], pb, dslv (0) (2), .new [.tup [.int ⟨0, [1]⟩, .int ⟨0, [0, 1]⟩, .int ⟨0, []⟩], .tup [.int ⟨0, [1]⟩, .int ⟨1, [0, 1]⟩, .int ⟨4, []⟩], .tup [.int ⟨1, [1]⟩, .int ⟨0, [0, 1]⟩, .int ⟨2, []⟩]]⟩
theorem y__law_g_at_29_4_k : y__law_g_at_29_4.chk sK tF (orc pb L1) 1000 = true := by kernel_rfl
theorem y__law_g_at_29_4_ok : y__law_g_at_29_4.Ok tS 1000 := Smy.ok hK tab (fun _ hB => orc_ok hB L1_ok) y__law_g_at_29_4_k
def y__law_g_at_29_5 : Smy := ⟨29, 26, [.tup [.int ⟨-2, [2, -2]⟩, .int ⟨2, [2, 4]⟩]], pb, dslv (-2) (2), .new [.tup [.int ⟨-1, [1]⟩, .int ⟨1, [0, 1]⟩, .int ⟨5, []⟩], .tup [.int ⟨0, [1]⟩, .int ⟨0, [0, 1]⟩, .int ⟨1, []⟩], .tup [.int ⟨0, [1]⟩, .int ⟨1, [0, 1]⟩, .int ⟨3, []⟩]]⟩
theorem y__law_g_at_29_5_k : y__law_g_at_29_5.chk sK tF (orc pb L1) 1000 = true := by kernel_rfl
theorem y__law_g_at_29_5_ok : y__law_g_at_29_5.Ok tS 1000 := Smy.ok hK tab (fun _ hB => orc_ok hB L1_ok) y__law_g_at_29_5_k
def L2 : List Smy := [y_beside_29_0, y_beside_29_1, y_beside_29_2, y_beside_29_3, y_beside_29_4, y_beside_29_5, y_corners_29_0, y_corners_29_1, y_corners_29_2, y_corners_29_3, y_corners_29_4, y_corners_29_5, y__law_g_corners_29_0, y__law_g_corners_29_1, y__law_g_corners_29_2, y__law_g_corners_29_3, y__law_g_corners_29_4, y__law_g_corners_29_5, y_kites_at_29_0, y_kites_at_29_1, y_kites_at_29_2, y_kites_at_29_3, y_kites_at_29_4, y_kites_at_29_5, y__law_g_at_29_0, y__law_g_at_29_1, y__law_g_at_29_2, y__law_g_at_29_3, y__law_g_at_29_4, y__law_g_at_29_5]
theorem L2_ok : ∀ y ∈ L2, y.Ok tS 1000 := by
  intro y h
  simp only [L2, List.mem_cons, List.not_mem_nil, or_false] at h
  rcases h with rfl | rfl | rfl | rfl | rfl | rfl | rfl | rfl | rfl | rfl | rfl | rfl | rfl | rfl | rfl | rfl | rfl | rfl | rfl | rfl | rfl | rfl | rfl | rfl | rfl | rfl | rfl | rfl | rfl | rfl
  · exact y_beside_29_0_ok
  · exact y_beside_29_1_ok
  · exact y_beside_29_2_ok
  · exact y_beside_29_3_ok
  · exact y_beside_29_4_ok
  · exact y_beside_29_5_ok
  · exact y_corners_29_0_ok
  · exact y_corners_29_1_ok
  · exact y_corners_29_2_ok
  · exact y_corners_29_3_ok
  · exact y_corners_29_4_ok
  · exact y_corners_29_5_ok
  · exact y__law_g_corners_29_0_ok
  · exact y__law_g_corners_29_1_ok
  · exact y__law_g_corners_29_2_ok
  · exact y__law_g_corners_29_3_ok
  · exact y__law_g_corners_29_4_ok
  · exact y__law_g_corners_29_5_ok
  · exact y_kites_at_29_0_ok
  · exact y_kites_at_29_1_ok
  · exact y_kites_at_29_2_ok
  · exact y_kites_at_29_3_ok
  · exact y_kites_at_29_4_ok
  · exact y_kites_at_29_5_ok
  · exact y__law_g_at_29_0_ok
  · exact y__law_g_at_29_1_ok
  · exact y__law_g_at_29_2_ok
  · exact y__law_g_at_29_3_ok
  · exact y__law_g_at_29_4_ok
  · exact y__law_g_at_29_5_ok
end EM.k63
end
section
set_option Elab.async false
set_option linter.all false
set_option maxRecDepth 1000000
set_option maxHeartbeats 0
/-! K63D: k63's law after its draws, over unknown a, b. -/
namespace EM.k63
open PySem
def pA : XSs := (.cons (.asg (.tp (.cons (.nm 9 "kites") (.cons (.nm 10 "dots") .nil))) (.tup (.cons false (.lst .nil) (.cons false (.dct .nil) .nil)))) (.cons (.for_ (.nm 2 "x") (.rng (.cons false (.var 5 "a") (.cons false (.bin .Add (.var 5 "a") (.var 7 "wide")) .nil))) (.cons (.for_ (.nm 11 "y") (.rng (.cons false (.var 6 "b") (.cons false (.bin .Add (.var 6 "b") (.var 8 "high")) .nil))) (.cons (.ex (.met .extend (.var 9 "kites") (.cons false (.lc [13] (.tup (.cons false (.var 2 "x") (.cons false (.var 11 "y") (.cons false (.var 13 "k") .nil)))) (.nm 13 "k") (.rng (.cons false (.cI 6) .nil)) .nil) .nil))) .nil)) .nil)) (.cons (.for_ (.nm 3 "kite") (.ex (.var 9 "kites")) (.cons (.asg (.tp (.cons (.nm 14 "near") (.cons (.nm 15 "own") .nil))) (.tup (.cons false (.call 13 "beside" (.cons false (.var 3 "kite") .nil)) (.cons false (.call 15 "corners" (.cons false (.var 3 "kite") .nil)) .nil)))) (.cons (.ifs (.lg .Or (.cons (.nt (.va (.call 21 "_law_same" (.cons false (.var 15 "own") (.cons false (.call 25 "_law_g_corners" (.cons false (.var 3 "kite") .nil)) .nil))))) (.cons (.va (.cmp .NotEq (.bi .len (.cons false (.call 22 "_law_unlike" (.cons false (.var 14 "near") .nil)) .nil)) (.cI 4))) (.cons (.va (.cmp .In (.var 3 "kite") (.var 14 "near"))) .nil)))) (.cons (.ret (.cB false)) .nil) .nil) (.cons (.for_ (.tp (.cons (.nm 16 "at") (.cons (.nm 17 "other") .nil))) (.enu (.var 14 "near")) (.cons (.asg (.nm 18 "back") (.call 13 "beside" (.cons false (.var 17 "other") .nil))) (.cons (.ifs (.lg .Or (.cons (.va (.cmp .NotEq (.met .count (.var 18 "back") (.cons false (.var 3 "kite") .nil)) (.cI 1))) (.cons (.va (.cmp .NotEq (.bi .sorted (.cons false (.lst (.cons false (.sub (.var 15 "own") (.var 16 "at")) (.cons false (.sub (.var 15 "own") (.bin .Mod (.bi .int (.cons false (.bin .Add (.var 16 "at") (.cI 1)) .nil)) (.cI 4))) .nil))) .nil)) (.bi .sorted (.cons false (.lc [4] (.var 4 "dot") (.nm 4 "dot") (.ex (.call 15 "corners" (.cons false (.var 17 "other") .nil))) (.cons (.va (.cmp .In (.var 4 "dot") (.var 15 "own"))) .nil)) .nil)))) .nil))) (.cons (.ret (.cB false)) .nil) .nil) .nil))) (.cons (.for_ (.nm 4 "dot") (.ex (.var 15 "own")) (.cons (.asg (.sb (.var 10 "dots") (.var 4 "dot")) (.bin .Add (.met .get (.var 10 "dots") (.cons false (.var 4 "dot") (.cons false (.cI 0) .nil))) (.cI 1))) .nil)) .nil))))) .nil)))
def gD : XG := (.nm 4 "dot")
def iD : XI := (.ex (.var 10 "dots"))
def bD : XSs := (.cons (.asg (.nm 12 "here") (.call 18 "kites_at" (.cons false (.var 4 "dot") .nil))) (.cons (.ifs (.lg .Or (.cons (.va (.cmp .NotEq (.sub (.var 10 "dots") (.var 4 "dot")) (.bi .len (.cons false (.lc [3] (.var 3 "kite") (.nm 3 "kite") (.ex (.var 12 "here")) (.cons (.va (.cmp .In (.var 3 "kite") (.var 9 "kites"))) .nil)) .nil)))) (.cons (.nt (.va (.call 21 "_law_same" (.cons false (.var 12 "here") (.cons false (.call 26 "_law_g_at" (.cons false (.var 4 "dot") .nil)) .nil))))) .nil))) (.cons (.ret (.cB false)) .nil) .nil) (.cons (.asg (.tp (.cons (.nm 19 "walk") (.cons (.nm 3 "kite") .nil))) (.tup (.cons false (.lst (.cons false (.sub (.var 12 "here") (.cI 0)) .nil)) (.cons false (.sub (.var 12 "here") (.cI 0)) .nil)))) (.cons (.for_ (.nm 13 "k") (.rng (.cons false (.bi .len (.cons false (.var 12 "here") .nil)) .nil)) (.cons (.asg (.nm 3 "kite") (.sub (.lc [20] (.var 20 "one") (.nm 20 "one") (.ex (.call 13 "beside" (.cons false (.var 3 "kite") .nil))) (.cons (.lg .And (.cons (.va (.cmp .In (.var 20 "one") (.var 12 "here"))) (.cons (.va (.cmp .Eq (.sub (.call 15 "corners" (.cons false (.var 20 "one") .nil)) (.bin .Mod (.bi .int (.cons false (.bin .Add (.met .index (.call 15 "corners" (.cons false (.var 20 "one") .nil)) (.cons false (.var 4 "dot") .nil)) (.cI 1)) .nil)) (.cI 4))) (.sub (.call 15 "corners" (.cons false (.var 3 "kite") .nil)) (.bin .Mod (.bi .int (.cons false (.bin .Add (.met .index (.call 15 "corners" (.cons false (.var 3 "kite") .nil)) (.cons false (.var 4 "dot") .nil)) (.cI 3)) .nil)) (.cI 4))))) .nil))) .nil)) (.cI 0))) (.cons (.ex (.met .append (.var 19 "walk") (.cons false (.var 3 "kite") .nil))) .nil))) (.cons (.ifs (.lg .Or (.cons (.va (.cmp .NotEq (.sub (.var 19 "walk") (.cI 0)) (.sub (.var 19 "walk") (.neg (.cI 1))))) (.cons (.va (.cmp .NotEq (.bi .sorted (.cons false (.slc (.var 19 "walk") (.so (.cI 1)) .no) .nil)) (.var 12 "here"))) .nil))) (.cons (.ret (.cB false)) .nil) .nil) .nil)))))
def pR : XSs := (.cons (.ret (.cB true)) .nil)
def xA : XS := (.asg (.nm 1 "stream") (.call 19 "_law_stream" (.cons false (.var 0 "script") .nil)))
def xB : XS := (.par [(5, "a"), (6, "b")] (.cons false (.bin .Sub (.call 20 "_law_draw" (.cons false (.var 1 "stream") (.cons false (.cI 40) .nil))) (.cI 20)) (.cons false (.bin .Sub (.call 20 "_law_draw" (.cons false (.var 1 "stream") (.cons false (.cI 40) .nil))) (.cI 20)) .nil)))
def xC : XS := (.par [(7, "wide"), (8, "high")] (.cons false (.bin .Add (.cI 1) (.call 20 "_law_draw" (.cons false (.var 1 "stream") (.cons false (.cI 2) .nil)))) (.cons false (.bin .Add (.cI 1) (.call 20 "_law_draw" (.cons false (.var 1 "stream") (.cons false (.cI 3) .nil)))) .nil)))
theorem law_is : c_law = .cons xA (.cons xB (.cons xC (apS pA (.cons (.for_ gD iD bD) pR)))) := by kernel_rfl
def bL : List (Int × Int) := [(-20, 19), (-20, 19)]
def CL : Nat → List SV → SH → SQ SV := fun k vs h => zcall bL sK tF (orc bL L2) 1000 29 k vs h
def kk (i : Int) : SV := .int ⟨i, []⟩
def st0 (wide high : Int) : SSg := [none, none, none, none, none, some (.int ⟨0, [1]⟩), some (.int ⟨0, [0, 1]⟩), some (kk wide), some (kk high), none, none, none, none, none, none, none, none, none, none, none, none]
def st1 : SSg := [none, none, none, none, none, none, none, none, none, some (.ref 0), some (.ref 1), none, none, none, none, none, none, none, none, none, none]
def h0 : SH := ⟨0, 400000000, .lf⟩
def h1 (kites : List SV) (dots : List (SV × SV)) (lk : Bool) : SH := ⟨2, 400000000, .nd (.nd .lf (some (.dct dots lk)) .lf) (some (.lst kites false)) .lf⟩
def dct (ks : List SV) (ns : List Int) : List (SV × SV) := ks.zip (ns.map kk)
def chkP (w h : Int) (kites : List SV) (dots : List (SV × SV)) : Bool := chkC bL sK CL 1000 pA (st0 w h) h0 [0, 1] st1 (h1 kites dots false)
def chkD (kites : List SV) (dots : List (SV × SV)) (ks : List SV) : Bool := ks.all (chkI bL sK CL 1000 gD bD st1 (h1 kites dots true) [0, 1])
def chkV (kites : List SV) (dots : List (SV × SV)) (ks : List SV) : Bool := match chkW bL sK CL 1000 iD st1 (h1 kites dots false) ks [0, 1] (h1 kites dots true) with
  | true => chkT bL sK CL 1000 pR st1 (h1 kites dots true)
  | false => false
theorem all_in {f : SV → Bool} {l : List SV} (h : l.all f = true) : ∀ d ∈ l, f d = true := List.all_eq_true.mp h
theorem all_ap {f : SV → Bool} {l r : List SV} (h1 : ∀ d ∈ l, f d = true) (h2 : ∀ d ∈ r, f d = true) : ∀ d ∈ l ++ r, f d = true := fun d hd => (List.mem_append.mp hd).elim (h1 d) (h2 d)
def k11 : List SV := [.tup [.int ⟨0, [1]⟩, .int ⟨0, [0, 1]⟩, .int ⟨0, []⟩], .tup [.int ⟨0, [1]⟩, .int ⟨0, [0, 1]⟩, .int ⟨1, []⟩], .tup [.int ⟨0, [1]⟩, .int ⟨0, [0, 1]⟩, .int ⟨2, []⟩], .tup [.int ⟨0, [1]⟩, .int ⟨0, [0, 1]⟩, .int ⟨3, []⟩], .tup [.int ⟨0, [1]⟩, .int ⟨0, [0, 1]⟩, .int ⟨4, []⟩], .tup [.int ⟨0, [1]⟩, .int ⟨0, [0, 1]⟩, .int ⟨5, []⟩]]
def d11_0 : List SV := [.tup [.int ⟨0, [2, -2]⟩, .int ⟨0, [2, 4]⟩], .tup [.int ⟨1, [2, -2]⟩, .int ⟨1, [2, 4]⟩], .tup [.int ⟨0, [2, -2]⟩, .int ⟨2, [2, 4]⟩], .tup [.int ⟨-1, [2, -2]⟩, .int ⟨2, [2, 4]⟩], .tup [.int ⟨-2, [2, -2]⟩, .int ⟨2, [2, 4]⟩], .tup [.int ⟨-2, [2, -2]⟩, .int ⟨1, [2, 4]⟩], .tup [.int ⟨-2, [2, -2]⟩, .int ⟨0, [2, 4]⟩], .tup [.int ⟨-1, [2, -2]⟩, .int ⟨-1, [2, 4]⟩]]
def d11_1 : List SV := [.tup [.int ⟨0, [2, -2]⟩, .int ⟨-2, [2, 4]⟩], .tup [.int ⟨1, [2, -2]⟩, .int ⟨-2, [2, 4]⟩], .tup [.int ⟨2, [2, -2]⟩, .int ⟨-2, [2, 4]⟩], .tup [.int ⟨2, [2, -2]⟩, .int ⟨-1, [2, 4]⟩], .tup [.int ⟨2, [2, -2]⟩, .int ⟨0, [2, 4]⟩]]
def d11 : List SV := d11_0 ++ (d11_1)
def e11 : List (SV × SV) := [(.tup [.int ⟨0, [2, -2]⟩, .int ⟨0, [2, 4]⟩], kk 6), (.tup [.int ⟨1, [2, -2]⟩, .int ⟨1, [2, 4]⟩], kk 2), (.tup [.int ⟨0, [2, -2]⟩, .int ⟨2, [2, 4]⟩], kk 1), (.tup [.int ⟨-1, [2, -2]⟩, .int ⟨2, [2, 4]⟩], kk 2), (.tup [.int ⟨-2, [2, -2]⟩, .int ⟨2, [2, 4]⟩], kk 1), (.tup [.int ⟨-2, [2, -2]⟩, .int ⟨1, [2, 4]⟩], kk 2), (.tup [.int ⟨-2, [2, -2]⟩, .int ⟨0, [2, 4]⟩], kk 1), (.tup [.int ⟨-1, [2, -2]⟩, .int ⟨-1, [2, 4]⟩], kk 2), (.tup [.int ⟨0, [2, -2]⟩, .int ⟨-2, [2, 4]⟩], kk 1), (.tup [.int ⟨1, [2, -2]⟩, .int ⟨-2, [2, 4]⟩], kk 2), (.tup [.int ⟨2, [2, -2]⟩, .int ⟨-2, [2, 4]⟩], kk 1), (.tup [.int ⟨2, [2, -2]⟩, .int ⟨-1, [2, 4]⟩], kk 2), (.tup [.int ⟨2, [2, -2]⟩, .int ⟨0, [2, 4]⟩], kk 1)]
theorem p11 : chkP 1 1 k11 e11 = true := by kernel_rfl
theorem v11 : chkV k11 e11 d11 = true := by kernel_rfl
theorem q11_0 : chkD k11 e11 d11_0 = true := by kernel_rfl
theorem q11_1 : chkD k11 e11 d11_1 = true := by kernel_rfl
theorem a11 : ∀ d ∈ d11, chkI bL sK CL 1000 gD bD st1 (h1 k11 e11 true) [0, 1] d = true := all_ap (all_in q11_0) (all_in q11_1)
def k12 : List SV := [.tup [.int ⟨0, [1]⟩, .int ⟨0, [0, 1]⟩, .int ⟨0, []⟩], .tup [.int ⟨0, [1]⟩, .int ⟨0, [0, 1]⟩, .int ⟨1, []⟩], .tup [.int ⟨0, [1]⟩, .int ⟨0, [0, 1]⟩, .int ⟨2, []⟩], .tup [.int ⟨0, [1]⟩, .int ⟨0, [0, 1]⟩, .int ⟨3, []⟩], .tup [.int ⟨0, [1]⟩, .int ⟨0, [0, 1]⟩, .int ⟨4, []⟩], .tup [.int ⟨0, [1]⟩, .int ⟨0, [0, 1]⟩, .int ⟨5, []⟩], .tup [.int ⟨0, [1]⟩, .int ⟨1, [0, 1]⟩, .int ⟨0, []⟩], .tup [.int ⟨0, [1]⟩, .int ⟨1, [0, 1]⟩, .int ⟨1, []⟩], .tup [.int ⟨0, [1]⟩, .int ⟨1, [0, 1]⟩, .int ⟨2, []⟩], .tup [.int ⟨0, [1]⟩, .int ⟨1, [0, 1]⟩, .int ⟨3, []⟩], .tup [.int ⟨0, [1]⟩, .int ⟨1, [0, 1]⟩, .int ⟨4, []⟩], .tup [.int ⟨0, [1]⟩, .int ⟨1, [0, 1]⟩, .int ⟨5, []⟩]]
def d12_0 : List SV := [.tup [.int ⟨0, [2, -2]⟩, .int ⟨0, [2, 4]⟩], .tup [.int ⟨1, [2, -2]⟩, .int ⟨1, [2, 4]⟩], .tup [.int ⟨0, [2, -2]⟩, .int ⟨2, [2, 4]⟩], .tup [.int ⟨-1, [2, -2]⟩, .int ⟨2, [2, 4]⟩], .tup [.int ⟨-2, [2, -2]⟩, .int ⟨2, [2, 4]⟩], .tup [.int ⟨-2, [2, -2]⟩, .int ⟨1, [2, 4]⟩], .tup [.int ⟨-2, [2, -2]⟩, .int ⟨0, [2, 4]⟩], .tup [.int ⟨-1, [2, -2]⟩, .int ⟨-1, [2, 4]⟩]]
def d12_1 : List SV := [.tup [.int ⟨0, [2, -2]⟩, .int ⟨-2, [2, 4]⟩], .tup [.int ⟨1, [2, -2]⟩, .int ⟨-2, [2, 4]⟩], .tup [.int ⟨2, [2, -2]⟩, .int ⟨-2, [2, 4]⟩], .tup [.int ⟨2, [2, -2]⟩, .int ⟨-1, [2, 4]⟩], .tup [.int ⟨2, [2, -2]⟩, .int ⟨0, [2, 4]⟩], .tup [.int ⟨-2, [2, -2]⟩, .int ⟨4, [2, 4]⟩], .tup [.int ⟨-1, [2, -2]⟩, .int ⟨5, [2, 4]⟩], .tup [.int ⟨-2, [2, -2]⟩, .int ⟨6, [2, 4]⟩]]
def d12_2 : List SV := [.tup [.int ⟨-3, [2, -2]⟩, .int ⟨6, [2, 4]⟩], .tup [.int ⟨-4, [2, -2]⟩, .int ⟨6, [2, 4]⟩], .tup [.int ⟨-4, [2, -2]⟩, .int ⟨5, [2, 4]⟩], .tup [.int ⟨-4, [2, -2]⟩, .int ⟨4, [2, 4]⟩], .tup [.int ⟨-3, [2, -2]⟩, .int ⟨3, [2, 4]⟩], .tup [.int ⟨0, [2, -2]⟩, .int ⟨3, [2, 4]⟩], .tup [.int ⟨0, [2, -2]⟩, .int ⟨4, [2, 4]⟩]]
def d12 : List SV := d12_0 ++ (d12_1 ++ (d12_2))
def e12 : List (SV × SV) := [(.tup [.int ⟨0, [2, -2]⟩, .int ⟨0, [2, 4]⟩], kk 6), (.tup [.int ⟨1, [2, -2]⟩, .int ⟨1, [2, 4]⟩], kk 2), (.tup [.int ⟨0, [2, -2]⟩, .int ⟨2, [2, 4]⟩], kk 2), (.tup [.int ⟨-1, [2, -2]⟩, .int ⟨2, [2, 4]⟩], kk 4), (.tup [.int ⟨-2, [2, -2]⟩, .int ⟨2, [2, 4]⟩], kk 2), (.tup [.int ⟨-2, [2, -2]⟩, .int ⟨1, [2, 4]⟩], kk 2), (.tup [.int ⟨-2, [2, -2]⟩, .int ⟨0, [2, 4]⟩], kk 1), (.tup [.int ⟨-1, [2, -2]⟩, .int ⟨-1, [2, 4]⟩], kk 2), (.tup [.int ⟨0, [2, -2]⟩, .int ⟨-2, [2, 4]⟩], kk 1), (.tup [.int ⟨1, [2, -2]⟩, .int ⟨-2, [2, 4]⟩], kk 2), (.tup [.int ⟨2, [2, -2]⟩, .int ⟨-2, [2, 4]⟩], kk 1), (.tup [.int ⟨2, [2, -2]⟩, .int ⟨-1, [2, 4]⟩], kk 2), (.tup [.int ⟨2, [2, -2]⟩, .int ⟨0, [2, 4]⟩], kk 1), (.tup [.int ⟨-2, [2, -2]⟩, .int ⟨4, [2, 4]⟩], kk 6), (.tup [.int ⟨-1, [2, -2]⟩, .int ⟨5, [2, 4]⟩], kk 2), (.tup [.int ⟨-2, [2, -2]⟩, .int ⟨6, [2, 4]⟩], kk 1), (.tup [.int ⟨-3, [2, -2]⟩, .int ⟨6, [2, 4]⟩], kk 2), (.tup [.int ⟨-4, [2, -2]⟩, .int ⟨6, [2, 4]⟩], kk 1), (.tup [.int ⟨-4, [2, -2]⟩, .int ⟨5, [2, 4]⟩], kk 2), (.tup [.int ⟨-4, [2, -2]⟩, .int ⟨4, [2, 4]⟩], kk 1), (.tup [.int ⟨-3, [2, -2]⟩, .int ⟨3, [2, 4]⟩], kk 2), (.tup [.int ⟨0, [2, -2]⟩, .int ⟨3, [2, 4]⟩], kk 2), (.tup [.int ⟨0, [2, -2]⟩, .int ⟨4, [2, 4]⟩], kk 1)]
theorem p12 : chkP 1 2 k12 e12 = true := by kernel_rfl
theorem v12 : chkV k12 e12 d12 = true := by kernel_rfl
theorem q12_0 : chkD k12 e12 d12_0 = true := by kernel_rfl
theorem q12_1 : chkD k12 e12 d12_1 = true := by kernel_rfl
theorem q12_2 : chkD k12 e12 d12_2 = true := by kernel_rfl
theorem a12 : ∀ d ∈ d12, chkI bL sK CL 1000 gD bD st1 (h1 k12 e12 true) [0, 1] d = true := all_ap (all_in q12_0) (all_ap (all_in q12_1) (all_in q12_2))
def k13 : List SV := [.tup [.int ⟨0, [1]⟩, .int ⟨0, [0, 1]⟩, .int ⟨0, []⟩], .tup [.int ⟨0, [1]⟩, .int ⟨0, [0, 1]⟩, .int ⟨1, []⟩], .tup [.int ⟨0, [1]⟩, .int ⟨0, [0, 1]⟩, .int ⟨2, []⟩], .tup [.int ⟨0, [1]⟩, .int ⟨0, [0, 1]⟩, .int ⟨3, []⟩], .tup [.int ⟨0, [1]⟩, .int ⟨0, [0, 1]⟩, .int ⟨4, []⟩], .tup [.int ⟨0, [1]⟩, .int ⟨0, [0, 1]⟩, .int ⟨5, []⟩], .tup [.int ⟨0, [1]⟩, .int ⟨1, [0, 1]⟩, .int ⟨0, []⟩], .tup [.int ⟨0, [1]⟩, .int ⟨1, [0, 1]⟩, .int ⟨1, []⟩], .tup [.int ⟨0, [1]⟩, .int ⟨1, [0, 1]⟩, .int ⟨2, []⟩], .tup [.int ⟨0, [1]⟩, .int ⟨1, [0, 1]⟩, .int ⟨3, []⟩], .tup [.int ⟨0, [1]⟩, .int ⟨1, [0, 1]⟩, .int ⟨4, []⟩], .tup [.int ⟨0, [1]⟩, .int ⟨1, [0, 1]⟩, .int ⟨5, []⟩], .tup [.int ⟨0, [1]⟩, .int ⟨2, [0, 1]⟩, .int ⟨0, []⟩], .tup [.int ⟨0, [1]⟩, .int ⟨2, [0, 1]⟩, .int ⟨1, []⟩], .tup [.int ⟨0, [1]⟩, .int ⟨2, [0, 1]⟩, .int ⟨2, []⟩], .tup [.int ⟨0, [1]⟩, .int ⟨2, [0, 1]⟩, .int ⟨3, []⟩], .tup [.int ⟨0, [1]⟩, .int ⟨2, [0, 1]⟩, .int ⟨4, []⟩], .tup [.int ⟨0, [1]⟩, .int ⟨2, [0, 1]⟩, .int ⟨5, []⟩]]
def d13_0 : List SV := [.tup [.int ⟨0, [2, -2]⟩, .int ⟨0, [2, 4]⟩], .tup [.int ⟨1, [2, -2]⟩, .int ⟨1, [2, 4]⟩], .tup [.int ⟨0, [2, -2]⟩, .int ⟨2, [2, 4]⟩], .tup [.int ⟨-1, [2, -2]⟩, .int ⟨2, [2, 4]⟩], .tup [.int ⟨-2, [2, -2]⟩, .int ⟨2, [2, 4]⟩], .tup [.int ⟨-2, [2, -2]⟩, .int ⟨1, [2, 4]⟩], .tup [.int ⟨-2, [2, -2]⟩, .int ⟨0, [2, 4]⟩], .tup [.int ⟨-1, [2, -2]⟩, .int ⟨-1, [2, 4]⟩]]
def d13_1 : List SV := [.tup [.int ⟨0, [2, -2]⟩, .int ⟨-2, [2, 4]⟩], .tup [.int ⟨1, [2, -2]⟩, .int ⟨-2, [2, 4]⟩], .tup [.int ⟨2, [2, -2]⟩, .int ⟨-2, [2, 4]⟩], .tup [.int ⟨2, [2, -2]⟩, .int ⟨-1, [2, 4]⟩], .tup [.int ⟨2, [2, -2]⟩, .int ⟨0, [2, 4]⟩], .tup [.int ⟨-2, [2, -2]⟩, .int ⟨4, [2, 4]⟩], .tup [.int ⟨-1, [2, -2]⟩, .int ⟨5, [2, 4]⟩], .tup [.int ⟨-2, [2, -2]⟩, .int ⟨6, [2, 4]⟩]]
def d13_2 : List SV := [.tup [.int ⟨-3, [2, -2]⟩, .int ⟨6, [2, 4]⟩], .tup [.int ⟨-4, [2, -2]⟩, .int ⟨6, [2, 4]⟩], .tup [.int ⟨-4, [2, -2]⟩, .int ⟨5, [2, 4]⟩], .tup [.int ⟨-4, [2, -2]⟩, .int ⟨4, [2, 4]⟩], .tup [.int ⟨-3, [2, -2]⟩, .int ⟨3, [2, 4]⟩], .tup [.int ⟨0, [2, -2]⟩, .int ⟨3, [2, 4]⟩], .tup [.int ⟨0, [2, -2]⟩, .int ⟨4, [2, 4]⟩], .tup [.int ⟨-4, [2, -2]⟩, .int ⟨8, [2, 4]⟩]]
def d13_3 : List SV := [.tup [.int ⟨-3, [2, -2]⟩, .int ⟨9, [2, 4]⟩], .tup [.int ⟨-4, [2, -2]⟩, .int ⟨10, [2, 4]⟩], .tup [.int ⟨-5, [2, -2]⟩, .int ⟨10, [2, 4]⟩], .tup [.int ⟨-6, [2, -2]⟩, .int ⟨10, [2, 4]⟩], .tup [.int ⟨-6, [2, -2]⟩, .int ⟨9, [2, 4]⟩], .tup [.int ⟨-6, [2, -2]⟩, .int ⟨8, [2, 4]⟩], .tup [.int ⟨-5, [2, -2]⟩, .int ⟨7, [2, 4]⟩], .tup [.int ⟨-2, [2, -2]⟩, .int ⟨7, [2, 4]⟩]]
def d13_4 : List SV := [.tup [.int ⟨-2, [2, -2]⟩, .int ⟨8, [2, 4]⟩]]
def d13 : List SV := d13_0 ++ (d13_1 ++ (d13_2 ++ (d13_3 ++ (d13_4))))
def e13 : List (SV × SV) := [(.tup [.int ⟨0, [2, -2]⟩, .int ⟨0, [2, 4]⟩], kk 6), (.tup [.int ⟨1, [2, -2]⟩, .int ⟨1, [2, 4]⟩], kk 2), (.tup [.int ⟨0, [2, -2]⟩, .int ⟨2, [2, 4]⟩], kk 2), (.tup [.int ⟨-1, [2, -2]⟩, .int ⟨2, [2, 4]⟩], kk 4), (.tup [.int ⟨-2, [2, -2]⟩, .int ⟨2, [2, 4]⟩], kk 2), (.tup [.int ⟨-2, [2, -2]⟩, .int ⟨1, [2, 4]⟩], kk 2), (.tup [.int ⟨-2, [2, -2]⟩, .int ⟨0, [2, 4]⟩], kk 1), (.tup [.int ⟨-1, [2, -2]⟩, .int ⟨-1, [2, 4]⟩], kk 2), (.tup [.int ⟨0, [2, -2]⟩, .int ⟨-2, [2, 4]⟩], kk 1), (.tup [.int ⟨1, [2, -2]⟩, .int ⟨-2, [2, 4]⟩], kk 2), (.tup [.int ⟨2, [2, -2]⟩, .int ⟨-2, [2, 4]⟩], kk 1), (.tup [.int ⟨2, [2, -2]⟩, .int ⟨-1, [2, 4]⟩], kk 2), (.tup [.int ⟨2, [2, -2]⟩, .int ⟨0, [2, 4]⟩], kk 1), (.tup [.int ⟨-2, [2, -2]⟩, .int ⟨4, [2, 4]⟩], kk 6), (.tup [.int ⟨-1, [2, -2]⟩, .int ⟨5, [2, 4]⟩], kk 2), (.tup [.int ⟨-2, [2, -2]⟩, .int ⟨6, [2, 4]⟩], kk 2), (.tup [.int ⟨-3, [2, -2]⟩, .int ⟨6, [2, 4]⟩], kk 4), (.tup [.int ⟨-4, [2, -2]⟩, .int ⟨6, [2, 4]⟩], kk 2), (.tup [.int ⟨-4, [2, -2]⟩, .int ⟨5, [2, 4]⟩], kk 2), (.tup [.int ⟨-4, [2, -2]⟩, .int ⟨4, [2, 4]⟩], kk 1), (.tup [.int ⟨-3, [2, -2]⟩, .int ⟨3, [2, 4]⟩], kk 2), (.tup [.int ⟨0, [2, -2]⟩, .int ⟨3, [2, 4]⟩], kk 2), (.tup [.int ⟨0, [2, -2]⟩, .int ⟨4, [2, 4]⟩], kk 1), (.tup [.int ⟨-4, [2, -2]⟩, .int ⟨8, [2, 4]⟩], kk 6), (.tup [.int ⟨-3, [2, -2]⟩, .int ⟨9, [2, 4]⟩], kk 2), (.tup [.int ⟨-4, [2, -2]⟩, .int ⟨10, [2, 4]⟩], kk 1), (.tup [.int ⟨-5, [2, -2]⟩, .int ⟨10, [2, 4]⟩], kk 2), (.tup [.int ⟨-6, [2, -2]⟩, .int ⟨10, [2, 4]⟩], kk 1), (.tup [.int ⟨-6, [2, -2]⟩, .int ⟨9, [2, 4]⟩], kk 2), (.tup [.int ⟨-6, [2, -2]⟩, .int ⟨8, [2, 4]⟩], kk 1), (.tup [.int ⟨-5, [2, -2]⟩, .int ⟨7, [2, 4]⟩], kk 2), (.tup [.int ⟨-2, [2, -2]⟩, .int ⟨7, [2, 4]⟩], kk 2), (.tup [.int ⟨-2, [2, -2]⟩, .int ⟨8, [2, 4]⟩], kk 1)]
theorem p13 : chkP 1 3 k13 e13 = true := by kernel_rfl
theorem v13 : chkV k13 e13 d13 = true := by kernel_rfl
theorem q13_0 : chkD k13 e13 d13_0 = true := by kernel_rfl
theorem q13_1 : chkD k13 e13 d13_1 = true := by kernel_rfl
theorem q13_2 : chkD k13 e13 d13_2 = true := by kernel_rfl
theorem q13_3 : chkD k13 e13 d13_3 = true := by kernel_rfl
theorem q13_4 : chkD k13 e13 d13_4 = true := by kernel_rfl
theorem a13 : ∀ d ∈ d13, chkI bL sK CL 1000 gD bD st1 (h1 k13 e13 true) [0, 1] d = true := all_ap (all_in q13_0) (all_ap (all_in q13_1) (all_ap (all_in q13_2) (all_ap (all_in q13_3) (all_in q13_4))))
def k21 : List SV := [.tup [.int ⟨0, [1]⟩, .int ⟨0, [0, 1]⟩, .int ⟨0, []⟩], .tup [.int ⟨0, [1]⟩, .int ⟨0, [0, 1]⟩, .int ⟨1, []⟩], .tup [.int ⟨0, [1]⟩, .int ⟨0, [0, 1]⟩, .int ⟨2, []⟩], .tup [.int ⟨0, [1]⟩, .int ⟨0, [0, 1]⟩, .int ⟨3, []⟩], .tup [.int ⟨0, [1]⟩, .int ⟨0, [0, 1]⟩, .int ⟨4, []⟩], .tup [.int ⟨0, [1]⟩, .int ⟨0, [0, 1]⟩, .int ⟨5, []⟩], .tup [.int ⟨1, [1]⟩, .int ⟨0, [0, 1]⟩, .int ⟨0, []⟩], .tup [.int ⟨1, [1]⟩, .int ⟨0, [0, 1]⟩, .int ⟨1, []⟩], .tup [.int ⟨1, [1]⟩, .int ⟨0, [0, 1]⟩, .int ⟨2, []⟩], .tup [.int ⟨1, [1]⟩, .int ⟨0, [0, 1]⟩, .int ⟨3, []⟩], .tup [.int ⟨1, [1]⟩, .int ⟨0, [0, 1]⟩, .int ⟨4, []⟩], .tup [.int ⟨1, [1]⟩, .int ⟨0, [0, 1]⟩, .int ⟨5, []⟩]]
def d21_0 : List SV := [.tup [.int ⟨0, [2, -2]⟩, .int ⟨0, [2, 4]⟩], .tup [.int ⟨1, [2, -2]⟩, .int ⟨1, [2, 4]⟩], .tup [.int ⟨0, [2, -2]⟩, .int ⟨2, [2, 4]⟩], .tup [.int ⟨-1, [2, -2]⟩, .int ⟨2, [2, 4]⟩], .tup [.int ⟨-2, [2, -2]⟩, .int ⟨2, [2, 4]⟩], .tup [.int ⟨-2, [2, -2]⟩, .int ⟨1, [2, 4]⟩], .tup [.int ⟨-2, [2, -2]⟩, .int ⟨0, [2, 4]⟩], .tup [.int ⟨-1, [2, -2]⟩, .int ⟨-1, [2, 4]⟩]]
def d21_1 : List SV := [.tup [.int ⟨0, [2, -2]⟩, .int ⟨-2, [2, 4]⟩], .tup [.int ⟨1, [2, -2]⟩, .int ⟨-2, [2, 4]⟩], .tup [.int ⟨2, [2, -2]⟩, .int ⟨-2, [2, 4]⟩], .tup [.int ⟨2, [2, -2]⟩, .int ⟨-1, [2, 4]⟩], .tup [.int ⟨2, [2, -2]⟩, .int ⟨0, [2, 4]⟩], .tup [.int ⟨2, [2, -2]⟩, .int ⟨2, [2, 4]⟩], .tup [.int ⟨3, [2, -2]⟩, .int ⟨3, [2, 4]⟩], .tup [.int ⟨2, [2, -2]⟩, .int ⟨4, [2, 4]⟩]]
def d21_2 : List SV := [.tup [.int ⟨1, [2, -2]⟩, .int ⟨4, [2, 4]⟩], .tup [.int ⟨0, [2, -2]⟩, .int ⟨4, [2, 4]⟩], .tup [.int ⟨0, [2, -2]⟩, .int ⟨3, [2, 4]⟩], .tup [.int ⟨3, [2, -2]⟩, .int ⟨0, [2, 4]⟩], .tup [.int ⟨4, [2, -2]⟩, .int ⟨0, [2, 4]⟩], .tup [.int ⟨4, [2, -2]⟩, .int ⟨1, [2, 4]⟩], .tup [.int ⟨4, [2, -2]⟩, .int ⟨2, [2, 4]⟩]]
def d21 : List SV := d21_0 ++ (d21_1 ++ (d21_2))
def e21 : List (SV × SV) := [(.tup [.int ⟨0, [2, -2]⟩, .int ⟨0, [2, 4]⟩], kk 6), (.tup [.int ⟨1, [2, -2]⟩, .int ⟨1, [2, 4]⟩], kk 4), (.tup [.int ⟨0, [2, -2]⟩, .int ⟨2, [2, 4]⟩], kk 2), (.tup [.int ⟨-1, [2, -2]⟩, .int ⟨2, [2, 4]⟩], kk 2), (.tup [.int ⟨-2, [2, -2]⟩, .int ⟨2, [2, 4]⟩], kk 1), (.tup [.int ⟨-2, [2, -2]⟩, .int ⟨1, [2, 4]⟩], kk 2), (.tup [.int ⟨-2, [2, -2]⟩, .int ⟨0, [2, 4]⟩], kk 1), (.tup [.int ⟨-1, [2, -2]⟩, .int ⟨-1, [2, 4]⟩], kk 2), (.tup [.int ⟨0, [2, -2]⟩, .int ⟨-2, [2, 4]⟩], kk 1), (.tup [.int ⟨1, [2, -2]⟩, .int ⟨-2, [2, 4]⟩], kk 2), (.tup [.int ⟨2, [2, -2]⟩, .int ⟨-2, [2, 4]⟩], kk 1), (.tup [.int ⟨2, [2, -2]⟩, .int ⟨-1, [2, 4]⟩], kk 2), (.tup [.int ⟨2, [2, -2]⟩, .int ⟨0, [2, 4]⟩], kk 2), (.tup [.int ⟨2, [2, -2]⟩, .int ⟨2, [2, 4]⟩], kk 6), (.tup [.int ⟨3, [2, -2]⟩, .int ⟨3, [2, 4]⟩], kk 2), (.tup [.int ⟨2, [2, -2]⟩, .int ⟨4, [2, 4]⟩], kk 1), (.tup [.int ⟨1, [2, -2]⟩, .int ⟨4, [2, 4]⟩], kk 2), (.tup [.int ⟨0, [2, -2]⟩, .int ⟨4, [2, 4]⟩], kk 1), (.tup [.int ⟨0, [2, -2]⟩, .int ⟨3, [2, 4]⟩], kk 2), (.tup [.int ⟨3, [2, -2]⟩, .int ⟨0, [2, 4]⟩], kk 2), (.tup [.int ⟨4, [2, -2]⟩, .int ⟨0, [2, 4]⟩], kk 1), (.tup [.int ⟨4, [2, -2]⟩, .int ⟨1, [2, 4]⟩], kk 2), (.tup [.int ⟨4, [2, -2]⟩, .int ⟨2, [2, 4]⟩], kk 1)]
theorem p21 : chkP 2 1 k21 e21 = true := by kernel_rfl
theorem v21 : chkV k21 e21 d21 = true := by kernel_rfl
theorem q21_0 : chkD k21 e21 d21_0 = true := by kernel_rfl
theorem q21_1 : chkD k21 e21 d21_1 = true := by kernel_rfl
theorem q21_2 : chkD k21 e21 d21_2 = true := by kernel_rfl
theorem a21 : ∀ d ∈ d21, chkI bL sK CL 1000 gD bD st1 (h1 k21 e21 true) [0, 1] d = true := all_ap (all_in q21_0) (all_ap (all_in q21_1) (all_in q21_2))
def k22 : List SV := [.tup [.int ⟨0, [1]⟩, .int ⟨0, [0, 1]⟩, .int ⟨0, []⟩], .tup [.int ⟨0, [1]⟩, .int ⟨0, [0, 1]⟩, .int ⟨1, []⟩], .tup [.int ⟨0, [1]⟩, .int ⟨0, [0, 1]⟩, .int ⟨2, []⟩], .tup [.int ⟨0, [1]⟩, .int ⟨0, [0, 1]⟩, .int ⟨3, []⟩], .tup [.int ⟨0, [1]⟩, .int ⟨0, [0, 1]⟩, .int ⟨4, []⟩], .tup [.int ⟨0, [1]⟩, .int ⟨0, [0, 1]⟩, .int ⟨5, []⟩], .tup [.int ⟨0, [1]⟩, .int ⟨1, [0, 1]⟩, .int ⟨0, []⟩], .tup [.int ⟨0, [1]⟩, .int ⟨1, [0, 1]⟩, .int ⟨1, []⟩], .tup [.int ⟨0, [1]⟩, .int ⟨1, [0, 1]⟩, .int ⟨2, []⟩], .tup [.int ⟨0, [1]⟩, .int ⟨1, [0, 1]⟩, .int ⟨3, []⟩], .tup [.int ⟨0, [1]⟩, .int ⟨1, [0, 1]⟩, .int ⟨4, []⟩], .tup [.int ⟨0, [1]⟩, .int ⟨1, [0, 1]⟩, .int ⟨5, []⟩], .tup [.int ⟨1, [1]⟩, .int ⟨0, [0, 1]⟩, .int ⟨0, []⟩], .tup [.int ⟨1, [1]⟩, .int ⟨0, [0, 1]⟩, .int ⟨1, []⟩], .tup [.int ⟨1, [1]⟩, .int ⟨0, [0, 1]⟩, .int ⟨2, []⟩], .tup [.int ⟨1, [1]⟩, .int ⟨0, [0, 1]⟩, .int ⟨3, []⟩], .tup [.int ⟨1, [1]⟩, .int ⟨0, [0, 1]⟩, .int ⟨4, []⟩], .tup [.int ⟨1, [1]⟩, .int ⟨0, [0, 1]⟩, .int ⟨5, []⟩], .tup [.int ⟨1, [1]⟩, .int ⟨1, [0, 1]⟩, .int ⟨0, []⟩], .tup [.int ⟨1, [1]⟩, .int ⟨1, [0, 1]⟩, .int ⟨1, []⟩], .tup [.int ⟨1, [1]⟩, .int ⟨1, [0, 1]⟩, .int ⟨2, []⟩], .tup [.int ⟨1, [1]⟩, .int ⟨1, [0, 1]⟩, .int ⟨3, []⟩], .tup [.int ⟨1, [1]⟩, .int ⟨1, [0, 1]⟩, .int ⟨4, []⟩], .tup [.int ⟨1, [1]⟩, .int ⟨1, [0, 1]⟩, .int ⟨5, []⟩]]
def d22_0 : List SV := [.tup [.int ⟨0, [2, -2]⟩, .int ⟨0, [2, 4]⟩], .tup [.int ⟨1, [2, -2]⟩, .int ⟨1, [2, 4]⟩], .tup [.int ⟨0, [2, -2]⟩, .int ⟨2, [2, 4]⟩], .tup [.int ⟨-1, [2, -2]⟩, .int ⟨2, [2, 4]⟩], .tup [.int ⟨-2, [2, -2]⟩, .int ⟨2, [2, 4]⟩], .tup [.int ⟨-2, [2, -2]⟩, .int ⟨1, [2, 4]⟩], .tup [.int ⟨-2, [2, -2]⟩, .int ⟨0, [2, 4]⟩], .tup [.int ⟨-1, [2, -2]⟩, .int ⟨-1, [2, 4]⟩]]
def d22_1 : List SV := [.tup [.int ⟨0, [2, -2]⟩, .int ⟨-2, [2, 4]⟩], .tup [.int ⟨1, [2, -2]⟩, .int ⟨-2, [2, 4]⟩], .tup [.int ⟨2, [2, -2]⟩, .int ⟨-2, [2, 4]⟩], .tup [.int ⟨2, [2, -2]⟩, .int ⟨-1, [2, 4]⟩], .tup [.int ⟨2, [2, -2]⟩, .int ⟨0, [2, 4]⟩], .tup [.int ⟨-2, [2, -2]⟩, .int ⟨4, [2, 4]⟩], .tup [.int ⟨-1, [2, -2]⟩, .int ⟨5, [2, 4]⟩], .tup [.int ⟨-2, [2, -2]⟩, .int ⟨6, [2, 4]⟩]]
def d22_2 : List SV := [.tup [.int ⟨-3, [2, -2]⟩, .int ⟨6, [2, 4]⟩], .tup [.int ⟨-4, [2, -2]⟩, .int ⟨6, [2, 4]⟩], .tup [.int ⟨-4, [2, -2]⟩, .int ⟨5, [2, 4]⟩], .tup [.int ⟨-4, [2, -2]⟩, .int ⟨4, [2, 4]⟩], .tup [.int ⟨-3, [2, -2]⟩, .int ⟨3, [2, 4]⟩], .tup [.int ⟨0, [2, -2]⟩, .int ⟨3, [2, 4]⟩], .tup [.int ⟨0, [2, -2]⟩, .int ⟨4, [2, 4]⟩], .tup [.int ⟨2, [2, -2]⟩, .int ⟨2, [2, 4]⟩]]
def d22_3 : List SV := [.tup [.int ⟨3, [2, -2]⟩, .int ⟨3, [2, 4]⟩], .tup [.int ⟨2, [2, -2]⟩, .int ⟨4, [2, 4]⟩], .tup [.int ⟨1, [2, -2]⟩, .int ⟨4, [2, 4]⟩], .tup [.int ⟨3, [2, -2]⟩, .int ⟨0, [2, 4]⟩], .tup [.int ⟨4, [2, -2]⟩, .int ⟨0, [2, 4]⟩], .tup [.int ⟨4, [2, -2]⟩, .int ⟨1, [2, 4]⟩], .tup [.int ⟨4, [2, -2]⟩, .int ⟨2, [2, 4]⟩], .tup [.int ⟨0, [2, -2]⟩, .int ⟨6, [2, 4]⟩]]
def d22_4 : List SV := [.tup [.int ⟨1, [2, -2]⟩, .int ⟨7, [2, 4]⟩], .tup [.int ⟨0, [2, -2]⟩, .int ⟨8, [2, 4]⟩], .tup [.int ⟨-1, [2, -2]⟩, .int ⟨8, [2, 4]⟩], .tup [.int ⟨-2, [2, -2]⟩, .int ⟨8, [2, 4]⟩], .tup [.int ⟨-2, [2, -2]⟩, .int ⟨7, [2, 4]⟩], .tup [.int ⟨2, [2, -2]⟩, .int ⟨5, [2, 4]⟩], .tup [.int ⟨2, [2, -2]⟩, .int ⟨6, [2, 4]⟩]]
def d22 : List SV := d22_0 ++ (d22_1 ++ (d22_2 ++ (d22_3 ++ (d22_4))))
def e22 : List (SV × SV) := [(.tup [.int ⟨0, [2, -2]⟩, .int ⟨0, [2, 4]⟩], kk 6), (.tup [.int ⟨1, [2, -2]⟩, .int ⟨1, [2, 4]⟩], kk 4), (.tup [.int ⟨0, [2, -2]⟩, .int ⟨2, [2, 4]⟩], kk 3), (.tup [.int ⟨-1, [2, -2]⟩, .int ⟨2, [2, 4]⟩], kk 4), (.tup [.int ⟨-2, [2, -2]⟩, .int ⟨2, [2, 4]⟩], kk 2), (.tup [.int ⟨-2, [2, -2]⟩, .int ⟨1, [2, 4]⟩], kk 2), (.tup [.int ⟨-2, [2, -2]⟩, .int ⟨0, [2, 4]⟩], kk 1), (.tup [.int ⟨-1, [2, -2]⟩, .int ⟨-1, [2, 4]⟩], kk 2), (.tup [.int ⟨0, [2, -2]⟩, .int ⟨-2, [2, 4]⟩], kk 1), (.tup [.int ⟨1, [2, -2]⟩, .int ⟨-2, [2, 4]⟩], kk 2), (.tup [.int ⟨2, [2, -2]⟩, .int ⟨-2, [2, 4]⟩], kk 1), (.tup [.int ⟨2, [2, -2]⟩, .int ⟨-1, [2, 4]⟩], kk 2), (.tup [.int ⟨2, [2, -2]⟩, .int ⟨0, [2, 4]⟩], kk 2), (.tup [.int ⟨-2, [2, -2]⟩, .int ⟨4, [2, 4]⟩], kk 6), (.tup [.int ⟨-1, [2, -2]⟩, .int ⟨5, [2, 4]⟩], kk 4), (.tup [.int ⟨-2, [2, -2]⟩, .int ⟨6, [2, 4]⟩], kk 2), (.tup [.int ⟨-3, [2, -2]⟩, .int ⟨6, [2, 4]⟩], kk 2), (.tup [.int ⟨-4, [2, -2]⟩, .int ⟨6, [2, 4]⟩], kk 1), (.tup [.int ⟨-4, [2, -2]⟩, .int ⟨5, [2, 4]⟩], kk 2), (.tup [.int ⟨-4, [2, -2]⟩, .int ⟨4, [2, 4]⟩], kk 1), (.tup [.int ⟨-3, [2, -2]⟩, .int ⟨3, [2, 4]⟩], kk 2), (.tup [.int ⟨0, [2, -2]⟩, .int ⟨3, [2, 4]⟩], kk 4), (.tup [.int ⟨0, [2, -2]⟩, .int ⟨4, [2, 4]⟩], kk 3), (.tup [.int ⟨2, [2, -2]⟩, .int ⟨2, [2, 4]⟩], kk 6), (.tup [.int ⟨3, [2, -2]⟩, .int ⟨3, [2, 4]⟩], kk 2), (.tup [.int ⟨2, [2, -2]⟩, .int ⟨4, [2, 4]⟩], kk 2), (.tup [.int ⟨1, [2, -2]⟩, .int ⟨4, [2, 4]⟩], kk 4), (.tup [.int ⟨3, [2, -2]⟩, .int ⟨0, [2, 4]⟩], kk 2), (.tup [.int ⟨4, [2, -2]⟩, .int ⟨0, [2, 4]⟩], kk 1), (.tup [.int ⟨4, [2, -2]⟩, .int ⟨1, [2, 4]⟩], kk 2), (.tup [.int ⟨4, [2, -2]⟩, .int ⟨2, [2, 4]⟩], kk 1), (.tup [.int ⟨0, [2, -2]⟩, .int ⟨6, [2, 4]⟩], kk 6), (.tup [.int ⟨1, [2, -2]⟩, .int ⟨7, [2, 4]⟩], kk 2), (.tup [.int ⟨0, [2, -2]⟩, .int ⟨8, [2, 4]⟩], kk 1), (.tup [.int ⟨-1, [2, -2]⟩, .int ⟨8, [2, 4]⟩], kk 2), (.tup [.int ⟨-2, [2, -2]⟩, .int ⟨8, [2, 4]⟩], kk 1), (.tup [.int ⟨-2, [2, -2]⟩, .int ⟨7, [2, 4]⟩], kk 2), (.tup [.int ⟨2, [2, -2]⟩, .int ⟨5, [2, 4]⟩], kk 2), (.tup [.int ⟨2, [2, -2]⟩, .int ⟨6, [2, 4]⟩], kk 1)]
theorem p22 : chkP 2 2 k22 e22 = true := by kernel_rfl
theorem v22 : chkV k22 e22 d22 = true := by kernel_rfl
theorem q22_0 : chkD k22 e22 d22_0 = true := by kernel_rfl
theorem q22_1 : chkD k22 e22 d22_1 = true := by kernel_rfl
theorem q22_2 : chkD k22 e22 d22_2 = true := by kernel_rfl
theorem q22_3 : chkD k22 e22 d22_3 = true := by kernel_rfl
theorem q22_4 : chkD k22 e22 d22_4 = true := by kernel_rfl
theorem a22 : ∀ d ∈ d22, chkI bL sK CL 1000 gD bD st1 (h1 k22 e22 true) [0, 1] d = true := all_ap (all_in q22_0) (all_ap (all_in q22_1) (all_ap (all_in q22_2) (all_ap (all_in q22_3) (all_in q22_4))))
def k23 : List SV := [.tup [.int ⟨0, [1]⟩, .int ⟨0, [0, 1]⟩, .int ⟨0, []⟩], .tup [.int ⟨0, [1]⟩, .int ⟨0, [0, 1]⟩, .int ⟨1, []⟩], .tup [.int ⟨0, [1]⟩, .int ⟨0, [0, 1]⟩, .int ⟨2, []⟩], .tup [.int ⟨0, [1]⟩, .int ⟨0, [0, 1]⟩, .int ⟨3, []⟩], .tup [.int ⟨0, [1]⟩, .int ⟨0, [0, 1]⟩, .int ⟨4, []⟩], .tup [.int ⟨0, [1]⟩, .int ⟨0, [0, 1]⟩, .int ⟨5, []⟩], .tup [.int ⟨0, [1]⟩, .int ⟨1, [0, 1]⟩, .int ⟨0, []⟩], .tup [.int ⟨0, [1]⟩, .int ⟨1, [0, 1]⟩, .int ⟨1, []⟩], .tup [.int ⟨0, [1]⟩, .int ⟨1, [0, 1]⟩, .int ⟨2, []⟩], .tup [.int ⟨0, [1]⟩, .int ⟨1, [0, 1]⟩, .int ⟨3, []⟩], .tup [.int ⟨0, [1]⟩, .int ⟨1, [0, 1]⟩, .int ⟨4, []⟩], .tup [.int ⟨0, [1]⟩, .int ⟨1, [0, 1]⟩, .int ⟨5, []⟩], .tup [.int ⟨0, [1]⟩, .int ⟨2, [0, 1]⟩, .int ⟨0, []⟩], .tup [.int ⟨0, [1]⟩, .int ⟨2, [0, 1]⟩, .int ⟨1, []⟩], .tup [.int ⟨0, [1]⟩, .int ⟨2, [0, 1]⟩, .int ⟨2, []⟩], .tup [.int ⟨0, [1]⟩, .int ⟨2, [0, 1]⟩, .int ⟨3, []⟩], .tup [.int ⟨0, [1]⟩, .int ⟨2, [0, 1]⟩, .int ⟨4, []⟩], .tup [.int ⟨0, [1]⟩, .int ⟨2, [0, 1]⟩, .int ⟨5, []⟩], .tup [.int ⟨1, [1]⟩, .int ⟨0, [0, 1]⟩, .int ⟨0, []⟩], .tup [.int ⟨1, [1]⟩, .int ⟨0, [0, 1]⟩, .int ⟨1, []⟩], .tup [.int ⟨1, [1]⟩, .int ⟨0, [0, 1]⟩, .int ⟨2, []⟩], .tup [.int ⟨1, [1]⟩, .int ⟨0, [0, 1]⟩, .int ⟨3, []⟩], .tup [.int ⟨1, [1]⟩, .int ⟨0, [0, 1]⟩, .int ⟨4, []⟩], .tup [.int ⟨1, [1]⟩, .int ⟨0, [0, 1]⟩, .int ⟨5, []⟩], .tup [.int ⟨1, [1]⟩, .int ⟨1, [0, 1]⟩, .int ⟨0, []⟩], .tup [.int ⟨1, [1]⟩, .int ⟨1, [0, 1]⟩, .int ⟨1, []⟩], .tup [.int ⟨1, [1]⟩, .int ⟨1, [0, 1]⟩, .int ⟨2, []⟩], .tup [.int ⟨1, [1]⟩, .int ⟨1, [0, 1]⟩, .int ⟨3, []⟩], .tup [.int ⟨1, [1]⟩, .int ⟨1, [0, 1]⟩, .int ⟨4, []⟩], .tup [.int ⟨1, [1]⟩, .int ⟨1, [0, 1]⟩, .int ⟨5, []⟩], .tup [.int ⟨1, [1]⟩, .int ⟨2, [0, 1]⟩, .int ⟨0, []⟩], .tup [.int ⟨1, [1]⟩, .int ⟨2, [0, 1]⟩, .int ⟨1, []⟩], .tup [.int ⟨1, [1]⟩, .int ⟨2, [0, 1]⟩, .int ⟨2, []⟩], .tup [.int ⟨1, [1]⟩, .int ⟨2, [0, 1]⟩, .int ⟨3, []⟩], .tup [.int ⟨1, [1]⟩, .int ⟨2, [0, 1]⟩, .int ⟨4, []⟩], .tup [.int ⟨1, [1]⟩, .int ⟨2, [0, 1]⟩, .int ⟨5, []⟩]]
def d23_0 : List SV := [.tup [.int ⟨0, [2, -2]⟩, .int ⟨0, [2, 4]⟩], .tup [.int ⟨1, [2, -2]⟩, .int ⟨1, [2, 4]⟩], .tup [.int ⟨0, [2, -2]⟩, .int ⟨2, [2, 4]⟩], .tup [.int ⟨-1, [2, -2]⟩, .int ⟨2, [2, 4]⟩], .tup [.int ⟨-2, [2, -2]⟩, .int ⟨2, [2, 4]⟩], .tup [.int ⟨-2, [2, -2]⟩, .int ⟨1, [2, 4]⟩], .tup [.int ⟨-2, [2, -2]⟩, .int ⟨0, [2, 4]⟩], .tup [.int ⟨-1, [2, -2]⟩, .int ⟨-1, [2, 4]⟩]]
def d23_1 : List SV := [.tup [.int ⟨0, [2, -2]⟩, .int ⟨-2, [2, 4]⟩], .tup [.int ⟨1, [2, -2]⟩, .int ⟨-2, [2, 4]⟩], .tup [.int ⟨2, [2, -2]⟩, .int ⟨-2, [2, 4]⟩], .tup [.int ⟨2, [2, -2]⟩, .int ⟨-1, [2, 4]⟩], .tup [.int ⟨2, [2, -2]⟩, .int ⟨0, [2, 4]⟩], .tup [.int ⟨-2, [2, -2]⟩, .int ⟨4, [2, 4]⟩], .tup [.int ⟨-1, [2, -2]⟩, .int ⟨5, [2, 4]⟩], .tup [.int ⟨-2, [2, -2]⟩, .int ⟨6, [2, 4]⟩]]
def d23_2 : List SV := [.tup [.int ⟨-3, [2, -2]⟩, .int ⟨6, [2, 4]⟩], .tup [.int ⟨-4, [2, -2]⟩, .int ⟨6, [2, 4]⟩], .tup [.int ⟨-4, [2, -2]⟩, .int ⟨5, [2, 4]⟩], .tup [.int ⟨-4, [2, -2]⟩, .int ⟨4, [2, 4]⟩], .tup [.int ⟨-3, [2, -2]⟩, .int ⟨3, [2, 4]⟩], .tup [.int ⟨0, [2, -2]⟩, .int ⟨3, [2, 4]⟩], .tup [.int ⟨0, [2, -2]⟩, .int ⟨4, [2, 4]⟩], .tup [.int ⟨-4, [2, -2]⟩, .int ⟨8, [2, 4]⟩]]
def d23_3 : List SV := [.tup [.int ⟨-3, [2, -2]⟩, .int ⟨9, [2, 4]⟩], .tup [.int ⟨-4, [2, -2]⟩, .int ⟨10, [2, 4]⟩], .tup [.int ⟨-5, [2, -2]⟩, .int ⟨10, [2, 4]⟩], .tup [.int ⟨-6, [2, -2]⟩, .int ⟨10, [2, 4]⟩], .tup [.int ⟨-6, [2, -2]⟩, .int ⟨9, [2, 4]⟩], .tup [.int ⟨-6, [2, -2]⟩, .int ⟨8, [2, 4]⟩], .tup [.int ⟨-5, [2, -2]⟩, .int ⟨7, [2, 4]⟩], .tup [.int ⟨-2, [2, -2]⟩, .int ⟨7, [2, 4]⟩]]
def d23_4 : List SV := [.tup [.int ⟨-2, [2, -2]⟩, .int ⟨8, [2, 4]⟩], .tup [.int ⟨2, [2, -2]⟩, .int ⟨2, [2, 4]⟩], .tup [.int ⟨3, [2, -2]⟩, .int ⟨3, [2, 4]⟩], .tup [.int ⟨2, [2, -2]⟩, .int ⟨4, [2, 4]⟩], .tup [.int ⟨1, [2, -2]⟩, .int ⟨4, [2, 4]⟩], .tup [.int ⟨3, [2, -2]⟩, .int ⟨0, [2, 4]⟩], .tup [.int ⟨4, [2, -2]⟩, .int ⟨0, [2, 4]⟩], .tup [.int ⟨4, [2, -2]⟩, .int ⟨1, [2, 4]⟩]]
def d23_5 : List SV := [.tup [.int ⟨4, [2, -2]⟩, .int ⟨2, [2, 4]⟩], .tup [.int ⟨0, [2, -2]⟩, .int ⟨6, [2, 4]⟩], .tup [.int ⟨1, [2, -2]⟩, .int ⟨7, [2, 4]⟩], .tup [.int ⟨0, [2, -2]⟩, .int ⟨8, [2, 4]⟩], .tup [.int ⟨-1, [2, -2]⟩, .int ⟨8, [2, 4]⟩], .tup [.int ⟨2, [2, -2]⟩, .int ⟨5, [2, 4]⟩], .tup [.int ⟨2, [2, -2]⟩, .int ⟨6, [2, 4]⟩], .tup [.int ⟨-2, [2, -2]⟩, .int ⟨10, [2, 4]⟩]]
def d23_6 : List SV := [.tup [.int ⟨-1, [2, -2]⟩, .int ⟨11, [2, 4]⟩], .tup [.int ⟨-2, [2, -2]⟩, .int ⟨12, [2, 4]⟩], .tup [.int ⟨-3, [2, -2]⟩, .int ⟨12, [2, 4]⟩], .tup [.int ⟨-4, [2, -2]⟩, .int ⟨12, [2, 4]⟩], .tup [.int ⟨-4, [2, -2]⟩, .int ⟨11, [2, 4]⟩], .tup [.int ⟨0, [2, -2]⟩, .int ⟨9, [2, 4]⟩], .tup [.int ⟨0, [2, -2]⟩, .int ⟨10, [2, 4]⟩]]
def d23 : List SV := d23_0 ++ (d23_1 ++ (d23_2 ++ (d23_3 ++ (d23_4 ++ (d23_5 ++ (d23_6))))))
def e23 : List (SV × SV) := [(.tup [.int ⟨0, [2, -2]⟩, .int ⟨0, [2, 4]⟩], kk 6), (.tup [.int ⟨1, [2, -2]⟩, .int ⟨1, [2, 4]⟩], kk 4), (.tup [.int ⟨0, [2, -2]⟩, .int ⟨2, [2, 4]⟩], kk 3), (.tup [.int ⟨-1, [2, -2]⟩, .int ⟨2, [2, 4]⟩], kk 4), (.tup [.int ⟨-2, [2, -2]⟩, .int ⟨2, [2, 4]⟩], kk 2), (.tup [.int ⟨-2, [2, -2]⟩, .int ⟨1, [2, 4]⟩], kk 2), (.tup [.int ⟨-2, [2, -2]⟩, .int ⟨0, [2, 4]⟩], kk 1), (.tup [.int ⟨-1, [2, -2]⟩, .int ⟨-1, [2, 4]⟩], kk 2), (.tup [.int ⟨0, [2, -2]⟩, .int ⟨-2, [2, 4]⟩], kk 1), (.tup [.int ⟨1, [2, -2]⟩, .int ⟨-2, [2, 4]⟩], kk 2), (.tup [.int ⟨2, [2, -2]⟩, .int ⟨-2, [2, 4]⟩], kk 1), (.tup [.int ⟨2, [2, -2]⟩, .int ⟨-1, [2, 4]⟩], kk 2), (.tup [.int ⟨2, [2, -2]⟩, .int ⟨0, [2, 4]⟩], kk 2), (.tup [.int ⟨-2, [2, -2]⟩, .int ⟨4, [2, 4]⟩], kk 6), (.tup [.int ⟨-1, [2, -2]⟩, .int ⟨5, [2, 4]⟩], kk 4), (.tup [.int ⟨-2, [2, -2]⟩, .int ⟨6, [2, 4]⟩], kk 3), (.tup [.int ⟨-3, [2, -2]⟩, .int ⟨6, [2, 4]⟩], kk 4), (.tup [.int ⟨-4, [2, -2]⟩, .int ⟨6, [2, 4]⟩], kk 2), (.tup [.int ⟨-4, [2, -2]⟩, .int ⟨5, [2, 4]⟩], kk 2), (.tup [.int ⟨-4, [2, -2]⟩, .int ⟨4, [2, 4]⟩], kk 1), (.tup [.int ⟨-3, [2, -2]⟩, .int ⟨3, [2, 4]⟩], kk 2), (.tup [.int ⟨0, [2, -2]⟩, .int ⟨3, [2, 4]⟩], kk 4), (.tup [.int ⟨0, [2, -2]⟩, .int ⟨4, [2, 4]⟩], kk 3), (.tup [.int ⟨-4, [2, -2]⟩, .int ⟨8, [2, 4]⟩], kk 6), (.tup [.int ⟨-3, [2, -2]⟩, .int ⟨9, [2, 4]⟩], kk 4), (.tup [.int ⟨-4, [2, -2]⟩, .int ⟨10, [2, 4]⟩], kk 2), (.tup [.int ⟨-5, [2, -2]⟩, .int ⟨10, [2, 4]⟩], kk 2), (.tup [.int ⟨-6, [2, -2]⟩, .int ⟨10, [2, 4]⟩], kk 1), (.tup [.int ⟨-6, [2, -2]⟩, .int ⟨9, [2, 4]⟩], kk 2), (.tup [.int ⟨-6, [2, -2]⟩, .int ⟨8, [2, 4]⟩], kk 1), (.tup [.int ⟨-5, [2, -2]⟩, .int ⟨7, [2, 4]⟩], kk 2), (.tup [.int ⟨-2, [2, -2]⟩, .int ⟨7, [2, 4]⟩], kk 4), (.tup [.int ⟨-2, [2, -2]⟩, .int ⟨8, [2, 4]⟩], kk 3), (.tup [.int ⟨2, [2, -2]⟩, .int ⟨2, [2, 4]⟩], kk 6), (.tup [.int ⟨3, [2, -2]⟩, .int ⟨3, [2, 4]⟩], kk 2), (.tup [.int ⟨2, [2, -2]⟩, .int ⟨4, [2, 4]⟩], kk 2), (.tup [.int ⟨1, [2, -2]⟩, .int ⟨4, [2, 4]⟩], kk 4), (.tup [.int ⟨3, [2, -2]⟩, .int ⟨0, [2, 4]⟩], kk 2), (.tup [.int ⟨4, [2, -2]⟩, .int ⟨0, [2, 4]⟩], kk 1), (.tup [.int ⟨4, [2, -2]⟩, .int ⟨1, [2, 4]⟩], kk 2), (.tup [.int ⟨4, [2, -2]⟩, .int ⟨2, [2, 4]⟩], kk 1), (.tup [.int ⟨0, [2, -2]⟩, .int ⟨6, [2, 4]⟩], kk 6), (.tup [.int ⟨1, [2, -2]⟩, .int ⟨7, [2, 4]⟩], kk 2), (.tup [.int ⟨0, [2, -2]⟩, .int ⟨8, [2, 4]⟩], kk 2), (.tup [.int ⟨-1, [2, -2]⟩, .int ⟨8, [2, 4]⟩], kk 4), (.tup [.int ⟨2, [2, -2]⟩, .int ⟨5, [2, 4]⟩], kk 2), (.tup [.int ⟨2, [2, -2]⟩, .int ⟨6, [2, 4]⟩], kk 1), (.tup [.int ⟨-2, [2, -2]⟩, .int ⟨10, [2, 4]⟩], kk 6), (.tup [.int ⟨-1, [2, -2]⟩, .int ⟨11, [2, 4]⟩], kk 2), (.tup [.int ⟨-2, [2, -2]⟩, .int ⟨12, [2, 4]⟩], kk 1), (.tup [.int ⟨-3, [2, -2]⟩, .int ⟨12, [2, 4]⟩], kk 2), (.tup [.int ⟨-4, [2, -2]⟩, .int ⟨12, [2, 4]⟩], kk 1), (.tup [.int ⟨-4, [2, -2]⟩, .int ⟨11, [2, 4]⟩], kk 2), (.tup [.int ⟨0, [2, -2]⟩, .int ⟨9, [2, 4]⟩], kk 2), (.tup [.int ⟨0, [2, -2]⟩, .int ⟨10, [2, 4]⟩], kk 1)]
theorem p23 : chkP 2 3 k23 e23 = true := by kernel_rfl
theorem v23 : chkV k23 e23 d23 = true := by kernel_rfl
theorem q23_0 : chkD k23 e23 d23_0 = true := by kernel_rfl
theorem q23_1 : chkD k23 e23 d23_1 = true := by kernel_rfl
theorem q23_2 : chkD k23 e23 d23_2 = true := by kernel_rfl
theorem q23_3 : chkD k23 e23 d23_3 = true := by kernel_rfl
theorem q23_4 : chkD k23 e23 d23_4 = true := by kernel_rfl
theorem q23_5 : chkD k23 e23 d23_5 = true := by kernel_rfl
theorem q23_6 : chkD k23 e23 d23_6 = true := by kernel_rfl
theorem a23 : ∀ d ∈ d23, chkI bL sK CL 1000 gD bD st1 (h1 k23 e23 true) [0, 1] d = true := all_ap (all_in q23_0) (all_ap (all_in q23_1) (all_ap (all_in q23_2) (all_ap (all_in q23_3) (all_ap (all_in q23_4) (all_ap (all_in q23_5) (all_in q23_6))))))
end EM.k63
end
section
set_option Elab.async false
set_option linter.all false
set_option maxRecDepth 100000
set_option maxHeartbeats 0
/-! K63L: k63, put together. -/
namespace EM.k63
open PySem
theorem drawC {h : EH} {r q : Nat} {ms : List Int} {a c x many : Int} (s : Strm h r q ms a c x) (hl : ms.length ≤ 63) (hn : h.n ≤ 1000000) (m0 : 0 < many) (m1 : many < 1073741824) (c0 : 0 ≤ c) (c1 : c < 1000000) :
    ∃ v h' ms' a' x', scall tS 1000 29 20 [.ref r, .int many] h = .ok (.int v) h' ∧ 0 ≤ v ∧ v < many ∧ Strm h' r q ms' a' (c + 1) x' ∧ ms'.length ≤ 63 ∧ h'.n ≤ h.n + 64 := by
  obtain ⟨v, h', ms', a', x', e, v0, v1, s', l, k⟩ := draw_ok (F := 1000) (many := many) s (by omega) (by omega) m0 m1 c0 c1
  exact ⟨v, h', ms', a', x', e, v0, v1, s', by omega, by have := k.few; omega⟩
theorem strmC (ns : List Int) : ∃ h' r q, scall tS 1000 29 19 [.kl (ns.map .int)] EH.emp = .ok (.ref r) h' ∧ Strm h' r q ns 0 0 17 ∧ h'.n = 2 := by
  obtain ⟨h', r, q, e, s, _, _, n, _⟩ := strm_ok (ns := ns) (h := EH.emp) (by decide)
  exact ⟨h', r, q, e, s, n⟩
abbrev CC : Nat → List EV → EH → R EV := fun k vs h => scall tS 1000 29 k vs h
theorem env {s : List Int} (hB : Bnd s bL) : Env2 s bL sK Kc CL CC := ⟨hB, fun k v e => by obtain ⟨w, h1, h2⟩ := hK k v e; exact ⟨w, h1, h2 s⟩,
  fun k ρ hs hc vs ws m r => zcall_ok hB (fun k v e => by obtain ⟨w, h1, h2⟩ := hK k v e; exact ⟨w, h1, h2 s⟩) tab (orc_ok hB L2_ok) 29 k ρ hs hc vs ws m r⟩
theorem fin {w h : Int} {kites : List SV} {dots : List (SV × SV)} {ks : List SV} (p : chkP w h kites dots = true) (v : chkV kites dots ks = true) (a : ∀ d ∈ ks, chkI bL sK CL 1000 gD bD st1 (h1 kites dots true) [0, 1] d = true) (hl : ks.length ≤ 100)
    {s : List Int} (hB : Bnd s bL) {τ : Sg} {hc : EH} (st : St s (st0 w h) h0 τ hc) (hn : hc.n ≤ 1000000) : ∃ hc', exs Kc CC 1000 (apS pA (.cons (.for_ gD iD bD) pR)) τ hc = .ok (.rt (.bl true)) hc' := by
  have z := env hB
  obtain ⟨τ1, hc1, e1, st1, n1⟩ := chkC_ok (h2 := h1 kites dots false) z p rfl (show (400000000 : Nat) ≤ 1000000000 by decide) st (show hc.n + 10000000 ≤ 400000000 by omega)
  rw [exs_ap e1]
  unfold chkV at v
  split at v
  · rename_i ew
    obtain ⟨τ2, hc2, e2, st2⟩ := loop_ok (h2 := h1 kites dots true) z rfl (show (400000000 : Nat) ≤ 1000000000 by decide) (by omega) ew a st1 (show hc1.n + 1000000 * (ks.length + 1) ≤ 400000000 by omega)
    obtain ⟨hc3, e3⟩ := chkT_ok z v st2
    exact ⟨hc3, (sq_k e2).trans e3⟩
  · cases v
theorem start {a b w h : Int} {k : List EV} {r : Nat} {hc : EH} (hn : hc.n ≤ 1000000) : St [a, b] (st0 w h) h0 [some (.kl k), some (.ref r), none, none, none, some (.int a), some (.int b), some (.int w), some (.int h), none, none, none, none, none, none, none, none, none, none, none, none] hc := by
  refine ⟨fun _ => 0, ⟨fun i j hi => absurd hi (Nat.not_lt_zero i), fun i hi => absurd hi (Nat.not_lt_zero i), Nat.zero_le _, by show _ ≤ 400000000; omega, by show 400000000 ≤ _; omega⟩, ?_⟩
  refine .no <| .no <| .no <| .no <| .no <| .so (.int ?_) <| .so (.int ?_) <| .so (.int ?_) <| .so (.int ?_) <| .no <| .no <| .no <| .no <| .no <| .no <| .no <| .no <| .no <| .no <| .no <| .no .nil
  · simp [AI.val, dotL]
  · simp [AI.val, dotL]
  · simp [AI.val, dotL]
  · simp [AI.val, dotL]
theorem callD {τ : Sg} {h : EH} {r : Nat} {n : Int} (e : sget τ 1 = some (.ref r)) : ev Kc CC 1000 (.call 20 "_law_draw" (.cons false (.var 1 "stream") (.cons false (.cI n) .nil))) τ h = CC 20 [.ref r, .int n] h := by
  have e1 : mCons (mVar 1) (mCons (mC (.int n)) (mC [])) τ h = .ok [.ref r, .int n] h := by
    unfold mCons mVar
    rw [e]
    rfl
  show (mCons (mVar 1) (mCons (mC (.int n)) (mC [])) τ h).bind (CC 20) = _
  rw [e1]
  rfl
theorem pair_k {τ τ' : Sg} {h h1 h2 : EH} {x y : EV} {a b : M EV} {is : List Nat} (ea : a τ h = .ok x h1) (eb : b τ h1 = .ok y h2) (e : psets is [x, y] τ = some τ') : sPar is (mCons a (mCons b (mC []))) τ h = .ok (.nx τ') h2 := by
  unfold sPar mCons
  rw [ea]
  show ((((b τ h1).bind fun v h => .ok [v] h).bind fun vs h => .ok (x :: vs) h)).bind _ = _
  rw [eb]
  show (match psets is [x, y] τ with | some σ => R.ok (Fl.nx σ) h2 | none => .bad) = _
  rw [e]
theorem pure_ (ns : List Int) (hl : ns.length ≤ 63) : ∃ h, scall tS 1000 30 27 [.kl (ns.map .int)] EH.emp = .ok (.bl true) h := by
  obtain ⟨h1, r, q, e1, s1, n1⟩ := strmC ns
  obtain ⟨v1, h2, ms2, a2, x2, e2, v10, v11, s2, l2, n2⟩ := drawC (many := 40) s1 hl (by omega) (by decide) (by decide) (by decide) (by decide)
  obtain ⟨v2, h3, ms3, a3, x3, e3, v20, v21, s3, l3, n3⟩ := drawC (many := 40) s2 l2 (by omega) (by decide) (by decide) (by decide) (by decide)
  obtain ⟨v3, h4, ms4, a4, x4, e4, v30, v31, s4, l4, n4⟩ := drawC (many := 2) s3 l3 (by omega) (by decide) (by decide) (by decide) (by decide)
  obtain ⟨v4, h5, ms5, a5, x5, e5, v40, v41, s5, l5, n5⟩ := drawC (many := 3) s4 l4 (by omega) (by decide) (by decide) (by decide) (by decide)
  have k1 : ex Kc CC 1000 xA [some (.kl (ns.map .int)), none, none, none, none, none, none, none, none, none, none, none, none, none, none, none, none, none, none, none, none] EH.emp = .ok (.nx [some (.kl (ns.map .int)), some (.ref r), none, none, none, none, none, none, none, none, none, none, none, none, none, none, none, none, none, none, none]) h1 :=
    nm_k (a := ev Kc CC 1000 (.call 19 "_law_stream" (.cons false (.var 0 "script") .nil))) (show (mCons (mVar 0) (mC []) [some (.kl (ns.map .int)), none, none, none, none, none, none, none, none, none, none, none, none, none, none, none, none, none, none, none, none] EH.emp).bind (CC 19) = _ from e1)
  have k2 : ex Kc CC 1000 xB [some (.kl (ns.map .int)), some (.ref r), none, none, none, none, none, none, none, none, none, none, none, none, none, none, none, none, none, none, none] h1 = .ok (.nx [some (.kl (ns.map .int)), some (.ref r), none, none, none, some (.int (v1 - 20)), some (.int (v2 - 20)), none, none, none, none, none, none, none, none, none, none, none, none, none, none]) h3 :=
    pair_k (is := [5, 6]) ((bin_k ((callD rfl).trans e2) rfl).trans sub_int) ((bin_k ((callD rfl).trans e3) rfl).trans sub_int) rfl
  have k3 : ex Kc CC 1000 xC [some (.kl (ns.map .int)), some (.ref r), none, none, none, some (.int (v1 - 20)), some (.int (v2 - 20)), none, none, none, none, none, none, none, none, none, none, none, none, none, none] h3 = .ok (.nx [some (.kl (ns.map .int)), some (.ref r), none, none, none, some (.int (v1 - 20)), some (.int (v2 - 20)), some (.int (1 + v3)), some (.int (1 + v4)), none, none, none, none, none, none, none, none, none, none, none, none]) h5 :=
    pair_k (is := [7, 8]) ((bin_k rfl ((callD rfl).trans e4)).trans add_int) ((bin_k rfl ((callD rfl).trans e5)).trans add_int) rfl
  have hB : Bnd [v1 - 20, v2 - 20] bL := .cons (by show -20 ≤ _; omega) (by show _ ≤ 19; omega) (.cons (by show -20 ≤ _; omega) (by show _ ≤ 19; omega) .nil)
  have key : ∃ hc', exs Kc CC 1000 (apS pA (.cons (.for_ gD iD bD) pR)) [some (.kl (ns.map .int)), some (.ref r), none, none, none, some (.int (v1 - 20)), some (.int (v2 - 20)), some (.int (1 + v3)), some (.int (1 + v4)), none, none, none, none, none, none, none, none, none, none, none, none] h5 = .ok (.rt (.bl true)) hc' := by
    have st := start (a := v1 - 20) (b := v2 - 20) (w := 1 + v3) (h := 1 + v4) (k := ns.map .int) (r := r) (hc := h5) (by omega)
    rcases (by omega : v3 = 0 ∨ v3 = 1) with rfl | rfl <;> rcases (by omega : v4 = 0 ∨ v4 = 1 ∨ v4 = 2) with rfl | rfl | rfl
    · exact fin p11 (EM.k63.v11) a11 (by decide) hB st (by omega)
    · exact fin p12 v12 a12 (by decide) hB st (by omega)
    · exact fin p13 v13 a13 (by decide) hB st (by omega)
    · exact fin p21 (EM.k63.v21) a21 (by decide) hB st (by omega)
    · exact fin p22 v22 a22 (by decide) hB st (by omega)
    · exact fin p23 v23 a23 (by decide) hB st (by omega)
  obtain ⟨hc', ek⟩ := key
  refine ⟨hc', ?_⟩
  show (s_law 1000 CC (sgOf 21 [.kl (ns.map .int)]) EH.emp).bind retFl = _
  rw [(cd_law 1000 CC).trans (congrArg (exs (cstAt tCst) CC 1000) (ce_law.trans law_is))]
  have e : exs (cstAt tCst) CC 1000 (.cons xA (.cons xB (.cons xC (apS pA (.cons (.for_ gD iD bD) pR))))) (sgOf 21 [.kl (ns.map .int)]) EH.emp = .ok (.rt (.bl true)) hc' := (sq_k k1).trans ((sq_k k2).trans ((sq_k k3).trans ek))
  rw [e]
  rfl
end EM.k63
theorem k63_all : PySem.Challenge.rw_onehat_k63_whole_a_patch_of_the_grid.Holds := EM.k63.final 1000 (by decide) EM.k63.pure_
end
theorem PySem.Challenge.cw_onehat_k63_whole_a_patch_of_the_grid_holds : PySem.Challenge.rw_onehat_k63_whole_a_patch_of_the_grid.Holds := by
  exact k63_all
