import PyProof.Rows.All
import Wide.All
import OpenK.AllK
import Wide.FinOn
import HandS.ForMost
import HandS.Exc
import HandS.ExcOwn
import HandS.WordsExc
import HandS.TryOnly
import HandS.Wide
import HandS.StrMore
import HandS.Replace
import HandS.TupAny
import HandS.TupMul
import HandS.IsInst
import HandS.Walk
import HandS.Conv
import HandS.Defaults
import HandS.SetFor
import HandS.Style
import HandS.WrittenGet
import HandS.HeadHook3
import HandS.EndBits
import KE.DatumOrd
import KE.GoesZip
import KE.GoesMore
import HandS.Zip
import HandS.ReplaceLit
import PyProof.Rows.StrStrike
import KE.KStateDown
import HandS.Head0
import HandS.Head1
import HandS.Head2
import HandS.HeadEnd
import HandS.HeadHook1
import HandS.HeadHook2
import PySem.Challenge.RW_editheart_k27_whole_there_and_back
set_option Elab.async false
set_option linter.all false
/-! part EvCore -/
/-! A small machine over plain data: values (tuples and finished lists by value, what is changed by number), what stands in memory, a program's text by slots, and its run. -/
namespace Ev

inductive D where
  | non | bl (b : Bool) | int (i : Int) | str (x : List Nat) | tup (xs : List D) | lst (xs : List D) | ref (n : Nat) | scr (xs : List Int)
  deriving Inhabited

mutual
def D.deq : (a b : D) → Decidable (a = b)
  | .non, b => by cases b <;> first | exact isTrue rfl | exact isFalse (fun h => nomatch h)
  | .bl x, b => by
    cases b with
    | bl y => exact if h : x = y then isTrue (by rw [h]) else isFalse (fun e => h (D.bl.inj e))
    | _ => exact isFalse (fun h => nomatch h)
  | .int x, b => by
    cases b with
    | int y => exact if h : x = y then isTrue (by rw [h]) else isFalse (fun e => h (D.int.inj e))
    | _ => exact isFalse (fun h => nomatch h)
  | .str x, b => by
    cases b with
    | str y => exact if h : x = y then isTrue (by rw [h]) else isFalse (fun e => h (D.str.inj e))
    | _ => exact isFalse (fun h => nomatch h)
  | .tup x, b => by
    cases b with
    | tup y => exact match D.deqs x y with
      | isTrue h => isTrue (by rw [h])
      | isFalse h => isFalse (fun e => h (D.tup.inj e))
    | _ => exact isFalse (fun h => nomatch h)
  | .lst x, b => by
    cases b with
    | lst y => exact match D.deqs x y with
      | isTrue h => isTrue (by rw [h])
      | isFalse h => isFalse (fun e => h (D.lst.inj e))
    | _ => exact isFalse (fun h => nomatch h)
  | .ref x, b => by
    cases b with
    | ref y => exact if h : x = y then isTrue (by rw [h]) else isFalse (fun e => h (D.ref.inj e))
    | _ => exact isFalse (fun h => nomatch h)
  | .scr x, b => by
    cases b with
    | scr y => exact if h : x = y then isTrue (by rw [h]) else isFalse (fun e => h (D.scr.inj e))
    | _ => exact isFalse (fun h => nomatch h)
def D.deqs : (a b : List D) → Decidable (a = b)
  | [], [] => isTrue rfl
  | [], _ :: _ => isFalse (fun h => nomatch h)
  | _ :: _, [] => isFalse (fun h => nomatch h)
  | x :: xs, y :: ys => match D.deq x y, D.deqs xs ys with
    | isTrue h, isTrue k => isTrue (by rw [h, k])
    | isFalse h, _ => isFalse (fun e => h (List.cons.inj e).1)
    | _, isFalse h => isFalse (fun e => h (List.cons.inj e).2)
end
instance : DecidableEq D := D.deq

/-- what is changed: a list, a dict with text keys (fdc: one that is walked, not to be changed), an instance of class c with its attributes by number -/
inductive O where
  | lst (xs : List D) | dct (kvs : List (List Nat × D)) | fdc (kvs : List (List Nat × D)) | ins (c : Nat) (fs : List (Nat × D))
  deriving Inhabited, DecidableEq

structure Hs where
  o : Nat → Option O
  n : Nat

def Hs.nil : Hs := ⟨fun _ => none, 0⟩
def Hs.new (h : Hs) (x : O) : Hs := ⟨fun k => if k = h.n then some x else h.o k, h.n + 1⟩
def Hs.del (h : Hs) (k : Nat) : Hs := ⟨fun j => if j = k then none else h.o j, h.n⟩
def Hs.put (h : Hs) (k : Nat) (x : O) : Hs := ⟨fun j => if j = k then some x else h.o j, h.n⟩

inductive R (α : Type) where
  | ok (a : α) (h : Hs) | exc (c : Nat) (h : Hs) | stk

def R.bind {α β : Type} (x : R α) (f : α → Hs → R β) : R β := match x with
  | .ok a h => f a h
  | .exc c h => .exc c h
  | .stk => .stk

inductive BOp where
  | add | sub | mul | mod | fdv
  deriving DecidableEq
inductive COp where
  | eq | ne | lt | le | gt | ge | mem | nme
  deriving DecidableEq
inductive Ty where
  | int | bool | str | tup
  deriving DecidableEq
/-- built-in functions -/
inductive Bl where
  | len | min | max | sum | all | abs | int | sorted | list | tuple | dict | sortedItems | listRange
  deriving DecidableEq
/-- methods of built-in classes -/
inductive Bm where
  | append | extend | pop | insert | count | index | find | rfind | join | split | replace | upper | lower | lstrip | get | update
  deriving DecidableEq
inductive Tg where
  | nm (i : Nat) | tp (is : List Nat)
  deriving DecidableEq

/-- what is walked: a sequence; range(a); range(a, b); enumerate(a); zip(a, b); a dict's keys -/
inductive Ik where
  | val | rng1 | rng2 | enm | zip | keys
  deriving DecidableEq
mutual
inductive E where
  | var (i : Nat) | con (g : Nat) | lit (d : D)
  | bin (op : BOp) (a b : E) | neg (a : E) | not (a : E) | and (a b : E) | or (a b : E)
  | cmp (op : COp) (a b : E) | chn (p q : COp) (a b c : E) | isn (a : E) | ntn (a : E)
  | ife (c a b : E)
  | sub (a i : E) | slc (a lo hi : E) | nob | rev (a : E)
  | kin (neg : Bool) (g : Nat) (a : E) | kget (g : Nat) (a : E)
  | fld (f : Nat) (a : E)
  | tup (es : Es) | lst (es : Es) | dct (ks : List (List Nat)) (es : Es)
  | mut (e : E) | frz (e : E)
  | call (f : Nat) (es : Es) | meth (m : Nat) (a : E) (es : Es) | make (c : Nat) (es : Es)
  | blt (b : Bl) (es : Es) | bm (b : Bm) (a : E) (es : Es) | isi (a : E) (t : Ty)
  | lc (t : Tg) (k : Ik) (a b : E) (c : E) (e : E)
  | rep (a : E) | lrg (a : E)
inductive Es where
  | nil | cons (e : E) (r : Es)
end
mutual
inductive S where
  | set (i : Nat) (e : E) | setf (a : E) (f : Nat) (e : E) | seti (a i e : E) | sett (is : List Nat) (e : E) | setp (i j : Nat) (a b : E)
  | exp (e : E) | ret (e : E) | retn | ite (c : E) (a b : Ss) | for_ (t : Tg) (k : Ik) (a b : E) (s : Ss) | whl (c : E) (s : Ss) | rse (c : Nat) | setr (i : Nat) (e : E)
inductive Ss where
  | nil | cons (s : S) (r : Ss)
end

structure Fi where
  ns : Nat
  np : Nat
  pure : Bool
  body : Ss

structure Tbl where
  fn : Nat → Option Fi
  con : Nat → D
  kd : Nat → List (List Nat × D)
  disp : Nat → Nat → Option Nat
  ini : Nat → Option Nat

/-! ### operations on values -/
mutual
/-- no number of what is changed in it -/
def D.rl : D → Bool
  | .tup xs => D.rls xs
  | .lst xs => D.rls xs
  | .ref _ => false
  | _ => true
def D.rls : List D → Bool
  | [] => true
  | x :: r => x.rl && D.rls r
end
mutual
/-- == tells them as data does: no number beside a truth value at one place, no number of what is changed -/
def cmpb : D → D → Bool
  | .bl _, .int _ => false
  | .int _, .bl _ => false
  | .ref _, _ => false
  | _, .ref _ => false
  | .scr _, _ => false
  | _, .scr _ => false
  | .tup xs, .tup ys => cmpbs xs ys
  | .lst xs, .lst ys => cmpbs xs ys
  | _, _ => true
def cmpbs : List D → List D → Bool
  | x :: xs, y :: ys => cmpb x y && cmpbs xs ys
  | _, _ => true
end
def big : Nat := 16777216
def isBl : D → Bool
  | .bl _ => true
  | _ => false
def isInt : D → Bool
  | .int _ => true
  | _ => false
/-- a slice's bound among n places -/
def six (n d : Nat) : Option Int → Nat
  | none => d
  | some v => if v < 0 then (v + (n : Int)).toNat else min v.toNat n
def cut {α : Type} (xs : List α) (lo hi : Option Int) : List α := (xs.drop (six xs.length 0 lo)).take (six xs.length xs.length hi - six xs.length 0 lo)
/-- the place of an index -/
def ixn (n : Nat) (i : Int) : Option Nat := if 0 ≤ i then (if i < n then some i.toNat else none) else if -(n : Int) ≤ i then some (i + n).toNat else none
def ati {α : Type} (xs : List α) (i : Int) : Option α := (ixn xs.length i).bind fun j => xs[j]?
def mulOk (i j : Int) : Bool := decide ((-(2 ^ 64) < i ∧ i < 2 ^ 64) ∨ (-(2 ^ 64) < j ∧ j < 2 ^ 64) ∨ i.natAbs.log2 + j.natAbs.log2 < 100000000)
def okIf {α : Type} (c : Bool) (a : α) (h : Hs) : R α := match c with
  | true => .ok a h
  | false => .stk
def ofO {α : Type} (x : Option α) (h : Hs) : R α := match x with
  | some a => .ok a h
  | none => .stk
/-- the items of a list or tuple -/
def items (h : Hs) : D → Option (List D)
  | .scr xs => some (xs.map .int)
  | .tup xs => some xs
  | .lst xs => some xs
  | .ref k => (match h.o k with
    | some (.lst xs) => some xs
    | _ => none)
  | _ => none
def lsts (h : Hs) : D → Option (List D)
  | .lst xs => some xs
  | .ref k => (match h.o k with
    | some (.lst xs) => some xs
    | _ => none)
  | _ => none
def dictOf (h : Hs) : D → Option (List (List Nat × D))
  | .ref k => (match h.o k with
    | some (.dct kvs) => some kvs
    | some (.fdc kvs) => some kvs
    | _ => none)
  | _ => none
def dctOf (h : Hs) : D → Option (List (List Nat × D))
  | .ref k => (match h.o k with
    | some (.dct kvs) => some kvs
    | _ => none)
  | _ => none
def intsOf : List D → Option (List Int)
  | [] => some []
  | .int i :: r => (intsOf r).map (i :: ·)
  | _ :: _ => none
def boolsOf : List D → Option (List Bool)
  | [] => some []
  | .bl b :: r => (boolsOf r).map (b :: ·)
  | _ :: _ => none
def pairsOf : List D → Option (List (Bool × Int))
  | [] => some []
  | .tup [.bl b, .int i] :: r => (pairsOf r).map ((b, i) :: ·)
  | _ :: _ => none
def strsOf : List D → Option (List (List Nat))
  | [] => some []
  | .str x :: r => (strsOf r).map (x :: ·)
  | _ :: _ => none

def bin (op : BOp) (x y : D) (h : Hs) : R D := match op with
  | .add => (match x, y with
    | .int i, .int j => .ok (.int (i + j)) h
    | .str a, .str b => okIf (decide (a.length + b.length ≤ big)) (.str (a ++ b)) h
    | .lst a, .lst b => okIf (decide (a.length + b.length ≤ big)) (.lst (a ++ b)) h
    | .tup a, .tup b => okIf (decide (a.length + b.length ≤ big)) (.tup (a ++ b)) h
    | _, _ => .stk)
  | .sub => (match x, y with
    | .int i, .int j => .ok (.int (i - j)) h
    | _, _ => .stk)
  | .mul => (match x, y with
    | .int i, .int j => okIf (mulOk i j) (.int (i * j)) h
    | .str a, .int k => okIf (decide (-(2 ^ 63) ≤ k) && (decide (k < 2 ^ 63) && decide (a.length * k.toNat ≤ big))) (.str (List.replicate k.toNat a).flatten) h
    | x, .int k => (match lsts h x with
      | some a => okIf (decide (-(2 ^ 63) ≤ k) && (decide (k < 2 ^ 63) && decide (a.length * k.toNat ≤ big))) (.lst (List.replicate k.toNat a).flatten) h
      | none => .stk)
    | _, _ => .stk)
  | .mod => (match x, y with
    | .int i, .int j => okIf (decide (0 < j)) (.int (i % j)) h
    | _, _ => .stk)
  | .fdv => (match x, y with
    | .int i, .int j => okIf (decide (0 < j) && decide (j < 1073741824)) (.int (i / j)) h
    | _, _ => .stk)

mutual
/-- nested at most so deep; texts of plain signs; no number of what is changed -/
def dok : Nat → D → Bool
  | _, .non => true
  | _, .bl _ => true
  | _, .int _ => true
  | _, .str x => x.all fun c => decide (c < 128)
  | n + 1, .tup xs => doks n xs
  | n + 1, .lst xs => doks n xs
  | _, _ => false
def doks : Nat → List D → Bool
  | _, [] => true
  | n, x :: r => dok n x && doks n r
end
def flat : D → Bool
  | .non => true
  | .bl _ => true
  | .int _ => true
  | .str _ => true
  | _ => false
def eqd (x y : D) : Option Bool := match flat x && flat y && cmpb x y with
  | true => some (decide (x = y))
  | false => (match dok 60 x && (dok 60 y && cmpb x y) with
    | true => some (decide (x = y))
    | false => (match x, y with
      | .scr xs, .lst [] => some xs.isEmpty
      | _, _ => none))
/-- a list that is changed, as it stands -/
def dr (x : D) (h : Hs) : D := match x with
  | .ref k => (match h.o k with
    | some (.lst xs) => .lst xs
    | _ => x)
  | x => x
/-- == where a side is a list that is changed -/
def eqr (x y : D) (h : Hs) : Option Bool := match dok 60 (dr x h) && (dok 60 (dr y h) && cmpb (dr x h) (dr y h)) with
  | true => some (decide (dr x h = dr y h))
  | false => none
def eqh (x y : D) (h : Hs) : Option Bool := match eqd x y with
  | some b => some b
  | none => eqr x y h
def memd (x : D) (ys : List D) : Option Bool := match flat x && ys.all fun y => flat y && cmpb x y with
  | true => some (decide (x ∈ ys))
  | false => none
def mem (x y : D) (h : Hs) : Option Bool := match y with
  | .tup ys => memd x ys
  | .lst ys => memd x ys
  | .str z => (match x with
    | .str [c] => some (decide (c ∈ z))
    | _ => none)
  | .ref k => (match h.o k with
    | some (.lst ys) => memd x ys
    | some (.dct kvs) => (match x with
      | .str a => some (kvs.lookup a).isSome
      | _ => none)
    | _ => none)
  | _ => none
def cmp (op : COp) (x y : D) (h : Hs) : R Bool := match op with
  | .eq => ofO (eqh x y h) h
  | .ne => ofO ((eqh x y h).map (!·)) h
  | .lt => (match x, y with
    | .int i, .int j => .ok (decide (i < j)) h
    | _, _ => .stk)
  | .le => (match x, y with
    | .int i, .int j => .ok (decide (i ≤ j)) h
    | .str a, .str b => .ok (!decide (b < a)) h
    | _, _ => .stk)
  | .gt => (match x, y with
    | .int i, .int j => .ok (decide (j < i)) h
    | _, _ => .stk)
  | .ge => (match x, y with
    | .int i, .int j => .ok (decide (j ≤ i)) h
    | _, _ => .stk)
  | .mem => ofO (mem x y h) h
  | .nme => ofO ((mem x y h).map (!·)) h

def subs (x i : D) (h : Hs) : R D := match i with
  | .int i => (match x with
    | .str a => okIf (decide (a.length ≤ big)) () h |>.bind fun _ h => ofO ((ati a i).map fun c => .str [c]) h
    | x => (match items h x with
      | some xs => ofO (ati xs i) h
      | none => .stk))
  | .str k => (match dictOf h x with
    | some kvs => ofO (kvs.lookup k) h
    | none => .stk)
  | _ => .stk
def slice (x : D) (lo hi : Option Int) (h : Hs) : R D := match x with
  | .str a => okIf (decide (a.length ≤ big)) (.str (cut a lo hi)) h
  | .tup xs => .ok (.tup (cut xs lo hi)) h
  | x => (match lsts h x with
    | some xs => .ok (.lst (cut xs lo hi)) h
    | none => .stk)
def revd (x : D) (h : Hs) : R D := match lsts h x with
  | some xs => .ok (.lst xs.reverse) h
  | none => .stk
def putf (f : Nat) (v : D) : List (Nat × D) → List (Nat × D)
  | [] => [(f, v)]
  | (g, u) :: r => if g = f then (g, v) :: r else (g, u) :: putf f v r
/-- in its place, or at the end -/
def putk (k : List Nat) (v : D) (kvs : List (List Nat × D)) : List (List Nat × D) :=
  if (kvs.any fun p => decide (p.1 = k)) = true then kvs.map (fun p => if p.1 = k then (p.1, v) else p) else kvs ++ [(k, v)]
def getf (f : Nat) (x : D) (h : Hs) : R D := match x with
  | .ref k => (match h.o k with
    | some (.ins _ fs) => ofO (fs.lookup f) h
    | _ => .stk)
  | _ => .stk
def setf (f : Nat) (x v : D) (h : Hs) : R Unit := match x with
  | .ref k => (match h.o k with
    | some (.ins c fs) => okIf (decide (fs.length < 1000)) () (h.put k (.ins c (putf f v fs)))
    | _ => .stk)
  | _ => .stk
def seti (x i v : D) (h : Hs) : R Unit := match x with
  | .ref k => (match h.o k, i with
    | some (.lst xs), .int i => (match ixn xs.length i with
      | some j => .ok () (h.put k (.lst (xs.set j v)))
      | none => .stk)
    | some (.dct kvs), .str a => okIf (decide (kvs.length < 1000)) () h |>.bind fun _ h => .ok () (h.put k (.dct (putk a v kvs)))
    | _, _ => .stk)
  | _ => .stk

/-! ### texts -/
/-- the first place from i on (below n) at which y stands in x -/
def sfind (y x : List Nat) (i : Nat) : Nat → Option Nat
  | 0 => none
  | n + 1 => if (x.drop i).take y.length = y ∧ i + y.length ≤ x.length then some i else sfind y x (i + 1) n
/-- one sign's last place below j -/
def rfind1 (c : Nat) : List Nat → Nat → Option Nat → Option Nat
  | [], _, r => r
  | d :: t, i, r => rfind1 c t (i + 1) (if d = c then some i else r)
def find1 (c : Nat) : List Nat → Nat → Option Nat
  | [], _ => none
  | d :: t, i => if d = c then some i else find1 c t (i + 1)
def up1 (c : Nat) : Nat := if 97 ≤ c ∧ c ≤ 122 then c - 32 else c
def lo1 (c : Nat) : Nat := if 65 ≤ c ∧ c ≤ 90 then c + 32 else c
def ascii (x : List Nat) : Bool := x.all fun c => decide (c < 128)
def joins (sep : List Nat) : List (List Nat) → List Nat
  | [] => []
  | [x] => x
  | x :: r => x ++ sep ++ joins sep r
/-- a text cut at each sign c -/
def split1 (c : Nat) : List Nat → List Nat → List (List Nat)
  | [], acc => [acc]
  | d :: t, acc => if d = c then acc :: split1 c t [] else split1 c t (acc ++ [d])

/-! ### sorting by keys, stable -/
def ltS (a b : List Nat) : Bool := decide (a < b)
def insS {α : Type} (k : List Nat) (v : α) : List (List Nat × α) → List (List Nat × α)
  | [] => [(k, v)]
  | (g, u) :: r => if ltS k g then (k, v) :: (g, u) :: r else (g, u) :: insS k v r
def sortS {α : Type} : List (List Nat × α) → List (List Nat × α)
  | [] => []
  | (k, v) :: r => insS k v (sortS r)

def minI : List Int → Int → Int
  | [], m => m
  | x :: r, m => minI r (if x < m then x else m)
def maxI : List Int → Int → Int
  | [], m => m
  | x :: r, m => maxI r (if m < x then x else m)
def lenD (x : D) (h : Hs) : R D := match x with
  | .str a => okIf (decide (a.length ≤ big)) (.int a.length) h
  | x => (match items h x with
    | some ys => .ok (.int ys.length) h
    | none => (match dctOf h x with
      | some kvs => .ok (.int kvs.length) h
      | none => .stk))
def ltP (a b : Bool × Int) : Bool := if a.1 = b.1 then decide (a.2 < b.2) else !a.1 && b.1
def minP (r : List (Bool × Int)) (p : Bool × Int) : Bool × Int := r.foldl (fun a y => if ltP y a = true then y else a) p
def maxP (r : List (Bool × Int)) (p : Bool × Int) : Bool × Int := r.foldl (fun a y => if ltP a y = true then y else a) p
def prD (p : Bool × Int) : D := .tup [.bl p.1, .int p.2]
def minPD (x : D) (h : Hs) : R D := match (lsts h x).bind pairsOf with
  | some (p :: r) => .ok (prD (minP r p)) h
  | _ => .stk
def maxPD (x : D) (h : Hs) : R D := match (lsts h x).bind pairsOf with
  | some (p :: r) => .ok (prD (maxP r p)) h
  | _ => .stk
def minD (x : D) (h : Hs) : R D := match (lsts h x).bind intsOf with
  | some (i :: r) => .ok (.int (minI r i)) h
  | _ => minPD x h
def maxD (x : D) (h : Hs) : R D := match (lsts h x).bind intsOf with
  | some (i :: r) => .ok (.int (maxI r i)) h
  | _ => maxPD x h
def listD (x : D) (h : Hs) : R D := match items h x with
  | some ys => .ok (.lst ys) h
  | none => (match dictOf h x with
    | some kvs => .ok (.lst (kvs.map fun p => .str p.1)) h
    | none => .stk)
def tupleD (x : D) (h : Hs) : R D := match items h x with
  | some ys => .ok (.tup ys) h
  | none => .stk
def intD (x : D) (h : Hs) : R D := match x with
  | .int i => .ok (.int i) h
  | .bl b => .ok (.int (if b then 1 else 0)) h
  | _ => .stk
def absD (x : D) (h : Hs) : R D := match x with
  | .int i => .ok (.int (if i < 0 then -i else i)) h
  | _ => .stk
def dictD (x : D) (h : Hs) : R D := match dictOf h x with
  | some kvs => .ok (.ref h.n) (h.new (.dct kvs))
  | none => .stk
def blt1 (b : Bl) (x : D) (h : Hs) : R D := match b with
  | .len => lenD x h
  | .min => minD x h
  | .max => maxD x h
  | .sum => ofO (((lsts h x).bind intsOf).map fun ns => .int ns.sum) h
  | .all => ofO (((lsts h x).bind boolsOf).map fun bs => .bl (bs.all id)) h
  | .abs => absD x h
  | .int => intD x h
  | .list => listD x h
  | .tuple => tupleD x h
  | .dict => dictD x h
  | _ => .stk
def blt2 (b : Bl) (x y : D) (h : Hs) : R D := match b, x, y with
  | .min, .int i, .int j => .ok (.int (if j < i then j else i)) h
  | .max, .int i, .int j => .ok (.int (if j > i then j else i)) h
  | _, _, _ => .stk
def blt (b : Bl) (xs : List D) (h : Hs) : R D := match xs with
  | [x] => blt1 b x h
  | [x, y] => blt2 b x y h
  | _ => .stk

/-- what a method's receiver is -/
inductive Bt where
  | str | list | dict
  deriving DecidableEq
def bok : Bt → Bm → Bool
  | .str, .count => true
  | .str, .index => true
  | .str, .find => true
  | .str, .rfind => true
  | .str, .join => true
  | .str, .split => true
  | .str, .upper => true
  | .str, .lower => true
  | .str, .lstrip => true
  | .list, .append => true
  | .list, .extend => true
  | .list, .pop => true
  | .list, .insert => true
  | .list, .count => true
  | .dict, .get => true
  | _, _ => false
def bty0 (x : D) (h : Hs) : Option Bt := match x with
  | .str _ => some .str
  | .lst _ => some .list
  | .ref k => (match h.o k with
    | some (.lst _) => some .list
    | some (.dct _) => some .dict
    | _ => none)
  | _ => none
def bty (b : Bm) (x : D) (h : Hs) : Option Bt := match bty0 x h with
  | some t => (match bok t b with
    | true => some t
    | false => none)
  | none => none
/-- of texts -/
def bms (b : Bm) (a : List Nat) (xs : List D) (h : Hs) : R D := match xs with
  | [] => (match b with
    | .upper => okIf (decide (a.length ≤ 1000000) && ascii a) (.str (a.map up1)) h
    | .lower => okIf (decide (a.length ≤ 1000000) && ascii a) (.str (a.map lo1)) h
    | _ => .stk)
  | [.str [c]] => (match b with
    | .count => .ok (.int (a.count c)) h
    | .index => ofO ((find1 c a 0).map fun (i : Nat) => D.int (i : Int)) h
    | .split => okIf (decide (a.length + 2 ≤ big) && decide (c < 256)) (.lst ((split1 c a []).map fun z => .str z)) h
    | .lstrip => okIf (decide (a.length ≤ big)) (.str (a.dropWhile fun d => decide (d = c))) h
    | _ => .stk)
  | [.str [c], .int i] => (match b with
    | .find => okIf (decide (0 ≤ i)) (.int (match find1 c (a.drop i.toNat) i.toNat with
      | some k => (k : Int)
      | none => -1)) h
    | _ => .stk)
  | [.str [c], .int i, .int j] => (match b with
    | .rfind => okIf (decide (i = 0) && decide (0 ≤ j)) (.int (match rfind1 c (a.take j.toNat) 0 none with
      | some k => (k : Int)
      | none => -1)) h
    | _ => .stk)
  | [x] => (match b with
    | .join => (match (lsts h x).bind strsOf with
      | some ys => okIf (decide ((ys.map List.length).sum + ys.length * a.length ≤ big)) (.str (joins a ys)) h
      | none => .stk)
    | _ => .stk)
  | _ => .stk
/-- of lists that are changed -/
def bml (b : Bm) (k : Nat) (ys : List D) (xs : List D) (h : Hs) : R D := match xs with
  | [] => (match b with
    | .pop => (match ys[ys.length - 1]? with
      | some y => .ok y (h.put k (.lst ys.dropLast))
      | none => .stk)
    | _ => .stk)
  | [v] => (match b with
    | .append => okIf (decide (ys.length < big)) .non (h.put k (.lst (ys ++ [v])))
    | .extend => (match lsts h v with
      | some zs => okIf (decide (ys.length + zs.length ≤ big)) .non (h.put k (.lst (ys ++ zs)))
      | none => .stk)
    | .pop => (match v with
      | .int i => (match ixn ys.length i with
        | some j => (match ys[j]? with
          | some y => okIf (decide (-(2 ^ 63) ≤ i) && decide (i < 2 ^ 63)) y (h.put k (.lst (ys.eraseIdx j)))
          | none => .stk)
        | none => .stk)
      | _ => .stk)
    | _ => .stk)
  | [i, v] => (match b, i with
    | .insert, .int i => okIf (decide (0 ≤ i) && (decide (i < 2 ^ 63) && decide (ys.length < big))) .non (h.put k (.lst (ys.take i.toNat ++ [v] ++ ys.drop i.toNat)))
    | _, _ => .stk)
  | _ => .stk
/-- of dicts -/
def bmk (b : Bm) (kvs : List (List Nat × D)) (xs : List D) (h : Hs) : R D := match xs with
  | [.str k] => (match b with
    | .get => .ok ((kvs.lookup k).getD .non) h
    | _ => .stk)
  | [.str k, v] => (match b with
    | .get => .ok ((kvs.lookup k).getD v) h
    | _ => .stk)
  | _ => .stk
def cntD (o : Option (List Int)) (xs : List D) (h : Hs) : R D := match o, xs with
  | some ns, [.int v] => .ok (.int (ns.count v)) h
  | _, _ => .stk
def bmd (t : Bt) (b : Bm) (x : D) (xs : List D) (h : Hs) : R D := match t with
  | .str => (match x with
    | .str a => bms b a xs h
    | _ => .stk)
  | .list => (match decide (b = .count) with
    | true => cntD ((lsts h x).bind intsOf) xs h
    | false => (match x with
      | .ref k => (match h.o k with
        | some (.lst ys) => bml b k ys xs h
        | _ => .stk)
      | _ => .stk))
  | .dict => (match dictOf h x with
    | some kvs => bmk b kvs xs h
    | none => .stk)
def isi (x : D) (t : Ty) (h : Hs) : R D := match x with
  | .ref k => (match h.o k with
    | some (.lst _) => .ok (.bl false) h
    | _ => .stk)
  | .int _ => .ok (.bl (decide (t = .int))) h
  | .bl _ => .ok (.bl (decide (t = .bool ∨ t = .int))) h
  | .str _ => .ok (.bl (decide (t = .str))) h
  | .tup _ => .ok (.bl (decide (t = .tup))) h
  | .lst _ => .ok (.bl false) h
  | .scr _ => .stk
  | .non => .ok (.bl false) h

abbrev Env := List (Option D)
abbrev Calls := Nat → List D → Hs → R D
def callF (T : Tbl) (cl : Calls) (f : Nat) (xs : List D) (h : Hs) : R D := match T.fn f with
  | some fi => (match fi.pure with
    | true => (match D.rls xs with
      | true => (match cl f xs Hs.nil with
        | .ok d _ => okIf d.rl d h
        | .exc c _ => .exc c h
        | .stk => .stk)
      | false => .stk)
    | false => cl f xs h)
  | none => .stk
def truth (x : D) (h : Hs) : R Bool := match x with
  | .bl b => .ok b h
  | _ => .stk
def tgt (t : Tg) (x : D) (v : Env) (h : Hs) : R Env := match t with
  | .nm i => .ok (v.set i (some x)) h
  | .tp is => (match x with
    | .tup xs => okIf (decide (xs.length = is.length)) ((is.zip xs).foldl (fun v p => v.set p.1 (some p.2)) v) h
    | _ => .stk)
def getV (v : Env) (i : Nat) (h : Hs) : R D := match v[i]? with
  | some (some d) => .ok d h
  | _ => .stk
def range (lo : Int) (n : Nat) : List D := (List.range n).map fun (k : Nat) => .int (lo + (k : Int))
def okRange (i : Int) : Bool := decide (-(2 ^ 62) ≤ i ∧ i < 2 ^ 62)
def zips : List D → List D → List D
  | x :: xs, y :: ys => .tup [x, y] :: zips xs ys
  | _, _ => []
def enums (i : Nat) : List D → List D
  | [] => []
  | x :: r => .tup [.int i, x] :: enums (i + 1) r
def seqd (x : D) : Option (List D) := match x with
  | .str a => some (a.map fun c => .str [c])
  | .tup xs => some xs
  | .lst xs => some xs
  | _ => none
/-- what is walked: its items; and the object that must stay as it is meanwhile -/
structure Wk where
  xs : List D
  on : Option (Nat × O) := none
def seqw (x : D) (h : Hs) : Option (List D × Option (Nat × O)) := match x with
  | .ref k => (match h.o k with
    | some (.lst xs) => some (xs, some (k, .lst xs))
    | _ => none)
  | x => (seqd x).map fun xs => (xs, none)
def itv (k : Ik) (x y : D) (h : Hs) : R Wk := match k with
  | .val => ofO ((seqw x h).map fun p => ⟨p.1, p.2⟩) h
  | .enm => (match x with
    | .tup _ => .stk
    | x => ofO ((seqw x h).map fun p => ⟨enums 0 p.1, p.2⟩) h)
  | .rng1 => (match x with
    | .int j => okIf (okRange j) ⟨range 0 j.toNat, none⟩ h
    | _ => .stk)
  | .rng2 => (match x, y with
    | .int i, .int j => okIf (okRange i && okRange j) ⟨range i (j - i).toNat, none⟩ h
    | _, _ => .stk)
  | .zip => (match x, y with
    | .str z, .tup ys => .ok ⟨zips (z.map fun c => .str [c]) ys, none⟩ h
    | _, _ => .stk)
  | .keys => (match x with
    | .ref k => (match h.o k with
      | some (.dct kvs) => .ok ⟨kvs.map fun p => .str p.1, some (k, .fdc kvs)⟩ (h.put k (.fdc kvs))
      | _ => .stk)
    | _ => .stk)
def stays (w : Wk) (h : Hs) : Bool := match w.on with
  | some (k, o) => decide (h.o k = some o)
  | none => true
/-- behind the walk: what was locked is free again -/
def unlock (w : Wk) (h : Hs) : Hs := match w.on with
  | some (k, .fdc kvs) => h.put k (.dct kvs)
  | _ => h
def unl (k : Ik) (w : Wk) (h : Hs) : Hs := match k with
  | .keys => unlock w h
  | _ => h
/-- no way out but on -/
def R.bindN {α β : Type} (x : R α) (f : α → Hs → R β) : R β := match x with
  | .ok a h => f a h
  | _ => .stk
/-- a list comprehension over items -/
def lcGo (w : Wk) (v : Env) (t : Tg) (c e : Env → Hs → R D) : List D → List D → Hs → R (List D)
  | [], acc, h => okIf (stays w h) acc h
  | x :: r, acc, h => match stays w h with
    | true => (tgt t x v h).bindN fun v1 h => (c v1 h).bindN fun b h => (truth b h).bindN fun b h => match b with
      | true => (e v1 h).bindN fun y h => (match decide (acc.length < big) with
        | true => lcGo w v t c e r (acc ++ [y]) h
        | false => .stk)
      | false => lcGo w v t c e r acc h
    | false => .stk
inductive Out where
  | nx (v : Env) | rt (d : D)
/-- a for over items -/
def forGo (w : Wk) (t : Tg) (b : Env → Hs → R Out) : List D → Env → Hs → R Out
  | [], v, h => okIf (stays w h) (.nx v) h
  | x :: r, v, h => match stays w h with
    | true => (tgt t x v h).bind fun v h => (b v h).bind fun o h => match o with
      | .nx v => forGo w t b r v h
      | .rt d => .ok (.rt d) h
    | false => .stk
/-- a while, so many turns at most -/
def whGo (c : Env → Hs → R D) (b : Env → Hs → R Out) : Nat → Env → Hs → R Out
  | 0, _, _ => .stk
  | n + 1, v, h => (c v h).bind fun x h => (truth x h).bind fun k h => match k with
    | true => (b v h).bind fun o h => match o with
      | .nx v => whGo c b n v h
      | .rt d => .ok (.rt d) h
    | false => .ok (.nx v) h
def turns : Nat := 100000

def puts (kvs : List (List Nat × D)) (acc : List (List Nat × D)) : List (List Nat × D) := kvs.foldl (fun acc p => putk p.1 p.2 acc) acc
def methd (T : Tbl) (cl : Calls) (m : Nat) (x : D) (xs : List D) (h : Hs) : R D := match x with
  | .ref k => (match h.o k with
    | some (.ins c _) => (match T.disp c m with
      | some f => cl f (.ref k :: xs) h
      | none => .stk)
    | _ => .stk)
  | _ => .stk
def maked (T : Tbl) (cl : Calls) (c : Nat) (xs : List D) (h : Hs) : R D := match T.ini c with
  | some f => (cl f (.ref h.n :: xs) (h.new (.ins c []))).bind fun r h2 => (match r with
    | .non => .ok (.ref h.n) h2
    | _ => .stk)
  | none => .stk
def mutd (x : D) (h : Hs) : R D := match x with
  | .lst xs => .ok (.ref h.n) (h.new (.lst xs))
  | _ => .stk
def frzd (x : D) (h : Hs) : R D := match x with
  | .ref k => (match h.o k with
    | some (.lst xs) => .ok (.lst xs) (h.del k)
    | _ => .stk)
  | _ => .stk
def negd (x : D) (h : Hs) : R D := match x with
  | .int i => .ok (.int (-i)) h
  | _ => .stk
def kind (T : Tbl) (neg : Bool) (g : Nat) (x : D) (h : Hs) : R D := match x with
  | .str k => .ok (.bl (((T.kd g).lookup k).isSome != neg)) h
  | _ => .stk
def kgetd (T : Tbl) (g : Nat) (x : D) (h : Hs) : R D := match x with
  | .str k => ofO ((T.kd g).lookup k) h
  | _ => .stk
def dctd (ks : List (List Nat)) (xs : List D) (h : Hs) : R D :=
  okIf (decide (xs.length = ks.length)) (.ref h.n) (h.new (.dct (puts (ks.zip xs) [])))
/-- all line feeds out of a text -/
def repd (x : D) (h : Hs) : R D := match x with
  | .str a => okIf (decide (a.length ≤ 1000000)) (.str (a.filter fun c => decide (c ≠ 10))) h
  | _ => .stk
def lrgd (x : D) (h : Hs) : R D := match x with
  | .int n => okIf (decide (0 ≤ n) && decide (n ≤ 1000000)) (.lst (range 0 n.toNat)) h
  | _ => .stk
def isNob : E → Bool
  | .nob => true
  | _ => false
def bnd (x : D) (h : Hs) : R (Option Int) := match x with
  | .int i => .ok (some i) h
  | _ => .stk

mutual
def ev (T : Tbl) (cl : Calls) : E → Env → Hs → R D
  | .var i, v, h => getV v i h
  | .con g, _, h => .ok (T.con g) h
  | .lit d, _, h => .ok d h
  | .bin op a b, v, h => (ev T cl a v h).bind fun x h => (ev T cl b v h).bind fun y h => bin op x y h
  | .neg a, v, h => (ev T cl a v h).bind fun x h => negd x h
  | .not a, v, h => (ev T cl a v h).bind fun x h => (truth x h).bind fun b h => .ok (.bl (!b)) h
  | .and a b, v, h => (ev T cl a v h).bind fun x h => (truth x h).bind fun c h => match c with
    | true => (ev T cl b v h).bind fun x h => (truth x h).bind fun c h => .ok (.bl c) h
    | false => .ok (.bl false) h
  | .or a b, v, h => (ev T cl a v h).bind fun x h => (truth x h).bind fun c h => match c with
    | true => .ok (.bl true) h
    | false => (ev T cl b v h).bind fun x h => (truth x h).bind fun c h => .ok (.bl c) h
  | .cmp op a b, v, h => (ev T cl a v h).bind fun x h => (ev T cl b v h).bind fun y h => (cmp op x y h).bind fun c h => .ok (.bl c) h
  | .chn p q a b c, v, h => (ev T cl a v h).bind fun x h => (ev T cl b v h).bind fun y h => (cmp p x y h).bind fun k h => match k with
    | true => (ev T cl c v h).bind fun z h => (cmp q y z h).bind fun k h => .ok (.bl k) h
    | false => .ok (.bl false) h
  | .isn a, v, h => (ev T cl a v h).bind fun x h => .ok (.bl (decide (x = .non))) h
  | .ntn a, v, h => (ev T cl a v h).bind fun x h => .ok (.bl (!decide (x = .non))) h
  | .ife c a b, v, h => (ev T cl c v h).bind fun x h => (truth x h).bind fun k h => match k with
    | true => ev T cl a v h
    | false => ev T cl b v h
  | .sub a i, v, h => (ev T cl a v h).bind fun x h => (ev T cl i v h).bind fun i h => subs x i h
  | .slc a lo hi, v, h => (ev T cl a v h).bind fun x h =>
    (match isNob lo with
      | true => (R.ok none h : R (Option Int))
      | false => (ev T cl lo v h).bind bnd).bind fun l h =>
    (match isNob hi with
      | true => (R.ok none h : R (Option Int))
      | false => (ev T cl hi v h).bind bnd).bind fun u h => slice x l u h
  | .nob, _, _ => .stk
  | .rev a, v, h => (ev T cl a v h).bind fun x h => revd x h
  | .kin neg g a, v, h => (ev T cl a v h).bind fun x h => kind T neg g x h
  | .kget g a, v, h => (ev T cl a v h).bind fun x h => kgetd T g x h
  | .fld f a, v, h => (ev T cl a v h).bind fun x h => getf f x h
  | .tup es, v, h => (evs T cl es v h).bind fun xs h => .ok (.tup xs) h
  | .lst es, v, h => (evs T cl es v h).bind fun xs h => .ok (.lst xs) h
  | .dct ks es, v, h => (evs T cl es v h).bind fun xs h => dctd ks xs h
  | .mut e, v, h => (ev T cl e v h).bind fun x h => mutd x h
  | .frz e, v, h => (ev T cl e v h).bind fun x h => frzd x h
  | .call f es, v, h => (evs T cl es v h).bind fun xs h => callF T cl f xs h
  | .meth m a es, v, h => (ev T cl a v h).bind fun x h => (evs T cl es v h).bind fun xs h => methd T cl m x xs h
  | .make c es, v, h => (evs T cl es v h).bind fun xs h => maked T cl c xs h
  | .blt b es, v, h => (evs T cl es v h).bind fun xs h => blt b xs h
  | .bm b a es, v, h => (ev T cl a v h).bind fun x h => (ofO (bty b x h) h).bind fun t h => (evs T cl es v h).bind fun xs h => bmd t b x xs h
  | .isi a t, v, h => (ev T cl a v h).bind fun x h => isi x t h
  | .lc t k a b c e, v, h => (ev T cl a v h).bind fun x h => (ev T cl b v h).bind fun y h => (itv k x y h).bind fun w h =>
    (lcGo w v t (ev T cl c) (ev T cl e) w.xs [] h).bind fun ys h => .ok (.lst ys) (unl k w h)
  | .rep a, v, h => (ev T cl a v h).bind fun x h => repd x h
  | .lrg a, v, h => (ev T cl a v h).bind fun x h => lrgd x h
def evs (T : Tbl) (cl : Calls) : Es → Env → Hs → R (List D)
  | .nil, _, h => .ok [] h
  | .cons e r, v, h => (ev T cl e v h).bind fun x h => (evs T cl r v h).bind fun xs h => .ok (x :: xs) h
end
mutual
def exe (T : Tbl) (cl : Calls) : S → Env → Hs → R Out
  | .set i e, v, h => (ev T cl e v h).bind fun x h => .ok (.nx (v.set i (some x))) h
  | .setf a f e, v, h => (ev T cl e v h).bind fun y h => (ev T cl a v h).bind fun x h => (setf f x y h).bind fun _ h => .ok (.nx v) h
  | .seti a i e, v, h => (ev T cl e v h).bind fun y h => (ev T cl a v h).bind fun x h => (ev T cl i v h).bind fun i h => (seti x i y h).bind fun _ h => .ok (.nx v) h
  | .sett is e, v, h => (ev T cl e v h).bind fun x h => (tgt (.tp is) x v h).bind fun v h => .ok (.nx v) h
  | .setp i j a b, v, h => (ev T cl a v h).bind fun x h => (ev T cl b v h).bind fun y h => .ok (.nx ((v.set i (some x)).set j (some y))) h
  | .exp e, v, h => (ev T cl e v h).bind fun _ h => .ok (.nx v) h
  | .ret e, v, h => (ev T cl e v h).bind fun x h => .ok (.rt x) h
  | .retn, _, h => .ok (.rt .non) h
  | .ite c a b, v, h => (ev T cl c v h).bind fun x h => (truth x h).bind fun k h => match k with
    | true => exes T cl a v h
    | false => exes T cl b v h
  | .for_ t k a b s, v, h => (ev T cl a v h).bind fun x h => (ev T cl b v h).bind fun y h => (itv k x y h).bind fun w h => forGo w t (exes T cl s) w.xs v h
  | .whl c s, v, h => whGo (ev T cl c) (exes T cl s) turns v h
  | .rse c, _, h => .exc c h
  | .setr i e, v, h => (ev T cl e v h).bind fun x h => .ok (.nx (v.set i (some x))) h
def exes (T : Tbl) (cl : Calls) : Ss → Env → Hs → R Out
  | .nil, v, h => .ok (.nx v) h
  | .cons s r, v, h => (exe T cl s v h).bind fun o h => match o with
    | .nx v => exes T cl r v h
    | .rt d => .ok (.rt d) h
end
def outD : Out → D
  | .nx _ => .non
  | .rt d => d
def env0 (fi : Fi) (xs : List D) : Env := xs.map some ++ List.replicate (fi.ns - fi.np) none
def body (T : Tbl) (cl : Calls) (fi : Fi) (xs : List D) (h : Hs) : R D := match decide (xs.length = fi.np) with
  | true => (exes T cl fi.body (env0 fi xs) h).bind fun o h => .ok (outD o) h
  | false => .stk
def run (T : Tbl) : Nat → Calls
  | 0, _, _, _ => .stk
  | n + 1, f, xs, h => match T.fn f with
    | some fi => body T (run T n) fi xs h
    | none => .stk
end Ev

/-! part EvRep -/
set_option maxRecDepth 100000
set_option maxHeartbeats 4000000
/-! How the small machine's values and memory stand in the layer's. -/
namespace Ev
open PySem PySem.Spec PyProof.Rows L2

def toS (l : List Nat) : Str := ⟨l.toArray⟩
theorem toS_cps (l : List Nat) : (toS l).cps.toList = l := by simp [toS]
theorem toS_len (l : List Nat) : (toS l).length = l.length := by
  show (toS l).cps.size = _
  simp [toS]
theorem toS_inj {a b : List Nat} (h : toS a = toS b) : a = b := by
  have := congrArg (fun z : Str => z.cps.toList) h
  simpa [toS] using this
theorem of_toS (x : Str) : toS x.cps.toList = x := by
  obtain ⟨a⟩ := x
  simp [toS]
theorem toS_app (a b : List Nat) : toS a ++ toS b = toS (a ++ b) := by
  show (⟨(toS a).cps ++ (toS b).cps⟩ : Str) = _
  simp [toS]

/-- where one looks: the written part, the layer's heap, what may not be frozen, where the numbered objects stand, how many there are -/
structure Vw where
  K : PySem.W.Frag
  H : Hp
  L : Addr → Prop
  ρ : Nat → Addr
  n : Nat

def KTup (K : PySem.W.Frag) (a : Addr) (xs : List V) : Prop := ∃ (o : Obj) (its : Array Value) (n : Nat), K.lookup a = some o ∧ o.cls = .type "tuple" ∧ o.data = .seq its n ∧ its.size ≤ sizeLine ∧ Vals xs its.toList
/-- a tuple that stays as it is -/
def FzT (w : Vw) (a : Addr) (xs : List V) : Prop := (Rd w.H a (.tup xs) ∧ ¬ w.L a) ∨ KTup w.K a xs
/-- a list that stays as it is -/
def FzL (w : Vw) (a : Addr) (xs : List V) : Prop := w.H a = some (.lst xs) ∧ ¬ w.L a
def KLst (K : PySem.W.Frag) (a : Addr) (xs : List V) : Prop := ∃ (o : Obj) (its : Array Value) (n : Nat), K.lookup a = some o ∧ o.cls = .type "list" ∧ o.dict = none ∧ o.data = .seq its n ∧ its.size ≤ sizeLine ∧ Vals xs its.toList
/-- the script -/
def FzS (w : Vw) (a : Addr) (xs : List V) : Prop := (Rd w.H a (.lst xs) ∧ ¬ w.L a) ∨ KLst w.K a xs
theorem FzS.sq {w : Vw} {a : Addr} {xs : List V} (h : FzS w a xs) : SqL w.K w.H a xs := by
  rcases h with h | h
  · exact .inl h.1
  · exact .inr h
theorem FzT.sq {w : Vw} {a : Addr} {xs : List V} (h : FzT w a xs) : SqT w.K w.H a xs := by
  rcases h with h | h
  · exact .inl h.1
  · exact .inr h
mutual
def Rep (w : Vw) : D → V → Prop
  | .non, v => v = .non
  | .bl b, v => v = .bl b
  | .int i, v => v = .int i
  | .str x, v => v = .str (toS x)
  | .tup xs, v => ∃ a vs, v = .ref a ∧ FzT w a vs ∧ Reps w xs vs
  | .lst xs, v => ∃ a vs, v = .ref a ∧ FzL w a vs ∧ Reps w xs vs
  | .ref k, v => k < w.n ∧ v = .ref (w.ρ k)
  | .scr xs, v => ∃ a, v = .ref a ∧ FzS w a (xs.map V.int)
def Reps (w : Vw) : List D → List V → Prop
  | [], vs => vs = []
  | d :: ds, vs => ∃ v r, vs = v :: r ∧ Rep w d v ∧ Reps w ds r
end
theorem Reps.len {w : Vw} : ∀ {ds : List D} {vs : List V}, Reps w ds vs → vs.length = ds.length
  | [], vs, h => by
    have e : vs = [] := h
    rw [e]
    rfl
  | d :: ds, vs, h => by
    obtain ⟨v, r, rfl, _, hr⟩ := h
    rw [List.length_cons, List.length_cons, hr.len]
theorem Reps.get {w : Vw} : ∀ {ds : List D} {vs : List V} {i : Nat} {d : D}, Reps w ds vs → ds[i]? = some d → ∃ v, vs[i]? = some v ∧ Rep w d v
  | [], _, _, _, _, e => by simp at e
  | d :: ds, vs, 0, x, h, e => by
    obtain ⟨v, r, rfl, hv, _⟩ := h
    have e' : d = x := by simpa using e
    subst e'
    exact ⟨v, rfl, hv⟩
  | d :: ds, vs, i + 1, x, h, e => by
    obtain ⟨v, r, rfl, _, hr⟩ := h
    obtain ⟨u, e1, e2⟩ := Reps.get (i := i) (d := x) hr (by simpa using e)
    exact ⟨u, by simpa using e1, e2⟩
theorem Reps.app {w : Vw} : ∀ {ds es : List D} {vs us : List V}, Reps w ds vs → Reps w es us → Reps w (ds ++ es) (vs ++ us)
  | [], _, vs, _, h, k => by
    have e : vs = [] := h
    rw [e]
    exact k
  | d :: ds, es, vs, us, h, k => by
    obtain ⟨v, r, rfl, hv, hr⟩ := h
    exact ⟨v, r ++ us, rfl, hv, hr.app k⟩
theorem Reps.nil {w : Vw} : Reps w [] [] := rfl
theorem Reps.cons {w : Vw} {d : D} {ds : List D} {v : V} {vs : List V} (h : Rep w d v) (k : Reps w ds vs) : Reps w (d :: ds) (v :: vs) := ⟨v, vs, rfl, h, k⟩
theorem Reps.one {w : Vw} {d : D} {v : V} (h : Rep w d v) : Reps w [d] [v] := .cons h .nil
theorem Reps.drop {w : Vw} : ∀ (n : Nat) {ds : List D} {vs : List V}, Reps w ds vs → Reps w (ds.drop n) (vs.drop n)
  | 0, _, _, h => h
  | _ + 1, [], vs, h => by
    have e : vs = [] := h
    rw [e]
    exact rfl
  | n + 1, d :: ds, vs, h => by
    obtain ⟨v, r, rfl, _, hr⟩ := h
    exact Reps.drop n hr
theorem Reps.take {w : Vw} : ∀ (n : Nat) {ds : List D} {vs : List V}, Reps w ds vs → Reps w (ds.take n) (vs.take n)
  | 0, _, _, _ => rfl
  | _ + 1, [], vs, h => by
    have e : vs = [] := h
    rw [e]
    exact rfl
  | n + 1, d :: ds, vs, h => by
    obtain ⟨v, r, rfl, hv, hr⟩ := h
    exact ⟨v, r.take n, rfl, hv, Reps.take n hr⟩
theorem Reps.set {w : Vw} {d : D} {v : V} (hd : Rep w d v) : ∀ (i : Nat) {ds : List D} {vs : List V}, Reps w ds vs → Reps w (ds.set i d) (vs.set i v)
  | _, [], vs, h => by
    have e : vs = [] := h
    rw [e]
    exact rfl
  | 0, x :: ds, vs, h => by
    obtain ⟨u, r, rfl, _, hr⟩ := h
    exact ⟨v, r, rfl, hd, hr⟩
  | i + 1, x :: ds, vs, h => by
    obtain ⟨u, r, rfl, hu, hr⟩ := h
    exact ⟨u, r.set i v, rfl, hu, Reps.set hd i hr⟩
theorem Reps.rev {w : Vw} : ∀ {ds : List D} {vs : List V}, Reps w ds vs → Reps w ds.reverse vs.reverse
  | [], vs, h => by
    have e : vs = [] := h
    rw [e]
    exact rfl
  | d :: ds, vs, h => by
    obtain ⟨v, r, rfl, hv, hr⟩ := h
    rw [List.reverse_cons, List.reverse_cons]
    exact hr.rev.app (.one hv)
theorem Reps.map {w : Vw} {α : Type} (f : α → D) (g : α → V) (k : ∀ a, Rep w (f a) (g a)) : ∀ l : List α, Reps w (l.map f) (l.map g)
  | [] => rfl
  | a :: l => ⟨g a, l.map g, rfl, k a, Reps.map f g k l⟩
theorem Reps.rep {w : Vw} {ds : List D} {vs : List V} (h : Reps w ds vs) : ∀ n : Nat, Reps w (List.replicate n ds).flatten (List.replicate n vs).flatten
  | 0 => rfl
  | n + 1 => by
    rw [List.replicate_succ, List.replicate_succ, List.flatten_cons, List.flatten_cons]
    exact h.app (h.rep n)

/-! ### a dict's pairs, an instance's attributes -/
def RepK (w : Vw) : List (List Nat × D) → List (Key × V) → Prop
  | [], es => es = []
  | (k, d) :: r, es => ∃ v t, es = (Sum.inr (toS k), v) :: t ∧ Rep w d v ∧ RepK w r t
def RepF (w : Vw) (nm : Nat → Str) : List (Nat × D) → List (Str × V) → Prop
  | [], es => es = []
  | (k, d) :: r, es => ∃ v t, es = (nm k, v) :: t ∧ Rep w d v ∧ RepF w nm r t
/-- names of the classes, attributes; where the classes stand -/
structure Nms where
  cls : Nat → Addr
  att : Nat → Str
  inj : ∀ i j, att i = att j → i = j
def RepO (w : Vw) (N : Nms) : O → Addr → Prop
  | .lst xs, a => ∃ vs, w.H a = some (.lst vs) ∧ Reps w xs vs
  | .dct kvs, a => ∃ es, w.H a = some (.dK es) ∧ RepK w kvs es
  | .fdc kvs, a => ∃ od es, w.H a = some (.frz od (.dK es)) ∧ RepK w kvs es
  | .ins c fs, a => ∃ dx es, w.H a = some (.ins (N.cls c) dx es) ∧ RepF w N.att fs es

def Live (ρ : Nat → Addr) (h : Hs) (a : Addr) : Prop := ∃ k o, h.o k = some o ∧ ρ k = a
def vw (K : PySem.W.Frag) (B : Addr → Prop) (ρ : Nat → Addr) (h : Hs) (H : Hp) : Vw := ⟨K, H, fun a => Live ρ h a ∨ B a, ρ, h.n⟩
/-- the small memory h stands in H by ρ; B: what belongs to others -/
structure Sim (K : PySem.W.Frag) (N : Nms) (B : Addr → Prop) (ρ : Nat → Addr) (h : Hs) (H : Hp) : Prop where
  wf : ∀ k o, h.o k = some o → k < h.n
  inj : ∀ j k o u, h.o j = some o → h.o k = some u → ρ j = ρ k → j = k
  obj : ∀ k o, h.o k = some o → RepO (vw K B ρ h H) N o (ρ k)
  blk : ∀ a, B a → ∃ o, H a = some o
  dis : ∀ k o, h.o k = some o → ¬ B (ρ k)
/-- from one state to a later one -/
structure Ext (ρ : Nat → Addr) (h : Hs) (H : Hp) (ρ' : Nat → Addr) (h' : Hs) (H' : Hp) : Prop where
  rho : ∀ k, k < h.n → ρ' k = ρ k
  le : h.n ≤ h'.n
  keep : ∀ a o, H a = some o → ¬ Live ρ h a → H' a = some o ∧ ¬ Live ρ' h' a
section
variable {K : PySem.W.Frag} {N : Nms} {B : Addr → Prop} {ρ ρ' ρ'' : Nat → Addr} {h h' h'' : Hs} {H H' H'' : Hp}
theorem Ext.refl : Ext ρ h H ρ h H := ⟨fun _ _ => rfl, Nat.le_refl _, fun _ _ e n => ⟨e, n⟩⟩
theorem Ext.trans (a : Ext ρ h H ρ' h' H') (b : Ext ρ' h' H' ρ'' h'' H'') : Ext ρ h H ρ'' h'' H'' :=
  ⟨fun k hk => (b.rho k (Nat.lt_of_lt_of_le hk a.le)).trans (a.rho k hk), Nat.le_trans a.le b.le, fun x o e n => b.keep x o (a.keep x o e n).1 (a.keep x o e n).2⟩
theorem RepO.some {w : Vw} : ∀ {o : O} {a : Addr}, RepO w N o a → ∃ u, w.H a = some u
  | .lst _, _, h => let ⟨_, e, _⟩ := h; ⟨_, e⟩
  | .dct _, _, h => let ⟨_, e, _⟩ := h; ⟨_, e⟩
  | .fdc _, _, h => let ⟨_, _, e, _⟩ := h; ⟨_, e⟩
  | .ins _ _, _, h => let ⟨_, _, e, _⟩ := h; ⟨_, e⟩
theorem Sim.live (s : Sim K N B ρ h H) {a : Addr} (l : Live ρ h a) : ∃ u, H a = some u := by
  obtain ⟨k, o, e, rfl⟩ := l
  exact (s.obj k o e).some
theorem Sim.new_free (s : Sim K N B ρ h H) {p : Addr} (e : H p = none) : ¬ (Live ρ h p ∨ B p) := by
  rintro (l | b)
  · obtain ⟨u, q⟩ := s.live l
    rw [e] at q
    cases q
  · obtain ⟨u, q⟩ := s.blk p b
    rw [e] at q
    cases q
theorem FzT.ext (E : Ext ρ h H ρ' h' H') {a : Addr} {xs : List V} (f : FzT (vw K B ρ h H) a xs) : FzT (vw K B ρ' h' H') a xs := by
  rcases f with ⟨r, n⟩ | f
  · have n1 : ¬ Live ρ h a := fun l => n (.inl l)
    have n2 : ¬ B a := fun b => n (.inr b)
    rcases r with r | ⟨o, r⟩
    · obtain ⟨e, l⟩ := E.keep a _ r n1
      exact .inl ⟨.inl e, fun q => q.elim l n2⟩
    · obtain ⟨e, l⟩ := E.keep a _ r n1
      exact .inl ⟨.inr ⟨o, e⟩, fun q => q.elim l n2⟩
  · exact .inr f
theorem FzL.ext (E : Ext ρ h H ρ' h' H') {a : Addr} {xs : List V} (f : FzL (vw K B ρ h H) a xs) : FzL (vw K B ρ' h' H') a xs := by
  obtain ⟨r, n⟩ := f
  have n1 : ¬ Live ρ h a := fun l => n (.inl l)
  have n2 : ¬ B a := fun b => n (.inr b)
  obtain ⟨e, l⟩ := E.keep a _ r n1
  exact ⟨e, fun q => q.elim l n2⟩
mutual
theorem Rep.ext (E : Ext ρ h H ρ' h' H') : ∀ (d : D) (v : V), Rep (vw K B ρ h H) d v → Rep (vw K B ρ' h' H') d v
  | .non, _, r => r
  | .bl _, _, r => r
  | .int _, _, r => r
  | .str _, _, r => r
  | .tup xs, _, r => by
    obtain ⟨a, vs, e, f, q⟩ := r
    exact ⟨a, vs, e, f.ext E, Reps.ext E xs vs q⟩
  | .lst xs, _, r => by
    obtain ⟨a, vs, e, f, q⟩ := r
    exact ⟨a, vs, e, f.ext E, Reps.ext E xs vs q⟩
  | .ref k, _, r => by
    obtain ⟨l, e⟩ := r
    exact ⟨Nat.lt_of_lt_of_le l E.le, e.trans (congrArg V.ref (E.rho k l).symm)⟩
  | .scr xs, _, r => by
    obtain ⟨a, e, f⟩ := r
    refine ⟨a, e, ?_⟩
    rcases f with ⟨f | ⟨o, f⟩, n⟩ | f
    · have n1 : ¬ Live ρ h a := fun l => n (.inl l)
      have n2 : ¬ B a := fun b => n (.inr b)
      obtain ⟨q, l⟩ := E.keep a _ f n1
      exact .inl ⟨.inl q, fun q => q.elim l n2⟩
    · have n1 : ¬ Live ρ h a := fun l => n (.inl l)
      have n2 : ¬ B a := fun b => n (.inr b)
      obtain ⟨q, l⟩ := E.keep a _ f n1
      exact .inl ⟨.inr ⟨o, q⟩, fun q => q.elim l n2⟩
    · exact .inr f
theorem Reps.ext (E : Ext ρ h H ρ' h' H') : ∀ (ds : List D) (vs : List V), Reps (vw K B ρ h H) ds vs → Reps (vw K B ρ' h' H') ds vs
  | [], _, r => r
  | d :: ds, _, r => by
    obtain ⟨v, t, e, q, q'⟩ := r
    exact ⟨v, t, e, Rep.ext E d v q, Reps.ext E ds t q'⟩
end
theorem RepK.ext (E : Ext ρ h H ρ' h' H') : ∀ {ks : List (List Nat × D)} {es : List (Key × V)}, RepK (vw K B ρ h H) ks es → RepK (vw K B ρ' h' H') ks es
  | [], _, r => r
  | (k, d) :: ks, _, r => by
    obtain ⟨v, t, e, q, q'⟩ := r
    exact ⟨v, t, e, Rep.ext E d v q, RepK.ext E q'⟩
theorem RepF.ext {nm : Nat → Str} (E : Ext ρ h H ρ' h' H') : ∀ {ks : List (Nat × D)} {es : List (Str × V)}, RepF (vw K B ρ h H) nm ks es → RepF (vw K B ρ' h' H') nm ks es
  | [], _, r => r
  | (k, d) :: ks, _, r => by
    obtain ⟨v, t, e, q, q'⟩ := r
    exact ⟨v, t, e, Rep.ext E d v q, RepF.ext E q'⟩
/-- an object whose place in the heap is as it was -/
theorem RepO.ext (E : Ext ρ h H ρ' h' H') {o : O} {a : Addr} (s : H' a = H a) (r : RepO (vw K B ρ h H) N o a) : RepO (vw K B ρ' h' H') N o a := by
  cases o with
  | lst xs =>
    obtain ⟨vs, e, q⟩ := r
    exact ⟨vs, s.trans e, q.ext E _ _⟩
  | dct kvs =>
    obtain ⟨es, e, q⟩ := r
    exact ⟨es, s.trans e, q.ext E⟩
  | fdc kvs =>
    obtain ⟨od, es, e, q⟩ := r
    exact ⟨od, es, s.trans e, q.ext E⟩
  | ins c fs =>
    obtain ⟨dx, es, e, q⟩ := r
    exact ⟨dx, es, s.trans e, q.ext E⟩

/-! ### steps -/
/-- something new that the small memory has not -/
theorem ext_new (s : Sim K N B ρ h H) {p : Addr} {u : HO} (e : H p = none) : Ext ρ h H ρ h (upd H p u) :=
  ⟨fun _ _ => rfl, Nat.le_refl _, fun a o q n => ⟨by rw [upd_ne (ne_of_none q e)]; exact q, n⟩⟩
theorem Sim.new (s : Sim K N B ρ h H) {p : Addr} {u : HO} (e : H p = none) : Sim K N B ρ h (upd H p u) := by
  have E := ext_new (u := u) s e
  refine ⟨s.wf, s.inj, fun k o q => ?_, fun a b => ?_, s.dis⟩
  · have r := s.obj k o q
    obtain ⟨v, hv⟩ := r.some
    exact r.ext E (upd_ne (ne_of_none hv e))
  · obtain ⟨o, q⟩ := s.blk a b
    exact ⟨o, by rw [upd_ne (ne_of_none q e)]; exact q⟩
theorem fzL_new (s : Sim K N B ρ h H) {p : Addr} {vs : List V} (e : H p = none) : FzL (vw K B ρ h (upd H p (.lst vs))) p vs := ⟨upd_same, s.new_free e⟩
theorem fzT_new (s : Sim K N B ρ h H) {p : Addr} {vs : List V} (e : H p = none) : FzT (vw K B ρ h (upd H p (.tup vs))) p vs := .inl ⟨.inl upd_same, s.new_free e⟩
def rset (ρ : Nat → Addr) (n : Nat) (p : Addr) : Nat → Addr := fun k => if k = n then p else ρ k
theorem rset_same {n : Nat} {p : Addr} : rset ρ n p n = p := if_pos rfl
theorem rset_ne {n k : Nat} {p : Addr} (e : k ≠ n) : rset ρ n p k = ρ k := if_neg e
theorem new_o {x : O} {k : Nat} : (h.new x).o k = if k = h.n then some x else h.o k := rfl
theorem put_o {x : O} {j k : Nat} : (h.put k x).o j = if j = k then some x else h.o j := rfl
theorem live_new (wf : ∀ k o, h.o k = some o → k < h.n) {p a : Addr} {x : O} : Live (rset ρ h.n p) (h.new x) a ↔ a = p ∨ Live ρ h a := by
  constructor
  · rintro ⟨k, o, e, rfl⟩
    rw [new_o] at e
    by_cases hk : k = h.n
    · left
      rw [hk, rset_same]
    · rw [if_neg hk] at e
      right
      rw [rset_ne hk]
      exact ⟨k, o, e, rfl⟩
  · rintro (rfl | ⟨k, o, e, rfl⟩)
    · exact ⟨h.n, x, by rw [new_o, if_pos rfl], rset_same⟩
    · have hk : k ≠ h.n := Nat.ne_of_lt (wf k o e)
      exact ⟨k, o, by rw [new_o, if_neg hk]; exact e, rset_ne hk⟩
/-- a new numbered object -/
theorem ext_mk (s : Sim K N B ρ h H) {p : Addr} {u : HO} {x : O} (e : H p = none) : Ext ρ h H (rset ρ h.n p) (h.new x) (upd H p u) := by
  refine ⟨fun k hk => rset_ne (Nat.ne_of_lt hk), Nat.le_succ _, fun a o q n => ⟨by rw [upd_ne (ne_of_none q e)]; exact q, fun l => ?_⟩⟩
  rcases (live_new s.wf).mp l with rfl | l
  · rw [e] at q
    cases q
  · exact n l
theorem Sim.mk' (s : Sim K N B ρ h H) {p : Addr} {u : HO} {x : O} (e : H p = none) (r : RepO (vw K B (rset ρ h.n p) (h.new x) (upd H p u)) N x p) : Sim K N B (rset ρ h.n p) (h.new x) (upd H p u) := by
  have E := ext_mk (u := u) (x := x) s e
  refine ⟨fun k o q => ?_, fun j k o v hj hk ej => ?_, fun k o q => ?_, fun a b => ?_, fun k o q => ?_⟩
  · rw [new_o] at q
    show k < h.n + 1
    by_cases hk : k = h.n
    · omega
    · rw [if_neg hk] at q
      have := s.wf k o q
      omega
  · rw [new_o] at hj hk
    by_cases h1 : j = h.n
    · by_cases h2 : k = h.n
      · rw [h1, h2]
      · rw [if_neg h2] at hk
        rw [h1, rset_same, rset_ne h2] at ej
        obtain ⟨z, hz⟩ := (s.obj k v hk).some
        have hz : H (ρ k) = some z := hz
        rw [← ej, e] at hz
        cases hz
    · rw [if_neg h1] at hj
      by_cases h2 : k = h.n
      · rw [h2, rset_same, rset_ne h1] at ej
        obtain ⟨z, hz⟩ := (s.obj j o hj).some
        have hz : H (ρ j) = some z := hz
        rw [ej, e] at hz
        cases hz
      · rw [if_neg h2] at hk
        rw [rset_ne h1, rset_ne h2] at ej
        exact s.inj j k o v hj hk ej
  · rw [new_o] at q
    by_cases hk : k = h.n
    · rw [if_pos hk] at q
      cases q
      rw [hk, rset_same]
      exact r
    · rw [if_neg hk] at q
      rw [rset_ne hk]
      have r0 := s.obj k o q
      obtain ⟨z, hz⟩ := r0.some
      exact r0.ext E (upd_ne (ne_of_none hz e))
  · obtain ⟨o, q⟩ := s.blk a b
    exact ⟨o, by rw [upd_ne (ne_of_none q e)]; exact q⟩
  · rw [new_o] at q
    by_cases hk : k = h.n
    · rw [hk, rset_same]
      exact fun b => s.new_free e (.inr b)
    · rw [if_neg hk] at q
      rw [rset_ne hk]
      exact s.dis k o q
theorem live_put {k : Nat} {x o : O} (e : h.o k = some o) {a : Addr} : Live ρ (h.put k x) a ↔ Live ρ h a := by
  constructor
  · rintro ⟨j, u, q, rfl⟩
    rw [put_o] at q
    by_cases hj : j = k
    · rw [hj]
      exact ⟨k, o, e, rfl⟩
    · rw [if_neg hj] at q
      exact ⟨j, u, q, rfl⟩
  · rintro ⟨j, u, q, rfl⟩
    by_cases hj : j = k
    · rw [hj]
      exact ⟨k, x, by rw [put_o, if_pos rfl], rfl⟩
    · exact ⟨j, u, by rw [put_o, if_neg hj]; exact q, rfl⟩
/-- a numbered object changed -/
theorem ext_put (s : Sim K N B ρ h H) {k : Nat} {o x : O} {u : HO} (e : h.o k = some o) : Ext ρ h H ρ (h.put k x) (upd H (ρ k) u) := by
  refine ⟨fun _ _ => rfl, Nat.le_refl _, fun a v q n => ⟨?_, fun l => n ((live_put e).mp l)⟩⟩
  have ne : a ≠ ρ k := fun z => n ⟨k, o, e, z.symm⟩
  rw [upd_ne ne]
  exact q
theorem Sim.put (s : Sim K N B ρ h H) {k : Nat} {o x : O} {u : HO} (e : h.o k = some o) (r : RepO (vw K B ρ (h.put k x) (upd H (ρ k) u)) N x (ρ k)) : Sim K N B ρ (h.put k x) (upd H (ρ k) u) := by
  have E := ext_put (u := u) (x := x) s e
  refine ⟨fun j v q => ?_, fun i j v w hi hj ej => ?_, fun j v q => ?_, fun a b => ?_, fun j v q => ?_⟩
  · rw [put_o] at q
    by_cases hj : j = k
    · rw [hj]
      exact s.wf k o e
    · rw [if_neg hj] at q
      exact s.wf j v q
  · have gi : ∃ z, h.o i = some z := by
      rw [put_o] at hi
      by_cases hk : i = k
      · rw [hk]; exact ⟨o, e⟩
      · rw [if_neg hk] at hi; exact ⟨v, hi⟩
    have gj : ∃ z, h.o j = some z := by
      rw [put_o] at hj
      by_cases hk : j = k
      · rw [hk]; exact ⟨o, e⟩
      · rw [if_neg hk] at hj; exact ⟨w, hj⟩
    obtain ⟨_, gi⟩ := gi
    obtain ⟨_, gj⟩ := gj
    exact s.inj i j _ _ gi gj ej
  · rw [put_o] at q
    by_cases hj : j = k
    · rw [if_pos hj] at q
      cases q
      rw [hj]
      exact r
    · rw [if_neg hj] at q
      have ne : ρ j ≠ ρ k := fun z => hj (s.inj j k v o q e z)
      exact (s.obj j v q).ext E (upd_ne ne)
  · obtain ⟨v, q⟩ := s.blk a b
    by_cases ha : a = ρ k
    · rw [ha]
      exact ⟨u, upd_same⟩
    · exact ⟨v, by rw [upd_ne ha]; exact q⟩
  · rw [put_o] at q
    by_cases hj : j = k
    · rw [hj]
      exact s.dis k o e
    · rw [if_neg hj] at q
      exact s.dis j v q
end
end Ev

/-! part EvOps -/
set_option maxRecDepth 100000
set_option maxHeartbeats 4000000
/-! Operations on values: the small machine's are the layer's. -/
namespace Ev
open PySem PySem.Spec PyProof.Rows L2

/-! ### the weakest readings -/
section
variable {X : Cx}
def wE (X : Cx) (e : Expr) : TE := fun σ H Q => ∀ pins s, Inv X pins σ H s → wpAny (model X.prog X.w) X.A (eval e X.env) (EP X pins σ Q) X.xe s
theorem pe_w {e : Expr} : PE X e (wE X e) := ⟨fun pins s _ _ _ I h => h pins s I⟩
theorem wE.of {e : Expr} {t : TE} {σ : L2.St} {H : Hp} {Q : VK} (p : PE X e t) (h : t σ H Q) : wE X e σ H Q := fun pins s I => p.run pins s σ H Q I h
def wT (X : Cx) (e : Expr) : TT := fun σ H Q => ∀ pins s, Inv X pins σ H s → wpAny (model X.prog X.w) X.A (isTrue e X.env (eval e X.env)) (TP X pins σ Q) X.xe s
theorem pt_w {e : Expr} : PT X e (wT X e) := ⟨fun pins s _ _ _ I h => h pins s I⟩
theorem wT.of {e : Expr} {t : TT} {σ : L2.St} {H : Hp} {Q : Bool → Hp → Prop} (p : PT X e t) (h : t σ H Q) : wT X e σ H Q := fun pins s I => p.run pins s σ H Q I h
def wA (X : Cx) (es : List Expr) : TA := fun σ H Q => ∀ pos pins s, Inv X pins σ H s → wpAny (model X.prog X.w) X.A (spliced (backTo pos (starEach es X.env))) (AP X pins σ Q) X.xe s
theorem pa_w {es : List Expr} : PA X es (wA X es) := ⟨fun pos pins s _ _ _ I h => h pos pins s I⟩
theorem wA.of {es : List Expr} {t : TA} {σ : L2.St} {H : Hp} {Q : List V → Hp → Prop} (p : PA X es t) (h : t σ H Q) : wA X es σ H Q := fun pos pins s I => p.run pos pins s σ H Q I h
def wS (X : Cx) (st : Stmt) : TS := fun D σ H => ∀ pins s, Inv X pins σ H s → wpAny (model X.prog X.w) X.A (exec st X.env) (SP X pins D) X.xe s
theorem ps_w {st : Stmt} : PS X st (wS X st) := ⟨fun pins s _ _ _ I h => h pins s I⟩
theorem wS.of {st : Stmt} {t : TS} {D : Ends} {σ : L2.St} {H : Hp} (p : PS X st t) (h : t D σ H) : wS X st D σ H := fun pins s I => p.run pins s σ H D I h
def wSs (X : Cx) (st : List Stmt) : TS := fun D σ H => ∀ pins s, Inv X pins σ H s → wpAny (model X.prog X.w) X.A (execs st X.env) (SP X pins D) X.xe s
theorem pss_w {st : List Stmt} : PSs X st (wSs X st) := ⟨fun pins s _ _ _ I h => h pins s I⟩
theorem wSs.of {st : List Stmt} {t : TS} {D : Ends} {σ : L2.St} {H : Hp} (p : PSs X st t) (h : t D σ H) : wSs X st D σ H := fun pins s I => p.run pins s σ H D I h
def wG (X : Cx) (tg : Expr) : TG := fun v σ H Q => ∀ pins s u, Inv X pins σ H s → RelV v u → wpAny (model X.prog X.w) X.A (assign tg X.env u) (fun _ s' => ∃ σ' H', Inv X pins σ' H' s' ∧ Q σ' H') X.xe s
theorem pg_w {tg : Expr} : PG X tg (wG X tg) := ⟨fun pins s _ _ _ u _ I r h => h pins s u I r⟩
theorem wG.of {tg : Expr} {t : TG} {v : V} {σ : L2.St} {H : Hp} {Q : L2.St → Hp → Prop} (p : PG X tg t) (h : t v σ H Q) : wG X tg v σ H Q := fun pins s u I r => p.run pins s σ H v u Q I r h
/-- by values -/
def wO (X : Cx) (f : Value → Value → Sem Value) : R2 := fun x y H Q => ∀ pins s σ v u, Inv X pins σ H s → RelV x v → RelV y u → wpAny (model X.prog X.w) X.A (f v u) (EP X pins σ Q) X.xe s
theorem or_w {f : Value → Value → Sem Value} : OpR X f (wO X f) := fun pins s σ _ _ _ v u _ I rx ry h => h pins s σ v u I rx ry
theorem wO.of {f : Value → Value → Sem Value} {t : R2} {x y : V} {H : Hp} {Q : VK} (p : OpR X f t) (h : t x y H Q) : wO X f x y H Q := fun pins s σ v u I rx ry => p pins s σ H x y v u Q I rx ry h
def wC (X : Cx) (f : Value) : List V → Hp → VK → Prop := fun xs H Q => ∀ pins s σ us, Inv X pins σ H s → Vals xs us → wpAny (model X.prog X.w) X.A (call f us) (EP X pins σ Q) X.xe s
theorem cr_w {f : Value} : CallR X f (wC X f) := fun pins s σ _ _ us _ I r h => h pins s σ us I r
theorem wC.of {f : Value} {t : List V → Hp → VK → Prop} {xs : List V} {H : Hp} {Q : VK} (p : CallR X f t) (h : t xs H Q) : wC X f xs H Q := fun pins s σ us I r => p pins s σ H xs us Q I r h
def wI (X : Cx) : R2 := fun x y H Q => ∀ (value slice : Expr) pins s σ v u, Inv X pins σ H s → RelV x v → RelV y u → subscripted slice false v u = operate [v, u] (getItem v u) → wpAny (model X.prog X.w) X.A (subscriptTail value slice v u) (EP X pins σ Q) X.xe s
theorem ix_w : IxR X (wI X) := fun value slice pins s σ _ _ _ v u _ I rx ry h hs => h value slice pins s σ v u I rx ry hs
theorem wI.of {t : R2} {x y : V} {H : Hp} {Q : VK} (p : IxR X t) (h : t x y H Q) : wI X x y H Q := fun value slice pins s σ v u I rx ry hs => p value slice pins s σ H x y v u Q I rx ry h hs
def wSl (X : Cx) : V → Option Int → Option Int → Hp → VK → Prop := fun x lo hi H Q => ∀ pins s σ v vl vu sl, Inv X pins σ H s → RelV x v → s.heap.IsSliceOf sl vl vu .none → IsPart vl lo → IsPart vu hi →
  ∃ T id, typeLookup (.type T) "__getitem__" = pure (some (.builtin id)) ∧ s.TypeIs v T ∧ wpAny (model X.prog X.w) X.A (getItem v (.ref sl)) (EP X pins σ Q) X.xe s
theorem sl_w : SlR X (wSl X) := fun pins s σ _ _ v vl vu _ _ sl _ I rx hs pl pu h => h pins s σ v vl vu sl I rx hs pl pu
theorem wSl.of {t : V → Option Int → Option Int → Hp → VK → Prop} {x : V} {lo hi : Option Int} {H : Hp} {Q : VK} (p : SlR X t) (h : t x lo hi H Q) : wSl X x lo hi H Q := fun pins s σ v vl vu sl I rx hs pl pu => p pins s σ H x v vl vu lo hi sl Q I rx hs pl pu h
end

/-! ### what is wanted behind a run of the small machine -/
def Post {α : Type} (K : PySem.W.Frag) (N : Nms) (B : Addr → Prop) (W : WX) (ρ : Nat → Addr) (h : Hs) (H : Hp) (r : R α) (k : α → Hs → (Nat → Addr) → Hp → Prop) : Prop := match r with
  | .ok a h' => ∀ ρ' H', Sim K N B ρ' h' H' → Ext ρ h H ρ' h' H' → k a h' ρ' H'
  | .exc c h' => ∀ σ' ρ' H', Sim K N B ρ' h' H' → Ext ρ h H ρ' h' H' → W (.ref (N.cls c)) none σ' H'
  | .stk => False
section
variable {α β : Type} {K : PySem.W.Frag} {N : Nms} {B : Addr → Prop} {W : WX} {ρ ρ' : Nat → Addr} {h h' : Hs} {H H' : Hp} {r : R α} {k k' : α → Hs → (Nat → Addr) → Hp → Prop}
theorem Post.mono (p : Post K N B W ρ h H r k) (f : ∀ a h' ρ' H', Sim K N B ρ' h' H' → Ext ρ h H ρ' h' H' → k a h' ρ' H' → k' a h' ρ' H') : Post K N B W ρ h H r k' := by
  cases r with
  | ok a h1 => exact fun ρ' H' s e => f a h1 ρ' H' s e (p ρ' H' s e)
  | exc c h1 => exact p
  | stk => exact p
theorem Post.from (e : Ext ρ h H ρ' h' H') (p : Post K N B W ρ h H r k) : Post K N B W ρ' h' H' r k := by
  cases r with
  | ok a h1 => exact fun ρ2 H2 s e2 => p ρ2 H2 s (e.trans e2)
  | exc c h1 => exact fun σ2 ρ2 H2 s e2 => p σ2 ρ2 H2 s (e.trans e2)
  | stk => exact p
theorem Post.bind {f : α → Hs → R β} {k : β → Hs → (Nat → Addr) → Hp → Prop} (p : Post K N B W ρ h H (r.bind f) k) : Post K N B W ρ h H r (fun a h1 ρ1 H1 => Post K N B W ρ1 h1 H1 (f a h1) k) := by
  cases r with
  | ok a h1 => exact fun ρ1 H1 s e => Post.from e p
  | exc c h1 => exact p
  | stk => exact p
theorem Post.unbind {f : α → Hs → R β} {k : β → Hs → (Nat → Addr) → Hp → Prop} (p : Post K N B W ρ h H r (fun a h1 ρ1 H1 => Post K N B W ρ1 h1 H1 (f a h1) k))
    (S : ∀ a h1, r = .ok a h1 → ∃ c : Prop, True) : True := trivial
theorem Post.okIf {c : Bool} {a : α} (p : Post K N B W ρ h H (okIf c a h') k) : c = true ∧ Post K N B W ρ h H (.ok a h') k := by
  cases c with
  | true => exact ⟨rfl, p⟩
  | false => exact False.elim p
theorem Post.ofO {x : Option α} (p : Post K N B W ρ h H (ofO x h') k) : ∃ a, x = some a ∧ Post K N B W ρ h H (.ok a h') k := by
  cases x with
  | some a => exact ⟨a, rfl, p⟩
  | none => exact False.elim p
theorem Post.now {a : α} (p : Post K N B W ρ h H (.ok a h) k) (s : Sim K N B ρ h H) : k a h ρ H := p ρ H s .refl
end

/-- a value wanted -/
abbrev kV' (K : PySem.W.Frag) (B : Addr → Prop) (Q : VK) : D → Hs → (Nat → Addr) → Hp → Prop := fun d h ρ H => ∀ v, Rep (vw K B ρ h H) d v → Q v H

theorem big_eq : big = sizeLine := by rw [sizeLine_eq]; rfl

section
variable {X : Cx} {N : Nms} {B : Addr → Prop} {W : WX} {ρ : Nat → Addr} {h : Hs} {H : Hp} {Q : VK} {x y : D} {v u : V}
abbrev P1 (X : Cx) (N : Nms) (B : Addr → Prop) (W : WX) (ρ : Nat → Addr) (h : Hs) (H : Hp) (r : R D) (Q : VK) : Prop := Post X.K N B W ρ h H r (kV' X.K B Q)
/-- a new list that stays as it is -/
theorem P1.lst {ds : List D} {vs : List V} (p : P1 X N B W ρ h H (.ok (.lst ds) h) Q) (S : Sim X.K N B ρ h H) (r : Reps (vw X.K B ρ h H) ds vs) {q : Addr} (hq : H q = none) : Q (.ref q) (upd H q (.lst vs)) :=
  p ρ _ (S.new hq) (ext_new S hq) (.ref q) ⟨q, vs, rfl, fzL_new S hq, r.ext (ext_new S hq) _ _⟩
theorem P1.tup {ds : List D} {vs : List V} (p : P1 X N B W ρ h H (.ok (.tup ds) h) Q) (S : Sim X.K N B ρ h H) (r : Reps (vw X.K B ρ h H) ds vs) {q : Addr} (hq : H q = none) : Q (.ref q) (upd H q (.tup vs)) :=
  p ρ _ (S.new hq) (ext_new S hq) (.ref q) ⟨q, vs, rfl, fzT_new S hq, r.ext (ext_new S hq) _ _⟩
theorem P1.val {d : D} (p : P1 X N B W ρ h H (.ok d h) Q) (S : Sim X.K N B ρ h H) (r : Rep (vw X.K B ρ h H) d v) : Q v H := p ρ H S .refl v r

def opOf : BOp → Operator
  | .add => .Add
  | .sub => .Sub
  | .mul => .Mult
  | .mod => .Mod
  | .fdv => .FloorDiv
theorem op_mulG : OpR X (binaryOp .Mult) (rI IntMulOk fun i j => .int (i * j)) := opI fun _ _ _ _ _ _ _ hc q => mul_int q hc
theorem mulOk_ok {i j : Int} (c : mulOk i j = true) : IntMulOk i j := by
  unfold mulOk at c
  rcases of_decide_eq_true c with ⟨h1, h2⟩ | ⟨h1, h2⟩ | h3
  · exact .of_left (intBits_le_64 h1 h2)
  · exact .of_right (intBits_le_64 h1 h2)
  · have b : ∀ x : Int, Builtin.Int.intBits x ≤ x.natAbs.log2 + 1 := fun x => by
      unfold Builtin.Int.intBits
      split <;> omega
    have h1 := b i
    have h2 := b j
    have e : bitsLine = 134217728 := by decide
    unfold IntMulOk
    intro z
    rw [Bool.and_eq_true] at z
    have z2 := z.2
    unfold Builtin.Int.intTooBig at z2
    have z4 := of_decide_eq_true z2
    rw [e] at z4
    omega
theorem foldl_flat (xs : List (Array Nat)) : ∀ acc : Array Nat, (xs.foldl (fun x1 x2 => x1 ++ x2) acc).toList = acc.toList ++ (xs.map Array.toList).flatten := by
  induction xs with
  | nil => intro acc; simp
  | cons x xs ih => intro acc; rw [List.foldl_cons, ih]; simp
/-- a text so many times -/
theorem op_mulS : OpR X (binaryOp .Mult) (fun x y H Q => ∃ (a : List Nat) (k : Int), x = .str (toS a) ∧ y = .int k ∧ -(2 ^ 63) ≤ k ∧ k < 2 ^ 63 ∧ a.length * k.toNat ≤ sizeLine ∧ Q (.str (toS (List.replicate k.toNat a).flatten)) H) := by
  intro pins s σ H x y v u Q I rx ry h
  obtain ⟨a, k, rfl, rfl, h1, h2, hz, q⟩ := h
  obtain ⟨t, rfl⟩ := rx
  obtain ⟨t', rfl⟩ := ry
  have hl := sizeLine_eq
  refine PySem.P.mul_str (x := toS a) (n := k) (t := t) (u := t') ?_ (fun c1 c2 => ?_) (fun c1 c2 => ?_) ?_
  · rw [decide_eq_false (by omega), decide_eq_false (by omega)]
    rfl
  · rw [toS_len]
    intro c
    have hk : 0 < k := by omega
    have e1 : (a.length : Int) * k ≤ 2 ^ 63 - 1 := by
      have e2 : ((a.length * k.toNat : Nat) : Int) = (a.length : Int) * k := by
        rw [Int.natCast_mul, Int.toNat_of_nonneg (by omega)]
      rw [← e2]
      omega
    have e3 : (a.length : Int) ≤ (2 ^ 63 - 1) / k := (Int.le_ediv_iff_mul_le hk).mpr e1
    omega
  · rw [toS_len]
    unfold Builtin.Str.tooLong
    exact decide_eq_false (by omega)
  · by_cases c : k < 1
    · rw [if_pos c]
      have e : k.toNat = 0 := by omega
      rw [e] at q
      exact ⟨by decide, ⟨.str Str.empty, H, I.tok _, ⟨_, rfl⟩, q⟩⟩
    · rw [if_neg c]
      by_cases c2 : (k == 1 || (toS a).length == 0) = true
      · rw [if_pos c2]
        refine ⟨.str (toS a), H, I, ⟨_, rfl⟩, ?_⟩
        have e : (List.replicate k.toNat a).flatten = a := by
          rw [Bool.or_eq_true] at c2
          rcases c2 with c2 | c2
          · have : k = 1 := by simpa using c2
            rw [this]
            simp
          · rw [toS_len] at c2
            have : a = [] := List.eq_nil_of_length_eq_zero (by simpa using c2)
            rw [this]
            simp
        rw [e] at q
        exact q
      · rw [if_neg c2]
        have e : (⟨(List.replicate k.toNat (toS a).cps).foldl (fun x1 x2 => x1 ++ x2) #[]⟩ : Str) = toS (List.replicate k.toNat a).flatten := by
          have e1 := foldl_flat (List.replicate k.toNat (toS a).cps) #[]
          unfold toS
          congr 1
          apply Array.toList_inj.mp
          rw [show (toS a).cps = a.toArray from rfl] at e1
          refine e1.trans ?_
          simp
        refine ⟨?_, ⟨.str (toS (List.replicate k.toNat a).flatten), H, I.tok _, ⟨_, by rw [← e]⟩, q⟩⟩
        rw [e, toS_len, PyProof.Rows.lm_len_rep_flat, Nat.mul_comm]
        exact hz
theorem empty_iff {w : Vw} {ds : List D} {vs : List V} (r : Reps w ds vs) : vs = [] ↔ ds = [] := by
  have e := r.len
  constructor
  · intro z
    rw [z] at e
    exact List.eq_nil_of_length_eq_zero e.symm
  · intro z
    rw [z] at e
    exact List.eq_nil_of_length_eq_zero e
theorem lsts_rep (S : Sim X.K N B ρ h H) {ds : List D} (rx : Rep (vw X.K B ρ h H) x v) (e : lsts h x = some ds) : ∃ a vs, v = .ref a ∧ H a = some (.lst vs) ∧ Reps (vw X.K B ρ h H) ds vs := by
  cases x <;> first | (cases e; done) | skip
  · cases e
    obtain ⟨a, vs, rfl, f, r⟩ := rx
    exact ⟨a, vs, rfl, f.1, r⟩
  · rename_i n
    obtain ⟨hn, rfl⟩ := rx
    unfold lsts at e
    cases eo : h.o n with
    | none => simp only [eo] at e; cases e
    | some o =>
      simp only [eo] at e
      cases o <;> first | (cases e; done) | skip
      cases e
      obtain ⟨vs, he, r⟩ := S.obj n _ eo
      exact ⟨_, vs, rfl, he, r⟩
theorem bin_ok (op : BOp) (S : Sim X.K N B ρ h H) (rx : Rep (vw X.K B ρ h H) x v) (ry : Rep (vw X.K B ρ h H) y u) (p : P1 X N B W ρ h H (bin op x y h) Q) : wO X (binaryOp (opOf op)) v u H Q := by
  cases op with
  | add =>
    cases x <;> cases y <;> first | exact False.elim p | skip
    · cases rx; cases ry
      exact wO.of op_add ⟨_, _, rfl, rfl, P1.val p S rfl⟩
    · obtain ⟨c, p⟩ := Post.okIf p
      cases rx; cases ry
      refine wO.of op_add_str ⟨_, _, rfl, rfl, ?_, ?_⟩
      · rw [toS_len, toS_len, ← big_eq]
        exact of_decide_eq_true c
      · rw [toS_app]
        exact P1.val p S rfl
    · obtain ⟨c, p⟩ := Post.okIf p
      obtain ⟨a, vs, rfl, f, rs⟩ := rx
      obtain ⟨b, us, rfl, g, rt⟩ := ry
      refine wO.of op_catA ⟨a, b, vs, us, rfl, rfl, f.sq, g.sq, ?_, fun e => ?_, fun _ e => ?_, fun _ _ q hq => P1.tup p S (rs.app rt) hq⟩
      · rw [rs.len, rt.len, ← big_eq]
        exact of_decide_eq_true c
      · refine P1.val p S ⟨b, us, rfl, g, ?_⟩
        rw [(empty_iff rs).mp e]
        exact rt
      · refine P1.val p S ⟨a, vs, rfl, f, ?_⟩
        rw [(empty_iff rt).mp e, List.append_nil]
        exact rs
    · obtain ⟨c, p⟩ := Post.okIf p
      obtain ⟨a, vs, rfl, ⟨f1, f2⟩, rs⟩ := rx
      obtain ⟨b, us, rfl, ⟨g1, g2⟩, rt⟩ := ry
      refine wO.of op_cat ⟨a, b, vs, us, rfl, rfl, f1, g1, ?_, fun q hq => P1.lst p S (rs.app rt) hq⟩
      rw [rs.len, rt.len, ← big_eq]
      exact of_decide_eq_true c
  | sub =>
    cases x <;> cases y <;> first | exact False.elim p | skip
    cases rx; cases ry
    exact wO.of op_sub ⟨_, _, rfl, rfl, P1.val p S rfl⟩
  | mul =>
    cases x <;> cases y <;> first | exact False.elim p | skip
    · obtain ⟨c, p⟩ := Post.okIf p
      cases rx; cases ry
      exact wO.of op_mulG ⟨_, _, rfl, rfl, mulOk_ok c, P1.val p S rfl⟩
    · obtain ⟨c, p⟩ := Post.okIf p
      cases rx; cases ry
      rw [Bool.and_eq_true, Bool.and_eq_true] at c
      exact wO.of op_mulS ⟨_, _, rfl, rfl, of_decide_eq_true c.1, of_decide_eq_true c.2.1, by rw [← big_eq]; exact of_decide_eq_true c.2.2, P1.val p S rfl⟩
    · rename_i xx k
      have p' : P1 X N B W ρ h H (match lsts h (.lst xx) with
        | some a => okIf (decide (-(2 ^ 63) ≤ k) && (decide (k < 2 ^ 63) && decide (a.length * k.toNat ≤ big))) (.lst (List.replicate k.toNat a).flatten) h
        | none => (.stk : R D)) Q := p
      cases e : lsts h (.lst xx) with
      | none => rw [e] at p'; exact False.elim p'
      | some ds =>
        rw [e] at p'
        obtain ⟨c, p2⟩ := Post.okIf p'
        cases ry
        obtain ⟨a, vs, rfl, sq, r⟩ := lsts_rep S rx e
        rw [Bool.and_eq_true, Bool.and_eq_true] at c
        exact wO.of op_rep ⟨a, k, vs, rfl, rfl, sq, of_decide_eq_true c.1, of_decide_eq_true c.2.1, by rw [r.len, ← big_eq]; exact of_decide_eq_true c.2.2, fun q hq => P1.lst p2 S (r.rep _) hq⟩
    · rename_i xx k
      have p' : P1 X N B W ρ h H (match lsts h (.ref xx) with
        | some a => okIf (decide (-(2 ^ 63) ≤ k) && (decide (k < 2 ^ 63) && decide (a.length * k.toNat ≤ big))) (.lst (List.replicate k.toNat a).flatten) h
        | none => (.stk : R D)) Q := p
      cases e : lsts h (.ref xx) with
      | none => rw [e] at p'; exact False.elim p'
      | some ds =>
        rw [e] at p'
        obtain ⟨c, p2⟩ := Post.okIf p'
        cases ry
        obtain ⟨a, vs, rfl, sq, r⟩ := lsts_rep S rx e
        rw [Bool.and_eq_true, Bool.and_eq_true] at c
        exact wO.of op_rep ⟨a, k, vs, rfl, rfl, sq, of_decide_eq_true c.1, of_decide_eq_true c.2.1, by rw [r.len, ← big_eq]; exact of_decide_eq_true c.2.2, fun q hq => P1.lst p2 S (r.rep _) hq⟩
  | mod =>
    cases x <;> cases y <;> first | exact False.elim p | skip
    obtain ⟨c, p⟩ := Post.okIf p
    cases rx; cases ry
    exact wO.of op_mod ⟨_, _, rfl, rfl, of_decide_eq_true c, P1.val p S rfl⟩
  | fdv =>
    cases x <;> cases y <;> first | exact False.elim p | skip
    obtain ⟨c, p⟩ := Post.okIf p
    cases rx; cases ry
    rw [Bool.and_eq_true] at c
    exact wO.of op_fdiv ⟨_, _, rfl, rfl, ⟨of_decide_eq_true c.1, of_decide_eq_true c.2⟩, P1.val p S rfl⟩

/-! ### comparisons -/
mutual
def toP : D → PyData
  | .non => .none
  | .bl b => .bool b
  | .int i => .int i
  | .str x => .str (toS x)
  | .tup xs => .tuple (toPs xs)
  | .lst xs => .list (toPs xs)
  | .ref _ => .none
  | .scr xs => .list (xs.map .int)
def toPs : List D → List PyData
  | [] => []
  | x :: r => toP x :: toPs r
end
mutual
theorem dp_of {n : Nat} : ∀ {d : D} {v : V}, dok n d = true → Rep (vw X.K B ρ h H) d v → Dp X.K H v (toP d)
  | .non, _, _, r => by cases r; rw [toP]; exact .non
  | .bl _, _, _, r => by cases r; rw [toP]; exact .bl _
  | .int _, _, _, r => by cases r; rw [toP]; exact .int _
  | .str _, _, _, r => by cases r; rw [toP]; exact .str _
  | .tup xs, _, o, r => by
    obtain ⟨a, vs, rfl, f, q⟩ := r
    rw [toP]
    cases n with
    | zero => exact absurd o (by simp [dok])
    | succ n => exact .tup f.sq (dps_of (n := n) (by simpa [dok] using o) q)
  | .lst xs, _, o, r => by
    obtain ⟨a, vs, rfl, f, q⟩ := r
    rw [toP]
    cases n with
    | zero => exact absurd o (by simp [dok])
    | succ n => exact .lst (.of f.1) (dps_of (n := n) (by simpa [dok] using o) q)
  | .ref _, _, o, _ => absurd o (by simp [dok])
  | .scr _, _, o, _ => absurd o (by simp [dok])
theorem dps_of {n : Nat} : ∀ {ds : List D} {vs : List V}, doks n ds = true → Reps (vw X.K B ρ h H) ds vs → DpAll X.K H vs (toPs ds)
  | [], _, _, r => by
    cases (show _ = _ from r)
    rw [toPs]
    exact .nil
  | d :: ds, _, o, r => by
    obtain ⟨v, t, rfl, q, q'⟩ := r
    have o' : (dok n d && doks n ds) = true := by
      rw [doks] at o
      exact o
    rw [Bool.and_eq_true] at o'
    rw [toPs]
    exact .cons (dp_of o'.1 q) (dps_of o'.2 q')
end
theorem strOk_of {x : List Nat} (c : (x.all fun c => decide (c < 128)) = true) : PyData.canLay0 (.str (toS x)) = true := by
  unfold PyData.canLay0 PyData.strOk
  show (x.toArray.all (· < 0x110000)) = true
  simp only [List.all_toArray]
  rw [List.all_eq_true] at c ⊢
  intro z hz
  have := of_decide_eq_true (c z hz)
  exact decide_eq_true (by omega)
mutual
theorem lay_of : ∀ {n : Nat} {d : D}, dok n d = true → (toP d).canLay0 = true ∧ (toP d).depth ≤ n
  | _, .non, _ => by simp [toP, PyData.canLay0, PyData.depth]
  | _, .bl _, _ => by simp [toP, PyData.canLay0, PyData.depth]
  | _, .int _, _ => by simp [toP, PyData.canLay0, PyData.depth]
  | _, .str x, o => ⟨by rw [toP]; exact strOk_of (by simpa [dok] using o), by simp [toP, PyData.depth]⟩
  | 0, .tup _, o => absurd o (by simp [dok])
  | n + 1, .tup xs, o => by
    rw [toP, PyData.canLay0, PyData.depth]
    obtain ⟨a, b⟩ := lays_of (n := n) (ds := xs) (by simpa [dok] using o)
    exact ⟨a, by omega⟩
  | 0, .lst _, o => absurd o (by simp [dok])
  | n + 1, .lst xs, o => by
    rw [toP, PyData.canLay0, PyData.depth]
    obtain ⟨a, b⟩ := lays_of (n := n) (ds := xs) (by simpa [dok] using o)
    exact ⟨a, by omega⟩
  | _, .ref _, o => absurd o (by simp [dok])
  | _, .scr _, o => absurd o (by simp [dok])
theorem lays_of : ∀ {n : Nat} {ds : List D}, doks n ds = true → PyData.canLayAll0 (toPs ds) = true ∧ PyData.depthAll (toPs ds) ≤ n
  | _, [], _ => by simp [toPs, PyData.canLayAll0, PyData.depthAll]
  | n, d :: ds, o => by
    rw [doks, Bool.and_eq_true] at o
    obtain ⟨a, b⟩ := lay_of o.1
    obtain ⟨a2, b2⟩ := lays_of o.2
    rw [toPs, PyData.canLayAll0, PyData.depthAll, a, a2]
    exact ⟨rfl, by omega⟩
end
theorem shaped_of {d : D} (o : dok 60 d = true) : SeqAt.shaped (toP d) = true := by
  obtain ⟨a, b⟩ := lay_of o
  unfold SeqAt.shaped
  rw [a, decide_eq_true (by omega)]
  rfl
mutual
theorem eqv_of : ∀ {n m : Nat} {x y : D}, dok n x = true → dok m y = true → cmpb x y = true → PyData.eqv (toP x) (toP y) = decide (x = y)
  | n, m, x, y, ox, oy, c => by
    cases x <;> cases y <;> first
      | (exfalso; revert c; simp [cmpb]; done)
      | (exfalso; revert ox; simp [dok]; done)
      | (exfalso; revert oy; simp [dok]; done)
      | (simp [toP, PyData.eqv]; done)
      | (simp only [toP, PyData.eqv]; rw [Bool.eq_iff_iff]; simp; done)
      | (simp only [toP, PyData.eqv]; rw [Bool.eq_iff_iff]; simp; exact ⟨toS_inj, fun e => by rw [e]⟩)
      | skip
    · cases n with
      | zero => exact absurd ox (by simp [dok])
      | succ n =>
        cases m with
        | zero => exact absurd oy (by simp [dok])
        | succ m =>
          rw [toP, toP, PyData.eqv, eqvs_of (n := n) (m := m) (by simpa [dok] using ox) (by simpa [dok] using oy) (by simpa [cmpb] using c)]
          simp
    · cases n with
      | zero => exact absurd ox (by simp [dok])
      | succ n =>
        cases m with
        | zero => exact absurd oy (by simp [dok])
        | succ m =>
          rw [toP, toP, PyData.eqv, eqvs_of (n := n) (m := m) (by simpa [dok] using ox) (by simpa [dok] using oy) (by simpa [cmpb] using c)]
          simp
theorem eqvs_of : ∀ {n m : Nat} {xs ys : List D}, doks n xs = true → doks m ys = true → cmpbs xs ys = true → PyData.eqvAll (toPs xs) (toPs ys) = decide (xs = ys)
  | _, _, [], [], _, _, _ => by simp [toPs, PyData.eqvAll]
  | _, _, [], _ :: _, _, _, _ => by simp [toPs, PyData.eqvAll]
  | _, _, _ :: _, [], _, _, _ => by simp [toPs, PyData.eqvAll]
  | n, m, x :: xs, y :: ys, ox, oy, c => by
    rw [doks, Bool.and_eq_true] at ox oy
    rw [cmpbs, Bool.and_eq_true] at c
    rw [toPs, toPs, PyData.eqvAll, eqv_of ox.1 oy.1 c.1, eqvs_of ox.2 oy.2 c.2]
    by_cases h1 : x = y <;> by_cases h2 : xs = ys <;> simp [h1, h2]
end
theorem scal_of {x y : D} {v u : V} (fx : flat x = true) (fy : flat y = true) (c : cmpb x y = true) (rx : Rep (vw X.K B ρ h H) x v) (ry : Rep (vw X.K B ρ h H) y u) : scal v u = true ∧ decide (v = u) = decide (x = y) := by
  cases x <;> cases y <;> first
    | (exfalso; revert c; simp [cmpb]; done)
    | (exfalso; revert fx; simp [flat]; done)
    | (exfalso; revert fy; simp [flat]; done)
    | (cases rx; cases ry; refine ⟨rfl, ?_⟩; rw [Bool.eq_iff_iff]; simp; done)
    | (cases rx; cases ry; refine ⟨rfl, ?_⟩; rw [Bool.eq_iff_iff]; simp; exact ⟨toS_inj, fun e => by rw [e]⟩)
theorem eq_ok (hu : X.A.units + 64 < cLine) (S : Sim X.K N B ρ h H) (rx : Rep (vw X.K B ρ h H) x v) (ry : Rep (vw X.K B ρ h H) y u) {b : Bool} (e : eqd x y = some b) (q : Q (.bl b) H) : wO X (compareOp .Eq) v u H Q := by
  unfold eqd at e
  cases c1 : (flat x && flat y && cmpb x y) with
  | true =>
    rw [c1] at e
    have eb : decide (x = y) = b := Option.some.inj e
    rw [Bool.and_eq_true, Bool.and_eq_true] at c1
    obtain ⟨s1, s2⟩ := scal_of c1.1.1 c1.1.2 c1.2 rx ry
    exact wO.of op_eq ⟨s1, by rw [s2, eb]; exact q⟩
  | false =>
    rw [c1] at e
    cases c2 : (dok 60 x && (dok 60 y && cmpb x y)) with
    | true =>
      rw [c2] at e
      have eb : decide (x = y) = b := Option.some.inj e
      rw [Bool.and_eq_true, Bool.and_eq_true] at c2
      exact wO.of (op_eqD hu) ⟨_, _, dp_of c2.1 rx, dp_of c2.2.1 ry, shaped_of c2.1, shaped_of c2.2.1, by rw [eqv_of c2.1 c2.2.1 c2.2.2, eb]; exact q⟩
    | false =>
      rw [c2] at e
      cases x <;> first | (cases e; done) | skip
      rename_i xs
      cases y <;> first | (cases e; done) | skip
      rename_i ys
      cases ys with
      | cons a t => exact absurd e (by intro z; cases z)
      | nil =>
        have eb : xs.isEmpty = b := Option.some.inj e
        obtain ⟨a, rfl, f⟩ := rx
        obtain ⟨a2, vs, rfl, ⟨g, n2⟩, q2⟩ := ry
        cases (show vs = [] from q2)
        have d1 : ∀ l : List Int, DpAll X.K H (l.map V.int) (l.map PyData.int) := fun l => by
          induction l with
          | nil => exact .nil
          | cons i l ih => exact .cons (.int i) ih
        have l1 : ∀ l : List Int, PyData.canLayAll0 (l.map PyData.int) = true ∧ PyData.depthAll (l.map PyData.int) = 0 := fun l => by
          induction l with
          | nil => exact ⟨by simp [PyData.canLayAll0], by simp [PyData.depthAll]⟩
          | cons i l ih =>
            rw [List.map_cons, PyData.canLayAll0, PyData.depthAll, ih.1, ih.2]
            exact ⟨by simp [PyData.canLay0], by simp [PyData.depth]⟩
        refine wO.of (op_eqD hu) ⟨.list (xs.map .int), .list [], .lst f.sq (d1 xs), .lst (.of g) .nil, ?_, ?_, ?_⟩
        · unfold SeqAt.shaped
          rw [PyData.canLay0, PyData.depth, (l1 xs).1, (l1 xs).2]
          rfl
        · unfold SeqAt.shaped
          rw [PyData.canLay0, PyData.depth, PyData.canLayAll0, PyData.depthAll]
          rfl
        · have ee : PyData.eqv (.list (xs.map .int)) (.list []) = xs.isEmpty := by
            cases xs <;> simp [PyData.eqv, PyData.eqvAll]
          rw [ee, eb]
          exact q
theorem ne_ok (hu : X.A.units + 64 < cLine) (S : Sim X.K N B ρ h H) (rx : Rep (vw X.K B ρ h H) x v) (ry : Rep (vw X.K B ρ h H) y u) {b : Bool} (e : eqd x y = some b) (q : Q (.bl (!b)) H) : wO X (compareOp .NotEq) v u H Q := by
  unfold eqd at e
  cases c1 : (flat x && flat y && cmpb x y) with
  | true =>
    rw [c1] at e
    have eb : decide (x = y) = b := Option.some.inj e
    rw [Bool.and_eq_true, Bool.and_eq_true] at c1
    obtain ⟨s1, s2⟩ := scal_of c1.1.1 c1.1.2 c1.2 rx ry
    exact wO.of op_ne ⟨s1, by rw [s2, eb]; exact q⟩
  | false =>
    rw [c1] at e
    cases c2 : (dok 60 x && (dok 60 y && cmpb x y)) with
    | true =>
      rw [c2] at e
      have eb : decide (x = y) = b := Option.some.inj e
      rw [Bool.and_eq_true, Bool.and_eq_true] at c2
      exact wO.of (op_neD hu) ⟨_, _, dp_of c2.1 rx, dp_of c2.2.1 ry, shaped_of c2.1, shaped_of c2.2.1, by rw [eqv_of c2.1 c2.2.1 c2.2.2, eb]; exact q⟩
    | false =>
      rw [c2] at e
      cases x <;> first | (cases e; done) | skip
      rename_i xs
      cases y <;> first | (cases e; done) | skip
      rename_i ys
      cases ys with
      | cons a t => exact absurd e (by intro z; cases z)
      | nil =>
        have eb : xs.isEmpty = b := Option.some.inj e
        obtain ⟨a, rfl, f⟩ := rx
        obtain ⟨a2, vs, rfl, ⟨g, n2⟩, q2⟩ := ry
        cases (show vs = [] from q2)
        have d1 : ∀ l : List Int, DpAll X.K H (l.map V.int) (l.map PyData.int) := fun l => by
          induction l with
          | nil => exact .nil
          | cons i l ih => exact .cons (.int i) ih
        have l1 : ∀ l : List Int, PyData.canLayAll0 (l.map PyData.int) = true ∧ PyData.depthAll (l.map PyData.int) = 0 := fun l => by
          induction l with
          | nil => exact ⟨by simp [PyData.canLayAll0], by simp [PyData.depthAll]⟩
          | cons i l ih =>
            rw [List.map_cons, PyData.canLayAll0, PyData.depthAll, ih.1, ih.2]
            exact ⟨by simp [PyData.canLay0], by simp [PyData.depth]⟩
        refine wO.of (op_neD hu) ⟨.list (xs.map .int), .list [], .lst f.sq (d1 xs), .lst (.of g) .nil, ?_, ?_, ?_⟩
        · unfold SeqAt.shaped
          rw [PyData.canLay0, PyData.depth, (l1 xs).1, (l1 xs).2]
          rfl
        · unfold SeqAt.shaped
          rw [PyData.canLay0, PyData.depth, PyData.canLayAll0, PyData.depthAll]
          rfl
        · have ee : PyData.eqv (.list (xs.map .int)) (.list []) = xs.isEmpty := by
            cases xs <;> simp [PyData.eqv, PyData.eqvAll]
          rw [ee, eb]
          exact q

theorem dlst_of {n : Nat} {k : Nat} {xs : List D} {u : V} (S : Sim X.K N B ρ h H) (eo : h.o k = some (.lst xs)) (c : dok 60 (.lst xs) = true) (rx : Rep (vw X.K B ρ h H) (.ref k) u) : Dp X.K H u (toP (.lst xs)) := by
  obtain ⟨hn, rfl⟩ := rx
  obtain ⟨vs, he, q⟩ := S.obj k _ eo
  rw [toP]
  exact .lst (.of he) (dps_of (n := 59) (by simpa [dok] using c) q)
theorem dr_of {x : D} {v : V} (S : Sim X.K N B ρ h H) (c : dok 60 (dr x h) = true) (rx : Rep (vw X.K B ρ h H) x v) : Dp X.K H v (toP (dr x h)) := by
  cases x with
  | ref k =>
    cases eo : h.o k with
    | none =>
      have e : dr (.ref k) h = .ref k := by unfold dr; simp only [eo]
      rw [e] at c
      exact absurd c (by simp [dok])
    | some o =>
      cases o with
      | lst xs =>
        have e : dr (.ref k) h = .lst xs := by unfold dr; simp only [eo]
        rw [e] at c ⊢
        exact dlst_of (n := 0) S eo c rx
      | dct _ =>
        have e : dr (.ref k) h = .ref k := by unfold dr; simp only [eo]
        rw [e] at c
        exact absurd c (by simp [dok])
      | fdc _ =>
        have e : dr (.ref k) h = .ref k := by unfold dr; simp only [eo]
        rw [e] at c
        exact absurd c (by simp [dok])
      | ins _ _ =>
        have e : dr (.ref k) h = .ref k := by unfold dr; simp only [eo]
        rw [e] at c
        exact absurd c (by simp [dok])
  | non => exact dp_of c rx
  | bl _ => exact dp_of c rx
  | int _ => exact dp_of c rx
  | str _ => exact dp_of c rx
  | tup _ => exact dp_of c rx
  | lst _ => exact dp_of c rx
  | scr _ => exact dp_of c rx
theorem eqr_ok (hu : X.A.units + 64 < cLine) (S : Sim X.K N B ρ h H) (rx : Rep (vw X.K B ρ h H) x v) (ry : Rep (vw X.K B ρ h H) y u) {b : Bool} (e : eqr x y h = some b) : (Q (.bl b) H → wO X (compareOp .Eq) v u H Q) ∧ (Q (.bl (!b)) H → wO X (compareOp .NotEq) v u H Q) := by
  unfold eqr at e
  cases c2 : (dok 60 (dr x h) && (dok 60 (dr y h) && cmpb (dr x h) (dr y h))) with
  | false => rw [c2] at e; cases e
  | true =>
    rw [c2] at e
    have eb : decide (dr x h = dr y h) = b := Option.some.inj e
    rw [Bool.and_eq_true, Bool.and_eq_true] at c2
    have d := dr_of S c2.1 rx
    have d2 := dr_of S c2.2.1 ry
    exact ⟨fun q => wO.of (op_eqD hu) ⟨_, _, d, d2, shaped_of c2.1, shaped_of c2.2.1, by rw [eqv_of c2.1 c2.2.1 c2.2.2, eb]; exact q⟩,
      fun q => wO.of (op_neD hu) ⟨_, _, d, d2, shaped_of c2.1, shaped_of c2.2.1, by rw [eqv_of c2.1 c2.2.1 c2.2.2, eb]; exact q⟩⟩
theorem eqh_ok (hu : X.A.units + 64 < cLine) (S : Sim X.K N B ρ h H) (rx : Rep (vw X.K B ρ h H) x v) (ry : Rep (vw X.K B ρ h H) y u) {b : Bool} (e : eqh x y h = some b) (q : Q (.bl b) H) : wO X (compareOp .Eq) v u H Q := by
  unfold eqh at e
  cases e1 : eqd x y with
  | some c =>
    rw [e1] at e
    exact eq_ok hu S rx ry (e1.trans e) q
  | none =>
    rw [e1] at e
    exact (eqr_ok hu S rx ry e).1 q
theorem neh_ok (hu : X.A.units + 64 < cLine) (S : Sim X.K N B ρ h H) (rx : Rep (vw X.K B ρ h H) x v) (ry : Rep (vw X.K B ρ h H) y u) {b : Bool} (e : eqh x y h = some b) (q : Q (.bl (!b)) H) : wO X (compareOp .NotEq) v u H Q := by
  unfold eqh at e
  cases e1 : eqd x y with
  | some c =>
    rw [e1] at e
    exact ne_ok hu S rx ry (e1.trans e) q
  | none =>
    rw [e1] at e
    exact (eqr_ok hu S rx ry e).2 q

/-! ### in -/
theorem inV_of {x : D} {v : V} (fx : flat x = true) (rx : Rep (vw X.K B ρ h H) x v) : ∀ {ys : List D} {vs : List V}, (ys.all fun y => flat y && cmpb x y) = true → Reps (vw X.K B ρ h H) ys vs → flatV v = true ∧ vs.all flatV = true ∧ inV v vs = decide (x ∈ ys)
  | [], vs, _, r => by
    cases (show vs = [] from r)
    refine ⟨?_, rfl, by simp [inV]⟩
    cases x <;> first | (cases rx; rfl) | (exact absurd fx (by simp [flat]))
  | y :: ys, vs, c, r => by
    obtain ⟨u, t, rfl, ry, rt⟩ := r
    rw [List.all_cons, Bool.and_eq_true, Bool.and_eq_true] at c
    obtain ⟨i1, i2, i3⟩ := inV_of fx rx c.2 rt
    have e : flatV u = true ∧ eqV u v = decide (x = y) := by
      have c1 := c.1
      cases x <;> cases y <;> first
        | (exfalso; revert fx; simp [flat]; done)
        | (exfalso; have c2 := c1.1; revert c2; simp [flat]; done)
        | (exfalso; have c2 := c1.2; revert c2; simp [cmpb]; done)
        | (cases rx; cases ry; refine ⟨rfl, ?_⟩; rw [Bool.eq_iff_iff]; simp [eqV]; done)
        | (cases rx; cases ry; refine ⟨rfl, ?_⟩; rw [Bool.eq_iff_iff]; simp [eqV]; exact ⟨fun e => e.symm, fun e => e.symm⟩)
        | (cases rx; cases ry; refine ⟨rfl, ?_⟩; rw [Bool.eq_iff_iff]; simp [eqV]; exact ⟨fun e => (toS_inj e).symm, fun e => by rw [e]⟩)
    refine ⟨i1, by rw [List.all_cons, e.1, i2]; rfl, ?_⟩
    have i3' : (t.any fun y => eqV y v) = decide (x ∈ ys) := i3
    show (List.any (u :: t) fun y => eqV y v) = _
    rw [List.any_cons, i3', e.2]
    by_cases h1 : x = y <;> by_cases h2 : x ∈ ys <;> simp [h1, h2]
theorem repK_val {w : Vw} {k : List Nat} : ∀ {ks : List (List Nat × D)} {es : List (Key × V)}, RepK w ks es → (match ks.lookup k with | some d => ∃ v, valV es (Sum.inr (toS k)) = some v ∧ Rep w d v | none => valV es (Sum.inr (toS k)) = none)
  | [], es, r => by
    cases (show es = [] from r)
    rfl
  | (j, d) :: ks, es, r => by
    obtain ⟨v, t, rfl, rv, rt⟩ := r
    rw [List.lookup_cons]
    by_cases e : k = j
    · subst e
      rw [beq_self_eq_true]
      exact ⟨v, valV_pos rfl, rv⟩
    · rw [beq_eq_false_iff_ne.mpr e]
      have ih := repK_val (k := k) rt
      have ne : ¬ (Sum.inr (toS j) : Key) = Sum.inr (toS k) := fun z => e (toS_inj (Sum.inr.inj z)).symm
      show match ks.lookup k with | some d => ∃ v', valV ((Sum.inr (toS j), v) :: t) (Sum.inr (toS k)) = some v' ∧ Rep w d v' | none => valV ((Sum.inr (toS j), v) :: t) (Sum.inr (toS k)) = none
      rw [show valV ((Sum.inr (toS j), v) :: t) (Sum.inr (toS k) : Key) = valV t (Sum.inr (toS k)) from valV_neg ne]
      exact ih
theorem dget_of (S : Sim X.K N B ρ h H) {x : D} {v : V} {kvs : List (List Nat × D)} (rx : Rep (vw X.K B ρ h H) x v) (e : dictOf h x = some kvs) (k : List Nat) :
    ∃ a o, v = .ref a ∧ DGet H a (.str (toS k)) o ∧ (∃ es, Rd H a (.dK es) ∧ RepK (vw X.K B ρ h H) kvs es) ∧ (match kvs.lookup k with | some d => ∃ z, o = some z ∧ Rep (vw X.K B ρ h H) d z | none => o = none) := by
  cases x <;> first | (cases e; done) | skip
  rename_i n
  obtain ⟨hn, rfl⟩ := rx
  have e1 : (match h.o n with
    | some (.dct kvs) => some kvs
    | some (.fdc kvs) => some kvs
    | _ => none) = some kvs := e
  cases eo : h.o n with
  | none => rw [eo] at e1; cases e1
  | some o =>
    rw [eo] at e1
    have r := S.obj n o eo
    cases o with
    | lst _ => cases e1
    | ins _ _ => cases e1
    | dct ks =>
      cases e1
      obtain ⟨es, he, rk⟩ := r
      refine ⟨_, _, rfl, .inl ⟨es, Sum.inr (toS k), .inl he, rfl, rfl⟩, ⟨es, .inl he, rk⟩, ?_⟩
      have q := repK_val (k := k) rk
      cases z : kvs.lookup k with
      | none => rw [z] at q; exact q
      | some d => rw [z] at q; exact q
    | fdc ks =>
      cases e1
      obtain ⟨od, es, he, rk⟩ := r
      refine ⟨_, _, rfl, .inl ⟨es, Sum.inr (toS k), .inr ⟨od, he⟩, rfl, rfl⟩, ⟨es, .inr ⟨od, he⟩, rk⟩, ?_⟩
      have q := repK_val (k := k) rk
      cases z : kvs.lookup k with
      | none => rw [z] at q; exact q
      | some d => rw [z] at q; exact q
/-- in, of a dict, by values -/
theorem op_inD (hu : X.A.units + 1 < cLine) : OpR X (compareOp .In) (fun y x H Q => ∃ a o, x = .ref a ∧ DGet H a y o ∧ Q (.bl o.isSome) H) := by
  intro pins s σ H y x v u Q I ry rx q
  obtain ⟨a, o, rfl, g, q⟩ := q
  cases rx
  exact d_in hu I g ry fun s' I' => ⟨.bl _, H, I', rfl, q⟩
theorem op_ninD (hu : X.A.units + 1 < cLine) : OpR X (compareOp .NotIn) (fun y x H Q => ∃ a o, x = .ref a ∧ DGet H a y o ∧ Q (.bl (!o.isSome)) H) := by
  intro pins s σ H y x v u Q I ry rx q
  obtain ⟨a, o, rfl, g, q⟩ := q
  cases rx
  exact d_notIn hu I g ry fun s' I' => ⟨.bl _, H, I', rfl, q⟩
/-- both ways of in -/
theorem mem_ok (hu : X.A.units + 1 < cLine) (S : Sim X.K N B ρ h H) (rx : Rep (vw X.K B ρ h H) x v) (ry : Rep (vw X.K B ρ h H) y u) {b : Bool} (e : mem x y h = some b) (neg : Bool) (q : Q (.bl (b != neg)) H) :
    wO X (compareOp (if neg then .NotIn else .In)) v u H Q := by
  have seq : ∀ {ys : List D} {a : Addr} {vs : List V}, (SqL X.K H a vs ∨ SqT X.K H a vs) → Reps (vw X.K B ρ h H) ys vs → memd x ys = some b → u = .ref a → wO X (compareOp (if neg then .NotIn else .In)) v u H Q := by
    intro ys a vs sq r em eu
    subst eu
    unfold memd at em
    cases c : (flat x && ys.all fun y => flat y && cmpb x y) with
    | false => rw [c] at em; cases em
    | true =>
      rw [c] at em
      have eb : decide (x ∈ ys) = b := Option.some.inj em
      rw [Bool.and_eq_true] at c
      obtain ⟨i1, i2, i3⟩ := inV_of c.1 rx c.2 r
      cases neg with
      | false => exact wO.of op_in_seq ⟨a, vs, rfl, sq, i1, i2, by rw [i3, eb]; simpa using q⟩
      | true => exact wO.of op_notIn_seq ⟨a, vs, rfl, sq, i1, i2, by rw [i3, eb]; simpa using q⟩
  cases y with
  | tup ys =>
    obtain ⟨a, vs, ea, f, r⟩ := ry
    exact seq (.inr f.sq) r e ea
  | lst ys =>
    obtain ⟨a, vs, ea, f, r⟩ := ry
    exact seq (.inl (.of f.1)) r e ea
  | str z =>
    cases ry
    cases x <;> first | (cases e; done) | skip
    rename_i w
    cases rx
    match w, e with
    | [c], e =>
      have eb : decide (c ∈ z) = b := Option.some.inj e
      cases neg with
      | false => exact wO.of op_in_sign ⟨c, toS z, rfl, rfl, by rw [toS_cps, eb]; simpa using q⟩
      | true => exact wO.of op_notIn_sign ⟨c, toS z, rfl, rfl, by rw [toS_cps, eb]; simpa using q⟩
  | ref n =>
    have ry0 := ry
    obtain ⟨hn, rfl⟩ := ry
    unfold mem at e
    cases eo : h.o n with
    | none => simp only [eo] at e; cases e
    | some o =>
      simp only [eo] at e
      cases o with
      | lst ys =>
        obtain ⟨vs, he, r⟩ := S.obj n _ eo
        exact seq (.inl (.of he)) r e rfl
      | ins _ _ => cases e
      | fdc _ => cases e
      | dct kvs =>
        cases x <;> first | (cases e; done) | skip
        rename_i k
        cases rx
        have eb : (kvs.lookup k).isSome = b := Option.some.inj e
        have ed : dictOf h (.ref n) = some kvs := by
          unfold dictOf
          simp only [eo]
        obtain ⟨a, o, ea, g, _, m⟩ := dget_of S (x := .ref n) (kvs := kvs) ry0 ed k
        have eo2 : o.isSome = b := by
          rw [← eb]
          cases z : kvs.lookup k with
          | none => rw [z] at m; rw [m]; rfl
          | some d =>
            rw [z] at m
            obtain ⟨_, em, _⟩ := m
            rw [em]
            rfl
        cases neg with
        | false => exact wO.of (op_inD hu) ⟨a, o, ea, g, by rw [eo2]; simpa using q⟩
        | true => exact wO.of (op_ninD hu) ⟨a, o, ea, g, by rw [eo2]; simpa using q⟩
  | non => cases e
  | bl _ => cases e
  | int _ => cases e
  | scr _ => cases e
def cmpOf : COp → CmpOp
  | .eq => .Eq
  | .ne => .NotEq
  | .lt => .Lt
  | .le => .LtE
  | .gt => .Gt
  | .ge => .GtE
  | .mem => .In
  | .nme => .NotIn
theorem cmp_ok (hu : X.A.units + 64 < cLine) (op : COp) (S : Sim X.K N B ρ h H) (rx : Rep (vw X.K B ρ h H) x v) (ry : Rep (vw X.K B ρ h H) y u) {k : Bool → Hs → (Nat → Addr) → Hp → Prop} (p : Post X.K N B W ρ h H (cmp op x y h) k)
    (f : ∀ b, k b h ρ H → Q (.bl b) H) : wO X (compareOp (cmpOf op)) v u H Q := by
  cases op with
  | eq =>
    obtain ⟨b, e, p⟩ := Post.ofO p
    exact eqh_ok hu S rx ry e (f b (p.now S))
  | ne =>
    obtain ⟨b, e, p⟩ := Post.ofO p
    obtain ⟨c, e1, rfl⟩ := Option.map_eq_some_iff.mp e
    exact neh_ok hu S rx ry e1 (f _ (p.now S))
  | lt =>
    cases x <;> cases y <;> first | exact False.elim p | skip
    cases rx; cases ry
    exact wO.of op_lt ⟨_, _, rfl, rfl, f _ (Post.now p S)⟩
  | le =>
    cases x <;> cases y <;> first | exact False.elim p | skip
    · cases rx; cases ry
      exact wO.of op_le ⟨_, _, rfl, rfl, f _ (Post.now p S)⟩
    · cases rx; cases ry
      refine wO.of op_le_str ⟨_, _, rfl, rfl, ?_⟩
      rw [toS_cps, toS_cps]
      exact f _ (Post.now p S)
  | gt =>
    cases x <;> cases y <;> first | exact False.elim p | skip
    cases rx; cases ry
    exact wO.of op_gt ⟨_, _, rfl, rfl, f _ (Post.now p S)⟩
  | ge =>
    cases x <;> cases y <;> first | exact False.elim p | skip
    cases rx; cases ry
    exact wO.of op_ge ⟨_, _, rfl, rfl, f _ (Post.now p S)⟩
  | mem =>
    obtain ⟨b, e, p⟩ := Post.ofO p
    exact mem_ok (by omega) S rx ry e false (by simpa using f b (p.now S))
  | nme =>
    obtain ⟨b, e, p⟩ := Post.ofO p
    obtain ⟨c, e1, rfl⟩ := Option.map_eq_some_iff.mp e
    exact mem_ok (by omega) S rx ry e1 true (by simpa using f _ (p.now S))
end
end Ev

/-! part EvOps2 -/
set_option maxRecDepth 100000
set_option maxHeartbeats 4000000
/-! Subscripts, stores, built-in functions and methods by values. -/
namespace Ev
open PySem PySem.Spec PyProof.Rows L2
section
variable {X : Cx} {N : Nms} {B : Addr → Prop} {W : WX} {ρ : Nat → Addr} {h : Hs} {H : Hp} {Q : VK} {x y : D} {v u : V}
theorem six_eq (n d : Nat) (o : Option Int) : six n d o = HT.sIx n d o := by cases o <;> rfl
theorem ati_rep {w : Vw} {ds : List D} {vs : List V} (r : Reps w ds vs) {i : Int} {d : D} (e : ati ds i = some d) : ∃ v, atI vs i = some v ∧ Rep w d v := by
  unfold ati at e
  obtain ⟨j, ej, e⟩ := Option.bind_eq_some_iff.mp e
  obtain ⟨v, ev, rv⟩ := r.get e
  refine ⟨v, ?_, rv⟩
  unfold atI
  rw [r.len, show ixN ds.length i = some j from ej]
  exact ev
theorem cut_rep {w : Vw} {ds : List D} {vs : List V} (r : Reps w ds vs) (lo hi : Option Int) : Reps w (cut ds lo hi) (cutV vs lo hi) := by
  unfold cut cutV
  rw [six_eq, six_eq, r.len]
  exact (r.drop _).take _
/-- what is a list's or a tuple's items, read -/
theorem items_rep (S : Sim X.K N B ρ h H) {ds : List D} (rx : Rep (vw X.K B ρ h H) x v) (e : items h x = some ds) : ∃ a vs, v = .ref a ∧ (SqL X.K H a vs ∨ SqT X.K H a vs) ∧ Reps (vw X.K B ρ h H) ds vs := by
  cases x <;> first | (cases e; done) | skip
  · cases e
    obtain ⟨a, vs, rfl, f, r⟩ := rx
    exact ⟨a, vs, rfl, .inr f.sq, r⟩
  · cases e
    obtain ⟨a, vs, rfl, f, r⟩ := rx
    exact ⟨a, vs, rfl, .inl (.of f.1), r⟩
  · rename_i n
    obtain ⟨hn, rfl⟩ := rx
    unfold items at e
    cases eo : h.o n with
    | none => simp only [eo] at e; cases e
    | some o =>
      simp only [eo] at e
      cases o <;> first | (cases e; done) | skip
      cases e
      obtain ⟨vs, he, r⟩ := S.obj n _ eo
      exact ⟨_, vs, rfl, .inl (.of he), r⟩
  · cases e
    obtain ⟨a, rfl, f⟩ := rx
    exact ⟨a, _, rfl, .inl f.sq, Reps.map D.int V.int (fun _ => rfl) _⟩
theorem ix_dict (hu : X.A.units + 1 < cLine) : IxR X (fun x y H Q => ∃ a z, x = .ref a ∧ DGet H a y (some z) ∧ Q z H) := by
  intro value slice pins s σ H x y v u Q I rx ry q hs
  obtain ⟨a, z, rfl, g, q⟩ := q
  cases rx
  have hT := dict_typeIs I g
  have h2 : wpAny (model X.prog X.w) X.A (getItem (.ref a) u) (EP X pins σ Q) X.xe s := d_getItem hu I g ry fun w' s3 I3 rw' => ⟨z, H, I3, rw', q⟩
  unfold subscriptTail
  refine wpAny_bind ?_
  rw [getitemInPython_of_ne hT.not_modules]
  refine wpAny_bind (wpAny_specialOf hT PySem.F.slot_dict_getitem.lookup ?_)
  have fin : wpAny (model X.prog X.w) X.A (subscripted slice false (.ref a) u) (fun r s₃ => wpAny (model X.prog X.w) X.A (letTemporaryGo value (.ref a) r >>= fun _ => pure r) (EP X pins σ Q) X.xe s₃) X.xe s := by
    rw [hs]
    exact wpAny_operating (wpAny_mono h2 (fun r s₃ h₃ => wpAny_bind (wpAny_letTemporaryGo (wpAny_pure h₃))) fun _ _ x => x)
  first
    | exact wpAny_pure (wpAny_bind fin)
    | exact wpAny_bind (wpAny_pure (wpAny_bind fin))
    | exact wpAny_bind fin
theorem subs_ok (hu : X.A.units + 1 < cLine) (S : Sim X.K N B ρ h H) (rx : Rep (vw X.K B ρ h H) x v) (ry : Rep (vw X.K B ρ h H) y u) (p : P1 X N B W ρ h H (subs x y h) Q) : wI X v u H Q := by
  unfold subs at p
  cases y <;> first | exact False.elim p | skip
  · rename_i i
    cases ry
    have go : (match items h x with
      | some xs => ofO (ati xs i) h
      | none => (.stk : R D)) = subs x (.int i) h → wI X v (.int i) H Q := by
      intro em
      have p' : P1 X N B W ρ h H (subs x (.int i) h) Q := p
      rw [← em] at p'
      cases e : items h x with
      | none => rw [e] at p'; exact False.elim p'
      | some ds =>
        rw [e] at p'
        obtain ⟨d, ed, p'⟩ := Post.ofO p'
        obtain ⟨a, vs, rfl, sq, r⟩ := items_rep S rx e
        obtain ⟨z, ez, rz⟩ := ati_rep r ed
        rcases sq with sq | sq
        · exact wI.of ix_list ⟨a, vs, i, z, rfl, rfl, sq, ez, P1.val p' S rz⟩
        · exact wI.of ix_tup ⟨a, vs, i, z, rfl, rfl, sq, ez, P1.val p' S rz⟩
    cases x <;> first | exact go rfl | skip
    rename_i a
    cases rx
    cases c : decide (a.length ≤ big) with
    | false =>
      have p' : P1 X N B W ρ h H ((okIf (decide (a.length ≤ big)) () h).bind fun _ h => ofO ((ati a i).map fun c => .str [c]) h) Q := p
      rw [c] at p'
      exact False.elim p'
    | true =>
      have p' : P1 X N B W ρ h H ((okIf (decide (a.length ≤ big)) () h).bind fun _ h => ofO ((ati a i).map fun c => .str [c]) h) Q := p
      rw [c] at p'
      have p'' : P1 X N B W ρ h H (ofO ((ati a i).map fun c => D.str [c]) h) Q := p'
      obtain ⟨d, ed, p2⟩ := Post.ofO p''
      obtain ⟨c', e1, rfl⟩ := Option.map_eq_some_iff.mp ed
      refine wI.of ix_str ⟨toS a, i, c', rfl, rfl, ?_, ?_, P1.val p2 S rfl⟩
      · rw [toS_len, ← big_eq]
        exact of_decide_eq_true c
      · rw [toS_cps]
        exact e1
  · rename_i k
    cases ry
    cases e : dictOf h x with
    | none => simp only [e] at p; exact False.elim p
    | some kvs =>
      simp only [e] at p
      obtain ⟨d, ed, p⟩ := Post.ofO p
      obtain ⟨a, o, rfl, g, _, m⟩ := dget_of S rx e k
      rw [ed] at m
      obtain ⟨z, rfl, rz⟩ := m
      exact wI.of (ix_dict hu) ⟨a, z, rfl, g, P1.val p S rz⟩
theorem slice_ok (S : Sim X.K N B ρ h H) (rx : Rep (vw X.K B ρ h H) x v) (lo hi : Option Int) (p : P1 X N B W ρ h H (slice x lo hi h) Q) : wSl X v lo hi H Q := by
  have go : (match lsts h x with
      | some xs => .ok (.lst (cut xs lo hi)) h
      | none => (.stk : R D)) = slice x lo hi h → wSl X v lo hi H Q := by
    intro em
    rw [← em] at p
    cases e : lsts h x with
    | none => rw [e] at p; exact False.elim p
    | some ds =>
      rw [e] at p
      obtain ⟨a, vs, rfl, sq, r⟩ := lsts_rep S rx e
      exact wSl.of sl_list ⟨a, vs, rfl, .of sq, fun q hq => P1.lst p S (cut_rep r lo hi) hq⟩
  cases x <;> first | exact go rfl | skip
  · rename_i a
    obtain ⟨c, p⟩ := Post.okIf (show Post X.K N B W ρ h H (okIf (decide (a.length ≤ big)) (D.str (cut a lo hi)) h) _ from p)
    cases rx
    refine wSl.of sl_str ⟨toS a, rfl, ?_, ?_⟩
    · rw [toS_len, ← big_eq]
      exact of_decide_eq_true c
    · have e : cutS (toS a) lo hi = toS (cut a lo hi) := by
        unfold cutS cut
        rw [toS_len, toS_cps, six_eq, six_eq]
        rfl
      rw [e]
      exact P1.val p S rfl
  · rename_i ds
    have p' : P1 X N B W ρ h H (.ok (.tup (cut ds lo hi)) h) Q := p
    obtain ⟨a, vs, rfl, f, r⟩ := rx
    refine wSl.of sl_tupA ⟨a, vs, rfl, f.sq, fun ⟨e1, e2⟩ => ?_, fun _ q hq => P1.tup p' S (cut_rep r lo hi) hq⟩
    refine P1.val p' S ⟨a, vs, rfl, f, ?_⟩
    have e3 : cut ds lo hi = ds := by
      unfold cut
      rw [six_eq, six_eq, ← r.len, e1, e2, Nat.sub_zero, List.drop_zero, r.len, List.take_length]
    rw [e3]
    exact r
def wB (X : Cx) : V → V → V → Hp → (Hp → Prop) → Prop := fun o i v H Q => ∀ pins s σ ov iv u, Inv X pins σ H s → RelV o ov → RelV i iv → RelV v u → wpAny (model X.prog X.w) X.A (setItem ov iv u) (fun _ s' => ∃ H', Inv X pins σ H' s' ∧ Q H') X.xe s
theorem pset_w : PSet X (wB X) := fun pins s σ _ _ _ _ ov iv u _ I ro ri rv h => h pins s σ ov iv u I ro ri rv
theorem wB.of {t : TSet} {o i z : V} {Q : Hp → Prop} (p : PSet X t) (q : t o i z H Q) : wB X o i z H Q := fun pins s σ ov iv u I ro ri rv => p pins s σ H o i z ov iv u Q I ro ri rv q
theorem repK_any {w : Vw} {k : List Nat} : ∀ {ks : List (List Nat × D)} {es : List (Key × V)}, RepK w ks es → (es.any fun kv => decide (kv.1 = (Sum.inr (toS k) : Key))) = (ks.any fun p => decide (p.1 = k))
  | [], es, r => by
    cases (show es = [] from r)
    rfl
  | (j, c) :: ks, es, r => by
    obtain ⟨z, t, rfl, rz, rt⟩ := r
    rw [List.any_cons, List.any_cons, repK_any rt]
    have e : decide ((Sum.inr (toS j) : Key) = Sum.inr (toS k)) = decide (j = k) := by
      rw [Bool.eq_iff_iff]
      simp
      exact ⟨toS_inj, fun e => by rw [e]⟩
    rw [e]
theorem repK_map {w : Vw} {k : List Nat} {d : D} {v : V} (rv : Rep w d v) : ∀ {ks : List (List Nat × D)} {es : List (Key × V)}, RepK w ks es →
    RepK w (ks.map fun p => if p.1 = k then (p.1, d) else p) (es.map fun kv => if kv.1 = (Sum.inr (toS k) : Key) then (kv.1, v) else kv)
  | [], es, r => by
    cases (show es = [] from r)
    exact rfl
  | (j, c) :: ks, es, r => by
    obtain ⟨z, t, rfl, rz, rt⟩ := r
    have ih := repK_map (k := k) rv rt
    by_cases e : j = k
    · subst e
      rw [List.map_cons, List.map_cons, if_pos rfl, if_pos rfl]
      exact ⟨v, _, rfl, rv, ih⟩
    · have e2 : ¬ (Sum.inr (toS j) : Key) = Sum.inr (toS k) := fun z => e (toS_inj (Sum.inr.inj z))
      rw [List.map_cons, List.map_cons, if_neg e, if_neg e2]
      exact ⟨z, _, rfl, rz, ih⟩
theorem repK_app {w : Vw} : ∀ {ks js : List (List Nat × D)} {es fs : List (Key × V)}, RepK w ks es → RepK w js fs → RepK w (ks ++ js) (es ++ fs)
  | [], js, es, fs, r, q => by
    cases (show es = [] from r)
    exact q
  | (j, c) :: ks, js, es, fs, r, q => by
    obtain ⟨z, t, rfl, rz, rt⟩ := r
    exact ⟨z, t ++ fs, rfl, rz, repK_app rt q⟩
theorem repK_put {w : Vw} {k : List Nat} {d : D} {v : V} (rv : Rep w d v) {ks : List (List Nat × D)} {es : List (Key × V)} (r : RepK w ks es) : RepK w (putk k d ks) (putK es (Sum.inr (toS k)) v) := by
  unfold putk putK
  rw [repK_any r]
  split
  · exact repK_map rv r
  · exact repK_app r ⟨v, [], rfl, rv, rfl⟩
theorem repK_len {w : Vw} : ∀ {ks : List (List Nat × D)} {es : List (Key × V)}, RepK w ks es → es.length = ks.length
  | [], es, r => by
    cases (show es = [] from r)
    rfl
  | (j, c) :: ks, es, r => by
    obtain ⟨z, t, rfl, rz, rt⟩ := r
    rw [List.length_cons, List.length_cons, repK_len rt]
theorem set_dict (hu : X.A.units + 1 < cLine) : PSet X (fun o i z H Q => ∃ a H', o = .ref a ∧ DPut H a i z H' ∧ Q H') := by
  intro pins s σ H o i z ov iv u Q I ro ri rv q
  obtain ⟨a, H', rfl, g, q⟩ := q
  cases ro
  exact d_setItem hu I g ri rv fun s' I' => ⟨H', I', q⟩
theorem seti_ok (hu : X.A.units + 1 < cLine) {i z : D} {iv zv : V} {Qh : Hp → Prop} (S : Sim X.K N B ρ h H) (rx : Rep (vw X.K B ρ h H) x v) (ri : Rep (vw X.K B ρ h H) i iv) (rz : Rep (vw X.K B ρ h H) z zv)
    (p : Post X.K N B W ρ h H (seti x i z h) fun _ _ _ H' => Qh H') : wB X v iv zv H Qh := by
  unfold seti at p
  cases x <;> first | exact False.elim p | skip
  rename_i n
  have rx0 := rx
  obtain ⟨hn, rfl⟩ := rx
  cases eo : h.o n with
  | none => simp only [eo] at p; exact False.elim p
  | some o =>
    simp only [eo] at p
    cases o with
    | lst xs =>
      cases i <;> first | exact False.elim p | skip
      rename_i k
      cases ri
      obtain ⟨vs, he, r⟩ := S.obj n _ eo
      cases ej : ixn xs.length k with
      | none => simp only [ej] at p; exact False.elim p
      | some j =>
        simp only [ej] at p
        have E := ext_put (x := .lst (xs.set j z)) (u := .lst (vs.set j zv)) S eo
        refine wB.of set_list ⟨_, vs, k, j, rfl, rfl, he, by rw [r.len]; exact ej, p ρ _ (S.put eo ⟨_, upd_same, (Reps.set rz j r).ext E _ _⟩) E⟩
    | dct kvs =>
      cases i <;> first | exact False.elim p | skip
      rename_i k
      cases ri
      obtain ⟨es, he, r⟩ := S.obj n _ eo
      cases c : decide (kvs.length < 1000) with
      | false => simp only [c] at p; exact False.elim p
      | true =>
        simp only [c] at p
        have p' : Post X.K N B W ρ h H (.ok () (h.put n (.dct (putk k z kvs)))) fun _ _ _ H' => Qh H' := p
        have E := ext_put (x := .dct (putk k z kvs)) (u := .dK (putK es (Sum.inr (toS k)) zv)) S eo
        refine wB.of (set_dict hu) ⟨_, _, rfl, DPut.k (k := Sum.inr (toS k)) he ?_, p' ρ _ (S.put eo ⟨_, upd_same, RepK.ext E (repK_put rz r)⟩) E⟩
        rw [repK_len r]
        exact small1000 (Nat.le_of_lt (of_decide_eq_true c))
    | fdc _ => exact False.elim p
    | ins _ _ => exact False.elim p

/-! ### attributes -/
theorem repF_look {w : Vw} {nm : Nat → Str} (inj : ∀ i j, nm i = nm j → i = j) {f : Nat} : ∀ {fs : List (Nat × D)} {es : List (Str × V)}, RepF w nm fs es → (match fs.lookup f with | some d => ∃ v, es.lookup (nm f) = some v ∧ Rep w d v | none => es.lookup (nm f) = none)
  | [], es, r => by
    cases (show es = [] from r)
    rfl
  | (j, d) :: ks, es, r => by
    obtain ⟨v, t, rfl, rv, rt⟩ := r
    rw [List.lookup_cons, List.lookup_cons]
    by_cases e : f = j
    · subst e
      rw [beq_self_eq_true, beq_self_eq_true]
      exact ⟨v, rfl, rv⟩
    · rw [beq_eq_false_iff_ne.mpr e, beq_eq_false_iff_ne.mpr (fun z => e (inj _ _ z))]
      exact repF_look inj rt
theorem repF_put {w : Vw} {nm : Nat → Str} (inj : ∀ i j, nm i = nm j → i = j) {f : Nat} {d : D} {v : V} (rv : Rep w d v) : ∀ {fs : List (Nat × D)} {es : List (Str × V)}, RepF w nm fs es → RepF w nm (putf f d fs) (putF (nm f) v es)
  | [], es, r => by
    cases (show es = [] from r)
    exact ⟨v, [], rfl, rv, rfl⟩
  | (j, c) :: ks, es, r => by
    obtain ⟨z, t, rfl, rz, rt⟩ := r
    unfold putf putF
    by_cases e : j = f
    · subst e
      rw [if_pos rfl, if_pos rfl]
      exact ⟨v, t, rfl, rv, rt⟩
    · rw [if_neg e, if_neg (fun z => e (inj _ _ z))]
      exact ⟨z, _, rfl, rz, repF_put inj rv rt⟩
theorem repF_len {w : Vw} {nm : Nat → Str} : ∀ {fs : List (Nat × D)} {es : List (Str × V)}, RepF w nm fs es → es.length = fs.length
  | [], es, r => by
    cases (show es = [] from r)
    rfl
  | (j, c) :: ks, es, r => by
    obtain ⟨z, t, rfl, rz, rt⟩ := r
    rw [List.length_cons, List.length_cons, repF_len rt]
theorem repF_none {w : Vw} {nm : Nat → Str} {m : Str} (hm : ∀ i, nm i ≠ m) : ∀ {fs : List (Nat × D)} {es : List (Str × V)}, RepF w nm fs es → es.lookup m = none
  | [], es, r => by
    cases (show es = [] from r)
    rfl
  | (j, c) :: ks, es, r => by
    obtain ⟨z, t, rfl, rz, rt⟩ := r
    rw [List.lookup_cons, beq_eq_false_iff_ne.mpr (fun z => hm j z.symm)]
    exact repF_none hm rt
/-- an instance's attribute -/
theorem getf_ok {f : Nat} (S : Sim X.K N B ρ h H) (rx : Rep (vw X.K B ρ h H) x v) (p : P1 X N B W ρ h H (getf f x h) Q) :
    ∃ a c dx fs z, v = .ref a ∧ H a = some (.ins (N.cls c) dx fs) ∧ fs.lookup (N.att f) = some z ∧ Q z H := by
  unfold getf at p
  cases x <;> first | exact False.elim p | skip
  rename_i n
  obtain ⟨hn, rfl⟩ := rx
  cases eo : h.o n with
  | none => simp only [eo] at p; exact False.elim p
  | some o =>
    simp only [eo] at p
    cases o <;> first | exact False.elim p | skip
    rename_i c fs
    obtain ⟨d, ed, p⟩ := Post.ofO p
    obtain ⟨dx, es, he, r⟩ := S.obj n _ eo
    have l := repF_look N.inj (f := f) r
    rw [ed] at l
    obtain ⟨z, ez, rz⟩ := l
    exact ⟨_, c, dx, es, z, rfl, he, ez, P1.val p S rz⟩
theorem setf_ok {f : Nat} {z : D} {zv : V} {Qh : Hp → Prop} (S : Sim X.K N B ρ h H) (rx : Rep (vw X.K B ρ h H) x v) (rz : Rep (vw X.K B ρ h H) z zv) (p : Post X.K N B W ρ h H (setf f x z h) fun _ _ _ H' => Qh H') :
    ∃ a c dx fs, v = .ref a ∧ H a = some (.ins (N.cls c) dx fs) ∧ fs.length < 1000 ∧ Qh (upd H a (.ins (N.cls c) dx (putF (N.att f) zv fs))) := by
  unfold setf at p
  cases x <;> first | exact False.elim p | skip
  rename_i n
  obtain ⟨hn, rfl⟩ := rx
  cases eo : h.o n with
  | none => simp only [eo] at p; exact False.elim p
  | some o =>
    simp only [eo] at p
    cases o <;> first | exact False.elim p | skip
    rename_i c fs
    obtain ⟨c1, p⟩ := Post.okIf p
    obtain ⟨dx, es, he, r⟩ := S.obj n _ eo
    have E := ext_put (x := .ins c (putf f z fs)) (u := .ins (N.cls c) dx (putF (N.att f) zv es)) S eo
    exact ⟨_, c, dx, es, rfl, he, by rw [repF_len r]; exact of_decide_eq_true c1, p ρ _ (S.put eo ⟨dx, _, upd_same, RepF.ext E (repF_put N.inj rz r)⟩) E⟩
end
end Ev

/-! part EvStr -/
set_option maxRecDepth 100000
set_option maxHeartbeats 4000000
/-! Texts: one sign sought. -/
namespace Ev
open PySem PySem.Spec PyProof.Rows L2
open Builtin.Str StrLaws
theorem occ1 (x : Str) (c hi limit : Nat) : ∀ (n i : Nat) (arr : Array Nat) (free : Nat), free ≤ i →
    (forIn (List.range' i n) (arr, free) (occBody x ⟨#[c]⟩ hi limit)).run.fst.toList = arr.toList ++ ((List.range' i n).filter fun j => decide (j + 1 ≤ hi ∧ x.cps.toList[j]? = some c)).take (limit - arr.size)
  | 0, i, arr, free, _ => by simp
  | n + 1, i, arr, free, hf => by
    rw [List.range'_succ, List.forIn_cons]
    have sa : subAt x ⟨#[c]⟩ i = true ↔ x.cps.toList[i]? = some c := by
      rw [subAt_eq]
      exact take1_drop
    unfold occBody
    by_cases hc : i + 1 ≤ hi ∧ x.cps.toList[i]? = some c
    · have hd : decide (i + 1 ≤ hi ∧ x.cps.toList[i]? = some c) = true := decide_eq_true hc
      rw [List.filter_cons_of_pos (by simpa using hc)]
      by_cases hl : arr.size < limit
      · rw [if_pos ⟨⟨⟨hl, hf⟩, hc.1⟩, sa.mpr hc.2⟩]
        have ih := occ1 x c hi limit n (i + 1) (arr.push i) (i + 1) (Nat.le_refl _)
        show (forIn (List.range' (i + 1) n) (arr.push i, i + 1) (occBody x ⟨#[c]⟩ hi limit)).run.fst.toList = _
        rw [ih, Array.toList_push, Array.size_push, List.append_assoc]
        congr 1
        have e : limit - arr.size = (limit - (arr.size + 1)) + 1 := by omega
        rw [e, List.take_succ_cons]
        rfl
      · rw [if_neg (fun q => hl q.1.1.1)]
        have ih := occ1 x c hi limit n (i + 1) arr free (Nat.le_succ_of_le hf)
        show (forIn (List.range' (i + 1) n) (arr, free) (occBody x ⟨#[c]⟩ hi limit)).run.fst.toList = _
        have e : limit - arr.size = 0 := by omega
        rw [ih, e]
        simp
    · rw [if_neg (fun q => hc ⟨q.1.2, sa.mp q.2⟩)]
      have ih := occ1 x c hi limit n (i + 1) arr free (Nat.le_succ_of_le hf)
      rw [List.filter_cons_of_neg (by simpa using hc)]
      exact ih
theorem occ_sign (l : List Nat) (c lo hi limit : Nat) : occurrences (toS l) (toS [c]) lo hi limit = ((List.range' lo (hi + 1 - lo)).filter fun j => decide (j + 1 ≤ hi ∧ l[j]? = some c)).take limit := by
  rw [occ_eq]
  have e := occ1 (toS l) c hi limit (hi + 1 - lo) lo #[] lo (Nat.le_refl _)
  rw [show (toS [c] : Str) = ⟨#[c]⟩ from rfl, e, toS_cps]
  simp
theorem filter_count (c : Nat) : ∀ (l : List Nat) (i n : Nat) (L : List Nat), L.drop i = l → n = l.length + 1 → (((List.range' i n).filter fun j => decide (j + 1 ≤ L.length ∧ L[j]? = some c)).length = l.count c)
  | [], i, n, L, e, hn => by
    subst hn
    have hl : L.length ≤ i := List.drop_eq_nil_iff.mp e
    rw [List.range'_succ, List.filter_cons_of_neg (by simp; omega)]
    simp
  | d :: l, i, n, L, e, hn => by
    subst hn
    have hi : i < L.length := by
      rw [← Nat.not_le]
      intro q
      rw [List.drop_eq_nil_iff.mpr q] at e
      cases e
    have hd : L[i]? = some d := by
      have : (L.drop i)[0]? = some d := by rw [e]; rfl
      simpa using this
    have e2 : L.drop (i + 1) = l := by
      rw [← List.drop_drop, e]
      rfl
    have ih := filter_count c l (i + 1) (l.length + 1) L e2 rfl
    rw [List.length_cons, List.range'_succ]
    by_cases q : d = c
    · subst q
      rw [List.filter_cons_of_pos (by simp [hd]; omega), List.length_cons, ih, List.count_cons_self]
    · rw [List.filter_cons_of_neg (by simp [hd, q]), ih, List.count_cons_of_ne q]
theorem count_sign (l : List Nat) (c : Nat) : Txt.count (toS l) (toS [c]) = (l.count c : Int) := by
  unfold Txt.count
  rw [occ_sign, toS_len]
  have e := filter_count c l 0 (l.length + 1) l rfl rfl
  rw [Nat.sub_zero, List.take_of_length_le, e]
  rw [e]
  exact Nat.le_trans List.count_le_length (Nat.le_succ _)
theorem filter_find (c : Nat) : ∀ (l : List Nat) (i n : Nat) (L : List Nat), L.drop i = l → n = l.length + 1 → (((List.range' i n).filter fun j => decide (j + 1 ≤ L.length ∧ L[j]? = some c)).head? = find1 c l i)
  | [], i, n, L, e, hn => by
    subst hn
    have hl : L.length ≤ i := List.drop_eq_nil_iff.mp e
    rw [List.range'_succ, List.filter_cons_of_neg (by simp; omega)]
    simp [find1]
  | d :: l, i, n, L, e, hn => by
    subst hn
    have hi : i < L.length := by
      rw [← Nat.not_le]
      intro q
      rw [List.drop_eq_nil_iff.mpr q] at e
      cases e
    have hd : L[i]? = some d := by
      have : (L.drop i)[0]? = some d := by rw [e]; rfl
      simpa using this
    have e2 : L.drop (i + 1) = l := by
      rw [← List.drop_drop, e]
      rfl
    have ih := filter_find c l (i + 1) (l.length + 1) L e2 rfl
    rw [List.length_cons, List.range'_succ]
    unfold find1
    by_cases q : d = c
    · subst q
      rw [List.filter_cons_of_pos (by simp [hd]; omega), if_pos rfl]
      rfl
    · rw [List.filter_cons_of_neg (by simp [hd, q]), ih, if_neg q]
theorem take1_head {α : Type} (l : List α) : (l.take 1).head? = l.head? := by cases l <;> rfl
theorem occ_find (l : List Nat) (c i : Nat) (hi : i ≤ l.length) : (occurrences (toS l) (toS [c]) i l.length 1).head? = find1 c (l.drop i) i := by
  rw [occ_sign, take1_head]
  exact filter_find c (l.drop i) i (l.length + 1 - i) l rfl (by rw [List.length_drop]; omega)
theorem find3_sign (l : List Nat) (c : Nat) (i : Int) (h0 : 0 ≤ i) : Txt.find3 (toS l) (toS [c]) i = (match find1 c (l.drop i.toNat) i.toNat with | some k => (k : Int) | none => -1) := by
  unfold Txt.find3
  rw [toS_len]
  have hf : PySem.fromIndex l.length i = i.toNat := by
    unfold PySem.fromIndex
    rw [if_neg (by omega)]
    omega
  rw [hf]
  by_cases hi : i.toNat ≤ l.length
  · have e := occ_find l c i.toNat hi
    cases q : occurrences (toS l) (toS [c]) i.toNat l.length 1 with
    | nil => rw [q] at e; rw [← e]; rfl
    | cons k r => rw [q] at e; rw [← e]; rfl
  · have e : occurrences (toS l) (toS [c]) i.toNat l.length 1 = [] := by
      rw [occ_sign, show l.length + 1 - i.toNat = 0 by omega]
      rfl
    rw [e, List.drop_eq_nil_iff.mpr (by omega)]
    rfl
def lastBody (s sub : Str) (hi i : Nat) (st : Option Nat) : Id (ForInStep (Option Nat)) :=
  if i + sub.length ≤ hi ∧ subAt s sub i = true then pure (ForInStep.yield (some i)) else pure (ForInStep.yield st)
theorem last_eq (s sub : Str) (lo hi : Nat) : lastOccurrence s sub lo hi = (forIn (List.range' lo (hi + 1 - lo)) none (lastBody s sub hi)).run := by
  unfold lastOccurrence lastBody
  simp
theorem last1 (l : List Nat) (c hi : Nat) : ∀ (n i : Nat) (st : Option Nat), (forIn (List.range' i n) st (lastBody (toS l) ⟨#[c]⟩ hi)).run = (((List.range' i n).filter fun j => decide (j + 1 ≤ hi ∧ l[j]? = some c)).getLast?).or st
  | 0, i, st => by simp
  | n + 1, i, st => by
    rw [List.range'_succ, List.forIn_cons]
    have sa : subAt (toS l) ⟨#[c]⟩ i = true ↔ l[i]? = some c := by
      rw [subAt_eq, toS_cps]
      exact take1_drop
    unfold lastBody
    by_cases hc : i + 1 ≤ hi ∧ l[i]? = some c
    · rw [List.filter_cons_of_pos (by simpa using hc), if_pos ⟨hc.1, sa.mpr hc.2⟩]
      have ih := last1 l c hi n (i + 1) (some i)
      show (forIn (List.range' (i + 1) n) (some i) (lastBody (toS l) ⟨#[c]⟩ hi)).run = _
      rw [ih, List.getLast?_cons]
      cases ((List.range' (i + 1) n).filter fun j => decide (j + 1 ≤ hi ∧ l[j]? = some c)).getLast? <;> rfl
    · rw [List.filter_cons_of_neg (by simpa using hc), if_neg (fun q => hc ⟨q.1, sa.mp q.2⟩)]
      exact last1 l c hi n (i + 1) st
theorem rfind1_filter (c : Nat) : ∀ (l : List Nat) (i n : Nat) (L : List Nat) (hi : Nat) (r : Option Nat), (L.take hi).drop i = l → hi ≤ L.length → n = l.length + 1 → i ≤ hi → (((List.range' i n).filter fun j => decide (j + 1 ≤ hi ∧ L[j]? = some c)).getLast?).or r = rfind1 c l i r
  | [], i, n, L, hi, r, e, hh, hn, hih => by
    subst hn
    have hl := List.drop_eq_nil_iff.mp e
    rw [List.length_take] at hl
    rw [List.range'_succ, List.filter_cons_of_neg (by simp; omega)]
    rfl
  | d :: l, i, n, L, hi, r, e, hh, hn, hih => by
    subst hn
    have hi' : i < hi := by
      rw [← Nat.not_le]
      intro q
      rw [List.drop_eq_nil_iff.mpr (by rw [List.length_take]; omega)] at e
      cases e
    have hd : L[i]? = some d := by
      have h0 : ((L.take hi).drop i)[0]? = some d := by rw [e]; rfl
      rw [List.getElem?_drop, Nat.add_zero, List.getElem?_take_of_lt hi'] at h0
      exact h0
    have e2 : (L.take hi).drop (i + 1) = l := by
      rw [← List.drop_drop, e]
      rfl
    rw [List.length_cons, List.range'_succ]
    unfold rfind1
    by_cases q : d = c
    · subst q
      have ih := rfind1_filter d l (i + 1) (l.length + 1) L hi (some i) e2 hh rfl hi'
      rw [List.filter_cons_of_pos (by simp [hd]; omega), if_pos rfl, ← ih, List.getLast?_cons]
      cases ((List.range' (i + 1) (l.length + 1)).filter fun j => decide (j + 1 ≤ hi ∧ L[j]? = some d)).getLast? <;> rfl
    · have ih := rfind1_filter c l (i + 1) (l.length + 1) L hi r e2 hh rfl hi'
      rw [List.filter_cons_of_neg (by simp [hd, q]), if_neg q, ih]
theorem rfindIn_sign (l : List Nat) (c : Nat) (j : Int) (h0 : 0 ≤ j) : Txt.rfindIn (toS l) (toS [c]) 0 j = (match rfind1 c (l.take j.toNat) 0 none with | some k => (k : Int) | none => -1) := by
  unfold Txt.rfindIn
  rw [toS_len]
  have h1 : PySem.fromIndex l.length 0 = 0 := by
    unfold PySem.fromIndex
    rw [if_neg (by omega)]
    rfl
  have h2 : PySem.toIndexW l.length j = min j.toNat l.length := by
    unfold PySem.toIndexW
    rw [if_neg (by omega)]
    omega
  rw [h1, h2, last_eq]
  have e := last1 l c (min j.toNat l.length) (min j.toNat l.length + 1 - 0) 0 none
  have e2 := rfind1_filter c (l.take (min j.toNat l.length)) 0 (min j.toNat l.length + 1) l (min j.toNat l.length) none rfl (Nat.min_le_right _ _) (by rw [List.length_take]; omega) (Nat.zero_le _)
  rw [show (toS [c] : Str) = ⟨#[c]⟩ from rfl, e, Nat.sub_zero, e2, ← List.take_eq_take_min]
  cases rfind1 c (List.take j.toNat l) 0 none <;> rfl
theorem lstrip_sign (l : List Nat) (c : Nat) : Txt.lstripChars (toS l) (toS [c]) = toS (l.dropWhile fun d => decide (d = c)) := by
  unfold Txt.lstripChars Txt.stripBy PySem.stripSame PySem.stripped PySem.stripHi PySem.stripLo
  have eg : (toS [c]).cps.contains = fun d => decide (d = c) := by
    funext d
    show #[c].contains d = _
    rw [Bool.eq_iff_iff]
    simp
  rw [eg, toS_cps, toS_len]
  simp only [if_true, if_false, Bool.false_eq_true, beq_self_eq_true, Bool.and_true]
  have e1 : l.dropWhile (fun d => decide (d = c)) = l.drop (l.takeWhile fun d => decide (d = c)).length := by
    have q := List.drop_left (l₁ := l.takeWhile fun d => decide (d = c)) (l₂ := l.dropWhile fun d => decide (d = c))
    rw [List.takeWhile_append_dropWhile] at q
    exact q.symm
  split
  · rename_i hz
    have hz' : (l.takeWhile fun d => decide (d = c)).length = 0 := by simpa using hz
    rw [e1, hz', List.drop_zero]
  · have e2 : Builtin.Str.strSub (toS l) (l.takeWhile fun d => decide (d = c)).length l.length = toS (l.drop (l.takeWhile fun d => decide (d = c)).length) := by
      have := strSub_toList (toS l) (l.takeWhile fun d => decide (d = c)).length l.length
      rw [← of_toS (Builtin.Str.strSub _ _ _), this, toS_cps, List.take_of_length_le (by rw [List.length_drop]; omega)]
    rw [e2, e1]
theorem join_list' (sep : List Nat) : ∀ ys : List (List Nat), TL.joinL sep ys = joins sep ys
  | [] => rfl
  | [x] => rfl
  | x :: y :: r => by
    show x ++ (sep ++ TL.joinL sep (y :: r)) = x ++ sep ++ joins sep (y :: r)
    rw [join_list' sep (y :: r), List.append_assoc]
theorem join_eq' (sep : List Nat) (ys : List (List Nat)) : Txt.join (toS sep) (ys.map toS) = toS (joins sep ys) := by
  rw [TL.join_eq]
  have e := TL.tl_join (toS sep) (ys.map toS)
  have e2 : (ys.map toS).map TL.tl = ys := by
    rw [List.map_map]
    conv => rhs; rw [← List.map_id ys]
    exact List.map_congr_left fun a _ => toS_cps a
  rw [e2, show TL.tl (toS sep) = sep from toS_cps sep, join_list'] at e
  rw [← of_toS (Str.join _ _)]
  exact congrArg toS e
theorem upper_eq {l : List Nat} (h : ascii l = true) : Txt.upper (toS l) = toS (l.map up1) := by
  rw [upper_ascii fun c hc => by
    rw [toS_cps] at hc
    exact of_decide_eq_true (List.all_eq_true.mp h c hc)]
  show (⟨l.toArray.map PyProof.Rows.up1⟩ : Str) = ⟨(l.map up1).toArray⟩
  rw [List.map_toArray]
  rfl
theorem lower_eq {l : List Nat} (h : ascii l = true) : Txt.lower (toS l) = toS (l.map lo1) := by
  rw [lower_ascii fun c hc => by
    rw [toS_cps] at hc
    exact of_decide_eq_true (List.all_eq_true.mp h c hc)]
  show (⟨l.toArray.map PyProof.Rows.lo1⟩ : Str) = ⟨(l.map lo1).toArray⟩
  rw [List.map_toArray]
  rfl
theorem spl_split (c : Nat) : ∀ (l acc : List Nat), TL.spl [c] 0 acc l = split1 c l acc
  | [], acc => rfl
  | d :: t, acc => by
    unfold split1
    by_cases q : d = c
    · rw [TL.spl_hit (by simp [TL.pre, q]), if_pos q]
      show acc :: TL.spl [c] 0 [] t = _
      rw [spl_split c t []]
    · rw [TL.spl_miss (by simp [TL.pre, q]), if_neg q]
      exact spl_split c t _
theorem split_eq {l : List Nat} {c : Nat} (hc : c < 256) : Txt.split (toS l) (toS [c]) = (split1 c l []).map toS := by
  apply TL.map_tl_inj
  rw [TL.split_spl (toS l) (toS [c]) (by simp [TL.tl, toS]) (TL.kind_ok (by simpa [toS] using hc))]
  rw [show TL.tl (toS [c]) = [c] from toS_cps [c], show TL.tl (toS l) = l from toS_cps l, spl_split, List.map_map]
  conv => lhs; rw [← List.map_id (split1 c l [])]
  exact List.map_congr_left fun a _ => (toS_cps a).symm
end Ev

/-! part EvCall -/
set_option maxRecDepth 100000
set_option maxHeartbeats 4000000
/-! Built-in functions and methods by values. -/
namespace Ev
open PySem PySem.Spec PyProof.Rows L2
section
variable {X : Cx} {N : Nms} {B : Addr → Prop} {W : WX} {ρ : Nat → Addr} {h : Hs} {H : Hp} {Q : VK} {x y : D} {v u : V}
theorem reps1 {w : Vw} {x : D} {vs : List V} (r : Reps w [x] vs) : ∃ v, vs = [v] ∧ Rep w x v := by
  obtain ⟨v, t, rfl, rv, rt⟩ := r
  cases (show t = [] from rt)
  exact ⟨v, rfl, rv⟩
theorem reps2 {w : Vw} {x y : D} {vs : List V} (r : Reps w [x, y] vs) : ∃ v u, vs = [v, u] ∧ Rep w x v ∧ Rep w y u := by
  obtain ⟨v, t, rfl, rv, rt⟩ := r
  obtain ⟨u, rfl, ru⟩ := reps1 rt
  exact ⟨v, u, rfl, rv, ru⟩
theorem reps3 {w : Vw} {x y z : D} {vs : List V} (r : Reps w [x, y, z] vs) : ∃ v u t, vs = [v, u, t] ∧ Rep w x v ∧ Rep w y u ∧ Rep w z t := by
  obtain ⟨v, t, rfl, rv, rt⟩ := r
  obtain ⟨u, t, rfl, ru, rz⟩ := reps2 rt
  exact ⟨v, u, t, rfl, rv, ru, rz⟩
theorem ints_rep {w : Vw} : ∀ {ds : List D} {ns : List Int} {vs : List V}, intsOf ds = some ns → Reps w ds vs → vs = ns.map V.int
  | [], ns, vs, e, r => by
    cases e
    exact r
  | d :: ds, ns, vs, e, r => by
    obtain ⟨v, t, rfl, rv, rt⟩ := r
    cases d <;> first | (cases e; done) | skip
    rename_i i
    obtain ⟨ms, e1, rfl⟩ := Option.map_eq_some_iff.mp (show (intsOf ds).map (i :: ·) = some ns from e)
    cases rv
    rw [ints_rep e1 rt]
    rfl
theorem bools_rep {w : Vw} : ∀ {ds : List D} {ns : List Bool} {vs : List V}, boolsOf ds = some ns → Reps w ds vs → vs = ns.map V.bl
  | [], ns, vs, e, r => by
    cases e
    exact r
  | d :: ds, ns, vs, e, r => by
    obtain ⟨v, t, rfl, rv, rt⟩ := r
    cases d <;> first | (cases e; done) | skip
    rename_i i
    obtain ⟨ms, e1, rfl⟩ := Option.map_eq_some_iff.mp (show (boolsOf ds).map (i :: ·) = some ns from e)
    cases rv
    rw [bools_rep e1 rt]
    rfl
theorem strs_rep {w : Vw} : ∀ {ds : List D} {ns : List (List Nat)} {vs : List V}, strsOf ds = some ns → Reps w ds vs → vs = (ns.map toS).map V.str
  | [], ns, vs, e, r => by
    cases e
    exact r
  | d :: ds, ns, vs, e, r => by
    obtain ⟨v, t, rfl, rv, rt⟩ := r
    cases d <;> first | (cases e; done) | skip
    rename_i i
    obtain ⟨ms, e1, rfl⟩ := Option.map_eq_some_iff.mp (show (strsOf ds).map (i :: ·) = some ns from e)
    cases rv
    rw [strs_rep e1 rt]
    rfl
theorem strs_back {w : Vw} : ∀ ns : List (List Nat), Reps w (ns.map fun z => D.str z) ((ns.map toS).map V.str)
  | [] => rfl
  | n :: ns => ⟨_, _, rfl, rfl, strs_back ns⟩
theorem minI_ok : ∀ (r : List Int) (m : Int), minI r m ∈ m :: r ∧ ∀ y ∈ m :: r, minI r m ≤ y
  | [], m => by simp [minI]
  | x :: r, m => by
    unfold minI
    by_cases c : x < m
    · rw [if_pos c]
      obtain ⟨h1, h2⟩ := minI_ok r x
      refine ⟨?_, fun y hy => ?_⟩
      · simp only [List.mem_cons] at h1 ⊢
        rcases h1 with h1 | h1 <;> simp [h1]
      · simp only [List.mem_cons] at hy h2
        have := h2 x (.inl rfl)
        rcases hy with hy | hy | hy
        · omega
        · omega
        · exact h2 y (.inr hy)
    · rw [if_neg c]
      obtain ⟨h1, h2⟩ := minI_ok r m
      refine ⟨?_, fun y hy => ?_⟩
      · simp only [List.mem_cons] at h1 ⊢
        rcases h1 with h1 | h1 <;> simp [h1]
      · simp only [List.mem_cons] at hy h2
        have := h2 m (.inl rfl)
        rcases hy with hy | hy | hy
        · omega
        · omega
        · exact h2 y (.inr hy)
theorem maxI_ok : ∀ (r : List Int) (m : Int), maxI r m ∈ m :: r ∧ ∀ y ∈ m :: r, y ≤ maxI r m
  | [], m => by simp [maxI]
  | x :: r, m => by
    unfold maxI
    by_cases c : m < x
    · rw [if_pos c]
      obtain ⟨h1, h2⟩ := maxI_ok r x
      refine ⟨?_, fun y hy => ?_⟩
      · simp only [List.mem_cons] at h1 ⊢
        rcases h1 with h1 | h1 <;> simp [h1]
      · simp only [List.mem_cons] at hy h2
        have := h2 x (.inl rfl)
        rcases hy with hy | hy | hy
        · omega
        · omega
        · exact h2 y (.inr hy)
    · rw [if_neg c]
      obtain ⟨h1, h2⟩ := maxI_ok r m
      refine ⟨?_, fun y hy => ?_⟩
      · simp only [List.mem_cons] at h1 ⊢
        rcases h1 with h1 | h1 <;> simp [h1]
      · simp only [List.mem_cons] at hy h2
        have := h2 m (.inl rfl)
        rcases hy with hy | hy | hy
        · omega
        · omega
        · exact h2 y (.inr hy)
theorem dct_rep (S : Sim X.K N B ρ h H) {kvs : List (List Nat × D)} (rx : Rep (vw X.K B ρ h H) x v) (e : dctOf h x = some kvs) : ∃ a es, v = .ref a ∧ H a = some (.dK es) ∧ RepK (vw X.K B ρ h H) kvs es := by
  cases x <;> first | (cases e; done) | skip
  rename_i n
  obtain ⟨hn, rfl⟩ := rx
  unfold dctOf at e
  cases eo : h.o n with
  | none => simp only [eo] at e; cases e
  | some o =>
    simp only [eo] at e
    cases o <;> first | (cases e; done) | skip
    cases e
    obtain ⟨es, he, r⟩ := S.obj n _ eo
    exact ⟨_, es, rfl, he, r⟩
theorem repK_keys {w : Vw} : ∀ {ks : List (List Nat × D)} {es : List (Key × V)}, RepK w ks es → Reps w (ks.map fun p => D.str p.1) (es.map fun kv => kV kv.1)
  | [], es, r => by
    cases (show es = [] from r)
    rfl
  | (j, c) :: ks, es, r => by
    obtain ⟨z, t, rfl, rz, rt⟩ := r
    exact ⟨_, _, rfl, rfl, repK_keys rt⟩

/-! ### functions -/
def bltV : Bl → Value
  | .len => .builtin "len"
  | .min => .builtin "min"
  | .max => .builtin "max"
  | .sum => .builtin "sum"
  | .all => .builtin "all"
  | .abs => .builtin "abs"
  | .sorted => .builtin "sorted"
  | .int => .type "int"
  | .list => .type "list"
  | .tuple => .type "tuple"
  | .dict => .type "dict"
  | .sortedItems => .builtin "sorted"
  | .listRange => .type "list"
theorem len_ok (S : Sim X.K N B ρ h H) (rx : Rep (vw X.K B ρ h H) x v) (p : P1 X N B W ρ h H (lenD x h) Q) : wC X (.builtin "len") [v] H Q := by
  have go : (match items h x with
    | some ys => .ok (.int ys.length) h
    | none => (match dctOf h x with
      | some kvs => .ok (.int kvs.length) h
      | none => (.stk : R D))) = lenD x h → wC X (.builtin "len") [v] H Q := by
    intro em
    rw [← em] at p
    cases e : items h x with
    | some ds =>
      rw [e] at p
      obtain ⟨a, vs, rfl, sq, r⟩ := items_rep S rx e
      refine wC.of call_len_seq ⟨a, vs, rfl, sq, ?_⟩
      rw [r.len]
      exact P1.val p S rfl
    | none =>
      rw [e] at p
      cases e2 : dctOf h x with
      | some kvs =>
        simp only [e2] at p
        obtain ⟨a, es, rfl, he, r⟩ := dct_rep S rx e2
        refine wC.of call_lenD ⟨a, es, rfl, he, ?_⟩
        rw [repK_len r]
        exact P1.val p S rfl
      | none =>
        simp only [e2] at p
        exact False.elim p
  cases x <;> first | exact go rfl | skip
  rename_i a
  obtain ⟨c, p⟩ := Post.okIf (show Post X.K N B W ρ h H (okIf (decide (a.length ≤ big)) (D.int a.length) h) _ from p)
  cases rx
  refine wC.of call_len_str ⟨toS a, rfl, ?_, ?_⟩
  · rw [toS_len, ← big_eq]
    exact of_decide_eq_true c
  · rw [toS_len]
    exact P1.val p S rfl
theorem lints {f : List Int → Option D} (S : Sim X.K N B ρ h H) (rx : Rep (vw X.K B ρ h H) x v) {ns : List Int} (e : (lsts h x).bind intsOf = some ns) : ∃ a, v = .ref a ∧ SqL X.K H a (ns.map V.int) := by
  obtain ⟨ds, e1, e2⟩ := Option.bind_eq_some_iff.mp e
  obtain ⟨a, vs, rfl, sq, r⟩ := lsts_rep S rx e1
  rw [ints_rep e2 r] at sq
  exact ⟨a, rfl, .of sq⟩
theorem pairs_toP : ∀ {ds : List D} {ps : List (Bool × Int)}, pairsOf ds = some ps → toPs ds = ps.map PySem.W.Datum.toD ∧ doks 59 ds = true ∧ ds = ps.map prD
  | [], ps, e => by cases e; exact ⟨rfl, rfl, rfl⟩
  | d :: ds, ps, e => by
    unfold pairsOf at e
    split at e
    · rename_i heq; cases heq
    · rename_i b i r heq
      cases heq
      obtain ⟨qs, e1, rfl⟩ := Option.map_eq_some_iff.mp e
      obtain ⟨h1, h2, h3⟩ := pairs_toP e1
      refine ⟨?_, ?_, ?_⟩
      · rw [toPs, h1, List.map_cons]
        rfl
      · show (dok 59 (.tup [.bl b, .int i]) && doks 59 ds) = true
        rw [h2]
        rfl
      · rw [List.map_cons, ← h3]
        rfl
    · cases e
theorem prD_inj {d : D} {p q : Bool × Int} (hd : d = prD q) (e : toP d = PySem.W.Datum.toD p) : d = prD p := by
  subst hd
  obtain ⟨b, i⟩ := p
  obtain ⟨c, j⟩ := q
  have e' : PyData.tuple [.bool c, .int j] = PyData.tuple [.bool b, .int i] := e
  injection e' with e'
  injection e' with e1 e2
  injection e1 with e1
  injection e2 with e2 _
  injection e2 with e2
  subst e1 e2
  rfl
theorem mm_ok (hu : X.A.units + 64 < cLine) {ps : List (Bool × Int)} {m : Bool × Int} {ds : List D} {vs : List V} {its : List Value} {pins : List (Addr × Obj)} {σ : L2.St} {s : Shared} (I : Inv X pins σ H s) (e : pairsOf ds = some ps) (r : Reps (vw X.K B ρ h H) ds vs) (rv : Vals vs its) (q : ∀ w, Rep (vw X.K B ρ h H) (prD m) w → Q w H)
    {i : Nat} {v : Value} {h' : Heap} {tk : Nat} (hi : its.toArray[i]? = some v) (Hh : PySem.W.Holds h' v m) (hk : ∀ b o, s.heap.get? b = some o → h'.get? b = some o) : EP X pins σ Q v { s with heap := h', toks := tk } := by
  obtain ⟨h1, h2, h3⟩ := pairs_toP e
  have hi' : its[i]? = some v := by simpa using hi
  obtain ⟨w, ew, rel⟩ : ∃ w, vs[i]? = some w ∧ RelV w v := by
    have : ∀ {vs : List V} {its : List Value} {i : Nat}, Vals vs its → its[i]? = some v → ∃ w, vs[i]? = some w ∧ RelV w v := by
      intro vs its i r
      induction r generalizing i with
      | nil => intro e; cases e
      | cons a _ ih =>
        intro e
        cases i with
        | zero => cases e; exact ⟨_, rfl, a⟩
        | succ i => exact ih e
    exact this rv hi'
  obtain ⟨d, ed, rd⟩ : ∃ d, ds[i]? = some d ∧ Rep (vw X.K B ρ h H) d w := by
    have hl : i < ds.length := by
      rw [← r.len]
      exact (List.getElem?_eq_some_iff.mp ew).1
    obtain ⟨w2, e2, r2⟩ := r.get (List.getElem?_eq_getElem hl)
    rw [ew] at e2
    cases e2
    exact ⟨_, List.getElem?_eq_getElem hl, r2⟩
  have dk : dok 59 d = true := by
    have : ∀ {ds : List D} {i : Nat} {d : D}, doks 59 ds = true → ds[i]? = some d → dok 59 d = true := by
      intro ds
      induction ds with
      | nil => intro i d _ e; cases e
      | cons a ds ih =>
        intro i d o e
        rw [doks, Bool.and_eq_true] at o
        cases i with
        | zero => cases e; exact o.1
        | succ i => exact ih o.2 e
    exact this h2 ed
  obtain ⟨as, ra⟩ := Dp.reads I _ w v (dp_of dk rd) rel
  obtain ⟨bs, rb⟩ := Hh
  have ee := PySem.SeqAt.Reads.unique _ _ _ _ _ (lay_of dk).1 (Reads.keeps hk ra) rb
  rw [h3, List.getElem?_map] at ed
  obtain ⟨p, _, hp⟩ := Option.map_eq_some_iff.mp ed
  have := prD_inj hp.symm ee
  exact ⟨w, H, I.kept hk, rel, q w (this ▸ rd)⟩
theorem minP_w (hc : X.calm = true) (hu : X.A.units + 64 < cLine) (S : Sim X.K N B ρ h H) (rx : Rep (vw X.K B ρ h H) x v) (p : P1 X N B W ρ h H (minPD x h) Q) : wC X (.builtin "min") [v] H Q := by
  unfold minPD at p
  cases e : (lsts h x).bind pairsOf with
  | none => rw [e] at p; exact False.elim p
  | some ps =>
    rw [e] at p
    cases ps with
    | nil => exact False.elim p
    | cons a ps =>
      obtain ⟨ds, e1, e2⟩ := Option.bind_eq_some_iff.mp e
      obtain ⟨l, vs, rfl, sq, r⟩ := lsts_rep S rx e1
      intro pins s σ us I rv
      obtain ⟨its, rv2, hl, _⟩ := I.list (.inl (.of sq))
      rw [Vals.ref1 rv]
      obtain ⟨h1, h2, _⟩ := pairs_toP e2
      obtain ⟨as, ra⟩ := Dp.readsAll I _ vs its (dps_of (n := 59) h2 r) rv2
      have hd : PySem.W.Datum.depth (Bool × Int) ≤ 5 := by decide
      rw [h1] at ra
      exact PySem.W.min_list_datum (α := Bool × Int) (I.ok.hd hc) hl.isList (x := a) (xs := ps) ⟨as, ra⟩ (by omega) fun i v h' tk hi Hh hk => mm_ok hu I e2 r rv2 (fun w rw' => P1.val p S rw') hi Hh hk
theorem maxP_w (hc : X.calm = true) (hu : X.A.units + 64 < cLine) (S : Sim X.K N B ρ h H) (rx : Rep (vw X.K B ρ h H) x v) (p : P1 X N B W ρ h H (maxPD x h) Q) : wC X (.builtin "max") [v] H Q := by
  unfold maxPD at p
  cases e : (lsts h x).bind pairsOf with
  | none => rw [e] at p; exact False.elim p
  | some ps =>
    rw [e] at p
    cases ps with
    | nil => exact False.elim p
    | cons a ps =>
      obtain ⟨ds, e1, e2⟩ := Option.bind_eq_some_iff.mp e
      obtain ⟨l, vs, rfl, sq, r⟩ := lsts_rep S rx e1
      intro pins s σ us I rv
      obtain ⟨its, rv2, hl, _⟩ := I.list (.inl (.of sq))
      rw [Vals.ref1 rv]
      obtain ⟨h1, h2, _⟩ := pairs_toP e2
      obtain ⟨as, ra⟩ := Dp.readsAll I _ vs its (dps_of (n := 59) h2 r) rv2
      have hd : PySem.W.Datum.depth (Bool × Int) ≤ 5 := by decide
      rw [h1] at ra
      exact PySem.W.max_list_datum (α := Bool × Int) (I.ok.hd hc) hl.isList (x := a) (xs := ps) ⟨as, ra⟩ (by omega) fun i v h' tk hi Hh hk => mm_ok hu I e2 r rv2 (fun w rw' => P1.val p S rw') hi Hh hk
theorem blt1_ok (hc : X.calm = true) (hu : X.A.units + 64 < cLine) (b : Bl) (S : Sim X.K N B ρ h H) (rx : Rep (vw X.K B ρ h H) x v) (p : P1 X N B W ρ h H (blt1 b x h) Q) : wC X (bltV b) [v] H Q := by
  cases b with
  | len => exact len_ok S rx p
  | min =>
    have p' : P1 X N B W ρ h H (match (lsts h x).bind intsOf with
      | some (i :: r) => .ok (.int (minI r i)) h
      | _ => minPD x h) Q := p
    cases e : (lsts h x).bind intsOf with
    | none => rw [e] at p'; exact minP_w hc hu S rx p'
    | some ns =>
      rw [e] at p'
      cases ns with
      | nil => exact minP_w hc hu S rx p'
      | cons i r =>
        obtain ⟨a, rfl, sq⟩ := lints (f := fun _ => none) S rx e
        refine wC.of (cr_min hc) ⟨a, _, rfl, sq, by simp, fun m hm hl => ?_⟩
        have p2 : Q (.int (minI r i)) H := P1.val p' S rfl
        obtain ⟨h1, h2⟩ := minI_ok r i
        have e1 := hl _ h1
        have e2 := h2 _ hm
        have e3 : m = minI r i := by omega
        rw [e3]
        exact p2
  | max =>
    have p' : P1 X N B W ρ h H (match (lsts h x).bind intsOf with
      | some (i :: r) => .ok (.int (maxI r i)) h
      | _ => maxPD x h) Q := p
    cases e : (lsts h x).bind intsOf with
    | none => rw [e] at p'; exact maxP_w hc hu S rx p'
    | some ns =>
      rw [e] at p'
      cases ns with
      | nil => exact maxP_w hc hu S rx p'
      | cons i r =>
        obtain ⟨a, rfl, sq⟩ := lints (f := fun _ => none) S rx e
        refine wC.of (cr_max hc) ⟨a, _, rfl, sq, by simp, fun m hm hl => ?_⟩
        have p2 : Q (.int (maxI r i)) H := P1.val p' S rfl
        obtain ⟨h1, h2⟩ := maxI_ok r i
        have e1 := hl _ h1
        have e2 := h2 _ hm
        have e3 : m = maxI r i := by omega
        rw [e3]
        exact p2
  | sum =>
    obtain ⟨d, e, p⟩ := Post.ofO (show Post X.K N B W ρ h H (ofO (((lsts h x).bind intsOf).map fun ns => D.int ns.sum) h) _ from p)
    obtain ⟨ns, e1, rfl⟩ := Option.map_eq_some_iff.mp e
    obtain ⟨a, rfl, sq⟩ := lints (f := fun _ => none) S rx e1
    exact wC.of (cr_sum hc) ⟨a, ns, rfl, sq, P1.val p S rfl⟩
  | all =>
    obtain ⟨d, e, p⟩ := Post.ofO (show Post X.K N B W ρ h H (ofO (((lsts h x).bind boolsOf).map fun bs => D.bl (bs.all id)) h) _ from p)
    obtain ⟨ns, e1, rfl⟩ := Option.map_eq_some_iff.mp e
    obtain ⟨ds, e2, e3⟩ := Option.bind_eq_some_iff.mp e1
    obtain ⟨a, vs, rfl, sq, r⟩ := lsts_rep S rx e2
    rw [bools_rep e3 r] at sq
    exact wC.of (cr_all hc) ⟨a, ns, rfl, .of sq, P1.val p S rfl⟩
  | abs =>
    cases x <;> first | exact False.elim p | skip
    cases rx
    exact wC.of call_abs ⟨_, rfl, P1.val p S rfl⟩
  | int =>
    cases x <;> first | exact False.elim p | skip
    · cases rx
      exact wC.of call_int1 (.inr ⟨_, rfl, P1.val p S rfl⟩)
    · cases rx
      exact wC.of call_int1 (.inl ⟨_, rfl, P1.val p S rfl⟩)
  | sorted => exact False.elim p
  | sortedItems => exact False.elim p
  | listRange => exact False.elim p
  | list =>
    have p' : P1 X N B W ρ h H (match items h x with
      | some ys => .ok (.lst ys) h
      | none => (match dictOf h x with
        | some kvs => .ok (.lst (kvs.map fun p => .str p.1)) h
        | none => .stk)) Q := p
    cases e : items h x with
    | some ds =>
      rw [e] at p'
      obtain ⟨a, vs, rfl, sq, r⟩ := items_rep S rx e
      exact wC.of call_list_of ⟨a, vs, rfl, sq, fun l hl => P1.lst p' S r hl⟩
    | none =>
      rw [e] at p'
      cases e2 : dictOf h x with
      | none => simp only [e2] at p'; exact False.elim p'
      | some kvs =>
        simp only [e2] at p'
        obtain ⟨a, o, rfl, _, ⟨es, he, rk⟩, _⟩ := dget_of S rx e2 []
        exact wC.of (call_listD hc) ⟨a, es, rfl, he, fun l hl => P1.lst p' S (repK_keys rk) hl⟩
  | tuple =>
    have p' : P1 X N B W ρ h H (match items h x with
      | some ys => .ok (.tup ys) h
      | none => .stk) Q := p
    cases e : items h x with
    | none => rw [e] at p'; exact False.elim p'
    | some ds =>
      rw [e] at p'
      cases x with
      | tup xs =>
        cases e
        obtain ⟨a, vs, rfl, f, r⟩ := rx
        exact wC.of call_tuple_of ⟨a, vs, rfl, .inr ⟨f.sq, P1.val p' S ⟨a, vs, rfl, f, r⟩⟩⟩
      | lst xs =>
        cases e
        obtain ⟨a, vs, rfl, f, r⟩ := rx
        exact wC.of call_tuple_of ⟨a, vs, rfl, .inl ⟨.of f.1, fun l hl => P1.tup p' S r hl⟩⟩
      | scr xs =>
        cases e
        obtain ⟨a, rfl, f⟩ := rx
        exact wC.of call_tuple_of ⟨a, _, rfl, .inl ⟨f.sq, fun l hl => P1.tup p' S (Reps.map D.int V.int (fun _ => rfl) _) hl⟩⟩
      | ref n =>
        obtain ⟨a, vs, rfl, sq, r⟩ := items_rep S rx e
        obtain ⟨a2, vs2, e2, sq2, r2⟩ : ∃ a2 vs2, V.ref a = .ref a2 ∧ H a2 = some (.lst vs2) ∧ Reps (vw X.K B ρ h H) ds vs2 := lsts_rep S rx (by simpa [lsts, items] using e)
        cases e2
        exact wC.of call_tuple_of ⟨a, vs2, rfl, .inl ⟨.of sq2, fun l hl => P1.tup p' S r2 hl⟩⟩
      | non => cases e
      | bl _ => cases e
      | int _ => cases e
      | str _ => cases e
  | dict =>
    have p' : P1 X N B W ρ h H (match dictOf h x with
      | some kvs => .ok (.ref h.n) (h.new (.dct kvs))
      | none => .stk) Q := p
    cases e2 : dictOf h x with
    | none => rw [e2] at p'; exact False.elim p'
    | some kvs =>
      rw [e2] at p'
      obtain ⟨a, o, rfl, _, ⟨es, he, rk⟩, _⟩ := dget_of S rx e2 []
      refine wC.of call_dictD ⟨a, es, rfl, he, fun l hl => ?_⟩
      have E := ext_mk (x := .dct kvs) (u := .dK es) S hl
      exact p' (rset ρ h.n l) _ (S.mk' hl ⟨es, upd_same, rk.ext E⟩) E (.ref l) ⟨Nat.lt_succ_self _, by rw [show (vw X.K B (rset ρ h.n l) (h.new (.dct kvs)) (upd H l (.dK es))).ρ h.n = l from rset_same]⟩
theorem blt2_ok (hc : X.calm = true) (b : Bl) (S : Sim X.K N B ρ h H) (rx : Rep (vw X.K B ρ h H) x v) (ry : Rep (vw X.K B ρ h H) y u) (p : P1 X N B W ρ h H (blt2 b x y h) Q) : wC X (bltV b) [v, u] H Q := by
  cases b <;> first | exact False.elim p | skip
  all_goals cases x <;> first | exact False.elim p | skip
  all_goals cases y <;> first | exact False.elim p | skip
  all_goals cases rx; cases ry
  · exact wC.of (call_min2 hc) ⟨_, _, rfl, P1.val p S rfl⟩
  · exact wC.of (call_max2 hc) ⟨_, _, rfl, P1.val p S rfl⟩
theorem blt_ok (hc : X.calm = true) (hu : X.A.units + 64 < cLine) (b : Bl) {xs : List D} {vs : List V} (S : Sim X.K N B ρ h H) (rx : Reps (vw X.K B ρ h H) xs vs) (p : P1 X N B W ρ h H (blt b xs h) Q) : wC X (bltV b) vs H Q := by
  match xs, p with
  | [], p => exact False.elim p
  | [x], p =>
    obtain ⟨v, rfl, r⟩ := reps1 rx
    exact blt1_ok hc hu b S r p
  | [x, y], p =>
    obtain ⟨v, u, rfl, r, r'⟩ := reps2 rx
    exact blt2_ok hc b S r r' p
  | _ :: _ :: _ :: _, p => exact False.elim p
end
end Ev

/-! part EvMeth -/
set_option maxRecDepth 100000
set_option maxHeartbeats 4000000
/-! Methods of built-in classes by values; isinstance; the late method's rule. -/
namespace Ev
open PySem PySem.Spec PyProof.Rows L2
section
variable {X : Cx} {N : Nms} {B : Addr → Prop} {W : WX} {ρ : Nat → Addr} {h : Hs} {H : Hp} {Q : VK} {x y : D} {v u : V}
def wM (X : Cx) (id : String) : V → List V → Hp → VK → Prop := fun x xs H Q => ∀ pins s σ v us, Inv X pins σ H s → RelV x v → Vals xs us → wpAny (model X.prog X.w) X.A (call (.builtin id) (v :: us)) (EP X pins σ Q) X.xe s
theorem wM.of {id : String} {r : V → List V → Hp → VK → Prop} {xs : List V} (p : MtR X id r) (q : r v xs H Q) : wM X id v xs H Q := fun pins s σ w us I rv rs => p pins s σ H v xs w us Q I rv rs q
theorem wM.ofM {id : String} {r : V → List V → Hp → VK → Prop} {xs : List V} (p : MtM X id r) (q : r v xs H Q) : wM X id v xs H Q := fun pins s σ w us I rv rs => p pins s σ H v xs w us Q I rv rs q
def btName : Bt → String
  | .str => "str"
  | .list => "list"
  | .dict => "dict"
def bmName : Bm → Str
  | .append => "append"
  | .extend => "extend"
  | .pop => "pop"
  | .insert => "insert"
  | .count => "count"
  | .index => "index"
  | .find => "find"
  | .rfind => "rfind"
  | .join => "join"
  | .split => "split"
  | .replace => "replace"
  | .upper => "upper"
  | .lower => "lower"
  | .lstrip => "lstrip"
  | .get => "get"
  | .update => "update"
def bmId : Bt → Bm → String
  | .str, .count => "str.count"
  | .str, .index => "str.index"
  | .str, .find => "str.find"
  | .str, .rfind => "str.rfind"
  | .str, .join => "str.join"
  | .str, .split => "str.split"
  | .str, .upper => "str.upper"
  | .str, .lower => "str.lower"
  | .str, .lstrip => "str.lstrip"
  | .list, .append => "list.append"
  | .list, .extend => "list.extend"
  | .list, .pop => "list.pop"
  | .list, .insert => "list.insert"
  | .list, .count => "list.count"
  | .dict, .get => "dict.get"
  | _, _ => ""
structure BmF (t : Bt) (b : Bm) : Prop where
  pa : PlainAttrs (btName t)
  slot : Slot (btName t) (bmName b) (bmId t b)
  ty : typeOf (.builtin (bmId t b)) = pure (.type "method_descriptor")
theorem bmF : ∀ (t : Bt) (b : Bm), bok t b = true → BmF t b
  | .str, .count, _ => ⟨PySem.F.plainAttrs_str, PySem.F.slot_str_count, PySem.F.type_str_count⟩
  | .str, .index, _ => ⟨PySem.F.plainAttrs_str, PySem.F.slot_str_index, PySem.F.type_str_index⟩
  | .str, .find, _ => ⟨PySem.F.plainAttrs_str, PySem.F.slot_str_find, PySem.F.type_str_find⟩
  | .str, .rfind, _ => ⟨PySem.F.plainAttrs_str, PySem.F.slot_str_rfind, PySem.F.type_str_rfind⟩
  | .str, .join, _ => ⟨PySem.F.plainAttrs_str, PySem.F.slot_str_join, PySem.F.type_str_join⟩
  | .str, .split, _ => ⟨PySem.F.plainAttrs_str, PySem.F.slot_str_split, PySem.F.type_str_split⟩
  | .str, .upper, _ => ⟨PySem.F.plainAttrs_str, PySem.F.slot_str_upper, PySem.F.type_str_upper⟩
  | .str, .lower, _ => ⟨PySem.F.plainAttrs_str, PySem.F.slot_str_lower, PySem.F.type_str_lower⟩
  | .str, .lstrip, _ => ⟨PySem.F.plainAttrs_str, PySem.F.slot_str_lstrip, PySem.F.type_str_lstrip⟩
  | .list, .append, _ => ⟨PySem.F.plainAttrs_list, PySem.F.slot_list_append, PySem.F.type_list_append⟩
  | .list, .extend, _ => ⟨PySem.F.plainAttrs_list, PySem.F.slot_list_extend, PySem.F.type_list_extend⟩
  | .list, .pop, _ => ⟨PySem.F.plainAttrs_list, PySem.F.slot_list_pop, PySem.F.type_list_pop⟩
  | .list, .insert, _ => ⟨PySem.F.plainAttrs_list, PySem.F.slot_list_insert, PySem.F.type_list_insert⟩
  | .list, .count, _ => ⟨PySem.F.plainAttrs_list, PySem.F.slot_list_count, PySem.F.type_list_count⟩
  | .dict, .get, _ => ⟨PySem.F.plainAttrs_dict, PySem.F.slot_dict_get, PySem.F.type_dict_get⟩
  | .str, .append, h => nomatch h
  | .str, .extend, h => nomatch h
  | .str, .pop, h => nomatch h
  | .str, .insert, h => nomatch h
  | .str, .replace, h => nomatch h
  | .str, .get, h => nomatch h
  | .str, .update, h => nomatch h
  | .list, .index, h => nomatch h
  | .list, .find, h => nomatch h
  | .list, .rfind, h => nomatch h
  | .list, .join, h => nomatch h
  | .list, .split, h => nomatch h
  | .list, .replace, h => nomatch h
  | .list, .upper, h => nomatch h
  | .list, .lower, h => nomatch h
  | .list, .lstrip, h => nomatch h
  | .list, .get, h => nomatch h
  | .list, .update, h => nomatch h
  | .dict, .append, h => nomatch h
  | .dict, .extend, h => nomatch h
  | .dict, .pop, h => nomatch h
  | .dict, .insert, h => nomatch h
  | .dict, .count, h => nomatch h
  | .dict, .index, h => nomatch h
  | .dict, .find, h => nomatch h
  | .dict, .rfind, h => nomatch h
  | .dict, .join, h => nomatch h
  | .dict, .split, h => nomatch h
  | .dict, .replace, h => nomatch h
  | .dict, .upper, h => nomatch h
  | .dict, .lower, h => nomatch h
  | .dict, .lstrip, h => nomatch h
  | .dict, .update, h => nomatch h
theorem bty_ok {b : Bm} {t : Bt} (S : Sim X.K N B ρ h H) (rx : Rep (vw X.K B ρ h H) x v) (e : bty b x h = some t) : bok t b = true ∧ tyV X.K (btName t) v H := by
  unfold bty at e
  cases e0 : bty0 x h with
  | none => rw [e0] at e; cases e
  | some t0 =>
    rw [e0] at e
    cases e1 : bok t0 b with
    | false => simp only [e1] at e; cases e
    | true =>
      simp only [e1] at e
      cases e
      refine ⟨e1, ?_⟩
      cases x <;> first | (cases e0; done) | skip
      · cases e0
        cases rx
        rfl
      · cases e0
        obtain ⟨a, vs, rfl, f, r⟩ := rx
        exact .inl ⟨rfl, vs, .of f.1⟩
      · rename_i n
        obtain ⟨hn, rfl⟩ := rx
        unfold bty0 at e0
        cases eo : h.o n with
        | none => simp only [eo] at e0; cases e0
        | some o =>
          simp only [eo] at e0
          have r := S.obj n _ eo
          cases o <;> first | (cases e0; done) | skip
          · cases e0
            obtain ⟨vs, he, _⟩ := r
            exact .inl ⟨rfl, vs, .of he⟩
          · cases e0
            obtain ⟨es, he, _⟩ := r
            exact .inr (.inr (.inl ⟨rfl, .inl ⟨es, he⟩⟩))
theorem bms_ok (b : Bm) {a : List Nat} {xs : List D} {vs : List V} (S : Sim X.K N B ρ h H) (rx : Reps (vw X.K B ρ h H) xs vs) (p : P1 X N B W ρ h H (bms b a xs h) Q) : wM X (bmId .str b) (.str (toS a)) vs H Q := by
  unfold bms at p
  split at p
  · cases (show vs = [] from rx)
    cases b <;> first | exact False.elim p | skip
    · obtain ⟨c, p⟩ := Post.okIf p
      rw [Bool.and_eq_true] at c
      refine wM.of mt_upper ⟨toS a, rfl, rfl, ?_, ?_⟩
      · rw [toS_len]
        have := of_decide_eq_true c.1
        omega
      · rw [upper_eq c.2]
        exact P1.val p S rfl
    · obtain ⟨c, p⟩ := Post.okIf p
      rw [Bool.and_eq_true] at c
      refine wM.of mt_lower ⟨toS a, rfl, rfl, ?_, ?_⟩
      · rw [toS_len]
        have := of_decide_eq_true c.1
        omega
      · rw [lower_eq c.2]
        exact P1.val p S rfl
  · rename_i c
    obtain ⟨z, rfl, rz⟩ := reps1 rx
    cases rz
    cases b <;> first | exact False.elim p | skip
    · refine wM.of mt_count ⟨toS a, toS [c], rfl, rfl, ?_⟩
      rw [count_sign]
      exact P1.val p S rfl
    · obtain ⟨d, e, p⟩ := Post.ofO p
      obtain ⟨i, e1, rfl⟩ := Option.map_eq_some_iff.mp e
      have f := occ_find a c 0 (Nat.zero_le _)
      rw [List.drop_zero, e1] at f
      cases eo : Builtin.Str.occurrences (toS a) (toS [c]) 0 a.length 1 with
      | nil =>
        rw [eo] at f
        cases f
      | cons j rest =>
        rw [eo] at f
        cases f
        exact wM.of mt_sindex ⟨toS a, toS [c], i, rest, rfl, rfl, by rw [toS_len]; exact eo, P1.val p S rfl⟩
    · obtain ⟨d, p⟩ := Post.okIf p
      rw [Bool.and_eq_true] at d
      refine wM.of mt_split ⟨toS a, toS [c], rfl, rfl, by rw [toS_len]; rfl, ?_, fun l hl => ?_⟩
      · rw [toS_len, ← big_eq]
        exact of_decide_eq_true d.1
      · rw [split_eq (of_decide_eq_true d.2)]
        exact P1.lst p S (strs_back _) hl
    · obtain ⟨d, p⟩ := Post.okIf p
      refine wM.of mt_lstripChars ⟨toS a, toS [c], rfl, rfl, ?_, ?_⟩
      · rw [toS_len, ← big_eq]
        exact of_decide_eq_true d
      · rw [lstrip_sign]
        exact P1.val p S rfl
  · rename_i c i
    obtain ⟨z, z2, rfl, rz, rz2⟩ := reps2 rx
    cases rz
    cases rz2
    cases b <;> first | exact False.elim p | skip
    obtain ⟨d, p⟩ := Post.okIf p
    refine wM.of mt_find3 ⟨toS a, toS [c], i, rfl, rfl, ?_⟩
    rw [find3_sign a c i (of_decide_eq_true d)]
    exact P1.val p S rfl
  · rename_i c i j
    obtain ⟨z, z2, z3, rfl, rz, rz2, rz3⟩ := reps3 rx
    cases rz
    cases rz2
    cases rz3
    cases b <;> first | exact False.elim p | skip
    obtain ⟨d, p2⟩ := Post.okIf p
    rw [Bool.and_eq_true] at d
    have e0 : i = 0 := of_decide_eq_true d.1
    rw [e0]
    refine wM.of mt_rfind4 ⟨toS a, toS [c], 0, j, rfl, rfl, ?_⟩
    rw [rfindIn_sign a c j (of_decide_eq_true d.2)]
    exact P1.val p2 S rfl
  · obtain ⟨z, rfl, rz⟩ := reps1 rx
    cases b <;> first | exact False.elim p | skip
    simp only at p
    split at p
    · rename_i ys e
      obtain ⟨d, p⟩ := Post.okIf p
      obtain ⟨ds, e1, e2⟩ := Option.bind_eq_some_iff.mp e
      obtain ⟨l, us, rfl, sq, r⟩ := lsts_rep S rz e1
      rw [strs_rep e2 r] at sq
      refine wM.of mt_join ⟨toS a, l, ys.map toS, rfl, rfl, .inl (.of sq), ?_, ?_⟩
      · rw [List.map_map, List.length_map, toS_len]
        have : (ys.map ((fun x : Str => x.length) ∘ toS)) = ys.map List.length := by
          apply List.map_congr_left
          intro z _
          exact toS_len z
        rw [this]
        exact of_decide_eq_true d
      · rw [join_eq']
        exact P1.val p S rfl
    · exact False.elim p
  · exact False.elim p
theorem ixn_get {n : Nat} {i : Int} {j : Nat} (e : ixn n i = some j) : seqIndex? i n = some j ∧ j < n := ⟨(ixN_seq e).1, (ixN_seq e).2.1⟩
theorem bml_ok (b : Bm) {k : Nat} {ys : List D} {xs : List D} {vs : List V} (S : Sim X.K N B ρ h H) (eo : h.o k = some (.lst ys)) (rx : Reps (vw X.K B ρ h H) xs vs) (p : P1 X N B W ρ h H (bml b k ys xs h) Q) : wM X (bmId .list b) (.ref (ρ k)) vs H Q := by
  obtain ⟨us, he, r⟩ := S.obj k _ eo
  have putL : ∀ {zs : List D} {ws : List V} {d : D} {w : V}, P1 X N B W ρ h H (.ok d (h.put k (.lst zs))) Q → Reps (vw X.K B ρ h H) zs ws → Rep (vw X.K B ρ h H) d w → Q w (upd H (ρ k) (.lst ws)) := by
    intro zs ws d w p rz rd
    have E := ext_put (x := .lst zs) (u := .lst ws) S eo
    exact p ρ _ (S.put eo ⟨_, upd_same, rz.ext E _ _⟩) E _ (rd.ext E _ _)
  unfold bml at p
  split at p
  · cases (show vs = [] from rx)
    cases b <;> first | exact False.elim p | skip
    simp only at p
    split at p
    · rename_i y ey
      obtain ⟨w, ew, rw'⟩ := r.get ey
      refine wM.ofM mt_pop ⟨_, us, w, rfl, rfl, he, by rw [r.len]; exact ew, putL p ?_ rw'⟩
      rw [List.dropLast_eq_take, List.dropLast_eq_take, r.len]
      exact r.take _
    · exact False.elim p
  · obtain ⟨z, rfl, rz⟩ := reps1 rx
    cases b <;> first | exact False.elim p | skip
    · obtain ⟨c, p⟩ := Post.okIf p
      exact wM.ofM mt_append ⟨_, us, z, rfl, rfl, he, by rw [r.len, ← big_eq]; exact of_decide_eq_true c, putL p (r.app (.one rz)) rfl⟩
    · simp only at p
      split at p
      · rename_i zs e
        obtain ⟨c, p⟩ := Post.okIf p
        obtain ⟨l, ws, rfl, sq, r2⟩ := lsts_rep S rz e
        exact wM.ofM mt_extend ⟨_, l, us, ws, rfl, rfl, he, sq, by rw [r.len, r2.len, ← big_eq]; exact of_decide_eq_true c, putL p (r.app r2) rfl⟩
      · exact False.elim p
    · simp only at p
      split at p
      · rename_i i
        split at p
        · rename_i j ej
          split at p
          · rename_i y ey
            obtain ⟨c, p⟩ := Post.okIf p
            rw [Bool.and_eq_true] at c
            cases rz
            obtain ⟨w, ew, rw'⟩ := r.get ey
            refine wM.ofM mt_popAt ⟨_, us, i, j, w, rfl, rfl, he, of_decide_eq_true c.1, of_decide_eq_true c.2, by rw [r.len]; exact (ixn_get ej).1, ew, putL p ?_ rw'⟩
            rw [List.eraseIdx_eq_take_drop_succ, List.eraseIdx_eq_take_drop_succ]
            exact (r.take _).app (r.drop _)
          · exact False.elim p
        · exact False.elim p
      · exact False.elim p
  · obtain ⟨z, z2, rfl, rz, rz2⟩ := reps2 rx
    split at p
    · rename_i i
      obtain ⟨c, p⟩ := Post.okIf p
      rw [Bool.and_eq_true, Bool.and_eq_true] at c
      cases rz
      exact wM.of mt_insert ⟨_, us, i, z2, rfl, rfl, he, by rw [r.len, ← big_eq]; exact of_decide_eq_true c.2.2, of_decide_eq_true c.1, of_decide_eq_true c.2.1, putL p (((r.take _).app (.one rz2)).app (r.drop _)) rfl⟩
    · exact False.elim p
  · exact False.elim p
theorem bmk_ok (hu : X.A.units + 1 < cLine) (b : Bm) {kvs : List (List Nat × D)} {xs : List D} {vs : List V} (S : Sim X.K N B ρ h H) (rv : Rep (vw X.K B ρ h H) x v) (e : dictOf h x = some kvs) (rx : Reps (vw X.K B ρ h H) xs vs) (p : P1 X N B W ρ h H (bmk b kvs xs h) Q) : wM X (bmId .dict b) v vs H Q := by
  unfold bmk at p
  split at p
  · rename_i k
    obtain ⟨z, rfl, rz⟩ := reps1 rx
    cases rz
    cases b <;> first | exact False.elim p | skip
    obtain ⟨a, o, rfl, g, _, m⟩ := dget_of S rv e k
    intro pins s σ w us I r1 r2
    cases r1
    obtain ⟨u1, rfl, ru⟩ := r2.one
    refine d_get1 hu I g ru fun w' s' I' rw' => ⟨_, H, I', rw', ?_⟩
    cases el : kvs.lookup k with
    | none =>
      rw [el] at m p
      rw [m]
      exact P1.val p S rfl
    | some d =>
      rw [el] at m p
      obtain ⟨t, rfl, rt⟩ := m
      exact P1.val p S rt
  · rename_i k d
    obtain ⟨z, z2, rfl, rz, rz2⟩ := reps2 rx
    cases rz
    cases b <;> first | exact False.elim p | skip
    obtain ⟨a, o, rfl, g, _, m⟩ := dget_of S rv e k
    intro pins s σ w us I r1 r2
    cases r1
    obtain ⟨u1, u2, rfl, ru, ru2⟩ := r2.two
    refine d_get2 hu I g ru ru2 fun w' s' I' rw' => ⟨_, H, I', rw', ?_⟩
    cases el : kvs.lookup k with
    | none =>
      rw [el] at m p
      rw [m]
      exact P1.val p S rz2
    | some d =>
      rw [el] at m p
      obtain ⟨t, rfl, rt⟩ := m
      exact P1.val p S rt
  · exact False.elim p
theorem bmd_ok (hu : X.A.units + 1 < cLine) (t : Bt) (b : Bm) {xs : List D} {vs : List V} (S : Sim X.K N B ρ h H) (rv : Rep (vw X.K B ρ h H) x v) (rx : Reps (vw X.K B ρ h H) xs vs) (p : P1 X N B W ρ h H (bmd t b x xs h) Q) : wM X (bmId t b) v vs H Q := by
  cases t with
  | str =>
    cases x <;> first | exact False.elim p | skip
    cases rv
    exact bms_ok b S rx p
  | list =>
    cases c : decide (b = .count) with
    | true =>
      have eb := of_decide_eq_true c
      subst eb
      have p' : P1 X N B W ρ h H (cntD ((lsts h x).bind intsOf) xs h) Q := p
      clear p
      unfold cntD at p'
      split at p'
      · rename_i ns i e
        obtain ⟨z, rfl, rz⟩ := reps1 rx
        cases rz
        obtain ⟨a, rfl, sq⟩ := lints (f := fun _ => none) S rv e
        exact wM.of mt_lcount ⟨a, ns, i, rfl, rfl, sq, P1.val p' S rfl⟩
      · exact False.elim p'
    | false =>
      have p' := p
      unfold bmd at p'
      simp only [c] at p'
      cases x <;> first | exact False.elim p' | skip
      rename_i n
      cases eo : h.o n with
      | none => simp only [eo] at p'; exact False.elim p'
      | some o =>
        simp only [eo] at p'
        cases o <;> first | exact False.elim p' | skip
        obtain ⟨hn, rfl⟩ := rv
        exact bml_ok b S eo rx p'
  | dict =>
    have p' : P1 X N B W ρ h H (match dictOf h x with
      | some kvs => bmk b kvs xs h
      | none => .stk) Q := p
    split at p'
    · rename_i kvs e
      exact bmk_ok hu b S rv e rx p'
    · exact False.elim p'

/-! ### the rule of a method's call: its class is known when its receiver is -/
variable {o e : Expr} {es : List Expr} {b : Bm} {apos cpos : Pos} {σ : L2.St}
def plainE : Expr → Bool
  | .Starred _ _ => false
  | _ => true
theorem star_plain {e : Expr} {es : List Expr} {env : PySem.Env} (c : plainE e = true) : starEach (e :: es) env = (false, eval e env) :: starEach es env := by
  cases e <;> first | (cases c; done) | rfl
theorem star_plains {env : PySem.Env} : ∀ {es : List Expr}, es.all plainE = true → starEach es env = es.map fun e => (false, eval e env)
  | [], _ => rfl
  | e :: es, c => by
    rw [List.all_cons, Bool.and_eq_true] at c
    rw [star_plain c.1, star_plains c.2]
    rfl
theorem few_plain {env : PySem.Env} {es : List Expr} (c : es.all plainE = true) (hl : es.length < 30) {pos : Pos} : ((backTo pos (starEach es env)).all (fun x => !x.1) && (backToKw pos (keywordEach [] env)).all (fun x => x.1.isSome)
      && decide (es.length + ([] : List Keyword).length + (if ([] : List Keyword).isEmpty then 0 else 1) < 30)) = true := by
  rw [star_plains c]
  have h1 : (backTo pos (es.map fun e => (false, eval e env))).all (fun x => !x.1) = true := by
    unfold backTo
    rw [List.all_map, List.all_map, List.all_eq_true]
    intro e _
    rfl
  rw [h1]
  simp [keywordEach, backToKw]
  exact hl
theorem any_plain {env : PySem.Env} {es : List Expr} (c : es.all plainE = true) {pos : Pos} : (backTo pos (starEach es env)).any (·.1) = false := by
  rw [star_plains c]
  unfold backTo
  rw [List.any_map, List.any_map, List.any_eq_false]
  intro e _
  exact Bool.false_ne_true
def noSuper : Expr → Bool
  | .Call (.Name _ _) [] [] _ => false
  | _ => true
theorem base_plain {o : Expr} {name : Str} {env : PySem.Env} {whole : Sem Value} (c : noSuper o = true) : attributeBase o name env whole = whole := by
  unfold attributeBase
  split
  · cases c
  · rfl
theorem pe_late0 (hb : noSuper o = true) (hline : (apos.endLine == cpos.line) = true)
    (p : wE X o σ H fun x H1 => ∃ t, bok t b = true ∧ tyV X.K (btName t) x H1 ∧ wM X (bmId t b) x [] H1 Q) : wE X (.Call (.Attribute o (bmName b) apos) [] [] cpos) σ H Q := by
  intro pins s I
  refine wpAny_Call_method0_late (base_plain hb) hline (thn (p pins s I) fun v s1 ⟨x, H1, I1, r1, t, k, ty, q1⟩ => ?_)
  obtain ⟨h1, h2⟩ := tyV_is I1 r1 ty
  have F := bmF t b k
  exact ⟨btName t, bmId t b, F.pa, F.slot, F.ty, h1, h2, Calls.callWith_builtin rfl (PySem.evalArgs_none (q1 pins s1 σ v [] I1 r1 .nil))⟩
theorem pe_late (hb : noSuper o = true) (hes : (e :: es).all plainE = true) (hfew : (e :: es).length < 30) (hline : (apos.endLine == cpos.line) = true)
    (p : wE X o σ H fun x H1 => ∃ t, bok t b = true ∧ tyV X.K (btName t) x H1 ∧ wA X (e :: es) σ H1 fun xs H2 => wM X (bmId t b) x xs H2 Q) : wE X (.Call (.Attribute o (bmName b) apos) (e :: es) [] cpos) σ H Q := by
  intro pins s I
  have hce := hes
  rw [List.all_cons, Bool.and_eq_true] at hce
  refine wpAny_Call_method_late (base_plain hb) (few_plain hes hfew) hline rfl (thn (p pins s I) fun v s1 ⟨x, H1, I1, r1, t, k, ty, q1⟩ => ?_)
  obtain ⟨h1, h2⟩ := tyV_is I1 r1 ty
  have F := bmF t b k
  refine ⟨btName t, bmId t b, F.pa, F.slot, F.ty, h1, h2, ?_⟩
  have hA := q1 cpos pins s1 I1
  rw [star_plain hce.1] at hA ⊢
  refine Calls.callWith_builtin (by show (false || (backTo cpos (starEach es X.env)).any (·.1)) = false; rw [any_plain hce.2] <;> rfl) (Calls.evalArgs_plain ?_)
  exact thn hA fun us s2 ⟨vs, H2, I2, r2, q2⟩ => q2 pins s2 σ v us I2 r1 r2
end
end Ev

/-! part EvSnd -/
set_option maxRecDepth 100000
set_option maxHeartbeats 4000000
/-! Expressions: the small machine's run of an expression is the layer's reading of it. -/
namespace Ev
open PySem PySem.Spec PyProof.Rows L2

/-! ### names and facts -/
/-- what global names mean, by number -/
structure Nam where
  gfn : Str → Option Nat
  gcl : Str → Option Nat
  gcon : Str → Option Nat
  gkd : Str → Option Nat
  gexc : Str → Option Nat
  att : Str → Option Nat
  met : Str → Option Nat
def Nam.nil : Nam := ⟨fun _ => none, fun _ => none, fun _ => none, fun _ => none, fun _ => none, fun _ => none, fun _ => none⟩
structure G where
  N : Nms
  A : Nam
  T : Tbl
  fa : Nat → Addr
  ffd : Nat → FuncData
  fps : Nat → List Str
def bltNames : List Str := ["len", "min", "max", "sum", "all", "abs", "sorted", "int", "list", "tuple", "dict", "range", "enumerate", "zip", "isinstance", "bool", "str"]
/-- a value that stays wherever one looks -/
def Steady (K : PySem.W.Frag) (d : D) (v : V) : Prop := ∀ w : Vw, w.K = K → Rep w d v
structure KdOk (K : PySem.W.Frag) (w : World) (kvs : List (List Nat × D)) (a : Addr) : Prop where
  ex : ∃ es n, K.lookup a = some ⟨.type "dict", none, .dict es n, #[]⟩ ∧ PySem.W.KeysLit w.params es.toList
  low : (a == sysModules) = false
  some_ : ∀ k d, kvs.lookup k = some d → ∃ u v, PySem.W.nsIn K a (toS k) = some (some u) ∧ RelV v u ∧ Steady K d v
  none_ : ∀ k, kvs.lookup k = none → PySem.W.nsIn K a (toS k) = some none
/-- an own exception class, made with a text -/
structure ExcOk (K : PySem.W.Frag) (mg : Str → Option Value) (x : Str) (C : Addr) : Prop where
  ex : ∃ (bmB : List Value) (B newId initId : String), ExcBaseFacts B newId initId bmB ∧ PySem.W.excIn K C bmB newId = true
  mg : mg x = some (.ref C)
  keep : PySem.W.keepIn K (.ref C) = true
  sub : PySem.W.subIn K (.ref C) (.type "BaseException") = some true
  ty : PySem.W.typeIn K (.ref C) = some (.type "type")
structure Facts (P : Program) (w : World) (K : PySem.W.Frag) (mg : Str → Option Value) (base : Heap) (g : G) : Prop where
  fn : ∀ x f, g.A.gfn x = some f → mg x = some (.ref (g.fa f)) ∧ PySem.W.keepIn K (.ref (g.fa f)) = true
  fb : ∀ f fi, g.T.fn f = some fi → Binds K (g.ffd f) (g.fps f) []
  con : ∀ x c, g.A.gcon x = some c → ∃ v u, mg x = some u ∧ RelV v u ∧ Steady K (g.T.con c) v
  kd : ∀ x c, g.A.gkd x = some c → ∃ a, mg x = some (.ref a) ∧ KdOk K w (g.T.kd c) a
  blt : ∀ x, x ∈ bltNames → mg x = none
  exc : ∀ x c, g.A.gexc x = some c → ExcOk K mg x (g.N.cls c)
/-- what a def promises -/
def spF (K : PySem.W.Frag) (g : G) (cl : Calls) (f : Nat) : Sp := fun vs H Q E => vs.length = (g.fps f).length ∧ ∃ B ρ h xs, Sim K g.N B ρ h H ∧ Reps (vw K B ρ h H) xs vs ∧
  Post K g.N B (fun c d _ H' => E c d H') ρ h H (cl f xs h) (kV' K B Q)
structure Cok (g : G) (X : Cx) (W : WX) (n : Nat) (cl : Calls) : Prop where
  facts : Facts X.prog X.w X.K X.mg X.base g
  calm : X.calm = true
  nd : X.N.Nodup
  tk : Takes X W
  room : Room n X.A
  fns : ∀ f fi, g.T.fn f = some fi → FnOk X.prog X.w X.K X.mg X.base (L2.CX X.prog X.w) n (g.fa f) (g.ffd f) (g.fps f) (spF X.K g cl f)
theorem Cok.hu {g : G} {X : Cx} {W : WX} {n : Nat} {cl : Calls} (c : Cok g X W n cl) : X.A.units + 64 < cLine := c.room.units
theorem Cok.hu1 {g : G} {X : Cx} {W : WX} {n : Nat} {cl : Calls} (c : Cok g X W n cl) : X.A.units + 1 < cLine := by have := c.room.units; omega

/-! ### the slots -/
def RepV (w : Vw) (v : Env) (σ : L2.St) : Prop := v.length = σ.length ∧ ∀ (j : Nat) d, v[j]? = some (some d) → ∃ u, σ[j]? = some (some u) ∧ Rep w d u
theorem RepV.ext {K : PySem.W.Frag} {B : Addr → Prop} {ρ ρ' : Nat → Addr} {h h' : Hs} {H H' : Hp} {v : Env} {σ : L2.St} (e : Ext ρ h H ρ' h' H') (r : RepV (vw K B ρ h H) v σ) : RepV (vw K B ρ' h' H') v σ :=
  ⟨r.1, fun j d q => let ⟨u, e1, r1⟩ := r.2 j d q; ⟨u, e1, r1.ext e⟩⟩
theorem RepV.set {w : Vw} {v : Env} {σ : L2.St} {d : D} {u : V} (i : Nat) (r : RepV w v σ) (rd : Rep w d u) : RepV w (v.set i (some d)) (σ.set i (some u)) := by
  refine ⟨by rw [List.length_set, List.length_set]; exact r.1, fun j e q => ?_⟩
  by_cases hj : i = j
  · subst hj
    by_cases hl : i < v.length
    · rw [List.getElem?_set_self hl] at q
      cases q
      exact ⟨u, by rw [List.getElem?_set_self (by rw [← r.1]; exact hl)], rd⟩
    · rw [List.getElem?_eq_none (by rw [List.length_set]; omega)] at q
      cases q
  · rw [List.getElem?_set_ne hj] at q ⊢
    exact r.2 j e q

section
variable {g : G} {X : Cx} {T : Tbl} {cl : Calls} {W : WX}
theorem wE.mono {X : Cx} {a : Expr} {σ : L2.St} {H : Hp} {Q Q' : VK} (h : wE X a σ H Q) (f : ∀ v H', Q v H' → Q' v H') : wE X a σ H Q' := fun pins s I => thn (h pins s I) fun u s1 ⟨v, H1, I1, r, q⟩ => ⟨v, H1, I1, r, f _ _ q⟩
theorem wT.mono {X : Cx} {a : Expr} {σ : L2.St} {H : Hp} {Q Q' : Bool → Hp → Prop} (h : wT X a σ H Q) (f : ∀ v H', Q v H' → Q' v H') : wT X a σ H Q' := fun pins s I => thn (h pins s I) fun b s1 ⟨H1, I1, q⟩ => ⟨H1, I1, f _ _ q⟩
theorem wA.mono {X : Cx} {a : List Expr} {σ : L2.St} {H : Hp} {Q Q' : List V → Hp → Prop} (h : wA X a σ H Q) (f : ∀ v H', Q v H' → Q' v H') : wA X a σ H Q' := fun pos pins s I => thn (h pos pins s I) fun u s1 ⟨v, H1, I1, r, q⟩ => ⟨v, H1, I1, r, f _ _ q⟩
/-- a value wanted, its place in the memories with it -/
def KD (K : PySem.W.Frag) (N : Nms) (B : Addr → Prop) (W : WX) (ρ : Nat → Addr) (h : Hs) (H : Hp) {β : Type} (f : D → Hs → R β) (k : β → Hs → (Nat → Addr) → Hp → Prop) : VK := fun u H1 =>
  ∃ d h1 ρ1, Sim K N B ρ1 h1 H1 ∧ Ext ρ h H ρ1 h1 H1 ∧ Rep (vw K B ρ1 h1 H1) d u ∧ Post K N B W ρ1 h1 H1 (f d h1) k
def KDs (K : PySem.W.Frag) (N : Nms) (B : Addr → Prop) (W : WX) (ρ : Nat → Addr) (h : Hs) (H : Hp) (n : Nat) {β : Type} (f : List D → Hs → R β) (k : β → Hs → (Nat → Addr) → Hp → Prop) : List V → Hp → Prop := fun us H1 =>
  us.length = n ∧ ∃ ds h1 ρ1, Sim K N B ρ1 h1 H1 ∧ Ext ρ h H ρ1 h1 H1 ∧ Reps (vw K B ρ1 h1 H1) ds us ∧ Post K N B W ρ1 h1 H1 (f ds h1) k
/-- the judgements: an expression's, a test's, a list's -/
def SE (g : G) (X : Cx) (cl : Calls) (W : WX) (e : E) (a : Expr) : Prop := ∀ B σ v ρ h H Q, RepV (vw X.K B ρ h H) v σ → Sim X.K g.N B ρ h H → Post X.K g.N B W ρ h H (ev g.T cl e v h) (kV' X.K B Q) → wE X a σ H Q
def ST (g : G) (X : Cx) (cl : Calls) (W : WX) (e : E) (a : Expr) : Prop := ∀ B σ v ρ h H (Q : Bool → Hp → Prop), RepV (vw X.K B ρ h H) v σ → Sim X.K g.N B ρ h H →
  Post X.K g.N B W ρ h H ((ev g.T cl e v h).bind fun x h => truth x h) (fun b h' ρ' H' => Q b H') → wT X a σ H Q
def SA (g : G) (X : Cx) (cl : Calls) (W : WX) (es : Es) (as : List Expr) : Prop := ∀ B σ v ρ h H (Q : List V → Hp → Prop), RepV (vw X.K B ρ h H) v σ → Sim X.K g.N B ρ h H →
  Post X.K g.N B W ρ h H (evs g.T cl es v h) (fun xs h' ρ' H' => ∀ us, us.length = as.length → Reps (vw X.K B ρ' h' H') xs us → Q us H') → wA X as σ H Q
variable {B : Addr → Prop} {σ : L2.St} {v : Env} {ρ : Nat → Addr} {h : Hs} {H : Hp} {Q : VK} {e e1 e2 e3 : E} {a b c : Expr} {es : Es} {as : List Expr} {β : Type} {pos : Pos}
theorem SE.go (s : SE g X cl W e a) (r : RepV (vw X.K B ρ h H) v σ) (S : Sim X.K g.N B ρ h H) {f : D → Hs → R β} {k : β → Hs → (Nat → Addr) → Hp → Prop} (p : Post X.K g.N B W ρ h H ((ev g.T cl e v h).bind f) k) : wE X a σ H (KD X.K g.N B W ρ h H f k) :=
  s B σ v ρ h H _ r S ((Post.bind p).mono fun d h1 ρ1 H1 S1 E1 q u ru => ⟨d, h1, ρ1, S1, E1, ru, q⟩)
theorem SA.go (s : SA g X cl W es as) (r : RepV (vw X.K B ρ h H) v σ) (S : Sim X.K g.N B ρ h H) {f : List D → Hs → R β} {k : β → Hs → (Nat → Addr) → Hp → Prop} (p : Post X.K g.N B W ρ h H ((evs g.T cl es v h).bind f) k) : wA X as σ H (KDs X.K g.N B W ρ h H as.length f k) :=
  s B σ v ρ h H _ r S ((Post.bind p).mono fun d h1 ρ1 H1 S1 E1 q u hu ru => ⟨hu, d, h1, ρ1, S1, E1, ru, q⟩)
/-- two in a row -/
theorem SE.go2 (s1 : SE g X cl W e1 a) (s2 : SE g X cl W e2 b) (r : RepV (vw X.K B ρ h H) v σ) (S : Sim X.K g.N B ρ h H) {f : D → D → Hs → R β} {k : β → Hs → (Nat → Addr) → Hp → Prop}
    (p : Post X.K g.N B W ρ h H ((ev g.T cl e1 v h).bind fun x h => (ev g.T cl e2 v h).bind fun y h => f x y h) k) {R : V → V → Hp → Prop}
    (q : ∀ x y h2 ρ2 H2 u w, Sim X.K g.N B ρ2 h2 H2 → Ext ρ h H ρ2 h2 H2 → Rep (vw X.K B ρ2 h2 H2) x u → Rep (vw X.K B ρ2 h2 H2) y w → Post X.K g.N B W ρ2 h2 H2 (f x y h2) k → R u w H2) : wE X a σ H fun u H1 => wE X b σ H1 fun w H2 => R u w H2 :=
  (s1.go r S p).mono fun u H1 ⟨x, h1, ρ1, S1, E1, ru, p1⟩ => (s2.go (r.ext E1) S1 p1).mono fun w H2 ⟨y, h2, ρ2, S2, E2, rw', p2⟩ => q x y h2 ρ2 H2 u w S2 (E1.trans E2) (ru.ext E2) rw' p2

/-! ### leaves -/
theorem se_var {i : Nat} {x : Str} (hN : X.N[i]? = some x) (hv : Vis X.env.scope x) (hd : (x == ("__debug__" : Str)) = false) (hcd : (x == ("__classdict__" : Str)) = false) : SE g X cl W (.var i) (.Name x pos) := by
  intro B σ v ρ h H Q r S p
  have p' : Post X.K g.N B W ρ h H (getV v i h) (kV' X.K B Q) := p
  unfold getV at p'
  split at p'
  · rename_i d e
    obtain ⟨u, e1, ru⟩ := r.2 i d e
    exact wE.of (pe_var hN hv hd hcd) ⟨u, e1, p'.now S u ru⟩
  · exact False.elim p'
theorem se_con (C : Facts X.prog X.w X.K X.mg X.base g) {x : Str} {c : Nat} (hg : Gl X x) (hx : g.A.gcon x = some c) (hd : (x == ("__debug__" : Str)) = false) : SE g X cl W (.con c) (.Name x pos) := by
  intro B σ v ρ h H Q r S p
  obtain ⟨w, u, hm, rw', st⟩ := C.con x c hx
  have p' : Post X.K g.N B W ρ h H (.ok (g.T.con c) h) (kV' X.K B Q) := p
  exact wE.of (pe_glob hg hm rw' hd) (p'.now S w (st _ rfl))
theorem se_int {i : Int} {j : Nat} : SE g X cl W (.lit (.int i)) (.Constant (.int i) j pos) := fun B σ v ρ h H Q r S p => wE.of pe_int (Post.now (a := D.int i) p S _ rfl)
theorem se_bl {i : Bool} {j : Nat} : SE g X cl W (.lit (.bl i)) (.Constant (.bool i) j pos) := fun B σ v ρ h H Q r S p => wE.of pe_bl (Post.now (a := D.bl i) p S _ rfl)
theorem se_non {j : Nat} : SE g X cl W (.lit .non) (.Constant .none j pos) := fun B σ v ρ h H Q r S p => wE.of pe_non (Post.now (a := D.non) p S _ rfl)
theorem se_str {x : Str} {j : Nat} : SE g X cl W (.lit (.str x.cps.toList)) (.Constant (.str x) j pos) := fun B σ v ρ h H Q r S p => wE.of pe_str (Post.now (a := D.str x.cps.toList) p S _ (by rw [Rep, of_toS]))

/-! ### operators -/
theorem se_bin {op : BOp} (s1 : SE g X cl W e1 a) (s2 : SE g X cl W e2 b) : SE g X cl W (.bin op e1 e2) (.BinOp a (opOf op) b pos) := fun B σ v ρ h H Q r S p =>
  wE.of (pe_op or_w pe_w pe_w) (s1.go2 s2 r S (f := fun x y h => bin op x y h) p fun x y h2 ρ2 H2 u w S2 E ru rw' p2 => bin_ok op S2 ru rw' p2)
theorem se_neg (s1 : SE g X cl W e1 a) : SE g X cl W (.neg e1) (.UnaryOp .USub a pos) := fun B σ v ρ h H Q r S p =>
  wE.of (pe_un un_neg pe_w) ((s1.go r S p).mono fun u H1 ⟨x, h1, ρ1, S1, E1, ru, p1⟩ => by
    cases x <;> first | exact False.elim p1 | skip
    cases ru
    exact ⟨_, rfl, Post.now p1 S1 _ rfl⟩)
theorem truth_ok {W : WX} {x : D} {u : V} {f : Bool → Hs → R β} {k : β → Hs → (Nat → Addr) → Hp → Prop} (ru : Rep (vw X.K B ρ h H) x u) (p : Post X.K g.N B W ρ h H ((truth x h).bind f) k) : ∃ c, x = .bl c ∧ u = .bl c ∧ Post X.K g.N B W ρ h H (f c h) k := by
  cases x <;> first | exact False.elim p | skip
  cases ru
  exact ⟨_, rfl, rfl, p⟩
theorem se_not (s1 : SE g X cl W e1 a) : SE g X cl W (.not e1) (.UnaryOp .Not a pos) := fun B σ v ρ h H Q r S p =>
  wE.of (pe_not pe_w) ((s1.go r S p).mono fun u H1 ⟨x, h1, ρ1, S1, E1, ru, p1⟩ => by
    obtain ⟨c, rfl, rfl, p2⟩ := truth_ok ru p1
    exact ⟨c, rfl, Post.now p2 S1 _ rfl⟩)
theorem se_and {y : Expr} {rest : List Expr} (s1 : SE g X cl W e1 a) (s2 : SE g X cl W e2 (.BoolOp .And (y :: rest) pos)) : SE g X cl W (.and e1 e2) (.BoolOp .And (a :: y :: rest) pos) := fun B σ v ρ h H Q r S p =>
  wE.of (pe_and pe_w pe_w) ((s1.go r S p).mono fun u H1 ⟨x, h1, ρ1, S1, E1, ru, p1⟩ => by
    obtain ⟨c, rfl, rfl, p2⟩ := truth_ok ru p1
    refine ⟨c, rfl, ?_⟩
    cases c with
    | true =>
      rw [if_pos rfl]
      refine (s2.go (r.ext E1) S1 p2).mono fun u H2 ⟨x, h2, ρ2, S2, E2, ru, p3⟩ => ?_
      obtain ⟨c, rfl, rfl, p4⟩ := truth_ok ru p3
      exact Post.now p4 S2 _ rfl
    | false =>
      rw [if_neg Bool.false_ne_true]
      exact Post.now p2 S1 _ rfl)
theorem se_or {y : Expr} {rest : List Expr} (s1 : SE g X cl W e1 a) (s2 : SE g X cl W e2 (.BoolOp .Or (y :: rest) pos)) : SE g X cl W (.or e1 e2) (.BoolOp .Or (a :: y :: rest) pos) := fun B σ v ρ h H Q r S p =>
  wE.of (pe_or pe_w pe_w) ((s1.go r S p).mono fun u H1 ⟨x, h1, ρ1, S1, E1, ru, p1⟩ => by
    obtain ⟨c, rfl, rfl, p2⟩ := truth_ok ru p1
    refine ⟨c, rfl, ?_⟩
    cases c with
    | true =>
      rw [if_pos rfl]
      exact Post.now p2 S1 _ rfl
    | false =>
      rw [if_neg Bool.false_ne_true]
      refine (s2.go (r.ext E1) S1 p2).mono fun u H2 ⟨x, h2, ρ2, S2, E2, ru, p3⟩ => ?_
      obtain ⟨c, rfl, rfl, p4⟩ := truth_ok ru p3
      exact Post.now p4 S2 _ rfl)
/-- the last of a chain of and, or -/
theorem se_last {op : BoolOp} (s1 : SE g X cl W e1 a) : SE g X cl W e1 (.BoolOp op [a] pos) := fun B σ v ρ h H Q r S p => wE.of (pe_one pe_w) (s1 B σ v ρ h H Q r S p)
theorem se_cmp {op : COp} (hu : X.A.units + 64 < cLine) (s1 : SE g X cl W e1 a) (s2 : SE g X cl W e2 b) (hm : behindInMarks (cmpOf op) b = false) : SE g X cl W (.cmp op e1 e2) (.Compare a [cmpOf op] [b] pos) := fun B σ v ρ h H Q r S p =>
  wE.of (pe_cmpR or_w pe_w pe_w hm) (s1.go2 s2 r S (f := fun x y h => (cmp op x y h).bind fun c h => R.ok (D.bl c) h) p fun x y h2 ρ2 H2 u w S2 E ru rw' p2 =>
    cmp_ok (W := W) hu op S2 ru rw' (k := fun c h' ρ' H' => Post X.K g.N B W ρ' h' H' (R.ok (D.bl c) h') (kV' X.K B Q)) (Post.bind p2) fun c q => Post.now q S2 _ rfl)
theorem se_chn {p1 p2 : COp} (hu : X.A.units + 64 < cLine) (s1 : SE g X cl W e1 a) (s2 : SE g X cl W e2 b) (s3 : SE g X cl W e3 c) (hm : lastMarks [cmpOf p1, cmpOf p2] [b, c] = false) : SE g X cl W (.chn p1 p2 e1 e2 e3) (.Compare a [cmpOf p1, cmpOf p2] [b, c] pos) := fun B σ v ρ h H Q r S p =>
  wE.of (pe_chain or_w or_w pe_w pe_w pe_w hm) (s1.go2 s2 r S (f := fun x y h => (cmp p1 x y h).bind fun k h => match k with
    | true => (ev g.T cl e3 v h).bind fun z h => (cmp p2 y z h).bind fun k h => R.ok (D.bl k) h
    | false => R.ok (D.bl false) h) p fun x y h2 ρ2 H2 u w S2 E ru rw' q2 =>
    cmp_ok (W := W) hu p1 S2 ru rw' (k := fun k h' ρ' H' => Post X.K g.N B W ρ' h' H' (match k with
      | true => (ev g.T cl e3 v h').bind fun z h => (cmp p2 y z h).bind fun k h => R.ok (D.bl k) h
      | false => R.ok (D.bl false) h') (kV' X.K B Q)) (Post.bind q2) fun k q => ⟨k, rfl, by
      cases k with
      | true =>
        rw [if_pos rfl]
        refine (s3.go (r.ext E) S2 q).mono fun z H3 ⟨d, h3, ρ3, S3, E3, rz, q3⟩ => ?_
        exact cmp_ok (W := W) hu p2 S3 (rw'.ext E3) rz (k := fun c h' ρ' H' => Post X.K g.N B W ρ' h' H' (R.ok (D.bl c) h') (kV' X.K B Q)) (Post.bind q3) fun c q => Post.now q S3 _ rfl
      | false =>
        rw [if_neg Bool.false_ne_true]
        exact Post.now q S2 _ rfl⟩)
theorem nomarkIs {op : CmpOp} (b : Expr) (h : op = .Is ∨ op = .IsNot) : behindInMarks op b = false := by
  rcases h with rfl | rfl <;> exact nomark b
theorem rep_non {w : Vw} {x : D} {u : V} (r : Rep w x u) : decide (u = .non) = decide (x = .non) := by
  cases x <;> first | (cases r; rfl) | (obtain ⟨a, _, rfl, _⟩ := r; simp) | (obtain ⟨_, rfl⟩ := r; simp) | (obtain ⟨_, rfl, _⟩ := r; simp) | (cases r; simp)
theorem se_isn {j : Nat} {p2 : Pos} (s1 : SE g X cl W e1 a) : SE g X cl W (.isn e1) (.Compare a [.Is] [.Constant .none j p2] pos) := fun B σ v ρ h H Q r S p =>
  wE.of (pe_cmp (pc_isN pe_w) (nomarkIs _ (.inl rfl))) ((s1.go r S p).mono fun u H1 ⟨x, h1, ρ1, S1, E1, ru, p1⟩ => by
    rw [rep_non ru]
    exact Post.now p1 S1 _ rfl)
theorem se_ntn {j : Nat} {p2 : Pos} (s1 : SE g X cl W e1 a) : SE g X cl W (.ntn e1) (.Compare a [.IsNot] [.Constant .none j p2] pos) := fun B σ v ρ h H Q r S p =>
  wE.of (pe_cmp (pc_notN pe_w) (nomarkIs _ (.inr rfl))) ((s1.go r S p).mono fun u H1 ⟨x, h1, ρ1, S1, E1, ru, p1⟩ => by
    rw [rep_non ru]
    exact Post.now p1 S1 _ rfl)
theorem ST.go (s : ST g X cl W e a) (r : RepV (vw X.K B ρ h H) v σ) (S : Sim X.K g.N B ρ h H) {f : Bool → Hs → R β} {k : β → Hs → (Nat → Addr) → Hp → Prop} (p : Post X.K g.N B W ρ h H ((ev g.T cl e v h).bind fun x h => (truth x h).bind f) k) :
    wT X a σ H (fun c H1 => ∃ h1 ρ1, Sim X.K g.N B ρ1 h1 H1 ∧ Ext ρ h H ρ1 h1 H1 ∧ Post X.K g.N B W ρ1 h1 H1 (f c h1) k) := by
  refine s B σ v ρ h H _ r S ?_
  have e : ((ev g.T cl e v h).bind fun x h => (truth x h).bind f) = ((ev g.T cl e v h).bind fun x h => truth x h).bind f := by
    cases ev g.T cl e v h <;> rfl
  rw [e] at p
  exact (Post.bind p).mono fun c h1 ρ1 H1 S1 E1 q => ⟨h1, ρ1, S1, E1, q⟩
theorem se_ife (t1 : ST g X cl W e1 a) (s2 : SE g X cl W e2 b) (s3 : SE g X cl W e3 c) : SE g X cl W (.ife e1 e2 e3) (.IfExp a b c pos) := fun B σ v ρ h H Q r S p =>
  wE.of (pe_ifExp pt_w pe_w pe_w) ((t1.go r S p).mono fun k H1 ⟨h1, ρ1, S1, E1, p1⟩ => by
    cases k with
    | true =>
      rw [if_pos rfl]
      exact s2 B σ v ρ1 h1 H1 Q (r.ext E1) S1 p1
    | false =>
      rw [if_neg Bool.false_ne_true]
      exact s3 B σ v ρ1 h1 H1 Q (r.ext E1) S1 p1)

/-! ### tests -/
def plainT : Expr → Bool
  | .UnaryOp .Not _ _ => false
  | .BoolOp _ _ _ => false
  | .IfExp _ _ _ _ => false
  | .Compare _ _ _ _ => false
  | _ => true
theorem plainT_is {a : Expr} {env : PySem.Env} (c : plainT a = true) (whole : Sem Value) : isTrue a env whole = (do let v ← whole; standAt a.pos; holding [v] (truthy v)) := by
  cases a <;> first | (cases c; done) | rfl | skip
  rename_i op x p
  cases op <;> first | (cases c; done) | rfl
theorem st_val (c : plainT a = true) (s1 : SE g X cl W e a) : ST g X cl W e a := fun B σ v ρ h H Q r S p =>
  wT.of (pt_val pe_w fun whole => plainT_is c whole) ((s1.go r S p).mono fun u H1 ⟨x, h1, ρ1, S1, E1, ru, p1⟩ => by
    cases x <;> first | exact False.elim p1 | skip
    cases ru
    exact ⟨_, rfl, Post.now p1 S1⟩)
theorem st_not (t1 : ST g X cl W e1 a) : ST g X cl W (.not e1) (.UnaryOp .Not a pos) := fun B σ v ρ h H Q r S p => by
  have e : ((ev g.T cl (.not e1) v h).bind fun x h => truth x h) = (ev g.T cl e1 v h).bind fun x h => (truth x h).bind fun b h => .ok (!b) h := by
    show ((ev g.T cl e1 v h).bind fun x h => (truth x h).bind fun b h => R.ok (D.bl (!b)) h).bind _ = _
    cases ev g.T cl e1 v h with
    | ok x h1 => cases x <;> rfl
    | exc _ _ => rfl
    | stk => rfl
  rw [e] at p
  exact wT.of (pt_not pt_w) ((t1.go r S p).mono fun k H1 ⟨h1, ρ1, S1, E1, p1⟩ => Post.now p1 S1)
def wW (X : Cx) (e : Expr) : TT := fun σ H Q => ∀ whole pins s, Inv X pins σ H s → wpAny (model X.prog X.w) X.A (isTrue e X.env whole) (TP X pins σ Q) X.xe s
theorem pw_w {X : Cx} {e : Expr} : PW X e (wW X e) := ⟨fun whole pins s _ _ _ I h => h whole pins s I⟩
theorem wW_of {X : Cx} {op : BoolOp} {as : List Expr} {Q : Bool → Hp → Prop} (h : wT X (.BoolOp op as pos) σ H Q) : wW X (.BoolOp op as pos) σ H Q := fun whole pins s I => h pins s I
theorem pt_ofW {X : Cx} {op : BoolOp} {as : List Expr} {t : TT} (h : PW X (.BoolOp op as pos) t) : PT X (.BoolOp op as pos) t := h.pt
theorem st_and {y : Expr} {rest : List Expr} (t1 : ST g X cl W e1 a) (t2 : ST g X cl W e2 (.BoolOp .And (y :: rest) pos)) : ST g X cl W (.and e1 e2) (.BoolOp .And (a :: y :: rest) pos) := fun B σ v ρ h H Q r S p => by
  have e : ((ev g.T cl (.and e1 e2) v h).bind fun x h => truth x h) = (ev g.T cl e1 v h).bind fun x h => (truth x h).bind fun c h => match c with
    | true => (ev g.T cl e2 v h).bind fun x h => truth x h
    | false => .ok false h := by
    show ((ev g.T cl e1 v h).bind fun x h => (truth x h).bind fun c h => match c with
      | true => (ev g.T cl e2 v h).bind fun x h => (truth x h).bind fun c h => R.ok (D.bl c) h
      | false => R.ok (D.bl false) h).bind _ = _
    cases ev g.T cl e1 v h with
    | ok x h1 =>
      cases x <;> first | rfl | skip
      rename_i c
      cases c with
      | false => rfl
      | true =>
        show ((ev g.T cl e2 v h1).bind fun x h => (truth x h).bind fun c h => R.ok (D.bl c) h).bind _ = (ev g.T cl e2 v h1).bind fun x h => truth x h
        cases ev g.T cl e2 v h1 with
        | ok x h2 => cases x <;> rfl
        | exc _ _ => rfl
        | stk => rfl
    | exc _ _ => rfl
    | stk => rfl
  rw [e] at p
  refine wT.of (pw_and pt_w pw_w).pt ((t1.go r S p).mono fun k H1 ⟨h1, ρ1, S1, E1, p1⟩ => ?_)
  cases k with
  | true =>
    rw [if_pos rfl]
    exact wW_of (t2 B σ v ρ1 h1 H1 Q (r.ext E1) S1 p1)
  | false =>
    rw [if_neg Bool.false_ne_true]
    exact Post.now p1 S1
theorem st_or {y : Expr} {rest : List Expr} (t1 : ST g X cl W e1 a) (t2 : ST g X cl W e2 (.BoolOp .Or (y :: rest) pos)) : ST g X cl W (.or e1 e2) (.BoolOp .Or (a :: y :: rest) pos) := fun B σ v ρ h H Q r S p => by
  have e : ((ev g.T cl (.or e1 e2) v h).bind fun x h => truth x h) = (ev g.T cl e1 v h).bind fun x h => (truth x h).bind fun c h => match c with
    | true => .ok true h
    | false => (ev g.T cl e2 v h).bind fun x h => truth x h := by
    show ((ev g.T cl e1 v h).bind fun x h => (truth x h).bind fun c h => match c with
      | true => R.ok (D.bl true) h
      | false => (ev g.T cl e2 v h).bind fun x h => (truth x h).bind fun c h => R.ok (D.bl c) h).bind _ = _
    cases ev g.T cl e1 v h with
    | ok x h1 =>
      cases x <;> first | rfl | skip
      rename_i c
      cases c with
      | true => rfl
      | false =>
        show ((ev g.T cl e2 v h1).bind fun x h => (truth x h).bind fun c h => R.ok (D.bl c) h).bind _ = (ev g.T cl e2 v h1).bind fun x h => truth x h
        cases ev g.T cl e2 v h1 with
        | ok x h2 => cases x <;> rfl
        | exc _ _ => rfl
        | stk => rfl
    | exc _ _ => rfl
    | stk => rfl
  rw [e] at p
  refine wT.of (pw_or pt_w pw_w).pt ((t1.go r S p).mono fun k H1 ⟨h1, ρ1, S1, E1, p1⟩ => ?_)
  cases k with
  | false =>
    rw [if_neg Bool.false_ne_true]
    exact wW_of (t2 B σ v ρ1 h1 H1 Q (r.ext E1) S1 p1)
  | true =>
    rw [if_pos rfl]
    exact Post.now p1 S1
theorem st_lastA (t1 : ST g X cl W e1 a) : ST g X cl W e1 (.BoolOp .And [a] pos) := fun B σ v ρ h H Q r S p => wT.of (pw_and1 pt_w).pt (t1 B σ v ρ h H Q r S p)
theorem st_lastO (t1 : ST g X cl W e1 a) : ST g X cl W e1 (.BoolOp .Or [a] pos) := fun B σ v ρ h H Q r S p => wT.of (pw_or1 pt_w).pt (t1 B σ v ρ h H Q r S p)
/-- a comparison's value as a test -/
theorem tst_bl {Q : Bool → Hp → Prop} (p : Post X.K g.N B W ρ h H ((ev g.T cl e v h).bind fun x h => truth x h) (fun b h' ρ' H' => Q b H')) :
    Post X.K g.N B W ρ h H (ev g.T cl e v h) (kV' X.K B fun u H1 => ∃ c, u = .bl c ∧ Q c H1) :=
  (Post.bind p).mono fun d h1 ρ1 H1 S1 E1 q u ru => by
    cases d <;> first | exact False.elim q | skip
    cases ru
    exact ⟨_, rfl, Post.now q S1⟩
theorem st_cmp {op : COp} (hu : X.A.units + 64 < cLine) (s1 : SE g X cl W e1 a) (s2 : SE g X cl W e2 b) (hm : behindInMarks (cmpOf op) b = false) : ST g X cl W (.cmp op e1 e2) (.Compare a [cmpOf op] [b] pos) := fun B σ v ρ h H Q r S p0 => by
  have p := tst_bl p0
  refine wT.of (pt_cmpR or_w pe_w pe_w hm) (s1.go2 s2 r S (f := fun x y h => (cmp op x y h).bind fun c h => R.ok (D.bl c) h) p fun x y h2 ρ2 H2 u w S2 E ru rw' p2 =>
    cmp_ok (W := W) hu op S2 ru rw' (k := fun c h' ρ' H' => Post X.K g.N B W ρ' h' H' (R.ok (D.bl c) h') (kV' X.K B fun u H1 => ∃ c, u = .bl c ∧ Q c H1)) (Post.bind p2) fun c q => Post.now q S2 _ rfl)
theorem st_chn {p1 p2 : COp} (hu : X.A.units + 64 < cLine) (s1 : SE g X cl W e1 a) (s2 : SE g X cl W e2 b) (s3 : SE g X cl W e3 c) (hm : lastMarks [cmpOf p1, cmpOf p2] [b, c] = false) : ST g X cl W (.chn p1 p2 e1 e2 e3) (.Compare a [cmpOf p1, cmpOf p2] [b, c] pos) := fun B σ v ρ h H Q r S p0 => by
  have p := tst_bl p0
  refine wT.of (pt_chain or_w or_w pe_w pe_w pe_w hm) (s1.go2 s2 r S (f := fun x y h => (cmp p1 x y h).bind fun k h => match k with
    | true => (ev g.T cl e3 v h).bind fun z h => (cmp p2 y z h).bind fun k h => R.ok (D.bl k) h
    | false => R.ok (D.bl false) h) p fun x y h2 ρ2 H2 u w S2 E ru rw' q2 =>
    cmp_ok (W := W) hu p1 S2 ru rw' (k := fun k h' ρ' H' => Post X.K g.N B W ρ' h' H' (match k with
      | true => (ev g.T cl e3 v h').bind fun z h => (cmp p2 y z h).bind fun k h => R.ok (D.bl k) h
      | false => R.ok (D.bl false) h') (kV' X.K B fun u H1 => ∃ c, u = .bl c ∧ Q c H1)) (Post.bind q2) fun k q => ⟨k, rfl, ?_⟩)
  cases k with
  | true =>
    rw [if_pos rfl]
    refine (s3.go (r.ext E) S2 q).mono fun z H3 ⟨d, h3, ρ3, S3, E3, rz, q3⟩ => ?_
    exact cmp_ok (W := W) hu p2 S3 (rw'.ext E3) rz (k := fun c h' ρ' H' => Post X.K g.N B W ρ' h' H' (R.ok (D.bl c) h') (kV' X.K B fun u H1 => ∃ c, u = .bl c ∧ Q c H1)) (Post.bind q3) fun c q => Post.now q S3 _ rfl
  | false =>
    rw [if_neg Bool.false_ne_true]
    exact Post.now q S2 _ rfl
theorem st_isn {j : Nat} {p2 : Pos} (s1 : SE g X cl W e1 a) : ST g X cl W (.isn e1) (.Compare a [.Is] [.Constant .none j p2] pos) := fun B σ v ρ h H Q r S p0 => by
  have p := tst_bl p0
  exact wT.of (pt_cmp (pc_isN pe_w) (nomarkIs _ (.inl rfl))) ((s1.go r S p).mono fun u H1 ⟨x, h1, ρ1, S1, E1, ru, p1⟩ => by
    rw [rep_non ru]
    exact Post.now p1 S1 _ rfl)
theorem st_ntn {j : Nat} {p2 : Pos} (s1 : SE g X cl W e1 a) : ST g X cl W (.ntn e1) (.Compare a [.IsNot] [.Constant .none j p2] pos) := fun B σ v ρ h H Q r S p0 => by
  have p := tst_bl p0
  exact wT.of (pt_cmp (pc_notN pe_w) (nomarkIs _ (.inr rfl))) ((s1.go r S p).mono fun u H1 ⟨x, h1, ρ1, S1, E1, ru, p1⟩ => by
    rw [rep_non ru]
    exact Post.now p1 S1 _ rfl)
end
end Ev

/-! part EvSnd2 -/
set_option maxRecDepth 100000
set_option maxHeartbeats 4000000
/-! Expressions, part 2: subscripts, displays, calls. -/
namespace Ev
open PySem PySem.Spec PyProof.Rows L2
section
variable {g : G} {X : Cx} {T : Tbl} {cl : Calls} {W : WX} {B : Addr → Prop} {σ : L2.St} {v : Env} {ρ : Nat → Addr} {h : Hs} {H : Hp} {Q : VK} {e e1 e2 e3 : E} {a b c : Expr} {es : Es} {as : List Expr} {β : Type} {pos : Pos}

/-! ### subscripts -/
def noSlice : Expr → Bool
  | .Slice _ _ _ _ => false
  | _ => true
theorem plainIx_of {b : Expr} (c : noSlice b = true) : PlainIx b := by
  intro o i
  cases b <;> first | (cases c; done) | rfl
theorem se_sub (hu : X.A.units + 1 < cLine) (s1 : SE g X cl W e1 a) (s2 : SE g X cl W e2 b) (c : noSlice b = true) : SE g X cl W (.sub e1 e2) (.Subscript a b pos) := fun B σ v ρ h H Q r S p =>
  wE.of (pe_ix ix_w pe_w pe_w (plainIx_of c)) (s1.go2 s2 r S (f := fun x y h => subs x y h) p fun x y h2 ρ2 H2 u w S2 E ru rw' p2 => subs_ok hu S2 ru rw' p2)
def wPO (X : Cx) (o : Option Expr) : TO := fun σ H Q => ∀ pins s, Inv X pins σ H s → wpAny (model X.prog X.w) X.A (evalPart o X.env) (fun u s' => ∃ o H', Inv X pins σ H' s' ∧ IsPart u o ∧ Q o H') X.xe s
theorem po_w {X : Cx} {o : Option Expr} : PO X o (wPO X o) := ⟨fun pins s _ _ _ I h => h pins s I⟩
theorem wPO.of {X : Cx} {o : Option Expr} {t : TO} {Q : Option Int → Hp → Prop} (p : PO X o t) (q : t σ H Q) : wPO X o σ H Q := fun pins s I => p.run pins s σ H Q I q
def evB (T : Tbl) (cl : Calls) (e : E) (v : Env) (h : Hs) : R (Option Int) := match isNob e with
  | true => .ok none h
  | false => (ev T cl e v h).bind bnd
def SO (g : G) (X : Cx) (cl : Calls) (W : WX) (e : E) (o : Option Expr) : Prop := ∀ B σ v ρ h H (Q : Option Int → Hp → Prop), RepV (vw X.K B ρ h H) v σ → Sim X.K g.N B ρ h H → Post X.K g.N B W ρ h H (evB g.T cl e v h) (fun l h' ρ' H' => Q l H') → wPO X o σ H Q
theorem so_none (c : isNob e = true) : SO g X cl W e none := fun B σ v ρ h H Q r S p => by
  unfold evB at p
  rw [c] at p
  exact wPO.of po_none (Post.now p S)
theorem so_some (c : isNob e = false) (s : SE g X cl W e a) : SO g X cl W e (some a) := fun B σ v ρ h H Q r S p => by
  unfold evB at p
  rw [c] at p
  refine wPO.of (po_some pe_w) ((s.go r S p).mono fun u H1 ⟨x, h1, ρ1, S1, E1, ru, p1⟩ => ?_)
  cases x <;> first | exact False.elim p1 | skip
  cases ru
  exact ⟨_, rfl, Post.now p1 S1⟩
theorem SO.go {o : Option Expr} (s : SO g X cl W e o) (r : RepV (vw X.K B ρ h H) v σ) (S : Sim X.K g.N B ρ h H) {f : Option Int → Hs → R β} {k : β → Hs → (Nat → Addr) → Hp → Prop} (p : Post X.K g.N B W ρ h H ((evB g.T cl e v h).bind f) k) :
    wPO X o σ H (fun l H1 => ∃ h1 ρ1, Sim X.K g.N B ρ1 h1 H1 ∧ Ext ρ h H ρ1 h1 H1 ∧ Post X.K g.N B W ρ1 h1 H1 (f l h1) k) :=
  s B σ v ρ h H _ r S ((Post.bind p).mono fun l h1 ρ1 H1 S1 E1 q => ⟨h1, ρ1, S1, E1, q⟩)
theorem wPO.mono {o : Option Expr} {Q Q' : Option Int → Hp → Prop} (q : wPO X o σ H Q) (f : ∀ l H', Q l H' → Q' l H') : wPO X o σ H Q' := fun pins s I => thn (q pins s I) fun u s1 ⟨l, H1, I1, r, q⟩ => ⟨l, H1, I1, r, f _ _ q⟩
theorem se_slc {lo hi : E} {ol oh : Option Expr} {p2 : Pos} (s1 : SE g X cl W e1 a) (sl : SO g X cl W lo ol) (sh : SO g X cl W hi oh) : SE g X cl W (.slc e1 lo hi) (.Subscript a (.Slice ol oh none p2) pos) := fun B σ v ρ h H Q r S p =>
  wE.of (pe_slice sl_w pe_w po_w po_w) ((s1.go r S (f := fun x h => (evB g.T cl lo v h).bind fun l h => (evB g.T cl hi v h).bind fun u h => slice x l u h) p).mono fun w H1 ⟨x, h1, ρ1, S1, E1, ru, p1⟩ =>
    (sl.go (r.ext E1) S1 p1).mono fun l H2 ⟨h2, ρ2, S2, E2, p2⟩ => (sh.go ((r.ext E1).ext E2) S2 p2).mono fun u H3 ⟨h3, ρ3, S3, E3, p3⟩ => slice_ok S3 ((ru.ext E2).ext E3) l u p3)
theorem se_rev {k : Nat} {p1 p2 p3 : Pos} (s1 : SE g X cl W e1 a) : SE g X cl W (.rev e1) (.Subscript a (.Slice none none (some (.UnaryOp .USub (.Constant (.int 1) k p1) p2)) p3) pos) := fun B σ v ρ h H Q r S p =>
  wE.of (pe_revL pe_w) ((s1.go r S p).mono fun w H1 ⟨x, h1, ρ1, S1, E1, ru, p1⟩ => by
    dsimp only at p1
    unfold revd at p1
    split at p1
    · rename_i ds e
      obtain ⟨l, vs, rfl, sq, rr⟩ := lsts_rep S1 ru e
      exact ⟨l, vs, rfl, .of sq, fun q hq => P1.lst p1 S1 rr.rev hq⟩
    · exact False.elim p1)

/-! ### lists of expressions, displays -/
theorem sa_nil : SA g X cl W .nil [] := fun B σ v ρ h H Q r S p => wA.of pa_nil (Post.now (a := ([] : List D)) p S [] rfl .nil)
theorem sa_cons (c : plainE a = true) (s1 : SE g X cl W e a) (s2 : SA g X cl W es as) : SA g X cl W (.cons e es) (a :: as) := fun B σ v ρ h H Q r S p =>
  wA.of (pa_cons pe_w pa_w (star_plain c)) ((s1.go r S (f := fun x h => (evs g.T cl es v h).bind fun xs h => .ok (x :: xs) h) p).mono fun u H1 ⟨x, h1, ρ1, S1, E1, ru, p1⟩ =>
    (s2.go (r.ext E1) S1 p1).mono fun us H2 ⟨hl, xs, h2, ρ2, S2, E2, rs, p2⟩ => Post.now p2 S2 _ (by rw [List.length_cons, List.length_cons, hl]) (.cons (ru.ext E2) rs))
theorem line_of {n : Nat} (h : n < 1000) : n ≤ sizeLine := by
  rw [sizeLine_eq]
  omega
theorem se_tup {k : Nat} (hl : as.length < 1000) (s : SA g X cl W es as) : SE g X cl W (.tup es) (.Tuple as k pos) := fun B σ v ρ h H Q r S p =>
  wE.of (pe_tup pa_w) ((s.go r S (f := fun xs h => R.ok (D.tup xs) h) p).mono fun us H1 ⟨hu, xs, h1, ρ1, S1, E1, ru, p1⟩ => ⟨by rw [hu]; exact line_of hl, fun q hq => P1.tup p1 S1 ru hq⟩)
theorem se_lst (hl : as.length < 1000) (s : SA g X cl W es as) : SE g X cl W (.lst es) (.List as pos) := fun B σ v ρ h H Q r S p =>
  wE.of (pe_lst pa_w) ((s.go r S (f := fun xs h => R.ok (D.lst xs) h) p).mono fun us H1 ⟨hu, xs, h1, ρ1, S1, E1, ru, p1⟩ => ⟨by rw [hu]; exact line_of hl, fun q hq => P1.lst p1 S1 ru hq⟩)
/-- a new numbered list -/
theorem P1.mut {N : Nms} {ds : List D} {vs : List V} (p : P1 X N B W ρ h H (.ok (.ref h.n) (h.new (.lst ds))) Q) (S : Sim X.K N B ρ h H) (r : Reps (vw X.K B ρ h H) ds vs) {q : Addr} (hq : H q = none) : Q (.ref q) (upd H q (.lst vs)) := by
  have E := ext_mk (x := .lst ds) (u := .lst vs) S hq
  exact p (rset ρ h.n q) _ (S.mk' hq ⟨vs, upd_same, r.ext E _ _⟩) E (.ref q) ⟨Nat.lt_succ_self _, by rw [show (vw X.K B (rset ρ h.n q) (h.new (.lst ds)) (upd H q (.lst vs))).ρ h.n = q from rset_same]⟩
theorem se_mutl (hl : as.length < 1000) (s : SA g X cl W es as) : SE g X cl W (.mut (.lst es)) (.List as pos) := fun B σ v ρ h H Q r S p => by
  have e : ev g.T cl (.mut (.lst es)) v h = (evs g.T cl es v h).bind fun xs h => .ok (.ref h.n) (h.new (.lst xs)) := by
    show ((evs g.T cl es v h).bind fun xs h => R.ok (D.lst xs) h).bind (fun x h => mutd x h) = _
    cases evs g.T cl es v h <;> rfl
  rw [e] at p
  exact wE.of (pe_lst pa_w) ((s.go r S p).mono fun us H1 ⟨hu, xs, h1, ρ1, S1, E1, ru, p1⟩ => ⟨by rw [hu]; exact line_of hl, fun q hq => P1.mut p1 S1 ru hq⟩)

/-! ### a list that is not changed any more -/
theorem del_o {k j : Nat} : (h.del k).o j = if j = k then none else h.o j := rfl
theorem live_del {k : Nat} {z : Addr} (l : Live ρ (h.del k) z) : Live ρ h z := by
  obtain ⟨j, o, e, rfl⟩ := l
  rw [del_o] at e
  split at e
  · cases e
  · exact ⟨j, o, e, rfl⟩
theorem ext_del {k : Nat} : Ext ρ h H ρ (h.del k) H := ⟨fun _ _ => rfl, Nat.le_refl _, fun a o e n => ⟨e, fun l => n (live_del l)⟩⟩
theorem Sim.del {K : PySem.W.Frag} {N : Nms} {k : Nat} (S : Sim K N B ρ h H) : Sim K N B ρ (h.del k) H := by
  have back : ∀ {j : Nat} {o : O}, (h.del k).o j = some o → h.o j = some o := fun {j o} e => by
    rw [del_o] at e
    split at e
    · cases e
    · exact e
  exact ⟨fun j o e => S.wf j o (back e), fun i j o u e1 e2 => S.inj i j o u (back e1) (back e2), fun j o e => (S.obj j o (back e)).ext (ext_del (k := k)) rfl, S.blk, fun j o e => S.dis j o (back e)⟩
theorem se_frz (s : SE g X cl W e a) : SE g X cl W (.frz e) a := fun B σ v ρ h H Q r S p =>
  (s.go r S (f := fun x h => frzd x h) p).mono fun u H1 ⟨x, h1, ρ1, S1, E1, ru, p1⟩ => by
    cases x <;> first | exact False.elim p1 | skip
    rename_i k
    obtain ⟨hk, rfl⟩ := ru
    have p2 : Post X.K g.N B W ρ1 h1 H1 (match h1.o k with
      | some (.lst xs) => .ok (.lst xs) (h1.del k)
      | _ => (.stk : R D)) (kV' X.K B Q) := p1
    cases eo : h1.o k with
    | none => rw [eo] at p2; exact False.elim p2
    | some o =>
      rw [eo] at p2
      cases o <;> first | exact False.elim p2 | skip
      obtain ⟨vs, he, rv⟩ := S1.obj k _ eo
      refine p2 ρ1 H1 S1.del ext_del _ ⟨ρ1 k, vs, rfl, ⟨he, ?_⟩, rv.ext ext_del _ _⟩
      rintro (⟨j, o, e, ej⟩ | hb)
      · rw [del_o] at e
        split at e
        · cases e
        · rename_i hj
          exact hj (S1.inj j k o _ e eo ej)
      · exact S1.dis k _ eo hb

/-! ### written dicts -/
theorem in_kd {kvs : List (List Nat × D)} {z : Addr} (hcc : KdOk X.K X.w kvs z) (k : List Nat) (neg : Bool) (q : Q (.bl ((kvs.lookup k).isSome != neg)) H) : wO X (compareOp (if neg then .NotIn else .In)) (.str (toS k)) (.ref z) H Q := by
  intro pins s σ w u I rx ry
  obtain ⟨t, rfl⟩ := rx
  cases ry
  obtain ⟨es, n, hl, hk⟩ := hcc.ex
  have hm := PySem.W.mapOf_K (prog := X.prog) (w := X.w) I.kIn hl hk
  have fin : ∀ o : Option Value, PySem.W.nsIn X.K z (toS k) = some o → o.isSome = (kvs.lookup k).isSome → wpAny (model X.prog X.w) X.A (compareOp (if neg then .NotIn else .In) (.str (toS k) t) (.ref z)) (EP X pins σ Q) X.xe s := fun o eo es => by
    have f := PySem.W.find_K hl eo
    cases neg with
    | false =>
      refine wpAny_in_of (strKind_is X.prog X.w (toS k) t) hcc.low hm ?_
      rw [f, es]
      exact ⟨.bl _, H, I.tok _, rfl, by simpa using q⟩
    | true =>
      refine wpAny_notIn_of (strKind_is X.prog X.w (toS k) t) hcc.low hm ?_
      rw [f, es]
      exact ⟨.bl _, H, I.tok _, rfl, by simpa using q⟩
  cases el : kvs.lookup k with
  | none => exact fin none (hcc.none_ k el) (by rw [el]; rfl)
  | some d =>
    obtain ⟨u, v, e, _⟩ := hcc.some_ k d el
    exact fin (some u) e (by rw [el]; rfl)
theorem kin_ok (C : Facts X.prog X.w X.K X.mg X.base g) {x : Str} {c : Nat} (hx : g.A.gkd x = some c) {neg : Bool} {d : D} {u : V} (S : Sim X.K g.N B ρ h H) (ru : Rep (vw X.K B ρ h H) d u) (p : Post X.K g.N B W ρ h H (kind g.T neg c d h) (kV' X.K B Q)) :
    ∃ z, X.mg x = some (.ref z) ∧ wO X (compareOp (if neg then .NotIn else .In)) u (.ref z) H Q := by
  obtain ⟨z, hm, hcc⟩ := C.kd x c hx
  cases d <;> first | exact False.elim p | skip
  cases ru
  exact ⟨z, hm, in_kd hcc _ neg (Post.now p S _ rfl)⟩
theorem in_noset {neg : Bool} {x : Str} {p2 : Pos} : behindInMarks (if neg then .NotIn else .In) (.Name x p2) = false := by cases neg <;> rfl
theorem se_kin (C : Facts X.prog X.w X.K X.mg X.base g) {x : Str} {c : Nat} {neg : Bool} {p2 : Pos} (hg : Gl X x) (hx : g.A.gkd x = some c) (hd : (x == ("__debug__" : Str)) = false) (s1 : SE g X cl W e1 a) :
    SE g X cl W (.kin neg c e1) (.Compare a [if neg then .NotIn else .In] [.Name x p2] pos) := fun B σ v ρ h H Q r S p => by
  obtain ⟨z, hm, hcc⟩ := C.kd x c hx
  exact wE.of (pe_cmpR or_w pe_w (pe_glob hg hm (v := .ref z) rfl hd) in_noset) ((s1.go r S p).mono fun w H1 ⟨d, h1, ρ1, S1, E1, ru, p1⟩ => by
    cases d <;> first | exact False.elim p1 | skip
    cases ru
    exact in_kd hcc _ neg (Post.now p1 S1 _ rfl))
theorem st_kin (C : Facts X.prog X.w X.K X.mg X.base g) {x : Str} {c : Nat} {neg : Bool} {p2 : Pos} (hg : Gl X x) (hx : g.A.gkd x = some c) (hd : (x == ("__debug__" : Str)) = false) (s1 : SE g X cl W e1 a) :
    ST g X cl W (.kin neg c e1) (.Compare a [if neg then .NotIn else .In] [.Name x p2] pos) := fun B σ v ρ h H Q r S p0 => by
  obtain ⟨z, hm, hcc⟩ := C.kd x c hx
  have p := tst_bl p0
  exact wT.of (pt_cmpR or_w pe_w (pe_glob hg hm (v := .ref z) rfl hd) in_noset) ((s1.go r S p).mono fun w H1 ⟨d, h1, ρ1, S1, E1, ru, p1⟩ => by
    cases d <;> first | exact False.elim p1 | skip
    cases ru
    exact in_kd hcc _ neg (Post.now p1 S1 _ rfl))
theorem se_kget (C : Facts X.prog X.w X.K X.mg X.base g) {x : Str} {c : Nat} {p2 : Pos} (hg : Gl X x) (hx : g.A.gkd x = some c) (hd : (x == ("__debug__" : Str)) = false) (hs : noSlice a = true) (s1 : SE g X cl W e1 a) :
    SE g X cl W (.kget c e1) (.Subscript (.Name x p2) a pos) := fun B σ v ρ h H Q r S p => by
  obtain ⟨z, hm, hcc⟩ := C.kd x c hx
  exact wE.of (pe_ix ix_w (pe_glob hg hm (v := .ref z) rfl hd) pe_w (plainIx_of hs)) (show wE X a σ H (fun y H2 => wI X (.ref z) y H2 Q) from (s1.go r S p).mono fun w H1 ⟨d, h1, ρ1, S1, E1, ru, p1⟩ => by
    cases d <;> first | exact False.elim p1 | skip
    rename_i k
    cases ru
    obtain ⟨d, el, p2⟩ := Post.ofO (show Post X.K g.N B W ρ1 h1 H1 (ofO ((g.T.kd c).lookup k) h1) _ from p1)
    obtain ⟨u, w, e, rv, st⟩ := hcc.some_ k d el
    obtain ⟨es, n, hl, hk⟩ := hcc.ex
    exact wI.of ix_kdict ⟨z, toS k, w, rfl, rfl, ⟨es, n, u, hl, hk, e, rv⟩, P1.val p2 S1 (st _ rfl)⟩)

/-! ### calls -/
def bltName : Bl → Str
  | .len => "len"
  | .min => "min"
  | .max => "max"
  | .sum => "sum"
  | .all => "all"
  | .abs => "abs"
  | .sorted => "sorted"
  | .int => "int"
  | .list => "list"
  | .tuple => "tuple"
  | .dict => "dict"
  | .sortedItems => "sorted"
  | .listRange => "list"
theorem bltName_in (b : Bl) : bltName b ∈ bltNames := by cases b <;> simp [bltName, bltNames]
theorem boot_b (b : Bl) : bootBuiltins (bltName b) = some (bltV b) := by cases b <;> decide +kernel
theorem blt_plain (b : Bl) : bltName b ≠ "__name__" ∧ (bltName b == ("__debug__" : Str)) = false := by cases b <;> decide
theorem se_blt (C : Facts X.prog X.w X.K X.mg X.base g) (hc : X.calm = true) (hu : X.A.units + 64 < cLine) {b : Bl} {p2 : Pos} {f : Expr} {fs : List Expr} (hg : Gl X (bltName b)) (hp : (f :: fs).all plainE = true) (s : SA g X cl W es (f :: fs)) : SE g X cl W (.blt b es) (.Call (.Name (bltName b) p2) (f :: fs) [] pos) := fun B σ v ρ h H Q r S p => by
  have hm := C.blt _ (bltName_in b)
  obtain ⟨hn, hd⟩ := blt_plain b
  have hp2 := hp
  rw [List.all_cons, Bool.and_eq_true] at hp2
  have key : wA X (f :: fs) σ H fun us H1 => wC X (bltV b) us H1 Q := (s.go r S (f := fun xs h => blt b xs h) p).mono fun us H1 ⟨_, xs, h1, ρ1, S1, E1, ru, p1⟩ => blt_ok hc hu b S1 ru p1
  have hb := boot_b b
  cases b <;> first
    | exact wE.of (pe_callB cr_w hg hm hb pa_w hn hd (star_plain hp2.1) (any_plain hp2.2)) key
    | exact wE.of (pe_callTy cr_w hg hm hb pa_w hn hd (star_plain hp2.1) (any_plain hp2.2)) key
/-- list(range(n)) -/
theorem rg_reps {w : Vw} (n : Int) : Reps w (range 0 n.toNat) (rgV 0 n) := by
  have : ∀ l : List Nat, Reps w (l.map fun (k : Nat) => D.int (0 + (k : Int))) (l.map fun i => V.int (0 + (i : Nat))) := by
    intro l
    induction l with
    | nil => rfl
    | cons a l ih => exact ⟨_, _, rfl, rfl, ih⟩
  unfold range rgV
  rw [Int.sub_zero]
  exact this _
theorem se_lrg (C : Facts X.prog X.w X.K X.mg X.base g) (hc : X.calm = true) {p1 p2 p3 : Pos} (hg : Gl X "list") (hg2 : Gl X "range") (hp : plainE a = true) (s1 : SE g X cl W e a) : SE g X cl W (.lrg e) (.Call (.Name "list" p1) [.Call (.Name "range" p2) [a] [] p3] [] pos) := fun B σ v ρ h H Q r S p => by
  have m1 : X.mg ("list" : Str) = none := C.blt _ (by simp [bltNames])
  have m2 : X.mg ("range" : Str) = none := C.blt _ (by simp [bltNames])
  refine wE.of (pe_listRg hc hg m1 (prg_1 hg2 m2 pe_w (star_plain hp))) ((s1.go r S (f := fun x h => lrgd x h) p).mono fun u H1 ⟨x, h1, ρ1, S1, E1, ru, p1⟩ => ?_)
  cases x <;> first | exact False.elim p1 | skip
  cases ru
  obtain ⟨c, p2⟩ := Post.okIf p1
  rw [Bool.and_eq_true] at c
  have c1 := of_decide_eq_true c.1
  have c2 := of_decide_eq_true c.2
  exact ⟨_, rfl, RgOk.of_le (by omega) (by omega) (by omega) (by omega), fun q hq => P1.lst p2 S1 (rg_reps _) hq⟩
theorem se_bm0 (hu : X.A.units + 1 < cLine) {b : Bm} {apos : Pos} (hb : noSuper a = true) (hl : (apos.endLine == pos.line) = true) (s1 : SE g X cl W e a) : SE g X cl W (.bm b e .nil) (.Call (.Attribute a (bmName b) apos) [] [] pos) := fun B σ v ρ h H Q r S p => by
  refine pe_late0 hb hl ((s1.go r S (f := fun x h => (ofO (bty b x h) h).bind fun t h => (evs g.T cl .nil v h).bind fun xs h => bmd t b x xs h) p).mono fun u H1 ⟨x, h1, ρ1, S1, E1, ru, p1⟩ => ?_)
  dsimp only at p1
  cases et : bty b x h1 with
  | none => rw [et] at p1; exact False.elim p1
  | some t =>
    rw [et] at p1
    obtain ⟨k, ty⟩ := bty_ok S1 ru et
    exact ⟨t, k, ty, bmd_ok hu t b S1 ru (xs := []) rfl p1⟩
theorem se_bm (hu : X.A.units + 1 < cLine) {b : Bm} {apos : Pos} {f : Expr} {fs : List Expr} (hb : noSuper a = true) (hl : (apos.endLine == pos.line) = true) (hp : (f :: fs).all plainE = true) (hf : (f :: fs).length < 30) (s1 : SE g X cl W e a) (s2 : SA g X cl W es (f :: fs)) :
    SE g X cl W (.bm b e es) (.Call (.Attribute a (bmName b) apos) (f :: fs) [] pos) := fun B σ v ρ h H Q r S p => by
  refine pe_late hb hp hf hl ((s1.go r S (f := fun x h => (ofO (bty b x h) h).bind fun t h => (evs g.T cl es v h).bind fun xs h => bmd t b x xs h) p).mono fun u H1 ⟨x, h1, ρ1, S1, E1, ru, p1⟩ => ?_)
  dsimp only at p1
  cases et : bty b x h1 with
  | none => rw [et] at p1; exact False.elim p1
  | some t =>
    rw [et] at p1
    obtain ⟨k, ty⟩ := bty_ok S1 ru et
    exact ⟨t, k, ty, (s2.go (r.ext E1) S1 p1).mono fun us H2 ⟨hl, xs, h2, ρ2, S2, E2, rs, p2⟩ => bmd_ok hu t b S2 (ru.ext E2) rs p2⟩
def tyName : Ty → Str
  | .int => "int"
  | .bool => "bool"
  | .str => "str"
  | .tup => "tuple"
def tyId : Ty → String
  | .int => "int"
  | .bool => "bool"
  | .str => "str"
  | .tup => "tuple"
theorem ty_boot (t : Ty) : bootBuiltins (tyName t) = some (.type (tyId t)) := by cases t <;> decide +kernel
theorem ty_in (t : Ty) : tyName t ∈ bltNames := by cases t <;> simp [tyName, bltNames]
theorem ty_plain (t : Ty) : tyName t ≠ "__name__" ∧ (tyName t == ("__debug__" : Str)) = false := by cases t <;> decide
theorem kit_non (t : Ty) : kitB "NoneType" (tyId t) = some false := by cases t <;> decide +kernel
theorem kit_int (t : Ty) : kitB "int" (tyId t) = some (decide (t = .int)) := by cases t <;> decide +kernel
theorem kit_bool (t : Ty) : kitB "bool" (tyId t) = some (decide (t = .bool ∨ t = .int)) := by cases t <;> decide +kernel
theorem kit_str (t : Ty) : kitB "str" (tyId t) = some (decide (t = .str)) := by cases t <;> decide +kernel
theorem kit_tup (t : Ty) : kitB "tuple" (tyId t) = some (decide (t = .tup)) := by cases t <;> decide +kernel
theorem kit_lst (t : Ty) : kitB "list" (tyId t) = some false := by cases t <;> decide +kernel
theorem isi_ok {t : Ty} {x : D} {u : V} (S : Sim X.K g.N B ρ h H) (ru : Rep (vw X.K B ρ h H) x u) (p : Post X.K g.N B W ρ h H (isi x t h) (kV' X.K B Q)) : wC X (.builtin "isinstance") [u, .ty (tyId t)] H Q := by
  have go : ∀ {ty : String} {k : Bool}, TyX X.K H u (.type ty) → kitB ty (tyId t) = some k → Q (.bl k) H → wC X (.builtin "isinstance") [u, .ty (tyId t)] H Q := fun {ty k} hx hk q =>
    wC.of call_isi ⟨u, .ty (tyId t), .type ty, .type (tyId t), k, rfl, .ty _, hx, kit_ty hk, q⟩
  cases x with
  | non => cases ru; exact go (.base .non) (kit_non t) (Post.now (a := D.bl false) p S _ rfl)
  | bl c => cases ru; exact go (.base (.bl c)) (kit_bool t) (Post.now (a := D.bl _) p S _ rfl)
  | int i => cases ru; exact go (.base (.int i)) (kit_int t) (Post.now (a := D.bl _) p S _ rfl)
  | str z => cases ru; exact go (.base (.str _)) (kit_str t) (Post.now (a := D.bl _) p S _ rfl)
  | tup xs =>
    obtain ⟨l, vs, rfl, f, _⟩ := ru
    have q := Post.now (a := D.bl (decide (t = .tup))) p S _ rfl
    rcases f with ⟨f | ⟨o, f⟩, _⟩ | ⟨o, its, n, hl, hcl, _⟩
    · exact go (.base (.tup f)) (kit_tup t) q
    · exact go (.fTuple f) (kit_tup t) q
    · exact go (.kTuple hl hcl) (kit_tup t) q
  | lst xs =>
    obtain ⟨l, vs, rfl, ⟨f, _⟩, _⟩ := ru
    exact go (.base (.lst f)) (kit_lst t) (Post.now (a := D.bl false) p S _ rfl)
  | scr xs => exact False.elim p
  | ref k =>
    obtain ⟨hk, rfl⟩ := ru
    have p2 : Post X.K g.N B W ρ h H (match h.o k with
      | some (.lst _) => .ok (.bl false) h
      | _ => (.stk : R D)) (kV' X.K B Q) := p
    cases eo : h.o k with
    | none => rw [eo] at p2; exact False.elim p2
    | some o =>
      rw [eo] at p2
      cases o <;> first | exact False.elim p2 | skip
      obtain ⟨vs, he, _⟩ := S.obj k _ eo
      exact go (.base (.lst he)) (kit_lst t) (Post.now (a := D.bl false) p2 S _ rfl)
theorem boot_isi : bootBuiltins "isinstance" = some (.builtin "isinstance") := by decide +kernel
theorem se_isi (C : Facts X.prog X.w X.K X.mg X.base g) {t : Ty} {p2 p3 : Pos} (hg : Gl X "isinstance") (hg2 : Gl X (tyName t)) (hp : plainE a = true) (s1 : SE g X cl W e a) : SE g X cl W (.isi e t) (.Call (.Name "isinstance" p2) [a, .Name (tyName t) p3] [] pos) := fun B σ v ρ h H Q r S p => by
  have hm := C.blt "isinstance" (by simp [bltNames])
  have hm2 := C.blt _ (ty_in t)
  obtain ⟨hn, hd⟩ := ty_plain t
  refine wE.of (pe_callB cr_w hg hm boot_isi (pa_cons pe_w (pa_cons (pe_bltn hg2 hm2 (ty_boot t) (v := .ty (tyId t)) rfl hn hd) pa_nil (by rfl)) (star_plain hp)) (by decide) (by decide) (star_plain hp) (by rfl)) ?_
  exact (s1.go r S (f := fun x h => isi x t h) p).mono fun u H1 ⟨x, h1, ρ1, S1, E1, ru, p1⟩ => isi_ok S1 ru p1

/-! ### a def's call -/
/-- a pure def's run leaves the caller's memory as it is -/
theorem sub_vw {K : PySem.W.Frag} : ∀ a, (vw K (fun a => Live ρ h a ∨ B a) ρ Hs.nil H).L a ↔ (vw K B ρ h H).L a := fun a => by
  constructor
  · rintro (⟨k, o, e, _⟩ | q)
    · cases e
    · exact q
  · exact fun q => .inr q
mutual
theorem rep_down {K : PySem.W.Frag} : ∀ (d : D) (u : V), d.rl = true → Rep (vw K B ρ h H) d u → Rep (vw K (fun a => Live ρ h a ∨ B a) ρ Hs.nil H) d u
  | .non, _, _, r => r
  | .bl _, _, _, r => r
  | .int _, _, _, r => r
  | .str _, _, _, r => r
  | .tup xs, _, c, r => by
    obtain ⟨a, vs, e, f, q⟩ := r
    refine ⟨a, vs, e, ?_, reps_down xs vs c q⟩
    rcases f with ⟨f, n⟩ | f
    · exact .inl ⟨f, fun l => n ((sub_vw a).mp l)⟩
    · exact .inr f
  | .lst xs, _, c, r => by
    obtain ⟨a, vs, e, ⟨f, n⟩, q⟩ := r
    exact ⟨a, vs, e, ⟨f, fun l => n ((sub_vw a).mp l)⟩, reps_down xs vs c q⟩
  | .ref _, _, c, _ => nomatch c
  | .scr xs, _, _, r => by
    obtain ⟨a, e, f⟩ := r
    refine ⟨a, e, ?_⟩
    rcases f with ⟨f, n⟩ | f
    · exact .inl ⟨f, fun l => n ((sub_vw a).mp l)⟩
    · exact .inr f
theorem reps_down {K : PySem.W.Frag} : ∀ (ds : List D) (us : List V), D.rls ds = true → Reps (vw K B ρ h H) ds us → Reps (vw K (fun a => Live ρ h a ∨ B a) ρ Hs.nil H) ds us
  | [], _, _, r => r
  | d :: ds, _, c, r => by
    obtain ⟨v, t, e, q, q'⟩ := r
    have c' : (d.rl && D.rls ds) = true := c
    rw [Bool.and_eq_true] at c'
    exact ⟨v, t, e, rep_down d v c'.1 q, reps_down ds t c'.2 q'⟩
end
mutual
theorem rep_up {K : PySem.W.Frag} {ρ2 : Nat → Addr} {h2 : Hs} {H2 : Hp} : ∀ (d : D) (u : V), d.rl = true → Rep (vw K (fun a => Live ρ h a ∨ B a) ρ2 h2 H2) d u → Rep (vw K B ρ h H2) d u
  | .non, _, _, r => r
  | .bl _, _, _, r => r
  | .int _, _, _, r => r
  | .str _, _, _, r => r
  | .tup xs, _, c, r => by
    obtain ⟨a, vs, e, f, q⟩ := r
    refine ⟨a, vs, e, ?_, reps_up xs vs c q⟩
    rcases f with ⟨f, n⟩ | f
    · exact .inl ⟨f, fun l => n (.inr l)⟩
    · exact .inr f
  | .lst xs, _, c, r => by
    obtain ⟨a, vs, e, ⟨f, n⟩, q⟩ := r
    exact ⟨a, vs, e, ⟨f, fun l => n (.inr l)⟩, reps_up xs vs c q⟩
  | .ref _, _, c, _ => nomatch c
  | .scr xs, _, _, r => by
    obtain ⟨a, e, f⟩ := r
    refine ⟨a, e, ?_⟩
    rcases f with ⟨f, n⟩ | f
    · exact .inl ⟨f, fun l => n (.inr l)⟩
    · exact .inr f
theorem reps_up {K : PySem.W.Frag} {ρ2 : Nat → Addr} {h2 : Hs} {H2 : Hp} : ∀ (ds : List D) (us : List V), D.rls ds = true → Reps (vw K (fun a => Live ρ h a ∨ B a) ρ2 h2 H2) ds us → Reps (vw K B ρ h H2) ds us
  | [], _, _, r => r
  | d :: ds, _, c, r => by
    obtain ⟨v, t, e, q, q'⟩ := r
    have c' : (d.rl && D.rls ds) = true := c
    rw [Bool.and_eq_true] at c'
    exact ⟨v, t, e, rep_up d v c'.1 q, reps_up ds t c'.2 q'⟩
end
theorem nil_o {k : Nat} {o : O} (e : Hs.nil.o k = some o) : False := nomatch (show none = some o from e)
theorem sim_down {K : PySem.W.Frag} {N : Nms} (S : Sim K N B ρ h H) : Sim K N (fun a => Live ρ h a ∨ B a) ρ Hs.nil H where
  wf := fun _ _ e => (nil_o e).elim
  inj := fun _ _ _ _ e => (nil_o e).elim
  obj := fun _ _ e => (nil_o e).elim
  blk := fun a q => Or.elim q (fun l => S.live l) fun b => S.blk a b
  dis := fun _ _ e => (nil_o e).elim
theorem ext_up {ρ2 : Nat → Addr} {h2 : Hs} {H2 : Hp} (E : Ext ρ Hs.nil H ρ2 h2 H2) : Ext ρ h H ρ h H2 :=
  ⟨fun _ _ => rfl, Nat.le_refl _, fun a o e n => ⟨(E.keep a o e (fun ⟨_, _, z, _⟩ => nomatch z)).1, n⟩⟩
theorem sim_up {K : PySem.W.Frag} {N : Nms} {ρ2 : Nat → Addr} {h2 : Hs} {H2 : Hp} (S : Sim K N B ρ h H) (E : Ext ρ Hs.nil H ρ2 h2 H2) : Sim K N B ρ h H2 := by
  have keep : ∀ a o, H a = some o → H2 a = some o := fun a o e => (E.keep a o e (fun ⟨_, _, z, _⟩ => nomatch z)).1
  refine ⟨S.wf, S.inj, fun k o e => ?_, fun a b => ?_, S.dis⟩
  · have r := S.obj k o e
    obtain ⟨u, hu⟩ := r.some
    have hu : H (ρ k) = some u := hu
    exact r.ext (ext_up E) (by rw [keep _ _ hu, hu])
  · obtain ⟨o, e⟩ := S.blk a b
    exact ⟨o, keep a o e⟩
theorem sp_of {K : PySem.W.Frag} {N : Nms} {f : Nat} {fi : Fi} {xs : List D} {us : List V} {E : XK} (hn : us.length = (g.fps f).length) (ef : g.T.fn f = some fi) (S : Sim K g.N B ρ h H) (rs : Reps (vw K B ρ h H) xs us)
    (p : Post K g.N B (fun c d _ H' => E c d H') ρ h H (callF g.T cl f xs h) (kV' K B Q)) : spF K g cl f us H Q E := by
  refine ⟨hn, ?_⟩
  unfold callF at p
  rw [ef] at p
  cases ep : fi.pure with
  | false =>
    simp only [ep] at p
    exact ⟨B, ρ, h, xs, S, rs, p⟩
  | true =>
    simp only [ep] at p
    cases er : D.rls xs with
    | false => rw [er] at p; exact False.elim p
    | true =>
      rw [er] at p
      refine ⟨fun a => Live ρ h a ∨ B a, ρ, Hs.nil, xs, sim_down S, reps_down xs us er rs, ?_⟩
      cases ec : cl f xs Hs.nil with
      | ok d h2 =>
        simp only [ec] at p
        intro ρ2 H2 S2 E2 w rw'
        obtain ⟨c, p⟩ := Post.okIf p
        exact p ρ H2 (sim_up S E2) (ext_up E2) w (rep_up d w c rw')
      | exc c h2 =>
        simp only [ec] at p
        intro σ2 ρ2 H2 S2 E2
        exact p σ2 ρ H2 (sim_up S E2) (ext_up E2)
      | stk =>
        simp only [ec] at p
        exact False.elim p
theorem post_W {α : Type} {K : PySem.W.Frag} {N : Nms} {W W' : WX} {r : R α} {k : α → Hs → (Nat → Addr) → Hp → Prop} (p : Post K N B W ρ h H r k) (f : ∀ c H', (∀ σ, W (.ref (N.cls c)) none σ H') → ∀ σ, W' (.ref (N.cls c)) none σ H') : Post K N B W' ρ h H r k := by
  cases r with
  | ok a h1 => exact p
  | exc c h1 => exact fun σ' ρ' H' S E => f c H' (fun σ2 => p σ2 ρ' H' S E) σ'
  | stk => exact p
/-- a call behind whose arguments nothing is asked -/
theorem pe_callN {x : Str} {p2 : Pos} {f : Addr} {y : Expr} {ys : List Expr} {t : TA} (hg : Gl X x) (hm : X.mg x = some (.ref f)) (hk : PySem.W.keepIn X.K (.ref f) = true) (ha : PA X (y :: ys) t) (hdb : (x == ("__debug__" : Str)) = false)
    (he : starEach (y :: ys) X.env = (false, eval y X.env) :: starEach ys X.env) (hpl : (backTo pos (starEach ys X.env)).any (·.1) = false) : PE X (.Call (.Name x p2) (y :: ys) [] pos) (fun σ H Q => t σ H fun _ _ => False) := by
  refine ⟨fun pins s σ H Q I h => ?_⟩
  refine wpAny_Call_Name_kw (ld_glob I hg hm ?_ hdb)
  exact PySem.W.callWith_K (h₀ := X.base) I.ok.mod.kin hk (thn (ha.run pos pins s σ H _ I h) fun us s1 ⟨vs, H1, I1, r, q⟩ => ⟨I1.kIn, False.elim q⟩) he hpl
theorem pe_callS0 {CX : CXT} {k : Nat} {fd : FuncData} {ps : List Str} {sp : Sp} {E : L2.St → XK} {x : Str} {p2 : Pos} {f : Addr} (F : FnOk X.prog X.w X.K X.mg X.base CX k f fd ps sp) (hr : Room k X.A) (hg : Gl X x) (hm : X.mg x = some (.ref f)) (hk : PySem.W.keepIn X.K (.ref f) = true) (hb : Binds X.K fd ps []) (hx : ∀ σ, PassesAt CX X σ (E σ))
    (hdb : (x == ("__debug__" : Str)) = false) : PE X (.Call (.Name x p2) [] [] pos) (fun σ H Q => sp [] H Q (E σ)) := by
  refine ⟨fun pins s σ H Q I h => ?_⟩
  refine wpAny_Call_Name_kw (ld_glob I hg hm ?_ hdb)
  exact PySem.W.callWith_K0 I.kIn hk (run_fnS (us := []) F hr hb (hx σ) I .nil h)
theorem se_call0 {n : Nat} (O : Cok g X W n cl) {x : Str} {f : Nat} {p2 : Pos} (hg : Gl X x) (hx : g.A.gfn x = some f) (hd : (x == ("__debug__" : Str)) = false) (hl : (g.fps f).length = 0) : SE g X cl W (.call f .nil) (.Call (.Name x p2) [] [] pos) := fun B σ v ρ h H Q r S p => by
  obtain ⟨hm, hk⟩ := O.facts.fn x f hx
  have p' : Post X.K g.N B W ρ h H (callF g.T cl f [] h) (kV' X.K B Q) := p
  cases ef : g.T.fn f with
  | none =>
    unfold callF at p'
    rw [ef] at p'
    exact False.elim p'
  | some fi =>
    exact wE.of (pe_callS0 (O.fns f fi ef) O.room hg hm hk (O.facts.fb f fi ef) (fun σ => passAt O.tk σ) hd) (sp_of (N := g.N) (us := []) (xs := []) (by rw [hl]; rfl) ef S rfl (post_W p' fun c H' q σ' => q σ))
theorem se_call {n : Nat} (O : Cok g X W n cl) {x : Str} {f : Nat} {p2 : Pos} {y : Expr} {ys : List Expr} (hg : Gl X x) (hx : g.A.gfn x = some f) (hd : (x == ("__debug__" : Str)) = false) (hp : (y :: ys).all plainE = true) (hl : (y :: ys).length = (g.fps f).length) (s : SA g X cl W es (y :: ys)) :
    SE g X cl W (.call f es) (.Call (.Name x p2) (y :: ys) [] pos) := fun B σ v ρ h H Q r S p => by
  obtain ⟨hm, hk⟩ := O.facts.fn x f hx
  have key := s.go r S (f := fun xs h => callF g.T cl f xs h) p
  have hp2 := hp
  rw [List.all_cons, Bool.and_eq_true] at hp2
  cases ef : g.T.fn f with
  | none =>
    refine wE.of (pe_callN hg hm hk pa_w hd (star_plain hp2.1) (any_plain hp2.2)) (key.mono fun us H1 ⟨hu, xs, h1, ρ1, S1, E1, ru, p1⟩ => ?_)
    dsimp only at p1
    unfold callF at p1
    rw [ef] at p1
    exact p1
  | some fi =>
    exact wE.of (pe_callS (O.fns f fi ef) O.room hg hm hk (O.facts.fb f fi ef) (fun σ => passAt O.tk σ) pa_w hd (star_plain hp2.1) (any_plain hp2.2)) (key.mono fun us H1 ⟨hu, xs, h1, ρ1, S1, E1, ru, p1⟩ =>
      sp_of (N := g.N) (by rw [hu, hl]) ef S1 ru (post_W p1 fun c H' q σ' => q σ))
end
end Ev

/-! part EvIter -/
set_option maxRecDepth 100000
set_option maxHeartbeats 4000000
/-! enumerate(text), zip(text, tuple), walked. -/
namespace L2
open PySem PySem.Spec PyProof.Rows
theorem Inv.tupK {X : Cx} {pins : List (Addr × Obj)} {σ : St} {H : Hp} {s : Shared} {a : Addr} {xs : List V} (I : Inv X pins σ H s) (h : SqT X.K H a xs) : ∃ its : List Value, Vals xs its ∧ s.heap.IsTuple a its.toArray := by
  obtain ⟨its, rv, p, _⟩ := I.tuple h
  exact ⟨its, rv, p⟩
/-- a walk that hands out a tuple of two each turn -/
theorem turn_ofT {P : Program} {w : World} {K : PySem.W.Frag} {elts : List Expr} {kk : Nat} {tpos : Pos} {J : It} {fp : List Addr} {it : Addr} {tn : Nat → Heap → Prop} (mem : it ∈ fp)
    (obj : ∀ i h, tn i h → ∀ b ∈ fp, ∃ o, h.get? b = some o ∧ ∀ v, o.data ≠ .cell v)
    (keep : ∀ i h h', tn i h → (∀ b ∈ fp, ∀ o, h.get? b = some o → h'.get? b = some o) → tn i h')
    (gw : ∀ (X : Cx), X.prog = P → X.w = w → X.K = K → X.calm = true → ∀ (i : Nat) (pins : List (Addr × Obj)) (s : Shared) (σ : St) (H : Hp), Inv X pins σ H s → tn i s.heap → J.go i H →
      ∃ (f2 wr : List Addr) (n : Nat) (Pt : Nat → Array Value → Prop) (St : Nat → Heap → Prop) (Mid : Nat → Addr → Heap → Prop), WalksT P w X.A it f2 wr n Pt St Mid ∧ (∀ b ∈ wr, b ∈ fp) ∧ i < n ∧ St i s.heap ∧
        (∀ vals, Pt i vals → ∃ x y u v, vals = #[u, v] ∧ RelV x u ∧ RelV y v ∧ ∀ T, H T = none → J.yld i H (.ref T) (upd H T (.tup [x, y]))) ∧ ∀ h', St (i + 1) h' → tn (i + 1) h')
    (sw : ∀ (X : Cx), X.prog = P → X.w = w → X.K = K → X.calm = true → ∀ (i : Nat) (pins : List (Addr × Obj)) (s : Shared) (σ : St) (H : Hp), Inv X pins σ H s → tn i s.heap → J.stop i H →
      ∃ (f2 wr : List Addr) (Pt : Nat → Array Value → Prop) (St : Nat → Heap → Prop) (Mid : Nat → Addr → Heap → Prop), WalksT P w X.A it f2 wr i Pt St Mid ∧ (∀ b ∈ wr, b ∈ fp) ∧ St i s.heap)
    (self : ∀ (A : Around) (i : Nat) (s : Shared) (Q : Value → Shared → Prop) (E : Value → Shared → Prop), tn i s.heap → Q (.ref it) s → wpAny (model P w) A (pyIter (.ref it)) Q E s) :
    Turn P w K (.Tuple elts kk tpos) J fp it tn where
  mem := mem
  obj := obj
  keep := keep
  item := by
    intro X hP hw hK hc i pins s σ H E I hf st hg
    obtain ⟨f2, wr, n, Pt, St, Mid, W, hsub, hin, hst, hvals, hnext⟩ := gw X hP hw hK hc i pins s σ H I st hg
    refine W.item i s _ _ hin hst fun T vals h' tk hpt hT ht hm hk => ?_
    obtain ⟨x, y, u, v, rfl, ru, rv, hy⟩ := hvals vals hpt
    refine ⟨_, rfl, W.go elts kk tpos i T { s with heap := h', toks := tk } _ _ hm fun h'' hs' hk2 => ?_⟩
    have hap : T ∉ wr := W.apart i T h' hm
    have kp : ∀ b ob, b ∉ wr → s.heap.get? b = some ob → h''.get? b = some ob := fun b ob hb q => hk2 b ob hb (hk b ob hb q)
    obtain ⟨o, ho, hcl, n2, hd⟩ := ht
    have ho2 : h''.get? T = some o := hk2 T o hap ho
    subst hP hw hK
    have hTn : H T = none := I.hok.fresh hT
    have new : ObjOk X.prog X.w (upd H T (.tup [x, y])) h'' T (.tup [x, y]) := ⟨by show 2 ≤ sizeLine; decide, [u, v], .cons ru (.cons rv .nil), ⟨o, ho2, hcl, n2, hd⟩⟩
    have I1 : Inv X pins σ (upd H T (.tup [x, y])) { s with heap := h'', toks := tk } :=
      I.turnedNew (ch := wr) (fun b ob hb q => kp b ob hb q) (fun b hb => hf b (hsub b hb)) hT new
    refine ⟨.ref T, _, I1, rfl, hy T hTn, hnext h'' hs', fun b hb => ?_⟩
    obtain ⟨ob, e, _⟩ := obj i _ st b hb
    rw [upd_ne (Nat.ne_of_lt (Nat.lt_of_lt_of_le (Heap.lt_size e) hT))]
    exact (hf b hb).1
  done := by
    intro X hP hw hK hc i pins s σ H E I hf st hg
    obtain ⟨f2, wr, Pt, St, Mid, W, hsub, hst⟩ := sw X hP hw hK hc i pins s σ H I st hg
    refine W.done s _ _ hst fun h' tk hk => ⟨rfl, ?_⟩
    exact I.turnedL (t' := tk) (ch := wr) (fun b o hb q => hk b o hb q) (fun b hb => hf b (hsub b hb))
  self := self

/-! ### enumerate(text) -/
def Ites (x : Str) : It := ⟨fun i _ => i < x.cps.size, fun i H v H' => ∃ T c, v = .ref T ∧ H T = none ∧ H' = upd H T (.tup [.int (i : Nat), .str ⟨#[c]⟩]) ∧ x.cps[i]? = some c, fun i _ => i = x.cps.size⟩
theorem turn_enumS {P : Program} {w : World} {K : PySem.W.Frag} {elts : List Expr} {kk : Nat} {tpos : Pos} (e it : Addr) (x : Str) (t : Tok) :
    Turn P w K (.Tuple elts kk tpos) (Ites x) [e, it] e (fun i h => (∃ old, IsEnum h e it ((i : Nat) : Int) old) ∧ h.IsStrIter it (strIterType x) x t i ∧ e ≠ it) := by
  have wk : ∀ (X : Cx), X.prog = P → X.w = w → X.calm = true → ∀ (pins : List (Addr × Obj)) (s : Shared) (σ : St) (H : Hp), Inv X pins σ H s → e ≠ it → _ := fun X hP hw hc pins s σ H I hne =>
    WalksT.enumerateD (prog := P) (w := w) (A := X.A) (Draws.text (prog := P) (w := w) (A := X.A.in1) (I.ok.hd hc) it x t) e hne (by simpa using hne) (by simp)
  refine turn_ofT (by simp) ?_ ?_ ?_ ?_ ?_
  · intro i h st b hb
    obtain ⟨⟨old, he⟩, ⟨o, ho, hc, hd⟩, _⟩ := st
    have e' : b = e ∨ b = it := by simpa using hb
    rcases e' with z | z
    · rw [z]; exact ⟨_, he, fun v q => nomatch q⟩
    · rw [z]; exact ⟨o, ho, fun v q => by rw [hd] at q; cases q⟩
  · intro i h h' st k
    obtain ⟨⟨old, he⟩, ⟨o, ho, r⟩, hne⟩ := st
    exact ⟨⟨old, k e (by simp) _ he⟩, ⟨o, k it (by simp) o ho, r⟩, hne⟩
  · intro X hP hw hK hc i pins s σ H I st hg
    obtain ⟨he, hi, hne⟩ := st
    refine ⟨_, _, _, _, _, _, wk X hP hw hc pins s σ H I hne, fun b hb => hb, hg, ⟨he, hi⟩, fun vals hv => ?_, fun h' hs => ⟨hs.1, hs.2, hne⟩⟩
    obtain ⟨tt, v, ⟨c, u, hcx, rfl⟩, rfl⟩ := hv
    exact ⟨.int (i : Nat), .str ⟨#[c]⟩, _, _, rfl, ⟨tt, rfl⟩, ⟨u, rfl⟩, fun T hT => ⟨T, c, rfl, hT, rfl, hcx⟩⟩
  · intro X hP hw hK hc i pins s σ H I st hg
    obtain ⟨he, hi, hne⟩ := st
    have hg : i = x.cps.size := hg
    subst hg
    exact ⟨_, _, _, _, _, wk X hP hw hc pins s σ H I hne, fun b hb => hb, ⟨he, hi⟩⟩
  · intro A i s Q E st h
    obtain ⟨⟨_, he⟩, _⟩ := st
    exact wpAny_pyIter_enum he h
def iEnumS (ta : TA) : TI := fun σ H R => ta σ H fun vs H1 => ∃ x, vs = [.str x] ∧ R (Ites x) H1
theorem pi_enumS {X : Cx} {e : Expr} {ta : TA} {p pos tpos : Pos} {elts : List Expr} {kk : Nat} (hg : Gl X "enumerate") (hm : X.mg "enumerate" = none) (ha : PA X [e] ta) (hs : starEach [e] X.env = [(false, eval e X.env)] := by rfl) :
    PI X (.Tuple elts kk tpos) (.Call (.Name "enumerate" p) [e] [] pos) (iEnumS ta) := by
  refine ⟨fun pins s σ H R I h => ?_⟩
  refine Call_ (ld_blt I hg hm boot_enumerate (PyProof.Rows.callWith_type1 (thn (ha.run pos pins s σ H _ I h) fun us s1 ⟨vs, H1, I1, r1, q1⟩ => ?_) hs rfl))
  obtain ⟨x, ex, q⟩ := q1
  subst ex
  cases r1 with
  | cons r rr =>
    cases rr
    obtain ⟨t, rfl⟩ := r
    refine call_enumerate_str fun h' he hit hsz hk => wpAny_pyIter_enum he ?_
    have I2 : Inv X pins σ H1 { s1 with heap := h' } := I1.kept (t' := s1.toks) hk
    refine ⟨s1.heap.objs.size + 1, [s1.heap.objs.size + 1, s1.heap.objs.size], _, _, H1, rfl, I2, turn_enumS (s1.heap.objs.size + 1) s1.heap.objs.size x t, ⟨⟨.none, he⟩, hit, Nat.succ_ne_self _⟩, fun b hb => ?_, q⟩
    have e' : b = s1.heap.objs.size + 1 ∨ b = s1.heap.objs.size := by simpa using hb
    have hle : s1.heap.objs.size ≤ b := by
      rcases e' with z | z
      · rw [z]; exact Nat.le_add_right _ _
      · rw [z]; exact Nat.le_refl _
    exact I1.fpOk hle (I1.hok.fresh hle)

/-! ### zip(text, tuple) -/
def Itzs (K : PySem.W.Frag) (z : Str) (b : Addr) : It :=
  ⟨fun i H => i < z.cps.size ∧ ∃ (ys : List V) (y : V), SqT K H b ys ∧ ys[i]? = some y,
    fun i H v H' => ∃ T c y, v = .ref T ∧ H T = none ∧ H' = upd H T (.tup [.str ⟨#[c]⟩, y]) ∧ z.cps[i]? = some c ∧ ∀ ys, SqT K H b ys → ys[i]? = some y,
    fun i H => ∃ ys : List V, SqT K H b ys ∧ i = min z.cps.size ys.length⟩
/-- the places of a zip's own objects -/
structure Zp (z TI TO i1 i2 b : Addr) : Prop where
  TIz : TI ≠ z
  TOz : TO ≠ z
  TITO : TI ≠ TO
  TIi1 : TI ≠ i1
  TIi2 : TI ≠ i2
  zi1 : z ≠ i1
  zi2 : z ≠ i2
  Ti1 : TO ≠ i1
  Ti2 : TO ≠ i2
  i12 : i1 ≠ i2
  bz : b ≠ z
  bTO : b ≠ TO
  bi1 : b ≠ i1
  bi2 : b ≠ i2
theorem turn_zipS {P : Program} {w : World} {K : PySem.W.Frag} {elts : List Expr} {kk : Nat} {tpos : Pos} {z TI TO i1 i2 b : Addr} (x : Str) (t : Tok) (D : Zp z TI TO i1 i2 b) :
    Turn P w K (.Tuple elts kk tpos) (Itzs K x b) [z, TI, TO, i1, i2] z (fun i h => IsZip h z TI TO .none ∧ PySem.IsTupOf2 h TI (.ref i1) (.ref i2) ∧ (∃ x y, PySem.IsTupOf2 h TO x y) ∧ h.IsStrIter i1 (strIterType x) x t i ∧ h.IsTupleIter i2 b i) := by
  have S : PySem.ZipSep2 z TI TO i1 i2 [i1] [i2, b] := ⟨D.TIz, D.TOz, D.TITO, D.TIi1, by simp, by simpa using D.zi1, by simpa using D.Ti1, D.TIi2, by simp, by simpa using ⟨D.zi2, D.bz.symm⟩, by simpa using ⟨D.Ti2, D.bTO.symm⟩, by simpa using ⟨D.i12, D.bi1.symm⟩, by simpa using D.i12.symm⟩
  have wk : ∀ (X : Cx), X.prog = P → X.w = w → X.calm = true → ∀ (pins : List (Addr × Obj)) (s : Shared) (σ : St) (H : Hp), Inv X pins σ H s → ∀ its : List Value, _ := fun X hP hw hc pins s σ H I its =>
    WalksT.zipD2 (prog := P) (w := w) (A := X.A) S (Draws.text (prog := P) (w := w) (A := X.A.in1) (I.ok.hd hc) i1 x t) (Draws.tuple (prog := P) (w := w) (A := X.A.in1) (I.ok.hd hc) i2 b D.bi2 its.toArray)
  refine turn_ofT (by simp) ?_ ?_ ?_ ?_ ?_
  · intro i h st c hc
    obtain ⟨hz, hTI, ⟨x, y, hTO⟩, ⟨o1, e1, _, d1⟩, ⟨o2, e2, _, d2⟩⟩ := st
    have e' : c = z ∨ c = TI ∨ c = TO ∨ c = i1 ∨ c = i2 := by simpa using hc
    rcases e' with q | q | q | q | q
    · rw [q]; exact ⟨_, hz, fun v q => nomatch q⟩
    · rw [q]; exact ⟨_, hTI, fun v q => nomatch q⟩
    · rw [q]; exact ⟨_, hTO, fun v q => nomatch q⟩
    · rw [q]; exact ⟨o1, e1, fun v q => by rw [d1] at q; cases q⟩
    · rw [q]; exact ⟨o2, e2, fun v q => by rw [d2] at q; cases q⟩
  · intro i h h' st k
    obtain ⟨hz, hTI, ⟨x, y, hTO⟩, ⟨o1, e1, r1⟩, h2⟩ := st
    exact ⟨k z (by simp) _ hz, k TI (by simp) _ hTI, ⟨x, y, k TO (by simp) _ hTO⟩, ⟨o1, k i1 (by simp) o1 e1, r1⟩, h2.at fun o q => k i2 (by simp) o q⟩
  · intro X hP hw hK hc i pins s σ H I st hg
    obtain ⟨hz, hTI, hTO, h1, h2⟩ := st
    obtain ⟨hi, ys, y, hq, hy⟩ := hg
    subst hK
    obtain ⟨its, rv, ht⟩ := I.tupK hq
    obtain ⟨u, hu, ru⟩ := rv.get hy
    have hl := rv.length
    have hiy : i < ys.length := (List.getElem?_eq_some_iff.mp hy).1
    refine ⟨_, _, _, _, _, _, wk X hP hw hc pins s σ H I its, fun c hc => ?_, ?_, ⟨hz, hTI, hTO, h1, h2, ht⟩, fun vals hv => ?_, fun h' hs => ?_⟩
    · have e' : c = z ∨ c = TO ∨ c = i1 ∨ c = i2 := by simpa using hc
      rcases e' with q | q | q | q <;> simp [q]
    · have e : its.toArray.size = ys.length := by rw [hl]; simp
      rw [e]
      omega
    · obtain ⟨x1, x2, ⟨c, tt, hcx, rfl⟩, hx2, rfl⟩ := hv
      have e2 : x2 = u := by
        have hx2' : its[i]? = some x2 := by simpa using hx2
        rw [hu] at hx2'
        exact (Option.some.inj hx2').symm
      subst e2
      exact ⟨.str ⟨#[c]⟩, y, _, _, rfl, ⟨tt, rfl⟩, ru, fun T hT => ⟨T, c, y, rfl, hT, rfl, hcx, fun ys' hy' => by rw [I.tuple_inj hy' hq]; exact hy⟩⟩
    · obtain ⟨a1, a2, a3, a4, a5⟩ := hs
      exact ⟨a1, a2, a3, a4, a5.1⟩
  · intro X hP hw hK hc i pins s σ H I st hg
    obtain ⟨hz, hTI, hTO, h1, h2⟩ := st
    obtain ⟨ys, hq, hi⟩ := hg
    subst hK
    obtain ⟨its, rv, ht⟩ := I.tupK hq
    have hl := rv.length
    have W := wk X hP hw hc pins s σ H I its
    have e0 : its.toArray.size = ys.length := by rw [hl]; simp
    have e : min x.cps.size its.toArray.size = i := by rw [e0, hi]
    rw [e] at W
    refine ⟨_, _, _, _, _, W, fun c hc => ?_, ⟨hz, hTI, hTO, h1, h2, ht⟩⟩
    have e' : c = z ∨ c = TO ∨ c = i1 ∨ c = i2 := by simpa using hc
    rcases e' with q | q | q | q <;> simp [q]
  · intro A i s Q E st h
    exact wpAny_pyIter_zip st.1 h
/-! the call -/
abbrev zS1 (h : Heap) (x : Str) (t : Tok) : Heap := h.push { cls := .type (strIterType x), data := .fields #[.str x t, .int 0 0] }
abbrev zS2 (h : Heap) (x : Str) (t : Tok) (l : Addr) : Heap := (zS1 h x t).push { cls := .type "tuple_iterator", data := .fields #[.ref l, .int 0 0] }
abbrev zS3 (h : Heap) (x : Str) (t : Tok) (l : Addr) : Heap := (zS2 h x t l).push { cls := .type "tuple", data := .seq #[.ref h.objs.size, .ref (zS1 h x t).objs.size] }
abbrev zS4 (h : Heap) (x : Str) (t : Tok) (l : Addr) : Heap := (zS3 h x t l).push { cls := .type "tuple", data := .seq #[.none, .none] }
abbrev zS5 (h : Heap) (x : Str) (t : Tok) (l : Addr) : Heap := (zS4 h x t l).push { cls := .type "zip", data := .fields #[.none, .bool false, .bool false, .ref (zS2 h x t l).objs.size, .ref (zS3 h x t l).objs.size] }
end L2
namespace RZ
open PySem PySem.Spec PyProof.Rows L2 Builtin
open Sem (wp)
theorem iter_strT {prog : Program} {w : World} {A : Around} {E : Value → Shared → Prop} {s : Shared} {x : Str} {t : Tok} {Q : Value → Shared → Prop}
    (hQ : Q (.ref s.heap.objs.size) { s with heap := s.heap.push { cls := .type (strIterType x), data := .fields #[.str x t, .int 0 0] } }) : wpAny (model prog w) A (pyIter (.str x t)) Q E s := by
  cases ha : x.cps.all (· < 128)
  · simp only [strIterType, ha, Bool.false_eq_true, if_false] at hQ
    exact wpAny_pyIter_wide ha hQ
  · simp only [strIterType, ha, if_true] at hQ
    exact wpAny_pyIter_ascii ha hQ
theorem meets_zipS_new (x : Str) (t : Tok) (l2 : Addr) (ys : Array Value) :
    Meets (Builtin.«zip.__new__» ⟨[.type "zip", .str x t, .ref l2], []⟩) (fun _ R s => s.heap.IsTuple l2 ys ∧
      R (.ok (.ret (.ref (zS4 s.heap x t l2).objs.size))) { s with heap := zS5 s.heap x t l2 }) :=
  .of_wp fun prog w A R s h => by
    obtain ⟨hp, g, d, tk, os⟩ := s; obtain ⟨hl2, h⟩ := h
    have hsub := sub_zip
    have hL2 : Heap.IsTuple (Shared.heap ⟨hp.push { cls := .type (strIterType x), data := .fields #[.str x t, .int 0 0] }, g, d, tk, os⟩) l2 ys := Heap.IsTuple.push hl2 _
    wp_walk using iter_strT, wpAny_pyIter_tuple hL2
    exact ⟨_, rfl, h⟩
end RZ

/-! part EvIter2 -/
set_option maxRecDepth 100000
set_option maxHeartbeats 4000000
/-! zip(text, tuple): the call. -/
namespace RZ
open PySem PySem.Spec PyProof.Rows L2 Builtin
open Sem (wp)
theorem call_zipS {prog : Program} {w : World} {A : Around} {E : Value → Shared → Prop} {s : Shared} {x : Str} {t : Tok} {l2 : Addr} {ys : Array Value} {Q : Value → Shared → Prop} (hl2 : s.heap.IsTuple l2 ys)
    (h : ∀ h', IsZip h' (s.heap.objs.size + 4) (s.heap.objs.size + 2) (s.heap.objs.size + 3) .none → PySem.IsTupOf2 h' (s.heap.objs.size + 2) (.ref s.heap.objs.size) (.ref (s.heap.objs.size + 1)) →
      PySem.IsTupOf2 h' (s.heap.objs.size + 3) .none .none → h'.IsStrIter s.heap.objs.size (strIterType x) x t 0 → h'.IsTupleIter (s.heap.objs.size + 1) l2 0 → h'.objs.size = s.heap.objs.size + 5 →
      (∀ c o, s.heap.get? c = some o → h'.get? c = some o) → Q (.ref (s.heap.objs.size + 4)) { s with heap := h' }) :
    wpAny (model prog w) A (call (.type "zip") [.str x t, .ref l2]) Q E s := by
  refine callType_new F.called_zip (by decide) (F.typeCall_zip_2 _ _) (F.newCall_zip_2 _ _) (fun obj => F.args_object_init_3 obj _ _) F.entry_zip_new
    (meets_zipS_new x t l2 ys) ⟨hl2, ?_⟩
  have z1 : (zS1 s.heap x t).objs.size = s.heap.objs.size + 1 := Heap.size_push ..
  have z2 : (zS2 s.heap x t l2).objs.size = s.heap.objs.size + 2 := by rw [Heap.size_push, z1]
  have z3 : (zS3 s.heap x t l2).objs.size = s.heap.objs.size + 3 := by rw [Heap.size_push, z2]
  have z4 : (zS4 s.heap x t l2).objs.size = s.heap.objs.size + 4 := by rw [Heap.size_push, z3]
  have z5 : (zS5 s.heap x t l2).objs.size = s.heap.objs.size + 5 := by rw [Heap.size_push, z4]
  have g5 : (zS5 s.heap x t l2).get? (zS4 s.heap x t l2).objs.size = some _ := Heap.get?_push_size _ rfl
  have g4 : (zS5 s.heap x t l2).get? (zS3 s.heap x t l2).objs.size = some _ := Heap.get?_push_of_some _ (Heap.get?_push_size _ rfl)
  have g3 : (zS5 s.heap x t l2).get? (zS2 s.heap x t l2).objs.size = some _ := Heap.get?_push_of_some _ (Heap.get?_push_of_some _ (Heap.get?_push_size _ rfl))
  have g2 : (zS5 s.heap x t l2).get? (zS1 s.heap x t).objs.size = some _ := Heap.get?_push_of_some _ (Heap.get?_push_of_some _ (Heap.get?_push_of_some _ (Heap.get?_push_size _ rfl)))
  have g1 : (zS5 s.heap x t l2).get? s.heap.objs.size = some _ := Heap.get?_push_of_some _ (Heap.get?_push_of_some _ (Heap.get?_push_of_some _ (Heap.get?_push_of_some _ (Heap.get?_push_size _ rfl))))
  show _ ∧ _
  rw [z2, z3, z4] at g5
  rw [z1, z2] at g3
  rw [z3] at g4
  rw [z1] at g2
  rw [z4]
  exact ⟨⟨_, g5, rfl⟩, h _ g5 g3 g4 ⟨_, g1, rfl, rfl⟩ ⟨_, g2, rfl, rfl⟩ z5 fun c o x =>
    Heap.get?_push_of_some _ (Heap.get?_push_of_some _ (Heap.get?_push_of_some _ (Heap.get?_push_of_some _ (Heap.get?_push_of_some _ x))))⟩
end RZ
namespace L2
open PySem PySem.Spec PyProof.Rows
theorem zp_of (n b : Nat) (h : b < n) : Zp (n + 4) (n + 2) (n + 3) n (n + 1) b := by
  constructor <;> (intro (z : (_ : Nat) = _); omega)
def iZipS (K : PySem.W.Frag) (ta : TA) : TI := fun σ H R => ta σ H fun vs H1 => ∃ z b ys, vs = [.str z, .ref b] ∧ SqT K H1 b ys ∧ R (Itzs K z b) H1
theorem pi_zipS {X : Cx} {e e2 : Expr} {ta : TA} {p pos tpos : Pos} {elts : List Expr} {kk : Nat} (hg : Gl X "zip") (hm : X.mg "zip" = none) (ha : PA X [e, e2] ta)
    (hs : starEach [e, e2] X.env = (false, eval e X.env) :: starEach [e2] X.env := by rfl) (hpl : (backTo pos (starEach [e2] X.env)).any (·.1) = false := by rfl) :
    PI X (.Tuple elts kk tpos) (.Call (.Name "zip" p) [e, e2] [] pos) (iZipS X.K ta) := by
  refine ⟨fun pins s σ H R I h => ?_⟩
  refine Call_ (ld_blt I hg hm PyProof.Rows.boot_zip (PyProof.Rows.callWith_type1 (thn (ha.run pos pins s σ H _ I h) fun us s1 ⟨vs, H1, I1, r1, q1⟩ => ?_) hs hpl))
  obtain ⟨x, b, ys, ex, hq, q⟩ := q1
  subst ex
  cases r1 with
  | cons r rr =>
    cases rr with
    | cons r' rr =>
      cases rr
      obtain ⟨t, rfl⟩ := r
      cases r'
      have fresh5 : ∀ c, c ∈ [s1.heap.objs.size + 4, s1.heap.objs.size + 2, s1.heap.objs.size + 3, s1.heap.objs.size, s1.heap.objs.size + 1] → FpOk X pins H1 c := fun c hcm => by
        have e' : c = s1.heap.objs.size + 4 ∨ c = s1.heap.objs.size + 2 ∨ c = s1.heap.objs.size + 3 ∨ c = s1.heap.objs.size ∨ c = s1.heap.objs.size + 1 := by simpa using hcm
        have hle : s1.heap.objs.size ≤ c := by
          rcases e' with z | z | z | z | z
          · rw [z]; exact Nat.le_add_right _ _
          · rw [z]; exact Nat.le_add_right _ _
          · rw [z]; exact Nat.le_add_right _ _
          · rw [z]; exact Nat.le_refl _
          · rw [z]; exact Nat.le_add_right _ _
        exact I1.fpOk hle (I1.hok.fresh hle)
      obtain ⟨its, rv, p2⟩ := I1.tupK hq
      obtain ⟨o2, ho2, _⟩ := id p2
      have hb := Heap.lt_size ho2
      refine RZ.call_zipS p2 fun h' hz hTI hTO h1 h2 hsz hk => wpAny_pyIter_zip hz ?_
      have I2 : Inv X pins σ H1 { s1 with heap := h' } := I1.kept (t' := s1.toks) hk
      exact ⟨s1.heap.objs.size + 4, [s1.heap.objs.size + 4, s1.heap.objs.size + 2, s1.heap.objs.size + 3, s1.heap.objs.size, s1.heap.objs.size + 1], _, _, H1, rfl, I2,
        turn_zipS x t (b := b) (zp_of _ _ hb), ⟨hz, hTI, ⟨_, _, hTO⟩, h1, h2⟩, fresh5, q⟩
end L2

/-! part EvVm -/
set_option maxRecDepth 100000
set_option maxHeartbeats 4000000
/-! From one view to another. -/
namespace Ev
open PySem PySem.Spec PyProof.Rows L2
/-! ### another view -/
structure Vm (w w' : Vw) : Prop where
  K : w'.K = w.K
  n : w.n ≤ w'.n
  rho : ∀ k, k < w.n → w'.ρ k = w.ρ k
  keep : ∀ a o, w.H a = some o → ¬ w.L a → w'.H a = some o ∧ ¬ w'.L a
theorem FzT.vm {w w' : Vw} (E : Vm w w') {a : Addr} {xs : List V} (f : FzT w a xs) : FzT w' a xs := by
  rcases f with ⟨r, n⟩ | f
  · rcases r with r | ⟨o, r⟩
    · obtain ⟨e, l⟩ := E.keep a _ r n
      exact .inl ⟨.inl e, l⟩
    · obtain ⟨e, l⟩ := E.keep a _ r n
      exact .inl ⟨.inr ⟨o, e⟩, l⟩
  · refine .inr ?_
    rw [E.K]
    exact f
mutual
theorem Rep.vm {w w' : Vw} (E : Vm w w') : ∀ (d : D) (v : V), Rep w d v → Rep w' d v
  | .non, _, r => r
  | .bl _, _, r => r
  | .int _, _, r => r
  | .str _, _, r => r
  | .tup xs, _, r => by
    obtain ⟨a, vs, e, f, q⟩ := r
    exact ⟨a, vs, e, f.vm E, Reps.vm E xs vs q⟩
  | .lst xs, _, r => by
    obtain ⟨a, vs, e, ⟨f, n⟩, q⟩ := r
    exact ⟨a, vs, e, E.keep a _ f n, Reps.vm E xs vs q⟩
  | .ref k, _, r => by
    obtain ⟨l, e⟩ := r
    exact ⟨Nat.lt_of_lt_of_le l E.n, e.trans (congrArg V.ref (E.rho k l).symm)⟩
  | .scr xs, _, r => by
    obtain ⟨a, e, f⟩ := r
    refine ⟨a, e, ?_⟩
    rcases f with ⟨f | ⟨o, f⟩, n⟩ | f
    · obtain ⟨q, l⟩ := E.keep a _ f n
      exact .inl ⟨.inl q, l⟩
    · obtain ⟨q, l⟩ := E.keep a _ f n
      exact .inl ⟨.inr ⟨o, q⟩, l⟩
    · refine .inr ?_
      rw [E.K]
      exact f
theorem Reps.vm {w w' : Vw} (E : Vm w w') : ∀ (ds : List D) (vs : List V), Reps w ds vs → Reps w' ds vs
  | [], _, r => r
  | d :: ds, _, r => by
    obtain ⟨v, t, e, q, q'⟩ := r
    exact ⟨v, t, e, Rep.vm E d v q, Reps.vm E ds t q'⟩
end
theorem RepK.vm {w w' : Vw} (E : Vm w w') : ∀ {ks : List (List Nat × D)} {es : List (Key × V)}, RepK w ks es → RepK w' ks es
  | [], _, r => r
  | (k, d) :: ks, _, r => by
    obtain ⟨v, t, e, q, q'⟩ := r
    exact ⟨v, t, e, Rep.vm E d v q, RepK.vm E q'⟩
theorem RepF.vm {w w' : Vw} {nm : Nat → Str} (E : Vm w w') : ∀ {ks : List (Nat × D)} {es : List (Str × V)}, RepF w nm ks es → RepF w' nm ks es
  | [], _, r => r
  | (k, d) :: ks, _, r => by
    obtain ⟨v, t, e, q, q'⟩ := r
    exact ⟨v, t, e, Rep.vm E d v q, RepF.vm E q'⟩
theorem RepO.vm {w w' : Vw} {N : Nms} (E : Vm w w') {o : O} {a : Addr} (s : w'.H a = w.H a) (r : RepO w N o a) : RepO w' N o a := by
  cases o with
  | lst xs =>
    obtain ⟨vs, e, q⟩ := r
    exact ⟨vs, s.trans e, q.vm E _ _⟩
  | dct kvs =>
    obtain ⟨es, e, q⟩ := r
    exact ⟨es, s.trans e, q.vm E⟩
  | fdc kvs =>
    obtain ⟨od, es, e, q⟩ := r
    exact ⟨od, es, s.trans e, q.vm E⟩
  | ins c fs =>
    obtain ⟨dx, es, e, q⟩ := r
    exact ⟨dx, es, s.trans e, q.vm E⟩
theorem Ext.vm {K : PySem.W.Frag} {B : Addr → Prop} {ρ ρ' : Nat → Addr} {h h' : Hs} {H H' : Hp} (E : Ext ρ h H ρ' h' H') : Vm (vw K B ρ h H) (vw K B ρ' h' H') :=
  ⟨rfl, E.le, E.rho, fun a o e n => let ⟨e1, n1⟩ := E.keep a o e fun l => n (.inl l); ⟨e1, fun l => Or.elim l n1 fun b => n (.inr b)⟩⟩
theorem Vm.trans {a b c : Vw} (E : Vm a b) (F : Vm b c) : Vm a c := ⟨F.K.trans E.K, Nat.le_trans E.n F.n, fun k hk => (F.rho k (Nat.lt_of_lt_of_le hk E.n)).trans (E.rho k hk), fun x o e n => let ⟨e1, n1⟩ := E.keep x o e n; F.keep x o e1 n1⟩
end Ev

/-! part EvWalk -/
set_option maxRecDepth 100000
set_option maxHeartbeats 4000000
/-! What is walked: one reading for all kinds. -/
namespace L2
open PySem PySem.Spec PyProof.Rows
section
variable {X : Cx} {tg : Expr}
def iVal (K : PySem.W.Frag) (te : TE) : TI := fun σ H R => te σ H fun x H1 => (∃ z, x = .str z ∧ R (Its z) H1) ∨ (∃ a, x = .ref a ∧ (∃ xs, SqL K H1 a xs) ∧ R (Itl K a) H1) ∨ ∃ a, x = .ref a ∧ (∃ xs, SqT K H1 a xs) ∧ R (Itt K a) H1
theorem pi_val {e : Expr} {te : TE} (he : PE X e te) : PI X tg e (iVal X.K te) := by
  refine ⟨fun pins s σ H R I h => ?_⟩
  refine thn (he.run pins s σ H _ I h) fun v s1 ⟨y, H1, I1, r1, q1⟩ => ?_
  rcases q1 with ⟨x, ex, q⟩ | ⟨a, e, ⟨xs, hq⟩, q⟩ | ⟨a, e, ⟨xs, hq⟩, q⟩
  · subst ex
    obtain ⟨t, rfl⟩ := r1
    cases ha : x.cps.all (· < 128)
    · exact wpAny_pyIter_wide ha (pi_one (tk := s1.toks) I1 _ (turn_str _ x t "str_iterator" (.inr rfl)) ⟨_, Heap.get?_push_size _ rfl, rfl, rfl⟩ q)
    · exact wpAny_pyIter_ascii ha (pi_one (tk := s1.toks) I1 _ (turn_str _ x t "str_ascii_iterator" (.inl rfl)) ⟨_, Heap.get?_push_size _ rfl, rfl, rfl⟩ q)
  · subst e
    cases r1
    obtain ⟨its, rv, p, hz⟩ := I1.list hq
    exact wpAny_pyIter_list p.isList (pi_one (tk := s1.toks) I1 _ (turn_list a _) ⟨_, Heap.get?_push_size _ rfl, rfl, rfl⟩ q)
  · subst e
    cases r1
    obtain ⟨its, rv, p, hz⟩ := I1.tuple hq
    exact wpAny_pyIter_tuple (show s1.heap.IsTuple a its.toArray from p) (pi_one (tk := s1.toks) I1 _ (turn_tuple a _) ⟨_, Heap.get?_push_size _ rfl, rfl, rfl⟩ q)
def iEnm (K : PySem.W.Frag) (ta : TA) : TI := fun σ H R => ta σ H fun vs H1 => (∃ x, vs = [.str x] ∧ R (Ites x) H1) ∨ ∃ a xs, vs = [.ref a] ∧ SqL K H1 a xs ∧ R (Ite K a) H1
theorem pi_enm {e : Expr} {ta : TA} {p pos tpos : Pos} {elts : List Expr} {kk : Nat} (hg : Gl X "enumerate") (hm : X.mg "enumerate" = none) (ha : PA X [e] ta) (hs : starEach [e] X.env = [(false, eval e X.env)]) :
    PI X (.Tuple elts kk tpos) (.Call (.Name "enumerate" p) [e] [] pos) (iEnm X.K ta) := by
  refine ⟨fun pins s σ H R I h => ?_⟩
  refine Call_ (ld_blt I hg hm boot_enumerate (PyProof.Rows.callWith_type1 (thn (ha.run pos pins s σ H _ I h) fun us s1 ⟨vs, H1, I1, r1, q1⟩ => ?_) hs rfl))
  rcases q1 with ⟨x, ex, q⟩ | ⟨a, xs, ex, hq, q⟩
  · subst ex
    cases r1 with
    | cons r rr =>
      cases rr
      obtain ⟨t, rfl⟩ := r
      refine call_enumerate_str fun h' he hit hsz hk => wpAny_pyIter_enum he ?_
      have I2 : Inv X pins σ H1 { s1 with heap := h' } := I1.kept (t' := s1.toks) hk
      refine ⟨s1.heap.objs.size + 1, [s1.heap.objs.size + 1, s1.heap.objs.size], _, _, H1, rfl, I2, turn_enumS (s1.heap.objs.size + 1) s1.heap.objs.size x t, ⟨⟨.none, he⟩, hit, Nat.succ_ne_self _⟩, fun b hb => ?_, q⟩
      have e' : b = s1.heap.objs.size + 1 ∨ b = s1.heap.objs.size := by simpa using hb
      have hle : s1.heap.objs.size ≤ b := by
        rcases e' with z | z
        · rw [z]; exact Nat.le_add_right _ _
        · rw [z]; exact Nat.le_refl _
      exact I1.fpOk hle (I1.hok.fresh hle)
  · subst ex
    cases r1 with
    | cons r rr =>
      cases rr
      cases r
      obtain ⟨its, rv, p', hz⟩ := I1.list hq
      refine call_enumerate_list p'.isList fun h' he hit hsz hk => wpAny_pyIter_enum he ?_
      have I2 : Inv X pins σ H1 { s1 with heap := h' } := I1.kept (t' := s1.toks) hk
      refine ⟨s1.heap.objs.size + 1, [s1.heap.objs.size + 1, s1.heap.objs.size], _, _, H1, rfl, I2, turn_enum a (s1.heap.objs.size + 1) s1.heap.objs.size, ⟨⟨.none, he⟩, hit, Nat.succ_ne_self _⟩, fun b hb => ?_, q⟩
      have e' : b = s1.heap.objs.size + 1 ∨ b = s1.heap.objs.size := by simpa using hb
      have hle : s1.heap.objs.size ≤ b := by
        rcases e' with z | z
        · rw [z]; exact Nat.le_add_right _ _
        · rw [z]; exact Nat.le_refl _
      exact I1.fpOk hle (I1.hok.fresh hle)
end
end L2
namespace Ev
open PySem PySem.Spec PyProof.Rows L2
/-- the walk tells the items, as long as what must stay stays -/
structure WkOk (K : PySem.W.Frag) (N : Nms) (B : Addr → Prop) (ρ : Nat → Addr) (h : Hs) (H : Hp) (w : Wk) (J : It) : Prop where
  go : ∀ B' i d ρ' h' H', w.xs[i]? = some d → Sim K N B' ρ' h' H' → Vm (vw K B ρ h H) (vw K B' ρ' h' H') → stays w h' = true → J.go i H' ∧ ∀ x H'', J.yld i H' x H'' → Sim K N B' ρ' h' H'' ∧ Ext ρ' h' H' ρ' h' H'' ∧ Rep (vw K B' ρ' h' H'') d x ∧ ∀ a o, H' a = some o → H'' a = some o
  stop : ∀ B' ρ' h' H', Sim K N B' ρ' h' H' → Vm (vw K B ρ h H) (vw K B' ρ' h' H') → stays w h' = true → J.stop w.xs.length H'
section
variable {K : PySem.W.Frag} {N : Nms} {B : Addr → Prop} {ρ : Nat → Addr} {h : Hs} {H : Hp} {on : Option (Nat × O)}
theorem ext_stay {ρ' : Nat → Addr} {h' : Hs} {H' : Hp} : Ext ρ' h' H' ρ' h' H' := ⟨fun _ _ => rfl, Nat.le_refl _, fun _ _ e n => ⟨e, n⟩⟩
/-- a list that stands, its items -/
theorem wk_seq (J : It) (a : Addr) (P : Hp → List V → Prop) (ds : List D)
    (st : ∀ B' ρ' h' H', Sim K N B' ρ' h' H' → Vm (vw K B ρ h H) (vw K B' ρ' h' H') → stays ⟨ds, on⟩ h' = true → ∃ vs, P H' vs ∧ Reps (vw K B' ρ' h' H') ds vs)
    (go : ∀ i H xs x, P H xs → xs[i]? = some x → J.go i H ∧ ∀ y H', J.yld i H y H' → H' = H ∧ y = x) (stop : ∀ H xs, P H xs → J.stop xs.length H) : WkOk K N B ρ h H ⟨ds, on⟩ J := by
  refine ⟨fun B' i d ρ' h' H' e S E sy => ?_, fun B' ρ' h' H' S E sy => ?_⟩
  · obtain ⟨vs, hp, r⟩ := st B' ρ' h' H' S E sy
    obtain ⟨v, ev, rv⟩ := r.get e
    obtain ⟨g, y⟩ := go i H' vs v hp ev
    refine ⟨g, fun x H'' hy => ?_⟩
    obtain ⟨rfl, rfl⟩ := y x H'' hy
    exact ⟨S, ext_stay, rv, fun _ _ e => e⟩
  · obtain ⟨vs, hp, r⟩ := st B' ρ' h' H' S E sy
    have := stop H' vs hp
    rw [r.len] at this
    exact this
theorem wk_list {a : Addr} {ds : List D} (st : ∀ B' ρ' h' H', Sim K N B' ρ' h' H' → Vm (vw K B ρ h H) (vw K B' ρ' h' H') → stays ⟨ds, on⟩ h' = true → ∃ vs, SqL K H' a vs ∧ Reps (vw K B' ρ' h' H') ds vs) : WkOk K N B ρ h H ⟨ds, on⟩ (Itl K a) :=
  wk_seq (Itl K a) a (fun H xs => SqL K H a xs) ds st (fun i H xs x hp e => ⟨⟨xs, x, hp, e⟩, fun y H' hy => ⟨hy.1, by have := hy.2 xs hp; rw [e] at this; exact (Option.some.inj this).symm⟩⟩) fun H xs hp => ⟨xs, hp, Nat.le_refl _⟩
theorem wk_tup {a : Addr} {ds : List D} (st : ∀ B' ρ' h' H', Sim K N B' ρ' h' H' → Vm (vw K B ρ h H) (vw K B' ρ' h' H') → stays ⟨ds, on⟩ h' = true → ∃ vs, SqT K H' a vs ∧ Reps (vw K B' ρ' h' H') ds vs) : WkOk K N B ρ h H ⟨ds, on⟩ (Itt K a) :=
  wk_seq (Itt K a) a (fun H xs => SqT K H a xs) ds st (fun i H xs x hp e => ⟨⟨xs, x, hp, e⟩, fun y H' hy => ⟨hy.1, by have := hy.2 xs hp; rw [e] at this; exact (Option.some.inj this).symm⟩⟩) fun H xs hp => ⟨xs, hp, Nat.le_refl _⟩
theorem wk_text (a : List Nat) : WkOk K N B ρ h H ⟨a.map fun c => .str [c], on⟩ (Its (toS a)) := by
  refine ⟨fun B' i d ρ' h' H' e S E sy => ?_, fun B' ρ' h' H' S E sy => ?_⟩
  · rw [List.getElem?_map] at e
    obtain ⟨c, ec, rfl⟩ := Option.map_eq_some_iff.mp e
    have hl : i < a.length := (List.getElem?_eq_some_iff.mp ec).1
    refine ⟨by show i < (toS a).cps.size; simpa [toS] using hl, fun x H'' hy => ?_⟩
    obtain ⟨rfl, c2, e2, rfl⟩ := hy
    have e3 : a[i]? = some c2 := by simpa [toS] using e2
    rw [ec] at e3
    cases e3
    exact ⟨S, ext_stay, rfl, fun _ _ e => e⟩
  · show (toS a).cps.size ≤ _
    simp [toS]
theorem wk_range (lo : Int) (n : Nat) : WkOk K N B ρ h H ⟨range lo n, on⟩ (Itr lo n) := by
  refine ⟨fun B' i d ρ' h' H' e S E sy => ?_, fun B' ρ' h' H' S E sy => ?_⟩
  · unfold range at e
    rw [List.getElem?_map] at e
    obtain ⟨c, ec, rfl⟩ := Option.map_eq_some_iff.mp e
    obtain ⟨hl, e2⟩ := List.getElem?_eq_some_iff.mp ec
    rw [List.length_range] at hl
    rw [List.getElem_range] at e2
    subst e2
    refine ⟨hl, fun x H'' hy => ?_⟩
    obtain ⟨rfl, rfl⟩ := hy
    exact ⟨S, ext_stay, rfl, fun _ _ e => e⟩
  · show n ≤ _
    unfold range
    simp
theorem enums_get : ∀ (xs : List D) (k i : Nat), (enums k xs)[i]? = (xs[i]?).map fun x => .tup [.int ((k + i : Nat) : Int), x]
  | [], _, _ => by simp [enums]
  | x :: r, k, 0 => by simp [enums]
  | x :: r, k, i + 1 => by
    unfold enums
    rw [List.getElem?_cons_succ, enums_get r (k + 1) i, List.getElem?_cons_succ]
    have : k + 1 + i = k + (i + 1) := by omega
    rw [this]
theorem enums_len : ∀ (xs : List D) (k : Nat), (enums k xs).length = xs.length
  | [], _ => rfl
  | x :: r, k => by
    unfold enums
    rw [List.length_cons, List.length_cons, enums_len]
theorem zips_get : ∀ (xs ys : List D) (i : Nat) (d : D), (zips xs ys)[i]? = some d → ∃ x y, xs[i]? = some x ∧ ys[i]? = some y ∧ d = .tup [x, y]
  | [], _, _, _, e => by simp [zips] at e
  | _ :: _, [], _, _, e => by simp [zips] at e
  | x :: xs, y :: ys, 0, d, e => by
    have : D.tup [x, y] = d := by simpa [zips] using e
    exact ⟨x, y, rfl, rfl, this.symm⟩
  | x :: xs, y :: ys, i + 1, d, e => by
    have e2 : (zips xs ys)[i]? = some d := by simpa [zips] using e
    obtain ⟨a, b, h1, h2, h3⟩ := zips_get xs ys i d e2
    exact ⟨a, b, by simpa using h1, by simpa using h2, h3⟩
theorem zips_len : ∀ (xs ys : List D), (zips xs ys).length = min xs.length ys.length
  | [], _ => by simp [zips]
  | _ :: _, [] => by simp [zips]
  | x :: xs, y :: ys => by
    unfold zips
    rw [List.length_cons, zips_len, List.length_cons, List.length_cons]
    omega
/-- a new pair -/
theorem pair_new {B' : Addr → Prop} {ρ' : Nat → Addr} {h' : Hs} {H' : Hp} {T : Addr} {d1 d2 : D} {v1 v2 : V} (S : Sim K N B' ρ' h' H') (hT : H' T = none) (r1 : Rep (vw K B' ρ' h' H') d1 v1) (r2 : Rep (vw K B' ρ' h' H') d2 v2) :
    Sim K N B' ρ' h' (upd H' T (.tup [v1, v2])) ∧ Ext ρ' h' H' ρ' h' (upd H' T (.tup [v1, v2])) ∧ Rep (vw K B' ρ' h' (upd H' T (.tup [v1, v2]))) (.tup [d1, d2]) (.ref T) ∧ ∀ a o, H' a = some o → upd H' T (.tup [v1, v2]) a = some o :=
  ⟨S.new hT, ext_new S hT, ⟨T, [v1, v2], rfl, fzT_new S hT, (Reps.cons r1 (.one r2)).ext (ext_new S hT) _ _⟩, fun a o e => by rw [upd_ne (ne_of_none e hT)]; exact e⟩
theorem wk_enumS (a : List Nat) : WkOk K N B ρ h H ⟨enums 0 (a.map fun c => .str [c]), on⟩ (Ites (toS a)) := by
  refine ⟨fun B' i d ρ' h' H' e S E sy => ?_, fun B' ρ' h' H' S E sy => ?_⟩
  · rw [enums_get, List.getElem?_map] at e
    obtain ⟨x, ex, rfl⟩ := Option.map_eq_some_iff.mp e
    obtain ⟨c, ec, rfl⟩ := Option.map_eq_some_iff.mp ex
    have hl : i < a.length := (List.getElem?_eq_some_iff.mp ec).1
    refine ⟨by show i < (toS a).cps.size; simpa [toS] using hl, fun x H'' hy => ?_⟩
    obtain ⟨T, c2, rfl, hT, rfl, e2⟩ := hy
    have e3 : a[i]? = some c2 := by simpa [toS] using e2
    rw [ec] at e3
    cases e3
    exact pair_new S hT (by rw [Nat.zero_add]; rfl) rfl
  · show _ = (toS a).cps.size
    rw [enums_len]
    simp [toS]
theorem wk_enumL {a : Addr} {ds : List D} (st : ∀ B' ρ' h' H', Sim K N B' ρ' h' H' → Vm (vw K B ρ h H) (vw K B' ρ' h' H') → stays ⟨enums 0 ds, on⟩ h' = true → ∃ vs, SqL K H' a vs ∧ Reps (vw K B' ρ' h' H') ds vs) : WkOk K N B ρ h H ⟨enums 0 ds, on⟩ (Ite K a) := by
  refine ⟨fun B' i d ρ' h' H' e S E sy => ?_, fun B' ρ' h' H' S E sy => ?_⟩
  · rw [enums_get] at e
    obtain ⟨x, ex, rfl⟩ := Option.map_eq_some_iff.mp e
    obtain ⟨vs, hp, r⟩ := st B' ρ' h' H' S E sy
    obtain ⟨v, ev, rv⟩ := r.get ex
    refine ⟨⟨vs, v, hp, ev⟩, fun x H'' hy => ?_⟩
    obtain ⟨T, y, rfl, hT, rfl, e2⟩ := hy
    have e3 := e2 vs hp
    rw [ev] at e3
    cases e3
    exact pair_new S hT (by rw [Nat.zero_add]; rfl) rv
  · obtain ⟨vs, hp, r⟩ := st B' ρ' h' H' S E sy
    refine ⟨vs, hp, ?_⟩
    rw [enums_len, r.len]
    exact Nat.le_refl _
theorem wk_zipS (z : List Nat) {a : Addr} {ds : List D} (st : ∀ B' ρ' h' H', Sim K N B' ρ' h' H' → Vm (vw K B ρ h H) (vw K B' ρ' h' H') → ∃ vs, SqT K H' a vs ∧ Reps (vw K B' ρ' h' H') ds vs) : WkOk K N B ρ h H ⟨zips (z.map fun c => .str [c]) ds, on⟩ (Itzs K (toS z) a) := by
  refine ⟨fun B' i d ρ' h' H' e S E sy => ?_, fun B' ρ' h' H' S E sy => ?_⟩
  · obtain ⟨x, y, ex, ey, rfl⟩ := zips_get _ _ _ _ e
    rw [List.getElem?_map] at ex
    obtain ⟨c, ec, rfl⟩ := Option.map_eq_some_iff.mp ex
    have hl : i < z.length := (List.getElem?_eq_some_iff.mp ec).1
    obtain ⟨vs, hp, r⟩ := st B' ρ' h' H' S E
    obtain ⟨v, ev, rv⟩ := r.get ey
    refine ⟨⟨by show i < (toS z).cps.size; simpa [toS] using hl, vs, v, hp, ev⟩, fun x H'' hy => ?_⟩
    obtain ⟨T, c2, y2, rfl, hT, rfl, e2, e3⟩ := hy
    have e2 : z[i]? = some c2 := by simpa [toS] using e2
    have e3 := e3 vs hp
    rw [ev] at e3
    rw [ec] at e2
    cases e3
    cases e2
    exact pair_new S hT rfl rv
  · obtain ⟨vs, hp, r⟩ := st B' ρ' h' H' S E
    refine ⟨vs, hp, ?_⟩
    show _ = min (toS z).cps.size _
    rw [zips_len, r.len]
    simp [toS]
end

def wPI (X : Cx) (tg iter : Expr) : TI := fun σ H R => ∀ pins s, Inv X pins σ H s → wpAny (model X.prog X.w) X.A (eval iter X.env) (fun v s1 => wpAny (model X.prog X.w) X.A (pyIter v) (PIE X pins σ tg R) X.xe s1) X.xe s
theorem pi_w {X : Cx} {tg iter : Expr} : PI X tg iter (wPI X tg iter) := ⟨fun pins s _ _ _ I h => h pins s I⟩
theorem wPI.of {X : Cx} {tg iter : Expr} {t : TI} {σ : L2.St} {H : Hp} {R : It → Hp → Prop} (p : PI X tg iter t) (q : t σ H R) : wPI X tg iter σ H R := fun pins s I => p.run pins s σ H R I q
/-- what is walked, with the small memory -/
def KW (K : PySem.W.Frag) (N : Nms) (B : Addr → Prop) (W : WX) (ρ : Nat → Addr) (h : Hs) (H : Hp) {β : Type} (f : Wk → Hs → R β) (k : β → Hs → (Nat → Addr) → Hp → Prop) : It → Hp → Prop := fun J H1 =>
  ∃ w h1 ρ1, Sim K N B ρ1 h1 H1 ∧ Ext ρ h H ρ1 h1 H1 ∧ WkOk K N B ρ1 h1 H1 w J ∧ Post K N B W ρ1 h1 H1 (f w h1) k
def SI (g : G) (X : Cx) (cl : Calls) (W : WX) (k : Ik) (a b : E) (tg iter : Expr) : Prop := ∀ (β : Type) B σ v ρ h H (f : Wk → Hs → R β) (c : β → Hs → (Nat → Addr) → Hp → Prop), RepV (vw X.K B ρ h H) v σ → Sim X.K g.N B ρ h H →
  Post X.K g.N B W ρ h H ((ev g.T cl a v h).bind fun x h => (ev g.T cl b v h).bind fun y h => (itv k x y h).bind f) c → wPI X tg iter σ H (KW X.K g.N B W ρ h H f c)
section
variable {g : G} {X : Cx} {cl : Calls} {W : WX} {e1 e2 : E} {a b tg : Expr} {pos : Pos}
/-- a list's or tuple's items stand where they stood -/
theorem seqw_ok {B : Addr → Prop} {ρ : Nat → Addr} {h : Hs} {H : Hp} {x : D} {u : V} {ds : List D} {on : Option (Nat × O)} (S : Sim X.K g.N B ρ h H) (ru : Rep (vw X.K B ρ h H) x u) (e : seqw x h = some (ds, on)) :
    (∃ z, x = .str z ∧ u = .str (toS z) ∧ ds = z.map (fun c => .str [c])) ∨
    (∃ a, u = .ref a ∧ (∃ vs, SqL X.K H a vs) ∧ ∀ {B' ρ' h' H'} (f : List D → List D), Sim X.K g.N B' ρ' h' H' → Vm (vw X.K B ρ h H) (vw X.K B' ρ' h' H') → stays ⟨f ds, on⟩ h' = true → ∃ vs, SqL X.K H' a vs ∧ Reps (vw X.K B' ρ' h' H') ds vs) ∨
    (∃ a, u = .ref a ∧ (∃ vs, SqT X.K H a vs) ∧ ∃ ts, x = .tup ts ∧ ∀ {B' ρ' h' H'} (f : List D → List D), Sim X.K g.N B' ρ' h' H' → Vm (vw X.K B ρ h H) (vw X.K B' ρ' h' H') → stays ⟨f ds, on⟩ h' = true → ∃ vs, SqT X.K H' a vs ∧ Reps (vw X.K B' ρ' h' H') ds vs) := by
  cases x with
  | str z =>
    cases e
    cases ru
    exact .inl ⟨z, rfl, rfl, rfl⟩
  | tup xs =>
    cases e
    obtain ⟨l, vs, rfl, f, r⟩ := ru
    refine .inr (.inr ⟨l, rfl, ⟨vs, f.sq⟩, _, rfl, fun fn S' E' sy => ⟨vs, (f.vm E').sq, r.vm E' _ _⟩⟩)
  | lst xs =>
    cases e
    obtain ⟨l, vs, rfl, f, r⟩ := ru
    refine .inr (.inl ⟨l, rfl, ⟨vs, .of f.1⟩, fun fn S' E' sy => ⟨vs, .of (E'.keep l _ f.1 f.2).1, r.vm E' _ _⟩⟩)
  | ref k =>
    obtain ⟨hk, rfl⟩ := ru
    have e' : (match h.o k with
      | some (.lst xs) => some (xs, some (k, O.lst xs))
      | _ => none) = some (ds, on) := e
    cases eo : h.o k with
    | none => rw [eo] at e'; cases e'
    | some o =>
      rw [eo] at e'
      cases o <;> first | (cases e'; done) | skip
      cases e'
      obtain ⟨vs0, he0, _⟩ := S.obj k _ eo
      refine .inr (.inl ⟨ρ k, rfl, ⟨vs0, .of he0⟩, fun {B' ρ' h' H'} fn S' E' sy => ?_⟩)
      have sy' : decide (h'.o k = some (.lst ds)) = true := sy
      obtain ⟨vs, he, r⟩ := S'.obj k _ (of_decide_eq_true sy')
      have e3 : ρ' k = ρ k := E'.rho k hk
      rw [← e3]
      exact ⟨vs, .of he, r⟩
  | non => cases e
  | bl _ => cases e
  | int _ => cases e
  | scr _ => cases e
theorem si_val (s1 : SE g X cl W e1 a) : SI g X cl W .val e1 (.lit .non) tg a := fun _ B σ v ρ h H f c r S p =>
  wPI.of (pi_val pe_w) ((s1.go r S (f := fun x h => (itv .val x .non h).bind f) p).mono fun u H1 ⟨x, h1, ρ1, S1, E1, ru, p1⟩ => by
    have p2 : Post X.K g.N B W ρ1 h1 H1 ((ofO ((seqw x h1).map fun p => (⟨p.1, p.2⟩ : Wk)) h1).bind f) c := p1
    cases es : seqw x h1 with
    | none => rw [es] at p2; exact False.elim p2
    | some q =>
      obtain ⟨ds, on⟩ := q
      rw [es] at p2
      have p3 : Post X.K g.N B W ρ1 h1 H1 (f ⟨ds, on⟩ h1) c := p2
      rcases seqw_ok S1 ru es with ⟨z, rfl, rfl, rfl⟩ | ⟨l, rfl, ex, st⟩ | ⟨l, rfl, ex, ts, ext, st⟩
      · exact .inl ⟨toS z, rfl, _, h1, ρ1, S1, E1, wk_text z, p3⟩
      · exact .inr (.inl ⟨l, rfl, ex, _, h1, ρ1, S1, E1, wk_list fun B' ρ' h' H' S' E' sy => st id S' E' sy, p3⟩)
      · exact .inr (.inr ⟨l, rfl, ex, _, h1, ρ1, S1, E1, wk_tup fun B' ρ' h' H' S' E' sy => st id S' E' sy, p3⟩))
theorem okRange_of {i : Int} (h : okRange i = true) : -(2 ^ 62) ≤ i ∧ i < 2 ^ 62 := of_decide_eq_true h
theorem si_rng1 (C : Facts X.prog X.w X.K X.mg X.base g) {p2 : Pos} (hg : Gl X "range") (hp : plainE a = true) (s1 : SE g X cl W e1 a) : SI g X cl W .rng1 e1 (.lit .non) tg (.Call (.Name "range" p2) [a] [] pos) := fun _ B σ v ρ h H f c r S p =>
  wPI.of (pi_range1 hg (C.blt "range" (by simp [bltNames])) (pa_cons pe_w pa_nil (star_plain hp)) (star_plain hp)) ((s1.go r S (f := fun x h => (itv .rng1 x .non h).bind f) p).mono fun u H1 ⟨x, h1, ρ1, S1, E1, ru, p1⟩ => by
    cases x <;> first | exact False.elim p1 | skip
    rename_i j
    cases ru
    have p2 : Post X.K g.N B W ρ1 h1 H1 ((okIf (okRange j) (⟨range 0 j.toNat, none⟩ : Wk) h1).bind f) c := p1
    cases ec : okRange j with
    | false => rw [ec] at p2; exact False.elim p2
    | true =>
      rw [ec] at p2
      obtain ⟨c1, c2⟩ := okRange_of ec
      exact ⟨j, rfl, c1, c2, _, h1, ρ1, S1, E1, wk_range 0 _, p2⟩)
theorem si_rng2 (C : Facts X.prog X.w X.K X.mg X.base g) {p2 : Pos} (hg : Gl X "range") (hp : plainE a = true) (hp2 : plainE b = true) (s1 : SE g X cl W e1 a) (s2 : SE g X cl W e2 b) : SI g X cl W .rng2 e1 e2 tg (.Call (.Name "range" p2) [a, b] [] pos) := fun _ B σ v ρ h H f c r S p =>
  wPI.of (pi_range2 hg (C.blt "range" (by simp [bltNames])) (pa_cons pe_w (pa_cons pe_w pa_nil (star_plain hp2)) (star_plain hp)) (by rw [star_plain hp, star_plain hp2]; rfl) (star_plain hp2)) (s1.go2 s2 r S (f := fun x y h => (itv .rng2 x y h).bind f) p fun x y h1 ρ1 H1 u w S1 E1 ru rw' p1 => by
    cases x <;> first | exact False.elim p1 | skip
    rename_i i
    cases y <;> first | exact False.elim p1 | skip
    rename_i j
    cases ru
    cases rw'
    have p2 : Post X.K g.N B W ρ1 h1 H1 ((okIf (okRange i && okRange j) (⟨range i (j - i).toNat, none⟩ : Wk) h1).bind f) c := p1
    cases ec : (okRange i && okRange j) with
    | false => rw [ec] at p2; exact False.elim p2
    | true =>
      rw [ec] at p2
      rw [Bool.and_eq_true] at ec
      obtain ⟨c1, c2⟩ := okRange_of ec.1
      obtain ⟨c3, c4⟩ := okRange_of ec.2
      exact ⟨i, j, rfl, ⟨c1, c2, c3, c4⟩, _, h1, ρ1, S1, E1, wk_range i _, p2⟩)
theorem si_enm (C : Facts X.prog X.w X.K X.mg X.base g) {p2 tpos : Pos} {elts : List Expr} {kk : Nat} (hg : Gl X "enumerate") (hp : plainE a = true) (s1 : SE g X cl W e1 a) : SI g X cl W .enm e1 (.lit .non) (.Tuple elts kk tpos) (.Call (.Name "enumerate" p2) [a] [] pos) := fun _ B σ v ρ h H f c r S p =>
  wPI.of (pi_enm hg (C.blt "enumerate" (by simp [bltNames])) (pa_cons pe_w pa_nil (star_plain hp)) (star_plain hp)) ((s1.go r S (f := fun x h => (itv .enm x .non h).bind f) p).mono fun u H1 ⟨x, h1, ρ1, S1, E1, ru, p1⟩ => by
    have nt : ∀ ts, x ≠ .tup ts := fun ts e => by
      subst e
      exact p1
    have p2 : Post X.K g.N B W ρ1 h1 H1 ((ofO ((seqw x h1).map fun p => (⟨enums 0 p.1, p.2⟩ : Wk)) h1).bind f) c := by
      cases x <;> first | exact p1 | exact absurd rfl (nt _)
    cases es : seqw x h1 with
    | none => rw [es] at p2; exact False.elim p2
    | some q =>
      obtain ⟨ds, on⟩ := q
      rw [es] at p2
      have p3 : Post X.K g.N B W ρ1 h1 H1 (f ⟨enums 0 ds, on⟩ h1) c := p2
      rcases seqw_ok S1 ru es with ⟨z, rfl, rfl, rfl⟩ | ⟨l, rfl, ⟨vs, ex⟩, st⟩ | ⟨l, eu, ex, ts, ext, st⟩
      · exact .inl ⟨toS z, rfl, _, h1, ρ1, S1, E1, wk_enumS z, p3⟩
      · exact .inr ⟨l, vs, rfl, ex, _, h1, ρ1, S1, E1, wk_enumL fun B' ρ' h' H' S' E' sy => st (enums 0) S' E' sy, p3⟩
      · exact absurd ext (nt ts))
theorem si_zip (C : Facts X.prog X.w X.K X.mg X.base g) {p2 tpos : Pos} {elts : List Expr} {kk : Nat} (hg : Gl X "zip") (hp : plainE a = true) (hp2 : plainE b = true) (s1 : SE g X cl W e1 a) (s2 : SE g X cl W e2 b) :
    SI g X cl W .zip e1 e2 (.Tuple elts kk tpos) (.Call (.Name "zip" p2) [a, b] [] pos) := fun _ B σ v ρ h H f c r S p =>
  wPI.of (pi_zipS hg (C.blt "zip" (by simp [bltNames])) (pa_cons pe_w (pa_cons pe_w pa_nil (star_plain hp2)) (star_plain hp)) (star_plain hp) (any_plain (by rw [List.all_cons, hp2]; rfl))) (s1.go2 s2 r S (f := fun x y h => (itv .zip x y h).bind f) p fun x y h1 ρ1 H1 u w S1 E1 ru rw' p1 => by
    cases x <;> first | exact False.elim p1 | skip
    rename_i z
    cases y <;> first | exact False.elim p1 | skip
    rename_i ds
    cases ru
    obtain ⟨l, vs, rfl, fz, rv⟩ := rw'
    have p2 : Post X.K g.N B W ρ1 h1 H1 (f ⟨zips (z.map fun c => .str [c]) ds, none⟩ h1) c := p1
    exact ⟨toS z, l, vs, rfl, fz.sq, _, h1, ρ1, S1, E1, wk_zipS z fun B' ρ' h' H' S' E' => ⟨vs, (fz.vm E').sq, rv.vm E' _ _⟩, p2⟩)
end
end Ev

/-! part EvLc -/
set_option maxRecDepth 100000
set_option maxHeartbeats 4000000
/-! Targets; list comprehensions. -/
namespace Ev
open PySem PySem.Spec PyProof.Rows L2

/-! ### targets -/
def Tg.slots : Tg → List Nat
  | .nm i => [i]
  | .tp is => is
/-- as RepV, but for some slots -/
def RepX (ex : List Nat) (w : Vw) (v : Env) (σ : L2.St) : Prop := v.length = σ.length ∧ ∀ (j : Nat) d, j ∉ ex → v[j]? = some (some d) → ∃ u, σ[j]? = some (some u) ∧ Rep w d u
theorem RepV.x {w : Vw} {v : Env} {σ : L2.St} (ex : List Nat) (r : RepV w v σ) : RepX ex w v σ := ⟨r.1, fun j d _ e => r.2 j d e⟩
theorem RepX.nil {w : Vw} {v : Env} {σ : L2.St} (r : RepX [] w v σ) : RepV w v σ := ⟨r.1, fun j d e => r.2 j d (by simp) e⟩
theorem RepX.set {w : Vw} {v : Env} {σ : L2.St} {d : D} {u : V} {i : Nat} {is : List Nat} (r : RepX (i :: is) w v σ) (rd : Rep w d u) : RepX is w (v.set i (some d)) (σ.set i (some u)) := by
  refine ⟨by rw [List.length_set, List.length_set]; exact r.1, fun j e hj q => ?_⟩
  by_cases hi : i = j
  · subst hi
    by_cases hl : i < v.length
    · rw [List.getElem?_set_self hl] at q
      cases q
      exact ⟨u, by rw [List.getElem?_set_self (by rw [← r.1]; exact hl)], rd⟩
    · rw [List.getElem?_eq_none (by rw [List.length_set]; omega)] at q
      cases q
  · rw [List.getElem?_set_ne hi] at q ⊢
    exact r.2 j e (by simp only [List.mem_cons, not_or]; exact ⟨fun z => hi z.symm, hj⟩) q
theorem wipe_get {σ : L2.St} {j : Nat} : ∀ {vs : List Nat}, (wipe σ vs)[j]? = if j ∈ vs then (σ[j]?).map (fun _ => none) else σ[j]?
  | [] => by simp [wipe]
  | v :: vs => by
    have ih := @wipe_get σ j vs
    unfold wipe
    by_cases hv : v = j
    · subst hv
      by_cases hl : v < (wipe σ vs).length
      · rw [List.getElem?_set_self hl]
        rw [wipe_length] at hl
        simp [List.getElem?_eq_getElem hl]
      · rw [List.getElem?_eq_none (by rw [List.length_set]; omega)]
        rw [wipe_length] at hl
        simp [List.getElem?_eq_none (show σ.length ≤ v by omega)]
    · rw [List.getElem?_set_ne hv, ih]
      have : (j ∈ v :: vs) ↔ j ∈ vs := by
        rw [List.mem_cons]
        exact ⟨fun h => h.elim (fun z => absurd z.symm hv) id, .inr⟩
      simp only [this]
theorem wipe_ext {σ τ : L2.St} {vs : List Nat} (hl : σ.length = τ.length) (h : ∀ j, j ∉ vs → σ[j]? = τ[j]?) : wipe σ vs = wipe τ vs := by
  apply List.ext_getElem?
  intro j
  rw [wipe_get, wipe_get]
  by_cases hj : j ∈ vs
  · rw [if_pos hj, if_pos hj]
    by_cases hb : j < σ.length
    · rw [List.getElem?_eq_getElem hb, List.getElem?_eq_getElem (by rw [← hl]; exact hb)]
      rfl
    · rw [List.getElem?_eq_none (by omega), List.getElem?_eq_none (by omega)]
  · rw [if_neg hj, if_neg hj, h j hj]
def namesOf : List (Nat × Str × Pos) → List Expr := fun ps => ps.map fun p => .Name p.2.1 p.2.2
/-- a target's names stand in their slots and may be stored -/
structure NmOk (X : Cx) (i : Nat) (x : Str) : Prop where
  at_ : X.N[i]? = some x
  loc : Loc X.env.scope x
  fn : X.fn x = true ∨ X.env.scope.names.lookup x = some .local
inductive TgOk (X : Cx) : Tg → Expr → Prop where
  | nm {i : Nat} {x : Str} {p : Pos} (h : NmOk X i x) : TgOk X (.nm i) (.Name x p)
  | tp {ps : List (Nat × Str × Pos)} {k : Nat} {p : Pos} (h : ∀ q ∈ ps, NmOk X q.1 q.2.1) : TgOk X (.tp (ps.map (·.1))) (.Tuple (namesOf ps) k p)
def gAll : List Nat → TGs
  | [] => gNil
  | i :: r => gCons (gName i) (gAll r)
theorem pgs_all {X : Cx} (nd : X.N.Nodup) : ∀ (ps : List (Nat × Str × Pos)), (∀ q ∈ ps, NmOk X q.1 q.2.1) → PGs X (namesOf ps) (gAll (ps.map (·.1)))
  | [], _ => pgs_nil
  | (i, x, p) :: r, h => by
    have h1 := h (i, x, p) (by simp)
    exact pgs_cons (pg_name nd h1.at_ h1.loc h1.fn) (pgs_all nd r fun q hq => h q (List.mem_cons_of_mem _ hq))
theorem each_len {env : PySem.Env} : ∀ (ps : List (Nat × Str × Pos)), (assignEach (namesOf ps) env).length = ps.length ∧ (assignEach (namesOf ps) env).findIdx? (·.1) = none
  | [] => ⟨rfl, rfl⟩
  | (i, x, p) :: r => by
    have ih := each_len (env := env) r
    have e : assignEach (namesOf ((i, x, p) :: r)) env = (false, assign (.Name x p) env) :: assignEach (namesOf r) env := rfl
    rw [e]
    refine ⟨by rw [List.length_cons, ih.1]; rfl, ?_⟩
    rw [List.findIdx?_cons, ih.2]
    rfl
section
variable {K : PySem.W.Frag} {B : Addr → Prop} {ρ : Nat → Addr} {h : Hs} {H : Hp}
theorem gAll_ok {w : Vw} : ∀ (is : List Nat) (xs : List D) (us : List V) (v : Env) (σ : L2.St) (Q : L2.St → Hp → Prop), xs.length = is.length → Reps w xs us → RepX is w v σ →
    (∀ σ', RepV w ((is.zip xs).foldl (fun v p => v.set p.1 (some p.2)) v) σ' → σ'.length = σ.length → (∀ j, j ∉ is → σ'[j]? = σ[j]?) → Q σ' H) → gAll is us σ H Q
  | [], [], us, v, σ, Q, _, rs, rv, q => by
    cases (show us = [] from rs)
    exact ⟨rfl, q σ rv.nil rfl fun _ _ => rfl⟩
  | i :: is, x :: xs, us, v, σ, Q, hl, rs, rv, q => by
    obtain ⟨u, t, rfl, ru, rt⟩ := rs
    refine ⟨u, t, rfl, ?_⟩
    refine gAll_ok is xs t (v.set i (some x)) (σ.set i (some u)) Q (by simpa using hl) rt (rv.set ru) fun σ' r1 r2 r3 => q σ' r1 (by rw [r2, List.length_set]) fun j hj => ?_
    rw [List.mem_cons, not_or] at hj
    rw [r3 j hj.2, List.getElem?_set_ne (fun z => hj.1 z.symm)]
  | [], _ :: _, _, _, _, _, hl, _, _, _ => by simp at hl
  | _ :: _, [], _, _, _, _, hl, _, _, _ => by simp at hl
theorem tgt_or (t : Tg) (d : D) (v : Env) (h : Hs) : tgt t d v h = .stk ∨ ∃ v', ∀ h', tgt t d v h' = .ok v' h' := by
  cases t with
  | nm i => exact .inr ⟨_, fun _ => rfl⟩
  | tp is =>
    cases d <;> first | exact .inl rfl | skip
    rename_i xs
    by_cases hl : xs.length = is.length
    · exact .inr ⟨_, fun h' => by unfold tgt okIf; simp only [hl, decide_true]; rfl⟩
    · exact .inl (by unfold tgt okIf; simp only [hl, decide_false])
theorem tg_ok {X : Cx} {t : Tg} {tg : Expr} {d : D} {u : V} {v v' : Env} {σ : L2.St} {Q : L2.St → Hp → Prop} (hc : X.calm = true) (nd : X.N.Nodup) (T : TgOk X t tg) (rd : Rep (vw X.K B ρ h H) d u) (rv : RepX t.slots (vw X.K B ρ h H) v σ)
    (p : tgt t d v h = .ok v' h) (q : ∀ σ', RepV (vw X.K B ρ h H) v' σ' → wipe σ' t.slots = wipe σ t.slots → Q σ' H) : wG X tg u σ H Q := by
  cases T with
  | nm hn =>
    cases p
    refine wG.of (pg_name nd hn.at_ hn.loc hn.fn) (q _ (RepX.set rv rd).nil (wipe_ext (by rw [List.length_set]) fun j hj => ?_))
    rw [List.getElem?_set_ne (by simpa [Tg.slots] using fun z : _ = _ => hj (by simp [Tg.slots, z]))]
  | @tp ps kk pp hn =>
    cases d <;> first | (cases p; done) | skip
    rename_i xs
    obtain ⟨a, vs, rfl, f1, r1⟩ := rd
    have p' : okIf (decide (xs.length = (ps.map (·.1)).length)) (((ps.map (·.1)).zip xs).foldl (fun v p => v.set p.1 (some p.2)) v) h = .ok v' h := p
    cases ec : decide (xs.length = (ps.map (·.1)).length) with
    | false => rw [ec] at p'; cases p'
    | true =>
      rw [ec] at p'
      cases p'
      have hl := of_decide_eq_true ec
      obtain ⟨e1, e2⟩ := each_len (env := X.env) ps
      refine wG.of (pg_tup hc (pgs_all nd ps hn) e1 e2) ⟨a, vs, rfl, f1.sq, by rw [r1.len, hl, List.length_map], ?_⟩
      exact gAll_ok _ xs vs v σ Q hl r1 rv fun σ' q1 q2 q3 => q σ' q1 (wipe_ext q2 q3)
end

theorem RepX.vm {w w' : Vw} (E : Vm w w') {ex : List Nat} {v : Env} {σ : L2.St} (r : RepX ex w v σ) : RepX ex w' v σ := ⟨r.1, fun j d hj e => let ⟨u, e1, r1⟩ := r.2 j d hj e; ⟨u, e1, r1.vm E⟩⟩

/-! ### blocks -/
section
variable {K : PySem.W.Frag} {N : Nms} {B : Addr → Prop} {ρ : Nat → Addr} {h : Hs} {H : Hp} {L : Addr}
/-- what is blocked, L with it -/
def Blk (B : Addr → Prop) (L : Addr) : Addr → Prop := fun a => B a ∨ a = L
theorem vm_unblk : Vm (vw K (Blk B L) ρ h H) (vw K B ρ h H) := ⟨rfl, Nat.le_refl _, fun _ _ => rfl, fun a o e n => ⟨e, fun l => n (Or.elim l .inl fun b => .inr (.inl b))⟩⟩
theorem Sim.unblk (S : Sim K N (Blk B L) ρ h H) : Sim K N B ρ h H :=
  ⟨S.wf, S.inj, fun k o e => (S.obj k o e).vm vm_unblk rfl, fun a b => S.blk a (.inl b), fun k o e b => S.dis k o e (.inl b)⟩
theorem vm_blk {x : HO} (hL : H L = none) : Vm (vw K B ρ h H) (vw K (Blk B L) ρ h (upd H L x)) := by
  refine ⟨rfl, Nat.le_refl _, fun _ _ => rfl, fun a o e n => ?_⟩
  have ne : a ≠ L := ne_of_none e hL
  exact ⟨by show upd H L x a = _; rw [upd_ne ne]; exact e, fun l => n (Or.elim l .inl fun b => Or.elim b .inr fun z => absurd z ne)⟩
theorem Sim.blk' {x : HO} (hL : H L = none) (S : Sim K N B ρ h H) : Sim K N (Blk B L) ρ h (upd H L x) := by
  refine ⟨S.wf, S.inj, fun k o e => ?_, fun a b => ?_, fun k o e b => ?_⟩
  · have r := S.obj k o e
    obtain ⟨z, hz⟩ := r.some
    exact r.vm (vm_blk hL) (upd_ne (ne_of_none hz hL))
  · rcases b with b | rfl
    · obtain ⟨o, e⟩ := S.blk a b
      exact ⟨o, by rw [upd_ne (ne_of_none e hL)]; exact e⟩
    · exact ⟨x, upd_same⟩
  · rcases b with b | b
    · exact S.dis k o e b
    · obtain ⟨z, hz⟩ := (S.obj k o e).some
      have hz : H (ρ k) = some z := hz
      rw [b, hL] at hz
      cases hz
theorem vm_in {x : HO} : Vm (vw K (Blk B L) ρ h H) (vw K (Blk B L) ρ h (upd H L x)) := by
  refine ⟨rfl, Nat.le_refl _, fun _ _ => rfl, fun a o e n => ?_⟩
  have ne : a ≠ L := fun z => n (.inr (.inr z))
  exact ⟨by show upd H L x a = _; rw [upd_ne ne]; exact e, n⟩
theorem Sim.inb {x : HO} (S : Sim K N (Blk B L) ρ h H) : Sim K N (Blk B L) ρ h (upd H L x) := by
  refine ⟨S.wf, S.inj, fun k o e => (S.obj k o e).vm vm_in (upd_ne fun z => S.dis k o e (.inr z)), fun a b => ?_, S.dis⟩
  by_cases ha : a = L
  · subst ha
    exact ⟨x, upd_same⟩
  · obtain ⟨o, e⟩ := S.blk a b
    exact ⟨o, by rw [upd_ne ha]; exact e⟩
/-- from a memory where L is free -/
theorem Ext.inb {ρ' : Nat → Addr} {h' : Hs} {H' : Hp} {x : HO} (hL : H L = none) (E : Ext ρ h H ρ' h' H') : Ext ρ h H ρ' h' (upd H' L x) :=
  ⟨E.rho, E.le, fun a o e n => let ⟨e1, n1⟩ := E.keep a o e n; ⟨by rw [upd_ne (ne_of_none e hL)]; exact e1, n1⟩⟩
theorem Post.bindN {α β : Type} {B' : Addr → Prop} {W W0 : WX} {ρ0 : Nat → Addr} {h0 : Hs} {H0 : Hp} {r : R α} {f : α → Hs → R β} {k : β → Hs → (Nat → Addr) → Hp → Prop} (p : Post K N B W ρ0 h0 H0 (r.bindN f) k) : Post K N B' W0 ρ h H r (fun a h1 ρ1 H1 => Post K N B W ρ0 h0 H0 (f a h1) k) := by
  cases r with
  | ok a h1 => exact fun ρ1 H1 S1 E1 => p
  | exc c h1 => exact False.elim p
  | stk => exact False.elim p
/-- an answer wanted in the block -/
theorem SE.goB {g : G} {X : Cx} {cl : Calls} {W W0 : WX} {ρ0 : Nat → Addr} {h0 : Hs} {H0 : Hp} {B' : Addr → Prop} {e : E} {a : Expr} {σ : L2.St} {v : Env} {β : Type} (s : SE g X cl W0 e a) (r : RepV (vw X.K B' ρ h H) v σ) (S : Sim X.K g.N B' ρ h H) {f : D → Hs → R β} {k : β → Hs → (Nat → Addr) → Hp → Prop}
    (p : Post X.K g.N B W ρ0 h0 H0 ((ev g.T cl e v h).bindN f) k) : wE X a σ H (fun u H1 => ∃ d h1 ρ1, Sim X.K g.N B' ρ1 h1 H1 ∧ Ext ρ h H ρ1 h1 H1 ∧ Rep (vw X.K B' ρ1 h1 H1) d u ∧ Post X.K g.N B W ρ0 h0 H0 (f d h1) k) :=
  s _ σ v ρ h H _ r S ((Post.bindN p).mono fun d h1 ρ1 H1 S1 E1 q u ru => ⟨d, h1, ρ1, S1, E1, ru, q⟩)
theorem ST.goB {g : G} {X : Cx} {cl : Calls} {W W0 : WX} {ρ0 : Nat → Addr} {h0 : Hs} {H0 : Hp} {B' : Addr → Prop} {e : E} {a : Expr} {σ : L2.St} {v : Env} {β : Type} (s : ST g X cl W0 e a) (r : RepV (vw X.K B' ρ h H) v σ) (S : Sim X.K g.N B' ρ h H) {f : Bool → Hs → R β} {k : β → Hs → (Nat → Addr) → Hp → Prop}
    (p : Post X.K g.N B W ρ0 h0 H0 ((ev g.T cl e v h).bindN fun x h => (truth x h).bindN f) k) : wT X a σ H (fun c H1 => ∃ h1 ρ1, Sim X.K g.N B' ρ1 h1 H1 ∧ Ext ρ h H ρ1 h1 H1 ∧ Post X.K g.N B W ρ0 h0 H0 (f c h1) k) := by
  refine s _ σ v ρ h H _ r S ?_
  have e : ((ev g.T cl e v h).bindN fun x h => (truth x h).bindN f) = ((ev g.T cl e v h).bind fun x h => truth x h).bindN f := by
    cases ev g.T cl e v h with
    | ok d h1 => rfl
    | exc _ _ => rfl
    | stk => rfl
  rw [e] at p
  exact (Post.bindN p).mono fun c h1 ρ1 H1 S1 E1 q => ⟨h1, ρ1, S1, E1, q⟩
end

/-! ### list comprehensions -/
def wPTs (X : Cx) (ifs : List Expr) : TT := fun σ H Q => ∀ pins s, Inv X pins σ H s →
    wpAny (model X.prog X.w) X.A (forIn ifs true fun c r => if r = true then do let ok ← isTrue c X.env (eval c X.env); pure (ForInStep.yield ok) else pure (ForInStep.yield r)) (TP X pins σ Q) X.xe s
section
variable {g : G} {X : Cx} {cl : Calls} {W : WX} {k : Ik} {e1 e2 ec ee : E} {t : Tg} {tg iter elt : Expr} {ifs : List Expr} {scope : Scope} {own : List (Str × Nat)} {pos : Pos}
theorem lc_ok {K : PySem.W.Frag} {N : Nms} {B : Addr → Prop} {ρ : Nat → Addr} {h : Hs} {H : Hp} {v : Env} {σ : L2.St} {w : Wk} {J : It} {L : Addr} {gg : TG} {tt : TT} {te : TE} {vs : List Nat} {Qd : Hp → Prop}
    {cc ce : Env → Hs → R D} {kk : List D → Hs → (Nat → Addr) → Hp → Prop} (S : Sim K N B ρ h H) (WK : WkOk K N B ρ h H w J) (rv : RepX vs (vw K B ρ h H) v σ) (hL : H L = none) (p : Post K N B W ρ h H (lcGo w v t cc ce w.xs [] h) kk)
    (fin : ∀ ys h' ρ' H' us, Sim K N (Blk B L) ρ' h' H' → Ext ρ h H ρ' h' H' → H' L = some (.lst us) → Reps (vw K (Blk B L) ρ' h' H') ys us → kk ys h' ρ' H' → Qd H')
    (turn : ∀ (x : V) (d : D) (r acc : List D) (us : List V) h' ρ' H' (Nx : Hp → Prop), Sim K N (Blk B L) ρ' h' H' → Ext ρ h H ρ' h' H' → Rep (vw K (Blk B L) ρ' h' H') d x → RepX vs (vw K (Blk B L) ρ' h' H') v (wipe σ vs) → H' L = some (.lst us) → Reps (vw K (Blk B L) ρ' h' H') acc us →
      Post K N B W ρ h H ((tgt t d v h').bindN fun v1 h => (cc v1 h).bindN fun b h => (truth b h).bindN fun b h => match b with
        | true => (ce v1 h).bindN fun y h => (match decide (acc.length < big) with
          | true => lcGo w v t cc ce r (acc ++ [y]) h
          | false => .stk)
        | false => lcGo w v t cc ce r acc h) kk →
      (∀ acc2 us2 h2 ρ2 H2, Sim K N (Blk B L) ρ2 h2 H2 → Ext ρ h H ρ2 h2 H2 → RepX vs (vw K (Blk B L) ρ2 h2 H2) v (wipe σ vs) → H2 L = some (.lst us2) → Reps (vw K (Blk B L) ρ2 h2 H2) acc2 us2 → Post K N B W ρ h H (lcGo w v t cc ce r acc2 h2) kk → Nx H2) →
      gg x (wipe σ vs) H' fun σ2 H2 => wipe σ2 vs = wipe σ vs ∧ tt σ2 H2 fun b H3 => if b = true then te σ2 H3 fun y H4 => ∃ acc, H4 L = some (.lst acc) ∧ acc.length < sizeLine ∧ Nx (upd H4 L (.lst (acc ++ [y]))) else Nx H3) :
    ∃ Wi : Nat → Nat → Hp → Prop, (∃ m, Wi 0 m (upd H L (.lst []))) ∧ ∀ i m H, Wi i m H →
      (J.stop i H ∧ Qd H) ∨ (J.go i H ∧ ∃ Nx : Hp → Prop, (∀ H', Nx H' → ∃ m', m' < m ∧ Wi (i + 1) m' H') ∧ ∀ x H', J.yld i H x H' → gg x (wipe σ vs) H' fun σ2 H2 => wipe σ2 vs = wipe σ vs ∧ tt σ2 H2 fun b H3 =>
        if b = true then te σ2 H3 fun y H4 => ∃ acc, H4 L = some (.lst acc) ∧ acc.length < sizeLine ∧ Nx (upd H4 L (.lst (acc ++ [y]))) else Nx H3) := by
  have wx : ∀ {w' : Vw}, RepX vs w' v σ → RepX vs w' v (wipe σ vs) := fun r => ⟨by rw [wipe_length]; exact r.1, fun j d hj e => by
    obtain ⟨u, e1, r1⟩ := r.2 j d hj e
    exact ⟨u, by rw [wipe_get, if_neg hj]; exact e1, r1⟩⟩
  refine ⟨fun i m H' => m = w.xs.length - i ∧ i ≤ w.xs.length ∧ ∃ ρ' h' acc us, Sim K N (Blk B L) ρ' h' H' ∧ Ext ρ h H ρ' h' H' ∧ RepX vs (vw K (Blk B L) ρ' h' H') v (wipe σ vs) ∧ H' L = some (.lst us) ∧ Reps (vw K (Blk B L) ρ' h' H') acc us ∧ Post K N B W ρ h H (lcGo w v t cc ce (w.xs.drop i) acc h') kk,
    ⟨w.xs.length, by simp, Nat.zero_le _, ρ, h, [], [], S.blk' hL, (Ext.refl).inb hL, wx (rv.vm (vm_blk hL)), upd_same, rfl, by rw [List.drop_zero]; exact p⟩, ?_⟩
  rintro i m H1 ⟨rfl, hi, ρ1, h1, acc, us, S1, E1, r1, l1, a1, p1⟩
  by_cases hlt : i < w.xs.length
  · have ed : w.xs.drop i = w.xs[i] :: w.xs.drop (i + 1) := List.drop_eq_getElem_cons hlt
    rw [ed] at p1
    have p2 : Post K N B W ρ h H (match stays w h1 with
      | true => (tgt t w.xs[i] v h1).bindN fun v1 h => (cc v1 h).bindN fun b h => (truth b h).bindN fun b h => match b with
        | true => (ce v1 h).bindN fun y h => (match decide (acc.length < big) with
          | true => lcGo w v t cc ce (w.xs.drop (i + 1)) (acc ++ [y]) h
          | false => .stk)
        | false => lcGo w v t cc ce (w.xs.drop (i + 1)) acc h
      | false => .stk) kk := p1
    cases es : stays w h1 with
    | false => rw [es] at p2; exact False.elim p2
    | true =>
      rw [es] at p2
      have vm0 : Vm (vw K B ρ h H) (vw K (Blk B L) ρ1 h1 H1) := ⟨rfl, E1.le, E1.rho, fun a o e n => by
        obtain ⟨e1, n1⟩ := E1.keep a o e fun l => n (.inl l)
        exact ⟨e1, fun l => Or.elim l n1 fun b => Or.elim b (fun b => n (.inr b)) fun z => by rw [z] at e; exact absurd (hL.symm.trans e) (by simp)⟩⟩
      obtain ⟨jg, jy⟩ := WK.go (Blk B L) i w.xs[i] ρ1 h1 H1 (List.getElem?_eq_getElem hlt) S1 vm0 es
      refine .inr ⟨jg, fun H2 => ∃ ρ2 h2 acc2 us2, Sim K N (Blk B L) ρ2 h2 H2 ∧ Ext ρ h H ρ2 h2 H2 ∧ RepX vs (vw K (Blk B L) ρ2 h2 H2) v (wipe σ vs) ∧ H2 L = some (.lst us2) ∧ Reps (vw K (Blk B L) ρ2 h2 H2) acc2 us2 ∧ Post K N B W ρ h H (lcGo w v t cc ce (w.xs.drop (i + 1)) acc2 h2) kk,
        fun H2 ⟨ρ2, h2, acc2, us2, q⟩ => ⟨w.xs.length - (i + 1), by omega, rfl, hlt, ρ2, h2, acc2, us2, q⟩, fun x H2 hy => ?_⟩
      obtain ⟨S2, E2, rx, kp⟩ := jy x H2 hy
      exact turn x w.xs[i] (w.xs.drop (i + 1)) acc us h1 ρ1 H2 _ S2 (E1.trans E2) rx (r1.vm E2.vm) (kp L _ l1) (a1.vm E2.vm _ _) p2 fun acc2 us2 h2 ρ2 H3 S3 E3 r3 l3 a3 p3 => ⟨ρ2, h2, acc2, us2, S3, E3, r3, l3, a3, p3⟩
  · have e : i = w.xs.length := by omega
    subst e
    rw [List.drop_length] at p1
    obtain ⟨es, p2⟩ := Post.okIf (show Post K N B W ρ h H (okIf (stays w h1) acc h1) kk from p1)
    exact .inl ⟨WK.stop B ρ1 h1 H1 S1.unblk E1.vm es, fin acc h1 ρ1 H1 us S1 E1 l1 a1 (p2 ρ1 H1 S1.unblk E1)⟩
/-- readings in all the contexts that a block may have -/
abbrev Bx (X : Cx) (scope : Scope) (s : Shared) (H : Hp) (C : Addr) (cs : List (Str × Addr)) (fp : List Addr) : Cx := X.blk s H scope (compEnvC scope cs C X.env) fp
def bG (X : Cx) (scope : Scope) (tg : Expr) : TG := fun v σ H Q => ∀ s H0 C cs fp, wG (Bx X scope s H0 C cs fp) tg v σ H Q
def bE (X : Cx) (scope : Scope) (e : Expr) : TE := fun σ H Q => ∀ s H0 C cs fp, wE (Bx X scope s H0 C cs fp) e σ H Q
def bT (X : Cx) (scope : Scope) : List Expr → TT
  | [] => tYes
  | [c] => fun σ H Q => ∀ s H0 C cs fp, wT (Bx X scope s H0 C cs fp) c σ H Q
  | _ => fun _ _ _ => False
theorem bT_ok {X : Cx} {scope : Scope} : ∀ (ifs : List Expr) (s : Shared) (H0 : Hp) (C : Addr) (cs : List (Str × Addr)) (fp : List Addr), PTs (Bx X scope s H0 C cs fp) ifs (bT X scope ifs)
  | [], _, _, _, _, _ => pts_nil
  | [c], s, H0, C, cs, fp => pts_one ⟨fun pins s1 σ H Q I q => q s H0 C cs fp pins s1 I⟩
  | _ :: _ :: _, _, _, _, _, _ => ⟨fun _ _ _ _ _ _ q => False.elim q⟩
/-- the test's judgement in the blocks -/
inductive IfOk (g : G) (X : Cx) (cl : Calls) (scope : Scope) : E → List Expr → Prop where
  | no : IfOk g X cl scope (.lit (.bl true)) []
  | one {ec : E} {c : Expr} (t : ∀ s H0 C cs fp, ST g (Bx X scope s H0 C cs fp) cl (fun _ _ _ _ => False) ec c) : IfOk g X cl scope ec [c]
theorem live_no {K : PySem.W.Frag} {N : Nms} {B : Addr → Prop} {ρ : Nat → Addr} {h : Hs} {H : Hp} {L : Addr} (S : Sim K N (Blk B L) ρ h H) : ¬ Live ρ h L := fun ⟨k, o, e, z⟩ => S.dis k o e (.inr z)
theorem lc_read (hc : X.calm = true) (nd : X.N.Nodup) (si : SI g X cl W k e1 e2 tg iter) (ok : BlkOk X.N X.env.scope scope own) (ho : own.map (·.2) = t.slots) (ht : ∀ s H0 C cs fp, TgOk (Bx X scope s H0 C cs fp) t tg)
    (hi : IfOk g X cl scope ec ifs) (he : ∀ s H0 C cs fp, SE g (Bx X scope s H0 C cs fp) cl (fun _ _ _ _ => False) ee elt) {B : Addr → Prop} {σ : L2.St} {v : Env} {ρ : Nat → Addr} {h : Hs} {H : Hp} {Q : VK} (r : RepV (vw X.K B ρ h H) v σ) (S : Sim X.K g.N B ρ h H)
    (p : Post X.K g.N B W ρ h H ((ev g.T cl e1 v h).bind fun x h => (ev g.T cl e2 v h).bind fun y h => (itv k x y h).bind fun w h => lcGo w v t (ev g.T cl ec) (ev g.T cl ee) w.xs [] h)
      (fun ys h' ρ' H' => ∀ L us, H' L = some (.lst us) → Sim X.K g.N (Blk B L) ρ' h' H' → Reps (vw X.K (Blk B L) ρ' h' H') ys us → ¬ B L → (¬ Live ρ h L → H L = none) → Q (.ref L) H')) :
    tLc (wPI X tg iter) (bG X scope tg) (bT X scope ifs) (bE X scope elt) (own.map (·.2)) σ H Q := by
  have q := si (List D) B σ v ρ h H _ _ r S p
  refine fun pins s I => thn (q pins s I) fun v1 s1 h1 => thn h1 fun itv s2 ⟨it, fp, tn, J, H', e, I2, T, st, fo, w, h2, ρ2, S2, E2, wk, p2⟩ => ⟨it, fp, tn, J, H', e, I2, T, st, fo, fun L hL => ?_⟩
  have hL0 : ¬ Live ρ h L → H L = none := fun hl => by
    cases eL : H L with
    | none => rfl
    | some o =>
      have := (E2.keep L o eL hl).1
      rw [hL] at this
      cases this
  rw [ho]
  refine lc_ok (W := W) S2 wk ((r.ext E2).x _) hL p2 (fun ys h' ρ' H' us S3 E3 l3 a3 q3 => q3 L us l3 S3 a3 ?_ hL0) ?_
  · intro b
    obtain ⟨o, e⟩ := S2.blk L b
    rw [hL] at e
    cases e
  · intro x d rr acc us h' ρ' H3 Nx S3 E3 rx r3 l3 a3 p3 nx
    intro s0 H0 C cs fp0
    rcases tgt_or t d v h' with e3 | ⟨v', e3⟩
    · rw [e3] at p3
      exact False.elim p3
    · rw [e3 h'] at p3
      refine tg_ok (X := Bx X scope s0 H0 C cs fp0) hc nd (ht s0 H0 C cs fp0) rx r3 (e3 h') fun σ' rv' hw => ⟨hw.trans (wipe_ext (by rw [wipe_length]) fun j hj => by rw [wipe_get, if_neg hj]), ?_⟩
      have p4 : Post X.K g.N B W ρ2 h2 H' ((ev g.T cl ec v' h').bindN fun b h => (truth b h).bindN fun b h => match b with
        | true => (ev g.T cl ee v' h).bindN fun y h => (match decide (acc.length < big) with
          | true => lcGo w v t (ev g.T cl ec) (ev g.T cl ee) rr (acc ++ [y]) h
          | false => .stk)
        | false => lcGo w v t (ev g.T cl ec) (ev g.T cl ee) rr acc h) _ := p3
      -- what the item's part asks
      have item : ∀ h4 ρ4 H4, Sim X.K g.N (Blk B L) ρ4 h4 H4 → Ext ρ' h' H3 ρ4 h4 H4 → Post X.K g.N B W ρ2 h2 H' ((ev g.T cl ee v' h4).bindN fun y h => (match decide (acc.length < big) with
          | true => lcGo w v t (ev g.T cl ec) (ev g.T cl ee) rr (acc ++ [y]) h
          | false => .stk)) (fun ys h' ρ' H' => ∀ L us, H' L = some (.lst us) → Sim X.K g.N (Blk B L) ρ' h' H' → Reps (vw X.K (Blk B L) ρ' h' H') ys us → ¬ B L → (¬ Live ρ h L → H L = none) → Q (.ref L) H') →
          bE X scope elt σ' H4 fun y H4 => ∃ acc, H4 L = some (.lst acc) ∧ acc.length < sizeLine ∧ Nx (upd H4 L (.lst (acc ++ [y]))) := by
        intro h4 ρ4 H4 S4 E4 p5 s1 H1 C1 cs1 fp1
        refine ((he s1 H1 C1 cs1 fp1).goB (rv'.ext E4) S4 p5).mono fun y H5 ⟨dy, h5, ρ5, S5, E5, ry, p6⟩ => ?_
        have l5 : H5 L = some (.lst us) := (E5.keep L _ (E4.keep L _ l3 (live_no S3)).1 (live_no S4)).1
        cases eb : decide (acc.length < big) with
        | false =>
          dsimp only at p6
          rw [eb] at p6
          exact False.elim p6
        | true =>
          dsimp only at p6
          rw [eb] at p6
          refine ⟨us, l5, by rw [a3.len, ← big_eq]; exact of_decide_eq_true eb, ?_⟩
          have vmx := (E4.trans E5).vm (K := X.K) (B := Blk B L)
          exact nx (acc ++ [dy]) (us ++ [y]) h5 ρ5 _ S5.inb (((E3.trans E4).trans E5).inb hL) ((r3.vm vmx).vm vm_in) upd_same (((a3.vm vmx _ _).app (.one ry)).vm vm_in _ _) p6
      cases hi with
      | no =>
        have hT : bT X scope [] = tYes := rfl
        rw [hT]
        unfold tYes
        dsimp only
        rw [if_pos rfl]
        exact item h' ρ' H3 S3 .refl p4
      | one tc =>
        intro s1 H1 C1 cs1 fp1
        refine ((tc s1 H1 C1 cs1 fp1).goB rv' S3 p4).mono fun b H4 ⟨h4, ρ4, S4, E4, p5⟩ => ?_
        cases b with
        | true =>
          rw [if_pos rfl]
          exact item h4 ρ4 H4 S4 E4 p5
        | false =>
          rw [if_neg Bool.false_ne_true]
          exact nx acc us h4 ρ4 H4 S4 (E3.trans E4) (r3.vm (E4.vm (B := Blk B L))) (E4.keep L _ l3 (live_no S3)).1 (a3.vm (E4.vm (B := Blk B L)) _ _) p5
theorem R.bind_assoc {α β γ : Type} (x : R α) (f : α → Hs → R β) (q : β → Hs → R γ) : (x.bind f).bind q = x.bind fun a h => (f a h).bind q := by cases x <;> rfl
theorem Post.bind1 {α β : Type} {K : PySem.W.Frag} {N : Nms} {B : Addr → Prop} {ρ : Nat → Addr} {h : Hs} {H : Hp} {r : R α} {f : α → Hs → R β} {c : β → Hs → (Nat → Addr) → Hp → Prop} (p : Post K N B W ρ h H (r.bind f) c) : Post K N B W ρ h H r (fun a h1 ρ1 H1 => Post K N B W ρ h H (f a h1) c) := by
  cases r with
  | ok a h1 => exact fun ρ1 H1 S1 E1 => p
  | exc c h1 => exact p
  | stk => exact p
def lcR (g : G) (cl : Calls) (t : Tg) (k : Ik) (e1 e2 ec ee : E) (v : Env) (h : Hs) : R (List D) := (ev g.T cl e1 v h).bind fun x h => (ev g.T cl e2 v h).bind fun y h => (itv k x y h).bind fun w h => lcGo w v t (ev g.T cl ec) (ev g.T cl ee) w.xs [] h
theorem ev_lc (hk : k ≠ .keys) {v : Env} {h : Hs} : ev g.T cl (.lc t k e1 e2 ec ee) v h = (lcR g cl t k e1 e2 ec ee v h).bind fun ys h => .ok (.lst ys) h := by
  have e : ∀ w h, unl k w h = h := fun w h => by cases k <;> first | rfl | exact absurd rfl hk
  unfold lcR
  rw [R.bind_assoc]
  simp only [R.bind_assoc]
  rw [ev]
  simp only [e]
theorem lc_lst {K : PySem.W.Frag} {N : Nms} {B : Addr → Prop} {ρ : Nat → Addr} {h : Hs} {H : Hp} {Q : VK} {r : R (List D)} (p : Post K N B W ρ h H (r.bind fun ys h => .ok (.lst ys) h) (kV' K B Q)) :
    Post K N B W ρ h H r (fun ys h' ρ' H' => ∀ L us, H' L = some (.lst us) → Sim K N (Blk B L) ρ' h' H' → Reps (vw K (Blk B L) ρ' h' H') ys us → ¬ B L → (¬ Live ρ h L → H L = none) → Q (.ref L) H') :=
  (Post.bind1 p).mono fun ys h' ρ' H' S' E' q L us hl S2 hr hn _ => q ρ' H' S' E' (.ref L) ⟨L, us, rfl, ⟨hl, fun l => Or.elim l (live_no S2) hn⟩, hr.vm vm_unblk _ _⟩
/-- a list that stood, numbered -/
theorem vm_adopt {K : PySem.W.Frag} {N : Nms} {B : Addr → Prop} {ρ : Nat → Addr} {h : Hs} {H : Hp} {L : Addr} {x : O} (S : Sim K N (Blk B L) ρ h H) : Vm (vw K (Blk B L) ρ h H) (vw K B (rset ρ h.n L) (h.new x) H) := by
  refine ⟨rfl, Nat.le_succ _, fun k hk => rset_ne (Nat.ne_of_lt hk), fun a o e n => ⟨e, fun l => ?_⟩⟩
  rcases l with l | b
  · rcases (live_new S.wf).mp l with rfl | l
    · exact n (.inr (.inr rfl))
    · exact n (.inl l)
  · exact n (.inr (.inl b))
theorem Sim.adopt {K : PySem.W.Frag} {N : Nms} {B : Addr → Prop} {ρ : Nat → Addr} {h : Hs} {H : Hp} {L : Addr} {us : List V} {ys : List D} (S : Sim K N (Blk B L) ρ h H) (hl : H L = some (.lst us)) (hr : Reps (vw K (Blk B L) ρ h H) ys us) (hn : ¬ B L) :
    Sim K N B (rset ρ h.n L) (h.new (.lst ys)) H := by
  refine ⟨fun k o q => ?_, fun j k o v hj hk ej => ?_, fun k o q => ?_, fun a b => S.blk a (.inl b), fun k o q => ?_⟩
  · rw [new_o] at q
    show k < h.n + 1
    by_cases hk : k = h.n
    · omega
    · rw [if_neg hk] at q
      have := S.wf k o q
      omega
  · rw [new_o] at hj hk
    by_cases h1 : j = h.n
    · by_cases h2 : k = h.n
      · rw [h1, h2]
      · rw [if_neg h2] at hk
        rw [h1, rset_same, rset_ne h2] at ej
        exact absurd (.inr ej.symm) (S.dis k v hk)
    · rw [if_neg h1] at hj
      by_cases h2 : k = h.n
      · rw [h2, rset_same, rset_ne h1] at ej
        exact absurd (.inr ej) (S.dis j o hj)
      · rw [if_neg h2] at hk
        rw [rset_ne h1, rset_ne h2] at ej
        exact S.inj j k o v hj hk ej
  · rw [new_o] at q
    by_cases hk : k = h.n
    · rw [if_pos hk] at q
      cases q
      rw [hk, rset_same]
      exact ⟨us, hl, hr.vm (vm_adopt S) _ _⟩
    · rw [if_neg hk] at q
      rw [rset_ne hk]
      exact (S.obj k o q).vm (vm_adopt S) rfl
  · rw [new_o] at q
    by_cases hk : k = h.n
    · rw [hk, rset_same]
      exact hn
    · rw [if_neg hk] at q
      rw [rset_ne hk]
      exact fun b => S.dis k o q (.inl b)
theorem Ext.adopt {ρ0 ρ : Nat → Addr} {h0 h : Hs} {H0 H : Hp} {L : Addr} {x : O} (wf : ∀ k o, h.o k = some o → k < h.n) (E : Ext ρ0 h0 H0 ρ h H) (hL : ¬ Live ρ0 h0 L → H0 L = none) : Ext ρ0 h0 H0 (rset ρ h.n L) (h.new x) H := by
  refine ⟨fun k hk => (rset_ne (Nat.ne_of_lt (Nat.lt_of_lt_of_le hk E.le))).trans (E.rho k hk), Nat.le_succ_of_le E.le, fun a o e n => ?_⟩
  obtain ⟨e1, n1⟩ := E.keep a o e n
  refine ⟨e1, fun l => ?_⟩
  rcases (live_new wf).mp l with rfl | l
  · rw [hL n] at e
    cases e
  · exact n1 l
theorem lc_mut {K : PySem.W.Frag} {N : Nms} {B : Addr → Prop} {ρ : Nat → Addr} {h : Hs} {H : Hp} {Q : VK} {r : R (List D)} (p : Post K N B W ρ h H (r.bind fun ys h => .ok (.ref h.n) (h.new (.lst ys))) (kV' K B Q)) :
    Post K N B W ρ h H r (fun ys h' ρ' H' => ∀ L us, H' L = some (.lst us) → Sim K N (Blk B L) ρ' h' H' → Reps (vw K (Blk B L) ρ' h' H') ys us → ¬ B L → (¬ Live ρ h L → H L = none) → Q (.ref L) H') :=
  (Post.bind1 p).mono fun ys h' ρ' H' S' E' q L us hl S2 hr hn hL =>
    q (rset ρ' h'.n L) H' (S2.adopt hl hr hn) (E'.adopt S'.wf hL) (.ref L) ⟨Nat.lt_succ_self _, by rw [show (vw K B (rset ρ' h'.n L) (h'.new (.lst ys)) H').ρ h'.n = L from rset_same]⟩
theorem se_lc (hk : k ≠ .keys) (hc : X.calm = true) (nd : X.N.Nodup) (si : SI g X cl W k e1 e2 tg iter) (ok : BlkOk X.N X.env.scope scope own) (ho : own.map (·.2) = t.slots) (ht : ∀ s H0 C cs fp, TgOk (Bx X scope s H0 C cs fp) t tg)
    (hi : IfOk g X cl scope ec ifs) (he : ∀ s H0 C cs fp, SE g (Bx X scope s H0 C cs fp) cl (fun _ _ _ _ => False) ee elt) (hs : ∀ x, foldedSetIterable iter X.env x = pure x) : SE g X cl W (.lc t k e1 e2 ec ee) (.ListComp elt [⟨tg, iter, ifs, 0⟩] scope pos) := fun B σ v ρ h H Q r S p => by
  rw [ev_lc hk] at p
  exact wE.of (pe_lc hc nd pi_w ok (fun s H0 C cs fp => ⟨fun pins s1 σ H v u Q I r q => q s H0 C cs fp pins s1 u I r⟩) (bT_ok ifs) (fun s H0 C cs fp => ⟨fun pins s1 σ H Q I q => q s H0 C cs fp pins s1 I⟩) hs) (lc_read hc nd si ok ho ht hi he r S (lc_lst p))
theorem se_mutlc (hk : k ≠ .keys) (hc : X.calm = true) (nd : X.N.Nodup) (si : SI g X cl W k e1 e2 tg iter) (ok : BlkOk X.N X.env.scope scope own) (ho : own.map (·.2) = t.slots) (ht : ∀ s H0 C cs fp, TgOk (Bx X scope s H0 C cs fp) t tg)
    (hi : IfOk g X cl scope ec ifs) (he : ∀ s H0 C cs fp, SE g (Bx X scope s H0 C cs fp) cl (fun _ _ _ _ => False) ee elt) (hs : ∀ x, foldedSetIterable iter X.env x = pure x) : SE g X cl W (.mut (.lc t k e1 e2 ec ee)) (.ListComp elt [⟨tg, iter, ifs, 0⟩] scope pos) := fun B σ v ρ h H Q r S p => by
  have e : ev g.T cl (.mut (.lc t k e1 e2 ec ee)) v h = (lcR g cl t k e1 e2 ec ee v h).bind fun ys h => .ok (.ref h.n) (h.new (.lst ys)) := by
    rw [ev, ev_lc hk, R.bind_assoc]
    rfl
  rw [e] at p
  exact wE.of (pe_lc hc nd pi_w ok (fun s H0 C cs fp => ⟨fun pins s1 σ H v u Q I r q => q s H0 C cs fp pins s1 u I r⟩) (bT_ok ifs) (fun s H0 C cs fp => ⟨fun pins s1 σ H Q I q => q s H0 C cs fp pins s1 I⟩) hs) (lc_read hc nd si ok ho ht hi he r S (lc_mut p))
end
end Ev

/-! part EvDct -/
set_option maxRecDepth 100000
set_option maxHeartbeats 4000000
/-! A dict's display with keys that are texts. -/
namespace Ev
open PySem PySem.Spec PyProof.Rows L2
section
variable {g : G} {X : Cx} {cl : Calls} {W : WX} {pos : Pos}
inductive PsOk (g : G) (X : Cx) (cl : Calls) (W : WX) : List (List Nat) → Es → List (Option Expr) → List Expr → Prop where
  | nil : PsOk g X cl W [] .nil [] []
  | cons {k : Str} {e : E} {a : Expr} {ks : List (List Nat)} {es : Es} {keys : List (Option Expr)} {as : List Expr} {j : Nat} {p : Pos} (s : SE g X cl W e a) (r : PsOk g X cl W ks es keys as) :
      PsOk g X cl W (k.cps.toList :: ks) (.cons e es) (some (.Constant (.str k) j p) :: keys) (a :: as)
def trsOf (X : Cx) : List (List Nat) → List Expr → List (TE × TE)
  | k :: ks, a :: as => (tC (.str (toS k)), wE X a) :: trsOf X ks as
  | _, _ => []
theorem pps_ok {ks : List (List Nat)} {es : Es} {keys : List (Option Expr)} {as : List Expr} (h : PsOk g X cl W ks es keys as) : PPs X pos keys as (trsOf X ks as) ∧ keys.all (·.isSome) = true ∧ keys.length = as.length ∧ ks.length = as.length := by
  induction h with
  | nil => exact ⟨pps_nil, rfl, rfl, rfl⟩
  | @cons k e a ks es keys as j p s r ih =>
    obtain ⟨i1, i2, i3, i4⟩ := ih
    have hk : PE X (.Constant (.str k) j p) (tC (.str (toS k.cps.toList))) := by
      rw [of_toS]
      exact pe_str
    exact ⟨pps_cons hk pe_w i1, by rw [List.all_cons, i2]; rfl, by rw [List.length_cons, List.length_cons, i3], by rw [List.length_cons, List.length_cons, i4]⟩
theorem ps_run {ks : List (List Nat)} {es : Es} {keys : List (Option Expr)} {as : List Expr} (hp : PsOk g X cl W ks es keys as) : ∀ {B : Addr → Prop} {σ : L2.St} {v : Env} {ρ : Nat → Addr} {h : Hs} {H : Hp} {Q : List (V × V) → Hp → Prop}, RepV (vw X.K B ρ h H) v σ → Sim X.K g.N B ρ h H →
    Post X.K g.N B W ρ h H (evs g.T cl es v h) (fun xs h' ρ' H' => ∀ us, Reps (vw X.K B ρ' h' H') xs us → Q ((ks.zip us).map fun p => (V.str (toS p.1), p.2)) H') → tPairs (trsOf X ks as) σ H Q := by
  induction hp with
  | nil =>
    intro B σ v ρ h H Q r S p
    exact Post.now (a := ([] : List D)) p S [] rfl
  | @cons k e a ks es keys as j pp s rr ih =>
    intro B σ v ρ h H Q r S p
    show tC (.str (toS k.cps.toList)) σ H fun x H1 => wE X a σ H1 fun y H2 => tPairs (trsOf X ks as) σ H2 fun ps H3 => Q ((x, y) :: ps) H3
    show wE X a σ H fun y H2 => tPairs (trsOf X ks as) σ H2 fun ps H3 => Q ((.str (toS k.cps.toList), y) :: ps) H3
    refine (s.go r S (f := fun x h => (evs g.T cl es v h).bind fun xs h => R.ok (x :: xs) h) p).mono fun u H1 ⟨x, h1, ρ1, S1, E1, ru, p1⟩ => ?_
    refine ih (r.ext E1) S1 ((Post.bind p1).mono fun xs h2 ρ2 H2 S2 E2 q us rs => ?_)
    exact Post.now q S2 (u :: us) ⟨u, us, rfl, ru.ext E2, rs⟩
theorem repK_puts {w : Vw} : ∀ {ks : List (List Nat)} {xs : List D} {us : List V} {acc : List (List Nat × D)} {es : List (Key × V)}, ks.length = xs.length → Reps w xs us → RepK w acc es → RepK w (puts (ks.zip xs) acc) (mergeK es ((ks.zip us).map fun p => (Sum.inr (toS p.1), p.2)))
  | [], [], us, acc, es, _, rs, rk => by
    cases (show us = [] from rs)
    exact rk
  | k :: ks, x :: xs, us, acc, es, hl, rs, rk => by
    obtain ⟨u, t, rfl, ru, rt⟩ := rs
    have ih := repK_puts (ks := ks) (by simpa using hl) rt (repK_put (k := k) ru rk)
    exact ih
  | [], _ :: _, _, _, _, hl, _, _ => by simp at hl
  | _ :: _, [], _, _, _, hl, _, _ => by simp at hl
theorem map_kv : ∀ (ks : List (List Nat)) (us : List V), ((ks.zip us).map fun p => (V.str (toS p.1), p.2)) = (((ks.zip us).map fun p => ((Sum.inr (toS p.1) : Key), p.2)).map fun kv => (kV kv.1, kv.2))
  | [], _ => by simp
  | _ :: _, [] => by simp
  | k :: ks, u :: us => by
    rw [List.zip_cons_cons, List.map_cons, List.map_cons, List.map_cons, map_kv ks us]
    rfl
/-- a run that a block leaves be -/
theorem Post.inBlk {α : Type} {K : PySem.W.Frag} {N : Nms} {B : Addr → Prop} {ρ : Nat → Addr} {h : Hs} {H : Hp} {L : Addr} {x : HO} {r : R α} {k k' : α → Hs → (Nat → Addr) → Hp → Prop} (hL : H L = none) (S : Sim K N B ρ h H) (p : Post K N B W ρ h H r k)
    (f : ∀ a h' ρ' H', Sim K N (Blk B L) ρ' h' H' → Ext ρ h (upd H L x) ρ' h' H' → Ext ρ h H ρ' h' H' → k a h' ρ' H' → k' a h' ρ' H') : Post K N (Blk B L) W ρ h (upd H L x) r k' := by
  cases r with
  | ok a h1 => exact fun ρ' H' S' E' => f a h1 ρ' H' S' E' ((ext_new S hL).trans E') (p ρ' H' S'.unblk ((ext_new S hL).trans E'))
  | exc c h1 => exact fun σ' ρ' H' S' E' => p σ' ρ' H' S'.unblk ((ext_new S hL).trans E')
  | stk => exact p
theorem Sim.adoptD {K : PySem.W.Frag} {N : Nms} {B : Addr → Prop} {ρ : Nat → Addr} {h : Hs} {H : Hp} {L : Addr} {es : List (Key × V)} {kvs : List (List Nat × D)} (S : Sim K N (Blk B L) ρ h H) (hr : RepK (vw K (Blk B L) ρ h H) kvs es) (hn : ¬ B L) :
    Sim K N B (rset ρ h.n L) (h.new (.dct kvs)) (upd H L (.dK es)) := by
  have S2 := S.inb (x := .dK es)
  have vm := (vm_in (x := .dK es)).trans (vm_adopt (x := .dct kvs) S2)
  refine ⟨fun k o q => ?_, fun j k o v hj hk ej => ?_, fun k o q => ?_, fun a b => S2.blk a (.inl b), fun k o q => ?_⟩
  · rw [new_o] at q
    show k < h.n + 1
    by_cases hk : k = h.n
    · omega
    · rw [if_neg hk] at q
      have := S.wf k o q
      omega
  · rw [new_o] at hj hk
    by_cases h1 : j = h.n
    · by_cases h2 : k = h.n
      · rw [h1, h2]
      · rw [if_neg h2] at hk
        rw [h1, rset_same, rset_ne h2] at ej
        exact absurd (.inr ej.symm) (S.dis k v hk)
    · rw [if_neg h1] at hj
      by_cases h2 : k = h.n
      · rw [h2, rset_same, rset_ne h1] at ej
        exact absurd (.inr ej) (S.dis j o hj)
      · rw [if_neg h2] at hk
        rw [rset_ne h1, rset_ne h2] at ej
        exact S.inj j k o v hj hk ej
  · rw [new_o] at q
    by_cases hk : k = h.n
    · rw [if_pos hk] at q
      cases q
      rw [hk, rset_same]
      exact ⟨es, upd_same, hr.vm vm⟩
    · rw [if_neg hk] at q
      rw [rset_ne hk]
      exact (S2.obj k o q).vm (vm_adopt S2) rfl
  · rw [new_o] at q
    by_cases hk : k = h.n
    · rw [hk, rset_same]
      exact hn
    · rw [if_neg hk] at q
      rw [rset_ne hk]
      exact fun b => S.dis k o q (.inl b)
theorem se_dct {ks : List (List Nat)} {es : Es} {keys : List (Option Expr)} {as : List Expr} (hp : PsOk g X cl W ks es keys as) (h0 : keys ≠ []) (h15 : keys.length ≤ 15) : SE g X cl W (.dct ks es) (.Dict keys as pos) := fun B σ v ρ h H Q r S p => by
  obtain ⟨i1, i2, i3, i4⟩ := pps_ok (pos := pos) hp
  refine wE.of (pe_disp i1 i2 i3 h0 h15) fun q hq => ?_
  have rb : RepV (vw X.K (Blk B q) ρ h (upd H q (.dK []))) v σ := ⟨r.1, fun j d e => let ⟨u, e1, r1⟩ := r.2 j d e; ⟨u, e1, r1.vm (vm_blk hq)⟩⟩
  refine ps_run hp rb (S.blk' hq) (Post.inBlk hq S (Post.bind1 p) fun xs h1 ρ1 H1 S1 E0 E1 p1 us rs => ?_)
  have hq1 : H1 q = some (.dK []) := (E0.keep q _ upd_same fun l => by
    obtain ⟨k, o, e, z⟩ := l
    obtain ⟨u, hu⟩ := (S.obj k o e).some
    have hu : H (ρ k) = some u := hu
    rw [z, hq] at hu
    cases hu).1
  have nB : ¬ B q := fun b => by
    obtain ⟨o, e⟩ := S.blk q b
    rw [hq] at e
    cases e
  have nL : ¬ Live ρ h q := fun ⟨k, o, e, z⟩ => by
    obtain ⟨u, hu⟩ := (S.obj k o e).some
    have hu : H (ρ k) = some u := hu
    rw [z, hq] at hu
    cases hu
  have p2 : Post X.K g.N B W ρ h H (okIf (decide (xs.length = ks.length)) (.ref h1.n) (h1.new (.dct (puts (ks.zip xs) [])))) (kV' X.K B Q) := p1
  cases ec : decide (xs.length = ks.length) with
  | false => rw [ec] at p2; exact False.elim p2
  | true =>
    rw [ec] at p2
    have hl := of_decide_eq_true ec
    refine ⟨hq1, (ks.zip us).map fun p => (Sum.inr (toS p.1), p.2), map_kv ks us, ?_, ?_⟩
    · rw [List.length_map, List.length_zip]
      omega
    · have rk := repK_puts (acc := []) (es := []) hl.symm rs rfl
      have S3 := S1.adoptD rk nB
      have E3 : Ext ρ h H (rset ρ1 h1.n q) (h1.new (.dct (puts (ks.zip xs) []))) (upd H1 q (.dK (mergeK [] ((ks.zip us).map fun p => (Sum.inr (toS p.1), p.2))))) :=
        Ext.adopt S1.wf (E1.inb hq) fun _ => hq
      exact p2 (rset ρ1 h1.n q) _ S3 E3 (.ref q) ⟨Nat.lt_succ_self _, by rw [show (vw X.K B (rset ρ1 h1.n q) (h1.new (.dct (puts (ks.zip xs) []))) (upd H1 q (.dK (mergeK [] ((ks.zip us).map fun p => (Sum.inr (toS p.1), p.2)))))).ρ h1.n = q from rset_same]⟩
end
end Ev

/-! part EvStm -/
set_option maxRecDepth 100000
set_option maxHeartbeats 4000000
/-! Statements. -/
namespace Ev
open PySem PySem.Spec PyProof.Rows L2
def kO (K : PySem.W.Frag) (B : Addr → Prop) (D : Ends) : Out → Hs → (Nat → Addr) → Hp → Prop := fun o h' ρ' H' => match o with
  | .nx v' => ∀ σ', RepV (vw K B ρ' h' H') v' σ' → D.nx σ' H'
  | .rt d => ∀ u, Rep (vw K B ρ' h' H') d u → D.rt u H'
def SS (g : G) (X : Cx) (cl : Calls) (W : WX) (s : S) (st : Stmt) : Prop := ∀ B σ v ρ h H D, RepV (vw X.K B ρ h H) v σ → Sim X.K g.N B ρ h H → Post X.K g.N B W ρ h H (exe g.T cl s v h) (kO X.K B D) → wS X st D σ H
def SB (g : G) (X : Cx) (cl : Calls) (W : WX) (s : Ss) (st : List Stmt) : Prop := ∀ B σ v ρ h H D, RepV (vw X.K B ρ h H) v σ → Sim X.K g.N B ρ h H → Post X.K g.N B W ρ h H (exes g.T cl s v h) (kO X.K B D) → wSs X st D σ H
section
variable {g : G} {X : Cx} {cl : Calls} {W : WX} {e e1 e2 ec ee : E} {a b c : Expr} {s : S} {ss s1 s2 : Ss} {st : Stmt} {sts b1 b2 : List Stmt} {pos : Pos} {t : Tg} {k : Ik} {tg iter : Expr}
theorem sb_nil : SB g X cl W .nil [] := fun B σ v ρ h H D r S p => wSs.of pss_nil (Post.now (W := W) (a := Out.nx v) p S σ r)
theorem sb_cons (h1 : SS g X cl W s st) (h2 : SB g X cl W ss sts) : SB g X cl W (.cons s ss) (st :: sts) := fun B σ v ρ h H D r S p =>
  wSs.of (pss_cons ps_w pss_w) (h1 B σ v ρ h H _ r S ((Post.bind p).mono fun o h1 ρ1 H1 S1 E1 q => by
    cases o with
    | nx v' => exact fun σ' r' => h2 B σ' v' ρ1 h1 H1 D r' S1 q
    | rt d => exact Post.now (W := W) (a := Out.rt d) q S1))
def isComp : Expr → Bool
  | .ListComp _ _ _ _ => true
  | .SetComp _ _ _ _ => true
  | .DictComp _ _ _ _ _ => true
  | _ => false
theorem sw_plain {e : Expr} {tg : Option Expr} {l : Nat} {env : PySem.Env} (c : isComp e = false) : swapsWith e tg l env = pure false := by
  cases e <;> first | (cases c; done) | rfl
theorem sws_plain {e t : Expr} {l : Nat} {env : PySem.Env} (c : isComp e = false) : swapsWithSole [t] e l env = pure false := by
  unfold swapsWithSole
  exact sw_plain c
theorem ss_set {i : Nat} {x : Str} {p2 : Pos} (nd : X.N.Nodup) (n : NmOk X i x) (c : isComp a = false) (s1 : SE g X cl W e a) : SS g X cl W (.set i e) (.Assign [.Name x p2] a pos) := fun B σ v ρ h H D r S p =>
  wS.of (ps_set nd n.at_ n.loc pe_w (sw_plain c) n.fn) ((s1.go r S (f := fun x h => R.ok (Out.nx (v.set i (some x))) h) p).mono fun u H1 ⟨x, h1, ρ1, S1, E1, ru, p1⟩ => Post.now (W := W) (a := Out.nx _) p1 S1 _ ((r.ext E1).set i ru))
/-- name = a comprehension, the store swapped -/
theorem ss_setl {i : Nat} {x : Str} {p2 : Pos} {elt : Expr} {ifs : List Expr} {scope : Scope} {own : List (Str × Nat)} {pos' : Pos} (hk : k ≠ .keys) (hc : X.calm = true) (nd : X.N.Nodup) (n : NmOk X i x) (hy : X.env.scope.names.lookup x = some .local) (hkf : X.env.scope.kind = .function)
    (hl : (p2.line == pos.line) = true) (ha : (scope.names.any fun (n, k) => n == x && (k == .local || k == .cell)) = false) (si : SI g X cl W k e1 e2 tg iter) (ok : BlkOk X.N X.env.scope scope own) (ho : own.map (·.2) = t.slots) (ht : ∀ s H0 C cs fp, TgOk (Bx X scope s H0 C cs fp) t tg)
    (hi : IfOk g X cl scope ec ifs) (he : ∀ s H0 C cs fp, SE g (Bx X scope s H0 C cs fp) cl (fun _ _ _ _ => False) ee elt) (hs : ∀ x, foldedSetIterable iter X.env x = pure x) :
    SS g X cl W (.set i (.lc t k e1 e2 ec ee)) (.Assign [.Name x p2] (.ListComp elt [⟨tg, iter, ifs, 0⟩] scope pos) pos') := fun B σ v ρ h H D r S p => by
  have p1 : Post X.K g.N B W ρ h H (ev g.T cl (.lc t k e1 e2 ec ee) v h) (kV' X.K B fun u H1 => D.nx (σ.set i (some u)) H1) := (Post.bind (f := fun x h => R.ok (Out.nx (v.set i (some x))) h) p).mono fun d h1 ρ1 H1 S1 E1 q u ru => Post.now (W := W) (a := Out.nx _) q S1 _ ((r.ext E1).set i ru)
  rw [ev_lc hk] at p1
  exact wS.of (ps_setLc hc nd n.at_ hy (sw_true hkf hy hl ha) pi_w ok (fun s H0 C cs fp => ⟨fun pins s1 σ H v u Q I r q => q s H0 C cs fp pins s1 u I r⟩) (bT_ok ifs) (fun s H0 C cs fp => ⟨fun pins s1 σ H Q I q => q s H0 C cs fp pins s1 I⟩) hs)
    (lc_read hc nd si ok ho ht hi he r S (lc_lst p1))
theorem ss_setml {i : Nat} {x : Str} {p2 : Pos} {elt : Expr} {ifs : List Expr} {scope : Scope} {own : List (Str × Nat)} {pos' : Pos} (hk : k ≠ .keys) (hc : X.calm = true) (nd : X.N.Nodup) (n : NmOk X i x) (hy : X.env.scope.names.lookup x = some .local) (hkf : X.env.scope.kind = .function)
    (hl : (p2.line == pos.line) = true) (ha : (scope.names.any fun (n, k) => n == x && (k == .local || k == .cell)) = false) (si : SI g X cl W k e1 e2 tg iter) (ok : BlkOk X.N X.env.scope scope own) (ho : own.map (·.2) = t.slots) (ht : ∀ s H0 C cs fp, TgOk (Bx X scope s H0 C cs fp) t tg)
    (hi : IfOk g X cl scope ec ifs) (he : ∀ s H0 C cs fp, SE g (Bx X scope s H0 C cs fp) cl (fun _ _ _ _ => False) ee elt) (hs : ∀ x, foldedSetIterable iter X.env x = pure x) :
    SS g X cl W (.set i (.mut (.lc t k e1 e2 ec ee))) (.Assign [.Name x p2] (.ListComp elt [⟨tg, iter, ifs, 0⟩] scope pos) pos') := fun B σ v ρ h H D r S p => by
  have p1 : Post X.K g.N B W ρ h H (ev g.T cl (.mut (.lc t k e1 e2 ec ee)) v h) (kV' X.K B fun u H1 => D.nx (σ.set i (some u)) H1) := (Post.bind (f := fun x h => R.ok (Out.nx (v.set i (some x))) h) p).mono fun d h1 ρ1 H1 S1 E1 q u ru => Post.now (W := W) (a := Out.nx _) q S1 _ ((r.ext E1).set i ru)
  have e : ev g.T cl (.mut (.lc t k e1 e2 ec ee)) v h = (lcR g cl t k e1 e2 ec ee v h).bind fun ys h => .ok (.ref h.n) (h.new (.lst ys)) := by
    rw [ev, ev_lc hk, R.bind_assoc]
    rfl
  rw [e] at p1
  exact wS.of (ps_setLc hc nd n.at_ hy (sw_true hkf hy hl ha) pi_w ok (fun s H0 C cs fp => ⟨fun pins s1 σ H v u Q I r q => q s H0 C cs fp pins s1 u I r⟩) (bT_ok ifs) (fun s H0 C cs fp => ⟨fun pins s1 σ H Q I q => q s H0 C cs fp pins s1 I⟩) hs)
    (lc_read hc nd si ok ho ht hi he r S (lc_mut p1))
/-- a comprehension's value under a name whose store is not swapped -/
theorem ss_setc {i : Nat} {x : Str} {p2 : Pos} (nd : X.N.Nodup) (n : NmOk X i x) (hy : X.env.scope.names.lookup x = some .cell) (s1 : SE g X cl W e a) : SS g X cl W (.set i e) (.Assign [.Name x p2] a pos) := fun B σ v ρ h H D r S p => by
  have hs : swapsWith a (some (.Name x p2)) pos.line X.env = pure false := by
    have hk : X.env.kindOf x = some .cell := hy
    unfold swapsWith
    cases a <;> first | rfl | (dsimp only; rw [hk]; simp; rw [show (NameKind.cell == NameKind.local) = false from rfl, Bool.and_false, Bool.false_and, Bool.false_and])
  exact wS.of (ps_set nd n.at_ n.loc pe_w hs n.fn) ((s1.go r S (f := fun x h => R.ok (Out.nx (v.set i (some x))) h) p).mono fun u H1 ⟨x, h1, ρ1, S1, E1, ru, p1⟩ => Post.now (W := W) (a := Out.nx _) p1 S1 _ ((r.ext E1).set i ru))
theorem ss_seti (hu : X.A.units + 1 < cLine) {p2 : Pos} (hs : isComp c = false) (hns : noSlice b = true) (s1 : SE g X cl W e1 a) (s2 : SE g X cl W e2 b) (s3 : SE g X cl W e c) : SS g X cl W (.seti e1 e2 e) (.Assign [.Subscript a b p2] c pos) := fun B σ v ρ h H D r S p =>
  wS.of (ps_asg pe_w (pg_sub pe_w pe_w pset_w (fun v => by cases b <;> first | (cases hns; done) | rfl)) (sws_plain hs) (by cases c <;> rfl)) ((s3.go r S (f := fun y h => (ev g.T cl e1 v h).bind fun x h => (ev g.T cl e2 v h).bind fun i h => (seti x i y h).bind fun _ h => R.ok (Out.nx v) h) p).mono fun y H1 ⟨dy, h1, ρ1, S1, E1, ry, p1⟩ =>
    (s1.go (r.ext E1) S1 p1).mono fun x H2 ⟨dx, h2, ρ2, S2, E2, rx, p2⟩ => (s2.go ((r.ext E1).ext E2) S2 p2).mono fun i H3 ⟨di, h3, ρ3, S3, E3, ri, p3⟩ => by
      refine seti_ok (W := W) hu S3 (rx.ext E3) ri ((ry.ext E2).ext E3) ((Post.bind p3).mono fun _ h4 ρ4 H4 S4 E4 q => Post.now (W := W) (a := Out.nx v) q S4 σ ((((r.ext E1).ext E2).ext E3).ext E4)))
def isTup : Expr → Bool
  | .Tuple _ _ _ => true
  | _ => false
theorem ss_sett {is : List Nat} {ts : List Expr} {kk : Nat} {tp : Pos} (hc : X.calm = true) (nd : X.N.Nodup) (T : TgOk X (.tp is) (.Tuple ts kk tp)) (c1 : isComp a = false) (c2 : isTup a = false) (s1 : SE g X cl W e a) : SS g X cl W (.sett is e) (.Assign [.Tuple ts kk tp] a pos) := fun B σ v ρ h H D r S p =>
  wS.of (ps_asg pe_w pg_w (sws_plain c1) (by cases a <;> first | (cases c2; done) | rfl)) ((s1.go r S (f := fun x h => (tgt (.tp is) x v h).bind fun v h => R.ok (Out.nx v) h) p).mono fun u H1 ⟨x, h1, ρ1, S1, E1, ru, p1⟩ => by
    rcases tgt_or (.tp is) x v h1 with e3 | ⟨v', e3⟩
    · dsimp only at p1
      rw [e3] at p1
      exact False.elim p1
    · dsimp only at p1
      rw [e3 h1] at p1
      exact tg_ok hc nd T ru ((r.ext E1).x _) (e3 h1) fun σ' r' _ => Post.now (W := W) (a := Out.nx v') p1 S1 σ' r')
theorem ss_exp (c1 : isComp a = false) (s1 : SE g X cl W e a) : SS g X cl W (.exp e) (.Expr a pos) := fun B σ v ρ h H D r S p =>
  wS.of (ps_expr pe_w (sw_plain c1)) ((s1.go r S (f := fun _ h => R.ok (Out.nx v) h) p).mono fun u H1 ⟨x, h1, ρ1, S1, E1, ru, p1⟩ => Post.now (W := W) (a := Out.nx v) p1 S1 σ (r.ext E1))
theorem ss_ret (s1 : SE g X cl W e a) : SS g X cl W (.ret e) (.Return (some a) pos) := fun B σ v ρ h H D r S p =>
  wS.of (ps_ret pe_w) ((s1.go r S (f := fun x h => R.ok (Out.rt x) h) p).mono fun u H1 ⟨x, h1, ρ1, S1, E1, ru, p1⟩ => Post.now (W := W) (a := Out.rt x) p1 S1 u ru)
theorem ss_retn : SS g X cl W .retn (.Return none pos) := fun B σ v ρ h H D r S p => wS.of ps_retN (Post.now (W := W) (a := Out.rt .non) p S .non rfl)
theorem ss_ite (t1 : ST g X cl W e a) (h1 : SB g X cl W s1 b1) (h2 : SB g X cl W s2 b2) : SS g X cl W (.ite e s1 s2) (.If a b1 b2 pos) := fun B σ v ρ h H D r S p =>
  wS.of (ps_if pt_w pss_w pss_w) ((t1.go r S (f := fun k h => match k with
    | true => exes g.T cl s1 v h
    | false => exes g.T cl s2 v h) p).mono fun k H1 ⟨h', ρ1, S1, E1, p1⟩ => by
    cases k with
    | true =>
      rw [if_pos rfl]
      exact h1 B σ v ρ1 h' H1 D (r.ext E1) S1 p1
    | false =>
      rw [if_neg Bool.false_ne_true]
      exact h2 B σ v ρ1 h' H1 D (r.ext E1) S1 p1)
theorem ss_for (po : PassesOwn (model X.prog X.w) X.A X.env X.xe) (hc : X.calm = true) (nd : X.N.Nodup) (si : SI g X cl W k e1 e2 tg iter) (T : TgOk X t tg) (hb : SB g X cl W ss sts) (hs : ∀ x, foldedSetIterable iter X.env x = pure x) :
    SS g X cl W (.for_ t k e1 e2 ss) (.For tg iter sts [] pos) := fun B σ v ρ h H D r S p => by
  have q := si Out B σ v ρ h H (fun w h => forGo w t (exes g.T cl ss) w.xs v h) (kO X.K B D) r S p
  refine wS.of (ps_for po hc pi_w pg_w pss_w hs) (fun pins s I => thn (q pins s I) fun v1 s1 h1 => thn h1 fun itv s2 ⟨it, fp, tn, J, H', e, I2, TT, stt, fo, w, h2, ρ2, S2, E2, wk, p2⟩ => ⟨it, fp, tn, J, H', e, I2, TT, stt, fo, ?_⟩)
  refine ⟨fun i m σ' H1 => m = w.xs.length - i ∧ i ≤ w.xs.length ∧ ∃ v' h' ρ', RepV (vw X.K B ρ' h' H1) v' σ' ∧ Sim X.K g.N B ρ' h' H1 ∧ Ext ρ2 h2 H' ρ' h' H1 ∧ Post X.K g.N B W ρ' h' H1 (forGo w t (exes g.T cl ss) (w.xs.drop i) v' h') (kO X.K B D),
    ⟨w.xs.length, by simp, Nat.zero_le _, v, h2, ρ2, r.ext E2, S2, .refl, by rw [List.drop_zero]; exact p2⟩, ?_⟩
  rintro i m σ' H1 ⟨rfl, hi, v', h', ρ', r1, S1, E1, p1⟩
  by_cases hlt : i < w.xs.length
  · have ed : w.xs.drop i = w.xs[i] :: w.xs.drop (i + 1) := List.drop_eq_getElem_cons hlt
    rw [ed] at p1
    have p3 : Post X.K g.N B W ρ' h' H1 (match stays w h' with
      | true => (tgt t w.xs[i] v' h').bind fun v h => (exes g.T cl ss v h).bind fun o h => match o with
        | .nx v => forGo w t (exes g.T cl ss) (w.xs.drop (i + 1)) v h
        | .rt d => .ok (.rt d) h
      | false => .stk) (kO X.K B D) := p1
    cases es : stays w h' with
    | false => rw [es] at p3; exact False.elim p3
    | true =>
      rw [es] at p3
      obtain ⟨jg, jy⟩ := wk.go B i w.xs[i] ρ' h' H1 (List.getElem?_eq_getElem hlt) S1 E1.vm es
      refine .inr ⟨jg, fun σ3 H3 => ∃ v3 h3 ρ3, RepV (vw X.K B ρ3 h3 H3) v3 σ3 ∧ Sim X.K g.N B ρ3 h3 H3 ∧ Ext ρ2 h2 H' ρ3 h3 H3 ∧ Post X.K g.N B W ρ3 h3 H3 (forGo w t (exes g.T cl ss) (w.xs.drop (i + 1)) v3 h3) (kO X.K B D),
        fun σ3 H3 ⟨v3, h3, ρ3, q3⟩ => ⟨w.xs.length - (i + 1), by omega, rfl, hlt, v3, h3, ρ3, q3⟩, fun x H3 hy => ?_⟩
      obtain ⟨S3, E3, rx, kp⟩ := jy x H3 hy
      rcases tgt_or t w.xs[i] v' h' with e3 | ⟨v4, e3⟩
      · rw [e3] at p3
        exact False.elim p3
      · rw [e3 h'] at p3
        refine tg_ok hc nd T rx ((r1.ext E3).x _) (e3 h') fun σ4 r4 _ => ?_
        refine hb B σ4 v4 ρ' h' H3 _ r4 S3 ((Post.bind (Post.from E3 (show Post X.K g.N B W ρ' h' H1 ((exes g.T cl ss v4 h').bind fun o h => match o with
          | .nx v => forGo w t (exes g.T cl ss) (w.xs.drop (i + 1)) v h
          | .rt d => .ok (.rt d) h) (kO X.K B D) from p3))).mono fun o h5 ρ5 H5 S5 E5 q => ?_)
        cases o with
        | nx v5 => exact fun σ5 r5 => ⟨v5, h5, ρ5, r5, S5, (E1.trans E3).trans E5, q⟩
        | rt d => exact fun u ru => Post.now (W := W) (a := Out.rt d) q S5 u ru
  · have e : i = w.xs.length := by omega
    subst e
    rw [List.drop_length] at p1
    obtain ⟨es, p3⟩ := Post.okIf (show Post X.K g.N B W ρ' h' H1 (okIf (stays w h') (Out.nx v') h') (kO X.K B D) from p1)
    exact .inl ⟨wk.stop B ρ' h' H1 S1 E1.vm es, Post.now (W := W) (a := Out.nx v') p3 S1 σ' r1⟩
theorem ss_whl (po : PassesOwn (model X.prog X.w) X.A X.env X.xe) (t1 : ST g X cl W e a) (hb : SB g X cl W ss sts) : SS g X cl W (.whl e ss) (.While a sts [] pos) := fun B σ v ρ h H D r S p => by
  refine wS.of (ps_while po pt_w pss_w) ⟨fun m σ' H1 => ∃ v' h' ρ', RepV (vw X.K B ρ' h' H1) v' σ' ∧ Sim X.K g.N B ρ' h' H1 ∧ Post X.K g.N B W ρ' h' H1 (whGo (ev g.T cl e) (exes g.T cl ss) m v' h') (kO X.K B D), ⟨turns, v, h, ρ, r, S, p⟩, ?_⟩
  rintro m σ' H1 ⟨v', h', ρ', r1, S1, p1⟩
  cases m with
  | zero => exact False.elim p1
  | succ m =>
    refine (t1.go r1 S1 (f := fun k h => match k with
      | true => (exes g.T cl ss v' h).bind fun o h => match o with
        | .nx v => whGo (ev g.T cl e) (exes g.T cl ss) m v h
        | .rt d => .ok (.rt d) h
      | false => .ok (.nx v') h) p1).mono fun k H2 ⟨h2, ρ2, S2, E2, p2⟩ => ?_
    cases k with
    | true =>
      rw [if_pos rfl]
      refine ⟨fun σ3 H3 => ∃ v3 h3 ρ3, RepV (vw X.K B ρ3 h3 H3) v3 σ3 ∧ Sim X.K g.N B ρ3 h3 H3 ∧ Post X.K g.N B W ρ3 h3 H3 (whGo (ev g.T cl e) (exes g.T cl ss) m v3 h3) (kO X.K B D), fun σ3 H3 q => ⟨m, Nat.lt_succ_self _, q⟩, ?_⟩
      refine hb B σ' v' ρ2 h2 H2 _ (r1.ext E2) S2 ((Post.bind p2).mono fun o h5 ρ5 H5 S5 E5 q => ?_)
      cases o with
      | nx v5 => exact fun σ5 r5 => ⟨v5, h5, ρ5, r5, S5, q⟩
      | rt d => exact fun u ru => Post.now (W := W) (a := Out.rt d) q S5 u ru
    | false =>
      rw [if_neg Bool.false_ne_true]
      exact Post.now (W := W) (a := Out.nx v') p2 S2 σ' (r1.ext E2)
theorem ss_rse {n : Nat} (O : Cok g X W n cl) {x m : Str} {cc j : Nat} {p1 p2 p3 : Pos} (hg : Gl X x) (hx : g.A.gexc x = some cc) (hd : (x == ("__debug__" : Str)) = false) : SS g X cl W (.rse cc) (.Raise (some (.Call (.Name x p1) [.Constant (.str m) j p2] [] p3)) none pos) := fun B σ v ρ h H D r S p => by
  have o := O.facts.exc x cc hx
  obtain ⟨bmB, BB, newId, initId, F, q⟩ := o.ex
  exact wS.of (ps_raise O.calm O.tk (pmk_own F q o.mg o.keep (raises_own o.sub o.ty) hg hd)) (p σ ρ H S .refl)
end
end Ev

/-! part EvTok -/
set_option maxRecDepth 100000
set_option maxHeartbeats 4000000
/-! What wants a sign given out before: text.replace(.., ..) of two written texts. -/
namespace Ev
open PySem PySem.Spec PyProof.Rows L2
def wET (X : Cx) (e : Expr) : TE := fun σ H Q => ∀ pins s, 1 ≤ s.toks → Inv X pins σ H s → wpAny (model X.prog X.w) X.A (eval e X.env) (EP X pins σ Q) X.xe s
def wST (X : Cx) (st : Stmt) : TS := fun D σ H => ∀ pins s, 1 ≤ s.toks → Inv X pins σ H s → wpAny (model X.prog X.w) X.A (exec st X.env) (SP X pins D) X.xe s
def wSsT (X : Cx) (st : List Stmt) : TS := fun D σ H => ∀ pins s, 1 ≤ s.toks → Inv X pins σ H s → wpAny (model X.prog X.w) X.A (execs st X.env) (SP X pins D) X.xe s
/-- behind it a sign is out -/
def wS1 (X : Cx) (st : Stmt) : TS := fun D σ H => ∀ pins s, Inv X pins σ H s → wpAny (model X.prog X.w) X.A (exec st X.env) (fun f s1 => 1 ≤ s1.toks ∧ SP X pins D f s1) X.xe s
def SET (g : G) (X : Cx) (cl : Calls) (W : WX) (e : E) (a : Expr) : Prop := ∀ B σ v ρ h H Q, RepV (vw X.K B ρ h H) v σ → Sim X.K g.N B ρ h H → Post X.K g.N B W ρ h H (ev g.T cl e v h) (kV' X.K B Q) → wET X a σ H Q
def SST (g : G) (X : Cx) (cl : Calls) (W : WX) (s : S) (st : Stmt) : Prop := ∀ B σ v ρ h H D, RepV (vw X.K B ρ h H) v σ → Sim X.K g.N B ρ h H → Post X.K g.N B W ρ h H (exe g.T cl s v h) (kO X.K B D) → wST X st D σ H
def SS1 (g : G) (X : Cx) (cl : Calls) (W : WX) (s : S) (st : Stmt) : Prop := ∀ B σ v ρ h H D, RepV (vw X.K B ρ h H) v σ → Sim X.K g.N B ρ h H → Post X.K g.N B W ρ h H (exe g.T cl s v h) (kO X.K B D) → wS1 X st D σ H
def SBT (g : G) (X : Cx) (cl : Calls) (W : WX) (s : Ss) (st : List Stmt) : Prop := ∀ B σ v ρ h H D, RepV (vw X.K B ρ h H) v σ → Sim X.K g.N B ρ h H → Post X.K g.N B W ρ h H (exes g.T cl s v h) (kO X.K B D) → wSsT X st D σ H
section
variable {g : G} {X : Cx} {cl : Calls} {W : WX} {e e1 e2 : E} {a b c : Expr} {s : S} {ss s1 s2 : Ss} {st : Stmt} {sts b1 b2 : List Stmt} {pos : Pos}
theorem SET.of (h : SE g X cl W e a) : SET g X cl W e a := fun B σ v ρ h' H Q r S p pins s _ I => h B σ v ρ h' H Q r S p pins s I
theorem SST.of (h : SS g X cl W s st) : SST g X cl W s st := fun B σ v ρ h' H D r S p pins s _ I => h B σ v ρ h' H D r S p pins s I
theorem SBT.of (h : SB g X cl W ss sts) : SBT g X cl W ss sts := fun B σ v ρ h' H D r S p pins s _ I => h B σ v ρ h' H D r S p pins s I
theorem sbt_cons (h1 : SST g X cl W s st) (h2 : SBT g X cl W ss sts) : SBT g X cl W (.cons s ss) (st :: sts) := fun B σ v ρ h H D r S p pins s0 h0 I => by
  have q := h1 B σ v ρ h H { D with nx := fun σ' H' => wSsT X sts D σ' H' } r S ((Post.bind p).mono fun o h1 ρ1 H1 S1 E1 q => by
    cases o with
    | nx v' => exact fun σ' r' => h2 B σ' v' ρ1 h1 H1 D r' S1 q
    | rt d => exact Post.now (W := W) (a := Out.rt d) q S1) pins s0 h0 I
  refine wpAny_execs_cons (wpAny_mono (PySem.wpAny_toks q) (fun f s1 q => ?_) fun _ _ x => x.2)
  obtain ⟨hk, q⟩ := q
  cases f with
  | next =>
    obtain ⟨σ', H', I', q⟩ := q
    exact q pins s1 (Nat.le_trans h0 hk) I'
  | ret v => exact q
  | brk => exact q
  | cont => exact q
theorem sb_cons1 (h1 : SS1 g X cl W s st) (h2 : SBT g X cl W ss sts) : SB g X cl W (.cons s ss) (st :: sts) := fun B σ v ρ h H D r S p pins s0 I => by
  have q := h1 B σ v ρ h H { D with nx := fun σ' H' => wSsT X sts D σ' H' } r S ((Post.bind p).mono fun o h1 ρ1 H1 S1 E1 q => by
    cases o with
    | nx v' => exact fun σ' r' => h2 B σ' v' ρ1 h1 H1 D r' S1 q
    | rt d => exact Post.now (W := W) (a := Out.rt d) q S1) pins s0 I
  refine wpAny_execs_cons (wpAny_mono q (fun f s1 q => ?_) fun _ _ x => x)
  obtain ⟨hk, q⟩ := q
  cases f with
  | next =>
    obtain ⟨σ', H', I', q⟩ := q
    exact q pins s1 hk I'
  | ret v => exact q
  | brk => exact q
  | cont => exact q
theorem sst_ite (t1 : ST g X cl W e a) (h1 : SBT g X cl W s1 b1) (h2 : SBT g X cl W s2 b2) : SST g X cl W (.ite e s1 s2) (.If a b1 b2 pos) := fun B σ v ρ h H D r S p pins s0 h0 I => by
  have q := (t1.go r S (f := fun k h => match k with
    | true => exes g.T cl s1 v h
    | false => exes g.T cl s2 v h) p) pins s0 I
  refine wpAny_If (wpAny_mono (PySem.wpAny_toks q) (fun d s1 q => ?_) fun _ _ z => z.2)
  obtain ⟨hk, H1, I1, h', ρ1, S1, E1, p1⟩ := q
  cases d with
  | true => exact h1 B σ v ρ1 h' H1 D (r.ext E1) S1 p1 pins s1 (Nat.le_trans h0 hk) I1
  | false => exact h2 B σ v ρ1 h' H1 D (r.ext E1) S1 p1 pins s1 (Nat.le_trans h0 hk) I1
theorem SET.go {β : Type} {v : Env} {σ : L2.St} {ρ : Nat → Addr} {h : Hs} {H : Hp} {B : Addr → Prop} (s : SET g X cl W e a) (r : RepV (vw X.K B ρ h H) v σ) (S : Sim X.K g.N B ρ h H) {f : D → Hs → R β} {k : β → Hs → (Nat → Addr) → Hp → Prop} (p : Post X.K g.N B W ρ h H ((ev g.T cl e v h).bind f) k) :
    wET X a σ H (fun u H1 => ∃ x h1 ρ1, Sim X.K g.N B ρ1 h1 H1 ∧ Ext ρ h H ρ1 h1 H1 ∧ Rep (vw X.K B ρ1 h1 H1) x u ∧ Post X.K g.N B W ρ1 h1 H1 (f x h1) k) :=
  s B σ v ρ h H _ r S ((Post.bind p).mono fun x h1 ρ1 H1 S1 E1 q u ru => ⟨x, h1, ρ1, S1, E1, ru, q⟩)
/-- text.replace("\n", "") -/
theorem set_rep {y z : Str} {j k : Nat} {c0 c1 apos : Pos} (hb : noSuper a = true) (hl : (apos.endLine == pos.line) = true) (hy : y = ⟨#[10]⟩) (hz : z = ⟨#[]⟩) (s1 : SE g X cl W e a) :
    SET g X cl W (.rep e) (.Call (.Attribute a "replace" apos) [.Constant (.str y) j c0, .Constant (.str z) k c1] [] pos) := fun B σ v ρ h H Q r S p pins s0 h0 I => by
  subst hy hz
  refine CwR.pet_replC (ho := pe_w) (by decide) rfl (base_plain hb) hl pins s0 σ H Q h0 I ((s1.go r S (f := fun x h => repd x h) p).mono fun u H1 ⟨x, h1, ρ1, S1, E1, ru, p1⟩ => ?_)
  cases x <;> first | exact False.elim p1 | skip
  rename_i t
  cases ru
  obtain ⟨d, p2⟩ := Post.okIf p1
  have d := of_decide_eq_true d
  refine ⟨toS t, rfl, ?_, ?_⟩
  · rw [toS_len]
    show _ + _ * 0 ≤ _
    omega
  · refine P1.val p2 S1 ?_
    have e1 : Txt.replace (toS t) ⟨#[10]⟩ ⟨#[]⟩ = toS (t.filter fun c => decide (c ≠ 10)) := by
      have e2 := PyProof.Rows.replace_strikes (toS t) 10
      rw [toS_cps] at e2
      have e3 : (t.filter fun c => decide (c ≠ 10)) = t.filter (· != 10) := by
        apply List.filter_congr
        intro x _
        rw [Bool.eq_iff_iff]
        simp
      rw [e3, ← e2, of_toS]
    rw [e1]
    rfl
theorem set_bin {op : BOp} (s1 : SET g X cl W e1 a) (s2 : SE g X cl W e2 b) : SET g X cl W (.bin op e1 e2) (.BinOp a (opOf op) b pos) := fun B σ v ρ h H Q r S p pins s0 h0 I => by
  refine wpAny_BinOp (thn (s1.go r S (f := fun x h => (ev g.T cl e2 v h).bind fun y h => bin op x y h) p pins s0 h0 I) fun u s1 ⟨w, H1, I1, r1, x, h1, ρ1, S1, E1, ru, p1⟩ => ?_)
  refine thn (s2.go (r.ext E1) S1 p1 pins s1 I1) fun u2 s2 ⟨w2, H2, I2, r2, y, h2, ρ2, S2, E2, ru2, p2⟩ => ?_
  exact (bin_ok op S2 (ru.ext E2) ru2 p2) pins s2 σ u u2 I2 r1 r2
theorem set_slc {lo hi : E} {ol oh : Option Expr} {p2 : Pos} (s1 : SET g X cl W e1 a) (sl : SO g X cl W lo ol) (sh : SO g X cl W hi oh) : SET g X cl W (.slc e1 lo hi) (.Subscript a (.Slice ol oh none p2) pos) := fun B σ v ρ h H Q r S p pins s0 h0 I => by
  refine Subscript_ (thn (s1.go r S (f := fun x h => (evB g.T cl lo v h).bind fun l h => (evB g.T cl hi v h).bind fun u h => slice x l u h) p pins s0 h0 I) fun w t1 ⟨x, H1, I1, r1, d, h1, ρ1, S1, E1, ru, p1⟩ => ?_)
  refine wpAny_Slice (thn (sl.go (r.ext E1) S1 p1 pins t1 I1) fun vl t2 ⟨l, H2, I2, pl, h2, ρ2, S2, E2, p2⟩ => thn (sh.go ((r.ext E1).ext E2) S2 p2 pins t2 I2) fun vu t3 ⟨u, H3, I3, pu, h3, ρ3, S3, E3, p3⟩ => ?_)
  rw [evalPart_none]
  refine wpAny_pure ?_
  have I4 : Inv X pins σ H3 { t3 with heap := t3.heap.push { cls := .type "slice", data := .fields #[vl, vu, .none] } } := I3.kept (t' := t3.toks) fun b ob q => Heap.get?_push_of_some _ q
  obtain ⟨T, id, hT, ht, hg⟩ := (sl_w (X := X)) pins { t3 with heap := t3.heap.push { cls := .type "slice", data := .fields #[vl, vu, .none] } } σ H3 x w vl vu l u t3.heap.objs.size Q I4 r1 (Heap.IsSliceOf.new ..) pl pu (slice_ok S3 ((ru.ext E2).ext E3) l u p3)
  show wpAny (model X.prog X.w) X.A (subscriptTail a (.Slice ol oh none _) w (.ref t3.heap.objs.size)) (EP X pins σ Q) X.xe { t3 with heap := t3.heap.push { cls := .type "slice", data := .fields #[vl, vu, .none] } }
  exact tail_any (ops := [.ref t3.heap.objs.size, w]) ht hT hg (by with_unfolding_all rfl)
theorem sst_setr {i : Nat} {x : Str} {p2 : Pos} (nd : X.N.Nodup) (n : NmOk X i x) (c : isComp a = false) (s1 : SET g X cl W e a) : SST g X cl W (.setr i e) (.Assign [.Name x p2] a pos) := fun B σ v ρ h H D r S p pins s0 h0 I => by
  have q := (s1.go r S (f := fun x h => R.ok (Out.nx (v.set i (some x))) h) p) pins s0 h0 I
  refine wpAny_Assign_Name (thn q fun u t1 ⟨y, H1, I1, r1, d, h1, ρ1, S1, E1, ru, p1⟩ => ?_) (sw_plain c)
  exact store_ok I1 nd n.at_ n.loc r1 (fun s2 I2 => ⟨_, H1, I2, Post.now (W := W) (a := Out.nx _) p1 S1 _ ((r.ext E1).set i ru)⟩) n.fn
/-- name = a whole number and more -/
theorem ss1_set {i : Nat} {x : Str} {p2 c0 pb : Pos} {k : Int} {j : Nat} {op : BOp} (nd : X.N.Nodup) (n : NmOk X i x) (s2 : SE g X cl W e2 b) : SS1 g X cl W (.set i (.bin op (.lit (.int k)) e2)) (.Assign [.Name x p2] (.BinOp (.Constant (.int k) j c0) (opOf op) b pb) pos) := fun B σ v ρ h H De r S p pins s0 I => by
  have p' : Post X.K g.N B W ρ h H ((ev g.T cl e2 v h).bind fun y h => (bin op (.int k) y h).bind fun x h => R.ok (Out.nx (v.set i (some x))) h) (kO X.K B De) := by
    have e : exe g.T cl (.set i (.bin op (.lit (.int k)) e2)) v h = (ev g.T cl e2 v h).bind fun y h => (bin op (.int k) y h).bind fun x h => R.ok (Out.nx (v.set i (some x))) h := by
      show (((R.ok (Ev.D.int k) h).bind fun x h => (ev g.T cl e2 v h).bind fun y h => bin op x y h).bind fun x h => R.ok (Out.nx (v.set i (some x))) h) = _
      exact R.bind_assoc (ev g.T cl e2 v h) (fun y h => bin op (.int k) y h) _
    rw [← e]
    exact p
  refine wpAny_Assign_Name (wpAny_BinOp (wpAny_Constant_int ?_)) (by rfl)
  refine wpAny_mono (wpAny_toks_of (n := 1) (by show 1 ≤ s0.toks + 1; omega) (s2.go r S p' pins _ (I.tok _))) (fun u t1 q => ?_) fun _ _ z => z.2
  obtain ⟨k1, w, H1, I1, r1, y, h1, ρ1, S1, E1, ru, p1⟩ := q
  have pb : P1 X g.N B W ρ1 h1 H1 (bin op (.int k) y h1) (fun u H2 => De.nx (σ.set i (some u)) H2) := (Post.bind p1).mono fun d h2 ρ2 H2 S2 E2 q u ru2 => Post.now (W := W) (a := Out.nx _) q S2 _ (((r.ext E1).ext E2).set i ru2)
  refine wpAny_mono (wpAny_toks_of (n := 1) k1 ((bin_ok op S1 (x := .int k) (v := .int k) (by rfl) ru pb) pins t1 σ _ u I1 ⟨_, rfl⟩ r1)) (fun v2 t2 q => ?_) fun _ _ z => z.2
  obtain ⟨k2, z, H2, I2, r2, q2⟩ := q
  exact wpAny_mono (wpAny_toks_of (n := 1) k2 (store_ok (Q := fun _ s => SP X pins De .next s) I2 nd n.at_ n.loc r2 (fun s2 I3 => ⟨_, H2, I3, q2⟩) n.fn)) (fun _ t3 q => q) fun _ _ z => z.2
end
end Ev

/-! part EvChk -/
set_option maxRecDepth 100000
set_option maxHeartbeats 4000000
/-! The check of a text against the small machine's, and what it gives. -/
namespace Ev
open PySem PySem.Spec PyProof.Rows L2
structure Sc where
  vs : List Str
  sc : Scope
  fc : Str → Bool
def glb (sc : Scope) (x : Str) : Bool := decide (sc.names.lookup x = some .globalImplicit) && !(x == ("__debug__" : Str))
def visb (sc : Scope) (x : Str) : Bool := decide (sc.names.lookup x = some .local) || (decide (sc.names.lookup x = some .cell) || decide (sc.names.lookup x = some .free))
def nmb (c : Sc) (i : Nat) (x : Str) : Bool := decide (c.vs[i]? = some x) && (decide (c.sc.names.lookup x = some .local) || (decide (c.sc.names.lookup x = some .cell) && c.fc x))
def tgs (c : Sc) : List Nat → List Expr → Bool
  | [], [] => true
  | i :: is, e :: es => (match e with
    | .Name x _ => nmb c i x && tgs c is es
    | _ => false)
  | _, _ => false
def tgb (c : Sc) (t : Tg) (e : Expr) : Bool := match t, e with
  | .nm i, .Name x _ => nmb c i x
  | .tp is, .Tuple es _ _ => tgs c is es
  | _, _ => false
def nameOf : Expr → Str
  | .Name x _ => x
  | _ => ""
def ownOf : Tg → Expr → List (Str × Nat)
  | .nm i, e => [(nameOf e, i)]
  | .tp is, .Tuple es _ _ => (es.map nameOf).zip is
  | .tp _, _ => []
def blkSc (c : Sc) (scope : Scope) : Sc := ⟨c.vs, relS scope c.sc, fun x => decide (scope.names.lookup x = some .cell)⟩
def blkb (vs : List Str) (sc scope : Scope) (own : List (Str × Nat)) : Bool :=
  decide (scope.kind = .function) && ((scope.names.all fun y => decide (scope.names.lookup y.1 = some y.2)) && ((own.all fun p => decide (vs[p.2]? = some p.1)) &&
    ((scope.names.all fun y => !decide (y.2 = .free) || (decide (sc.names.lookup y.1 = some .cell) || decide (sc.names.lookup y.1 = some .free))) &&
      (scope.names.all fun y => !(decide (y.2 = .local) || decide (y.2 = .cell)) || ((own.map (·.1)).contains y.1 || !vs.contains y.1)))))
def litb (d : D) (v : Const) : Bool := match d, v with
  | .non, .none => true
  | .bl a, .bool b => a == b
  | .int a, .int b => a == b
  | .str a, .str b => a == b.cps.toList
  | _, _ => false
def isNon : E → Bool
  | .lit .non => true
  | _ => false
def notSet : Expr → Bool
  | .Set _ _ _ => false
  | _ => true
def tstb : Expr → Bool
  | .IfExp _ _ _ _ => false
  | _ => true
def argsb (as : List Expr) : Bool := as.all plainE && decide (as.length < 30)
def isFrz : E → Bool
  | .frz _ => true
  | _ => false
def isTup' : Expr → Bool
  | .Tuple _ _ _ => true
  | _ => false
/-- what is walked: by the checks of its two parts -/
def iterb (c : Sc) (k : Ik) (tg : Expr) (f1 f2 : Expr → Bool) (non2 : Bool) (iter : Expr) : Bool := match k with
  | .val => notSet iter && (f1 iter && non2)
  | .rng1 => (match iter with
    | .Call (.Name x _) [a] [] _ => decide (x = "range") && (glb c.sc x && (plainE a && (f1 a && non2)))
    | _ => false)
  | .rng2 => (match iter with
    | .Call (.Name x _) [a, b] [] _ => decide (x = "range") && (glb c.sc x && (plainE a && (plainE b && (f1 a && f2 b))))
    | _ => false)
  | .enm => (match iter with
    | .Call (.Name x _) [a] [] _ => decide (x = "enumerate") && (glb c.sc x && (isTup' tg && (plainE a && (f1 a && non2))))
    | _ => false)
  | .zip => (match iter with
    | .Call (.Name x _) [a, b] [] _ => decide (x = "zip") && (glb c.sc x && (isTup' tg && (plainE a && (plainE b && (f1 a && f2 b)))))
    | _ => false)
  | .keys => false
def keysb : List (List Nat) → List (Option Expr) → Bool
  | [], [] => true
  | k :: ks, e :: es => (match e with
    | some (.Constant (.str s) _ _) => k == s.cps.toList && keysb ks es
    | _ => false)
  | _, _ => false
mutual
def chkE (A : Nam) (np : Nat → Nat) : E → Sc → Expr → Bool
  | .var i, c, x => (match x with
    | .Name y _ => decide (c.vs[i]? = some y) && (visb c.sc y && (!(y == ("__debug__" : Str)) && !(y == ("__classdict__" : Str))))
    | _ => false)
  | .con k, c, x => (match x with
    | .Name y _ => glb c.sc y && decide (A.gcon y = some k)
    | _ => false)
  | .lit d, _, x => (match x with
    | .Constant v _ _ => litb d v
    | _ => false)
  | .bin op a b, c, x => (match x with
    | .BinOp l o r _ => decide (o = opOf op) && (chkE A np a c l && chkE A np b c r)
    | _ => false)
  | .neg a, c, x => (match x with
    | .UnaryOp .USub y _ => chkE A np a c y
    | _ => false)
  | .not a, c, x => (match x with
    | .UnaryOp .Not y _ => tstb y && chkE A np a c y
    | _ => false)
  | .and a b, c, x => (match x with
    | .BoolOp .And (y :: z :: r) p => tstb y && (chkE A np a c y && (match r with
      | [] => tstb z && chkE A np b c z
      | w :: r => chkE A np b c (.BoolOp .And (z :: w :: r) p)))
    | _ => false)
  | .or a b, c, x => (match x with
    | .BoolOp .Or (y :: z :: r) p => tstb y && (chkE A np a c y && (match r with
      | [] => tstb z && chkE A np b c z
      | w :: r => chkE A np b c (.BoolOp .Or (z :: w :: r) p)))
    | _ => false)
  | .cmp op a b, c, x => (match x with
    | .Compare l [o] [r] _ => decide (o = cmpOf op) && (notSet r && (chkE A np a c l && chkE A np b c r))
    | _ => false)
  | .chn p q a b d, c, x => (match x with
    | .Compare l [o1, o2] [m, r] _ => decide (o1 = cmpOf p) && (decide (o2 = cmpOf q) && (notSet r && (chkE A np a c l && (chkE A np b c m && chkE A np d c r))))
    | _ => false)
  | .isn a, c, x => (match x with
    | .Compare l [.Is] [.Constant .none _ _] _ => chkE A np a c l
    | _ => false)
  | .ntn a, c, x => (match x with
    | .Compare l [.IsNot] [.Constant .none _ _] _ => chkE A np a c l
    | _ => false)
  | .ife t a b, c, x => (match x with
    | .IfExp y l r _ => tstb y && (chkE A np t c y && (chkE A np a c l && chkE A np b c r))
    | _ => false)
  | .sub a i, c, x => (match x with
    | .Subscript l s _ => noSlice s && (chkE A np a c l && chkE A np i c s)
    | _ => false)
  | .slc a lo hi, c, x => (match x with
    | .Subscript l (.Slice ol oh none _) _ => chkE A np a c l && ((match ol with
      | none => isNob lo
      | some y => !isNob lo && chkE A np lo c y) && (match oh with
      | none => isNob hi
      | some y => !isNob hi && chkE A np hi c y))
    | _ => false)
  | .nob, _, _ => false
  | .rev a, c, x => (match x with
    | .Subscript l (.Slice none none (some (.UnaryOp .USub (.Constant (.int i) _ _) _)) _) _ => decide (i = 1) && chkE A np a c l
    | _ => false)
  | .kin neg k a, c, x => (match x with
    | .Compare l [o] [.Name y _] _ => decide (o = if neg then CmpOp.NotIn else CmpOp.In) && (glb c.sc y && (decide (A.gkd y = some k) && chkE A np a c l))
    | _ => false)
  | .kget k a, c, x => (match x with
    | .Subscript (.Name y _) s _ => noSlice s && (glb c.sc y && (decide (A.gkd y = some k) && chkE A np a c s))
    | _ => false)
  | .fld _ _, _, _ => false
  | .tup es, c, x => (match x with
    | .Tuple as _ _ => decide (as.length < 1000) && chkEs A np es c as
    | _ => false)
  | .lst es, c, x => (match x with
    | .List as _ => decide (as.length < 1000) && chkEs A np es c as
    | _ => false)
  | .dct ks es, c, x => (match x with
    | .Dict keys as _ => decide (as.length ≤ 15) && (decide (as.length = ks.length) && (keysb ks keys && chkEs A np es c as))
    | _ => false)
  | .mut (.lst es), c, x => (match x with
    | .List as _ => decide (as.length < 1000) && chkEs A np es c as
    | _ => false)
  | .mut (.lc t k a b d e), c, x => (match x with
    | .ListComp elt [⟨tg, iter, ifs, 0⟩] scope _ => !decide (k = .keys) && (blkb c.vs c.sc scope (ownOf t tg) && (decide ((ownOf t tg).map (·.2) = t.slots) && (tgb (blkSc c scope) t tg && (notSet iter && (iterb c k tg (chkE A np a c) (chkE A np b c) (isNon b) iter && ((match ifs with
      | [] => (match d with
        | .lit (.bl true) => true
        | _ => false)
      | [y] => tstb y && chkE A np d (blkSc c scope) y
      | _ => false) && chkE A np e (blkSc c scope) elt))))))
    | _ => false)
  | .mut _, _, _ => false
  | .frz e, c, x => plainT x && chkE A np e c x
  | .call f es, c, x => (match x with
    | .Call (.Name y _) as [] _ => glb c.sc y && (decide (A.gfn y = some f) && (decide (as.length = np f) && (argsb as && chkEs A np es c as)))
    | _ => false)
  | .meth _ _ _, _, _ => false
  | .make _ _, _, _ => false
  | .blt b es, c, x => (match x with
    | .Call (.Name y _) (a :: as) [] _ => decide (y = bltName b) && (glb c.sc y && (argsb (a :: as) && chkEs A np es c (a :: as)))
    | _ => false)
  | .bm b a es, c, x => (match x with
    | .Call (.Attribute o y apos) as [] pos => decide (y = bmName b) && (noSuper o && ((apos.endLine == pos.line) && (argsb as && (chkE A np a c o && chkEs A np es c as))))
    | _ => false)
  | .isi a t, c, x => (match x with
    | .Call (.Name y _) [o, .Name z _] [] _ => decide (y = "isinstance") && (glb c.sc y && (decide (z = tyName t) && (glb c.sc z && (plainE o && chkE A np a c o))))
    | _ => false)
  | .lc t k a b d e, c, x => (match x with
    | .ListComp elt [⟨tg, iter, ifs, 0⟩] scope _ => !decide (k = .keys) && (blkb c.vs c.sc scope (ownOf t tg) && (decide ((ownOf t tg).map (·.2) = t.slots) && (tgb (blkSc c scope) t tg && (notSet iter && (iterb c k tg (chkE A np a c) (chkE A np b c) (isNon b) iter && ((match ifs with
      | [] => (match d with
        | .lit (.bl true) => true
        | _ => false)
      | [y] => tstb y && chkE A np d (blkSc c scope) y
      | _ => false) && chkE A np e (blkSc c scope) elt))))))
    | _ => false)
  | .rep _, _, _ => false
  | .lrg a, c, x => (match x with
    | .Call (.Name y _) [.Call (.Name z _) [o] [] _] [] _ => decide (y = "list") && (glb c.sc y && (decide (z = "range") && (glb c.sc z && (plainE o && chkE A np a c o))))
    | _ => false)
def chkEs (A : Nam) (np : Nat → Nat) : Es → Sc → List Expr → Bool
  | .nil, _, xs => (match xs with
    | [] => true
    | _ => false)
  | .cons e r, c, xs => (match xs with
    | x :: xs => plainE x && (chkE A np e c x && chkEs A np r c xs)
    | [] => false)
end
/-- what wants a sign given out before -/
def chkR (A : Nam) (np : Nat → Nat) : E → Sc → Expr → Bool
  | .rep a, c, x => (match x with
    | .Call (.Attribute o y apos) [.Constant (.str s1) _ _, .Constant (.str s2) _ _] [] pos => decide (y = "replace") && (noSuper o && ((apos.endLine == pos.line) && (decide (s1 = ⟨#[10]⟩) && (decide (s2 = ⟨#[]⟩) && chkE A np a c o))))
    | _ => false)
  | .bin op a b, c, x => (match x with
    | .BinOp l o r _ => decide (o = opOf op) && (chkR A np a c l && chkE A np b c r)
    | _ => false)
  | .slc a lo hi, c, x => (match x with
    | .Subscript l (.Slice ol oh none _) _ => chkR A np a c l && ((match ol with
      | none => isNob lo
      | some y => !isNob lo && chkE A np lo c y) && (match oh with
      | none => isNob hi
      | some y => !isNob hi && chkE A np hi c y))
    | _ => false)
  | _, _, _ => false
/-- what gives a sign out -/
def chk1 (A : Nam) (np : Nat → Nat) : S → Sc → Stmt → Bool
  | .set i (.bin op (.lit (.int k)) b), c, x => (match x with
    | .Assign [.Name y _] (.BinOp (.Constant (.int j) _ _) o r _) _ => nmb c i y && (decide (j = k) && (decide (o = opOf op) && chkE A np b c r))
    | _ => false)
  | _, _, _ => false
mutual
def chkS (A : Nam) (np : Nat → Nat) : S → Sc → Stmt → Bool
  | .set i e, c, x => (match x with
    | .Assign [.Name y p2] v _ => nmb c i y && (chkE A np e c v && (!isComp v || (decide (c.sc.names.lookup y = some .cell) || (match v with
      | .ListComp _ _ scope pos => !isFrz e && (decide (c.sc.kind = .function) && (decide (c.sc.names.lookup y = some .local) && ((p2.line == pos.line) && !(scope.names.any fun (n, k) => n == y && (k == .local || k == .cell)))))
      | _ => false))))
    | _ => false)
  | .setf _ _ _, _, _ => false
  | .seti a i e, c, x => (match x with
    | .Assign [.Subscript o s _] v _ => !isComp v && (noSlice s && (chkE A np a c o && (chkE A np i c s && chkE A np e c v)))
    | _ => false)
  | .sett is e, c, x => (match x with
    | .Assign [.Tuple ts k p] v _ => tgs c is ts && (!isComp v && (!isTup v && chkE A np e c v))
    | _ => false)
  | .setp _ _ _ _, _, _ => false
  | .exp e, c, x => (match x with
    | .Expr v _ => !isComp v && chkE A np e c v
    | _ => false)
  | .ret e, c, x => (match x with
    | .Return (some v) _ => chkE A np e c v
    | _ => false)
  | .retn, _, x => (match x with
    | .Return none _ => true
    | _ => false)
  | .ite t a b, c, x => (match x with
    | .If y l r _ => tstb y && (chkE A np t c y && (chkSs A np a c l && chkSs A np b c r))
    | _ => false)
  | .for_ t k a b s, c, x => (match x with
    | .For tg iter l [] _ => tgb c t tg && (notSet iter && (iterb c k tg (chkE A np a c) (chkE A np b c) (isNon b) iter && chkSs A np s c l))
    | _ => false)
  | .whl t s, c, x => (match x with
    | .While y l [] _ => tstb y && (chkE A np t c y && chkSs A np s c l)
    | _ => false)
  | .setr _ _, _, _ => false
  | .rse k, c, x => (match x with
    | .Raise (some (.Call (.Name y _) [.Constant (.str _) _ _] [] _)) none _ => glb c.sc y && decide (A.gexc y = some k)
    | _ => false)
def chkSs (A : Nam) (np : Nat → Nat) : Ss → Sc → List Stmt → Bool
  | .nil, _, xs => (match xs with
    | [] => true
    | _ => false)
  | .cons s r, c, xs => (match xs with
    | x :: xs => (chkS A np s c x && chkSs A np r c xs) || (chk1 A np s c x && chkST A np r c xs)
    | [] => false)
def chkST (A : Nam) (np : Nat → Nat) : Ss → Sc → List Stmt → Bool
  | .nil, _, xs => (match xs with
    | [] => true
    | _ => false)
  | .cons s r, c, xs => (match xs with
    | x :: xs => (chkS A np s c x || chkT A np s c x) && chkST A np r c xs
    | [] => false)
def chkT (A : Nam) (np : Nat → Nat) : S → Sc → Stmt → Bool
  | .setr i e, c, x => (match x with
    | .Assign [.Name y _] v _ => nmb c i y && (!isComp v && chkR A np e c v)
    | _ => false)
  | .ite t a b, c, x => (match x with
    | .If y l r _ => tstb y && (chkE A np t c y && (chkST A np a c l && chkST A np b c r))
    | _ => false)
  | _, _, _ => false
end
/-! ### what the parts say -/
section
variable {g : G} {X : Cx} {cl : Calls} {W : WX} {c : Sc} {n : Nat}
structure Ct (g : G) (X : Cx) (cl : Calls) (W : WX) (c : Sc) (n : Nat) : Prop where
  ok : Cok g X W n cl
  N : X.N = c.vs
  sc : X.env.scope = c.sc
  fc : ∀ x, c.fc x = true → X.fn x = true
theorem glb_ok (C : Ct g X cl W c n) {x : Str} (h : glb c.sc x = true) : Gl X x ∧ (x == ("__debug__" : Str)) = false := by
  unfold glb at h
  rw [Bool.and_eq_true] at h
  refine ⟨?_, by simpa using h.2⟩
  show X.env.scope.names.lookup x = _
  rw [C.sc]
  exact of_decide_eq_true h.1
theorem visb_ok (C : Ct g X cl W c n) {x : Str} (h : visb c.sc x = true) : Vis X.env.scope x := by
  unfold visb at h
  rw [C.sc]
  rw [Bool.or_eq_true, Bool.or_eq_true] at h
  rcases h with h | h | h
  · exact .inl (of_decide_eq_true h)
  · exact .inr (.inl (of_decide_eq_true h))
  · exact .inr (.inr (of_decide_eq_true h))
theorem nmb_ok (C : Ct g X cl W c n) {i : Nat} {x : Str} (h : nmb c i x = true) : NmOk X i x := by
  unfold nmb at h
  rw [Bool.and_eq_true, Bool.or_eq_true, Bool.and_eq_true] at h
  refine ⟨by rw [C.N]; exact of_decide_eq_true h.1, ?_, ?_⟩
  · rw [C.sc]
    rcases h.2 with h | h
    · exact .inl (of_decide_eq_true h)
    · exact .inr (of_decide_eq_true h.1)
  · rw [C.sc]
    rcases h.2 with h | h
    · exact .inr (of_decide_eq_true h)
    · exact .inl (C.fc x h.2)
theorem tgs_ok (C : Ct g X cl W c n) : ∀ {is : List Nat} {es : List Expr}, tgs c is es = true → ∃ ps : List (Nat × Str × Pos), is = ps.map (·.1) ∧ es = namesOf ps ∧ ∀ q ∈ ps, NmOk X q.1 q.2.1
  | [], [], _ => ⟨[], rfl, rfl, fun _ h => nomatch h⟩
  | [], _ :: _, h => nomatch h
  | _ :: _, [], h => nomatch h
  | i :: is, e :: es, h => by
    cases e <;> first | (cases h; done) | skip
    rename_i x p
    have h' : (nmb c i x && tgs c is es) = true := h
    rw [Bool.and_eq_true] at h'
    obtain ⟨ps, e1, e2, e3⟩ := tgs_ok C h'.2
    refine ⟨(i, x, p) :: ps, by rw [e1]; rfl, by rw [e2]; rfl, fun q hq => ?_⟩
    rcases List.mem_cons.mp hq with rfl | hq
    · exact nmb_ok C h'.1
    · exact e3 q hq
theorem tgb_ok (C : Ct g X cl W c n) {t : Tg} {tg : Expr} (h : tgb c t tg = true) : TgOk X t tg := by
  cases t with
  | nm i =>
    cases tg <;> first | (cases h; done) | skip
    exact .nm (nmb_ok C h)
  | tp is =>
    cases tg <;> first | (cases h; done) | skip
    obtain ⟨ps, rfl, rfl, e3⟩ := tgs_ok C (show tgs c is _ = true from h)
    exact .tp e3
theorem blkb_ok (C : Ct g X cl W c n) {scope : Scope} {own : List (Str × Nat)} (h : blkb c.vs c.sc scope own = true) : BlkOk X.N X.env.scope scope own := by
  unfold blkb at h
  simp only [Bool.and_eq_true, List.all_eq_true] at h
  obtain ⟨h1, h2, h3, h4, h5⟩ := h
  refine ⟨of_decide_eq_true h1, fun y hy => of_decide_eq_true (h2 y hy), fun p hp => by rw [C.N]; exact of_decide_eq_true (h3 p hp), fun y hy e => ?_, fun y hy e => ?_⟩
  · have := h4 y hy
    rw [e] at this
    rw [C.sc]
    simpa using this
  · have := h5 y hy
    rw [C.N]
    rcases e with e | e
    · rw [e] at this
      simpa using this
    · rw [e] at this
      simpa using this
/-- a block's context -/
theorem Ct.blk (C : Ct g X cl W c n) (scope : Scope) (s : Shared) (H0 : Hp) (L : Addr) (cs : List (Str × Addr)) (fp : List Addr) : Ct g (Bx X scope s H0 L cs fp) cl (fun _ _ _ _ => False) (blkSc c scope) n where
  ok := ⟨C.ok.facts, C.ok.calm, C.ok.nd, takes0, C.ok.room, C.ok.fns⟩
  N := C.N
  sc := by
    show relS scope X.env.scope = relS scope c.sc
    rw [C.sc]
  fc := fun x h => by
    show (scope.names.lookup x == some NameKind.cell) = true
    have h' := of_decide_eq_true (show decide (scope.names.lookup x = some NameKind.cell) = true from h)
    rw [h']
    rfl
theorem fs_ok {iter : Expr} {env : PySem.Env} (h : notSet iter = true) (x : Value) : foldedSetIterable iter env x = pure x := by
  cases iter <;> first | (cases h; done) | rfl
theorem mark_ok {op : CmpOp} {b : Expr} (h : notSet b = true) : behindInMarks op b = false := by
  cases b <;> first | (cases h; done) | rfl
theorem non_ok {e : E} (h : isNon e = true) : e = .lit .non := by
  cases e <;> first | (cases h; done) | skip
  rename_i d
  cases d <;> first | (cases h; done) | rfl
theorem iterb_ok (C : Ct g X cl W c n) {k : Ik} {e1 e2 : E} {tg iter : Expr} {f1 f2 : Expr → Bool} (h : iterb c k tg f1 f2 (isNon e2) iter = true) (h1 : ∀ a, f1 a = true → SE g X cl W e1 a) (h2 : ∀ a, f2 a = true → SE g X cl W e2 a) : SI g X cl W k e1 e2 tg iter := by
  cases k with
  | val =>
    have h' : (notSet iter && (f1 iter && isNon e2)) = true := h
    rw [Bool.and_eq_true, Bool.and_eq_true] at h'
    rw [non_ok h'.2.2]
    exact si_val (h1 _ h'.2.1)
  | rng1 =>
    cases iter <;> first | (cases h; done) | skip
    rename_i f as ks p
    unfold iterb at h
    dsimp only at h
    split at h
    · rename_i heq
      cases heq
      simp only [Bool.and_eq_true] at h
      obtain ⟨hx, hg, hp, hf, hn⟩ := h
      have hx := of_decide_eq_true hx
      subst hx
      rw [non_ok hn]
      exact si_rng1 C.ok.facts (glb_ok C hg).1 hp (h1 _ hf)
    · cases h
  | rng2 =>
    cases iter <;> first | (cases h; done) | skip
    unfold iterb at h
    dsimp only at h
    split at h
    · rename_i heq
      cases heq
      simp only [Bool.and_eq_true] at h
      obtain ⟨hx, hg, hp, hp2, hf, hf2⟩ := h
      have hx := of_decide_eq_true hx
      subst hx
      exact si_rng2 C.ok.facts (glb_ok C hg).1 hp hp2 (h1 _ hf) (h2 _ hf2)
    · cases h
  | enm =>
    cases iter <;> first | (cases h; done) | skip
    unfold iterb at h
    dsimp only at h
    split at h
    · rename_i heq
      cases heq
      simp only [Bool.and_eq_true] at h
      obtain ⟨hx, hg, ht, hp, hf, hn⟩ := h
      have hx := of_decide_eq_true hx
      subst hx
      rw [non_ok hn]
      cases tg <;> first | (cases ht; done) | skip
      exact si_enm C.ok.facts (glb_ok C hg).1 hp (h1 _ hf)
    · cases h
  | zip =>
    cases iter <;> first | (cases h; done) | skip
    unfold iterb at h
    dsimp only at h
    split at h
    · rename_i heq
      cases heq
      simp only [Bool.and_eq_true] at h
      obtain ⟨hx, hg, ht, hp, hp2, hf, hf2⟩ := h
      have hx := of_decide_eq_true hx
      subst hx
      cases tg <;> first | (cases ht; done) | skip
      exact si_zip C.ok.facts (glb_ok C hg).1 hp hp2 (h1 _ hf) (h2 _ hf2)
    · cases h
  | keys => cases h
end
end Ev

/-! part EvOk -/
set_option maxRecDepth 100000
set_option maxHeartbeats 4000000
/-! A checked text runs as the small machine says. -/
namespace Ev
open PySem PySem.Spec PyProof.Rows L2
section
variable {g : G} {cl : Calls} {n : Nat}
def Bo (g : G) (cl : Calls) (X : Cx) (W : WX) (e : E) (a : Expr) : Prop := SE g X cl W e a ∧ (tstb a = true → ST g X cl W e a)
theorem bo_val {X : Cx} {W : WX} {e : E} {a : Expr} (p : plainT a = true) (s : SE g X cl W e a) : Bo g cl X W e a := ⟨s, fun _ => st_val p s⟩
def np (g : G) (f : Nat) : Nat := (g.fps f).length
theorem es_nil {A : Nam} {m : Nat → Nat} {es : Es} {c : Sc} (h : chkEs A m es c [] = true) : es = .nil := by
  cases es with
  | nil => rfl
  | cons e r =>
    unfold chkEs at h
    cases h
theorem litb_ok {X : Cx} {W : WX} {d : D} {v : Const} {k : Nat} {pos : Pos} (h : litb d v = true) : SE g X cl W (.lit d) (.Constant v k pos) := by
  cases d <;> cases v <;> first | (cases h; done) | skip
  · exact se_non
  · rename_i a b
    have e : a = b := by simpa [litb] using h
    subst e
    exact se_bl
  · rename_i a b
    have e : a = b := by simpa [litb] using h
    subst e
    exact se_int
  · rename_i a b
    have e : a = b.cps.toList := by simpa [litb] using h
    subst e
    exact se_str
theorem se_dct0 {X : Cx} {W : WX} {pos : Pos} : SE g X cl W (.dct [] .nil) (.Dict [] [] pos) := fun B σ v ρ h H Q r S p => by
  have p' : Post X.K g.N B W ρ h H (.ok (.ref h.n) (h.new (.dct []))) (kV' X.K B Q) := p
  refine wE.of pe_dnewK fun q hq => ?_
  have E := ext_mk (x := .dct []) (u := .dK []) S hq
  exact p' (rset ρ h.n q) _ (S.mk' hq ⟨[], upd_same, rfl⟩) E (.ref q) ⟨Nat.lt_succ_self _, by rw [show (vw X.K B (rset ρ h.n q) (h.new (.dct [])) (upd H q (.dK []))).ρ h.n = q from rset_same]⟩
inductive SEl (g : G) (X : Cx) (cl : Calls) (W : WX) : Es → List Expr → Prop where
  | nil : SEl g X cl W .nil []
  | cons {e : E} {a : Expr} {es : Es} {as : List Expr} (s : SE g X cl W e a) (r : SEl g X cl W es as) : SEl g X cl W (.cons e es) (a :: as)
theorem psok_of {X : Cx} {W : WX} : ∀ {ks : List (List Nat)} {keys : List (Option Expr)} {es : Es} {as : List Expr}, keysb ks keys = true → SEl g X cl W es as → as.length = ks.length → PsOk g X cl W ks es keys as
  | [], [], _, _, _, .nil, _ => .nil
  | [], [], _, _, _, .cons _ _, hl => by simp at hl
  | [], _ :: _, _, _, h, _, _ => nomatch h
  | _ :: _, [], _, _, h, _, _ => nomatch h
  | _ :: _, _ :: _, _, _, _, .nil, hl => by simp at hl
  | k :: ks, e :: keys, _, _, h, .cons s r, hl => by
    unfold keysb at h
    split at h
    · rename_i sx j p
      rw [Bool.and_eq_true] at h
      have e1 : k = sx.cps.toList := by simpa using h.1
      subst e1
      exact .cons s (psok_of h.2 r (by simpa using hl))
    · cases h
/-- a comprehension's parts -/
structure Lp (g : G) (X : Cx) (cl : Calls) (W : WX) (t : Tg) (k : Ik) (a b d e : E) (elt tg iter : Expr) (ifs : List Expr) (scope : Scope) : Prop where
  nk : k ≠ .keys
  blk : BlkOk X.N X.env.scope scope (ownOf t tg)
  own : (ownOf t tg).map (·.2) = t.slots
  tgt : ∀ s H0 C cs fp, TgOk (Bx X scope s H0 C cs fp) t tg
  fs : ∀ x, foldedSetIterable iter X.env x = pure x
  it : SI g X cl W k a b tg iter
  ifs : IfOk g X cl scope d ifs
  elt : ∀ s H0 C cs fp, SE g (Bx X scope s H0 C cs fp) cl (fun _ _ _ _ => False) e elt
def chkL (A : Nam) (m : Nat → Nat) (t : Tg) (k : Ik) (a b d e : E) (c : Sc) (elt tg iter : Expr) (ifs : List Expr) (scope : Scope) : Bool :=
  !decide (k = .keys) && (blkb c.vs c.sc scope (ownOf t tg) && (decide ((ownOf t tg).map (·.2) = t.slots) && (tgb (blkSc c scope) t tg && (notSet iter && (iterb c k tg (chkE A m a c) (chkE A m b c) (isNon b) iter && ((match ifs with
      | [] => (match d with
        | .lit (.bl true) => true
        | _ => false)
      | [y] => tstb y && chkE A m d (blkSc c scope) y
      | _ => false) && chkE A m e (blkSc c scope) elt))))))
theorem lp_ok {X : Cx} {W : WX} {c : Sc} (C : Ct g X cl W c n) {t : Tg} {k : Ik} {a b d e : E} {elt tg iter : Expr} {ifs : List Expr} {scope : Scope} (h : chkL g.A (np g) t k a b d e c elt tg iter ifs scope = true)
    (ia : ∀ (X : Cx) (W : WX) (c : Sc) (x : Expr), Ct g X cl W c n → chkE g.A (np g) a c x = true → Bo g cl X W a x) (ib : ∀ (X : Cx) (W : WX) (c : Sc) (x : Expr), Ct g X cl W c n → chkE g.A (np g) b c x = true → Bo g cl X W b x)
    (id : ∀ (X : Cx) (W : WX) (c : Sc) (x : Expr), Ct g X cl W c n → chkE g.A (np g) d c x = true → Bo g cl X W d x) (ie : ∀ (X : Cx) (W : WX) (c : Sc) (x : Expr), Ct g X cl W c n → chkE g.A (np g) e c x = true → Bo g cl X W e x) : Lp g X cl W t k a b d e elt tg iter ifs scope := by
  unfold chkL at h
  rw [Bool.and_eq_true, Bool.and_eq_true, Bool.and_eq_true, Bool.and_eq_true, Bool.and_eq_true, Bool.and_eq_true, Bool.and_eq_true] at h
  obtain ⟨h1, h2, h3, h4, h5, h6, h7, h8⟩ := h
  refine ⟨by simpa using h1, blkb_ok C h2, of_decide_eq_true h3, fun s H0 L cs fp => tgb_ok (C.blk scope s H0 L cs fp) h4, fs_ok h5, iterb_ok C h6 (fun x hx => (ia X W c x C hx).1) (fun x hx => (ib X W c x C hx).1), ?_, fun s H0 L cs fp => (ie _ _ _ elt (C.blk scope s H0 L cs fp) h8).1⟩
  split at h7
  · split at h7
    · exact .no
    · cases h7
  · rw [Bool.and_eq_true] at h7
    exact .one fun s H0 L cs fp => (id _ _ _ _ (C.blk scope s H0 L cs fp) h7.2).2 h7.1
  · cases h7
mutual
theorem chkE_ok : ∀ (e : E) (X : Cx) (W : WX) (c : Sc) (a : Expr), Ct g X cl W c n → chkE g.A (np g) e c a = true → Bo g cl X W e a
  | .var i, X, W, c, a, C, h => by
    unfold chkE at h
    split at h
    · simp only [Bool.and_eq_true] at h
      obtain ⟨h1, h2, h3, h4⟩ := h
      exact bo_val rfl (se_var (by rw [C.N]; exact of_decide_eq_true h1) (visb_ok C h2) (by simpa using h3) (by simpa using h4))
    · cases h
  | .con k, X, W, c, a, C, h => by
    unfold chkE at h
    split at h
    · rw [Bool.and_eq_true] at h
      obtain ⟨h1, h2⟩ := glb_ok C h.1
      exact bo_val rfl (se_con C.ok.facts h1 (of_decide_eq_true h.2) h2)
    · cases h
  | .lit d, X, W, c, a, C, h => by
    unfold chkE at h
    split at h
    · exact bo_val rfl (litb_ok h)
    · cases h
  | .bin op a b, X, W, c, x, C, h => by
    unfold chkE at h
    split at h
    · rw [Bool.and_eq_true, Bool.and_eq_true] at h
      obtain ⟨h1, h2, h3⟩ := h
      have h1 := of_decide_eq_true h1
      subst h1
      exact bo_val rfl (se_bin (chkE_ok a X W c _ C h2).1 (chkE_ok b X W c _ C h3).1)
    · cases h
  | .neg a, X, W, c, x, C, h => by
    unfold chkE at h
    split at h
    · exact bo_val rfl (se_neg (chkE_ok a X W c _ C h).1)
    · cases h
  | .not a, X, W, c, x, C, h => by
    unfold chkE at h
    split at h
    · rw [Bool.and_eq_true] at h
      have i := chkE_ok a X W c _ C h.2
      exact ⟨se_not i.1, fun _ => st_not (i.2 h.1)⟩
    · cases h
  | .and a b, X, W, c, x, C, h => by
    unfold chkE at h
    split at h
    · rw [Bool.and_eq_true, Bool.and_eq_true] at h
      obtain ⟨h1, h2, h3⟩ := h
      have i := chkE_ok a X W c _ C h2
      split at h3
      · rw [Bool.and_eq_true] at h3
        have j := chkE_ok b X W c _ C h3.2
        exact ⟨se_and i.1 (se_last j.1), fun _ => st_and (i.2 h1) (st_lastA (j.2 h3.1))⟩
      · have j := chkE_ok b X W c _ C h3
        exact ⟨se_and i.1 j.1, fun _ => st_and (i.2 h1) (j.2 rfl)⟩
    · cases h
  | .or a b, X, W, c, x, C, h => by
    unfold chkE at h
    split at h
    · rw [Bool.and_eq_true, Bool.and_eq_true] at h
      obtain ⟨h1, h2, h3⟩ := h
      have i := chkE_ok a X W c _ C h2
      split at h3
      · rw [Bool.and_eq_true] at h3
        have j := chkE_ok b X W c _ C h3.2
        exact ⟨se_or i.1 (se_last j.1), fun _ => st_or (i.2 h1) (st_lastO (j.2 h3.1))⟩
      · have j := chkE_ok b X W c _ C h3
        exact ⟨se_or i.1 j.1, fun _ => st_or (i.2 h1) (j.2 rfl)⟩
    · cases h
  | .cmp op a b, X, W, c, x, C, h => by
    unfold chkE at h
    split at h
    · rw [Bool.and_eq_true, Bool.and_eq_true, Bool.and_eq_true] at h
      obtain ⟨h1, h2, h3, h4⟩ := h
      have h1 := of_decide_eq_true h1
      subst h1
      have i := (chkE_ok a X W c _ C h3).1
      have j := (chkE_ok b X W c _ C h4).1
      exact ⟨se_cmp C.ok.hu i j (mark_ok h2), fun _ => st_cmp C.ok.hu i j (mark_ok h2)⟩
    · cases h
  | .chn p q a b d, X, W, c, x, C, h => by
    unfold chkE at h
    split at h
    · rw [Bool.and_eq_true, Bool.and_eq_true, Bool.and_eq_true, Bool.and_eq_true, Bool.and_eq_true] at h
      obtain ⟨h1, h2, h3, h4, h5, h6⟩ := h
      have h1 := of_decide_eq_true h1
      have h2 := of_decide_eq_true h2
      subst h1 h2
      have i := (chkE_ok a X W c _ C h4).1
      have j := (chkE_ok b X W c _ C h5).1
      have l := (chkE_ok d X W c _ C h6).1
      exact ⟨se_chn C.ok.hu i j l (mark_ok h3), fun _ => st_chn C.ok.hu i j l (mark_ok h3)⟩
    · cases h
  | .isn a, X, W, c, x, C, h => by
    unfold chkE at h
    split at h
    · have i := (chkE_ok a X W c _ C h).1
      exact ⟨se_isn i, fun _ => st_isn i⟩
    · cases h
  | .ntn a, X, W, c, x, C, h => by
    unfold chkE at h
    split at h
    · have i := (chkE_ok a X W c _ C h).1
      exact ⟨se_ntn i, fun _ => st_ntn i⟩
    · cases h
  | .ife t a b, X, W, c, x, C, h => by
    unfold chkE at h
    split at h
    · rw [Bool.and_eq_true, Bool.and_eq_true, Bool.and_eq_true] at h
      obtain ⟨h1, h2, h3, h4⟩ := h
      exact ⟨se_ife ((chkE_ok t X W c _ C h2).2 h1) (chkE_ok a X W c _ C h3).1 (chkE_ok b X W c _ C h4).1, fun z => nomatch z⟩
    · cases h
  | .sub a i, X, W, c, x, C, h => by
    unfold chkE at h
    split at h
    · rw [Bool.and_eq_true, Bool.and_eq_true] at h
      obtain ⟨h1, h2, h3⟩ := h
      exact bo_val rfl (se_sub C.ok.hu1 (chkE_ok a X W c _ C h2).1 (chkE_ok i X W c _ C h3).1 h1)
    · cases h
  | .slc a lo hi, X, W, c, x, C, h => by
    unfold chkE at h
    split at h
    · rw [Bool.and_eq_true, Bool.and_eq_true] at h
      obtain ⟨h1, h2, h3⟩ := h
      refine bo_val rfl (se_slc (chkE_ok a X W c _ C h1).1 ?_ ?_)
      · split at h2
        · exact so_none h2
        · rw [Bool.and_eq_true] at h2
          exact so_some (by simpa using h2.1) (chkE_ok lo X W c _ C h2.2).1
      · split at h3
        · exact so_none h3
        · rw [Bool.and_eq_true] at h3
          exact so_some (by simpa using h3.1) (chkE_ok hi X W c _ C h3.2).1
    · cases h
  | .nob, X, W, c, x, C, h => by
    unfold chkE at h
    cases h
  | .rev a, X, W, c, x, C, h => by
    unfold chkE at h
    split at h
    · rw [Bool.and_eq_true] at h
      have h1 := of_decide_eq_true h.1
      subst h1
      exact bo_val rfl (se_rev (chkE_ok a X W c _ C h.2).1)
    · cases h
  | .kin neg k a, X, W, c, x, C, h => by
    unfold chkE at h
    split at h
    · rw [Bool.and_eq_true, Bool.and_eq_true, Bool.and_eq_true] at h
      obtain ⟨h1, h2, h3, h4⟩ := h
      have h1 := of_decide_eq_true h1
      subst h1
      obtain ⟨q1, q2⟩ := glb_ok C h2
      have i := (chkE_ok a X W c _ C h4).1
      exact ⟨se_kin C.ok.facts q1 (of_decide_eq_true h3) q2 i, fun _ => st_kin C.ok.facts q1 (of_decide_eq_true h3) q2 i⟩
    · cases h
  | .kget k a, X, W, c, x, C, h => by
    unfold chkE at h
    split at h
    · rw [Bool.and_eq_true, Bool.and_eq_true, Bool.and_eq_true] at h
      obtain ⟨h1, h2, h3, h4⟩ := h
      obtain ⟨q1, q2⟩ := glb_ok C h2
      exact bo_val rfl (se_kget C.ok.facts q1 (of_decide_eq_true h3) q2 h1 (chkE_ok a X W c _ C h4).1)
    · cases h
  | .fld _ _, X, W, c, x, C, h => by
    unfold chkE at h
    cases h
  | .tup es, X, W, c, x, C, h => by
    unfold chkE at h
    split at h
    · rw [Bool.and_eq_true] at h
      exact bo_val rfl (se_tup (of_decide_eq_true h.1) (chkEs_ok es X W c _ C h.2).1)
    · cases h
  | .lst es, X, W, c, x, C, h => by
    unfold chkE at h
    split at h
    · rw [Bool.and_eq_true] at h
      exact bo_val rfl (se_lst (of_decide_eq_true h.1) (chkEs_ok es X W c _ C h.2).1)
    · cases h
  | .dct ks es, X, W, c, x, C, h => by
    unfold chkE at h
    split at h
    · rename_i keys as pos
      rw [Bool.and_eq_true, Bool.and_eq_true, Bool.and_eq_true] at h
      obtain ⟨h1, h0, h2, h3⟩ := h
      have i := (chkEs_ok es X W c _ C h3).2
      have j := psok_of (g := g) h2 i (by simpa using h0)
      have h15 := of_decide_eq_true h1
      obtain ⟨_, _, q3, _⟩ := pps_ok (pos := pos) j
      cases j with
      | nil => exact bo_val rfl se_dct0
      | cons s r => exact bo_val rfl (se_dct (.cons s r) (by simp) (by omega))
    · cases h
  | .mut (.lst es), X, W, c, x, C, h => by
    unfold chkE at h
    split at h
    · rw [Bool.and_eq_true] at h
      exact bo_val rfl (se_mutl (of_decide_eq_true h.1) (chkEs_ok es X W c _ C h.2).1)
    · cases h
  | .mut (.lc t k a b d e), X, W, c, x, C, h => by
    unfold chkE at h
    split at h
    · have l := lp_ok C h (fun X W c x => chkE_ok a X W c x) (fun X W c x => chkE_ok b X W c x) (fun X W c x => chkE_ok d X W c x) (fun X W c x => chkE_ok e X W c x)
      exact bo_val rfl (se_mutlc l.nk C.ok.calm C.ok.nd l.it l.blk l.own l.tgt l.ifs l.elt l.fs)
    · cases h
  | .frz e, X, W, c, x, C, h => by
    unfold chkE at h
    rw [Bool.and_eq_true] at h
    exact bo_val h.1 (se_frz (chkE_ok e X W c _ C h.2).1)
  | .call f es, X, W, c, x, C, h => by
    unfold chkE at h
    split at h
    · rename_i y p as pos
      rw [Bool.and_eq_true, Bool.and_eq_true, Bool.and_eq_true, Bool.and_eq_true] at h
      obtain ⟨h1, h2, h3, h4, h5⟩ := h
      obtain ⟨q1, q2⟩ := glb_ok C h1
      unfold argsb at h4
      rw [Bool.and_eq_true] at h4
      have hl := of_decide_eq_true h3
      cases as with
      | nil =>
        have e1 := es_nil h5
        subst e1
        exact bo_val rfl (se_call0 C.ok q1 (of_decide_eq_true h2) q2 hl.symm)
      | cons z zs => exact bo_val rfl (se_call C.ok q1 (of_decide_eq_true h2) q2 h4.1 hl (chkEs_ok es X W c _ C h5).1)
    · cases h
  | .meth _ _ _, X, W, c, x, C, h => by
    unfold chkE at h
    cases h
  | .make _ _, X, W, c, x, C, h => by
    unfold chkE at h
    cases h
  | .blt b es, X, W, c, x, C, h => by
    unfold chkE at h
    split at h
    · rw [Bool.and_eq_true, Bool.and_eq_true, Bool.and_eq_true] at h
      obtain ⟨h1, h2, h3, h4⟩ := h
      have h1 := of_decide_eq_true h1
      subst h1
      obtain ⟨q1, q2⟩ := glb_ok C h2
      unfold argsb at h3
      rw [Bool.and_eq_true] at h3
      exact bo_val rfl (se_blt C.ok.facts C.ok.calm C.ok.hu q1 h3.1 (chkEs_ok es X W c _ C h4).1)
    · cases h
  | .bm b a es, X, W, c, x, C, h => by
    unfold chkE at h
    split at h
    · rename_i o y apos as pos
      rw [Bool.and_eq_true, Bool.and_eq_true, Bool.and_eq_true, Bool.and_eq_true, Bool.and_eq_true] at h
      obtain ⟨h1, h2, h3, h4, h5, h6⟩ := h
      have h1 := of_decide_eq_true h1
      subst h1
      unfold argsb at h4
      rw [Bool.and_eq_true] at h4
      cases as with
      | nil =>
        have e1 := es_nil h6
        subst e1
        exact bo_val rfl (se_bm0 C.ok.hu1 h2 h3 (chkE_ok a X W c _ C h5).1)
      | cons z zs => exact bo_val rfl (se_bm C.ok.hu1 h2 h3 h4.1 (of_decide_eq_true h4.2) (chkE_ok a X W c _ C h5).1 (chkEs_ok es X W c _ C h6).1)
    · cases h
  | .isi a t, X, W, c, x, C, h => by
    unfold chkE at h
    split at h
    · rw [Bool.and_eq_true, Bool.and_eq_true, Bool.and_eq_true, Bool.and_eq_true, Bool.and_eq_true] at h
      obtain ⟨h1, h2, h3, h4, h5, h6⟩ := h
      have h1 := of_decide_eq_true h1
      have h3 := of_decide_eq_true h3
      subst h1 h3
      exact bo_val rfl (se_isi C.ok.facts (glb_ok C h2).1 (glb_ok C h4).1 h5 (chkE_ok a X W c _ C h6).1)
    · cases h
  | .lc t k a b d e, X, W, c, x, C, h => by
    unfold chkE at h
    split at h
    · have l := lp_ok C h (fun X W c x => chkE_ok a X W c x) (fun X W c x => chkE_ok b X W c x) (fun X W c x => chkE_ok d X W c x) (fun X W c x => chkE_ok e X W c x)
      exact bo_val rfl (se_lc l.nk C.ok.calm C.ok.nd l.it l.blk l.own l.tgt l.ifs l.elt l.fs)
    · cases h
  | .rep _, X, W, c, x, C, h => by
    unfold chkE at h
    cases h
  | .lrg a, X, W, c, x, C, h => by
    unfold chkE at h
    split at h
    · rw [Bool.and_eq_true, Bool.and_eq_true, Bool.and_eq_true, Bool.and_eq_true, Bool.and_eq_true] at h
      obtain ⟨h1, h2, h3, h4, h5, h6⟩ := h
      have h1 := of_decide_eq_true h1
      have h3 := of_decide_eq_true h3
      subst h1 h3
      exact bo_val rfl (se_lrg C.ok.facts C.ok.calm (glb_ok C h2).1 (glb_ok C h4).1 h5 (chkE_ok a X W c _ C h6).1)
    · cases h
  | .mut (.rep _), X, W, c, x, C, h => by unfold chkE at h; cases h
  | .mut (.lrg _), X, W, c, x, C, h => by unfold chkE at h; cases h
  | .mut (.var _), X, W, c, x, C, h => by unfold chkE at h; cases h
  | .mut (.con _), X, W, c, x, C, h => by unfold chkE at h; cases h
  | .mut (.lit _), X, W, c, x, C, h => by unfold chkE at h; cases h
  | .mut (.bin _ _ _), X, W, c, x, C, h => by unfold chkE at h; cases h
  | .mut (.neg _), X, W, c, x, C, h => by unfold chkE at h; cases h
  | .mut (.not _), X, W, c, x, C, h => by unfold chkE at h; cases h
  | .mut (.and _ _), X, W, c, x, C, h => by unfold chkE at h; cases h
  | .mut (.or _ _), X, W, c, x, C, h => by unfold chkE at h; cases h
  | .mut (.cmp _ _ _), X, W, c, x, C, h => by unfold chkE at h; cases h
  | .mut (.chn _ _ _ _ _), X, W, c, x, C, h => by unfold chkE at h; cases h
  | .mut (.isn _), X, W, c, x, C, h => by unfold chkE at h; cases h
  | .mut (.ntn _), X, W, c, x, C, h => by unfold chkE at h; cases h
  | .mut (.ife _ _ _), X, W, c, x, C, h => by unfold chkE at h; cases h
  | .mut (.sub _ _), X, W, c, x, C, h => by unfold chkE at h; cases h
  | .mut (.slc _ _ _), X, W, c, x, C, h => by unfold chkE at h; cases h
  | .mut .nob, X, W, c, x, C, h => by unfold chkE at h; cases h
  | .mut (.rev _), X, W, c, x, C, h => by unfold chkE at h; cases h
  | .mut (.kin _ _ _), X, W, c, x, C, h => by unfold chkE at h; cases h
  | .mut (.kget _ _), X, W, c, x, C, h => by unfold chkE at h; cases h
  | .mut (.fld _ _), X, W, c, x, C, h => by unfold chkE at h; cases h
  | .mut (.tup _), X, W, c, x, C, h => by unfold chkE at h; cases h
  | .mut (.dct _ _), X, W, c, x, C, h => by unfold chkE at h; cases h
  | .mut (.mut _), X, W, c, x, C, h => by unfold chkE at h; cases h
  | .mut (.frz _), X, W, c, x, C, h => by unfold chkE at h; cases h
  | .mut (.call _ _), X, W, c, x, C, h => by unfold chkE at h; cases h
  | .mut (.meth _ _ _), X, W, c, x, C, h => by unfold chkE at h; cases h
  | .mut (.make _ _), X, W, c, x, C, h => by unfold chkE at h; cases h
  | .mut (.blt _ _), X, W, c, x, C, h => by unfold chkE at h; cases h
  | .mut (.bm _ _ _), X, W, c, x, C, h => by unfold chkE at h; cases h
  | .mut (.isi _ _), X, W, c, x, C, h => by unfold chkE at h; cases h
theorem chkEs_ok : ∀ (es : Es) (X : Cx) (W : WX) (c : Sc) (as : List Expr), Ct g X cl W c n → chkEs g.A (np g) es c as = true → SA g X cl W es as ∧ SEl g X cl W es as
  | .nil, X, W, c, as, C, h => by
    unfold chkEs at h
    split at h
    · exact ⟨sa_nil, .nil⟩
    · cases h
  | .cons e r, X, W, c, as, C, h => by
    unfold chkEs at h
    split at h
    · rw [Bool.and_eq_true, Bool.and_eq_true] at h
      have i := (chkE_ok e X W c _ C h.2.1).1
      have j := chkEs_ok r X W c _ C h.2.2
      exact ⟨sa_cons h.1 i j.1, .cons i j.2⟩
    · cases h
end
theorem chkR_ok : ∀ (e : E) (X : Cx) (W : WX) (c : Sc) (a : Expr), Ct g X cl W c n → chkR g.A (np g) e c a = true → SET g X cl W e a
  | .rep a, X, W, c, x, C, h => by
    unfold chkR at h
    split at h
    · simp only [Bool.and_eq_true] at h
      obtain ⟨h1, h2, h3, h4, h5, h6⟩ := h
      have h1 := of_decide_eq_true h1
      subst h1
      exact set_rep h2 h3 (of_decide_eq_true h4) (of_decide_eq_true h5) (chkE_ok a X W c _ C h6).1
    · cases h
  | .bin op a b, X, W, c, x, C, h => by
    unfold chkR at h
    split at h
    · simp only [Bool.and_eq_true] at h
      obtain ⟨h1, h2, h3⟩ := h
      have h1 := of_decide_eq_true h1
      subst h1
      exact set_bin (chkR_ok a X W c _ C h2) (chkE_ok b X W c _ C h3).1
    · cases h
  | .slc a lo hi, X, W, c, x, C, h => by
    unfold chkR at h
    split at h
    · rename_i l ol oh p2 pos
      simp only [Bool.and_eq_true] at h
      obtain ⟨h1, h2, h3⟩ := h
      refine set_slc (chkR_ok a X W c _ C h1) ?_ ?_
      · split at h2
        · exact so_none h2
        · rw [Bool.and_eq_true] at h2
          exact so_some (by simpa using h2.1) (chkE_ok lo X W c _ C h2.2).1
      · split at h3
        · exact so_none h3
        · rw [Bool.and_eq_true] at h3
          exact so_some (by simpa using h3.1) (chkE_ok hi X W c _ C h3.2).1
    · cases h
  | .var _, _, _, _, _, _, h => by unfold chkR at h; cases h
  | .con _, _, _, _, _, _, h => by unfold chkR at h; cases h
  | .lit _, _, _, _, _, _, h => by unfold chkR at h; cases h
  | .neg _, _, _, _, _, _, h => by unfold chkR at h; cases h
  | .not _, _, _, _, _, _, h => by unfold chkR at h; cases h
  | .and _ _, _, _, _, _, _, h => by unfold chkR at h; cases h
  | .or _ _, _, _, _, _, _, h => by unfold chkR at h; cases h
  | .cmp _ _ _, _, _, _, _, _, h => by unfold chkR at h; cases h
  | .chn _ _ _ _ _, _, _, _, _, _, h => by unfold chkR at h; cases h
  | .isn _, _, _, _, _, _, h => by unfold chkR at h; cases h
  | .ntn _, _, _, _, _, _, h => by unfold chkR at h; cases h
  | .ife _ _ _, _, _, _, _, _, h => by unfold chkR at h; cases h
  | .sub _ _, _, _, _, _, _, h => by unfold chkR at h; cases h
  | .nob, _, _, _, _, _, h => by unfold chkR at h; cases h
  | .rev _, _, _, _, _, _, h => by unfold chkR at h; cases h
  | .kin _ _ _, _, _, _, _, _, h => by unfold chkR at h; cases h
  | .kget _ _, _, _, _, _, _, h => by unfold chkR at h; cases h
  | .fld _ _, _, _, _, _, _, h => by unfold chkR at h; cases h
  | .tup _, _, _, _, _, _, h => by unfold chkR at h; cases h
  | .lst _, _, _, _, _, _, h => by unfold chkR at h; cases h
  | .dct _ _, _, _, _, _, _, h => by unfold chkR at h; cases h
  | .mut _, _, _, _, _, _, h => by unfold chkR at h; cases h
  | .frz _, _, _, _, _, _, h => by unfold chkR at h; cases h
  | .call _ _, _, _, _, _, _, h => by unfold chkR at h; cases h
  | .meth _ _ _, _, _, _, _, _, h => by unfold chkR at h; cases h
  | .make _ _, _, _, _, _, _, h => by unfold chkR at h; cases h
  | .blt _ _, _, _, _, _, _, h => by unfold chkR at h; cases h
  | .bm _ _ _, _, _, _, _, _, h => by unfold chkR at h; cases h
  | .isi _ _, _, _, _, _, _, h => by unfold chkR at h; cases h
  | .lc _ _ _ _ _ _, _, _, _, _, _, h => by unfold chkR at h; cases h
  | .lrg _, _, _, _, _, _, h => by unfold chkR at h; cases h
theorem chk1_ok (s : S) (X : Cx) (W : WX) (c : Sc) (st : Stmt) (C : Ct g X cl W c n) (h : chk1 g.A (np g) s c st = true) : SS1 g X cl W s st := by
  unfold chk1 at h
  split at h
  · split at h
    · simp only [Bool.and_eq_true] at h
      obtain ⟨h1, h2, h3, h4⟩ := h
      have h2 := of_decide_eq_true h2
      have h3 := of_decide_eq_true h3
      subst h2 h3
      exact ss1_set C.ok.nd (nmb_ok C h1) (chkE_ok _ X W c _ C h4).1
    · cases h
  · cases h
mutual
theorem chkS_ok : ∀ (s : S) (X : Cx) (W : WX) (c : Sc) (st : Stmt), Ct g X cl W c n → PassesOwn (model X.prog X.w) X.A X.env X.xe → chkS g.A (np g) s c st = true → SS g X cl W s st
  | .set i e, X, W, c, x, C, P, h => by
    unfold chkS at h
    split at h
    · rename_i y p2 v p3
      rw [Bool.and_eq_true, Bool.and_eq_true] at h
      obtain ⟨h1, h2, h3⟩ := h
      have hn := nmb_ok C h1
      rw [Bool.or_eq_true, Bool.or_eq_true] at h3
      rcases h3 with h3 | h3 | h3
      · exact ss_set C.ok.nd hn (by simpa using h3) (chkE_ok e X W c _ C h2).1
      · exact ss_setc C.ok.nd hn (by rw [C.sc]; exact of_decide_eq_true h3) (chkE_ok e X W c _ C h2).1
      · split at h3
        · rename_i elt gens scope pos
          rw [Bool.and_eq_true, Bool.and_eq_true, Bool.and_eq_true, Bool.and_eq_true] at h3
          obtain ⟨k0, k1, k2, k3, k4⟩ := h3
          have k1 : X.env.scope.kind = .function := by rw [C.sc]; exact of_decide_eq_true k1
          have k2 : X.env.scope.names.lookup y = some .local := by rw [C.sc]; exact of_decide_eq_true k2
          have k4 : (scope.names.any fun (n, k) => n == y && (k == .local || k == .cell)) = false := by simpa using k4
          cases e <;> first | (unfold chkE at h2; cases h2; done) | skip
          · rename_i e
            cases e <;> first | (unfold chkE at h2; cases h2; done) | skip
            unfold chkE at h2
            split at h2
            · rename_i heq
              cases heq
              have l := lp_ok (W := W) C h2 (fun X W c x => chkE_ok _ X W c x) (fun X W c x => chkE_ok _ X W c x) (fun X W c x => chkE_ok _ X W c x) (fun X W c x => chkE_ok _ X W c x)
              exact ss_setml l.nk C.ok.calm C.ok.nd hn k2 k1 k3 k4 l.it l.blk l.own l.tgt l.ifs l.elt l.fs
            · cases h2
          · cases k0
          · unfold chkE at h2
            split at h2
            · rename_i heq
              cases heq
              have l := lp_ok (W := W) C h2 (fun X W c x => chkE_ok _ X W c x) (fun X W c x => chkE_ok _ X W c x) (fun X W c x => chkE_ok _ X W c x) (fun X W c x => chkE_ok _ X W c x)
              exact ss_setl l.nk C.ok.calm C.ok.nd hn k2 k1 k3 k4 l.it l.blk l.own l.tgt l.ifs l.elt l.fs
            · cases h2
        · cases h3
    · cases h
  | .setf _ _ _, X, W, c, x, C, P, h => by
    unfold chkS at h
    cases h
  | .seti a i e, X, W, c, x, C, P, h => by
    unfold chkS at h
    split at h
    · rw [Bool.and_eq_true, Bool.and_eq_true, Bool.and_eq_true, Bool.and_eq_true] at h
      obtain ⟨h1, h2, h3, h4, h5⟩ := h
      exact ss_seti C.ok.hu1 (by simpa using h1) h2 (chkE_ok a X W c _ C h3).1 (chkE_ok i X W c _ C h4).1 (chkE_ok e X W c _ C h5).1
    · cases h
  | .sett is e, X, W, c, x, C, P, h => by
    unfold chkS at h
    split at h
    · rw [Bool.and_eq_true, Bool.and_eq_true, Bool.and_eq_true] at h
      obtain ⟨h1, h2, h3, h4⟩ := h
      exact ss_sett C.ok.calm C.ok.nd (tgb_ok (t := .tp is) C h1) (by simpa using h2) (by simpa using h3) (chkE_ok e X W c _ C h4).1
    · cases h
  | .setp _ _ _ _, X, W, c, x, C, P, h => by
    unfold chkS at h
    cases h
  | .exp e, X, W, c, x, C, P, h => by
    unfold chkS at h
    split at h
    · rw [Bool.and_eq_true] at h
      exact ss_exp (by simpa using h.1) (chkE_ok e X W c _ C h.2).1
    · cases h
  | .ret e, X, W, c, x, C, P, h => by
    unfold chkS at h
    split at h
    · exact ss_ret (chkE_ok e X W c _ C h).1
    · cases h
  | .retn, X, W, c, x, C, P, h => by
    unfold chkS at h
    split at h
    · exact ss_retn
    · cases h
  | .ite t a b, X, W, c, x, C, P, h => by
    unfold chkS at h
    split at h
    · rw [Bool.and_eq_true, Bool.and_eq_true, Bool.and_eq_true] at h
      obtain ⟨h1, h2, h3, h4⟩ := h
      exact ss_ite ((chkE_ok t X W c _ C h2).2 h1) (chkSs_ok a X W c _ C P h3) (chkSs_ok b X W c _ C P h4)
    · cases h
  | .for_ t k a b s, X, W, c, x, C, P, h => by
    unfold chkS at h
    split at h
    · rw [Bool.and_eq_true, Bool.and_eq_true, Bool.and_eq_true] at h
      obtain ⟨h1, h2, h3, h4⟩ := h
      exact ss_for P C.ok.calm C.ok.nd (iterb_ok C h3 (fun x hx => (chkE_ok a X W c x C hx).1) (fun x hx => (chkE_ok b X W c x C hx).1)) (tgb_ok C h1) (chkSs_ok s X W c _ C P h4) (fs_ok h2)
    · cases h
  | .whl t s, X, W, c, x, C, P, h => by
    unfold chkS at h
    split at h
    · rw [Bool.and_eq_true, Bool.and_eq_true] at h
      obtain ⟨h1, h2, h3⟩ := h
      exact ss_whl P ((chkE_ok t X W c _ C h2).2 h1) (chkSs_ok s X W c _ C P h3)
    · cases h
  | .setr _ _, X, W, c, x, C, P, h => by
    unfold chkS at h
    cases h
  | .rse k, X, W, c, x, C, P, h => by
    unfold chkS at h
    split at h
    · rw [Bool.and_eq_true] at h
      obtain ⟨q1, q2⟩ := glb_ok C h.1
      exact ss_rse C.ok q1 (of_decide_eq_true h.2) q2
    · cases h
theorem chkSs_ok : ∀ (ss : Ss) (X : Cx) (W : WX) (c : Sc) (sts : List Stmt), Ct g X cl W c n → PassesOwn (model X.prog X.w) X.A X.env X.xe → chkSs g.A (np g) ss c sts = true → SB g X cl W ss sts
  | .nil, X, W, c, as, C, P, h => by
    unfold chkSs at h
    split at h
    · exact sb_nil
    · cases h
  | .cons s r, X, W, c, as, C, P, h => by
    unfold chkSs at h
    split at h
    · rw [Bool.or_eq_true, Bool.and_eq_true, Bool.and_eq_true] at h
      rcases h with h | h
      · exact sb_cons (chkS_ok s X W c _ C P h.1) (chkSs_ok r X W c _ C P h.2)
      · exact sb_cons1 (chk1_ok s X W c _ C h.1) (chkST_ok r X W c _ C P h.2)
    · cases h
theorem chkST_ok : ∀ (ss : Ss) (X : Cx) (W : WX) (c : Sc) (sts : List Stmt), Ct g X cl W c n → PassesOwn (model X.prog X.w) X.A X.env X.xe → chkST g.A (np g) ss c sts = true → SBT g X cl W ss sts
  | .nil, X, W, c, as, C, P, h => by
    unfold chkST at h
    split at h
    · exact SBT.of sb_nil
    · cases h
  | .cons s r, X, W, c, as, C, P, h => by
    unfold chkST at h
    split at h
    · rw [Bool.and_eq_true, Bool.or_eq_true] at h
      refine sbt_cons ?_ (chkST_ok r X W c _ C P h.2)
      rcases h.1 with h | h
      · exact SST.of (chkS_ok s X W c _ C P h)
      · exact chkT_ok s X W c _ C P h
    · cases h
theorem chkT_ok : ∀ (s : S) (X : Cx) (W : WX) (c : Sc) (st : Stmt), Ct g X cl W c n → PassesOwn (model X.prog X.w) X.A X.env X.xe → chkT g.A (np g) s c st = true → SST g X cl W s st
  | .setr i e, X, W, c, x, C, P, h => by
    unfold chkT at h
    split at h
    · simp only [Bool.and_eq_true] at h
      obtain ⟨h1, h2, h3⟩ := h
      exact sst_setr C.ok.nd (nmb_ok C h1) (by simpa using h2) (chkR_ok e X W c _ C h3)
    · cases h
  | .ite t a b, X, W, c, x, C, P, h => by
    unfold chkT at h
    split at h
    · rw [Bool.and_eq_true, Bool.and_eq_true, Bool.and_eq_true] at h
      obtain ⟨h1, h2, h3, h4⟩ := h
      exact sst_ite ((chkE_ok t X W c _ C h2).2 h1) (chkST_ok a X W c _ C P h3) (chkST_ok b X W c _ C P h4)
    · cases h
  | .set _ _, _, _, _, _, _, _, h => by unfold chkT at h; cases h
  | .setf _ _ _, _, _, _, _, _, _, h => by unfold chkT at h; cases h
  | .seti _ _ _, _, _, _, _, _, _, h => by unfold chkT at h; cases h
  | .sett _ _, _, _, _, _, _, _, h => by unfold chkT at h; cases h
  | .setp _ _ _ _, _, _, _, _, _, _, h => by unfold chkT at h; cases h
  | .exp _, _, _, _, _, _, _, h => by unfold chkT at h; cases h
  | .ret _, _, _, _, _, _, _, h => by unfold chkT at h; cases h
  | .retn, _, _, _, _, _, _, h => by unfold chkT at h; cases h
  | .for_ _ _ _ _ _, _, _, _, _, _, _, h => by unfold chkT at h; cases h
  | .whl _ _, _, _, _, _, _, _, h => by unfold chkT at h; cases h
  | .rse _, _, _, _, _, _, _, h => by unfold chkT at h; cases h
end
end
/-! ### defs -/
/-- a def of the text, checked against the small machine's -/
structure DefOk (K : PySem.W.Frag) (g : G) (f : Nat) (fi : Fi) : Prop where
  ex : ∃ (x qual : Str) (params : Arguments) (bd : List Stmt) (sc : Scope) (N : List Str), FunD K x qual params bd sc [] [] (g.fa f) (g.ffd f) ∧ FnScope N (g.fps f) sc ∧ chkSs g.A (np g) fi.body ⟨N, sc, fun _ => true⟩ bd = true ∧ N.length = fi.ns ∧ (g.fps f).length = fi.np
theorem start_ok {w : Vw} {fi : Fi} {N : List Str} {xs : List D} {vs : List V} (r : Reps w xs vs) (hn : N.length = fi.ns) (hp : vs.length = fi.np) : RepV w (env0 fi xs) (L2.start N vs) := by
  have hl := r.len
  unfold env0 L2.start
  rw [hn, hp]
  refine ⟨by simp [hl], fun j d e => ?_⟩
  by_cases hj : j < xs.length
  · rw [List.getElem?_append_left (by simpa using hj), List.getElem?_map] at e
    obtain ⟨d', e1, e2⟩ := Option.map_eq_some_iff.mp e
    cases e2
    obtain ⟨v, ev, rv⟩ := r.get e1
    refine ⟨v, ?_, rv⟩
    rw [List.getElem?_append_left (by simpa [hl] using hj), List.getElem?_map, ev]
    rfl
  · rw [List.getElem?_append_right (by simpa using hj)] at e
    rw [List.getElem?_replicate] at e
    split at e <;> cases e
theorem all_ok {P : Program} {w : World} {K : PySem.W.Frag} {mg : Str → Option Value} {base : Heap} {g : G} (F : Facts P w K mg base g) (dd : ∀ f fi, g.T.fn f = some fi → DefOk K g f fi) :
    ∀ (n f : Nat) (fi : Fi), g.T.fn f = some fi → FnOk P w K mg base (L2.CX P w) (2 * n + 1) (g.fa f) (g.ffd f) (g.fps f) (spF K g (run g.T n) f)
  | 0, f, fi, ef => by
    obtain ⟨x, qual, params, bd, sc, N, hF, hS, hc, hn, hp⟩ := (dd f fi ef).ex
    exact FunD.ok hF hS (fun vs H Q E h => h.1) fun cdv A outer s H vs Q E hr hs => by
      obtain ⟨_, B, ρ, h, xs, S, rs, p⟩ := hs
      exact False.elim p
  | n + 1, f, fi, ef => by
    obtain ⟨x, qual, params, bd, sc, N, hF, hS, hc, hn, hp⟩ := (dd f fi ef).ex
    have ih := all_ok F dd n
    have e : 2 * (n + 1) + 1 = (2 * n + 2) + 1 := by omega
    rw [e]
    refine FunD.ok hF hS (fun vs H Q E h => h.1) fun cdv A outer s H vs Q E hr hs => ?_
    obtain ⟨hl, B, ρ, h, xs, S, rs, p⟩ := hs
    refine ⟨_, pss_w, ?_⟩
    have C : Ct g (cxOf (L2.CX P w) P w K mg base N qual sc (g.fa f) cdv A outer s H E) (run g.T n) (fun cls d _ H' => E cls d H') ⟨N, sc, fun _ => true⟩ (2 * n + 2) :=
      ⟨⟨F, rfl, hS.nd, takes_of rfl rfl rfl rfl, hr, fun f2 fi2 e2 => (ih f2 fi2 e2).mono (by omega)⟩, rfl, rfl, fun _ _ => rfl⟩
    have hlx : xs.length = fi.np := by rw [← rs.len, hl, hp]
    have p2 : Post K g.N B (fun cls d _ H' => E cls d H') ρ h H ((exes g.T (run g.T n) fi.body (env0 fi xs) h).bind fun o h => .ok (outD o) h) (kV' K B Q) := by
      have e1 : run g.T (n + 1) f xs h = body g.T (run g.T n) fi xs h := by
        show (match g.T.fn f with
          | some fi => body g.T (run g.T n) fi xs h
          | none => .stk) = _
        rw [ef]
      rw [e1] at p
      unfold body at p
      rw [decide_eq_true hlx] at p
      exact p
    refine chkSs_ok fi.body _ _ _ _ C (passes_of rfl) hc B (L2.start N vs) (env0 fi xs) ρ h H _ (start_ok rs hn (by rw [hl, hp])) S ((Post.bind p2).mono fun o h1 ρ1 H1 S1 E1 q => ?_)
    cases o with
    | nx v' => exact fun σ' _ => Post.now q S1 .non rfl
    | rt d => exact fun u ru => Post.now q S1 u ru
end Ev

/-! part EvTop -/
set_option maxRecDepth 100000
set_option maxHeartbeats 4000000
/-! The head's watch over the top, and the facts that it gives. -/
namespace Hd
open PySem PySem.Spec PyProof.Rows L2
/-- what an object names that a walk of the top's defs wants: a def's code, a class's namespace -/
def nxt (g : Addr → Option Obj) (a : Addr) : List Addr := match g a with
  | some o => (match o.data with
    | .func fd => He.refV fd.code
    | .cls cd => [cd.ns]
    | _ => [])
  | none => []
def ents (g : Addr → Option Obj) (a : Addr) : List Addr := match g a with
  | some o => (match o.data with
    | .dict es _ => es.toList.flatMap fun e => He.refV e.val
    | _ => [])
  | none => []
def adrs (g : Addr → Option Obj) : List Addr :=
  let l1 := ents g mainGlobals
  let l2 := l1.flatMap (nxt g)
  let l3 := l2.flatMap (ents g)
  let l4 := l3.flatMap (nxt g)
  mainGlobals :: (l1 ++ (l2 ++ (l3 ++ l4)))
abbrev Al : Type := He.AlT × Bool
def obsG (fa : List He.Fa) (fn : List He.DefD) (ts : List He.Tab) (xs : List (PySem.W.Frag → Bool)) (g : Addr → Option Obj) : Al := (He.obsT fa fn ts (He.frG g (adrs g)), xs.all fun q => q (He.frG g (adrs g)))
def hook (fa : List He.Fa) (fn : List He.DefD) (ts : List He.Tab) (xs : List (PySem.W.Frag → Bool)) : PySem.W.Hook where
  α := Al
  obs := fun s => obsG fa fn ts xs s.heap.get?
  val := fun w => (He.valT fn ts w, true)
  says := fun w h => ∃ K : PySem.W.Frag, K.In h ∧ He.SaysT fa fn ts w K ∧ (xs.all fun q => q K) = true
  of := fun _ _ e => ⟨_, He.frG_in, congrArg (fun z : Al => z.1) e, congrArg (fun z : Al => z.2) e⟩
  keeps := fun _ _ _ ⟨K, hK, c⟩ k => ⟨K, PySem.W.Frag.In.keeps hK k, c⟩
theorem obsG_eq {fa : List He.Fa} {fn : List He.DefD} {ts : List He.Tab} {xs : List (PySem.W.Frag → Bool)} {g : Addr → Option Obj} {s : Shared} (h : ∀ a, g a = s.heap.get? a) : obsG fa fn ts xs g = (hook fa fn ts xs).obs s := by
  have e : g = s.heap.get? := funext h
  rw [e] <;> rfl
end Hd
namespace Ev
open PySem PySem.Spec PyProof.Rows L2
/-- a def with its small form -/
structure Dn where
  no : Nat
  d : He.DefD
  N : List Str
  ps : List Str
  fi : Fi
/-- a claim's data -/
structure Pd where
  ds : List Dn
  nms : List (Str × Nat × List Str)
  cons : List (Str × Nat × D)
  kds : List (Str × Nat × List (Str × List Nat))
  excs : List (Str × Nat)
def conFa : Str × D → List He.Fa
  | (x, .str z) => [.str x (toS z)]
  | (x, .int i) => [.int x i]
  | _ => []
def Pd.fa (p : Pd) : List He.Fa := (p.nms.flatMap fun q => [.glo q.1, .keep q.1]) ++ ((p.cons.flatMap fun q => conFa (q.1, q.2.2)) ++ ((p.kds.map fun q => .glo q.1) ++ ((p.excs.flatMap fun q => [.glo q.1, .exc q.1]) ++ (bltNames.map fun x => .free x))))
def Pd.fn (p : Pd) : List He.DefD := p.ds.map (·.d)
def Pd.ts (p : Pd) : List He.Tab := p.kds.map fun q => ((fun K => He.ga K q.1), q.2.2.map (·.1))
def Pd.xs (p : Pd) : List (PySem.W.Frag → Bool) := p.kds.map fun q K => He.valsB K (He.ga K q.1) (q.2.2.map fun e => (e.1, He.Dv.str (toS e.2)))
def Pd.name (p : Pd) (f : Nat) : Str := ((p.nms.find? fun q => q.2.1 == f).map (·.1)).getD ""
def Pd.pars (p : Pd) (f : Nat) : List Str := ((p.nms.find? fun q => q.2.1 == f).map (·.2.2)).getD []
def Pd.exn (p : Pd) (c : Nat) : Str := ((p.excs.find? fun q => q.2 == c).map (·.1)).getD ""
def Pd.con (p : Pd) (c : Nat) : D := ((p.cons.find? fun q => q.2.1 == c).map (·.2.2)).getD .non
def Pd.kd (p : Pd) (c : Nat) : List (List Nat × D) := ((p.kds.find? fun q => q.2.1 == c).map fun q => q.2.2.map fun e => (e.1.cps.toList, D.str e.2)).getD []
def Pd.A (p : Pd) : Nam := ⟨fun x => (p.nms.lookup x).map (·.1), fun _ => none, fun x => (p.cons.lookup x).map (·.1), fun x => (p.kds.lookup x).map (·.1), fun x => p.excs.lookup x, fun _ => none, fun _ => none⟩
def Pd.T (p : Pd) : Tbl := ⟨fun f => (p.ds.find? fun q => q.no == f).map (·.fi), p.con, p.kd, fun _ _ => none, fun _ => none⟩
noncomputable instance : Inhabited FuncData := ⟨PySem.W.fnOf "" "" { posonlyargs := [], args := [], vararg := none, kwonlyargs := [], kw_defaults := [], kwarg := none, defaults := [] } [] { kind := .function, names := [], isGenerator := false, isCoroutine := false } .none .none .none .none none .none .none⟩
noncomputable def Pd.fd (p : Pd) (K : PySem.W.Frag) (f : Nat) : FuncData := Classical.epsilon fun fd => ∀ q, p.ds.find? (fun q => q.no == f) = some q → FunD K q.d.name q.d.qual q.d.params q.d.body q.d.scope [] [] (He.ga K (p.name f)) fd
noncomputable def Pd.G (p : Pd) (K : PySem.W.Frag) : G := ⟨⟨fun c => He.ga K (p.exn c), fun i => ⟨#[i]⟩, fun i j h => by simpa using h⟩, p.A, p.T, fun f => He.ga K (p.name f), p.fd K, p.pars⟩
def scb (N ps : List Str) (sc : Scope) : Bool := decide (sc.kind = .function) && (decide (sc.isCoroutine = false) && (decide (sc.isGenerator = false) && (decide N.Nodup && (decide (N.take ps.length = ps) && ((ps.all fun x => decide (sc.names.lookup x = some .local) || decide (sc.names.lookup x = some .cell)) && (sc.names.all fun y => !decide (y.2 = .free)))))))
theorem scb_ok {N ps : List Str} {sc : Scope} (h : scb N ps sc = true) : FnScope N ps sc := by
  unfold scb at h
  simp only [Bool.and_eq_true, List.all_eq_true] at h
  obtain ⟨h1, h2, h3, h4, h5, h6, h7⟩ := h
  exact ⟨of_decide_eq_true h1, of_decide_eq_true h2, of_decide_eq_true h3, of_decide_eq_true h4, of_decide_eq_true h5, fun x hx => by simpa using h6 x hx, fun y hy => by simpa using h7 y hy⟩
/-- one def's check -/
def Pd.okD (p : Pd) (q : Dn) : Bool := decide (q.d.at_ = (p.name q.no, none)) && (decide (q.d.dfl.length = 0) && (decide (q.d.kwd.length = 0) && (scb q.N q.ps q.d.scope && (decide (p.pars q.no = q.ps) && (decide (q.N.length = q.fi.ns) && (decide (q.ps.length = q.fi.np) && chkSs p.A (fun f => (p.pars f).length) q.fi.body ⟨q.N, q.d.scope, fun _ => true⟩ q.d.body))))))
def Pd.okN (p : Pd) : Bool := (p.nms.all fun q => decide (p.name q.2.1 = q.1)) && ((p.excs.all fun q => decide (p.exn q.2 = q.1)) && ((p.cons.all fun q => decide (p.con q.2.1 = q.2.2) && !(conFa (q.1, q.2.2)).isEmpty) && (p.kds.all fun q => decide ((p.kd q.2.1).length = q.2.2.length) && (decide (p.kd q.2.1 = q.2.2.map fun e => (e.1.cps.toList, D.str e.2)) && decide ((q.2.2.map (·.1)).Nodup)))))
theorem look_mem {α β : Type} [BEq α] [LawfulBEq α] : ∀ {l : List (α × β)} {x : α} {y : β}, l.lookup x = some y → (x, y) ∈ l
  | [], _, _, h => nomatch h
  | (a, b) :: l, x, y, h => by
    rw [List.lookup_cons] at h
    cases e : x == a with
    | true =>
      rw [e] at h
      have e2 : x = a := eq_of_beq e
      cases h
      rw [e2]
      exact List.mem_cons_self ..
    | false =>
      rw [e] at h
      exact List.mem_cons_of_mem _ (look_mem h)
/-- what is not a key of a table -/
theorem ns_none {P : Params} {K : PySem.W.Frag} {a : Addr} {oc : Value} {od : Option Addr} {es : Array DictEntry} {n : Nat} {sl : Array (Option Value)} {ks : List Str} {x : Str} (l : K.lookup a = some ⟨oc, od, .dict es n, sl⟩) (hk : es.toList.map He.keyOf = He.keysIn P ks) (hx : x ∉ ks) :
    PySem.W.nsIn K a x = some none := by
  have key : ∀ e ∈ es.toList, ∃ y t, e.key = .str y t ∧ y ∈ ks := by
    have go : ∀ {l : List DictEntry} {ks : List Str}, l.map He.keyOf = He.keysIn P ks → ∀ e ∈ l, ∃ y t, e.key = .str y t ∧ y ∈ ks := by
      intro l
      induction l with
      | nil => intro ks _ e he; cases he
      | cons d l ih =>
        intro ks h e he
        cases ks with
        | nil => cases h
        | cons k ks =>
          have h1 : He.keyOf d :: l.map He.keyOf = some (k, PyData.keyHash P k) :: He.keysIn P ks := h
          injection h1 with h2 h3
          rcases List.mem_cons.mp he with rfl | he
          · unfold He.keyOf at h2
            split at h2
            · rename_i y t q
              have h4 := Option.some.inj h2
              obtain ⟨h5, h6⟩ := Prod.mk.inj h4
              exact ⟨y, t, q, by rw [h5]; exact List.mem_cons_self ..⟩
            · cases h2
          · obtain ⟨y, t, h4, h5⟩ := ih h3 e he
            exact ⟨y, t, h4, List.mem_cons_of_mem _ h5⟩
    exact go hk
  have f1 : es.toList.find? (·.key.isStr x) = none := by
    rw [List.find?_eq_none]
    intro e he h
    obtain ⟨y, t, h1, h2⟩ := key e he
    rw [h1] at h
    have h3 : (y == x) = true := h
    rw [eq_of_beq h3] at h2
    exact hx h2
  have f2 : es.toList.any (·.refKey) = false := by
    rw [List.any_eq_false]
    intro e he h
    obtain ⟨y, t, h1, h2⟩ := key e he
    unfold DictEntry.refKey at h
    rw [h1] at h
    cases h
  unfold PySem.W.nsIn
  rw [l]
  dsimp only
  rw [f1, f2]
  rfl
section
variable {p : Pd} {P : Program} {w : World} {K : PySem.W.Frag} {mg : Str → Option Value} {base h : Heap}
theorem fact_mem (c : He.SaysT p.fa p.fn p.ts w K) {f : He.Fa} (m : f ∈ p.fa) : f.ok K = true := by
  obtain ⟨i, e⟩ := List.mem_iff_getElem?.mp m
  exact c.d.fact i e
theorem find_no {f : Nat} {q : Dn} (e : p.ds.find? (fun q => q.no == f) = some q) : q.no = f ∧ q ∈ p.ds := ⟨by simpa using List.find?_some e, List.mem_of_find?_eq_some e⟩
theorem pd_fun (c : He.SaysT p.fa p.fn p.ts w K) (ok : (p.ds.all p.okD) = true) {f : Nat} {q : Dn} (e : p.ds.find? (fun q => q.no == f) = some q) : FunD K q.d.name q.d.qual q.d.params q.d.body q.d.scope [] [] (He.ga K (p.name f)) (p.fd K f) := by
  obtain ⟨e1, m⟩ := find_no e
  have o := List.all_eq_true.mp ok q m
  unfold Pd.okD at o
  simp only [Bool.and_eq_true] at o
  obtain ⟨o1, o2, o3, _⟩ := o
  have o1 := of_decide_eq_true o1
  have o2 := of_decide_eq_true o2
  have o3 := of_decide_eq_true o3
  obtain ⟨i, ei⟩ := List.mem_iff_getElem?.mp m
  have e3 : p.fn[i]? = some q.d := by
    unfold Pd.fn
    rw [List.getElem?_map, ei]
    rfl
  obtain ⟨fd, F⟩ := c.d.def_ i e3
  have d1 : q.d.dfl = [] := List.eq_nil_of_length_eq_zero o2
  have d2 : q.d.kwd = [] := List.eq_nil_of_length_eq_zero o3
  unfold He.DefD.dvs He.DefD.kws He.fAd at F
  rw [d1, d2, o1, e1] at F
  have ex : ∃ fd, ∀ q', p.ds.find? (fun q => q.no == f) = some q' → FunD K q'.d.name q'.d.qual q'.d.params q'.d.body q'.d.scope [] [] (He.ga K (p.name f)) fd := ⟨fd, fun q' e' => by
    rw [e] at e'
    cases e'
    exact F⟩
  exact Classical.epsilon_spec ex q e
theorem pd_defs (c : He.SaysT p.fa p.fn p.ts w K) (ok : (p.ds.all p.okD) = true) : ∀ f fi, (p.G K).T.fn f = some fi → DefOk K (p.G K) f fi := by
  intro f fi e
  have e : (p.ds.find? fun q => q.no == f).map (·.fi) = some fi := e
  obtain ⟨q, e1, rfl⟩ := Option.map_eq_some_iff.mp e
  have F := pd_fun c ok e1
  obtain ⟨e2, m⟩ := find_no e1
  have o := List.all_eq_true.mp ok q m
  unfold Pd.okD at o
  simp only [Bool.and_eq_true] at o
  obtain ⟨_, _, _, o4, o5, o6, o7, o8⟩ := o
  have o5 : p.pars f = q.ps := by rw [← e2]; exact of_decide_eq_true o5
  refine ⟨q.d.name, q.d.qual, q.d.params, q.d.body, q.d.scope, q.N, F, ?_, o8, of_decide_eq_true o6, ?_⟩
  · show FnScope q.N (p.pars f) q.d.scope
    rw [o5]
    exact scb_ok o4
  · show (p.pars f).length = _
    rw [o5]
    exact of_decide_eq_true o7
theorem pd_facts (X : K.In h) (G : h.Ns mainGlobals mg) (c : He.SaysT p.fa p.fn p.ts w K) (cx : (p.xs.all fun q => q K) = true) (okD : (p.ds.all p.okD) = true) (okN : p.okN = true)
    (hb : ∀ q ∈ p.ds, ∀ (kV doc pm : Value) (an : Option Addr) (cdv ct : Value) (us : List Value), us.length = q.ps.length → bindArgs (PySem.W.fnOf q.d.name q.d.qual q.d.params q.d.body q.d.scope .none kV doc pm an cdv ct) ⟨us, []⟩ = pure (q.ps.zip us)) :
    Facts P w K mg base (p.G K) := by
  unfold Pd.okN at okN
  simp only [Bool.and_eq_true, List.all_eq_true] at okN
  obtain ⟨n1, n2, n3, n4⟩ := okN
  refine ⟨fun x f e => ?_, fun f fi e => ?_, fun x k e => ?_, fun x k e => ?_, fun x hx => ?_, fun x k e => ?_⟩
  · have e : (p.nms.lookup x).map (·.1) = some f := e
    obtain ⟨⟨f', pn⟩, e1, e2⟩ := Option.map_eq_some_iff.mp e
    have e2 : f' = f := e2
    subst e2
    have m := look_mem e1
    have hn : p.name f' = x := of_decide_eq_true (n1 _ m)
    have g1 := fact_mem c (f := .glo x) (by unfold Pd.fa; exact List.mem_append_left _ (List.mem_flatMap.mpr ⟨_, m, by simp⟩))
    have g2 := fact_mem c (f := .keep x) (by unfold Pd.fa; exact List.mem_append_left _ (List.mem_flatMap.mpr ⟨_, m, by simp⟩))
    show mg x = some (.ref (He.ga K (p.name f'))) ∧ PySem.W.keepIn K (.ref (He.ga K (p.name f'))) = true
    rw [hn]
    exact ⟨He.glo_ok X G g1, He.keep_ok g2⟩
  · have e : (p.ds.find? fun q => q.no == f).map (·.fi) = some fi := e
    obtain ⟨q, e1, rfl⟩ := Option.map_eq_some_iff.mp e
    have F := pd_fun c okD e1
    obtain ⟨e2, m⟩ := find_no e1
    have o := List.all_eq_true.mp okD q m
    unfold Pd.okD at o
    simp only [Bool.and_eq_true] at o
    obtain ⟨_, _, _, o4, o5, o6, o7, o8⟩ := o
    have o5 : p.pars f = q.ps := by rw [← e2]; exact of_decide_eq_true o5
    show Binds K (p.fd K f) (p.pars f) []
    rw [o5]
    exact F.bindsN (hb q m)
  · have e : (p.cons.lookup x).map (·.1) = some k := e
    obtain ⟨⟨k', d⟩, e1, e2⟩ := Option.map_eq_some_iff.mp e
    have e2 : k' = k := e2
    subst e2
    have m := look_mem e1
    have o := n3 _ m
    have o1 : p.con k' = d := of_decide_eq_true o.1
    show ∃ v u, mg x = some u ∧ RelV v u ∧ Steady K (p.con k') v
    rw [o1]
    cases d <;> first | (exfalso; have o2 := o.2; revert o2; simp [conFa]; done) | skip
    · rename_i i
      obtain ⟨t, ht⟩ := He.int_ok X G (fact_mem c (f := .int x i) (by unfold Pd.fa; exact List.mem_append_right _ (List.mem_append_left _ (List.mem_flatMap.mpr ⟨_, m, by simp [conFa]⟩))))
      exact ⟨.int i, .int i t, ht, ⟨t, rfl⟩, fun _ _ => rfl⟩
    · rename_i z
      obtain ⟨t, ht⟩ := He.str_ok X G (fact_mem c (f := .str x (toS z)) (by unfold Pd.fa; exact List.mem_append_right _ (List.mem_append_left _ (List.mem_flatMap.mpr ⟨_, m, by simp [conFa]⟩))))
      exact ⟨.str (toS z), .str (toS z) t, ht, ⟨t, rfl⟩, fun _ _ => rfl⟩
  · have e : (p.kds.lookup x).map (·.1) = some k := e
    obtain ⟨⟨k', kvs⟩, e1, e2⟩ := Option.map_eq_some_iff.mp e
    have e2 : k' = k := e2
    subst e2
    have m := look_mem e1
    obtain ⟨i, ei⟩ := List.mem_iff_getElem?.mp m
    have o := n4 _ m
    have o1 : p.kd k' = kvs.map fun e => (e.1.cps.toList, D.str e.2) := of_decide_eq_true o.2.1
    have o2 : (kvs.map (·.1)).Nodup := of_decide_eq_true o.2.2
    have g1 := fact_mem c (f := .glo x) (by unfold Pd.fa; exact List.mem_append_right _ (List.mem_append_right _ (List.mem_append_left _ (List.mem_map.mpr ⟨_, m, rfl⟩))))
    have gv := List.all_eq_true.mp cx (fun K => He.valsB K (He.ga K x) (kvs.map fun e => (e.1, He.Dv.str (toS e.2)))) (List.mem_map.mpr ⟨_, m, rfl⟩)
    have et : p.ts[i]? = some ((fun K => He.ga K x), kvs.map (·.1)) := by
      unfold Pd.ts
      rw [List.getElem?_map, ei]
      rfl
    have ed : He.dicW K (He.ga K x) = some (He.keysIn w.params (kvs.map (·.1))) := by
      have e3 : p.ts.map (fun t => He.dicW K (t.1 K)) = p.ts.map fun t => some (He.keysIn w.params t.2) := congrArg (fun z : He.AlT => z.2) c
      have e4 : (p.ts.map fun t => He.dicW K (t.1 K))[i]? = (p.ts.map fun t => some (He.keysIn w.params t.2))[i]? := by rw [e3]
      rw [List.getElem?_map, List.getElem?_map, et] at e4
      exact Option.some.inj e4
    obtain ⟨es, n, hl, hk, low⟩ := He.dicW_ok ed
    have hkeys : es.toList.map He.keyOf = He.keysIn w.params (kvs.map (·.1)) := by
      unfold He.dicW at ed
      rw [hl] at ed
      dsimp only at ed
      rw [low] at ed
      exact Option.some.inj ed
    show ∃ a, mg x = some (.ref a) ∧ KdOk K w (p.kd k') a
    refine ⟨He.ga K x, He.glo_ok X G g1, ⟨es, n, hl, hk⟩, low, fun ky d hd => ?_, fun ky hd => ?_⟩
    · rw [o1] at hd
      have hm := look_mem hd
      obtain ⟨q, hq, eq⟩ := List.mem_map.mp hm
      cases eq
      obtain ⟨u, e5, ru⟩ := He.valsB_ok gv (q := (q.1, He.Dv.str (toS q.2))) (List.mem_map.mpr ⟨q, hq, rfl⟩)
      exact ⟨u, .str (toS q.2), by rw [of_toS]; exact e5, ru, fun _ _ => rfl⟩
    · refine ns_none hl hkeys fun hm => ?_
      obtain ⟨q, hq, eq⟩ := List.mem_map.mp hm
      rw [o1] at hd
      have : ∀ {l : List (Str × List Nat)}, q ∈ l → (l.map fun e => (e.1.cps.toList, D.str e.2)).lookup ky ≠ none := by
        intro l hl
        induction l with
        | nil => cases hl
        | cons y l ih =>
          rw [List.map_cons, List.lookup_cons]
          cases eb : ky == y.1.cps.toList with
          | true => simp
          | false =>
            rcases List.mem_cons.mp hl with rfl | hl
            · rw [eq, toS_cps] at eb
              simp at eb
            · exact ih hl
      exact this hq hd
  · exact He.free_ok X G (fact_mem c (f := .free x) (by unfold Pd.fa; exact List.mem_append_right _ (List.mem_append_right _ (List.mem_append_right _ (List.mem_append_right _ (List.mem_map.mpr ⟨x, hx, rfl⟩))))))
  · have e : p.excs.lookup x = some k := e
    have m := look_mem e
    have hn : p.exn k = x := of_decide_eq_true (n2 _ m)
    have g1 := fact_mem c (f := .glo x) (by unfold Pd.fa; exact List.mem_append_right _ (List.mem_append_right _ (List.mem_append_right _ (List.mem_append_left _ (List.mem_flatMap.mpr ⟨_, m, by simp⟩)))))
    have g2 := He.exc_ok (fact_mem c (f := .exc x) (by unfold Pd.fa; exact List.mem_append_right _ (List.mem_append_right _ (List.mem_append_right _ (List.mem_append_left _ (List.mem_flatMap.mpr ⟨_, m, by simp⟩))))))
    show ExcOk K mg x (He.ga K (p.exn k))
    rw [hn]
    exact ⟨⟨He.veBase, "ValueError", "ValueError.__new__", _, PySem.F.excBase_ValueError, g2.1⟩, He.glo_ok X G g1, g2.2.1, g2.2.2.1, g2.2.2.2⟩
end
end Ev

/-! part EvEnd -/
set_option maxRecDepth 100000
set_option maxHeartbeats 4000000
/-! From a law's run on the small machine to its promise. -/
namespace Ev
open PySem PySem.Spec PyProof.Rows L2
theorem comb3 {α β γ δ : Type} {x : Option α} {f : α → β} {g : α → γ} {k : α → δ} {a : β} {b : γ} {c : δ} (h1 : x.map f = some a) (h2 : x.map g = some b) (h3 : x.map k = some c) : x.map (fun s => (f s, g s, k s)) = some (a, b, c) := by
  cases x with
  | none => cases h1
  | some s =>
    cases h1
    cases h2
    cases h3
    rfl
theorem sim_nil {K : PySem.W.Frag} {N : Nms} {H : Hp} : Sim K N (fun _ => False) (fun _ => 0) Hs.nil H where
  wf := fun _ _ e => (nil_o e).elim
  inj := fun _ _ _ _ e => (nil_o e).elim
  obj := fun _ _ e => (nil_o e).elim
  blk := fun _ q => q.elim
  dis := fun _ _ e => (nil_o e).elim
theorem scr_rep {K : PySem.W.Frag} {H : Hp} {a : Addr} {ns : List Int} (h : SqL K H a (ns.map V.int)) : Rep (vw K (fun _ => False) (fun _ => 0) Hs.nil H) (.scr ns) (.ref a) := by
  refine ⟨a, rfl, ?_⟩
  rcases h with h | h
  · exact .inl ⟨h, fun l => Or.elim l (fun ⟨_, _, e, _⟩ => nil_o e) id⟩
  · exact .inr h
theorem sp_law {K : PySem.W.Frag} {g : G} {f : Nat} {n : Nat} {ns : List Int} {H : Hp} {a : Addr} (hp : (g.fps f).length = 1) (h : SqL K H a (ns.map V.int)) (r : ∃ h', run g.T n f [.scr ns] Hs.nil = .ok (.bl true) h') :
    spF K g (run g.T n) f [.ref a] H (fun v _ => v = .bl true) fun _ _ _ => False := by
  obtain ⟨h', e⟩ := r
  refine ⟨by rw [hp]; rfl, fun _ => False, fun _ => 0, Hs.nil, [.scr ns], sim_nil, .one (scr_rep h), ?_⟩
  rw [e]
  exact fun ρ' H' S E v rv => rv
/-- what a law's end asks -/
theorem law_end {p : Pd} {P : Program} {w : World} {K : PySem.W.Frag} {mg : Str → Option Value} {h : Heap} {q : Dn} {m n : Nat} {x : Str} {fa : Addr} (X : K.In h) (G : h.Ns mainGlobals mg) (c : He.SaysT p.fa p.fn p.ts w K) (cx : (p.xs.all fun q => q K) = true) (okD : (p.ds.all p.okD) = true) (okN : p.okN = true)
    (hb : ∀ q ∈ p.ds, ∀ (kV doc pm : Value) (an : Option Addr) (cdv ct : Value) (us : List Value), us.length = q.ps.length → bindArgs (PySem.W.fnOf q.d.name q.d.qual q.d.params q.d.body q.d.scope .none kV doc pm an cdv ct) ⟨us, []⟩ = pure (q.ps.zip us))
    (eq : p.ds.find? (fun d => d.no == q.no) = some q) (hps : p.pars q.no = [x]) (hnm : p.A.gfn "law" = some q.no) (hmg : mg "law" = some (.ref fa)) (law : ∀ ns : List Int, ns.length ≤ m → ∃ h', run p.T n q.no [.scr ns] Hs.nil = .ok (.bl true) h') :
    ∃ (K : PySem.W.Frag) (fd : FuncData) (sp : Sp), K.In h ∧ (∀ (s : Shared) (u : Value), BindsTo s fd ⟨[u], []⟩ [(x, u)]) ∧
        (∀ (H : Hp) (a : Addr) (ns : List Int), ns.length ≤ m → Only H → SqL K H a (ns.map V.int) → sp [.ref a] H (fun v _ => v = .bl true) fun _ _ _ => False) ∧
        ∀ base : Heap, K.In base → base.Ns mainGlobals mg → FnOk P w K mg base (L2.CX P w) (2 * n + 1) fa fd [x] sp := by
  have F : ∀ base, Facts P w K mg base (p.G K) := fun base => pd_facts X G c cx okD okN hb
  have D := pd_defs c okD
  have ef : (p.G K).T.fn q.no = some q.fi := by
    show (p.ds.find? fun d => d.no == q.no).map (·.fi) = some q.fi
    rw [eq]
    rfl
  have hfa : (p.G K).fa q.no = fa := by
    have e := ((F h).fn "law" q.no hnm).1
    rw [hmg] at e
    have e2 : fa = (p.G K).fa q.no := by injection e with e; injection e
    exact e2.symm
  have F0 := pd_fun c okD eq
  obtain ⟨_, mq⟩ := find_no eq
  have o := List.all_eq_true.mp okD q mq
  unfold Pd.okD at o
  simp only [Bool.and_eq_true] at o
  obtain ⟨_, _, _, _, o5, _⟩ := o
  have o5 : p.pars q.no = q.ps := of_decide_eq_true o5
  refine ⟨K, p.fd K q.no, spF K (p.G K) (run p.T n) q.no, X, fun s u => ?_, fun H a ns hl _ hS => sp_law (g := p.G K) (by show (p.pars q.no).length = 1; rw [hps]; rfl) hS (law ns hl), fun base _ _ => ?_⟩
  · have b := FunD.bindsA (ps := q.ps) F0 (hb q mq) s [u] (by rw [← o5, hps]; rfl)
    rw [← o5, hps] at b
    exact b
  · have r := all_ok (F base) D n q.no q.fi ef
    rw [hfa] at r
    have e : (p.G K).fps q.no = [x] := hps
    rw [e] at r
    exact r
end Ev
namespace L2
open PySem PySem.Spec PyProof.Rows
theorem walk_ofEw {l : PySem.W.OpenLaw} {n k : Nat} {q : Program} {loose : List Str} {XP : (Str → Option Value) → Heap → Prop} {YP : World → Heap → Prop} {d : DefRec} {CX : World → CXT} {x : Str}
    (hn : l.most = some n) (hn2 : n ≤ sizeLine) (hdf : d.params.defaults = []) (hr : Room k callerA)
    (F : ∀ (w : World) (mg : Str → Option Value) (fa : Addr) (h : Heap), YP w h → h.Ns mainGlobals mg → mg d.name = some (.ref fa) →
      ∃ (K : PySem.W.Frag) (fd : FuncData) (sp : Sp), K.In h ∧ (∀ (s : Shared) (u : Value), BindsTo s fd ⟨[u], []⟩ [(x, u)]) ∧
        (∀ (H : Hp) (a : Addr) (ns : List Int), ns.length ≤ n → Only H → SqL K H a (ns.map V.int) → sp [.ref a] H (fun v _ => v = .bl true) fun _ _ _ => False) ∧
        ∀ base : Heap, K.In base → base.Ns mainGlobals mg → FnOk l.prog w K mg base (CX w) k fa fd [x] sp)
    (hCX : ∀ (w : World) (H : Hp) (s : Shared) (e : Value) (s' : Shared), CX w [] H s (fun _ _ _ => False) e s' → False) :
    PySem.W.WalkO q loose XP YP l.row.toRowW d [] (fun f vs => PySem.call f vs) := by
  refine Att.attach_call hn hdf fun w s₀ s₁ mg mb fa o pm cd doc a vs ns G Y ho hd hcd hmg hobj hints hlen hg => ?_
  obtain ⟨K, fd, sp, KX, hb, hsp, hF⟩ := F w mg fa _ Y G.T.g hmg
  exact law_call KX G.T.g G.T.b G.T.builtins G.T.nolimit hg hobj hints (Nat.le_trans hlen hn2) hr hF hb (fun H hO hS => hsp H a ns hlen hO hS) fun H e s' => hCX w H s₁ e s'
theorem cx_false {P : Program} {w : World} {H : Hp} {s : Shared} {e : Value} {s' : Shared} (h : L2.CX P w [] H s (fun _ _ _ => False) e s') : False := by
  obtain ⟨_, _, _, _, _, _, _, _, _, _, _, _, z⟩ := h
  exact z
end L2

/-! part Sim -/
set_option maxRecDepth 100000
set_option maxHeartbeats 4000000
/-! The small machine's run, step by step, as rules for simp. -/
namespace Ed
open Ev
section
variable {T : Tbl} {cl : Calls} {v : Env} {h : Hs} {α β : Type}
@[simp] theorem bind_ok (a : α) (h : Hs) (f : α → Hs → R β) : (R.ok a h).bind f = f a h := (rfl)
@[simp] theorem bind_exc (c : Nat) (h : Hs) (f : α → Hs → R β) : (R.exc c h).bind f = .exc c h := (rfl)
@[simp] theorem bind_stk (f : α → Hs → R β) : (R.stk).bind f = .stk := (rfl)
@[simp] theorem bindN_ok (a : α) (h : Hs) (f : α → Hs → R β) : (R.ok a h).bindN f = f a h := (rfl)
@[simp] theorem okIf_t (a : α) (h : Hs) : okIf true a h = .ok a h := (rfl)
@[simp] theorem ofO_s (a : α) (h : Hs) : ofO (some a) h = .ok a h := (rfl)
@[simp] theorem truth_bl (b : Bool) (h : Hs) : truth (.bl b) h = .ok b h := (rfl)
@[simp] theorem e_var (i : Nat) : ev T cl (.var i) v h = getV v i h := (rfl)
@[simp] theorem e_con (g : Nat) : ev T cl (.con g) v h = .ok (T.con g) h := (rfl)
@[simp] theorem e_lit (d : D) : ev T cl (.lit d) v h = .ok d h := (rfl)
@[simp] theorem e_bin (op : BOp) (a b : E) : ev T cl (.bin op a b) v h = (ev T cl a v h).bind fun x h => (ev T cl b v h).bind fun y h => bin op x y h := (rfl)
@[simp] theorem e_neg (a : E) : ev T cl (.neg a) v h = (ev T cl a v h).bind fun x h => negd x h := (rfl)
@[simp] theorem e_not (a : E) : ev T cl (.not a) v h = (ev T cl a v h).bind fun x h => (truth x h).bind fun b h => .ok (.bl (!b)) h := (rfl)
def and2 (T : Tbl) (cl : Calls) (b : E) (v : Env) (c : Bool) (h : Hs) : R D := match c with
  | true => (ev T cl b v h).bind fun x h => (truth x h).bind fun c h => .ok (.bl c) h
  | false => .ok (.bl false) h
def or2 (T : Tbl) (cl : Calls) (b : E) (v : Env) (c : Bool) (h : Hs) : R D := match c with
  | true => .ok (.bl true) h
  | false => (ev T cl b v h).bind fun x h => (truth x h).bind fun c h => .ok (.bl c) h
@[simp] theorem and2_t (b : E) : and2 T cl b v true h = (ev T cl b v h).bind fun x h => (truth x h).bind fun c h => .ok (.bl c) h := (rfl)
@[simp] theorem and2_f (b : E) : and2 T cl b v false h = .ok (.bl false) h := (rfl)
@[simp] theorem or2_t (b : E) : or2 T cl b v true h = .ok (.bl true) h := (rfl)
@[simp] theorem or2_f (b : E) : or2 T cl b v false h = (ev T cl b v h).bind fun x h => (truth x h).bind fun c h => .ok (.bl c) h := (rfl)
@[simp] theorem e_and (a b : E) : ev T cl (.and a b) v h = (ev T cl a v h).bind fun x h => (truth x h).bind fun c h => and2 T cl b v c h := (rfl)
@[simp] theorem e_or (a b : E) : ev T cl (.or a b) v h = (ev T cl a v h).bind fun x h => (truth x h).bind fun c h => or2 T cl b v c h := (rfl)
@[simp] theorem e_cmp (op : COp) (a b : E) : ev T cl (.cmp op a b) v h = (ev T cl a v h).bind fun x h => (ev T cl b v h).bind fun y h => (cmp op x y h).bind fun c h => .ok (.bl c) h := (rfl)
def chn2 (T : Tbl) (cl : Calls) (q : COp) (c : E) (v : Env) (y : D) (k : Bool) (h : Hs) : R D := match k with
  | true => (ev T cl c v h).bind fun z h => (cmp q y z h).bind fun k h => .ok (.bl k) h
  | false => .ok (.bl false) h
@[simp] theorem chn2_t (q : COp) (c : E) (y : D) : chn2 T cl q c v y true h = (ev T cl c v h).bind fun z h => (cmp q y z h).bind fun k h => .ok (.bl k) h := (rfl)
@[simp] theorem chn2_f (q : COp) (c : E) (y : D) : chn2 T cl q c v y false h = .ok (.bl false) h := (rfl)
@[simp] theorem e_chn (p q : COp) (a b c : E) : ev T cl (.chn p q a b c) v h = (ev T cl a v h).bind fun x h => (ev T cl b v h).bind fun y h => (cmp p x y h).bind fun k h => chn2 T cl q c v y k h := (rfl)
@[simp] theorem e_isn (a : E) : ev T cl (.isn a) v h = (ev T cl a v h).bind fun x h => .ok (.bl (decide (x = .non))) h := (rfl)
@[simp] theorem e_ntn (a : E) : ev T cl (.ntn a) v h = (ev T cl a v h).bind fun x h => .ok (.bl (!decide (x = .non))) h := (rfl)
def ife2 (T : Tbl) (cl : Calls) (a b : E) (v : Env) (k : Bool) (h : Hs) : R D := match k with
  | true => ev T cl a v h
  | false => ev T cl b v h
@[simp] theorem ife2_t (a b : E) : ife2 T cl a b v true h = ev T cl a v h := (rfl)
@[simp] theorem ife2_f (a b : E) : ife2 T cl a b v false h = ev T cl b v h := (rfl)
@[simp] theorem e_ife (c a b : E) : ev T cl (.ife c a b) v h = (ev T cl c v h).bind fun x h => (truth x h).bind fun k h => ife2 T cl a b v k h := (rfl)
@[simp] theorem e_sub (a i : E) : ev T cl (.sub a i) v h = (ev T cl a v h).bind fun x h => (ev T cl i v h).bind fun i h => subs x i h := (rfl)
def evBd (T : Tbl) (cl : Calls) (e : E) (v : Env) (h : Hs) : R (Option Int) := match isNob e with
  | true => .ok none h
  | false => (ev T cl e v h).bind bnd
@[simp] theorem e_slc (a lo hi : E) : ev T cl (.slc a lo hi) v h = (ev T cl a v h).bind fun x h => (evBd T cl lo v h).bind fun l h => (evBd T cl hi v h).bind fun u h => slice x l u h := (rfl)
@[simp] theorem bd_nob : evBd T cl .nob v h = .ok none h := (rfl)
@[simp] theorem bd_var (i : Nat) : evBd T cl (.var i) v h = (ev T cl (.var i) v h).bind bnd := (rfl)
@[simp] theorem bd_lit (d : D) : evBd T cl (.lit d) v h = (ev T cl (.lit d) v h).bind bnd := (rfl)
@[simp] theorem bd_bin (op : BOp) (a b : E) : evBd T cl (.bin op a b) v h = (ev T cl (.bin op a b) v h).bind bnd := (rfl)
@[simp] theorem bd_call (f : Nat) (es : Es) : evBd T cl (.call f es) v h = (ev T cl (.call f es) v h).bind bnd := (rfl)
@[simp] theorem bd_neg (a : E) : evBd T cl (.neg a) v h = (ev T cl (.neg a) v h).bind bnd := (rfl)
@[simp] theorem eqd_int (i j : Int) : eqd (.int i) (.int j) = some (decide (i = j)) := by
  unfold eqd
  simp [flat, cmpb]
@[simp] theorem eqd_str (a b : List Nat) : eqd (.str a) (.str b) = some (decide (a = b)) := by
  unfold eqd
  simp [flat, cmpb]
@[simp] theorem bin_ai (i j : Int) : bin .add (.int i) (.int j) h = .ok (.int (i + j)) h := (rfl)
@[simp] theorem bin_si (i j : Int) : bin .sub (.int i) (.int j) h = .ok (.int (i - j)) h := (rfl)
@[simp] theorem eqd_nn : eqd .non .non = some true := by
  unfold eqd
  simp [flat, cmpb]
@[simp] theorem eqd_ni (i : Int) : eqd .non (.int i) = some false := by
  unfold eqd
  simp [flat, cmpb]
@[simp] theorem eqd_in (i : Int) : eqd (.int i) .non = some false := by
  unfold eqd
  simp [flat, cmpb]
@[simp] theorem bnd_int (i : Int) : bnd (.int i) h = .ok (some i) h := (rfl)
@[simp] theorem e_kin (neg : Bool) (g : Nat) (a : E) : ev T cl (.kin neg g a) v h = (ev T cl a v h).bind fun x h => kind T neg g x h := (rfl)
@[simp] theorem e_kget (g : Nat) (a : E) : ev T cl (.kget g a) v h = (ev T cl a v h).bind fun x h => kgetd T g x h := (rfl)
@[simp] theorem e_tup (es : Es) : ev T cl (.tup es) v h = (evs T cl es v h).bind fun xs h => .ok (.tup xs) h := (rfl)
@[simp] theorem e_lst (es : Es) : ev T cl (.lst es) v h = (evs T cl es v h).bind fun xs h => .ok (.lst xs) h := (rfl)
@[simp] theorem e_dct (ks : List (List Nat)) (es : Es) : ev T cl (.dct ks es) v h = (evs T cl es v h).bind fun xs h => dctd ks xs h := (rfl)
@[simp] theorem e_mut (e : E) : ev T cl (.mut e) v h = (ev T cl e v h).bind fun x h => mutd x h := (rfl)
@[simp] theorem e_rep (a : E) : ev T cl (.rep a) v h = (ev T cl a v h).bind fun x h => repd x h := (rfl)
@[simp] theorem e_lrg (a : E) : ev T cl (.lrg a) v h = (ev T cl a v h).bind fun x h => lrgd x h := (rfl)
@[simp] theorem s_setr (i : Nat) (e : E) : exe T cl (.setr i e) v h = (ev T cl e v h).bind fun x h => .ok (.nx (v.set i (some x))) h := (rfl)
def eq2 (o : Option Bool) (x y : D) (h : Hs) : Option Bool := match o with
  | some b => some b
  | none => eqr x y h
@[simp] theorem eq2_s (b : Bool) (x y : D) : eq2 (some b) x y h = some b := (rfl)
@[simp] theorem eqh_2 (x y : D) : eqh x y h = eq2 (eqd x y) x y h := (rfl)
@[simp] theorem e_rev (a : E) : ev T cl (.rev a) v h = (ev T cl a v h).bind fun x h => revd x h := (rfl)
@[simp] theorem e_fld (f : Nat) (a : E) : ev T cl (.fld f a) v h = (ev T cl a v h).bind fun x h => getf f x h := (rfl)
@[simp] theorem e_meth (m : Nat) (a : E) (es : Es) : ev T cl (.meth m a es) v h = (ev T cl a v h).bind fun x h => (evs T cl es v h).bind fun xs h => methd T cl m x xs h := (rfl)
@[simp] theorem e_make (c : Nat) (es : Es) : ev T cl (.make c es) v h = (evs T cl es v h).bind fun xs h => maked T cl c xs h := (rfl)
@[simp] theorem e_frz (e : E) : ev T cl (.frz e) v h = (ev T cl e v h).bind fun x h => frzd x h := (rfl)
@[simp] theorem s_setf (a : E) (f : Nat) (e : E) : exe T cl (.setf a f e) v h = (ev T cl e v h).bind fun y h => (ev T cl a v h).bind fun x h => (setf f x y h).bind fun _ h => .ok (.nx v) h := (rfl)
@[simp] theorem s_setp (i j : Nat) (a b : E) : exe T cl (.setp i j a b) v h = (ev T cl a v h).bind fun x h => (ev T cl b v h).bind fun y h => .ok (.nx ((v.set i (some x)).set j (some y))) h := (rfl)
@[simp] theorem e_call (f : Nat) (es : Es) : ev T cl (.call f es) v h = (evs T cl es v h).bind fun xs h => callF T cl f xs h := (rfl)
@[simp] theorem e_blt (b : Bl) (es : Es) : ev T cl (.blt b es) v h = (evs T cl es v h).bind fun xs h => blt b xs h := (rfl)
@[simp] theorem e_bm (b : Bm) (a : E) (es : Es) : ev T cl (.bm b a es) v h = (ev T cl a v h).bind fun x h => (ofO (bty b x h) h).bind fun t h => (evs T cl es v h).bind fun xs h => bmd t b x xs h := (rfl)
@[simp] theorem e_isi (a : E) (t : Ty) : ev T cl (.isi a t) v h = (ev T cl a v h).bind fun x h => isi x t h := (rfl)
@[simp] theorem e_lc (t : Tg) (k : Ik) (a b c e : E) : ev T cl (.lc t k a b c e) v h = (ev T cl a v h).bind fun x h => (ev T cl b v h).bind fun y h => (itv k x y h).bind fun w h =>
    (lcGo w v t (ev T cl c) (ev T cl e) w.xs [] h).bind fun ys h => .ok (.lst ys) (unl k w h) := rfl
@[simp] theorem es_n : evs T cl .nil v h = .ok [] h := (rfl)
@[simp] theorem es_c (e : E) (r : Es) : evs T cl (.cons e r) v h = (ev T cl e v h).bind fun x h => (evs T cl r v h).bind fun xs h => .ok (x :: xs) h := (rfl)
@[simp] theorem s_set (i : Nat) (e : E) : exe T cl (.set i e) v h = (ev T cl e v h).bind fun x h => .ok (.nx (v.set i (some x))) h := (rfl)
@[simp] theorem s_seti (a i e : E) : exe T cl (.seti a i e) v h = (ev T cl e v h).bind fun y h => (ev T cl a v h).bind fun x h => (ev T cl i v h).bind fun i h => (seti x i y h).bind fun _ h => .ok (.nx v) h := (rfl)
@[simp] theorem s_sett (is : List Nat) (e : E) : exe T cl (.sett is e) v h = (ev T cl e v h).bind fun x h => (tgt (.tp is) x v h).bind fun v h => .ok (.nx v) h := (rfl)
@[simp] theorem s_exp (e : E) : exe T cl (.exp e) v h = (ev T cl e v h).bind fun _ h => .ok (.nx v) h := (rfl)
@[simp] theorem s_ret (e : E) : exe T cl (.ret e) v h = (ev T cl e v h).bind fun x h => .ok (.rt x) h := (rfl)
@[simp] theorem s_retn : exe T cl .retn v h = .ok (.rt .non) h := (rfl)
def ite2 (T : Tbl) (cl : Calls) (a b : Ss) (v : Env) (k : Bool) (h : Hs) : R Out := match k with
  | true => exes T cl a v h
  | false => exes T cl b v h
@[simp] theorem ite2_t (a b : Ss) : ite2 T cl a b v true h = exes T cl a v h := (rfl)
@[simp] theorem ite2_f (a b : Ss) : ite2 T cl a b v false h = exes T cl b v h := (rfl)
@[simp] theorem s_ite (c : E) (a b : Ss) : exe T cl (.ite c a b) v h = (ev T cl c v h).bind fun x h => (truth x h).bind fun k h => ite2 T cl a b v k h := (rfl)
@[simp] theorem s_for (t : Tg) (k : Ik) (a b : E) (s : Ss) : exe T cl (.for_ t k a b s) v h = (ev T cl a v h).bind fun x h => (ev T cl b v h).bind fun y h => (itv k x y h).bind fun w h => forGo w t (exes T cl s) w.xs v h := (rfl)
@[simp] theorem s_rse (c : Nat) : exe T cl (.rse c) v h = .exc c h := (rfl)
def seq2 (T : Tbl) (cl : Calls) (r : Ss) (o : Out) (h : Hs) : R Out := match o with
  | .nx v => exes T cl r v h
  | .rt d => .ok (.rt d) h
@[simp] theorem seq2_n (r : Ss) (v : Env) : seq2 T cl r (.nx v) h = exes T cl r v h := (rfl)
@[simp] theorem seq2_r (r : Ss) (d : D) : seq2 T cl r (.rt d) h = .ok (.rt d) h := (rfl)
@[simp] theorem ss_n : exes T cl .nil v h = .ok (.nx v) h := (rfl)
@[simp] theorem ss_c (s : S) (r : Ss) : exes T cl (.cons s r) v h = (exe T cl s v h).bind fun o h => seq2 T cl r o h := by
  show ((exe T cl s v h).bind fun o h => match o with
    | .nx v => exes T cl r v h
    | .rt d => .ok (.rt d) h) = _
  rfl
theorem run_s {n f : Nat} {xs : List D} {fi : Fi} (e : T.fn f = some fi) (hl : xs.length = fi.np) : run T (n + 1) f xs h = (exes T (run T n) fi.body (env0 fi xs) h).bind fun o h => .ok (outD o) h := by
  show (match T.fn f with
    | some fi => body T (run T n) fi xs h
    | none => .stk) = _
  rw [e]
  dsimp only
  unfold body
  rw [decide_eq_true hl]
def for2 (w : Wk) (t : Tg) (b : Env → Hs → R Out) (r : List D) (o : Out) (h : Hs) : R Out := match o with
  | .nx v => forGo w t b r v h
  | .rt d => .ok (.rt d) h
@[simp] theorem for2_n {w : Wk} {t : Tg} {b : Env → Hs → R Out} {r : List D} : for2 w t b r (.nx v) h = forGo w t b r v h := (rfl)
@[simp] theorem for2_r {w : Wk} {t : Tg} {b : Env → Hs → R Out} {r : List D} {d : D} : for2 w t b r (.rt d) h = .ok (.rt d) h := (rfl)
theorem stays_n {w : Wk} (hw : w.on = none) : stays w h = true := by
  unfold stays
  rw [hw]
theorem for_n {w : Wk} {t : Tg} {b : Env → Hs → R Out} (hw : w.on = none) : forGo w t b [] v h = .ok (.nx v) h := by
  unfold forGo
  rw [stays_n hw]
  rfl
theorem for_c {w : Wk} {t : Tg} {b : Env → Hs → R Out} {x : D} {r : List D} (hw : w.on = none) : forGo w t b (x :: r) v h = (tgt t x v h).bind fun v h => (b v h).bind fun o h => for2 w t b r o h := by
  rw [forGo]
  rw [stays_n hw]
  rfl
@[simp] theorem tgt_nm (i : Nat) (x : D) : tgt (.nm i) x v h = .ok (v.set i (some x)) h := (rfl)
def lc2 (w : Wk) (v : Env) (t : Tg) (c e : Env → Hs → R D) (r : List D) (acc : List D) (v1 : Env) (b : Bool) (h : Hs) : R (List D) := match b with
  | true => (e v1 h).bindN fun y h => (match decide (acc.length < big) with
    | true => lcGo w v t c e r (acc ++ [y]) h
    | false => .stk)
  | false => lcGo w v t c e r acc h
theorem lc_n {w : Wk} {t : Tg} {c e : Env → Hs → R D} {acc : List D} (hw : w.on = none) : lcGo w v t c e [] acc h = .ok acc h := by
  unfold lcGo
  rw [stays_n hw]
  rfl
theorem lc_c {w : Wk} {t : Tg} {c e : Env → Hs → R D} {x : D} {r acc : List D} (hw : w.on = none) : lcGo w v t c e (x :: r) acc h = (tgt t x v h).bindN fun v1 h => (c v1 h).bindN fun b h => (truth b h).bindN fun b h => lc2 w v t c e r acc v1 b h := by
  rw [lcGo]
  rw [stays_n hw]
  rfl
/-- a pure def, called -/
theorem call_p {f : Nat} {fi : Fi} {xs : List D} {d : D} {h' : Hs} (e : T.fn f = some fi) (p : fi.pure = true) (r : D.rls xs = true) (c : cl f xs Hs.nil = .ok d h') (rd : d.rl = true) : callF T cl f xs h = .ok d h := by
  unfold callF
  rw [e]
  dsimp only
  rw [p]
  dsimp only
  rw [r]
  dsimp only
  rw [c]
  dsimp only
  rw [rd]
  rfl
theorem call_i {f : Nat} {fi : Fi} {xs : List D} (e : T.fn f = some fi) (p : fi.pure = false) : callF T cl f xs h = cl f xs h := by
  unfold callF
  rw [e]
  dsimp only
  rw [p]
end
end Ed

/-! part Ir02 -/
set_option maxRecDepth 100000
set_option maxHeartbeats 0
namespace Ed
open Ev
def i_is_whole : Fi := ⟨3, 3, true, (.cons (.ret (.and (.isi (.var 0) .int) (.and (.not (.isi (.var 0) .bool)) (.chn .le .le (.var 1) (.var 0) (.var 2))))) .nil)⟩
def i_are_signs : Fi := ⟨5, 4, true, (.cons (.ite (.or (.not (.isi (.var 0) .str)) (.not (.chn .le .le (.var 1) (.blt .len (.cons (.var 0) .nil)) (.var 2)))) (.cons (.ret (.lit (.bl false))) .nil) .nil) (.cons (.ret (.blt .all (.cons (.lc (.nm 4) .val (.var 0) (.lit .non) (.lit (.bl true)) (.cmp .mem (.var 4) (.bin .add (.bin .add (.con 0) (.con 1)) (.var 3)))) .nil))) .nil))⟩
def i_is_text : Fi := ⟨1, 1, true, (.cons (.ret (.call 1 (.cons (.var 0) (.cons (.lit (.int 0)) (.cons (.con 4) (.cons (.lit (.str [10])) .nil)))))) .nil)⟩
def i_need_text : Fi := ⟨1, 1, true, (.cons (.ite (.not (.call 2 (.cons (.var 0) .nil))) (.cons (.rse 0) .nil) .nil) .nil)⟩
def i_need_place : Fi := ⟨2, 2, true, (.cons (.exp (.call 3 (.cons (.var 0) .nil))) (.cons (.ite (.not (.call 0 (.cons (.var 1) (.cons (.lit (.int 0)) (.cons (.blt .len (.cons (.var 0) .nil)) .nil))))) (.cons (.rse 1) .nil) .nil) .nil))⟩
def i_begin_of : Fi := ⟨2, 2, true, (.cons (.ret (.bin .add (.bm .rfind (.var 0) (.cons (.lit (.str [10])) (.cons (.lit (.int 0)) (.cons (.var 1) .nil)))) (.lit (.int 1)))) .nil)⟩
def i_end_of : Fi := ⟨3, 2, true, (.cons (.set 2 (.bm .find (.var 0) (.cons (.lit (.str [10])) (.cons (.var 1) .nil)))) (.cons (.ret (.ife (.cmp .lt (.var 2) (.lit (.int 0))) (.blt .len (.cons (.var 0) .nil)) (.var 2))) .nil))⟩
def i_row_of : Fi := ⟨2, 2, true, (.cons (.ret (.bm .count (.slc (.var 0) .nob (.var 1)) (.cons (.lit (.str [10])) .nil))) .nil)⟩
def i_begins : Fi := ⟨3, 1, true, (.cons (.ret (.bin .add (.lst (.cons (.lit (.int 0)) .nil)) (.lc (.tp [1, 2]) .enm (.var 0) (.lit .non) (.cmp .eq (.var 2) (.lit (.str [10]))) (.bin .add (.var 1) (.lit (.int 1)))))) .nil)⟩
def i_is_part : Fi := ⟨2, 2, true, (.cons (.ite (.cmp .eq (.var 0) (.lit (.str [110]))) (.cons (.ret (.call 0 (.cons (.var 1) (.cons (.lit (.int 1)) (.cons (.con 5) .nil))))) .nil) .nil) (.cons (.ite (.cmp .eq (.var 0) (.lit (.str [114]))) (.cons (.ret (.call 0 (.cons (.var 1) (.cons (.lit (.int 1)) (.cons (.con 6) .nil))))) .nil) .nil) (.cons (.ite (.cmp .eq (.var 0) (.lit (.str [115]))) (.cons (.ret (.call 11 (.cons (.var 1) (.cons (.bin .add (.con 0) (.con 1)) .nil)))) .nil) .nil) (.cons (.ite (.cmp .eq (.var 0) (.lit (.str [109]))) (.cons (.ret (.call 11 (.cons (.var 1) (.cons (.lit (.str [97, 98, 99, 100])) .nil)))) .nil) .nil) (.cons (.ret (.call 1 (.cons (.var 1) (.cons (.lit (.int 1)) (.cons (.lit (.int 5)) (.cons (.lit (.str [])) .nil)))))) .nil)))))⟩
def i_is_motion : Fi := ⟨4, 1, true, (.cons (.ite (.or (.not (.isi (.var 0) .tup)) (.or (.cmp .eq (.blt .len (.cons (.var 0) .nil)) (.lit (.int 0))) (.or (.not (.isi (.sub (.var 0) (.lit (.int 0))) .str)) (.kin true 0 (.sub (.var 0) (.lit (.int 0))))))) (.cons (.ret (.lit (.bl false))) .nil) .nil) (.cons (.set 1 (.kget 0 (.sub (.var 0) (.lit (.int 0))))) (.cons (.ret (.and (.cmp .eq (.blt .len (.cons (.var 0) .nil)) (.bin .add (.blt .len (.cons (.var 1) .nil)) (.lit (.int 1)))) (.blt .all (.cons (.lc (.tp [2, 3]) .zip (.var 1) (.slc (.var 0) (.lit (.int 1)) .nob) (.lit (.bl true)) (.call 12 (.cons (.var 2) (.cons (.var 3) .nil)))) .nil)))) .nil)))⟩
def i_to_row : Fi := ⟨4, 3, true, (.cons (.set 3 (.call 8 (.cons (.var 0) .nil))) (.cons (.ite (.not (.chn .le .lt (.lit (.int 0)) (.var 1) (.blt .len (.cons (.var 3) .nil)))) (.cons (.ret (.lit .non)) .nil) .nil) (.cons (.ret (.blt .min (.cons (.bin .add (.sub (.var 3) (.var 1)) (.var 2)) (.cons (.call 6 (.cons (.var 0) (.cons (.sub (.var 3) (.var 1)) .nil))) .nil)))) .nil)))⟩
def i_place_by : Fi := ⟨8, 6, false, (.cons (.set 6 (.sub (.var 2) (.lit (.int 0)))) (.cons (.ite (.cmp .eq (.var 6) (.lit (.str [108, 101, 102, 116]))) (.cons (.ret (.ife (.cmp .gt (.var 1) (.lit (.int 0))) (.blt .max (.cons (.lit (.int 0)) (.cons (.bin .sub (.var 1) (.sub (.var 2) (.lit (.int 1)))) .nil))) (.lit .non))) .nil) .nil) (.cons (.ite (.cmp .eq (.var 6) (.lit (.str [114, 105, 103, 104, 116]))) (.cons (.ret (.ife (.cmp .lt (.var 1) (.blt .len (.cons (.var 0) .nil))) (.blt .min (.cons (.blt .len (.cons (.var 0) .nil)) (.cons (.bin .add (.var 1) (.sub (.var 2) (.lit (.int 1)))) .nil))) (.lit .non))) .nil) .nil) (.cons (.ite (.cmp .mem (.var 6) (.tup (.cons (.lit (.str [117, 112])) (.cons (.lit (.str [100, 111, 119, 110])) .nil)))) (.cons (.set 7 (.ife (.cmp .eq (.var 6) (.lit (.str [100, 111, 119, 110]))) (.sub (.var 2) (.lit (.int 1))) (.bin .sub (.lit (.int 0)) (.sub (.var 2) (.lit (.int 1)))))) (.cons (.ret (.call 16 (.cons (.var 0) (.cons (.bin .add (.call 7 (.cons (.var 0) (.cons (.var 1) .nil))) (.var 7)) (.cons (.var 3) .nil))))) .nil)) .nil) (.cons (.ite (.cmp .eq (.var 6) (.lit (.str [119, 111, 114, 100]))) (.cons (.ret (.call 14 (.cons (.call 9 (.cons (.var 0) .nil)) (.cons (.var 1) (.cons (.sub (.var 2) (.lit (.int 1))) .nil))))) .nil) .nil) (.cons (.ite (.cmp .eq (.var 6) (.lit (.str [98, 97, 99, 107]))) (.cons (.ret (.call 15 (.cons (.call 9 (.cons (.var 0) .nil)) (.cons (.var 1) (.cons (.sub (.var 2) (.lit (.int 1))) .nil))))) .nil) .nil) (.cons (.ite (.cmp .eq (.var 6) (.lit (.str [111, 118, 101, 114]))) (.cons (.ret (.call 14 (.cons (.call 10 (.cons (.var 0) .nil)) (.cons (.var 1) (.cons (.sub (.var 2) (.lit (.int 1))) .nil))))) .nil) .nil) (.cons (.ite (.cmp .eq (.var 6) (.lit (.str [109, 97, 114, 107]))) (.cons (.ret (.bm .get (.var 4) (.cons (.sub (.var 2) (.lit (.int 1))) .nil))) .nil) .nil) (.cons (.ite (.cmp .eq (.var 6) (.lit (.str [115, 101, 97, 114, 99, 104]))) (.cons (.ret (.call 19 (.cons (.var 0) (.cons (.var 1) (.cons (.sub (.var 2) (.lit (.int 1))) .nil))))) .nil) .nil) (.cons (.ite (.cmp .mem (.var 6) (.tup (.cons (.lit (.str [97, 103, 97, 105, 110])) (.cons (.lit (.str [98, 101, 102, 111, 114, 101])) .nil)))) (.cons (.ite (.isn (.var 5)) (.cons (.ret (.lit .non)) .nil) .nil) (.cons (.ret (.ife (.cmp .eq (.var 6) (.lit (.str [97, 103, 97, 105, 110]))) (.call 19 (.cons (.var 0) (.cons (.var 1) (.cons (.var 5) .nil)))) (.call 20 (.cons (.var 0) (.cons (.var 1) (.cons (.var 5) .nil)))))) .nil)) .nil) (.cons (.ret (.call 21 (.cons (.var 0) (.cons (.var 1) (.cons (.var 2) .nil))))) .nil)))))))))))⟩
def i_need_motion : Fi := ⟨1, 1, true, (.cons (.ite (.not (.call 13 (.cons (.var 0) .nil))) (.cons (.rse 2) .nil) .nil) .nil)⟩
def i_goes : Fi := ⟨3, 3, true, (.cons (.exp (.call 4 (.cons (.var 0) (.cons (.var 1) .nil)))) (.cons (.exp (.call 23 (.cons (.var 2) .nil))) (.cons (.ret (.call 22 (.cons (.var 0) (.cons (.var 1) (.cons (.var 2) (.cons (.bin .sub (.var 1) (.call 5 (.cons (.var 0) (.cons (.var 1) .nil)))) (.cons (.dct [] .nil) (.cons (.lit .non) .nil)))))))) .nil)))⟩
def i_law_cell_at : Fi := ⟨2, 2, true, (.cons (.ite (.cmp .lt (.var 1) (.blt .len (.cons (.var 0) .nil))) (.cons (.ret (.sub (.var 0) (.var 1))) .nil) .nil) (.cons (.ite (.cmp .eq (.var 0) (.lst .nil)) (.cons (.ret (.lit (.int 0))) .nil) .nil) (.cons (.ret (.bin .add (.bin .mul (.sub (.var 0) (.bin .mod (.var 1) (.blt .len (.cons (.var 0) .nil)))) (.lit (.int 31))) (.var 1))) .nil)))⟩
def i_law_mixed : Fi := ⟨4, 3, true, (.cons (.set 3 (.bin .mod (.bin .mul (.bin .add (.bin .add (.call 25 (.cons (.var 0) (.cons (.var 1) .nil))) (.bin .mul (.lit (.int 7919)) (.var 1))) (.lit (.int 1))) (.lit (.int 48271))) (.lit (.int 2147483647)))) (.cons (.ret (.bin .mod (.bin .mod (.bin .add (.bin .add (.bin .mul (.var 3) (.var 3)) (.bin .mul (.lit (.int 7)) (.var 3))) (.var 1)) (.lit (.int 2147483629))) (.var 2))) .nil))⟩
def i_law_draw : Fi := ⟨3, 3, false, (.cons (.exp (.bm .append (.var 1) (.cons (.lit (.int 0)) .nil))) (.cons (.ret (.call 26 (.cons (.var 0) (.cons (.blt .len (.cons (.var 1) .nil)) (.cons (.var 2) .nil))))) .nil))⟩
def i_law_pick : Fi := ⟨3, 3, false, (.cons (.ret (.sub (.var 2) (.call 27 (.cons (.var 0) (.cons (.var 1) (.cons (.blt .len (.cons (.var 2) .nil)) .nil)))))) .nil)⟩
def i_law_piece : Fi := ⟨6, 3, false, (.cons (.set 3 (.lit (.str []))) (.cons (.set 4 (.mut (.lst (.cons (.lit (.str [97])) (.cons (.lit (.str [98])) (.cons (.lit (.str [65])) (.cons (.lit (.str [98, 55])) (.cons (.lit (.str [97, 98])) (.cons (.lit (.str [32])) (.cons (.lit (.str [32, 32])) (.cons (.lit (.str [40])) (.cons (.lit (.str [41])) (.cons (.lit (.str [91])) (.cons (.lit (.str [93])) (.cons (.lit (.str [123])) (.cons (.lit (.str [125])) (.cons (.lit (.str [46])) .nil))))))))))))))))) (.cons (.exp (.bm .extend (.var 4) (.cons (.lst (.cons (.lit (.str [44])) (.cons (.lit (.str [45])) (.cons (.lit (.str [10])) (.cons (.lit (.str [10])) (.cons (.lit (.str [32, 97])) (.cons (.lit (.str [120, 121, 122])) (.cons (.lit (.str [90])) .nil)))))))) .nil))) (.cons (.for_ (.nm 5) .rng1 (.call 27 (.cons (.var 0) (.cons (.var 1) (.cons (.var 2) .nil)))) (.lit .non) (.cons (.set 3 (.bin .add (.var 3) (.call 28 (.cons (.var 0) (.cons (.var 1) (.cons (.var 4) .nil)))))) .nil)) (.cons (.ret (.var 3)) .nil)))))⟩
def i_law_text : Fi := ⟨6, 3, false, (.cons (.set 3 (.call 27 (.cons (.var 0) (.cons (.var 1) (.cons (.lit (.int 12)) .nil))))) (.cons (.ite (.cmp .eq (.var 3) (.lit (.int 0))) (.cons (.ret (.lit (.str []))) .nil) .nil) (.cons (.ite (.cmp .eq (.var 3) (.lit (.int 1))) (.cons (.set 4 (.lit (.str [97, 98, 99, 100, 101, 102, 103, 104, 105, 106, 107, 108, 109, 110, 111, 112, 113, 114, 115, 116, 117, 118, 119, 120, 121, 122, 65, 66, 67, 68, 69, 70, 71, 72, 73, 74, 75, 76, 77, 78, 79, 80, 81, 82, 83, 84, 85, 86, 87, 88, 89, 90, 48, 49, 50, 51, 52, 53, 54, 55, 56, 57, 32, 46, 44, 45, 40, 41, 91, 93, 123, 125]))) (.cons (.ret (.bm .join (.lit (.str [])) (.cons (.lc (.nm 5) .rng1 (.call 27 (.cons (.var 0) (.cons (.var 1) (.cons (.lit (.int 30)) .nil)))) (.lit .non) (.lit (.bl true)) (.sub (.var 4) (.call 27 (.cons (.var 0) (.cons (.var 1) (.cons (.blt .len (.cons (.var 4) .nil)) .nil)))))) .nil))) .nil)) .nil) (.cons (.ret (.slc (.call 29 (.cons (.var 0) (.cons (.var 1) (.cons (.var 2) .nil)))) .nob (.lit (.int 200)))) .nil))))⟩
def i_law_place : Fi := ⟨3, 3, false, (.cons (.ite (.cmp .eq (.call 27 (.cons (.var 0) (.cons (.var 1) (.cons (.lit (.int 6)) .nil)))) (.lit (.int 0))) (.cons (.ret (.call 28 (.cons (.var 0) (.cons (.var 1) (.cons (.lst (.cons (.lit (.int 0)) (.cons (.blt .len (.cons (.var 2) .nil)) .nil))) .nil))))) .nil) .nil) (.cons (.ret (.call 27 (.cons (.var 0) (.cons (.var 1) (.cons (.bin .add (.blt .len (.cons (.var 2) .nil)) (.lit (.int 1))) .nil))))) .nil))⟩
def i_law_rows : Fi := ⟨3, 1, true, (.cons (.set 1 (.mut (.lst (.cons (.lit (.str [])) .nil)))) (.cons (.for_ (.nm 2) .val (.var 0) (.lit .non) (.cons (.ite (.cmp .eq (.var 2) (.lit (.str [10]))) (.cons (.exp (.bm .append (.var 1) (.cons (.lit (.str [])) .nil))) .nil) (.cons (.seti (.var 1) (.neg (.lit (.int 1))) (.bin .add (.sub (.var 1) (.neg (.lit (.int 1)))) (.var 2))) .nil)) .nil)) (.cons (.ret (.frz (.var 1))) .nil)))⟩
def i_law_spot : Fi := ⟨5, 2, true, (.cons (.set 2 (.lit (.int 0))) (.cons (.set 3 (.lit (.int 0))) (.cons (.for_ (.nm 4) .val (.slc (.var 0) .nob (.var 1)) (.lit .non) (.cons (.set 3 (.bin .add (.var 3) (.lit (.int 1)))) (.cons (.ite (.cmp .eq (.var 4) (.lit (.str [10]))) (.cons (.set 2 (.bin .add (.var 2) (.lit (.int 1)))) (.cons (.set 3 (.lit (.int 0))) .nil)) .nil) .nil))) (.cons (.ret (.tup (.cons (.var 2) (.cons (.var 3) .nil)))) .nil))))⟩
def i_law_back : Fi := ⟨4, 3, true, (.cons (.ret (.bin .add (.blt .sum (.cons (.lc (.nm 3) .val (.slc (.var 0) .nob (.var 1)) (.lit .non) (.lit (.bl true)) (.bin .add (.blt .len (.cons (.var 3) .nil)) (.lit (.int 1)))) .nil)) (.blt .min (.cons (.var 2) (.cons (.blt .len (.cons (.sub (.var 0) (.var 1)) .nil)) .nil))))) .nil)⟩
def i_law_goes : Fi := ⟨14, 6, false, (.cons (.set 6 (.sub (.var 2) (.lit (.int 0)))) (.cons (.set 7 (.call 32 (.cons (.var 0) .nil))) (.cons (.sett [8, 9] (.call 33 (.cons (.var 0) (.cons (.var 1) .nil)))) (.cons (.ite (.cmp .mem (.var 6) (.tup (.cons (.lit (.str [108, 101, 102, 116])) (.cons (.lit (.str [114, 105, 103, 104, 116])) .nil)))) (.cons (.set 10 (.bin .add (.var 1) (.bin .mul (.sub (.var 2) (.lit (.int 1))) (.ife (.cmp .eq (.var 6) (.lit (.str [114, 105, 103, 104, 116]))) (.lit (.int 1)) (.neg (.lit (.int 1))))))) (.cons (.set 10 (.blt .max (.cons (.lit (.int 0)) (.cons (.blt .min (.cons (.blt .len (.cons (.var 0) .nil)) (.cons (.var 10) .nil))) .nil)))) (.cons (.ret (.ife (.cmp .ne (.var 10) (.var 1)) (.var 10) (.lit .non))) .nil))) .nil) (.cons (.ite (.cmp .mem (.var 6) (.tup (.cons (.lit (.str [117, 112])) (.cons (.lit (.str [100, 111, 119, 110])) .nil)))) (.cons (.set 10 (.bin .add (.var 8) (.bin .mul (.sub (.var 2) (.lit (.int 1))) (.ife (.cmp .eq (.var 6) (.lit (.str [100, 111, 119, 110]))) (.lit (.int 1)) (.neg (.lit (.int 1))))))) (.cons (.ret (.ife (.chn .le .lt (.lit (.int 0)) (.var 10) (.blt .len (.cons (.var 7) .nil))) (.call 34 (.cons (.var 7) (.cons (.var 10) (.cons (.ife (.isn (.var 3)) (.var 9) (.var 3)) .nil)))) (.lit .non))) .nil)) .nil) (.cons (.ite (.cmp .mem (.var 6) (.tup (.cons (.lit (.str [119, 111, 114, 100])) (.cons (.lit (.str [98, 97, 99, 107])) (.cons (.lit (.str [111, 118, 101, 114])) .nil))))) (.cons (.ret (.call 39 (.cons (.var 0) (.cons (.var 2) (.cons (.var 1) .nil))))) .nil) .nil) (.cons (.ite (.cmp .mem (.var 6) (.tup (.cons (.lit (.str [98, 101, 103, 105, 110])) (.cons (.lit (.str [101, 110, 100])) (.cons (.lit (.str [102, 105, 114, 115, 116])) .nil))))) (.cons (.set 11 (.blt .len (.cons (.lc (.nm 12) .rng1 (.blt .len (.cons (.sub (.var 7) (.var 8)) .nil)) (.lit .non) (.cmp .eq (.slc (.sub (.var 7) (.var 8)) .nob (.bin .add (.var 12) (.lit (.int 1)))) (.bin .mul (.lit (.str [32])) (.bin .add (.var 12) (.lit (.int 1))))) (.var 12)) .nil))) (.cons (.ret (.bin .add (.bin .sub (.var 1) (.var 9)) (.sub (.dct [[98, 101, 103, 105, 110], [101, 110, 100], [102, 105, 114, 115, 116]] (.cons (.lit (.int 0)) (.cons (.blt .len (.cons (.sub (.var 7) (.var 8)) .nil)) (.cons (.var 11) .nil)))) (.var 6)))) .nil)) .nil) (.cons (.ite (.cmp .mem (.var 6) (.tup (.cons (.lit (.str [116, 111, 112])) (.cons (.lit (.str [98, 111, 116, 116, 111, 109])) .nil)))) (.cons (.ret (.bin .mul (.blt .len (.cons (.var 0) .nil)) (.blt .int (.cons (.cmp .eq (.var 6) (.lit (.str [98, 111, 116, 116, 111, 109]))) .nil)))) .nil) .nil) (.cons (.ite (.cmp .eq (.var 6) (.lit (.str [114, 111, 119]))) (.cons (.ret (.ife (.cmp .le (.sub (.var 2) (.lit (.int 1))) (.blt .len (.cons (.var 7) .nil))) (.call 34 (.cons (.var 7) (.cons (.bin .sub (.sub (.var 2) (.lit (.int 1))) (.lit (.int 1))) (.cons (.lit (.int 0)) .nil)))) (.lit .non))) .nil) .nil) (.cons (.ite (.cmp .eq (.var 6) (.lit (.str [112, 97, 105, 114]))) (.cons (.ret (.call 38 (.cons (.var 0) (.cons (.var 1) .nil)))) .nil) .nil) (.cons (.ite (.cmp .eq (.var 6) (.lit (.str [109, 97, 114, 107]))) (.cons (.ret (.bm .get (.var 4) (.cons (.sub (.var 2) (.lit (.int 1))) .nil))) .nil) .nil) (.cons (.ite (.cmp .eq (.var 6) (.lit (.str [102, 105, 110, 100]))) (.cons (.set 13 (.lc (.nm 12) .rng2 (.bin .add (.var 9) (.lit (.int 1))) (.blt .len (.cons (.sub (.var 7) (.var 8)) .nil)) (.cmp .eq (.sub (.sub (.var 7) (.var 8)) (.var 12)) (.sub (.var 2) (.lit (.int 1)))) (.var 12))) (.cons (.ret (.ife (.cmp .ge (.blt .len (.cons (.var 13) .nil)) (.sub (.var 2) (.lit (.int 2)))) (.bin .add (.bin .sub (.var 1) (.var 9)) (.sub (.var 13) (.bin .sub (.sub (.var 2) (.lit (.int 2))) (.lit (.int 1))))) (.lit .non))) .nil)) .nil) (.cons (.ite (.cmp .eq (.var 6) (.lit (.str [115, 101, 97, 114, 99, 104]))) (.cons (.ret (.call 37 (.cons (.var 0) (.cons (.var 1) (.cons (.sub (.var 2) (.lit (.int 1))) (.cons (.lit (.bl true)) .nil)))))) .nil) .nil) (.cons (.ite (.isn (.var 5)) (.cons (.ret (.lit .non)) .nil) .nil) (.cons (.ret (.call 37 (.cons (.var 0) (.cons (.var 1) (.cons (.var 5) (.cons (.cmp .eq (.var 6) (.lit (.str [97, 103, 97, 105, 110]))) .nil)))))) .nil)))))))))))))))⟩
def i_law : Fi := ⟨7, 1, false, (.cons (.set 1 (.mut (.lst .nil))) (.cons (.set 2 (.call 30 (.cons (.var 0) (.cons (.var 1) (.cons (.lit (.int 40)) .nil))))) (.cons (.for_ (.nm 3) .rng1 (.lit (.int 8)) (.lit .non) (.cons (.set 4 (.call 31 (.cons (.var 0) (.cons (.var 1) (.cons (.var 2) .nil))))) (.cons (.set 5 (.bin .add (.lit (.int 1)) (.call 27 (.cons (.var 0) (.cons (.var 1) (.cons (.call 28 (.cons (.var 0) (.cons (.var 1) (.cons (.lst (.cons (.lit (.int 1)) (.cons (.lit (.int 2)) (.cons (.lit (.int 3)) (.cons (.lit (.int 9)) .nil))))) .nil)))) .nil)))))) (.cons (.set 6 (.tup (.cons (.call 28 (.cons (.var 0) (.cons (.var 1) (.cons (.lst (.cons (.lit (.str [108, 101, 102, 116])) (.cons (.lit (.str [114, 105, 103, 104, 116])) (.cons (.lit (.str [117, 112])) (.cons (.lit (.str [100, 111, 119, 110])) .nil))))) .nil)))) (.cons (.var 5) .nil)))) (.cons (.ite (.cmp .ne (.call 24 (.cons (.var 2) (.cons (.var 4) (.cons (.var 6) .nil)))) (.call 40 (.cons (.var 2) (.cons (.var 4) (.cons (.var 6) (.cons (.lit .non) (.cons (.dct [] .nil) (.cons (.lit .non) .nil)))))))) (.cons (.ret (.lit (.bl false))) .nil) .nil) .nil))))) (.cons (.ret (.lit (.bl true))) .nil))))⟩
end Ed

/-! part Irm -/
set_option maxRecDepth 100000
set_option maxHeartbeats 0
namespace Ed
open Ev
def i_is_named : Fi := ⟨2, 2, true, (.cons (.ret (.and (.isi (.var 0) .str) (.and (.cmp .eq (.blt .len (.cons (.var 0) .nil)) (.lit (.int 1))) (.cmp .mem (.var 0) (.var 1))))) .nil)⟩
def i_word_begins : Fi := ⟨4, 1, true, (.cons (.set 1 (.mut (.lst .nil))) (.cons (.for_ (.tp [2, 3]) .enm (.var 0) (.lit .non) (.cons (.ite (.and (.cmp .mem (.var 3) (.con 0)) (.or (.cmp .eq (.var 2) (.lit (.int 0))) (.cmp .nme (.sub (.var 0) (.bin .sub (.var 2) (.lit (.int 1)))) (.con 0)))) (.cons (.exp (.bm .append (.var 1) (.cons (.var 2) .nil))) .nil) .nil) .nil)) (.cons (.ret (.frz (.var 1))) .nil)))⟩
def i_word_ends : Fi := ⟨4, 1, true, (.cons (.set 1 (.mut (.lst .nil))) (.cons (.for_ (.tp [2, 3]) .enm (.var 0) (.lit .non) (.cons (.ite (.and (.cmp .mem (.var 3) (.con 0)) (.or (.cmp .eq (.bin .add (.var 2) (.lit (.int 1))) (.blt .len (.cons (.var 0) .nil))) (.cmp .nme (.sub (.var 0) (.bin .add (.var 2) (.lit (.int 1)))) (.con 0)))) (.cons (.exp (.bm .append (.var 1) (.cons (.bin .add (.var 2) (.lit (.int 1))) .nil))) .nil) .nil) .nil)) (.cons (.ret (.frz (.var 1))) .nil)))⟩
def i_nth_behind : Fi := ⟨5, 3, true, (.cons (.set 3 (.lc (.nm 4) .val (.var 0) (.lit .non) (.cmp .gt (.var 4) (.var 1)) (.var 4))) (.cons (.ret (.ife (.cmp .ge (.blt .len (.cons (.var 3) .nil)) (.var 2)) (.sub (.var 3) (.bin .sub (.var 2) (.lit (.int 1)))) (.lit .non))) .nil))⟩
def i_nth_ahead : Fi := ⟨5, 3, true, (.cons (.set 3 (.lc (.nm 4) .val (.var 0) (.lit .non) (.cmp .lt (.var 4) (.var 1)) (.var 4))) (.cons (.ret (.ife (.cmp .ge (.blt .len (.cons (.var 3) .nil)) (.var 2)) (.sub (.var 3) (.bin .sub (.lit (.int 0)) (.var 2))) (.lit .non))) .nil))⟩
def i_partner : Fi := ⟨8, 2, true, (.cons (.set 2 (.slc (.var 0) (.var 1) (.bin .add (.var 1) (.lit (.int 1))))) (.cons (.ite (.or (.cmp .eq (.var 2) (.lit (.str []))) (.cmp .nme (.var 2) (.bin .add (.con 2) (.con 3)))) (.cons (.ret (.lit .non)) .nil) .nil) (.cons (.set 3 (.ife (.cmp .mem (.var 2) (.con 2)) (.lit (.int 1)) (.neg (.lit (.int 1))))) (.cons (.set 4 (.ife (.cmp .mem (.var 2) (.con 2)) (.con 2) (.con 3))) (.cons (.set 5 (.sub (.ife (.cmp .mem (.var 2) (.con 2)) (.con 3) (.con 2)) (.bm .index (.var 4) (.cons (.var 2) .nil)))) (.cons (.set 6 (.lit (.int 0))) (.cons (.set 7 (.var 1)) (.cons (.whl (.chn .le .lt (.lit (.int 0)) (.var 7) (.blt .len (.cons (.var 0) .nil))) (.cons (.set 6 (.bin .sub (.bin .add (.var 6) (.blt .int (.cons (.cmp .eq (.sub (.var 0) (.var 7)) (.var 2)) .nil))) (.blt .int (.cons (.cmp .eq (.sub (.var 0) (.var 7)) (.var 5)) .nil)))) (.cons (.ite (.cmp .eq (.var 6) (.lit (.int 0))) (.cons (.ret (.var 7)) .nil) .nil) (.cons (.set 7 (.bin .add (.var 7) (.var 3))) .nil)))) (.cons (.ret (.lit .non)) .nil)))))))))⟩
def i_found_at : Fi := ⟨3, 2, true, (.cons (.ret (.lc (.nm 2) .rng1 (.blt .len (.cons (.var 0) .nil)) (.lit .non) (.cmp .eq (.slc (.var 0) (.var 2) (.bin .add (.var 2) (.blt .len (.cons (.var 1) .nil)))) (.var 1)) (.var 2))) .nil)⟩
def i_search_on : Fi := ⟨4, 3, true, (.cons (.set 3 (.call 18 (.cons (.var 0) (.cons (.var 2) .nil)))) (.cons (.ret (.ife (.or (.cmp .eq (.var 3) (.lst .nil)) (.cmp .gt (.sub (.var 3) (.neg (.lit (.int 1)))) (.var 1))) (.call 14 (.cons (.var 3) (.cons (.var 1) (.cons (.lit (.int 1)) .nil)))) (.sub (.var 3) (.lit (.int 0))))) .nil))⟩
def i_search_back : Fi := ⟨4, 3, true, (.cons (.set 3 (.call 18 (.cons (.var 0) (.cons (.var 2) .nil)))) (.cons (.ret (.ife (.or (.cmp .eq (.var 3) (.lst .nil)) (.cmp .lt (.sub (.var 3) (.lit (.int 0))) (.var 1))) (.call 15 (.cons (.var 3) (.cons (.var 1) (.cons (.lit (.int 1)) .nil)))) (.sub (.var 3) (.neg (.lit (.int 1)))))) .nil))⟩
def i_within : Fi := ⟨7, 3, true, (.cons (.set 3 (.sub (.var 2) (.lit (.int 0)))) (.cons (.ite (.cmp .eq (.var 3) (.lit (.str [98, 101, 103, 105, 110]))) (.cons (.ret (.call 5 (.cons (.var 0) (.cons (.var 1) .nil)))) .nil) .nil) (.cons (.ite (.cmp .eq (.var 3) (.lit (.str [101, 110, 100]))) (.cons (.ret (.call 6 (.cons (.var 0) (.cons (.var 1) .nil)))) .nil) .nil) (.cons (.ite (.cmp .eq (.var 3) (.lit (.str [102, 105, 114, 115, 116]))) (.cons (.set 4 (.slc (.var 0) (.call 5 (.cons (.var 0) (.cons (.var 1) .nil))) (.call 6 (.cons (.var 0) (.cons (.var 1) .nil))))) (.cons (.ret (.bin .sub (.bin .add (.call 5 (.cons (.var 0) (.cons (.var 1) .nil))) (.blt .len (.cons (.var 4) .nil))) (.blt .len (.cons (.bm .lstrip (.var 4) (.cons (.lit (.str [32])) .nil)) .nil)))) .nil)) .nil) (.cons (.ite (.cmp .eq (.var 3) (.lit (.str [116, 111, 112]))) (.cons (.ret (.lit (.int 0))) .nil) .nil) (.cons (.ite (.cmp .eq (.var 3) (.lit (.str [98, 111, 116, 116, 111, 109]))) (.cons (.ret (.blt .len (.cons (.var 0) .nil))) .nil) .nil) (.cons (.ite (.cmp .eq (.var 3) (.lit (.str [112, 97, 105, 114]))) (.cons (.ret (.call 17 (.cons (.var 0) (.cons (.var 1) .nil)))) .nil) .nil) (.cons (.ite (.cmp .eq (.var 3) (.lit (.str [114, 111, 119]))) (.cons (.ret (.call 16 (.cons (.var 0) (.cons (.bin .sub (.sub (.var 2) (.lit (.int 1))) (.lit (.int 1))) (.cons (.lit (.int 0)) .nil))))) .nil) .nil) (.cons (.set 5 (.lc (.nm 6) .rng2 (.bin .add (.var 1) (.lit (.int 1))) (.call 6 (.cons (.var 0) (.cons (.var 1) .nil))) (.cmp .eq (.sub (.var 0) (.var 6)) (.sub (.var 2) (.lit (.int 1)))) (.var 6))) (.cons (.ret (.call 14 (.cons (.var 5) (.cons (.var 1) (.cons (.sub (.var 2) (.lit (.int 2))) .nil))))) .nil))))))))))⟩
def i_law_is_word : Fi := ⟨1, 1, true, (.cons (.ret (.or (.chn .le .le (.lit (.str [97])) (.var 0) (.lit (.str [122]))) (.or (.chn .le .le (.lit (.str [65])) (.var 0) (.lit (.str [90]))) (.chn .le .le (.lit (.str [48])) (.var 0) (.lit (.str [57])))))) .nil)⟩
def i_law_starts : Fi := ⟨3, 2, true, (.cons (.ret (.lc (.nm 2) .rng1 (.blt .len (.cons (.var 0) .nil)) (.lit .non) (.cmp .eq (.slc (.var 0) (.var 2) (.bin .add (.var 2) (.blt .len (.cons (.var 1) .nil)))) (.var 1)) (.var 2))) .nil)⟩
def i_law_next : Fi := ⟨6, 4, true, (.cons (.set 4 (.call 36 (.cons (.var 0) (.cons (.var 2) .nil)))) (.cons (.ite (.cmp .eq (.var 4) (.lst .nil)) (.cons (.ret (.lit .non)) .nil) .nil) (.cons (.ite (.var 3) (.cons (.ret (.sub (.blt .min (.cons (.lc (.nm 5) .val (.var 4) (.lit .non) (.lit (.bl true)) (.tup (.cons (.cmp .le (.var 5) (.var 1)) (.cons (.var 5) .nil)))) .nil)) (.lit (.int 1)))) .nil) .nil) (.cons (.ret (.sub (.blt .max (.cons (.lc (.nm 5) .val (.var 4) (.lit .non) (.lit (.bl true)) (.tup (.cons (.cmp .lt (.var 5) (.var 1)) (.cons (.var 5) .nil)))) .nil)) (.lit (.int 1)))) .nil))))⟩
def i_law_pair : Fi := ⟨8, 2, true, (.cons (.for_ (.tp [2, 3]) .val (.tup (.cons (.tup (.cons (.lit (.str [40])) (.cons (.lit (.str [41])) .nil))) (.cons (.tup (.cons (.lit (.str [91])) (.cons (.lit (.str [93])) .nil))) (.cons (.tup (.cons (.lit (.str [123])) (.cons (.lit (.str [125])) .nil))) .nil)))) (.lit .non) (.cons (.set 4 (.mut (.lst .nil))) (.cons (.for_ (.tp [5, 6]) .enm (.var 0) (.lit .non) (.cons (.ite (.cmp .eq (.var 6) (.var 2)) (.cons (.exp (.bm .append (.var 4) (.cons (.var 5) .nil))) .nil) .nil) (.cons (.ite (.and (.cmp .eq (.var 6) (.var 3)) (.cmp .ne (.var 4) (.lst .nil))) (.cons (.set 7 (.bm .pop (.var 4) .nil)) (.cons (.ite (.cmp .mem (.var 1) (.tup (.cons (.var 7) (.cons (.var 5) .nil)))) (.cons (.ret (.bin .sub (.bin .add (.var 5) (.var 7)) (.var 1))) .nil) .nil) .nil)) .nil) .nil))) .nil))) (.cons (.ret (.lit .non)) .nil))⟩
def i_law_ends : Fi := ⟨9, 3, true, (.cons (.set 3 (.bin .add (.bin .add (.lst (.cons (.lit (.bl false)) .nil)) (.lc (.nm 4) .val (.var 0) (.lit .non) (.lit (.bl true)) (.call 35 (.cons (.var 4) .nil)))) (.lst (.cons (.lit (.bl false)) .nil)))) (.cons (.set 5 (.lc (.nm 6) .rng1 (.blt .len (.cons (.var 0) .nil)) (.lit .non) (.and (.sub (.var 3) (.bin .add (.var 6) (.lit (.int 1)))) (.not (.sub (.var 3) (.var 6)))) (.var 6))) (.cons (.set 7 (.lc (.nm 6) .rng2 (.lit (.int 1)) (.bin .add (.blt .len (.cons (.var 0) .nil)) (.lit (.int 1))) (.and (.sub (.var 3) (.var 6)) (.not (.sub (.var 3) (.bin .add (.var 6) (.lit (.int 1)))))) (.var 6))) (.cons (.set 8 (.ife (.cmp .eq (.sub (.var 1) (.lit (.int 0))) (.lit (.str [111, 118, 101, 114]))) (.var 7) (.var 5))) (.cons (.ite (.cmp .eq (.sub (.var 1) (.lit (.int 0))) (.lit (.str [98, 97, 99, 107]))) (.cons (.set 8 (.rev (.lc (.nm 6) .val (.var 8) (.lit .non) (.cmp .lt (.var 6) (.var 2)) (.var 6)))) .nil) (.cons (.set 8 (.lc (.nm 6) .val (.var 8) (.lit .non) (.cmp .gt (.var 6) (.var 2)) (.var 6))) .nil)) (.cons (.ret (.ife (.cmp .ge (.blt .len (.cons (.var 8) .nil)) (.sub (.var 1) (.lit (.int 1)))) (.sub (.var 8) (.bin .sub (.sub (.var 1) (.lit (.int 1))) (.lit (.int 1)))) (.lit .non))) .nil))))))⟩
end Ed

/-! part Irmo -/
set_option maxRecDepth 100000
set_option maxHeartbeats 0
namespace Ed
open Ev
def i_law_motion : Fi := ⟨8, 3, false, (.cons (.set 3 (.bin .add (.lit (.int 1)) (.call 27 (.cons (.var 0) (.cons (.var 1) (.cons (.call 28 (.cons (.var 0) (.cons (.var 1) (.cons (.lst (.cons (.lit (.int 1)) (.cons (.lit (.int 2)) (.cons (.lit (.int 3)) (.cons (.lit (.int 9)) .nil))))) .nil)))) .nil)))))) (.cons (.set 4 (.call 28 (.cons (.var 0) (.cons (.var 1) (.cons (.bin .add (.lrg (.lit (.int 20))) (.lst (.cons (.lit (.int 2)) (.cons (.lit (.int 3)) (.cons (.lit (.int 2)) (.cons (.lit (.int 3)) (.cons (.lit (.int 2)) (.cons (.lit (.int 3)) (.cons (.lit (.int 2)) (.cons (.lit (.int 3)) .nil)))))))))) .nil))))) (.cons (.ite (.cmp .lt (.var 4) (.lit (.int 7))) (.cons (.ret (.tup (.cons (.sub (.lst (.cons (.lit (.str [108, 101, 102, 116])) (.cons (.lit (.str [114, 105, 103, 104, 116])) (.cons (.lit (.str [117, 112])) (.cons (.lit (.str [100, 111, 119, 110])) (.cons (.lit (.str [119, 111, 114, 100])) (.cons (.lit (.str [111, 118, 101, 114])) (.cons (.lit (.str [98, 97, 99, 107])) .nil)))))))) (.var 4)) (.cons (.var 3) .nil)))) .nil) .nil) (.cons (.ite (.cmp .lt (.var 4) (.lit (.int 12))) (.cons (.ret (.tup (.cons (.sub (.lst (.cons (.lit (.str [98, 101, 103, 105, 110])) (.cons (.lit (.str [101, 110, 100])) (.cons (.lit (.str [102, 105, 114, 115, 116])) (.cons (.lit (.str [116, 111, 112])) (.cons (.lit (.str [98, 111, 116, 116, 111, 109])) .nil)))))) (.bin .sub (.var 4) (.lit (.int 7)))) .nil))) .nil) .nil) (.cons (.ite (.cmp .eq (.var 4) (.lit (.int 12))) (.cons (.ret (.tup (.cons (.lit (.str [114, 111, 119])) (.cons (.bin .add (.lit (.int 1)) (.call 27 (.cons (.var 0) (.cons (.var 1) (.cons (.call 28 (.cons (.var 0) (.cons (.var 1) (.cons (.lst (.cons (.lit (.int 3)) (.cons (.lit (.int 6)) (.cons (.lit (.int 99)) .nil)))) .nil)))) .nil))))) .nil)))) .nil) .nil) (.cons (.ite (.cmp .eq (.var 4) (.lit (.int 13))) (.cons (.setr 5 (.bin .add (.rep (.var 2)) (.lit (.str [97, 41])))) (.cons (.ret (.tup (.cons (.lit (.str [102, 105, 110, 100])) (.cons (.sub (.var 5) (.call 27 (.cons (.var 0) (.cons (.var 1) (.cons (.blt .len (.cons (.var 5) .nil)) .nil))))) (.cons (.var 3) .nil))))) .nil)) .nil) (.cons (.ite (.cmp .lt (.var 4) (.lit (.int 16))) (.cons (.ret (.tup (.cons (.lit (.str [112, 97, 105, 114])) .nil))) .nil) .nil) (.cons (.ite (.cmp .eq (.var 4) (.lit (.int 16))) (.cons (.ret (.tup (.cons (.lit (.str [109, 97, 114, 107])) (.cons (.call 28 (.cons (.var 0) (.cons (.var 1) (.cons (.lst (.cons (.lit (.str [97])) (.cons (.lit (.str [98])) (.cons (.lit (.str [99])) (.cons (.lit (.str [100])) .nil))))) .nil)))) .nil)))) .nil) .nil) (.cons (.ite (.cmp .lt (.var 4) (.lit (.int 19))) (.cons (.set 6 (.call 27 (.cons (.var 0) (.cons (.var 1) (.cons (.bin .add (.blt .len (.cons (.var 2) .nil)) (.lit (.int 1))) .nil))))) (.cons (.setr 7 (.rep (.slc (.var 2) (.var 6) (.bin .add (.bin .add (.var 6) (.lit (.int 1))) (.call 27 (.cons (.var 0) (.cons (.var 1) (.cons (.lit (.int 3)) .nil)))))))) (.cons (.ret (.tup (.cons (.lit (.str [115, 101, 97, 114, 99, 104])) (.cons (.ife (.cmp .ne (.var 7) (.lit (.str []))) (.var 7) (.lit (.str [97]))) .nil)))) .nil))) .nil) (.cons (.ret (.call 28 (.cons (.var 0) (.cons (.var 1) (.cons (.lst (.cons (.tup (.cons (.lit (.str [97, 103, 97, 105, 110])) .nil)) (.cons (.tup (.cons (.lit (.str [98, 101, 102, 111, 114, 101])) .nil)) .nil))) .nil))))) .nil))))))))))⟩
end Ed

/-! part Ira -/
set_option maxRecDepth 100000
set_option maxHeartbeats 0
namespace Ed
open Ev
def i_is_area : Fi := ⟨1, 1, true, (.cons (.ite (.or (.not (.isi (.var 0) .tup)) (.or (.cmp .eq (.blt .len (.cons (.var 0) .nil)) (.lit (.int 0))) (.not (.isi (.sub (.var 0) (.lit (.int 0))) .str)))) (.cons (.ret (.lit (.bl false))) .nil) .nil) (.cons (.ite (.cmp .mem (.sub (.var 0) (.lit (.int 0))) (.tup (.cons (.lit (.str [119, 111, 114, 100])) (.cons (.lit (.str [99, 104, 111, 115, 101, 110])) .nil)))) (.cons (.ret (.cmp .eq (.blt .len (.cons (.var 0) .nil)) (.lit (.int 1)))) .nil) .nil) (.cons (.ite (.cmp .ne (.blt .len (.cons (.var 0) .nil)) (.lit (.int 2))) (.cons (.ret (.lit (.bl false))) .nil) .nil) (.cons (.ite (.cmp .eq (.sub (.var 0) (.lit (.int 0))) (.lit (.str [98, 121]))) (.cons (.ret (.call 13 (.cons (.sub (.var 0) (.lit (.int 1))) .nil))) .nil) .nil) (.cons (.ite (.cmp .eq (.sub (.var 0) (.lit (.int 0))) (.lit (.str [114, 111, 119, 115]))) (.cons (.ret (.call 0 (.cons (.sub (.var 0) (.lit (.int 1))) (.cons (.lit (.int 1)) (.cons (.con 7) .nil))))) .nil) .nil) (.cons (.ret (.and (.cmp .eq (.sub (.var 0) (.lit (.int 0))) (.lit (.str [105, 110, 115, 105, 100, 101]))) (.and (.isi (.sub (.var 0) (.lit (.int 1))) .str) (.and (.cmp .eq (.blt .len (.cons (.sub (.var 0) (.lit (.int 1))) .nil)) (.lit (.int 1))) (.cmp .mem (.sub (.var 0) (.lit (.int 1))) (.con 2)))))) .nil))))))⟩
def i_word_at : Fi := ⟨4, 2, true, (.cons (.set 2 (.var 1)) (.cons (.whl (.and (.cmp .gt (.var 2) (.lit (.int 0))) (.cmp .mem (.sub (.var 0) (.bin .sub (.var 2) (.lit (.int 1)))) (.con 0))) (.cons (.set 2 (.bin .sub (.var 2) (.lit (.int 1)))) .nil)) (.cons (.set 3 (.var 1)) (.cons (.whl (.and (.cmp .lt (.var 3) (.blt .len (.cons (.var 0) .nil))) (.cmp .mem (.sub (.var 0) (.var 3)) (.con 0))) (.cons (.set 3 (.bin .add (.var 3) (.lit (.int 1)))) .nil)) (.cons (.ret (.ife (.cmp .lt (.var 2) (.var 3)) (.tup (.cons (.var 2) (.cons (.var 3) .nil))) (.lit .non))) .nil)))))⟩
def i_inside : Fi := ⟨7, 3, true, (.cons (.set 3 (.sub (.con 3) (.bm .index (.con 2) (.cons (.var 2) .nil)))) (.cons (.set 4 (.lit (.int 1))) (.cons (.set 5 (.var 1)) (.cons (.whl (.and (.cmp .gt (.var 5) (.lit (.int 0))) (.cmp .gt (.var 4) (.lit (.int 0)))) (.cons (.set 5 (.bin .sub (.var 5) (.lit (.int 1)))) (.cons (.set 4 (.bin .sub (.bin .add (.var 4) (.blt .int (.cons (.cmp .eq (.sub (.var 0) (.var 5)) (.var 3)) .nil))) (.blt .int (.cons (.cmp .eq (.sub (.var 0) (.var 5)) (.var 2)) .nil)))) .nil))) (.cons (.ite (.cmp .gt (.var 4) (.lit (.int 0))) (.cons (.ret (.lit .non)) .nil) .nil) (.cons (.set 4 (.lit (.int 1))) (.cons (.set 6 (.var 1)) (.cons (.whl (.cmp .lt (.var 6) (.blt .len (.cons (.var 0) .nil))) (.cons (.set 4 (.bin .sub (.bin .add (.var 4) (.blt .int (.cons (.cmp .eq (.sub (.var 0) (.var 6)) (.var 2)) .nil))) (.blt .int (.cons (.cmp .eq (.sub (.var 0) (.var 6)) (.var 3)) .nil)))) (.cons (.ite (.cmp .eq (.var 4) (.lit (.int 0))) (.cons (.ret (.tup (.cons (.bin .add (.var 5) (.lit (.int 1))) (.cons (.var 6) .nil)))) .nil) .nil) (.cons (.set 6 (.bin .add (.var 6) (.lit (.int 1)))) .nil)))) (.cons (.ret (.lit .non)) .nil)))))))))⟩
def i_rows_from : Fi := ⟨6, 3, true, (.cons (.set 3 (.call 8 (.cons (.var 0) .nil))) (.cons (.set 4 (.call 7 (.cons (.var 0) (.cons (.var 1) .nil)))) (.cons (.set 5 (.blt .min (.cons (.bin .sub (.blt .len (.cons (.var 3) .nil)) (.lit (.int 1))) (.cons (.bin .sub (.bin .add (.var 4) (.var 2)) (.lit (.int 1))) .nil)))) (.cons (.ret (.tup (.cons (.sub (.var 3) (.var 4)) (.cons (.call 6 (.cons (.var 0) (.cons (.sub (.var 3) (.var 5)) .nil))) .nil)))) .nil))))⟩
def i_area_by : Fi := ⟨11, 7, false, (.cons (.ite (.cmp .eq (.sub (.var 2) (.lit (.int 0))) (.lit (.str [114, 111, 119, 115]))) (.cons (.sett [7, 8] (.call 49 (.cons (.var 0) (.cons (.var 1) (.cons (.sub (.var 2) (.lit (.int 1))) .nil))))) (.cons (.ret (.tup (.cons (.lit (.str [114, 111, 119, 115])) (.cons (.var 7) (.cons (.var 8) .nil))))) .nil)) .nil) (.cons (.set 9 (.lit .non)) (.cons (.ite (.cmp .eq (.sub (.var 2) (.lit (.int 0))) (.lit (.str [98, 121]))) (.cons (.set 10 (.call 22 (.cons (.var 0) (.cons (.var 1) (.cons (.sub (.var 2) (.lit (.int 1))) (.cons (.var 4) (.cons (.var 5) (.cons (.var 6) .nil)))))))) (.cons (.set 9 (.ife (.isn (.var 10)) (.lit .non) (.tup (.cons (.blt .min (.cons (.var 1) (.cons (.var 10) .nil))) (.cons (.blt .max (.cons (.var 1) (.cons (.var 10) .nil))) .nil))))) .nil)) (.cons (.ite (.cmp .eq (.sub (.var 2) (.lit (.int 0))) (.lit (.str [119, 111, 114, 100]))) (.cons (.set 9 (.call 47 (.cons (.var 0) (.cons (.var 1) .nil)))) .nil) (.cons (.ite (.cmp .eq (.sub (.var 2) (.lit (.int 0))) (.lit (.str [105, 110, 115, 105, 100, 101]))) (.cons (.set 9 (.call 48 (.cons (.var 0) (.cons (.var 1) (.cons (.sub (.var 2) (.lit (.int 1))) .nil))))) .nil) (.cons (.ite (.ntn (.var 3)) (.cons (.set 9 (.tup (.cons (.blt .min (.cons (.var 1) (.cons (.var 3) .nil))) (.cons (.blt .max (.cons (.var 1) (.cons (.var 3) .nil))) .nil)))) .nil) .nil) .nil)) .nil)) .nil)) (.cons (.ite (.or (.isn (.var 9)) (.cmp .eq (.sub (.var 9) (.lit (.int 0))) (.sub (.var 9) (.lit (.int 1))))) (.cons (.ret (.lit .non)) .nil) .nil) (.cons (.ret (.bin .add (.tup (.cons (.lit (.str [115, 105, 103, 110, 115])) .nil)) (.var 9))) .nil)))))⟩
def i_area_of : Fi := ⟨3, 3, true, (.cons (.exp (.call 4 (.cons (.var 0) (.cons (.var 1) .nil)))) (.cons (.ite (.not (.call 46 (.cons (.var 2) .nil))) (.cons (.rse 3) .nil) .nil) (.cons (.ret (.call 50 (.cons (.var 0) (.cons (.var 1) (.cons (.var 2) (.cons (.lit .non) (.cons (.bin .sub (.var 1) (.call 5 (.cons (.var 0) (.cons (.var 1) .nil)))) (.cons (.dct [] .nil) (.cons (.lit .non) .nil))))))))) .nil)))⟩
def i_law_inside : Fi := ⟨9, 4, true, (.cons (.set 4 (.lit .non)) (.cons (.set 5 (.mut (.lst .nil))) (.cons (.for_ (.tp [6, 7]) .enm (.var 0) (.lit .non) (.cons (.ite (.cmp .eq (.var 7) (.var 2)) (.cons (.exp (.bm .append (.var 5) (.cons (.var 6) .nil))) .nil) .nil) (.cons (.ite (.and (.cmp .eq (.var 7) (.var 3)) (.cmp .ne (.var 5) (.lst .nil))) (.cons (.set 8 (.bm .pop (.var 5) .nil)) (.cons (.ite (.and (.chn .lt .le (.var 8) (.var 1) (.var 6)) (.isn (.var 4))) (.cons (.set 4 (.tup (.cons (.bin .add (.var 8) (.lit (.int 1))) (.cons (.var 6) .nil)))) .nil) .nil) .nil)) .nil) .nil))) (.cons (.ret (.var 4)) .nil))))⟩
def i_law_word : Fi := ⟨6, 2, true, (.cons (.set 2 (.bin .add (.bin .add (.lst (.cons (.lit (.bl false)) .nil)) (.lc (.nm 3) .val (.var 0) (.lit .non) (.lit (.bl true)) (.call 35 (.cons (.var 3) .nil)))) (.lst (.cons (.lit (.bl false)) .nil)))) (.cons (.for_ (.nm 4) .rng1 (.blt .len (.cons (.var 0) .nil)) (.lit .non) (.cons (.for_ (.nm 5) .rng2 (.bin .add (.var 4) (.lit (.int 1))) (.bin .add (.blt .len (.cons (.var 0) .nil)) (.lit (.int 1))) (.cons (.ite (.and (.chn .le .le (.var 4) (.var 1) (.var 5)) (.and (.blt .all (.cons (.slc (.var 2) (.bin .add (.var 4) (.lit (.int 1))) (.bin .add (.var 5) (.lit (.int 1)))) .nil)) (.and (.not (.sub (.var 2) (.var 4))) (.not (.sub (.var 2) (.bin .add (.var 5) (.lit (.int 1)))))))) (.cons (.ret (.tup (.cons (.var 4) (.cons (.var 5) .nil)))) .nil) .nil) .nil)) .nil)) (.cons (.ret (.lit .non)) .nil)))⟩
def i_law_area : Fi := ⟨9, 3, true, (.cons (.set 3 (.lit .non)) (.cons (.ite (.cmp .eq (.sub (.var 2) (.lit (.int 0))) (.lit (.str [114, 111, 119, 115]))) (.cons (.set 4 (.call 32 (.cons (.var 0) .nil))) (.cons (.sett [5, 6] (.call 33 (.cons (.var 0) (.cons (.var 1) .nil)))) (.cons (.set 7 (.bin .sub (.blt .min (.cons (.blt .len (.cons (.var 4) .nil)) (.cons (.bin .add (.var 5) (.sub (.var 2) (.lit (.int 1)))) .nil))) (.lit (.int 1)))) (.cons (.ret (.tup (.cons (.lit (.str [114, 111, 119, 115])) (.cons (.call 34 (.cons (.var 4) (.cons (.var 5) (.cons (.lit (.int 0)) .nil)))) (.cons (.call 34 (.cons (.var 4) (.cons (.var 7) (.cons (.blt .len (.cons (.sub (.var 4) (.var 7)) .nil)) .nil)))) .nil))))) .nil)))) .nil) (.cons (.ite (.cmp .eq (.sub (.var 2) (.lit (.int 0))) (.lit (.str [98, 121]))) (.cons (.set 8 (.call 40 (.cons (.var 0) (.cons (.var 1) (.cons (.sub (.var 2) (.lit (.int 1))) (.cons (.lit .non) (.cons (.dct [] .nil) (.cons (.lit .non) .nil)))))))) (.cons (.ite (.ntn (.var 8)) (.cons (.set 3 (.tup (.cons (.blt .min (.cons (.var 1) (.cons (.var 8) .nil))) (.cons (.blt .max (.cons (.var 1) (.cons (.var 8) .nil))) .nil)))) .nil) .nil) .nil)) (.cons (.ite (.cmp .eq (.sub (.var 2) (.lit (.int 0))) (.lit (.str [119, 111, 114, 100]))) (.cons (.set 3 (.call 44 (.cons (.var 0) (.cons (.var 1) .nil)))) .nil) (.cons (.ite (.cmp .eq (.sub (.var 2) (.lit (.int 0))) (.lit (.str [105, 110, 115, 105, 100, 101]))) (.cons (.set 3 (.call 43 (.cons (.var 0) (.cons (.var 1) (.cons (.sub (.var 2) (.lit (.int 1))) (.cons (.sub (.dct [[40], [91], [123]] (.cons (.lit (.str [41])) (.cons (.lit (.str [93])) (.cons (.lit (.str [125])) .nil)))) (.sub (.var 2) (.lit (.int 1)))) .nil)))))) .nil) .nil) .nil)) .nil)) (.cons (.ite (.or (.isn (.var 3)) (.cmp .eq (.sub (.var 3) (.lit (.int 0))) (.sub (.var 3) (.lit (.int 1))))) (.cons (.ret (.lit .non)) .nil) .nil) (.cons (.ret (.bin .add (.tup (.cons (.lit (.str [115, 105, 103, 110, 115])) .nil)) (.var 3))) .nil)))))⟩
end Ed

/-! part Irc -/
set_option maxRecDepth 100000
set_option maxHeartbeats 0
namespace Ed
open Ev
def i_law_words_met : Fi := ⟨4, 1, true, (.cons (.set 1 (.mut (.lst .nil))) (.cons (.set 2 (.ife (.and (.cmp .ne (.slc (.var 0) .nob (.lit (.int 1))) (.lit (.str []))) (.cmp .eq (.call 24 (.cons (.var 0) (.cons (.lit (.int 1)) (.cons (.tup (.cons (.lit (.str [98, 97, 99, 107])) (.cons (.lit (.int 1)) .nil))) .nil)))) (.lit (.int 0)))) (.lit (.int 0)) (.call 24 (.cons (.var 0) (.cons (.lit (.int 0)) (.cons (.tup (.cons (.lit (.str [119, 111, 114, 100])) (.cons (.lit (.int 1)) .nil))) .nil)))))) (.cons (.whl (.ntn (.var 2)) (.cons (.exp (.bm .append (.var 1) (.cons (.var 2) .nil))) (.cons (.set 2 (.call 24 (.cons (.var 0) (.cons (.var 2) (.cons (.tup (.cons (.lit (.str [119, 111, 114, 100])) (.cons (.lit (.int 1)) .nil))) .nil))))) .nil))) (.cons (.set 3 (.mut (.lst .nil))) (.cons (.set 2 (.ife (.cmp .gt (.blt .len (.cons (.var 0) .nil)) (.lit (.int 0))) (.call 24 (.cons (.var 0) (.cons (.blt .len (.cons (.var 0) .nil)) (.cons (.tup (.cons (.lit (.str [98, 97, 99, 107])) (.cons (.lit (.int 1)) .nil))) .nil)))) (.lit .non))) (.cons (.whl (.ntn (.var 2)) (.cons (.exp (.bm .append (.var 3) (.cons (.var 2) .nil))) (.cons (.set 2 (.ife (.cmp .gt (.var 2) (.lit (.int 0))) (.call 24 (.cons (.var 0) (.cons (.var 2) (.cons (.tup (.cons (.lit (.str [98, 97, 99, 107])) (.cons (.lit (.int 1)) .nil))) .nil)))) (.lit .non))) .nil))) (.cons (.ret (.cmp .eq (.rev (.var 3)) (.var 1))) .nil)))))))⟩
end Ed

/-! part Sp1 -/
set_option maxRecDepth 100000
set_option maxHeartbeats 4000000
/-! What the small defs compute. -/
namespace Ed
open Ev
def cWORD : List Nat := [97, 98, 99, 100, 101, 102, 103, 104, 105, 106, 107, 108, 109, 110, 111, 112, 113, 114, 115, 116, 117, 118, 119, 120, 121, 122, 65, 66, 67, 68, 69, 70, 71, 72, 73, 74, 75, 76, 77, 78, 79, 80, 81, 82, 83, 84, 85, 86, 87, 88, 89, 90, 48, 49, 50, 51, 52, 53, 54, 55, 56, 57]
def cOTHERS : List Nat := [32, 46, 44, 45, 40, 41, 91, 93, 123, 125]
structure B1 (T : Tbl) : Prop where
  f0 : T.fn 0 = some i_is_whole
  f1 : T.fn 1 = some i_are_signs
  f2 : T.fn 2 = some i_is_text
  f3 : T.fn 3 = some i_need_text
  f4 : T.fn 4 = some i_need_place
  f5 : T.fn 5 = some i_begin_of
  f6 : T.fn 6 = some i_end_of
  f7 : T.fn 7 = some i_row_of
  f8 : T.fn 8 = some i_begins
  f16 : T.fn 16 = some i_to_row
  c0 : T.con 0 = .str cWORD
  c1 : T.con 1 = .str cOTHERS
  c4 : T.con 4 = .int 200
section
variable {T : Tbl} {h : Hs}
@[simp] theorem getV_some (v : Env) (i : Nat) (d : D) (e : v[i]? = some (some d)) : getV v i h = .ok d h := by
  unfold getV
  rw [e]
theorem r_is_whole (b : B1 T) (n : Nat) (i lo hi : Int) : run T (n + 1) 0 [.int i, .int lo, .int hi] h = .ok (.bl (decide (lo ≤ i ∧ i ≤ hi))) h := by
  rw [run_s b.f0 rfl]
  by_cases h1 : lo ≤ i <;> by_cases h2 : i ≤ hi <;> simp [i_is_whole, env0, getV, isi, cmp, h1, h2, outD]
/-- where the row of p begins -/
def bck (t : List Nat) (p : Nat) : Int := (match rfind1 10 (t.take p) 0 none with | some k => (k : Int) | none => -1) + 1
/-- where the row of s ends -/
def fwd (t : List Nat) (s : Nat) : Int := match find1 10 (t.drop s) s with | some k => (k : Int) | none => (t.length : Int)
theorem r_begin_of (b : B1 T) (n : Nat) (t : List Nat) (p : Int) (hp : 0 ≤ p) : run T (n + 1) 5 [.str t, .int p] h = .ok (.int (bck t p.toNat)) h := by
  rw [run_s b.f5 rfl]
  simp [i_begin_of, env0, getV, bty, bty0, bok, bmd, bms, okIf, hp, bin, outD, bck]
  try rfl
theorem r_end_of (b : B1 T) (n : Nat) (t : List Nat) (p : Int) (hp : 0 ≤ p) (hl : t.length ≤ big) : run T (n + 1) 6 [.str t, .int p] h = .ok (.int (fwd t p.toNat)) h := by
  rw [run_s b.f6 rfl]
  cases e : find1 10 (t.drop p.toNat) p.toNat with
  | none => simp [i_end_of, env0, getV, bty, bty0, bok, bmd, bms, okIf, hp, cmp, outD, e, blt, blt1, lenD, hl, fwd]
  | some k =>
    have : ¬ ((k : Int) < 0) := by omega
    simp [i_end_of, env0, getV, bty, bty0, bok, bmd, bms, okIf, hp, cmp, outD, e, this, fwd]
theorem r_row_of (b : B1 T) (n : Nat) (t : List Nat) (p : Int) (hl : t.length ≤ big) : run T (n + 1) 7 [.str t, .int p] h = .ok (.int ((cut t none (some p)).count 10)) h := by
  rw [run_s b.f7 rfl]
  simp [i_row_of, env0, getV, bty, bty0, bok, bmd, bms, okIf, slice, outD, hl]
/-! ### rows -/
def rows (t : List Nat) : List (List Nat) := split1 10 t []
/-- how far behind the last line feed -/
def colA : List Nat → Nat → Nat
  | [], c => c
  | d :: t, c => if d = 10 then colA t 0 else colA t (c + 1)
structure B2 (T : Tbl) : Prop where
  f32 : T.fn 32 = some i_law_rows
  f33 : T.fn 33 = some i_law_spot
  f34 : T.fn 34 = some i_law_back
theorem put_same (h : Hs) (k : Nat) (x : O) : (h.put k x).o k = some x := if_pos rfl
theorem set_last {α : Type} (l : List α) (a b : α) : (l ++ [a]).set l.length b = l ++ [b] := by
  rw [List.set_append_right _ _ (Nat.le_refl _)]
  simp
theorem ati_last {α : Type} (l : List α) (a : α) : ati (l ++ [a]) (-1) = some a := by
  have : ixn (l ++ [a]).length (-1) = some l.length := by
    unfold ixn
    rw [if_neg (by decide), if_pos (by rw [List.length_append]; simp; omega), List.length_append]
    congr 1
    simp
    omega
  unfold ati
  rw [this]
  simp
theorem ixn_last {α : Type} (l : List α) (a : α) : ixn (l ++ [a]).length (-1) = some l.length := by
  unfold ixn
  rw [if_neg (by decide), if_pos (by rw [List.length_append]; simp; omega), List.length_append]
  congr 1
  simp
  omega
def rowsBody : Ss := (.cons (.ite (.cmp .eq (.var 2) (.lit (.str [10]))) (.cons (.exp (.bm .append (.var 1) (.cons (.lit (.str [])) .nil))) .nil) (.cons (.seti (.var 1) (.neg (.lit (.int 1))) (.bin .add (.sub (.var 1) (.neg (.lit (.int 1)))) (.var 2))) .nil)) .nil)
theorem eqd_sign (c : Nat) (d : Nat) : eqd (.str [c]) (.str [d]) = some (decide (c = d)) := by
  unfold eqd
  simp [flat, cmpb]
theorem rows_loop {cl : Calls} {w : Wk} (hw : w.on = none) (t0 : D) : ∀ (t : List Nat) (acc : List (List Nat)) (last : List Nat) (x : Option D) (h : Hs), h.o 0 = some (.lst ((acc.map D.str) ++ [.str last])) → acc.length + t.length + 2 < big → last.length + t.length ≤ big →
    ∃ x' h', forGo w (.nm 2) (exes T cl rowsBody) (t.map fun c => D.str [c]) [some t0, some (.ref 0), x] h = .ok (.nx [some t0, some (.ref 0), x']) h' ∧ h'.o 0 = some (.lst ((acc ++ split1 10 t last).map D.str))
  | [], acc, last, x, h, e, _, _ => ⟨x, h, for_n hw, by rw [e]; simp [split1]⟩
  | c :: t, acc, last, x, h, e, hl, hl2 => by
    rw [List.length_cons] at hl hl2
    rw [List.map_cons, for_c hw]
    by_cases hc : c = 10
    · have e2 : exes T cl rowsBody [some t0, some (.ref 0), some (.str [c])] h = .ok (.nx [some t0, some (.ref 0), some (.str [c])]) (h.put 0 (.lst (((acc ++ [last]).map D.str) ++ [.str []]))) := by
        have : acc.length + 1 < big := by omega
        simp [rowsBody, getV, cmp, eqd_sign, hc, bty, bty0, bok, bmd, bml, e, okIf, this]
      obtain ⟨x', h', e3, e4⟩ := rows_loop hw t0 t (acc ++ [last]) [] (some (.str [c])) _ (put_same h 0 _) (by rw [List.length_append]; simp; omega) (by simp; omega)
      refine ⟨x', h', ?_, ?_⟩
      · show (exes T cl rowsBody [some t0, some (.ref 0), some (.str [c])] h).bind _ = _
        rw [e2]
        exact e3
      · rw [e4]
        simp [split1, hc]
    · have e2 : exes T cl rowsBody [some t0, some (.ref 0), some (.str [c])] h = .ok (.nx [some t0, some (.ref 0), some (.str [c])]) (h.put 0 (.lst ((acc.map D.str) ++ [.str (last ++ [c])]))) := by
        have h3 : last.length + 1 ≤ big := by omega
        have h4 := ati_last (acc.map D.str) (.str last)
        have h5 := ixn_last (acc.map D.str) (D.str last)
        have h6 := set_last (acc.map D.str) (D.str last) (.str (last ++ [c]))
        simp only [List.length_map] at h6
        simp [rowsBody, getV, cmp, eqd_sign, hc, negd, subs, items, e, bin, okIf, h3, seti, h4]
        simp only [List.length_append, List.length_map, List.length_singleton] at h5
        rw [h5]
        simp [h6]
      obtain ⟨x', h', e3, e4⟩ := rows_loop hw t0 t acc (last ++ [c]) (some (.str [c])) _ (put_same h 0 _) (by omega) (by rw [List.length_append]; simp; omega)
      refine ⟨x', h', ?_, ?_⟩
      · show (exes T cl rowsBody [some t0, some (.ref 0), some (.str [c])] h).bind _ = _
        rw [e2]
        exact e3
      · rw [e4]
        simp [split1, hc]
theorem r_rows (b : B2 T) (n : Nat) (t : List Nat) (hl : t.length + 2 < big) : ∃ h', run T (n + 1) 32 [.str t] Hs.nil = .ok (.lst ((rows t).map D.str)) h' := by
  rw [run_s b.f32 rfl]
  obtain ⟨x', h', e1, e2⟩ := rows_loop (T := T) (cl := run T n) (w := ⟨t.map fun c => D.str [c], none⟩) rfl (.str t) t [] [] none (Hs.nil.new (.lst [.str []])) (by rfl) (by simpa using hl) (by simp; omega)
  refine ⟨h'.del 0, ?_⟩
  have e4 : (exes T (run T n) i_law_rows.body (env0 i_law_rows [.str t]) Hs.nil) = (forGo ⟨t.map fun c => D.str [c], none⟩ (.nm 2) (exes T (run T n) rowsBody) (t.map fun c => D.str [c]) [some (.str t), some (.ref 0), none] (Hs.nil.new (.lst [.str []]))).bind fun o h => seq2 T (run T n) (.cons (.ret (.frz (.var 1))) .nil) o h := by
    simp [i_law_rows, env0, getV, mutd, itv, seqw, seqd, rowsBody]
    rfl
  rw [e4, e1]
  simp [getV, frzd, e2, outD, rows]
/-! ### comprehensions whose parts change nothing -/
theorem lc_all {w : Wk} {v : Env} {t : Tg} {c e : Env → Hs → R D} {g : D → Env} {p : D → Bool} {f : D → D} (hw : w.on = none) : ∀ (xs acc : List D) (h : Hs), (∀ x ∈ xs, tgt t x v h = .ok (g x) h) → (∀ x ∈ xs, c (g x) h = .ok (.bl (p x)) h) → (∀ x ∈ xs, p x = true → e (g x) h = .ok (f x) h) → acc.length + xs.length ≤ big →
    lcGo w v t c e xs acc h = .ok (acc ++ (xs.filter p).map f) h
  | [], acc, h, _, _, _, _ => by rw [lc_n hw]; simp
  | x :: r, acc, h, h1, h2, h3, hl => by
    rw [List.length_cons] at hl
    rw [lc_c hw, h1 x (List.mem_cons_self ..), bindN_ok, h2 x (List.mem_cons_self ..), bindN_ok, truth_bl, bindN_ok]
    cases hp : p x with
    | true =>
      have h4 : decide (acc.length < big) = true := decide_eq_true (by omega)
      unfold lc2
      rw [h3 x (List.mem_cons_self ..) hp, bindN_ok]
      dsimp only
      rw [h4]
      dsimp only
      rw [lc_all hw r (acc ++ [f x]) h (fun y hy => h1 y (List.mem_cons_of_mem _ hy)) (fun y hy => h2 y (List.mem_cons_of_mem _ hy)) (fun y hy => h3 y (List.mem_cons_of_mem _ hy)) (by rw [List.length_append]; simp; omega)]
      simp [List.filter_cons, hp]
    | false =>
      unfold lc2
      dsimp only
      rw [lc_all hw r acc h (fun y hy => h1 y (List.mem_cons_of_mem _ hy)) (fun y hy => h2 y (List.mem_cons_of_mem _ hy)) (fun y hy => h3 y (List.mem_cons_of_mem _ hy)) (by omega)]
      simp [List.filter_cons, hp]
def spotA : List Nat → Nat → Nat → Nat × Nat
  | [], r, k => (r, k)
  | c :: t, r, k => if c = 10 then spotA t (r + 1) 0 else spotA t r (k + 1)
def spotBody : Ss := (.cons (.set 3 (.bin .add (.var 3) (.lit (.int 1)))) (.cons (.ite (.cmp .eq (.var 4) (.lit (.str [10]))) (.cons (.set 2 (.bin .add (.var 2) (.lit (.int 1)))) (.cons (.set 3 (.lit (.int 0))) .nil)) .nil) .nil))
theorem spot_loop {cl : Calls} {w : Wk} (hw : w.on = none) (a b : D) (h : Hs) : ∀ (t : List Nat) (r k : Nat) (x : Option D),
    ∃ x', forGo w (.nm 4) (exes T cl spotBody) (t.map fun c => D.str [c]) [some a, some b, some (.int (r : Int)), some (.int (k : Int)), x] h = .ok (.nx [some a, some b, some (.int ((spotA t r k).1 : Int)), some (.int ((spotA t r k).2 : Int)), x']) h
  | [], r, k, x => ⟨x, by rw [List.map_nil, for_n hw]; rfl⟩
  | c :: t, r, k, x => by
    rw [List.map_cons, for_c hw]
    by_cases hc : c = 10
    · obtain ⟨x', e⟩ := spot_loop hw a b h t (r + 1) 0 (some (.str [c]))
      refine ⟨x', ?_⟩
      have e2 : exes T cl spotBody [some a, some b, some (.int (r : Int)), some (.int (k : Int)), some (.str [c])] h = .ok (.nx [some a, some b, some (.int ((r + 1 : Nat) : Int)), some (.int ((0 : Nat) : Int)), some (.str [c])]) h := by
        simp [spotBody, getV, bin, cmp, eqd_sign, hc]
      show (exes T cl spotBody [some a, some b, some (.int (r : Int)), some (.int (k : Int)), some (.str [c])] h).bind _ = _
      rw [e2]
      unfold spotA
      rw [if_pos hc]
      exact e
    · obtain ⟨x', e⟩ := spot_loop hw a b h t r (k + 1) (some (.str [c]))
      refine ⟨x', ?_⟩
      have e2 : exes T cl spotBody [some a, some b, some (.int (r : Int)), some (.int (k : Int)), some (.str [c])] h = .ok (.nx [some a, some b, some (.int (r : Int)), some (.int ((k + 1 : Nat) : Int)), some (.str [c])]) h := by
        simp [spotBody, getV, bin, cmp, eqd_sign, hc]
      show (exes T cl spotBody [some a, some b, some (.int (r : Int)), some (.int (k : Int)), some (.str [c])] h).bind _ = _
      rw [e2]
      unfold spotA
      rw [if_neg hc]
      exact e
theorem r_spot (b : B2 T) (n : Nat) (t : List Nat) (p : Int) (hl : t.length ≤ big) : run T (n + 1) 33 [.str t, .int p] h = .ok (.tup [.int ((spotA (cut t none (some p)) 0 0).1 : Int), .int ((spotA (cut t none (some p)) 0 0).2 : Int)]) h := by
  rw [run_s b.f33 rfl]
  obtain ⟨x', e⟩ := spot_loop (T := T) (cl := run T n) (w := ⟨(cut t none (some p)).map fun c => D.str [c], none⟩) rfl (.str t) (.int p) h (cut t none (some p)) 0 0 none
  have e4 : (exes T (run T n) i_law_spot.body (env0 i_law_spot [.str t, .int p]) h) = (forGo ⟨(cut t none (some p)).map fun c => D.str [c], none⟩ (.nm 4) (exes T (run T n) spotBody) ((cut t none (some p)).map fun c => D.str [c]) [some (.str t), some (.int p), some (.int ((0 : Nat) : Int)), some (.int ((0 : Nat) : Int)), none] h).bind fun o h => seq2 T (run T n) (.cons (.ret (.tup (.cons (.var 2) (.cons (.var 3) .nil)))) .nil) o h := by
    simp [i_law_spot, env0, getV, itv, seqw, seqd, spotBody, slice, okIf, hl]
  rw [e4, e]
  simp [getV, outD]
/-- lengths and one each -/
def lens (R : List (List Nat)) : Nat := (R.map fun r => r.length + 1).sum
theorem intsOf_map {α : Type} (f : α → Int) : ∀ l : List α, intsOf (l.map fun a => D.int (f a)) = some (l.map f)
  | [] => rfl
  | a :: l => by
    show (intsOf (l.map fun a => D.int (f a))).map (f a :: ·) = _
    rw [intsOf_map f l]
    rfl
theorem cut_take {α : Type} (l : List α) (g : Nat) (hg : g ≤ l.length) : cut l none (some (g : Int)) = l.take g := by
  unfold cut six
  have h1 : ¬ ((g : Int) < 0) := by omega
  simp only [h1, if_false, Nat.sub_zero, List.drop_zero, Int.toNat_natCast]
  congr 1
  omega
theorem ati_nat {α : Type} (l : List α) (g : Nat) : ati l (g : Int) = l[g]? := by
  unfold ati ixn
  rw [if_pos (by omega)]
  by_cases hg : g < l.length
  · rw [if_pos (by omega)]
    simp
  · rw [if_neg (by omega)]
    simp [List.getElem?_eq_none (by omega : l.length ≤ g)]
theorem sum_lens (R : List (List Nat)) : (R.map fun r => ((r.length : Int) + 1)).sum = (lens R : Int) := by
  unfold lens
  induction R with
  | nil => rfl
  | cons r R ih => simp [ih]
theorem r_back (b : B2 T) (n : Nat) (R : List (List Nat)) (g : Nat) (k : Int) (r : List Nat) (hr : R[g]? = some r) (hl : R.length ≤ big) (hb : ∀ r ∈ R, r.length ≤ big) : run T (n + 1) 34 [.lst (R.map D.str), .int (g : Int), .int k] h = .ok (.int ((lens (R.take g) : Int) + (if (r.length : Int) < k then (r.length : Int) else k))) h := by
  rw [run_s b.f34 rfl]
  have hg : g < R.length := (List.getElem?_eq_some_iff.mp hr).1
  have hrb : r.length ≤ big := hb r (List.mem_of_getElem? hr)
  have ec : cut (R.map D.str) none (some (g : Int)) = (R.take g).map D.str := by
    rw [cut_take _ _ (by rw [List.length_map]; omega), List.map_take]
  have e1 : lcGo ⟨(R.take g).map D.str, none⟩ [some (.lst (R.map D.str)), some (.int (g : Int)), some (.int k), none] (.nm 3) (ev T (run T n) (.lit (.bl true))) (ev T (run T n) (.bin .add (.blt .len (.cons (.var 3) .nil)) (.lit (.int 1)))) ((R.take g).map D.str) [] h
      = .ok ([] ++ (((R.take g).map D.str).filter fun _ => true).map (fun d => match d with | .str z => D.int ((z.length : Int) + 1) | _ => .non)) h := by
    refine lc_all (g := fun x => [some (.lst (R.map D.str)), some (.int (g : Int)), some (.int k), some x]) rfl _ _ _ (fun x hx => rfl) (fun x hx => rfl) (fun x hx _ => ?_) (by simp; omega)
    obtain ⟨z, hz, rfl⟩ := List.mem_map.mp hx
    have hz2 : z.length ≤ big := hb z (List.mem_of_mem_take hz)
    simp [getV, blt, blt1, lenD, okIf, hz2, bin]
  have e2 : (([] : List D) ++ (((R.take g).map D.str).filter fun _ => true).map (fun d => match d with | .str z => D.int ((z.length : Int) + 1) | _ => .non)) = (R.take g).map fun z => D.int ((z.length : Int) + 1) := by
    rw [List.nil_append, List.filter_eq_self.mpr (fun _ _ => rfl), List.map_map]
    rfl
  rw [e2] at e1
  have ea : ati (R.map D.str) (g : Int) = some (.str r) := by rw [ati_nat, List.getElem?_map, hr]; rfl
  simp [-List.map_take, i_law_back, env0, getV, slice, lsts, ec, itv, seqw, seqd, e1, unl, blt, blt1, intsOf_map, sum_lens, subs, items, ea, lenD, okIf, hrb, blt2, bin, outD]
end
end Ed

/-! part Sp2 -/
set_option maxRecDepth 100000
set_option maxHeartbeats 4000000
/-! The program's steps. -/
namespace Ed
open Ev
section
variable {T : Tbl} {h : Hs}
def begA : Nat → List Nat → List Nat
  | _, [] => []
  | i, c :: t => if c = 10 then (i + 1) :: begA (i + 1) t else begA (i + 1) t
def bgs (t : List Nat) : List Nat := 0 :: begA 0 t
def isNl : D → Bool
  | .tup [_, .str z] => decide (z = [10])
  | _ => false
def behind : D → D
  | .tup [.int i, _] => .int (i + 1)
  | _ => .non
theorem enums_beg : ∀ (t : List Nat) (i : Nat), ((enums i (t.map fun c => D.str [c])).filter isNl).map behind = (begA i t).map fun (n : Nat) => D.int (n : Int)
  | [], i => rfl
  | c :: t, i => by
    unfold begA
    rw [List.map_cons]
    show (((D.tup [.int (i : Int), .str [c]]) :: enums (i + 1) (t.map fun c => D.str [c])).filter isNl).map behind = _
    rw [List.filter_cons]
    by_cases hc : c = 10
    · have e : isNl (.tup [.int (i : Int), .str [c]]) = true := by simp [isNl, hc]
      rw [e, if_pos rfl, if_pos hc, List.map_cons, List.map_cons, enums_beg t (i + 1)]
      congr 1
    · have e : isNl (.tup [.int (i : Int), .str [c]]) = false := by simp [isNl, hc]
      rw [e, if_neg hc, if_neg Bool.false_ne_true, enums_beg t (i + 1)]
theorem enums_mem : ∀ (t : List Nat) (i : Nat) (x : D), x ∈ enums i (t.map fun c => D.str [c]) → ∃ (j : Nat) (c : Nat), x = .tup [.int (j : Int), .str [c]]
  | [], _, _, hx => by simp [enums] at hx
  | c :: t, i, x, hx => by
    rw [List.map_cons] at hx
    rcases List.mem_cons.mp (show x ∈ (D.tup [.int (i : Int), .str [c]]) :: enums (i + 1) (t.map fun c => D.str [c]) from hx) with rfl | hx
    · exact ⟨i, c, rfl⟩
    · exact enums_mem t (i + 1) x hx
theorem enums_length : ∀ (xs : List D) (i : Nat), (enums i xs).length = xs.length
  | [], _ => rfl
  | x :: r, i => by
    unfold enums
    rw [List.length_cons, List.length_cons, enums_length]
theorem begA_len : ∀ (t : List Nat) (i : Nat), (begA i t).length ≤ t.length
  | [], _ => Nat.le_refl _
  | c :: t, i => by
    have := begA_len t (i + 1)
    unfold begA
    split
    · rw [List.length_cons, List.length_cons]; omega
    · rw [List.length_cons]; omega
theorem r_begins (b : B1 T) (n : Nat) (t : List Nat) (hl : t.length + 2 < big) : run T (n + 1) 8 [.str t] h = .ok (.lst ((bgs t).map fun (n : Nat) => D.int (n : Int))) h := by
  rw [run_s b.f8 rfl]
  have e1 : lcGo ⟨enums 0 (t.map fun c => D.str [c]), none⟩ [some (.str t), none, none] (.tp [1, 2]) (ev T (run T n) (.cmp .eq (.var 2) (.lit (.str [10])))) (ev T (run T n) (.bin .add (.var 1) (.lit (.int 1)))) (enums 0 (t.map fun c => D.str [c])) [] h
      = .ok ([] ++ ((enums 0 (t.map fun c => D.str [c])).filter isNl).map behind) h := by
    refine lc_all (g := fun x => match x with | .tup [a, b] => [some (.str t), some a, some b] | _ => []) rfl _ _ _ (fun x hx => ?_) (fun x hx => ?_) (fun x hx _ => ?_) (by rw [enums_length]; simp; omega)
    · obtain ⟨j, c, rfl⟩ := enums_mem t 0 x hx
      simp [tgt, okIf]
    · obtain ⟨j, c, rfl⟩ := enums_mem t 0 x hx
      simp [getV, cmp, eqd_sign, isNl]
    · obtain ⟨j, c, rfl⟩ := enums_mem t 0 x hx
      simp [getV, bin, behind]
  rw [List.nil_append, enums_beg] at e1
  have e2 : 1 + (begA 0 t).length ≤ big := by have := begA_len t 0; omega
  have e3 : ((begA 0 t).length + 1) ≤ big := by omega
  simp [i_begins, env0, getV, itv, seqw, seqd, e1, unl, bin, okIf, outD, bgs, e2, e3]
theorem rl_lst (l : List Int) : D.rls (l.map D.int) = true := by
  induction l with
  | nil => rfl
  | cons a l ih => exact ih
theorem rl_ints (l : List Nat) : D.rls (l.map fun (n : Nat) => D.int (n : Int)) = true := by
  induction l with
  | nil => rfl
  | cons a l ih => exact ih
/-- where a row's place leads -/
theorem r_to_row (b : B1 T) (n : Nat) (t : List Nat) (k s : Nat) (col : Int) (hl : t.length + 2 < big) (hs : (bgs t)[k]? = some s) : run T (n + 2) 16 [.str t, .int (k : Int), .int col] h = .ok (.int (if fwd t s < (s : Int) + col then fwd t s else (s : Int) + col)) h := by
  rw [run_s b.f16 rfl]
  have hc : ∀ h, callF T (run T (n + 1)) 8 [.str t] h = .ok (.lst ((bgs t).map fun (n : Nat) => D.int (n : Int))) h := fun h =>
    call_p b.f8 rfl rfl (r_begins b n t hl) (rl_ints _)
  have hk : k < (bgs t).length := (List.getElem?_eq_some_iff.mp hs).1
  have h2 : ((k : Int) < (bgs t).length) := by omega
  have ea : ati ((bgs t).map fun (n : Nat) => D.int (n : Int)) (k : Int) = some (.int (s : Int)) := by
    rw [ati_nat, List.getElem?_map, hs]
    rfl
  have he : ∀ h, callF T (run T (n + 1)) 6 [.str t, .int (s : Int)] h = .ok (.int (fwd t s)) h := fun h =>
    call_p b.f6 rfl rfl (r_end_of (h := Hs.nil) b n t (s : Int) (by omega) (by omega)) rfl
  simp [i_to_row, env0, getV, hc, blt, blt1, lenD, items, cmp, h2, subs, ea, bin, he, blt2, outD]
theorem r_to_row0 (b : B1 T) (n : Nat) (t : List Nat) (k col : Int) (hl : t.length + 2 < big) (hk : ¬ (0 ≤ k ∧ k < (bgs t).length)) : run T (n + 2) 16 [.str t, .int k, .int col] h = .ok .non h := by
  rw [run_s b.f16 rfl]
  have hc : ∀ h, callF T (run T (n + 1)) 8 [.str t] h = .ok (.lst ((bgs t).map fun (n : Nat) => D.int (n : Int))) h := fun h =>
    call_p b.f8 rfl rfl (r_begins b n t hl) (rl_ints _)
  by_cases h1 : 0 ≤ k
  · have h2 : ¬ (k < (bgs t).length) := fun z => hk ⟨h1, z⟩
    simp [i_to_row, env0, getV, hc, blt, blt1, lenD, items, cmp, h1, h2, outD]
  · simp [i_to_row, env0, getV, hc, blt, blt1, lenD, items, cmp, h1, outD]
end
end Ed

/-! part Sp3 -/
set_option maxRecDepth 100000
set_option maxHeartbeats 4000000
/-! What is asked of texts, places, motions. -/
namespace Ed
open Ev
structure B3 (T : Tbl) : Prop extends B1 T where
  f12 : T.fn 12 = some i_is_part
  f13 : T.fn 13 = some i_is_motion
  f22 : T.fn 22 = some i_place_by
  f23 : T.fn 23 = some i_need_motion
  f24 : T.fn 24 = some i_goes
  c5 : T.con 5 = .int 9
  kn : ∀ w : List Nat, w = [108, 101, 102, 116] ∨ w = [114, 105, 103, 104, 116] ∨ w = [117, 112] ∨ w = [100, 111, 119, 110] → (T.kd 0).lookup w = some (.str [110])
section
variable {T : Tbl} {h : Hs}
def signs (more : List Nat) : List Nat := (cWORD ++ cOTHERS) ++ more
def sgn (more : List Nat) : D → Bool
  | .str [c] => decide (c ∈ signs more)
  | _ => false
theorem boolsOf_map {α : Type} (f : α → Bool) : ∀ l : List α, boolsOf (l.map fun a => D.bl (f a)) = some (l.map f)
  | [] => rfl
  | a :: l => by
    show (boolsOf (l.map fun a => D.bl (f a))).map (f a :: ·) = _
    rw [boolsOf_map f l]
    rfl
theorem r_are_signs (b : B1 T) (n : Nat) (t more : List Nat) (lo hi : Int) (hl : t.length ≤ big) (hm : more.length ≤ 1000) (h1 : lo ≤ t.length) (h2 : (t.length : Int) ≤ hi) (ht : ∀ c ∈ t, c ∈ signs more) : run T (n + 1) 1 [.str t, .int lo, .int hi, .str more] h = .ok (.bl true) h := by
  rw [run_s b.f1 rfl]
  have e1 : lcGo ⟨t.map fun c => D.str [c], none⟩ [some (.str t), some (.int lo), some (.int hi), some (.str more), none] (.nm 4) (ev T (run T n) (.lit (.bl true))) (ev T (run T n) (.cmp .mem (.var 4) (.bin .add (.bin .add (.con 0) (.con 1)) (.var 3)))) (t.map fun c => D.str [c]) [] h
      = .ok ([] ++ ((t.map fun c => D.str [c]).filter fun _ => true).map (fun x => D.bl (sgn more x))) h := by
    refine lc_all (g := fun x => [some (.str t), some (.int lo), some (.int hi), some (.str more), some x]) rfl _ _ _ (fun x hx => rfl) (fun x hx => rfl) (fun x hx _ => ?_) (by simpa using hl)
    obtain ⟨c, hc, rfl⟩ := List.mem_map.mp hx
    have q1 : cWORD.length + cOTHERS.length ≤ big := by decide
    have q2 : (cWORD ++ cOTHERS).length + more.length ≤ big := by
      have : (cWORD ++ cOTHERS).length = 72 := by decide
      have : big = 16777216 := rfl
      omega
    simp only [e_cmp, e_var, e_bin, e_con, b.c0, b.c1, bind_ok]
    rw [getV_some _ 4 (.str [c]) rfl, bind_ok]
    have q3 : bin .add (.str cWORD) (.str cOTHERS) h = .ok (.str (cWORD ++ cOTHERS)) h := by
      simp only [bin, decide_eq_true q1, okIf]
    rw [q3, bind_ok, getV_some _ 3 (.str more) rfl, bind_ok]
    have q4 : bin .add (.str (cWORD ++ cOTHERS)) (.str more) h = .ok (.str (signs more)) h := by
      simp only [bin, decide_eq_true q2, okIf, signs]
    rw [q4, bind_ok]
    rfl
  have e2 : ([] ++ ((t.map fun c => D.str [c]).filter fun _ => true).map (fun x => D.bl (sgn more x))) = t.map fun c => D.bl true := by
    rw [List.nil_append, List.filter_eq_self.mpr (fun _ _ => rfl), List.map_map]
    apply List.map_congr_left
    intro c hc
    show D.bl (decide (c ∈ signs more)) = _
    rw [decide_eq_true (ht c hc)]
  rw [e2] at e1
  have e3 : boolsOf (t.map fun c => D.bl true) = some (t.map fun _ => true) := boolsOf_map (fun _ => true) t
  simp [i_are_signs, env0, getV, isi, blt, blt1, lenD, okIf, hl, cmp, h1, h2, itv, seqw, seqd, e1, unl, lsts, e3, outD]
theorem r_is_text (b : B1 T) (n : Nat) (t : List Nat) (hl : t.length ≤ 200) (ht : ∀ c ∈ t, c ∈ signs [10]) : run T (n + 2) 2 [.str t] h = .ok (.bl true) h := by
  rw [run_s b.f2 rfl]
  have hc : ∀ h, callF T (run T (n + 1)) 1 [.str t, .int 0, .int 200, .str [10]] h = .ok (.bl true) h := fun h =>
    call_p b.f1 rfl rfl (r_are_signs (h := Hs.nil) b n t [10] 0 200 (by show t.length ≤ 16777216; omega) (by decide) (by omega) (by omega) ht) rfl
  simp [i_is_text, env0, getV, b.c4, hc, outD]
theorem r_need_text (b : B1 T) (n : Nat) (t : List Nat) (hl : t.length ≤ 200) (ht : ∀ c ∈ t, c ∈ signs [10]) : run T (n + 3) 3 [.str t] h = .ok .non h := by
  rw [run_s b.f3 rfl]
  have hc : ∀ h, callF T (run T (n + 2)) 2 [.str t] h = .ok (.bl true) h := fun h => call_p b.f2 rfl rfl (r_is_text (h := Hs.nil) b n t hl ht) rfl
  simp [i_need_text, env0, getV, hc, outD]
theorem r_need_place (b : B1 T) (n : Nat) (t : List Nat) (p : Int) (hl : t.length ≤ 200) (ht : ∀ c ∈ t, c ∈ signs [10]) (h0 : 0 ≤ p) (h1 : p ≤ t.length) : run T (n + 4) 4 [.str t, .int p] h = .ok .non h := by
  rw [run_s b.f4 rfl]
  have hc : ∀ h, callF T (run T (n + 3)) 3 [.str t] h = .ok .non h := fun h => call_p b.f3 rfl rfl (r_need_text (h := Hs.nil) b n t hl ht) rfl
  have hd : ∀ h, callF T (run T (n + 3)) 0 [.int p, .int 0, .int (t.length : Int)] h = .ok (.bl true) h := fun h =>
    call_p b.f0 rfl rfl (by rw [r_is_whole b (n + 2) p 0 (t.length : Int), decide_eq_true ⟨h0, h1⟩]) rfl
  have hb : t.length ≤ big := by show t.length ≤ 16777216; omega
  simp [i_need_place, env0, getV, hc, hd, blt, blt1, lenD, okIf, hb, outD]
theorem r_is_part (b : B3 T) (n : Nat) (m : Int) (h1 : 1 ≤ m) (h9 : m ≤ 9) : run T (n + 2) 12 [.str [110], .int m] h = .ok (.bl true) h := by
  rw [run_s b.f12 rfl]
  have hd : ∀ h, callF T (run T (n + 1)) 0 [.int m, .int 1, .int 9] h = .ok (.bl true) h := fun h =>
    call_p b.f0 rfl rfl (by rw [r_is_whole b.toB1 n m 1 9, decide_eq_true ⟨h1, h9⟩]) rfl
  simp [i_is_part, env0, getV, cmp, eqd_sign, b.c5, hd, outD]
def isW (w : List Nat) : Prop := w = [108, 101, 102, 116] ∨ w = [114, 105, 103, 104, 116] ∨ w = [117, 112] ∨ w = [100, 111, 119, 110]
theorem r_is_motion (b : B3 T) (n : Nat) (w : List Nat) (m : Int) (hw : isW w) (h1 : 1 ≤ m) (h9 : m ≤ 9) : run T (n + 3) 13 [.tup [.str w, .int m]] h = .ok (.bl true) h := by
  rw [run_s b.f13 rfl]
  have hk := b.kn w hw
  have hd : ∀ h, callF T (run T (n + 2)) 12 [.str [110], .int m] h = .ok (.bl true) h := fun h => call_p b.f12 rfl rfl (r_is_part (h := Hs.nil) b n m h1 h9) rfl
  have e0 : ati [D.str w, .int m] 0 = some (.str w) := rfl
  have e1 : cut [D.str w, .int m] (some 1) none = [.int m] := rfl
  have e2 : lcGo ⟨zips [D.str [110]] [.int m], none⟩ [some (.tup [.str w, .int m]), some (.str [110]), none, none] (.tp [2, 3]) (ev T (run T (n + 2)) (.lit (.bl true))) (ev T (run T (n + 2)) (.call 12 (.cons (.var 2) (.cons (.var 3) .nil)))) (zips [D.str [110]] [.int m]) [] h = .ok [.bl true] h := by
    show lcGo _ _ _ _ _ [.tup [.str [110], .int m]] [] h = _
    rw [lc_c rfl]
    simp [tgt, okIf, getV, hd, lc2, lc_n]
    rfl
  have hb1 : 1 ≤ big := by decide
  have e3 : boolsOf [.bl true] = some [true] := rfl
  simp [i_is_motion, env0, getV, isi, blt, blt1, lenD, items, cmp, subs, e0, kind, hk, kgetd, okIf, slice, e1, itv, e2, unl, lsts, outD, hb1, e3]
theorem r_need_motion (b : B3 T) (n : Nat) (w : List Nat) (m : Int) (hw : isW w) (h1 : 1 ≤ m) (h9 : m ≤ 9) : run T (n + 4) 23 [.tup [.str w, .int m]] h = .ok .non h := by
  rw [run_s b.f23 rfl]
  have hc : ∀ h, callF T (run T (n + 3)) 13 [.tup [.str w, .int m]] h = .ok (.bl true) h := fun h => call_p b.f13 rfl rfl (r_is_motion (h := Hs.nil) b n w m hw h1 h9) rfl
  simp [i_need_motion, env0, getV, hc, outD]
end
end Ed

/-! part Sp4 -/
set_option maxRecDepth 100000
set_option maxHeartbeats 4000000
/-! Left, right, up, down. -/
namespace Ed
open Ev
section
variable {T : Tbl} {h : Hs}
abbrev wL : List Nat := [108, 101, 102, 116]
abbrev wR : List Nat := [114, 105, 103, 104, 116]
abbrev wU : List Nat := [117, 112]
abbrev wD : List Nat := [100, 111, 119, 110]
theorem ati0 (a b : D) : ati [a, b] 0 = some a := rfl
theorem ati1 (a b : D) : ati [a, b] 1 = some b := rfl
theorem mem2 (a b c : List Nat) : memd (.str a) [.str b, .str c] = some (decide (a = b ∨ a = c)) := by
  unfold memd
  simp [flat, cmpb]
theorem mem3 (a b c d : List Nat) : memd (.str a) [.str b, .str c, .str d] = some (decide (a = b ∨ a = c ∨ a = d)) := by
  unfold memd
  simp [flat, cmpb]
theorem p_left (b : B3 T) (n : Nat) (t : List Nat) (p m : Int) (col mk pt : D) : run T (n + 1) 22 [.str t, .int p, .tup [.str wL, .int m], col, mk, pt] h = .ok (if 0 < p then .int (if 0 < p - m then p - m else 0) else .non) h := by
  rw [run_s b.f22 rfl]
  by_cases h0 : 0 < p
  · simp [i_place_by, env0, getV, subs, items, ati0, ati1, cmp, h0, blt, blt2, outD]
  · simp [i_place_by, env0, getV, subs, items, ati0, ati1, cmp, h0, outD]
theorem p_right (b : B3 T) (n : Nat) (t : List Nat) (p m : Int) (col mk pt : D) (hl : t.length ≤ big) : run T (n + 1) 22 [.str t, .int p, .tup [.str wR, .int m], col, mk, pt] h = .ok (if p < t.length then .int (if p + m < t.length then p + m else t.length) else .non) h := by
  rw [run_s b.f22 rfl]
  by_cases h0 : p < t.length
  · simp [i_place_by, env0, getV, subs, items, ati0, ati1, cmp, h0, blt, blt1, lenD, okIf, hl, blt2, outD]
  · simp [i_place_by, env0, getV, subs, items, ati0, ati1, cmp, h0, blt, blt1, lenD, okIf, hl, outD]
def rowOf (t : List Nat) (p : Int) : Nat := (cut t none (some p)).count 10
theorem p_up (b : B3 T) (n : Nat) (t : List Nat) (p m : Int) (col : Int) (mk pt d : D) (hl : t.length ≤ big) (hd : run T (n + 2) 16 [.str t, .int ((rowOf t p : Int) + (0 - m)), .int col] Hs.nil = .ok d Hs.nil) (rd : d.rl = true) :
    run T (n + 3) 22 [.str t, .int p, .tup [.str wU, .int m], .int col, mk, pt] h = .ok d h := by
  rw [run_s b.f22 rfl]
  have hc : ∀ h, callF T (run T (n + 2)) 7 [.str t, .int p] h = .ok (.int (rowOf t p : Int)) h := fun h => call_p b.f7 rfl rfl (r_row_of (h := Hs.nil) b.toB1 (n + 1) t p hl) rfl
  have he : ∀ h, callF T (run T (n + 2)) 16 [.str t, .int ((rowOf t p : Int) + (0 - m)), .int col] h = .ok d h := fun h => call_p b.f16 rfl rfl hd rd
  simp only [Int.zero_sub] at he
  simp [i_place_by, env0, getV, subs, items, ati0, ati1, cmp, mem, mem2, hc, he, outD]
theorem p_down (b : B3 T) (n : Nat) (t : List Nat) (p m : Int) (col : Int) (mk pt d : D) (hl : t.length ≤ big) (hd : run T (n + 2) 16 [.str t, .int ((rowOf t p : Int) + m), .int col] Hs.nil = .ok d Hs.nil) (rd : d.rl = true) :
    run T (n + 3) 22 [.str t, .int p, .tup [.str wD, .int m], .int col, mk, pt] h = .ok d h := by
  rw [run_s b.f22 rfl]
  have hc : ∀ h, callF T (run T (n + 2)) 7 [.str t, .int p] h = .ok (.int (rowOf t p : Int)) h := fun h => call_p b.f7 rfl rfl (r_row_of (h := Hs.nil) b.toB1 (n + 1) t p hl) rfl
  have he : ∀ h, callF T (run T (n + 2)) 16 [.str t, .int ((rowOf t p : Int) + m), .int col] h = .ok d h := fun h => call_p b.f16 rfl rfl hd rd
  simp [i_place_by, env0, getV, subs, items, ati0, ati1, cmp, mem, mem2, hc, he, outD]
theorem r_goes (b : B3 T) (n : Nat) (t w : List Nat) (p m : Int) (d : D) (h' : Hs) (hw : isW w) (hl : t.length ≤ 200) (ht : ∀ c ∈ t, c ∈ signs [10]) (h0 : 0 ≤ p) (h1 : p ≤ t.length) (m1 : 1 ≤ m) (m9 : m ≤ 9)
    (hd : run T (n + 5) 22 [.str t, .int p, .tup [.str w, .int m], .int (p - bck t p.toNat), .ref h.n, .non] (h.new (.dct [])) = .ok d h') : run T (n + 6) 24 [.str t, .int p, .tup [.str w, .int m]] h = .ok d h' := by
  rw [run_s b.f24 rfl]
  have e1 : ∀ h, callF T (run T (n + 5)) 4 [.str t, .int p] h = .ok .non h := fun h => call_p b.f4 rfl rfl (r_need_place (h := Hs.nil) b.toB1 (n + 1) t p hl ht h0 h1) rfl
  have e2 : ∀ h, callF T (run T (n + 5)) 23 [.tup [.str w, .int m]] h = .ok .non h := fun h => call_p b.f23 rfl rfl (r_need_motion (h := Hs.nil) b (n + 1) w m hw m1 m9) rfl
  have e3 : ∀ h, callF T (run T (n + 5)) 5 [.str t, .int p] h = .ok (.int (bck t p.toNat)) h := fun h => call_p b.f5 rfl rfl (r_begin_of (h := Hs.nil) b.toB1 (n + 4) t p h0) rfl
  have e4 : callF T (run T (n + 5)) 22 [.str t, .int p, .tup [.str w, .int m], .int (p - bck t p.toNat), .ref h.n, .non] (h.new (.dct [])) = .ok d h' := by rw [call_i b.f22 rfl]; exact hd
  have e5 : dctd [] [] h = .ok (.ref h.n) (h.new (.dct [])) := rfl
  simp [i_goes, env0, getV, e1, e2, e3, e4, e5, outD]
end
end Ed

/-! part Sp5 -/
set_option maxRecDepth 100000
set_option maxHeartbeats 4000000
/-! The law's own left, right, up, down. -/
namespace Ed
open Ev
structure B4 (T : Tbl) : Prop extends B2 T where
  f40 : T.fn 40 = some i_law_goes
section
variable {T : Tbl} {h : Hs}
theorem rl_strs (l : List (List Nat)) : D.rls (l.map D.str) = true := by
  induction l with
  | nil => rfl
  | cons a l ih => exact ih
abbrev sp (t : List Nat) (p : Int) : Nat × Nat := spotA (cut t none (some p)) 0 0
theorem bin_mi (i j : Int) (c : mulOk i j = true) : bin .mul (.int i) (.int j) h = .ok (.int (i * j)) h := by
  simp only [bin, c, okIf]
theorem mul1 (m : Int) : mulOk m 1 = true := by
  unfold mulOk
  exact decide_eq_true (.inr (.inl ⟨by decide, by decide⟩))
theorem mulm1 (m : Int) : mulOk m (-1) = true := by
  unfold mulOk
  exact decide_eq_true (.inr (.inl ⟨by decide, by decide⟩))
theorem c_rows (b : B4 T) (n : Nat) (t : List Nat) (hl : t.length + 2 < big) (h : Hs) : callF T (run T (n + 1)) 32 [.str t] h = .ok (.lst ((rows t).map D.str)) h := by
  obtain ⟨h', e⟩ := r_rows b.toB2 n t hl
  exact call_p b.f32 rfl rfl e (rl_strs _)
theorem c_spot (b : B4 T) (n : Nat) (t : List Nat) (p : Int) (hl : t.length + 2 < big) (h : Hs) : callF T (run T (n + 1)) 33 [.str t, .int p] h = .ok (.tup [.int ((sp t p).1 : Int), .int ((sp t p).2 : Int)]) h :=
  call_p b.f33 rfl rfl (r_spot (h := Hs.nil) b.toB2 n t p (by omega)) rfl
theorem g_left (b : B4 T) (n : Nat) (t : List Nat) (p m : Int) (mk : D) (hl : t.length + 2 < big) : run T (n + 2) 40 [.str t, .int p, .tup [.str wL, .int m], .non, mk, .non] h =
    .ok (let g := p + m * -1
      let g1 := if g < (t.length : Int) then g else (t.length : Int)
      let g2 := if 0 < g1 then g1 else 0
      if g2 ≠ p then .int g2 else .non) h := by
  rw [run_s b.f40 rfl]
  have hb : t.length ≤ big := by omega
  by_cases e : (if 0 < (if p + m * -1 < (t.length : Int) then p + m * -1 else (t.length : Int)) then (if p + m * -1 < (t.length : Int) then p + m * -1 else (t.length : Int)) else 0) = p
  · simp only [Int.mul_neg, Int.mul_one] at e
    simp [i_law_goes, env0, getV, subs, items, ati0, ati1, c_rows b n t hl, c_spot b n t p hl, tgt, okIf, cmp, mem, mem2, negd, bin_mi, mulm1, blt, blt1, lenD, hb, blt2, e, outD]
  · simp only [Int.mul_neg, Int.mul_one] at e
    simp [i_law_goes, env0, getV, subs, items, ati0, ati1, c_rows b n t hl, c_spot b n t p hl, tgt, okIf, cmp, mem, mem2, negd, bin_mi, mulm1, blt, blt1, lenD, hb, blt2, e, outD]
theorem g_right (b : B4 T) (n : Nat) (t : List Nat) (p m : Int) (mk : D) (hl : t.length + 2 < big) : run T (n + 2) 40 [.str t, .int p, .tup [.str wR, .int m], .non, mk, .non] h =
    .ok (let g := p + m
      let g1 := if g < (t.length : Int) then g else (t.length : Int)
      let g2 := if 0 < g1 then g1 else 0
      if g2 ≠ p then .int g2 else .non) h := by
  rw [run_s b.f40 rfl]
  have hb : t.length ≤ big := by omega
  by_cases e : (if 0 < (if p + m < (t.length : Int) then p + m else (t.length : Int)) then (if p + m < (t.length : Int) then p + m else (t.length : Int)) else 0) = p
  · simp [i_law_goes, env0, getV, subs, items, ati0, ati1, c_rows b n t hl, c_spot b n t p hl, tgt, okIf, cmp, mem, mem2, negd, bin_mi, mul1, blt, blt1, lenD, hb, blt2, e, outD]
  · simp [i_law_goes, env0, getV, subs, items, ati0, ati1, c_rows b n t hl, c_spot b n t p hl, tgt, okIf, cmp, mem, mem2, negd, bin_mi, mul1, blt, blt1, lenD, hb, blt2, e, outD]
end
end Ed

/-! part Sp6 -/
set_option maxRecDepth 100000
set_option maxHeartbeats 4000000
/-! The law's own up and down. -/
namespace Ed
open Ev
section
variable {T : Tbl} {h : Hs}
theorem rows_rl1 (R : List (List Nat)) (g k : Int) : D.rls [.lst (R.map D.str), .int g, .int k] = true := by
  have := rl_strs R
  simp [D.rls, D.rl, this]
theorem c_back (b : B4 T) (n : Nat) (R : List (List Nat)) (g : Nat) (k : Int) (r : List Nat) (hr : R[g]? = some r) (hl : R.length ≤ big) (hb : ∀ r ∈ R, r.length ≤ big) (h : Hs) : callF T (run T (n + 1)) 34 [.lst (R.map D.str), .int (g : Int), .int k] h = .ok (.int ((lens (R.take g) : Int) + (if (r.length : Int) < k then (r.length : Int) else k))) h :=
  call_p b.f34 rfl (rows_rl1 _ _ _) (r_back (h := Hs.nil) b.toB2 n R g k r hr hl hb) rfl
theorem g_up (b : B4 T) (n : Nat) (t : List Nat) (p m : Int) (mk : D) (g : Nat) (r : List Nat) (hl : t.length + 2 < big) (hg : ((sp t p).1 : Int) + m * -1 = g) (hr : (rows t)[g]? = some r) (hR : (rows t).length ≤ big) (hb : ∀ r ∈ rows t, r.length ≤ big) :
    run T (n + 2) 40 [.str t, .int p, .tup [.str wU, .int m], .non, mk, .non] h = .ok (.int ((lens ((rows t).take g) : Int) + (if (r.length : Int) < (sp t p).2 then (r.length : Int) else (sp t p).2))) h := by
  rw [run_s b.f40 rfl]
  have h2 : ((g : Int) < (rows t).length) := by have := (List.getElem?_eq_some_iff.mp hr).1; omega
  have e := fun h => c_back b n (rows t) g ((sp t p).2 : Int) r hr hR hb h
  simp only [Int.mul_neg, Int.mul_one] at hg
  simp [i_law_goes, env0, getV, subs, items, ati0, ati1, c_rows b n t hl, c_spot b n t p hl, tgt, okIf, cmp, mem, mem2, negd, bin_mi, mulm1, blt, blt1, lenD, hR, hg, h2, e, outD]
theorem g_up0 (b : B4 T) (n : Nat) (t : List Nat) (p m : Int) (mk : D) (hl : t.length + 2 < big) (hg : ¬ (0 ≤ ((sp t p).1 : Int) + m * -1)) (hR : (rows t).length ≤ big) :
    run T (n + 2) 40 [.str t, .int p, .tup [.str wU, .int m], .non, mk, .non] h = .ok .non h := by
  rw [run_s b.f40 rfl]
  simp only [Int.mul_neg, Int.mul_one] at hg
  simp [i_law_goes, env0, getV, subs, items, ati0, ati1, c_rows b n t hl, c_spot b n t p hl, tgt, okIf, cmp, mem, mem2, negd, bin_mi, mulm1, blt, blt1, lenD, hR, hg, outD]
theorem g_down (b : B4 T) (n : Nat) (t : List Nat) (p m : Int) (mk : D) (g : Nat) (r : List Nat) (hl : t.length + 2 < big) (hg : ((sp t p).1 : Int) + m = g) (hr : (rows t)[g]? = some r) (hR : (rows t).length ≤ big) (hb : ∀ r ∈ rows t, r.length ≤ big) :
    run T (n + 2) 40 [.str t, .int p, .tup [.str wD, .int m], .non, mk, .non] h = .ok (.int ((lens ((rows t).take g) : Int) + (if (r.length : Int) < (sp t p).2 then (r.length : Int) else (sp t p).2))) h := by
  rw [run_s b.f40 rfl]
  have h2 : ((g : Int) < (rows t).length) := by have := (List.getElem?_eq_some_iff.mp hr).1; omega
  have e := fun h => c_back b n (rows t) g ((sp t p).2 : Int) r hr hR hb h
  simp [i_law_goes, env0, getV, subs, items, ati0, ati1, c_rows b n t hl, c_spot b n t p hl, tgt, okIf, cmp, mem, mem2, negd, bin_mi, mul1, blt, blt1, lenD, hR, hg, h2, e, outD]
theorem g_down0 (b : B4 T) (n : Nat) (t : List Nat) (p m : Int) (mk : D) (hl : t.length + 2 < big) (h0 : 0 ≤ ((sp t p).1 : Int) + m) (hg : ¬ (((sp t p).1 : Int) + m < (rows t).length)) (hR : (rows t).length ≤ big) :
    run T (n + 2) 40 [.str t, .int p, .tup [.str wD, .int m], .non, mk, .non] h = .ok .non h := by
  rw [run_s b.f40 rfl]
  simp [i_law_goes, env0, getV, subs, items, ati0, ati1, c_rows b n t hl, c_spot b n t p hl, tgt, okIf, cmp, mem, mem2, negd, bin_mi, mul1, blt, blt1, lenD, hR, h0, hg, outD]
end
end Ed

/-! part Mth -/
set_option maxRecDepth 100000
set_option maxHeartbeats 4000000
/-! Rows, beginnings, places: how they belong together. -/
namespace Ed
open Ev
theorem spotA_fst : ∀ (t : List Nat) (r k : Nat), (spotA t r k).1 = r + t.count 10
  | [], r, k => rfl
  | c :: t, r, k => by
    unfold spotA
    by_cases hc : c = 10
    · rw [if_pos hc, spotA_fst t, hc, List.count_cons_self]; omega
    · rw [if_neg hc, spotA_fst t, List.count_cons_of_ne hc]
theorem sp_row (t : List Nat) (p : Int) : (sp t p).1 = rowOf t p := by
  unfold sp rowOf
  rw [spotA_fst]; omega
def aft : Option Nat → Nat
  | some j => j + 1
  | none => 0
theorem spotA_snd : ∀ (u : List Nat) (r k i : Nat) (o : Option Nat), i = aft o + k → (spotA u r k).2 + aft (rfind1 10 u i o) = i + u.length
  | [], r, k, i, o, e => by
    unfold spotA rfind1
    simp only [List.length_nil]
    omega
  | c :: u, r, k, i, o, e => by
    unfold spotA rfind1
    by_cases hc : c = 10
    · rw [if_pos hc, if_pos hc, spotA_snd u (r + 1) 0 (i + 1) (some i) rfl, List.length_cons]; omega
    · rw [if_neg hc, if_neg hc, spotA_snd u r (k + 1) (i + 1) o (by omega), List.length_cons]; omega
theorem sp_col (t : List Nat) (p : Int) (h0 : 0 ≤ p) (h1 : p ≤ t.length) : p - bck t p.toNat = ((sp t p).2 : Int) := by
  have e : cut t none (some p) = t.take p.toNat := by
    obtain ⟨k, rfl⟩ : ∃ k : Nat, p = (k : Int) := ⟨p.toNat, by omega⟩
    rw [Int.toNat_natCast]
    exact cut_take _ _ (by omega)
  have h := spotA_snd (t.take p.toNat) 0 0 0 none rfl
  have hl : (t.take p.toNat).length = p.toNat := by rw [List.length_take]; omega
  have hb : bck t p.toNat = (aft (rfind1 10 (t.take p.toNat) 0 none) : Int) := by
    unfold bck
    cases rfind1 10 (t.take p.toNat) 0 none with
    | none => rfl
    | some j => show ((j : Int) + 1) = ((j + 1 : Nat) : Int); omega
  rw [hb]
  unfold sp
  rw [e]
  omega
theorem lens_c (x : List Nat) (R : List (List Nat)) : lens (x :: R) = x.length + 1 + lens R := by
  unfold lens
  simp
theorem split_len : ∀ (t acc : List Nat) (i : Nat), (split1 10 t acc).length = (begA i t).length + 1
  | [], _, _ => rfl
  | c :: t, acc, i => by
    unfold split1 begA
    by_cases hc : c = 10
    · rw [if_pos hc, if_pos hc, List.length_cons, List.length_cons, split_len t [] (i + 1)]
    · rw [if_neg hc, if_neg hc, split_len t _ (i + 1)]
theorem bgs_len (t : List Nat) : (bgs t).length = (rows t).length := by
  unfold bgs rows
  rw [List.length_cons, split_len t [] 0]
theorem rows_len (t : List Nat) : (rows t).length ≤ t.length + 1 := by
  rw [← bgs_len]
  unfold bgs
  rw [List.length_cons]
  have := begA_len t 0
  omega
theorem split_beg : ∀ (t acc : List Nat) (s i j : Nat), i = s + acc.length → j < (split1 10 t acc).length → (s :: begA i t)[j]? = some (s + lens ((split1 10 t acc).take j))
  | t, acc, s, i, 0, _, _ => by simp [lens]
  | [], acc, s, i, j + 1, e, hj => by
    unfold split1 at hj
    simp at hj
  | c :: t, acc, s, i, j + 1, e, hj => by
    unfold split1 at hj ⊢
    unfold begA
    by_cases hc : c = 10
    · rw [if_pos hc] at hj ⊢
      rw [if_pos hc, List.getElem?_cons_succ, List.take_succ_cons, lens_c]
      rw [List.length_cons] at hj
      rw [split_beg t [] (i + 1) (i + 1) j (by simp) (by omega)]
      congr 1
      omega
    · rw [if_neg hc] at hj ⊢
      rw [if_neg hc]
      exact split_beg t (acc ++ [c]) s (i + 1) (j + 1) (by rw [List.length_append]; simp; omega) hj
theorem bgs_at (t : List Nat) (j : Nat) (hj : j < (rows t).length) : (bgs t)[j]? = some (lens ((rows t).take j)) := by
  have := split_beg t [] 0 0 j (by simp) hj
  rw [Nat.zero_add] at this
  exact this
theorem find_skip : ∀ (acc u : List Nat) (s : Nat), (∀ c ∈ acc, c ≠ 10) → find1 10 (acc ++ u) s = find1 10 u (s + acc.length)
  | [], u, s, _ => rfl
  | c :: acc, u, s, h => by
    rw [List.cons_append]
    unfold find1
    rw [if_neg (h c (List.mem_cons_self ..)), find_skip acc u (s + 1) (fun d hd => h d (List.mem_cons_of_mem _ hd)), List.length_cons]
    rw [show s + 1 + acc.length = s + (acc.length + 1) by omega]
    cases u <;> rfl
def fin1 (o : Option Nat) (n : Nat) : Nat := match o with | some k => k | none => n
theorem split_fwd : ∀ (u acc : List Nat) (s j : Nat) (r : List Nat), (∀ c ∈ acc, c ≠ 10) → (split1 10 u acc)[j]? = some r →
    fin1 (find1 10 ((acc ++ u).drop (lens ((split1 10 u acc).take j))) (s + lens ((split1 10 u acc).take j))) (s + (acc ++ u).length) = s + lens ((split1 10 u acc).take j) + r.length
  | [], acc, s, 0, r, ha, hr => by
    unfold split1 at hr
    simp at hr
    subst hr
    have : find1 10 (acc ++ []) s = none := by rw [find_skip acc [] s ha]; rfl
    simp only [List.append_nil] at this
    simp [lens, this, fin1]
  | [], acc, s, j + 1, r, ha, hr => by
    unfold split1 at hr
    simp at hr
  | c :: u, acc, s, j, r, ha, hr => by
    unfold split1 at hr ⊢
    by_cases hc : c = 10
    · rw [if_pos hc] at hr ⊢
      cases j with
      | zero =>
        simp at hr
        subst hr
        have : find1 10 (acc ++ c :: u) s = some (s + acc.length) := by
          rw [find_skip acc _ s ha]
          unfold find1
          rw [if_pos hc]
        simp [lens, this, fin1]
      | succ j =>
        rw [List.getElem?_cons_succ] at hr
        have ih := split_fwd u [] (s + acc.length + 1) j r (by simp) hr
        rw [List.take_succ_cons, lens_c]
        have e1 : (acc ++ c :: u).drop (acc.length + 1 + lens ((split1 10 u []).take j)) = ([] ++ u).drop (lens ((split1 10 u []).take j)) := by
          rw [← List.drop_drop, List.nil_append]
          congr 1
          rw [show acc ++ c :: u = (acc ++ [c]) ++ u by simp, show acc.length + 1 = (acc ++ [c]).length by simp]
          exact List.drop_left
        rw [e1, show s + (acc.length + 1 + lens ((split1 10 u []).take j)) = s + acc.length + 1 + lens ((split1 10 u []).take j) by omega]
        rw [show s + (acc ++ c :: u).length = s + acc.length + 1 + ([] ++ u).length by simp; omega]
        exact ih
    · rw [if_neg hc] at hr ⊢
      have ih := split_fwd u (acc ++ [c]) s j r (by
        intro d hd
        rcases List.mem_append.mp hd with hd | hd
        · exact ha d hd
        · rw [List.mem_singleton.mp hd]; exact hc) hr
      rw [show acc ++ c :: u = acc ++ [c] ++ u by simp]
      exact ih
theorem fwd_at (t : List Nat) (j : Nat) (r : List Nat) (hr : (rows t)[j]? = some r) : fwd t (lens ((rows t).take j)) = ((lens ((rows t).take j) + r.length : Nat) : Int) := by
  have h := split_fwd t [] 0 j r (by simp) hr
  simp only [List.nil_append, Nat.zero_add] at h
  unfold fwd
  have e : split1 10 t [] = rows t := rfl
  rw [e] at h
  cases q : find1 10 (t.drop (lens ((rows t).take j))) (lens ((rows t).take j)) with
  | none => rw [q] at h; dsimp only [fin1] at h ⊢; omega
  | some k => rw [q] at h; dsimp only [fin1] at h ⊢; omega
theorem split_row : ∀ (u acc : List Nat) (r : List Nat), r ∈ split1 10 u acc → r.length ≤ acc.length + u.length
  | [], acc, r, h => by
    unfold split1 at h
    rw [List.mem_singleton.mp h]; omega
  | c :: u, acc, r, h => by
    unfold split1 at h
    by_cases hc : c = 10
    · rw [if_pos hc] at h
      rcases List.mem_cons.mp h with rfl | h
      · omega
      · have := split_row u [] r h
        simp at this ⊢; omega
    · rw [if_neg hc] at h
      have := split_row u (acc ++ [c]) r h
      simp at this ⊢; omega
theorem rows_row (t r : List Nat) (h : r ∈ rows t) : r.length ≤ t.length := by
  have := split_row t [] r h
  simpa using this
end Ed

/-! part Dr -/
set_option maxRecDepth 100000
set_option maxHeartbeats 4000000
/-! What is drawn. -/
namespace Ed
open Ev
structure BD (T : Tbl) : Prop where
  f25 : T.fn 25 = some i_law_cell_at
  f26 : T.fn 26 = some i_law_mixed
  f27 : T.fn 27 = some i_law_draw
  f28 : T.fn 28 = some i_law_pick
/-- heaps: the first object is the town, so many zeros long -/
def zs (k : Nat) : List D := List.replicate k (.int 0)
def tw (h : Hs) (k : Nat) : Hs := h.put 0 (.lst (zs k))
theorem zs_len (k : Nat) : (zs k).length = k := List.length_replicate
theorem zs_snoc (k : Nat) : zs k ++ [.int 0] = zs (k + 1) := List.replicate_succ'.symm
section
variable {T : Tbl} {h : Hs}
@[simp] theorem tw_o (h : Hs) (k : Nat) : (tw h k).o 0 = some (.lst (zs k)) := by
  rfl
@[simp] theorem tw_n (h : Hs) (k : Nat) : (tw h k).n = h.n := (rfl)
theorem tw_oi (h : Hs) (k i : Nat) (hi : i ≠ 0) : (tw h k).o i = h.o i := if_neg hi
@[simp] theorem tw_app (h : Hs) (k : Nat) : (tw h k).put 0 (.lst (zs k ++ [.int 0])) = tw h (k + 1) := by
  rw [zs_snoc]
  unfold tw Hs.put
  congr 1
  funext j
  by_cases e : j = 0 <;> simp [e]
theorem tw_new (h : Hs) (k : Nat) (x : O) (hn : 0 < h.n) : (tw h k).new x = tw (h.new x) k := by
  unfold tw Hs.put Hs.new
  congr 1
  funext j
  by_cases e : j = 0
  · subst e
    simp [show ¬ (0 = h.n) by omega]
  · simp [e]
theorem tw_put (h : Hs) (k i : Nat) (x : O) (hi : i ≠ 0) : (tw h k).put i x = tw (h.put i x) k := by
  unfold tw Hs.put
  congr 1
  funext j
  by_cases e : j = 0
  · subst e
    simp [show ¬ (0 = i) by omega]
  · simp [e]
@[simp] theorem tw_tw (h : Hs) (k j : Nat) : tw (tw h k) j = tw h j := by
  unfold tw Hs.put
  congr 1
  funext i
  by_cases e : i = 0 <;> simp [e]
/-- a later heap: what stood before stands as it was -/
structure Hx (h h' : Hs) : Prop where
  le : h.n ≤ h'.n
  o : ∀ i, i < h.n → h'.o i = h.o i
theorem Hx.rfl {h : Hs} : Hx h h := ⟨Nat.le_refl _, fun _ _ => by rfl⟩
theorem Hx.trans {a b c : Hs} (x : Hx a b) (y : Hx b c) : Hx a c := ⟨Nat.le_trans x.le y.le, fun i hi => by rw [y.o i (Nat.lt_of_lt_of_le hi x.le), x.o i hi]⟩
theorem Hx.new (h : Hs) (x : O) : Hx h (h.new x) := ⟨Nat.le_succ _, fun i hi => if_neg (by omega)⟩
def cellv (ns : List Int) (k : Nat) : Int := if h : k < ns.length then ns[k] else if e : ns = [] then 0 else (ns[k % ns.length]'(Nat.mod_lt _ (List.length_pos_iff.mpr e))) * 31 + k
def mxd (ns : List Int) (k : Nat) : Int := (cellv ns k + 7919 * k + 1) * 48271 % 2147483647
def mx (ns : List Int) (k : Nat) (m : Int) : Int := (mxd ns k * mxd ns k + 7 * mxd ns k + k) % 2147483629 % m
theorem mx_nn (ns : List Int) (k : Nat) {m : Int} (hm : 0 < m) : 0 ≤ mx ns k m := Int.emod_nonneg _ (by omega)
theorem mx_lt (ns : List Int) (k : Nat) {m : Int} (hm : 0 < m) : mx ns k m < m := Int.emod_lt_of_pos _ hm
theorem mxd_nn (ns : List Int) (k : Nat) : 0 ≤ mxd ns k := Int.emod_nonneg _ (by omega)
theorem mxd_lt (ns : List Int) (k : Nat) : mxd ns k < 2147483647 := Int.emod_lt_of_pos _ (by omega)
theorem mulOk_r {i j : Int} (h1 : -18446744073709551616 < j) (h2 : j < 18446744073709551616) : mulOk i j = true := decide_eq_true (.inr (.inl ⟨h1, h2⟩))
theorem mulOk_l {i j : Int} (h1 : -18446744073709551616 < i) (h2 : i < 18446744073709551616) : mulOk i j = true := decide_eq_true (.inl ⟨h1, h2⟩)
theorem bin_mul (i j : Int) (c : mulOk i j = true) : bin .mul (.int i) (.int j) h = .ok (.int (i * j)) h := by
  simp only [bin, c, okIf]
theorem bin_mod (i j : Int) (c : 0 < j) : bin .mod (.int i) (.int j) h = .ok (.int (i % j)) h := by
  simp only [bin, c, decide_true, okIf]
theorem eqd_scr (xs : List Int) : eqd (.scr xs) (.lst []) = some xs.isEmpty := by
  unfold eqd
  simp [flat, cmpb, dok]
theorem r_cell (b : BD T) (n : Nat) (ns : List Int) (k : Nat) : run T (n + 1) 25 [.scr ns, .int (k : Int)] h = .ok (.int (cellv ns k)) h := by
  rw [run_s b.f25 rfl]
  by_cases h1 : k < ns.length
  · have e1 : ((k : Int) < ns.length) := by omega
    have e2 : ati (ns.map D.int) (k : Int) = some (.int ns[k]) := by
      rw [ati_nat, List.getElem?_map, List.getElem?_eq_getElem h1]
      rfl
    simp [i_law_cell_at, env0, getV, cmp, blt, blt1, lenD, items, e1, subs, e2, outD, cellv, h1]
  · have e1 : ¬ ((k : Int) < ns.length) := by omega
    by_cases h2 : ns = []
    · subst h2
      have e1 : ¬ ((k : Int) < 0) := by omega
      simp [i_law_cell_at, env0, getV, cmp, blt, blt1, lenD, items, e1, eqd_scr, outD, cellv]
    · have h3 := List.length_pos_iff.mpr h2
      have e3 : ((k : Int) % (ns.length : Int)) = ((k % ns.length : Nat) : Int) := by omega
      have h4 : k % ns.length < ns.length := Nat.mod_lt _ h3
      have e4 : (0 : Int) < ns.length := by omega
      have e5 : ns.isEmpty = false := by cases ns <;> simp_all
      have e2 : ati (ns.map D.int) ((k % ns.length : Nat) : Int) = some (.int ns[k % ns.length]) := by
        rw [ati_nat, List.getElem?_map, List.getElem?_eq_getElem h4]
        rfl
      have e6 := fun h => bin_mul (h := h) (ns[k % ns.length]) 31 (mulOk_r (by decide) (by decide))
      have e7 := fun h => bin_mod (h := h) (k : Int) (ns.length : Int) e4
      rw [← e3] at e2
      simp only [e3] at e7
      rw [← e3] at e7
      simp [i_law_cell_at, env0, getV, cmp, blt, blt1, lenD, items, e1, eqd_scr, e5, e7, subs, e2, e6, outD, cellv, h1, h2]
theorem r_mixed (b : BD T) (n : Nat) (ns : List Int) (k : Nat) (m : Int) (hm : 0 < m) : run T (n + 2) 26 [.scr ns, .int (k : Int), .int m] h = .ok (.int (mx ns k m)) h := by
  rw [run_s b.f26 rfl]
  have e1 : ∀ h, callF T (run T (n + 1)) 25 [.scr ns, .int (k : Int)] h = .ok (.int (cellv ns k)) h := fun h => call_p b.f25 rfl rfl (r_cell (h := Hs.nil) b n ns k) rfl
  have e2 := fun h => bin_mul (h := h) 7919 (k : Int) (mulOk_l (by decide) (by decide))
  have e3 := fun h => bin_mul (h := h) (cellv ns k + 7919 * (k : Int) + 1) 48271 (mulOk_r (by decide) (by decide))
  have e4 := fun h => bin_mod (h := h) ((cellv ns k + 7919 * (k : Int) + 1) * 48271) 2147483647 (by decide)
  have a := mxd_nn ns k
  have z := mxd_lt ns k
  have e5 := fun h => bin_mul (h := h) (mxd ns k) (mxd ns k) (mulOk_l (by omega) (by omega))
  have e6 := fun h => bin_mul (h := h) 7 (mxd ns k) (mulOk_l (by decide) (by decide))
  have e7 := fun h => bin_mod (h := h) (mxd ns k * mxd ns k + 7 * mxd ns k + (k : Int)) 2147483629 (by decide)
  have e8 := fun h => bin_mod (h := h) ((mxd ns k * mxd ns k + 7 * mxd ns k + (k : Int)) % 2147483629) m hm
  have e4 : ∀ h, bin .mod (.int ((cellv ns k + 7919 * (k : Int) + 1) * 48271)) (.int 2147483647) h = .ok (.int (mxd ns k)) h := e4
  simp [i_law_mixed, env0, getV, e1, e2, e3, e4, e5, e6, e7, e8, outD, mx]
theorem c_mixed (b : BD T) (n : Nat) (ns : List Int) (k : Nat) (m : Int) (hm : 0 < m) (h : Hs) : callF T (run T (n + 2)) 26 [.scr ns, .int (k : Int), .int m] h = .ok (.int (mx ns k m)) h := call_p b.f26 rfl rfl (r_mixed (h := Hs.nil) b n ns k m hm) rfl
/-- one is drawn -/
theorem c_draw (b : BD T) (n : Nat) (ns : List Int) (h : Hs) (k : Nat) (m : Int) (hm : 0 < m) (hk : k < 10000000) : callF T (run T (n + 3)) 27 [.scr ns, .ref 0, .int m] (tw h k) = .ok (.int (mx ns (k + 1) m)) (tw h (k + 1)) := by
  rw [call_i b.f27 rfl, run_s b.f27 rfl]
  have e1 : (zs k).length < big := by rw [zs_len]; exact Nat.lt_trans hk (by decide)
  have e2 : ∀ h, callF T (run T (n + 2)) 26 [.scr ns, .int ((k : Int) + 1), .int m] h = .ok (.int (mx ns (k + 1) m)) h := c_mixed b n ns (k + 1) m hm
  have e3 : bmd .list .append (.ref 0) [.int 0] (tw h k) = .ok .non (tw h (k + 1)) := by
    simp [bmd, bml, e1, okIf]
  have e4 : bty .append (.ref 0) (tw h k) = some .list := by simp [bty, bty0, bok]
  have e5 : blt .len [.ref 0] (tw h (k + 1)) = .ok (.int ((k + 1 : Nat) : Int)) (tw h (k + 1)) := by simp [blt, blt1, lenD, items, zs_len]
  simp [i_law_draw, env0, getV, e4, e3, e5, e2, outD]
/-- one of some is drawn -/
def pk (ns : List Int) (k : Nat) (xs : List D) : D := xs[(mx ns (k + 1) xs.length).toNat]?.getD .non
theorem pk_mem (ns : List Int) (k : Nat) (xs : List D) (hx : xs ≠ []) : pk ns k xs ∈ xs := by
  have h1 : (0 : Int) < xs.length := by have := List.length_pos_iff.mpr hx; omega
  have h2 := mx_nn ns (k + 1) h1
  have h3 := mx_lt ns (k + 1) h1
  have h4 : (mx ns (k + 1) xs.length).toNat < xs.length := by omega
  unfold pk
  rw [List.getElem?_eq_getElem h4]
  exact List.getElem_mem h4
theorem c_pick (b : BD T) (n : Nat) (ns : List Int) (h : Hs) (k : Nat) (x : D) (xs : List D) (hx : xs ≠ []) (hi : ∀ k, items (tw h k) x = some xs) (hs : ∀ a, x ≠ .str a) (hk : k < 10000000) : callF T (run T (n + 4)) 28 [.scr ns, .ref 0, x] (tw h k) = .ok (pk ns k xs) (tw h (k + 1)) := by
  rw [call_i b.f28 rfl, run_s b.f28 rfl]
  have h1 : (0 : Int) < xs.length := by have := List.length_pos_iff.mpr hx; omega
  have h2 := mx_nn ns (k + 1) h1
  have h3 := mx_lt ns (k + 1) h1
  have h4 : (mx ns (k + 1) xs.length).toNat < xs.length := by omega
  have e2 := c_draw b n ns h k xs.length h1 hk
  have e1 : blt .len [x] (tw h k) = .ok (.int (xs.length : Int)) (tw h k) := by
    have := hi k
    cases x <;> simp_all [blt, blt1, lenD]
  have e3 : subs x (.int (mx ns (k + 1) xs.length)) (tw h (k + 1)) = .ok (pk ns k xs) (tw h (k + 1)) := by
    have e : mx ns (k + 1) xs.length = (((mx ns (k + 1) xs.length).toNat : Nat) : Int) := by omega
    have e4 : ati xs (mx ns (k + 1) xs.length) = some (pk ns k xs) := by
      rw [e, ati_nat]
      unfold pk
      rw [List.getElem?_eq_getElem h4]
      rfl
    have hh := hi (k + 1)
    clear e2 e1 e h2 h3 h4
    cases x with
    | str a => exact absurd rfl (hs a)
    | _ => simp only [subs, hh, e4, ofO_s]
  simp [i_law_pick, env0, getV, e1, e2, e3, outD]
theorem c_pickl (b : BD T) (n : Nat) (ns : List Int) (h : Hs) (k : Nat) (xs : List D) (hx : xs ≠ []) (hk : k < 10000000) : callF T (run T (n + 4)) 28 [.scr ns, .ref 0, .lst xs] (tw h k) = .ok (pk ns k xs) (tw h (k + 1)) :=
  c_pick b n ns h k (.lst xs) xs hx (fun _ => rfl) (fun _ e => nomatch e) hk
end
end Ed

/-! part Dr2 -/
set_option maxRecDepth 100000
set_option maxHeartbeats 4000000
/-! Texts and places drawn. -/
namespace Ed
open Ev
structure BT (T : Tbl) : Prop extends BD T where
  f29 : T.fn 29 = some i_law_piece
structure BP (T : Tbl) : Prop extends BT T where
  f30 : T.fn 30 = some i_law_text
  f31 : T.fn 31 = some i_law_place
section
variable {T : Tbl} {h : Hs}
theorem okRange_t {i : Int} (h0 : 0 ≤ i) (h1 : i ≤ 2000000) : okRange i = true := by
  unfold okRange
  simp
  omega
def few1 : List (List Nat) := [[97], [98], [65], [98, 55], [97, 98], [32], [32, 32], [40], [41], [91], [93], [123], [125], [46]]
def few2 : List (List Nat) := [[44], [45], [10], [10], [32, 97], [120, 121, 122], [90]]
def few : List D := (few1 ++ few2).map D.str
theorem few_ok : ∀ x ∈ few1 ++ few2, x.length ≤ 3 ∧ ∀ c ∈ x, c ∈ signs [10] := by decide +kernel
def isText (t : List Nat) : Prop := ∀ c ∈ t, c ∈ signs [10]
theorem isText_app {a b : List Nat} (x : isText a) (y : isText b) : isText (a ++ b) := fun c hc => by
  rcases List.mem_append.mp hc with h | h
  · exact x c h
  · exact y c h
theorem isText_take {a : List Nat} (n : Nat) (x : isText a) : isText (a.take n) := fun c hc => x c (List.mem_of_mem_take hc)
theorem new_o (h : Hs) (x : O) : (h.new x).o h.n = some x := if_pos (Eq.refl h.n)
@[simp] theorem new_n (h : Hs) (x : O) : (h.new x).n = h.n + 1 := (rfl)
@[simp] theorem put_n (h : Hs) (k : Nat) (x : O) : (h.put k x).n = h.n := (rfl)
theorem put_new (h : Hs) (x y : O) : (h.new x).put h.n y = h.new y := by
  unfold Hs.new Hs.put
  congr 1
  funext j
  by_cases e : j = h.n <;> simp -implicitDefEqProofs [e]
def pieceBody : Ss := (.cons (.set 3 (.bin .add (.var 3) (.call 28 (.cons (.var 0) (.cons (.var 1) (.cons (.var 4) .nil)))))) .nil)
theorem piece_loop (b : BT T) (n : Nat) (ns : List Int) (m0 : D) (w : Wk) (hw : w.on = none) (r : Nat) (hr : r ≠ 0) (h : Hs) (ho : h.o r = some (.lst few)) : ∀ (xs : List D) (made : List Nat) (x : Option D) (k : Nat), k + xs.length < 10000000 → made.length + 3 * xs.length ≤ big → isText made →
    ∃ x' made', forGo w (.nm 5) (exes T (run T (n + 4)) pieceBody) xs [some (.scr ns), some (.ref 0), some m0, some (.str made), some (.ref r), x] (tw h k) = .ok (.nx [some (.scr ns), some (.ref 0), some m0, some (.str made'), some (.ref r), x']) (tw h (k + xs.length)) ∧ isText made' ∧ made'.length ≤ made.length + 3 * xs.length
  | [], made, x, k, _, _, ht => ⟨x, made, by rw [for_n hw]; rfl, ht, by simp⟩
  | y :: xs, made, x, k, hk, hl, ht => by
    rw [List.length_cons] at hk hl
    have e1 := c_pick b.toBD n ns h k (.ref r) few (by decide) (fun k => by simp only [items, tw_oi h k r hr, ho]) (fun _ e => nomatch e) (by omega)
    obtain ⟨z, hz, ez⟩ := List.mem_map.mp (pk_mem ns k few (by decide))
    have hz2 := few_ok z hz
    have hl2 : made.length + z.length ≤ big := by omega
    rw [← ez] at e1
    have e2 : exes T (run T (n + 4)) pieceBody [some (.scr ns), some (.ref 0), some m0, some (.str made), some (.ref r), some y] (tw h k) = .ok (.nx [some (.scr ns), some (.ref 0), some m0, some (.str (made ++ z)), some (.ref r), some y]) (tw h (k + 1)) := by
      simp -implicitDefEqProofs [pieceBody, getV, e1, bin, hl2]
    obtain ⟨x', made', e3, h3, h4⟩ := piece_loop b n ns m0 w hw r hr h ho xs (made ++ z) (some y) (k + 1) (by omega) (by rw [List.length_append]; omega) (isText_app ht hz2.2)
    refine ⟨x', made', ?_, h3, ?_⟩
    · rw [for_c hw]
      show (exes T (run T (n + 4)) pieceBody [some (.scr ns), some (.ref 0), some m0, some (.str made), some (.ref r), some y] (tw h k)).bind _ = _
      rw [e2, bind_ok, for2_n, e3, List.length_cons]
      congr 2
      omega
    · rw [List.length_append] at h4
      rw [List.length_cons]
      omega
theorem c_piece (b : BT T) (n : Nat) (ns : List Int) (h : Hs) (k : Nat) (m : Int) (hm : 0 < m) (hm2 : m ≤ 1000) (hk : k < 1000000) (hn : 0 < h.n) :
    ∃ made k' h', callF T (run T (n + 5)) 29 [.scr ns, .ref 0, .int m] (tw h k) = .ok (.str made) (tw h' k') ∧ Hx h h' ∧ k' ≤ k + 1050 ∧ isText made ∧ made.length ≤ 3 * m.toNat := by
  rw [call_i b.f29 rfl, run_s b.f29 rfl]
  have a1 := mx_nn ns (k + 1) hm
  have a2 := mx_lt ns (k + 1) hm
  obtain ⟨d, ed⟩ : ∃ d : Nat, mx ns (k + 1) m = d := ⟨(mx ns (k + 1) m).toNat, by omega⟩
  have e0 := c_draw b.toBD (n + 1) ns (h.new (.lst few)) k m hm (by omega)
  rw [ed] at e0
  have er : okRange (d : Int) = true := okRange_t (by omega) (by omega)
  have e1 : ∀ _ : Nat, bmd .list .extend (.ref h.n) [.lst (few2.map D.str)] (tw (h.new (.lst (few1.map D.str))) k) = .ok .non (tw (h.new (.lst few)) k) := by
    intro _
    simp only [bmd]
    have q : (tw (h.new (.lst (few1.map D.str))) k).o h.n = some (.lst (few1.map D.str)) := by rw [tw_oi _ _ _ (by omega), new_o]
    have q2 : (few1.map D.str).length + (few2.map D.str).length ≤ big := by decide
    simp only [q, bml, lsts, decide_eq_true q2, okIf]
    rw [tw_put _ _ _ _ (by omega), put_new]
    rfl
  have e2 : bty .extend (.ref h.n) (tw (h.new (.lst (few1.map D.str))) k) = some .list := by
    have q : (tw (h.new (.lst (few1.map D.str))) k).o h.n = some (.lst (few1.map D.str)) := by rw [tw_oi _ _ _ (by omega), new_o]
    simp only [bty, bty0, q, bok]
  obtain ⟨x', made, e3, h3, h4⟩ := piece_loop b n ns (.int m) ⟨range 0 d, none⟩ rfl h.n (by omega) (h.new (.lst few)) (new_o _ _) (range 0 d) [] none (k + 1) (by simp -implicitDefEqProofs [range]; omega) (by simp [range]; have : big = 16777216 := rfl; omega) (fun c hc => nomatch hc)
  refine ⟨made, k + 1 + (range 0 d).length, h.new (.lst few), ?_, Hx.new _ _, by simp -implicitDefEqProofs [range]; omega, h3, ?_⟩
  · simp only [few1, few2, List.map_cons, List.map_nil] at e1 e2
    simp -implicitDefEqProofs [pieceBody] at e3
    simp -implicitDefEqProofs [i_law_piece, env0, getV, mutd, tw_new h k _ hn, e1 0, e2, e0, itv, er, e3, outD]
  · simp -implicitDefEqProofs [range] at h4 ⊢
    omega
def join0 : List (List Nat) → List Nat := fun l => joins [] l
theorem joins_nil : ∀ l : List (List Nat), joins [] l = l.flatten
  | [] => rfl
  | [x] => by simp -implicitDefEqProofs [joins]
  | x :: y :: l => by
    rw [joins, joins_nil (y :: l)]
    · simp
    · intro h; exact nomatch h
def lets : List Nat := [97, 98, 99, 100, 101, 102, 103, 104, 105, 106, 107, 108, 109, 110, 111, 112, 113, 114, 115, 116, 117, 118, 119, 120, 121, 122, 65, 66, 67, 68, 69, 70, 71, 72, 73, 74, 75, 76, 77, 78, 79, 80, 81, 82, 83, 84, 85, 86, 87, 88, 89, 90, 48, 49, 50, 51, 52, 53, 54, 55, 56, 57, 32, 46, 44, 45, 40, 41, 91, 93, 123, 125]
theorem lets_ok : ∀ c ∈ lets, c ∈ signs [10] := by decide +kernel
def letE : E := (.sub (.var 4) (.call 27 (.cons (.var 0) (.cons (.var 1) (.cons (.blt .len (.cons (.var 4) .nil)) .nil)))))
theorem strsOf_app : ∀ (a : List D) (x : List (List Nat)) (c : List Nat), strsOf a = some x → strsOf (a ++ [.str c]) = some (x ++ [c])
  | [], x, c, h => by cases h; rfl
  | .str z :: r, x, c, h => by
    simp only [strsOf, Option.map_eq_some_iff] at h
    obtain ⟨y, hy, rfl⟩ := h
    simp only [List.cons_append, strsOf, strsOf_app r y c hy, Option.map_some]
  | .non :: _, _, _, h => nomatch h
  | .bl _ :: _, _, _, h => nomatch h
  | .int _ :: _, _, _, h => nomatch h
  | .tup _ :: _, _, _, h => nomatch h
  | .lst _ :: _, _, _, h => nomatch h
  | .ref _ :: _, _, _, h => nomatch h
  | .scr _ :: _, _, _, h => nomatch h
theorem let_loop (b : BT T) (n : Nat) (ns : List Int) (h : Hs) (v : Env) (w : Wk) (hw : w.on = none) (hv : v = [some (.scr ns), some (.ref 0), v[2]!, v[3]!, some (.str lets), none]) : ∀ (xs : List D) (acc : List D) (as : List (List Nat)) (k : Nat), k + xs.length < 10000000 → acc.length + xs.length ≤ 1000 → strsOf acc = some as → isText as.flatten → as.flatten.length = acc.length → as.length = acc.length →
    ∃ ys bs, lcGo w v (.nm 5) (ev T (run T (n + 3)) (.lit (.bl true))) (ev T (run T (n + 3)) letE) xs acc (tw h k) = .ok ys (tw h (k + xs.length)) ∧ strsOf ys = some bs ∧ isText bs.flatten ∧ bs.flatten.length = acc.length + xs.length ∧ bs.length = acc.length + xs.length
  | [], acc, as, k, _, _, hs, ht, hl, hl2 => ⟨acc, as, by rw [lc_n hw]; rfl, hs, ht, hl, hl2⟩
  | y :: xs, acc, as, k, hk, hb, hs, ht, hl, hl2 => by
    rw [List.length_cons] at hk hb
    have hL : lets.length = 72 := by decide
    have e0 := c_draw b.toBD n ns h k 72 (by decide) (by omega)
    have a1 := mx_nn ns (k + 1) (m := 72) (by decide)
    have a2 := mx_lt ns (k + 1) (m := 72) (by decide)
    obtain ⟨d, ed⟩ : ∃ d : Nat, mx ns (k + 1) 72 = d := ⟨(mx ns (k + 1) 72).toNat, by omega⟩
    rw [ed] at e0 a2
    have hd : d < lets.length := by omega
    have e1 : ati lets (d : Int) = some lets[d] := by rw [ati_nat, List.getElem?_eq_getElem hd]
    have e2 : blt .len [.str lets] (tw h k) = .ok (.int 72) (tw h k) := by
      have : lets.length ≤ big := by rw [hL]; decide
      simp only [blt, blt1, lenD, decide_eq_true this, okIf, hL]
      rfl
    have e4 : subs (.str lets) (.int (d : Int)) (tw h (k + 1)) = .ok (.str [lets[d]]) (tw h (k + 1)) := by
      have : lets.length ≤ big := by rw [hL]; decide
      simp only [subs, decide_eq_true this, okIf, bind_ok, e1, Option.map_some, ofO_s]
    have e3 : ev T (run T (n + 3)) letE [some (.scr ns), some (.ref 0), v[2]!, v[3]!, some (.str lets), some y] (tw h k) = .ok (.str [lets[d]]) (tw h (k + 1)) := by
      simp -implicitDefEqProofs [letE, getV, e2, e0, e4]
    have hs' := strsOf_app acc as [lets[d]] hs
    obtain ⟨ys, bs, e5, h5, h6, h7, h8⟩ := let_loop b n ns h v w hw hv xs (acc ++ [.str [lets[d]]]) (as ++ [[lets[d]]]) (k + 1) (by omega) (by rw [List.length_append]; simp; omega) hs' (by
      rw [List.flatten_append]
      refine isText_app ht ?_
      intro c hc
      simp at hc
      rw [hc]
      exact lets_ok _ (List.getElem_mem hd)) (by simp -implicitDefEqProofs [hl]) (by simp [hl2])
    refine ⟨ys, bs, ?_, h5, h6, by rw [h7]; simp; omega, by rw [h8]; simp; omega⟩
    rw [lc_c hw]
    have hv5 : v.set 5 (some y) = [some (.scr ns), some (.ref 0), v[2]!, v[3]!, some (.str lets), some y] := by
      conv => lhs; rw [hv]
      rfl
    have hb2 : decide (acc.length < big) = true := decide_eq_true (by have : big = 16777216 := rfl; omega)
    simp only [tgt_nm, bindN_ok, e_lit, truth_bl, lc2, hv5, e3, hb2, e5, List.length_cons]
    congr 2
    omega
theorem c_text (b : BP T) (n : Nat) (ns : List Int) (h : Hs) (k : Nat) (m : Int) (hm : 0 < m) (hm2 : m ≤ 1000) (hk : k < 900000) (hn : 0 < h.n) :
    ∃ t k' h', callF T (run T (n + 6)) 30 [.scr ns, .ref 0, .int m] (tw h k) = .ok (.str t) (tw h' k') ∧ Hx h h' ∧ k' ≤ k + 1100 ∧ isText t ∧ t.length ≤ 200 := by
  rw [call_i b.f30 rfl, run_s b.f30 rfl]
  have e0 := c_draw b.toBD (n + 2) ns h k 12 (by decide) (by omega)
  have a1 := mx_nn ns (k + 1) (m := 12) (by decide)
  have a2 := mx_lt ns (k + 1) (m := 12) (by decide)
  obtain ⟨d, ed⟩ : ∃ d : Nat, mx ns (k + 1) 12 = d := ⟨(mx ns (k + 1) 12).toNat, by omega⟩
  rw [ed] at e0 a2
  by_cases hd0 : d = 0
  · subst hd0
    exact ⟨[], k + 1, h, by simp -implicitDefEqProofs [i_law_text, env0, getV, e0, cmp, outD], Hx.rfl, by omega, (fun c hc => nomatch hc), by simp⟩
  by_cases hd1 : d = 1
  · subst hd1
    have f0 := c_draw b.toBD (n + 2) ns h (k + 1) 30 (by decide) (by omega)
    have f1 := mx_nn ns (k + 1 + 1) (m := 30) (by decide)
    have f2 := mx_lt ns (k + 1 + 1) (m := 30) (by decide)
    obtain ⟨j, ej⟩ : ∃ j : Nat, mx ns (k + 1 + 1) 30 = j := ⟨(mx ns (k + 1 + 1) 30).toNat, by omega⟩
    rw [ej] at f0 f2
    have er : okRange (j : Int) = true := okRange_t (by omega) (by omega)
    obtain ⟨ys, bs, e5, h5, h6, h7, h8⟩ := let_loop b.toBT (n + 2) ns h [some (.scr ns), some (.ref 0), some (.int m), some (.int (1 : Nat)), some (.str lets), none] ⟨range 0 j, none⟩ rfl rfl (range 0 j) [] [] (k + 1 + 1) (by simp -implicitDefEqProofs [range]; omega) (by simp [range]; omega) rfl (fun c hc => nomatch hc) rfl rfl
    simp only [List.length_nil, Nat.zero_add] at h7 h8
    have hj : (range 0 j).length = j := by simp -implicitDefEqProofs [range]
    rw [hj] at h7 h8
    refine ⟨bs.flatten, k + 1 + 1 + (range 0 j).length, h, ?_, Hx.rfl, by rw [hj]; omega, h6, by rw [h7]; omega⟩
    have e6 : bmd .str .join (.str []) [.lst ys] (tw h (k + 1 + 1 + (range 0 j).length)) = .ok (.str bs.flatten) (tw h (k + 1 + 1 + (range 0 j).length)) := by
      have q : (bs.map List.length).sum + bs.length * ([] : List Nat).length ≤ big := by
        rw [← List.length_flatten, h7]
        have : big = 16777216 := rfl
        simp
        omega
      simp only [bmd, bms, lsts, Option.bind_some, h5, decide_eq_true q, okIf, joins_nil]
    simp -implicitDefEqProofs [letE, lets] at e5
    simp -implicitDefEqProofs [i_law_text, env0, getV, e0, cmp, f0, bty, bty0, bok, itv, er, e5, unl, e6, outD]
  · obtain ⟨made, k', h', e1, h1, h2, h3, h4⟩ := c_piece b.toBT n ns h (k + 1) m hm hm2 (by omega) hn
    have q : made.length ≤ big := by
      have : big = 16777216 := rfl
      omega
    have e2 : slice (.str made) none (some 200) (tw h' k') = .ok (.str (made.take 200)) (tw h' k') := by
      simp only [slice, decide_eq_true q, okIf]
      congr 2
      unfold cut six
      simp
    refine ⟨made.take 200, k', h', ?_, h1, by omega, isText_take 200 h3, by rw [List.length_take]; omega⟩
    have hd0' : ¬ ((d : Int) = 0) := by omega
    have hd1' : ¬ ((d : Int) = 1) := by omega
    simp -implicitDefEqProofs [i_law_text, env0, getV, e0, cmp, hd0, hd1', hd1, e1, e2, outD]
theorem c_place (b : BP T) (n : Nat) (ns : List Int) (h : Hs) (k : Nat) (t : List Nat) (hl : t.length ≤ 200) (hk : k < 1000000) :
    ∃ p : Nat, p ≤ t.length ∧ ∃ k', callF T (run T (n + 6)) 31 [.scr ns, .ref 0, .str t] (tw h k) = .ok (.int (p : Int)) (tw h k') ∧ k' ≤ k + 2 := by
  rw [call_i b.f31 rfl, run_s b.f31 rfl]
  have e0 := c_draw b.toBD (n + 2) ns h k 6 (by decide) (by omega)
  have hb : t.length ≤ big := by have : big = 16777216 := rfl; omega
  by_cases hd0 : mx ns (k + 1) 6 = 0
  · have e1 := c_pickl b.toBD (n + 1) ns h (k + 1) [.int 0, .int (t.length : Int)] (by simp) (by omega)
    have e2 := pk_mem ns (k + 1) [.int 0, .int (t.length : Int)] (by simp)
    simp at e2
    rcases e2 with e2 | e2
    · rw [e2] at e1
      exact ⟨0, by omega, k + 1 + 1, by simp -implicitDefEqProofs [i_law_place, env0, getV, e0, cmp, hd0, blt, blt1, lenD, hb, okIf, e1, outD], by omega⟩
    · rw [e2] at e1
      exact ⟨t.length, by omega, k + 1 + 1, by simp -implicitDefEqProofs [i_law_place, env0, getV, e0, cmp, hd0, blt, blt1, lenD, hb, okIf, e1, outD], by omega⟩
  · have e1 := c_draw b.toBD (n + 2) ns h (k + 1) ((t.length : Int) + 1) (by omega) (by omega)
    have a1 := mx_nn ns (k + 1 + 1) (m := (t.length : Int) + 1) (by omega)
    have a2 := mx_lt ns (k + 1 + 1) (m := (t.length : Int) + 1) (by omega)
    obtain ⟨j, ej⟩ : ∃ j : Nat, mx ns (k + 1 + 1) ((t.length : Int) + 1) = j := ⟨(mx ns (k + 1 + 1) ((t.length : Int) + 1)).toNat, by omega⟩
    rw [ej] at e1 a2
    exact ⟨j, by omega, k + 1 + 1, by simp -implicitDefEqProofs [i_law_place, env0, getV, e0, cmp, hd0, blt, blt1, lenD, hb, okIf, e1, outD], by omega⟩
end
end Ed

/-! part Dr27 -/
set_option maxRecDepth 100000
set_option maxHeartbeats 4000000
/-! Texts drawn, with their length. -/
namespace Ed
open Ev
section
variable {T : Tbl} {h : Hs}
theorem c_text2 (b : BP T) (n : Nat) (ns : List Int) (h : Hs) (k : Nat) (m : Int) (hm : 0 < m) (hm2 : m ≤ 1000) (hk : k < 900000) (hn : 0 < h.n) :
    ∃ t k' h', callF T (run T (n + 6)) 30 [.scr ns, .ref 0, .int m] (tw h k) = .ok (.str t) (tw h' k') ∧ Hx h h' ∧ k' ≤ k + 1100 ∧ isText t ∧ t.length ≤ 200 ∧ (t.length ≤ 30 ∨ t.length ≤ 3 * m.toNat) := by
  rw [call_i b.f30 rfl, run_s b.f30 rfl]
  have e0 := c_draw b.toBD (n + 2) ns h k 12 (by decide) (by omega)
  have a1 := mx_nn ns (k + 1) (m := 12) (by decide)
  have a2 := mx_lt ns (k + 1) (m := 12) (by decide)
  obtain ⟨d, ed⟩ : ∃ d : Nat, mx ns (k + 1) 12 = d := ⟨(mx ns (k + 1) 12).toNat, by omega⟩
  rw [ed] at e0 a2
  by_cases hd0 : d = 0
  · subst hd0
    exact ⟨[], k + 1, h, by simp -implicitDefEqProofs [i_law_text, env0, getV, e0, cmp, outD], Hx.rfl, by omega, (fun c hc => nomatch hc), by simp, .inl (by simp)⟩
  by_cases hd1 : d = 1
  · subst hd1
    have f0 := c_draw b.toBD (n + 2) ns h (k + 1) 30 (by decide) (by omega)
    have f1 := mx_nn ns (k + 1 + 1) (m := 30) (by decide)
    have f2 := mx_lt ns (k + 1 + 1) (m := 30) (by decide)
    obtain ⟨j, ej⟩ : ∃ j : Nat, mx ns (k + 1 + 1) 30 = j := ⟨(mx ns (k + 1 + 1) 30).toNat, by omega⟩
    rw [ej] at f0 f2
    have er : okRange (j : Int) = true := okRange_t (by omega) (by omega)
    obtain ⟨ys, bs, e5, h5, h6, h7, h8⟩ := let_loop b.toBT (n + 2) ns h [some (.scr ns), some (.ref 0), some (.int m), some (.int (1 : Nat)), some (.str lets), none] ⟨range 0 j, none⟩ rfl rfl (range 0 j) [] [] (k + 1 + 1) (by simp -implicitDefEqProofs [range]; omega) (by simp [range]; omega) rfl (fun c hc => nomatch hc) rfl rfl
    simp only [List.length_nil, Nat.zero_add] at h7 h8
    have hj : (range 0 j).length = j := by simp -implicitDefEqProofs [range]
    rw [hj] at h7 h8
    refine ⟨bs.flatten, k + 1 + 1 + (range 0 j).length, h, ?_, Hx.rfl, by rw [hj]; omega, h6, by rw [h7]; omega, .inl (by rw [h7]; omega)⟩
    have e6 : bmd .str .join (.str []) [.lst ys] (tw h (k + 1 + 1 + (range 0 j).length)) = .ok (.str bs.flatten) (tw h (k + 1 + 1 + (range 0 j).length)) := by
      have q : (bs.map List.length).sum + bs.length * ([] : List Nat).length ≤ big := by
        rw [← List.length_flatten, h7]
        have : big = 16777216 := rfl
        simp
        omega
      simp only [bmd, bms, lsts, Option.bind_some, h5, decide_eq_true q, okIf, joins_nil]
    simp -implicitDefEqProofs [letE, lets] at e5
    simp -implicitDefEqProofs [i_law_text, env0, getV, e0, cmp, f0, bty, bty0, bok, itv, er, e5, unl, e6, outD]
  · obtain ⟨made, k', h', e1, h1, h2, h3, h4⟩ := c_piece b.toBT n ns h (k + 1) m hm hm2 (by omega) hn
    have q : made.length ≤ big := by
      have : big = 16777216 := rfl
      omega
    have e2 : slice (.str made) none (some 200) (tw h' k') = .ok (.str (made.take 200)) (tw h' k') := by
      simp only [slice, decide_eq_true q, okIf]
      congr 2
      unfold cut six
      simp
    refine ⟨made.take 200, k', h', ?_, h1, by omega, isText_take 200 h3, by rw [List.length_take]; omega, .inr (by rw [List.length_take]; omega)⟩
    have hd0' : ¬ ((d : Int) = 0) := by omega
    have hd1' : ¬ ((d : Int) = 1) := by omega
    simp -implicitDefEqProofs [i_law_text, env0, getV, e0, cmp, hd0, hd1', hd1, e1, e2, outD]
end
end Ed

/-! part Sp7 -/
set_option maxRecDepth 100000
set_option maxHeartbeats 4000000
/-! The program's step is the law's step: left, right, up, down. -/
namespace Ed
open Ev
section
variable {T : Tbl}
/-- an answer: a number or none -/
inductive Ans : D → Prop
  | int (i : Int) : Ans (.int i)
  | non : Ans .non
theorem Ans.rl {d : D} (a : Ans d) : d.rl = true := by cases a <;> rfl
def is4 (w : List Nat) : Prop := w = wL ∨ w = wR ∨ w = wU ∨ w = wD
theorem split_count : ∀ (t acc : List Nat), (split1 10 t acc).length = t.count 10 + 1
  | [], _ => rfl
  | c :: t, acc => by
    unfold split1
    by_cases hc : c = 10
    · rw [if_pos hc, List.length_cons, split_count t, hc, List.count_cons_self]
    · rw [if_neg hc, split_count t, List.count_cons_of_ne hc]
theorem rows_count (t : List Nat) : (rows t).length = t.count 10 + 1 := split_count t []
theorem step4 (b : B3 T) (b4 : B4 T) (n n' : Nat) (t w : List Nat) (p m : Int) (hw : is4 w) (hl : t.length ≤ 200) (h0 : 0 ≤ p) (h1 : p ≤ t.length) (m1 : 1 ≤ m) (m9 : m ≤ 9) (mk mk2 : D) :
    ∃ d, Ans d ∧ (∀ h, run T (n + 5) 22 [.str t, .int p, .tup [.str w, .int m], .int (p - bck t p.toNat), mk, .non] h = .ok d h) ∧ (∀ h, run T (n' + 5) 40 [.str t, .int p, .tup [.str w, .int m], .non, mk2, .non] h = .ok d h) := by
  have hb : t.length + 2 < big := by unfold big; omega
  have hb2 : t.length ≤ big := by omega
  have hR : (rows t).length ≤ big := by have := rows_len t; omega
  have hr : ∀ r ∈ rows t, r.length ≤ big := fun r hr => by have := rows_row t r hr; omega
  have hrow := sp_row t p
  have hcol := sp_col t p h0 h1
  rcases hw with rfl | rfl | rfl | rfl
  · refine ⟨if 0 < p then .int (if 0 < p - m then p - m else 0) else .non, ?_, fun h => p_left b (n + 4) t p m _ _ _, fun h => ?_⟩
    · split <;> constructor
    · rw [g_left b4 (n' + 3) t p m mk2 hb]
      have e : (p + m * -1) = p - m := by omega
      simp only [e]
      have e1 : p - m < t.length := by omega
      simp only [e1, if_true]
      by_cases hp : 0 < p
      · rw [if_pos hp, if_pos]
        split <;> omega
      · rw [if_neg hp, if_neg]
        split <;> omega
  · refine ⟨if p < t.length then .int (if p + m < t.length then p + m else t.length) else .non, ?_, fun h => p_right b (n + 4) t p m _ _ _ hb2, fun h => ?_⟩
    · split <;> constructor
    · rw [g_right b4 (n' + 3) t p m mk2 hb]
      dsimp only
      by_cases hp : p < t.length
      · have e1 : 0 < (if p + m < (t.length : Int) then p + m else (t.length : Int)) := by split <;> omega
        rw [if_pos hp, if_pos e1, if_pos]
        split <;> omega
      · have e1 : ¬ (p + m < (t.length : Int)) := by omega
        rw [if_neg hp, if_neg e1, if_neg]
        split <;> omega
  · by_cases hg : 0 ≤ (rowOf t p : Int) + (0 - m) ∧ (rowOf t p : Int) + (0 - m) < (bgs t).length
    · obtain ⟨g, eg⟩ : ∃ g : Nat, (rowOf t p : Int) + (0 - m) = g := ⟨((rowOf t p : Int) + (0 - m)).toNat, by omega⟩
      have hgl : g < (rows t).length := by rw [← bgs_len]; omega
      obtain ⟨r, er⟩ : ∃ r, (rows t)[g]? = some r := ⟨_, List.getElem?_eq_getElem hgl⟩
      have es := bgs_at t g hgl
      have ef := fwd_at t g r er
      refine ⟨.int ((lens ((rows t).take g) : Int) + (if (r.length : Int) < (sp t p).2 then (r.length : Int) else (sp t p).2)), .int _, fun h => ?_, fun h => g_up b4 (n' + 3) t p m mk2 g r hb (by rw [hrow]; omega) er hR hr⟩
      refine p_up b (n + 2) t p m _ _ _ _ hb2 ?_ rfl
      rw [eg, r_to_row b.toB1 (n + 2) t g _ _ hb es, ef, hcol]
      congr 2
      split <;> split <;> omega
    · refine ⟨.non, .non, fun h => p_up b (n + 2) t p m _ _ _ _ hb2 (r_to_row0 b.toB1 (n + 2) t _ _ hb hg) rfl, fun h => g_up0 b4 (n' + 3) t p m mk2 hb ?_ hR⟩
      rw [hrow]
      have : rowOf t p < (rows t).length := by
        rw [rows_count]
        unfold rowOf cut
        have := List.Sublist.count_le 10 ((List.take_sublist (six t.length t.length (some p) - six t.length 0 none) (t.drop (six t.length 0 none))).trans (List.drop_sublist (six t.length 0 none) t))
        omega
      rw [bgs_len] at hg
      omega
  · by_cases hg : 0 ≤ (rowOf t p : Int) + m ∧ (rowOf t p : Int) + m < (bgs t).length
    · obtain ⟨g, eg⟩ : ∃ g : Nat, (rowOf t p : Int) + m = g := ⟨((rowOf t p : Int) + m).toNat, by omega⟩
      have hgl : g < (rows t).length := by rw [← bgs_len]; omega
      obtain ⟨r, er⟩ : ∃ r, (rows t)[g]? = some r := ⟨_, List.getElem?_eq_getElem hgl⟩
      have es := bgs_at t g hgl
      have ef := fwd_at t g r er
      refine ⟨.int ((lens ((rows t).take g) : Int) + (if (r.length : Int) < (sp t p).2 then (r.length : Int) else (sp t p).2)), .int _, fun h => ?_, fun h => g_down b4 (n' + 3) t p m mk2 g r hb (by rw [hrow]; omega) er hR hr⟩
      refine p_down b (n + 2) t p m _ _ _ _ hb2 ?_ rfl
      rw [eg, r_to_row b.toB1 (n + 2) t g _ _ hb es, ef, hcol]
      congr 2
      split <;> split <;> omega
    · refine ⟨.non, .non, fun h => p_down b (n + 2) t p m _ _ _ _ hb2 (r_to_row0 b.toB1 (n + 2) t _ _ hb hg) rfl, fun h => g_down0 b4 (n' + 3) t p m mk2 hb ?_ ?_ hR⟩
      · rw [hrow]; omega
      · rw [hrow]; rw [bgs_len] at hg; omega
end
end Ed

/-! part M1 -/
set_option maxRecDepth 100000
set_option maxHeartbeats 4000000
/-! The program's motions, one by one, as plain functions. -/
namespace Ed
open Ev
def cOPEN : List Nat := [40, 91, 123]
def cSHUT : List Nat := [41, 93, 125]
structure BM (T : Tbl) : Prop extends B1 T where
  f9 : T.fn 9 = some i_word_begins
  f10 : T.fn 10 = some i_word_ends
  f11 : T.fn 11 = some i_is_named
  f12 : T.fn 12 = some i_is_part
  f13 : T.fn 13 = some i_is_motion
  f14 : T.fn 14 = some i_nth_behind
  f15 : T.fn 15 = some i_nth_ahead
  f17 : T.fn 17 = some i_partner
  f18 : T.fn 18 = some i_found_at
  f19 : T.fn 19 = some i_search_on
  f20 : T.fn 20 = some i_search_back
  f21 : T.fn 21 = some i_within
  f22 : T.fn 22 = some i_place_by
  c2 : T.con 2 = .str cOPEN
  c3 : T.con 3 = .str cSHUT
  c5 : T.con 5 = .int 9
  c6 : T.con 6 = .int 99
def nD (l : List Nat) : List D := l.map fun (n : Nat) => D.int (n : Int)
theorem nD_len (l : List Nat) : (nD l).length = l.length := List.length_map ..
theorem nD_rl (l : List Nat) : D.rls (nD l) = true := rl_ints l
theorem nD_rl' (l : List Nat) : (D.lst (nD l)).rl = true := rl_ints l
theorem ati_nD (l : List Nat) (i : Nat) : ati (nD l) (i : Int) = (l[i]?).map fun (n : Nat) => D.int (n : Int) := by
  rw [ati_nat, nD, List.getElem?_map]
def oN : Option Nat → D
  | none => .non
  | some p => .int (p : Int)
theorem oN_rl (o : Option Nat) : (oN o).rl = true := by cases o <;> rfl
theorem oN_ans (o : Option Nat) : eqd (oN o) (oN o) = some true := by cases o <;> simp [oN]
/-- the sign at a place -/
def sg (t : List Nat) (i : Nat) : Nat := (t[i]?).getD 0
theorem sg_at (t : List Nat) (i : Nat) (hi : i < t.length) : t[i]? = some (sg t i) := by
  unfold sg
  rw [List.getElem?_eq_getElem hi]
  rfl
def isWd (c : Nat) : Bool := decide (c ∈ cWORD)
def wdAt (t : List Nat) (i : Nat) : Bool := match t[i]? with
  | some c => isWd c
  | none => false
def wbP (t : List Nat) (i : Nat) : Bool := wdAt t i && (decide (i = 0) || !wdAt t (i - 1))
def weP (t : List Nat) (i : Nat) : Bool := wdAt t i && !wdAt t (i + 1)
def wb (t : List Nat) : List Nat := (List.range t.length).filter (wbP t)
def we (t : List Nat) : List Nat := ((List.range t.length).filter (weP t)).map (· + 1)
def nthB (xs : List Nat) (p n : Nat) : Option Nat := (xs.filter fun i => decide (p < i))[n - 1]?
def nthA (xs : List Nat) (p n : Nat) : Option Nat := (xs.filter fun i => decide (i < p)).reverse[n - 1]?
def fnd (t pat : List Nat) : List Nat := (List.range t.length).filter fun i => decide ((t.drop i).take pat.length = pat)
section
variable {T : Tbl} {h : Hs}
theorem enums_range : ∀ (t : List Nat) (i : Nat), enums i (t.map fun c => D.str [c]) = (List.range t.length).map fun j => D.tup [.int ((i + j : Nat) : Int), .str [(sg t j)]]
  | [], i => rfl
  | c :: t, i => by
    rw [List.map_cons]
    show (D.tup [.int (i : Int), .str [c]]) :: enums (i + 1) (t.map fun c => D.str [c]) = _
    rw [enums_range t (i + 1), List.length_cons, List.range_succ_eq_map, List.map_cons, List.map_map]
    congr 1
    apply List.map_congr_left
    intro j _
    show D.tup [.int ((i + 1 + j : Nat) : Int), .str [sg t j]] = D.tup [.int ((i + (j + 1) : Nat) : Int), .str [sg (c :: t) (j + 1)]]
    rw [show i + 1 + j = i + (j + 1) by omega]
    rfl
/-- a walk over enumerated signs that appends some of what it meets to the list r -/
theorem app_loop {w : Wk} (hw : w.on = none) {b : Env → Hs → R Out} (a0 a1 : Option D) (r : Nat) (P : Nat → Bool) (f : Nat → Nat) (it : Nat → D) :
    ∀ (js : List Nat) (x y : Option D) (h : Hs) (acc : List Nat), h.o r = some (.lst (nD acc)) →
      (∀ j ∈ js, ∀ h acc, h.o r = some (.lst (nD acc)) → acc.length ≤ j → b [a0, a1, some (.int (j : Int)), some (it j)] h = .ok (.nx [a0, a1, some (.int (j : Int)), some (it j)]) (if P j = true then h.put r (.lst (nD (acc ++ [f j]))) else h)) →
      js.Pairwise (· < ·) → (∀ j ∈ js, acc.length ≤ j) →
      ∃ (v : Option D × Option D) (h' : Hs), forGo w (.tp [2, 3]) b (js.map fun (j : Nat) => D.tup [.int (j : Int), it j]) [a0, a1, x, y] h = .ok (.nx [a0, a1, v.1, v.2]) h' ∧ h'.o r = some (.lst (nD (acc ++ (js.filter P).map f)))
  | [], x, y, h, acc, ho, _, _, _ => ⟨(x, y), h, for_n hw, by rw [ho]; simp⟩
  | j :: js, x, y, h, acc, ho, hb, hp, ha => by
    have e1 := hb j (List.mem_cons_self ..) h acc ho (ha j (List.mem_cons_self ..))
    have hp1 := (List.pairwise_cons.mp hp)
    rw [List.map_cons, for_c hw]
    have e2 : tgt (.tp [2, 3]) (D.tup [.int (j : Int), it j]) [a0, a1, x, y] h = .ok [a0, a1, some (.int (j : Int)), some (it j)] h := by
      simp [tgt]
    rw [e2, bind_ok, e1, bind_ok, for2_n, List.filter_cons]
    cases hP : P j with
    | true =>
      obtain ⟨v, h', e3, e4⟩ := app_loop hw a0 a1 r P f it js (some (.int (j : Int))) (some (it j)) (h.put r (.lst (nD (acc ++ [f j])))) (acc ++ [f j]) (put_same _ _ _) (fun i hi => hb i (List.mem_cons_of_mem _ hi)) hp1.2 (fun i hi => by
        have := hp1.1 i hi
        have := ha j (List.mem_cons_self ..)
        rw [List.length_append]; simp; omega)
      refine ⟨v, h', e3, ?_⟩
      rw [e4]
      simp
    | false =>
      obtain ⟨v, h', e3, e4⟩ := app_loop hw a0 a1 r P f it js (some (.int (j : Int))) (some (it j)) h acc ho (fun i hi => hb i (List.mem_cons_of_mem _ hi)) hp1.2 (fun i hi => ha i (List.mem_cons_of_mem _ hi))
      exact ⟨v, h', e3, by rw [e4]; simp⟩
theorem mem_sign (c : Nat) (z : List Nat) : mem (.str [c]) (.str z) h = some (decide (c ∈ z)) := (rfl)
theorem subs_at (t : List Nat) (i : Nat) (hl : t.length ≤ big) (hi : i < t.length) : subs (.str t) (.int (i : Int)) h = .ok (.str [(sg t i)]) h := by
  simp only [subs, decide_eq_true hl, okIf, bind_ok, ati_nat, sg_at t i hi, Option.map_some, ofO_s]
theorem wdAt_lt (t : List Nat) (i : Nat) (hi : i < t.length) : wdAt t i = isWd (sg t i) := by
  unfold wdAt
  rw [sg_at t i hi]
def wbBody : Ss := (.cons (.ite (.and (.cmp .mem (.var 3) (.con 0)) (.or (.cmp .eq (.var 2) (.lit (.int 0))) (.cmp .nme (.sub (.var 0) (.bin .sub (.var 2) (.lit (.int 1)))) (.con 0)))) (.cons (.exp (.bm .append (.var 1) (.cons (.var 2) .nil))) .nil) .nil) .nil)
theorem wb_body (b : B1 T) {cl : Calls} (t : List Nat) (r i : Nat) (h : Hs) (acc : List Nat) (hl : t.length ≤ 1000000) (hi : i < t.length) (ho : h.o r = some (.lst (nD acc))) (ha : acc.length ≤ i) :
    exes T cl wbBody [some (.str t), some (.ref r), some (.int (i : Int)), some (.str [(sg t i)])] h = .ok (.nx [some (.str t), some (.ref r), some (.int (i : Int)), some (.str [(sg t i)])]) (if wbP t i = true then h.put r (.lst (nD (acc ++ [i]))) else h) := by
  have hb : t.length ≤ big := Nat.le_trans hl (by decide)
  have h1 : (nD acc).length < big := by rw [nD_len]; have : big = 16777216 := rfl; omega
  have e1 : bmd .list .append (.ref r) [.int (i : Int)] h = .ok .non (h.put r (.lst (nD (acc ++ [i])))) := by
    simp only [bmd, bml, ho, decide_eq_true h1, okIf]
    simp [nD]
  have e2 : bty .append (.ref r) h = some .list := by simp only [bty, bty0, ho, bok]
  unfold wbP
  rw [wdAt_lt t i hi]
  cases hw : isWd (sg t i) with
  | false =>
    have hw2 : ¬ ((sg t i) ∈ cWORD) := of_decide_eq_false hw
    simp -implicitDefEqProofs [wbBody, getV, cmp, mem_sign, b.c0, hw2]
  | true =>
    have hw2 : ((sg t i) ∈ cWORD) := of_decide_eq_true hw
    cases i with
    | zero =>
      simp only [Int.natCast_zero, Int.cast_ofNat_Int] at e1
      simp -implicitDefEqProofs [wbBody, getV, cmp, mem_sign, b.c0, hw2, e1, e2]
    | succ j =>
      have e3 := subs_at (h := h) t j hb (by omega)
      rw [Nat.add_sub_cancel, wdAt_lt t j (by omega)]
      have e4 : (((j + 1 : Nat) : Int) - 1) = (j : Int) := by omega
      have e5 : ¬ (((j + 1 : Nat) : Int) = 0) := by omega
      cases hv : isWd (sg t j) with
      | true =>
        have hv2 : ((sg t j) ∈ cWORD) := of_decide_eq_true hv
        simp only [Int.natCast_add, Int.cast_ofNat_Int] at e4 e5 e1 e2
        simp -implicitDefEqProofs [wbBody, getV, cmp, mem_sign, b.c0, hw2, e4, e5, e3, hv2]
      | false =>
        have hv2 : ¬ ((sg t j) ∈ cWORD) := of_decide_eq_false hv
        simp only [Int.natCast_add, Int.cast_ofNat_Int] at e4 e5 e1 e2
        simp -implicitDefEqProofs [wbBody, getV, cmp, mem_sign, b.c0, hw2, e4, e5, e3, hv2, e1, e2]
theorem range_pw (n : Nat) : (List.range n).Pairwise (· < ·) := List.pairwise_lt_range
theorem r_wb (b : BM T) (n : Nat) (t : List Nat) (hl : t.length ≤ 1000000) : ∃ h', run T (n + 1) 9 [.str t] Hs.nil = .ok (.lst (nD (wb t))) h' := by
  rw [run_s b.f9 rfl]
  obtain ⟨v, h', e1, e2⟩ := app_loop (w := ⟨enums 0 (t.map fun c => D.str [c]), none⟩) rfl (b := exes T (run T n) wbBody) (some (.str t)) (some (.ref 0)) 0 (wbP t) id (fun j => .str [sg t j]) (List.range t.length) none none (Hs.nil.new (.lst [])) [] rfl
    (fun j hj h acc ho ha => wb_body b.toB1 t 0 j h acc hl (List.mem_range.mp hj) ho ha) (range_pw _) (fun _ _ => Nat.zero_le _)
  have e0 := enums_range t 0
  simp only [Nat.zero_add] at e0
  rw [← e0] at e1
  simp only [wbBody] at e1
  rw [List.map_id, List.nil_append] at e2
  refine ⟨h'.del 0, ?_⟩
  have e3 : (D.ref Hs.nil.n) = .ref 0 := rfl
  simp -implicitDefEqProofs [i_word_begins, env0, getV, mutd, e3, itv, seqw, seqd, e1, frzd, e2, outD, wb]
theorem c_wb (b : BM T) (n : Nat) (t : List Nat) (hl : t.length ≤ 1000000) (h : Hs) : callF T (run T (n + 1)) 9 [.str t] h = .ok (.lst (nD (wb t))) h := by
  obtain ⟨h', e⟩ := r_wb b n t hl
  exact call_p b.f9 rfl rfl e (nD_rl _)
end
end Ed

/-! part M2 -/
set_option maxRecDepth 100000
set_option maxHeartbeats 4000000
/-! The program's motions, one by one: ends of words, the so-manieth, searches. -/
namespace Ed
open Ev
section
variable {T : Tbl} {h : Hs}
def weBody : Ss := (.cons (.ite (.and (.cmp .mem (.var 3) (.con 0)) (.or (.cmp .eq (.bin .add (.var 2) (.lit (.int 1))) (.blt .len (.cons (.var 0) .nil))) (.cmp .nme (.sub (.var 0) (.bin .add (.var 2) (.lit (.int 1)))) (.con 0)))) (.cons (.exp (.bm .append (.var 1) (.cons (.bin .add (.var 2) (.lit (.int 1))) .nil))) .nil) .nil) .nil)
theorem wdAt_ge (t : List Nat) (i : Nat) (hi : t.length ≤ i) : wdAt t i = false := by
  unfold wdAt
  rw [List.getElem?_eq_none hi]
theorem len_str (t : List Nat) (hl : t.length ≤ big) : blt .len [.str t] h = .ok (.int (t.length : Int)) h := by
  simp only [blt, blt1, lenD, decide_eq_true hl, okIf]
theorem we_body (b : B1 T) {cl : Calls} (t : List Nat) (r i : Nat) (h : Hs) (acc : List Nat) (hl : t.length ≤ 1000000) (hi : i < t.length) (ho : h.o r = some (.lst (nD acc))) (ha : acc.length ≤ i) :
    exes T cl weBody [some (.str t), some (.ref r), some (.int (i : Int)), some (.str [sg t i])] h = .ok (.nx [some (.str t), some (.ref r), some (.int (i : Int)), some (.str [sg t i])]) (if weP t i = true then h.put r (.lst (nD (acc ++ [i + 1]))) else h) := by
  have hb : t.length ≤ big := Nat.le_trans hl (by decide)
  have h1 : (nD acc).length < big := by rw [nD_len]; have : big = 16777216 := rfl; omega
  have e1 : bmd .list .append (.ref r) [.int ((i : Int) + 1)] h = .ok .non (h.put r (.lst (nD (acc ++ [i + 1])))) := by
    simp only [bmd, bml, ho, decide_eq_true h1, okIf]
    simp [nD]
  have e2 : bty .append (.ref r) h = some .list := by simp only [bty, bty0, ho, bok]
  have e0 := len_str (h := h) t hb
  unfold weP
  rw [wdAt_lt t i hi]
  cases hw : isWd (sg t i) with
  | false =>
    have hw2 : ¬ ((sg t i) ∈ cWORD) := of_decide_eq_false hw
    simp -implicitDefEqProofs [weBody, getV, cmp, mem_sign, b.c0, hw2]
  | true =>
    have hw2 : ((sg t i) ∈ cWORD) := of_decide_eq_true hw
    by_cases hj : i + 1 = t.length
    · have e3 : ((i : Int) + 1) = (t.length : Int) := by omega
      rw [wdAt_ge t (i + 1) (by omega)]
      rw [e3] at e1
      simp -implicitDefEqProofs [weBody, getV, cmp, mem_sign, b.c0, hw2, e0, e1, e2, e3]
    · have e3 := subs_at (h := h) t (i + 1) hb (by omega)
      rw [wdAt_lt t (i + 1) (by omega)]
      have e4 : (((i + 1 : Nat) : Int)) = (i : Int) + 1 := by omega
      rw [e4] at e3
      have e5 : ¬ ((i : Int) + 1 = (t.length : Int)) := by omega
      cases hv : isWd (sg t (i + 1)) with
      | true =>
        have hv2 : ((sg t (i + 1)) ∈ cWORD) := of_decide_eq_true hv
        simp -implicitDefEqProofs [weBody, getV, cmp, mem_sign, b.c0, hw2, e0, e5, e3, hv2]
      | false =>
        have hv2 : ¬ ((sg t (i + 1)) ∈ cWORD) := of_decide_eq_false hv
        simp -implicitDefEqProofs [weBody, getV, cmp, mem_sign, b.c0, hw2, e0, e5, e3, hv2, e1, e2]
theorem r_we (b : BM T) (n : Nat) (t : List Nat) (hl : t.length ≤ 1000000) : ∃ h', run T (n + 1) 10 [.str t] Hs.nil = .ok (.lst (nD (we t))) h' := by
  rw [run_s b.f10 rfl]
  obtain ⟨v, h', e1, e2⟩ := app_loop (w := ⟨enums 0 (t.map fun c => D.str [c]), none⟩) rfl (b := exes T (run T n) weBody) (some (.str t)) (some (.ref 0)) 0 (weP t) (· + 1) (fun j => .str [sg t j]) (List.range t.length) none none (Hs.nil.new (.lst [])) [] rfl
    (fun j hj h acc ho ha => we_body b.toB1 t 0 j h acc hl (List.mem_range.mp hj) ho ha) (range_pw _) (fun _ _ => Nat.zero_le _)
  have e0 := enums_range t 0
  simp only [Nat.zero_add] at e0
  rw [← e0] at e1
  simp only [weBody] at e1
  rw [List.nil_append] at e2
  refine ⟨h'.del 0, ?_⟩
  have e3 : (D.ref Hs.nil.n) = .ref 0 := rfl
  simp -implicitDefEqProofs [i_word_ends, env0, getV, mutd, e3, itv, seqw, seqd, e1, frzd, e2, outD, we]
theorem c_we (b : BM T) (n : Nat) (t : List Nat) (hl : t.length ≤ 1000000) (h : Hs) : callF T (run T (n + 1)) 10 [.str t] h = .ok (.lst (nD (we t))) h := by
  obtain ⟨h', e⟩ := r_we b n t hl
  exact call_p b.f10 rfl rfl e (nD_rl _)
/-- a comprehension over numbers that keeps some -/
theorem lc_nat {w : Wk} {v : Env} {t : Tg} {c e : Env → Hs → R D} (g : D → Env) (P : Nat → Bool) (f : Nat → D) (hw : w.on = none) (xs : List Nat) (h : Hs) (h1 : ∀ x : Nat, x ∈ xs → tgt t (.int (x : Int)) v h = .ok (g (.int (x : Int))) h) (h2 : ∀ x : Nat, x ∈ xs → c (g (.int (x : Int))) h = .ok (.bl (P x)) h) (h3 : ∀ x : Nat, x ∈ xs → P x = true → e (g (.int (x : Int))) h = .ok (f x) h) (hl : xs.length ≤ big) :
    lcGo w v t c e (nD xs) [] h = .ok ((xs.filter P).map f) h := by
  have H := lc_all (g := g) (p := fun d => match d with | .int i => P i.toNat | _ => false) (f := fun d => match d with | .int i => f i.toNat | _ => .non) hw (c := c) (e := e) (t := t) (v := v) (nD xs) [] h ?_ ?_ ?_ (by rw [nD_len]; simpa using hl)
  · rw [H, List.nil_append]
    congr 1
    unfold nD
    rw [List.filter_map, List.map_map]
    have q1 : ((fun d => match d with | D.int i => P i.toNat | _ => false) ∘ fun (n : Nat) => D.int (n : Int)) = P := by
      funext x
      show P ((x : Int).toNat) = P x
      rw [Int.toNat_natCast]
    have q2 : ((fun d => match d with | D.int i => f i.toNat | _ => D.non) ∘ fun (n : Nat) => D.int (n : Int)) = f := by
      funext x
      show f ((x : Int).toNat) = f x
      rw [Int.toNat_natCast]
    rw [q1, q2]
  · intro x hx
    obtain ⟨k, hk, rfl⟩ := List.mem_map.mp hx
    exact h1 k hk
  · intro x hx
    obtain ⟨k, hk, rfl⟩ := List.mem_map.mp hx
    dsimp only
    rw [Int.toNat_natCast]
    exact h2 k hk
  · intro x hx
    obtain ⟨k, hk, rfl⟩ := List.mem_map.mp hx
    dsimp only
    rw [Int.toNat_natCast]
    exact h3 k hk
theorem len_lst (xs : List D) : blt .len [.lst xs] h = .ok (.int (xs.length : Int)) h := by
  simp only [blt, blt1, lenD, items]
theorem nD_map (xs : List Nat) : (xs.map fun (n : Nat) => D.int (n : Int)) = nD xs := rfl
theorem range_nD (i n : Nat) : range (i : Int) n = nD ((List.range n).map (i + ·)) := by
  unfold range nD
  rw [List.map_map]
  apply List.map_congr_left
  intro k _
  simp
theorem range_nD0 (n : Nat) : range 0 n = nD (List.range n) := by
  unfold range nD
  apply List.map_congr_left
  intro k _
  simp
theorem subs_nD (xs : List Nat) (i : Nat) (hi : i < xs.length) : subs (.lst (nD xs)) (.int (i : Int)) h = .ok (oN xs[i]?) h := by
  simp only [subs, items, ati_nD]
  rw [List.getElem?_eq_getElem hi]
  rfl
theorem r_nthB (b : BM T) (n : Nat) (xs : List Nat) (p k : Nat) (hl : xs.length ≤ 1000000) (hk : 1 ≤ k) : run T (n + 1) 14 [.lst (nD xs), .int (p : Int), .int (k : Int)] h = .ok (oN (nthB xs p k)) h := by
  rw [run_s b.f14 rfl]
  have hb : xs.length ≤ big := Nat.le_trans hl (by decide)
  have e1 : lcGo ⟨nD xs, none⟩ [some (.lst (nD xs)), some (.int (p : Int)), some (.int (k : Int)), none, none] (.nm 4) (ev T (run T n) (.cmp .gt (.var 4) (.var 1))) (ev T (run T n) (.var 4)) (nD xs) [] h = .ok ((xs.filter fun i => decide (p < i)).map fun (i : Nat) => .int (i : Int)) h := by
    refine lc_nat (fun x => [some (.lst (nD xs)), some (.int (p : Int)), some (.int (k : Int)), none, some x]) (fun i => decide (p < i)) (fun i => .int (i : Int)) rfl xs h (fun x _ => rfl) (fun x _ => ?_) (fun x _ _ => rfl) hb
    simp [getV, cmp]
  rw [nD_map] at e1
  have e2 := len_lst (h := h) (nD (xs.filter fun i => decide (p < i)))
  rw [nD_len] at e2
  by_cases hc : k ≤ (xs.filter fun i => decide (p < i)).length
  · have e3 := subs_nD (h := h) (xs.filter fun i => decide (p < i)) (k - 1) (by omega)
    have e4 : ((k : Int) - 1) = ((k - 1 : Nat) : Int) := by omega
    rw [← e4] at e3
    have e5 : (k : Int) ≤ ((xs.filter fun i => decide (p < i)).length : Int) := by omega
    simp -implicitDefEqProofs [i_nth_behind, env0, getV, itv, seqw, seqd, e1, unl, e2, cmp, e5, e3, outD, nthB]
  · have e5 : ¬ ((k : Int) ≤ ((xs.filter fun i => decide (p < i)).length : Int)) := by omega
    have e6 : nthB xs p k = none := by
      unfold nthB
      exact List.getElem?_eq_none (by omega)
    simp -implicitDefEqProofs [i_nth_behind, env0, getV, itv, seqw, seqd, e1, unl, e2, cmp, e5, outD, e6, oN]
theorem c_nthB (b : BM T) (n : Nat) (xs : List Nat) (p k : Nat) (hl : xs.length ≤ 1000000) (hk : 1 ≤ k) (h : Hs) : callF T (run T (n + 1)) 14 [.lst (nD xs), .int (p : Int), .int (k : Int)] h = .ok (oN (nthB xs p k)) h :=
  call_p b.f14 rfl (by simp [D.rls, nD_rl, D.rl]) (r_nthB (h := Hs.nil) b n xs p k hl hk) (oN_rl _)
theorem r_nthA (b : BM T) (n : Nat) (xs : List Nat) (p k : Nat) (hl : xs.length ≤ 1000000) (hk : 1 ≤ k) : run T (n + 1) 15 [.lst (nD xs), .int (p : Int), .int (k : Int)] h = .ok (oN (nthA xs p k)) h := by
  rw [run_s b.f15 rfl]
  have hb : xs.length ≤ big := Nat.le_trans hl (by decide)
  have e1 : lcGo ⟨nD xs, none⟩ [some (.lst (nD xs)), some (.int (p : Int)), some (.int (k : Int)), none, none] (.nm 4) (ev T (run T n) (.cmp .lt (.var 4) (.var 1))) (ev T (run T n) (.var 4)) (nD xs) [] h = .ok ((xs.filter fun i => decide (i < p)).map fun (i : Nat) => .int (i : Int)) h := by
    refine lc_nat (fun x => [some (.lst (nD xs)), some (.int (p : Int)), some (.int (k : Int)), none, some x]) (fun i => decide (i < p)) (fun i => .int (i : Int)) rfl xs h (fun x _ => rfl) (fun x _ => ?_) (fun x _ _ => rfl) hb
    simp [getV, cmp]
  rw [nD_map] at e1
  have e2 := len_lst (h := h) (nD (xs.filter fun i => decide (i < p)))
  rw [nD_len] at e2
  by_cases hc : k ≤ (xs.filter fun i => decide (i < p)).length
  · have e3 : subs (.lst (nD (xs.filter fun i => decide (i < p)))) (.int (-(k : Int))) h = .ok (oN (nthA xs p k)) h := by
      have q1 : ixn (nD (xs.filter fun i => decide (i < p))).length (-(k : Int)) = some ((xs.filter fun i => decide (i < p)).length - k) := by
        rw [nD_len]
        unfold ixn
        rw [if_neg (by omega), if_pos (by omega)]
        congr 1
        omega
      have q2 : ati (nD (xs.filter fun i => decide (i < p))) (-(k : Int)) = some (oN (nthA xs p k)) := by
        unfold ati
        rw [q1, Option.bind_some]
        unfold nthA nD
        rw [List.getElem?_map, List.getElem?_reverse (by omega)]
        have q3 : (xs.filter fun i => decide (i < p)).length - 1 - (k - 1) = (xs.filter fun i => decide (i < p)).length - k := by omega
        rw [q3, List.getElem?_eq_getElem (by omega)]
        rfl
      simp only [subs, items, q2, ofO_s]
    have e5 : (k : Int) ≤ ((xs.filter fun i => decide (i < p)).length : Int) := by omega
    simp -implicitDefEqProofs [i_nth_ahead, env0, getV, itv, seqw, seqd, e1, unl, e2, cmp, e5, e3, outD]
  · have e5 : ¬ ((k : Int) ≤ ((xs.filter fun i => decide (i < p)).length : Int)) := by omega
    have e6 : nthA xs p k = none := by
      unfold nthA
      exact List.getElem?_eq_none (by rw [List.length_reverse]; omega)
    simp -implicitDefEqProofs [i_nth_ahead, env0, getV, itv, seqw, seqd, e1, unl, e2, cmp, e5, outD, e6, oN]
theorem c_nthA (b : BM T) (n : Nat) (xs : List Nat) (p k : Nat) (hl : xs.length ≤ 1000000) (hk : 1 ≤ k) (h : Hs) : callF T (run T (n + 1)) 15 [.lst (nD xs), .int (p : Int), .int (k : Int)] h = .ok (oN (nthA xs p k)) h :=
  call_p b.f15 rfl (by simp [D.rls, nD_rl, D.rl]) (r_nthA (h := Hs.nil) b n xs p k hl hk) (oN_rl _)
/-! ### searches -/
theorem cut_mid {α : Type} (l : List α) (i n : Nat) (hi : i ≤ l.length) : cut l (some (i : Int)) (some ((i : Int) + (n : Int))) = (l.drop i).take n := by
  unfold cut six
  have h1 : ¬ ((i : Int) < 0) := by omega
  have h2 : ¬ ((i : Int) + (n : Int) < 0) := by omega
  have h3 : ((i : Int) + (n : Int)).toNat = i + n := by omega
  simp only [h1, h2, if_false, Int.toNat_natCast, h3, Nat.min_eq_left hi]
  rw [List.take_eq_take_iff, List.length_drop]
  omega
theorem slice_mid (t : List Nat) (i n : Nat) (hl : t.length ≤ big) (hi : i ≤ t.length) : slice (.str t) (some (i : Int)) (some ((i : Int) + (n : Int))) h = .ok (.str ((t.drop i).take n)) h := by
  simp only [slice, decide_eq_true hl, okIf, cut_mid t i n hi]
theorem fnd_len (t pat : List Nat) : (fnd t pat).length ≤ t.length := by
  have := List.length_filter_le (fun i => decide ((t.drop i).take pat.length = pat)) (List.range t.length)
  rw [List.length_range] at this
  exact this
theorem r_fnd (b : BM T) (n : Nat) (t pat : List Nat) (hl : t.length ≤ 1000000) (hl2 : pat.length ≤ 1000000) : run T (n + 1) 18 [.str t, .str pat] h = .ok (.lst (nD (fnd t pat))) h := by
  rw [run_s b.f18 rfl]
  have hb : t.length ≤ big := Nat.le_trans hl (by decide)
  have hb2 : pat.length ≤ big := Nat.le_trans hl2 (by decide)
  have e0 := fun h => len_str (h := h) t hb
  have e00 := fun h => len_str (h := h) pat hb2
  have er : okRange (t.length : Int) = true := okRange_t (by omega) (by omega)
  have e1 : lcGo ⟨range 0 t.length, none⟩ [some (.str t), some (.str pat), none] (.nm 2) (ev T (run T n) (.cmp .eq (.slc (.var 0) (.var 2) (.bin .add (.var 2) (.blt .len (.cons (.var 1) .nil)))) (.var 1))) (ev T (run T n) (.var 2)) (range 0 t.length) [] h = .ok (((List.range t.length).filter fun i => decide ((t.drop i).take pat.length = pat)).map fun (i : Nat) => .int (i : Int)) h := by
    rw [range_nD0]
    refine lc_nat (fun x => [some (.str t), some (.str pat), some x]) (fun i => decide ((t.drop i).take pat.length = pat)) (fun i => .int (i : Int)) rfl _ h (fun x _ => rfl) (fun x hx => ?_) (fun x _ _ => rfl) (by simpa using hb)
    have e2 := slice_mid (h := h) t x pat.length hb (Nat.le_of_lt (List.mem_range.mp hx))
    simp [getV, e00, e2, cmp]
  rw [nD_map] at e1
  simp -implicitDefEqProofs [i_found_at, env0, getV, e0, itv, er, e1, unl, outD, fnd]
theorem c_fnd (b : BM T) (n : Nat) (t pat : List Nat) (hl : t.length ≤ 1000000) (hl2 : pat.length ≤ 1000000) (h : Hs) : callF T (run T (n + 1)) 18 [.str t, .str pat] h = .ok (.lst (nD (fnd t pat))) h :=
  call_p b.f18 rfl rfl (r_fnd (h := Hs.nil) b n t pat hl hl2) (nD_rl _)
def srOn (t : List Nat) (p : Nat) (pat : List Nat) : Option Nat := match (fnd t pat).getLast? with
  | none => none
  | some l => if p < l then nthB (fnd t pat) p 1 else (fnd t pat)[0]?
def srBack (t : List Nat) (p : Nat) (pat : List Nat) : Option Nat := match (fnd t pat)[0]? with
  | none => none
  | some f => if f < p then nthA (fnd t pat) p 1 else (fnd t pat).getLast?
theorem dok_nD (xs : List Nat) (n : Nat) : doks n (nD xs) = true := by
  induction xs with
  | nil => cases n <;> rfl
  | cons x xs ih =>
    show (dok n (.int (x : Int)) && doks n (nD xs)) = true
    rw [ih]
    cases n <;> rfl
theorem eqd_nil (xs : List Nat) : eqd (.lst (nD xs)) (.lst []) = some xs.isEmpty := by
  unfold eqd
  have e1 : dok 60 (.lst (nD xs)) = true := dok_nD xs 59
  have e2 : cmpb (.lst (nD xs)) (.lst []) = true := by cases xs <;> rfl
  have e3 : flat (.lst (nD xs)) = false := rfl
  have e4 : dok 60 (.lst []) = true := rfl
  simp only [e1, e2, e3, e4, Bool.false_and, Bool.true_and]
  cases xs <;> simp [nD]
theorem ixn_neg1 (n : Nat) (hn : 0 < n) : ixn n (-1) = some (n - 1) := by
  unfold ixn
  rw [if_neg (by decide), if_pos (by omega)]
  congr 1
  omega
theorem subs_nD_last (xs : List Nat) (h0 : xs ≠ []) : subs (.lst (nD xs)) (.int (-1)) h = .ok (oN xs.getLast?) h := by
  have h1 := List.length_pos_iff.mpr h0
  have e1 : ati (nD xs) (-1) = some (oN xs.getLast?) := by
    unfold ati
    rw [nD_len, ixn_neg1 _ h1, Option.bind_some, nD, List.getElem?_map, List.getLast?_eq_getElem?]
    rw [List.getElem?_eq_getElem (by omega)]
    rfl
  simp only [subs, items, e1, ofO_s]
theorem r_srOn (b : BM T) (n : Nat) (t pat : List Nat) (p : Nat) (hl : t.length ≤ 1000000) (hl2 : pat.length ≤ 1000000) : run T (n + 2) 19 [.str t, .int (p : Int), .str pat] h = .ok (oN (srOn t p pat)) h := by
  rw [run_s b.f19 rfl]
  have e1 := c_fnd b n t pat hl hl2
  have hf := fnd_len t pat
  by_cases h0 : fnd t pat = []
  · have e2 := c_nthB b n [] p 1 (by simp) (by decide)
    have e3 := eqd_nil []
    have e4 : nthB [] p 1 = none := by simp [nthB]
    have e5 : srOn t p pat = none := by simp [srOn, h0]
    rw [h0] at e1
    simp only [Int.cast_ofNat_Int] at e2
    simp -implicitDefEqProofs [i_search_on, env0, getV, e1, cmp, e3, e2, outD, e4, e5]
  · have e3 := eqd_nil (fnd t pat)
    have e4 : (fnd t pat).isEmpty = false := by cases q : fnd t pat <;> simp_all
    have e2 := fun h => subs_nD_last (h := h) (fnd t pat) h0
    obtain ⟨l, el⟩ : ∃ l, (fnd t pat).getLast? = some l := ⟨_, List.getLast?_eq_some_getLast h0⟩
    rw [el] at e2
    by_cases hp : p < l
    · have e5 : srOn t p pat = nthB (fnd t pat) p 1 := by simp [srOn, el, hp]
      have e6 := c_nthB b n (fnd t pat) p 1 (by omega) (by decide)
      simp only [Int.cast_ofNat_Int] at e6
      simp -implicitDefEqProofs [i_search_on, env0, getV, e1, cmp, e3, e4, negd, e2, oN, hp, e6, outD, e5]
    · have e5 : srOn t p pat = (fnd t pat)[0]? := by simp [srOn, el, hp]
      have e6 := fun h => subs_nD (h := h) (fnd t pat) 0 (List.length_pos_iff.mpr h0)
      simp only [Int.cast_ofNat_Int] at e6
      simp -implicitDefEqProofs [i_search_on, env0, getV, e1, cmp, e3, e4, negd, e2, oN, hp, e6, outD, e5]
theorem r_srBack (b : BM T) (n : Nat) (t pat : List Nat) (p : Nat) (hl : t.length ≤ 1000000) (hl2 : pat.length ≤ 1000000) : run T (n + 2) 20 [.str t, .int (p : Int), .str pat] h = .ok (oN (srBack t p pat)) h := by
  rw [run_s b.f20 rfl]
  have e1 := c_fnd b n t pat hl hl2
  have hf := fnd_len t pat
  by_cases h0 : fnd t pat = []
  · have e2 := c_nthA b n [] p 1 (by simp) (by decide)
    have e3 := eqd_nil []
    have e4 : nthA [] p 1 = none := by simp [nthA]
    have e5 : srBack t p pat = none := by simp [srBack, h0]
    rw [h0] at e1
    simp only [Int.cast_ofNat_Int] at e2
    simp -implicitDefEqProofs [i_search_back, env0, getV, e1, cmp, e3, e2, outD, e4, e5]
  · have e3 := eqd_nil (fnd t pat)
    have e4 : (fnd t pat).isEmpty = false := by cases q : fnd t pat <;> simp_all
    have e6 := fun h => subs_nD (h := h) (fnd t pat) 0 (List.length_pos_iff.mpr h0)
    have e2 := fun h => subs_nD_last (h := h) (fnd t pat) h0
    simp only [Int.cast_ofNat_Int] at e6
    obtain ⟨l, el⟩ : ∃ l, (fnd t pat)[0]? = some l := ⟨_, List.getElem?_eq_getElem (List.length_pos_iff.mpr h0)⟩
    rw [el] at e6
    by_cases hp : l < p
    · have e5 : srBack t p pat = nthA (fnd t pat) p 1 := by simp [srBack, el, hp]
      have e7 := c_nthA b n (fnd t pat) p 1 (by omega) (by decide)
      simp only [Int.cast_ofNat_Int] at e7
      simp -implicitDefEqProofs [i_search_back, env0, getV, e1, cmp, e3, e4, negd, e6, oN, hp, e7, outD, e5]
    · have e5 : srBack t p pat = (fnd t pat).getLast? := by simp [srBack, el, hp]
      simp -implicitDefEqProofs [i_search_back, env0, getV, e1, cmp, e3, e4, negd, e6, oN, hp, e2, outD, e5]
end
end Ed

/-! part M3 -/
set_option maxRecDepth 100000
set_option maxHeartbeats 4000000
/-! The program's motions: brackets, within the row. -/
namespace Ed
open Ev
def brOf (c : Nat) : Option (Bool × Nat) := match c with
  | 40 => some (true, 41) | 91 => some (true, 93) | 123 => some (true, 125)
  | 41 => some (false, 40) | 93 => some (false, 91) | 125 => some (false, 123)
  | _ => none
def stp (s o c : Nat) (d : Int) : Int := d + (if c = s then 1 else 0) - (if c = o then 1 else 0)
/-- how far to the place at which as many are shut as opened -/
def prtN (s o : Nat) : List Nat → Int → Option Nat
  | [], _ => none
  | c :: r, d => if stp s o c d = 0 then some 0 else (prtN s o r (stp s o c d)).map (· + 1)
def partner (t : List Nat) (p : Nat) : Option Nat := match t[p]? with
  | none => none
  | some s => match brOf s with
    | none => none
    | some (true, o) => (prtN s o (t.drop p) 0).map (p + ·)
    | some (false, o) => (prtN s o (t.take (p + 1)).reverse 0).map (p - ·)
section
variable {T : Tbl} {h : Hs}
def wh2 (c : Env → Hs → R D) (b : Env → Hs → R Out) (n : Nat) (v : Env) (k : Bool) (h : Hs) : R Out := match k with
  | true => (b v h).bind fun o h => match o with
    | .nx v => whGo c b n v h
    | .rt d => .ok (.rt d) h
  | false => .ok (.nx v) h
theorem wh_s {c : Env → Hs → R D} {b : Env → Hs → R Out} {n : Nat} {v : Env} : whGo c b (n + 1) v h = (c v h).bind fun x h => (truth x h).bind fun k h => wh2 c b n v k h := (rfl)
theorem wh_go {c : Env → Hs → R D} {b : Env → Hs → R Out} {n : Nat} {v v' : Env} {h' h'' : Hs} (hc : c v h = .ok (.bl true) h') (hb : b v h' = .ok (.nx v') h'') : whGo c b (n + 1) v h = whGo c b n v' h'' := by
  rw [wh_s, hc, bind_ok, truth_bl, bind_ok]
  unfold wh2
  rw [hb]
  rfl
theorem wh_rt {c : Env → Hs → R D} {b : Env → Hs → R Out} {n : Nat} {v : Env} {d : D} {h' h'' : Hs} (hc : c v h = .ok (.bl true) h') (hb : b v h' = .ok (.rt d) h'') : whGo c b (n + 1) v h = .ok (.rt d) h'' := by
  rw [wh_s, hc, bind_ok, truth_bl, bind_ok]
  unfold wh2
  rw [hb]
  rfl
theorem wh_end {c : Env → Hs → R D} {b : Env → Hs → R Out} {n : Nat} {v : Env} {h' : Hs} (hc : c v h = .ok (.bl false) h') : whGo c b (n + 1) v h = .ok (.nx v) h' := by
  rw [wh_s, hc, bind_ok, truth_bl, bind_ok]
  rfl
@[simp] theorem s_whl (c : E) (s : Ss) (cl : Calls) (v : Env) : exe T cl (.whl c s) v h = whGo (ev T cl c) (exes T cl s) turns v h := (rfl)
def prC : E := (.chn .le .lt (.lit (.int 0)) (.var 7) (.blt .len (.cons (.var 0) .nil)))
def prB : Ss := (.cons (.set 6 (.bin .sub (.bin .add (.var 6) (.blt .int (.cons (.cmp .eq (.sub (.var 0) (.var 7)) (.var 2)) .nil))) (.blt .int (.cons (.cmp .eq (.sub (.var 0) (.var 7)) (.var 5)) .nil)))) (.cons (.ite (.cmp .eq (.var 6) (.lit (.int 0))) (.cons (.ret (.var 7)) .nil) .nil) (.cons (.set 7 (.bin .add (.var 7) (.var 3))) .nil)))
theorem pr_c {cl : Calls} (t : List Nat) (hl : t.length ≤ big) (a1 a2 a3 a4 a5 a6 : Option D) (i : Int) :
    ev T cl prC [some (.str t), a1, a2, a3, a4, a5, a6, some (.int i)] h = .ok (.bl (decide (0 ≤ i ∧ i < (t.length : Int)))) h := by
  have e0 := fun h => len_str (h := h) t hl
  by_cases h1 : 0 ≤ i <;> by_cases h2 : i < (t.length : Int) <;> simp -implicitDefEqProofs [prC, getV, cmp, e0, h1, h2]
theorem intD_b (b : Bool) : blt .int [.bl b] h = .ok (.int (if b = true then 1 else 0)) h := (rfl)
theorem pr_b {cl : Calls} (t : List Nat) (hl : t.length ≤ big) (s o i : Nat) (d st : Int) (a1 a4 : Option D) (hi : i < t.length) :
    exes T cl prB [some (.str t), a1, some (.str [s]), some (.int st), a4, some (.str [o]), some (.int d), some (.int (i : Int))] h =
      if stp s o (sg t i) d = 0 then .ok (.rt (.int (i : Int))) h else .ok (.nx [some (.str t), a1, some (.str [s]), some (.int st), a4, some (.str [o]), some (.int (stp s o (sg t i) d)), some (.int ((i : Int) + st))]) h := by
  have e0 := fun h => subs_at (h := h) t i hl hi
  have e1 : ∀ h, bin .sub (.int (d + if (decide (sg t i = s)) = true then 1 else 0)) (.int (if (decide (sg t i = o)) = true then 1 else 0)) h = .ok (.int (stp s o (sg t i) d)) h := fun h => by
    simp [stp]
  by_cases hc : stp s o (sg t i) d = 0
  · rw [if_pos hc]
    rw [hc] at e1
    simp -implicitDefEqProofs only [prB, ss_c, s_set, e_bin, e_var, e_blt, es_c, es_n, e_cmp, e_sub, bind_ok, getV, List.getElem?_cons_succ, List.getElem?_cons_zero, e0, cmp, eqh_2, eq2_s, eqd_sign, ofO_s, intD_b, bin_ai, e1, List.set_cons_succ, List.set_cons_zero, seq2_n, s_ite, e_lit, eqd_int, decide_true, truth_bl, ite2_t, s_ret, seq2_r]
  · rw [if_neg hc]
    simp -implicitDefEqProofs only [prB, ss_c, ss_n, s_set, e_bin, e_var, e_blt, es_c, es_n, e_cmp, e_sub, bind_ok, getV, List.getElem?_cons_succ, List.getElem?_cons_zero, e0, cmp, eqh_2, eq2_s, eqd_sign, ofO_s, intD_b, bin_ai, e1, List.set_cons_succ, List.set_cons_zero, seq2_n, s_ite, e_lit, eqd_int, hc, decide_false, truth_bl, ite2_f, s_ret, seq2_r]
theorem drop_sg (t : List Nat) (i : Nat) (hi : i < t.length) : t.drop i = sg t i :: t.drop (i + 1) := by
  rw [List.drop_eq_getElem_cons hi]
  congr 1
  have := sg_at t i hi
  rw [List.getElem?_eq_getElem hi] at this
  exact Option.some.inj this
theorem pr_fwd {cl : Calls} (t : List Nat) (hl : t.length ≤ big) (s o : Nat) (a1 a4 : Option D) : ∀ (m N i : Nat) (d : Int), i + m = t.length → m < N →
    ∃ v, whGo (ev T cl prC) (exes T cl prB) N [some (.str t), a1, some (.str [s]), some (.int 1), a4, some (.str [o]), some (.int d), some (.int (i : Int))] h = .ok (match prtN s o (t.drop i) d with | some k => .rt (.int ((i + k : Nat) : Int)) | none => .nx v) h
  | 0, N + 1, i, d, hi, _ => by
    refine ⟨[some (.str t), a1, some (.str [s]), some (.int 1), a4, some (.str [o]), some (.int d), some (.int (i : Int))], ?_⟩
    rw [wh_end (pr_c t hl _ _ _ _ _ _ _ |>.trans (by rw [decide_eq_false (by omega)]))]
    rw [List.drop_eq_nil_of_le (by omega)]
    rfl
  | m + 1, N + 1, i, d, hi, hN => by
    have hc := pr_c (T := T) (cl := cl) (h := h) t hl a1 (some (.str [s])) (some (.int 1)) a4 (some (.str [o])) (some (.int d)) (i : Int)
    rw [decide_eq_true (by omega)] at hc
    have hb := pr_b (T := T) (cl := cl) (h := h) t hl s o i d 1 a1 a4 (by omega)
    rw [drop_sg t i (by omega)]
    unfold prtN
    by_cases h0 : stp s o (sg t i) d = 0
    · rw [if_pos h0] at hb
      refine ⟨[], ?_⟩
      rw [wh_rt hc hb, if_pos h0]
      rfl
    · rw [if_neg h0] at hb
      obtain ⟨v, e⟩ := pr_fwd t hl s o a1 a4 m N (i + 1) (stp s o (sg t i) d) (by omega) (by omega)
      refine ⟨v, ?_⟩
      rw [wh_go hc hb, if_neg h0]
      have q : ((i : Int) + 1) = ((i + 1 : Nat) : Int) := by omega
      rw [q, e]
      cases prtN s o (t.drop (i + 1)) (stp s o (sg t i) d) with
      | none => rfl
      | some k =>
        simp only [Option.map_some]
        congr 4
        omega
theorem take_sg (t : List Nat) (i : Nat) (hi : i < t.length) : (t.take (i + 1)).reverse = sg t i :: (t.take i).reverse := by
  rw [List.take_succ, sg_at t i hi]
  simp
theorem pr_bwd {cl : Calls} (t : List Nat) (hl : t.length ≤ big) (s o : Nat) (a1 a4 : Option D) : ∀ (m N : Nat) (d : Int), m ≤ t.length → m < N →
    ∃ v, whGo (ev T cl prC) (exes T cl prB) N [some (.str t), a1, some (.str [s]), some (.int (-1)), a4, some (.str [o]), some (.int d), some (.int ((m : Int) - 1))] h = .ok (match prtN s o (t.take m).reverse d with | some k => .rt (.int ((m - 1 - k : Nat) : Int)) | none => .nx v) h
  | 0, N + 1, d, _, _ => by
    refine ⟨[some (.str t), a1, some (.str [s]), some (.int (-1)), a4, some (.str [o]), some (.int d), some (.int (((0 : Nat) : Int) - 1))], ?_⟩
    rw [wh_end (pr_c t hl _ _ _ _ _ _ _ |>.trans (by rw [decide_eq_false (by omega)]))]
    rfl
  | m + 1, N + 1, d, hm, hN => by
    have q : ((m + 1 : Nat) : Int) - 1 = (m : Int) := by omega
    rw [q]
    have hc := pr_c (T := T) (cl := cl) (h := h) t hl a1 (some (.str [s])) (some (.int (-1))) a4 (some (.str [o])) (some (.int d)) (m : Int)
    rw [decide_eq_true (by omega)] at hc
    have hb := pr_b (T := T) (cl := cl) (h := h) t hl s o m d (-1) a1 a4 (by omega)
    rw [take_sg t m (by omega)]
    unfold prtN
    by_cases h0 : stp s o (sg t m) d = 0
    · rw [if_pos h0] at hb
      refine ⟨[], ?_⟩
      rw [wh_rt hc hb, if_pos h0]
      rfl
    · rw [if_neg h0] at hb
      obtain ⟨v, e⟩ := pr_bwd t hl s o a1 a4 m N (stp s o (sg t m) d) (by omega) (by omega)
      refine ⟨v, ?_⟩
      rw [wh_go hc hb, if_neg h0]
      have q : ((m : Int) + -1) = ((m : Int) - 1) := by omega
      rw [q, e]
      cases prtN s o (t.take m).reverse (stp s o (sg t m) d) with
      | none => rfl
      | some k =>
        simp only [Option.map_some]
        congr 4
        omega
theorem brOf_cases (c : Nat) (x : Bool × Nat) (hx : brOf c = some x) : (c, x) ∈ [(40, true, 41), (91, true, 93), (123, true, 125), (41, false, 40), (93, false, 91), (125, false, 123)] := by
  unfold brOf at hx
  split at hx <;> first | (injection hx with hx; subst hx; decide) | exact nomatch hx
theorem brOf_none (c : Nat) (hx : brOf c = none) : c ∉ cOPEN ++ cSHUT := by
  intro hc
  have : c = 40 ∨ c = 91 ∨ c = 123 ∨ c = 41 ∨ c = 93 ∨ c = 125 := by simpa [cOPEN, cSHUT] using hc
  rcases this with rfl | rfl | rfl | rfl | rfl | rfl <;> exact nomatch hx
theorem prtN_lt (s o : Nat) : ∀ (l : List Nat) (d : Int) (k : Nat), prtN s o l d = some k → k < l.length
  | [], _, _, h => nomatch h
  | c :: r, d, k, h => by
    unfold prtN at h
    rw [List.length_cons]
    split at h
    · injection h with h; omega
    · cases e : prtN s o r (stp s o c d) with
      | none => rw [e] at h; exact nomatch h
      | some j =>
        rw [e] at h
        have h := Option.some.inj h
        have := prtN_lt s o r _ j e
        dsimp only at h
        omega
theorem partner_le (t : List Nat) (p q : Nat) (h : partner t p = some q) : q < t.length := by
  unfold partner at h
  cases e : t[p]? with
  | none => rw [e] at h; exact nomatch h
  | some s =>
    have hp : p < t.length := (List.getElem?_eq_some_iff.mp e).1
    rw [e] at h
    dsimp only at h
    split at h
    · exact nomatch h
    · next o _ =>
      cases e2 : prtN s o (t.drop p) 0 with
      | none => rw [e2] at h; exact nomatch h
      | some k =>
        rw [e2] at h
        have h := Option.some.inj h
        have := prtN_lt _ _ _ _ _ e2
        rw [List.length_drop] at this
        dsimp only at h
        omega
    · next o _ =>
      cases e2 : prtN s o (t.take (p + 1)).reverse 0 with
      | none => rw [e2] at h; exact nomatch h
      | some k =>
        rw [e2] at h
        have h := Option.some.inj h
        dsimp only at h
        omega
theorem pr_open (b : BM T) (n : Nat) (t : List Nat) (p c o i : Nat) (hl : t.length ≤ 10000) (hp : p < t.length) (hc : sg t p = c) (m1 : c ∈ cOPEN) (m2 : c ∈ cOPEN ++ cSHUT) (i1 : find1 c cOPEN 0 = some i) (i2 : cSHUT[i]? = some o) (hbr : brOf c = some (true, o)) : run T (n + 1) 17 [.str t, .int (p : Int)] h = .ok (oN (partner t p)) h := by
  rw [run_s b.f17 rfl]
  have hb : t.length ≤ big := Nat.le_trans hl (by decide)
  have e1 := fun h => slice_mid (h := h) t p 1 hb (Nat.le_of_lt hp)
  have e3 : (t.drop p).take 1 = [c] := by rw [drop_sg t p hp, hc]; rfl
  simp only [Int.cast_ofNat_Int, e3] at e1
  have e4 := sg_at t p hp
  rw [hc] at e4
  have e2 : partner t p = (prtN c o (t.drop p) 0).map (p + ·) := by
    unfold partner
    rw [e4]
    dsimp only
    rw [hbr]
  have q1 : cOPEN.length + cSHUT.length ≤ big := by decide
  have e5 : ∀ h, bin .add (.str cOPEN) (.str cSHUT) h = .ok (.str (cOPEN ++ cSHUT)) h := fun h => by
    simp only [bin, decide_eq_true q1, okIf]
  have ix : ∀ h, bmd .str .index (.str cOPEN) [.str [c]] h = .ok (.int (i : Int)) h := fun h => by
    simp only [bmd, bms, i1, Option.map_some, ofO_s]
  have iy : ∀ h, bty .index (.str cOPEN) h = some .str := fun h => by simp only [bty, bty0, bok]
  have q2 : cSHUT.length ≤ big := by decide
  have iz : ∀ h, subs (.str cSHUT) (.int (i : Int)) h = .ok (.str [o]) h := fun h => by
    simp only [subs, decide_eq_true q2, okIf, bind_ok, ati_nat, i2, Option.map_some, ofO_s]
  have nc : ¬ ([c] = ([] : List Nat)) := List.cons_ne_nil _ _
  obtain ⟨v, e⟩ := pr_fwd (T := T) (cl := run T n) (h := h) t hb c o (some (.int (p : Int))) (some (.str cOPEN)) (t.length - p) turns p 0 (by omega) (by unfold turns; omega)
  have hst : exes T (run T n) i_partner.body (env0 i_partner [.str t, .int (p : Int)]) h = (whGo (ev T (run T n) prC) (exes T (run T n) prB) turns [some (.str t), some (.int (p : Int)), some (.str [c]), some (.int (1)), some (.str cOPEN), some (.str [o]), some (.int 0), some (.int (p : Int))] h).bind fun o h => seq2 T (run T n) (.cons (.ret (.lit .non)) .nil) o h := by
    simp -implicitDefEqProofs only [prC, prB, nc, m1, m2, ix, iy, iz, i_partner, env0, ss_c, ss_n, s_set, e_slc, e_var, getV, List.map_cons, List.map_nil, List.cons_append, List.nil_append, List.getElem?_cons_succ, List.getElem?_cons_zero, bind_ok, bd_var, bd_bin, bnd_int, e_bin, e_lit, bin_ai, e1, List.set_cons_succ, List.set_cons_zero, seq2_n, s_ite, e_or, e_cmp, cmp, eqh_2, eq2_s, eqd_str, ofO_s, truth_bl, or2_f, e_con, b.c2, b.c3, e5, mem_sign, decide_false, Option.map_some, Bool.not_false, ite2_t, ite2_f, s_ret, seq2_r, outD, reduceCtorEq, List.replicate, s_whl, e_ife, ife2_t, ife2_f, e_sub, e_bm, es_c, es_n, decide_true, Bool.not_true, e_neg, negd, Nat.reduceSub]
  rw [hst, e, e2]
  cases prtN c o (t.drop p) 0 <;> simp [outD, oN]
theorem pr_shut (b : BM T) (n : Nat) (t : List Nat) (p c o i : Nat) (hl : t.length ≤ 10000) (hp : p < t.length) (hc : sg t p = c) (m1 : c ∉ cOPEN) (m2 : c ∈ cOPEN ++ cSHUT) (i1 : find1 c cSHUT 0 = some i) (i2 : cOPEN[i]? = some o) (hbr : brOf c = some (false, o)) : run T (n + 1) 17 [.str t, .int (p : Int)] h = .ok (oN (partner t p)) h := by
  rw [run_s b.f17 rfl]
  have hb : t.length ≤ big := Nat.le_trans hl (by decide)
  have e1 := fun h => slice_mid (h := h) t p 1 hb (Nat.le_of_lt hp)
  have e3 : (t.drop p).take 1 = [c] := by rw [drop_sg t p hp, hc]; rfl
  simp only [Int.cast_ofNat_Int, e3] at e1
  have e4 := sg_at t p hp
  rw [hc] at e4
  have e2 : partner t p = (prtN c o (t.take (p + 1)).reverse 0).map (p - ·) := by
    unfold partner
    rw [e4]
    dsimp only
    rw [hbr]
  have q1 : cOPEN.length + cSHUT.length ≤ big := by decide
  have e5 : ∀ h, bin .add (.str cOPEN) (.str cSHUT) h = .ok (.str (cOPEN ++ cSHUT)) h := fun h => by
    simp only [bin, decide_eq_true q1, okIf]
  have ix : ∀ h, bmd .str .index (.str cSHUT) [.str [c]] h = .ok (.int (i : Int)) h := fun h => by
    simp only [bmd, bms, i1, Option.map_some, ofO_s]
  have iy : ∀ h, bty .index (.str cSHUT) h = some .str := fun h => by simp only [bty, bty0, bok]
  have q2 : cOPEN.length ≤ big := by decide
  have iz : ∀ h, subs (.str cOPEN) (.int (i : Int)) h = .ok (.str [o]) h := fun h => by
    simp only [subs, decide_eq_true q2, okIf, bind_ok, ati_nat, i2, Option.map_some, ofO_s]
  have nc : ¬ ([c] = ([] : List Nat)) := List.cons_ne_nil _ _
  obtain ⟨v, e⟩ := pr_bwd (T := T) (cl := run T n) (h := h) t hb c o (some (.int (p : Int))) (some (.str cSHUT)) (p + 1) turns 0 (by omega) (by unfold turns; omega)
  have q : ((p + 1 : Nat) : Int) - 1 = (p : Int) := by omega
  rw [q] at e
  have hst : exes T (run T n) i_partner.body (env0 i_partner [.str t, .int (p : Int)]) h = (whGo (ev T (run T n) prC) (exes T (run T n) prB) turns [some (.str t), some (.int (p : Int)), some (.str [c]), some (.int (-1)), some (.str cSHUT), some (.str [o]), some (.int 0), some (.int (p : Int))] h).bind fun o h => seq2 T (run T n) (.cons (.ret (.lit .non)) .nil) o h := by
    simp -implicitDefEqProofs only [prC, prB, nc, m1, m2, ix, iy, iz, i_partner, env0, ss_c, ss_n, s_set, e_slc, e_var, getV, List.map_cons, List.map_nil, List.cons_append, List.nil_append, List.getElem?_cons_succ, List.getElem?_cons_zero, bind_ok, bd_var, bd_bin, bnd_int, e_bin, e_lit, bin_ai, e1, List.set_cons_succ, List.set_cons_zero, seq2_n, s_ite, e_or, e_cmp, cmp, eqh_2, eq2_s, eqd_str, ofO_s, truth_bl, or2_f, e_con, b.c2, b.c3, e5, mem_sign, decide_false, Option.map_some, Bool.not_false, ite2_t, ite2_f, s_ret, seq2_r, outD, reduceCtorEq, List.replicate, s_whl, e_ife, ife2_t, ife2_f, e_sub, e_bm, es_c, es_n, decide_true, Bool.not_true, e_neg, negd, Nat.reduceSub]
  rw [hst, e, e2]
  cases prtN c o (t.take (p + 1)).reverse 0 <;> simp [outD, oN]
theorem r_partner (b : BM T) (n : Nat) (t : List Nat) (p : Nat) (hl : t.length ≤ 10000) (hp : p ≤ t.length) : run T (n + 1) 17 [.str t, .int (p : Int)] h = .ok (oN (partner t p)) h := by
  have hb : t.length ≤ big := Nat.le_trans hl (by decide)
  have e1 := fun h => slice_mid (h := h) t p 1 hb hp
  simp only [Int.cast_ofNat_Int] at e1
  by_cases hp2 : p = t.length
  · rw [run_s b.f17 rfl]
    have e2 : partner t p = none := by
      unfold partner
      rw [List.getElem?_eq_none (by omega)]
    have e3 : (t.drop p).take 1 = [] := by rw [List.drop_eq_nil_of_le (by omega)]; rfl
    rw [e3] at e1
    simp -implicitDefEqProofs [i_partner, env0, getV, e1, cmp, outD, e2, oN]
  · have e3 : (t.drop p).take 1 = [sg t p] := by rw [drop_sg t p (by omega)]; rfl
    rw [e3] at e1
    have e4 := sg_at t p (by omega)
    have q1 : cOPEN.length + cSHUT.length ≤ big := by decide
    have e5 : ∀ h, bin .add (.str cOPEN) (.str cSHUT) h = .ok (.str (cOPEN ++ cSHUT)) h := fun h => by
      simp only [bin, decide_eq_true q1, okIf]
    cases hbr : brOf (sg t p) with
    | none =>
      rw [run_s b.f17 rfl]
      have e6 := brOf_none _ hbr
      have e2 : partner t p = none := by
        unfold partner
        rw [e4]
        dsimp only
        rw [hbr]
      have nc : ¬ ([sg t p] = ([] : List Nat)) := List.cons_ne_nil _ _
      simp -implicitDefEqProofs only [e6, nc, e2, oN, i_partner, env0, ss_c, ss_n, s_set, e_slc, e_var, getV, List.map_cons, List.map_nil, List.cons_append, List.nil_append, List.getElem?_cons_succ, List.getElem?_cons_zero, bind_ok, bd_var, bd_bin, bnd_int, e_bin, e_lit, bin_ai, e1, List.set_cons_succ, List.set_cons_zero, seq2_n, s_ite, e_or, e_cmp, cmp, eqh_2, eq2_s, eqd_str, ofO_s, truth_bl, or2_f, e_con, b.c2, b.c3, e5, mem_sign, decide_false, Option.map_some, Bool.not_false, ite2_t, ite2_f, s_ret, seq2_r, outD, reduceCtorEq, List.replicate, s_whl, e_ife, ife2_t, ife2_f, e_sub, e_bm, es_c, es_n, decide_true, Bool.not_true, e_neg, negd, Nat.reduceSub]
    | some x =>
      have e6 := brOf_cases _ _ hbr
      obtain ⟨dir, o⟩ := x
      simp only [List.mem_cons, Prod.mk.injEq, List.not_mem_nil, or_false] at e6
      rcases e6 with ⟨hc, rfl, rfl⟩ | ⟨hc, rfl, rfl⟩ | ⟨hc, rfl, rfl⟩ | ⟨hc, rfl, rfl⟩ | ⟨hc, rfl, rfl⟩ | ⟨hc, rfl, rfl⟩
      · exact pr_open b n t p 40 41 0 hl (by omega) hc (by decide) (by decide) rfl rfl rfl
      · exact pr_open b n t p 91 93 1 hl (by omega) hc (by decide) (by decide) rfl rfl rfl
      · exact pr_open b n t p 123 125 2 hl (by omega) hc (by decide) (by decide) rfl rfl rfl
      · exact pr_shut b n t p 41 40 0 hl (by omega) hc (by decide) (by decide) rfl rfl rfl
      · exact pr_shut b n t p 93 91 1 hl (by omega) hc (by decide) (by decide) rfl rfl rfl
      · exact pr_shut b n t p 125 123 2 hl (by omega) hc (by decide) (by decide) rfl rfl rfl
theorem c_partner (b : BM T) (n : Nat) (t : List Nat) (p : Nat) (hl : t.length ≤ 10000) (hp : p ≤ t.length) (h : Hs) : callF T (run T (n + 1)) 17 [.str t, .int (p : Int)] h = .ok (oN (partner t p)) h :=
  call_p b.f17 rfl rfl (r_partner (h := Hs.nil) b n t p hl hp) (oN_rl _)
end
end Ed

/-! part M4 -/
set_option maxRecDepth 100000
set_option maxHeartbeats 4000000
/-! All motions. -/
namespace Ed
open Ev
inductive Mo where
  | left (n : Nat) | right (n : Nat) | up (n : Nat) | down (n : Nat) | word (n : Nat) | back (n : Nat) | over (n : Nat)
  | mBegin | mEnd | first | top | bottom | pair | row (n : Nat) | find (c n : Nat) | mark (c : Nat) | search (w : List Nat) | again | before
abbrev wLeft : List Nat := [108, 101, 102, 116]
abbrev wRight : List Nat := [114, 105, 103, 104, 116]
abbrev wUp : List Nat := [117, 112]
abbrev wDown : List Nat := [100, 111, 119, 110]
abbrev wWord : List Nat := [119, 111, 114, 100]
abbrev wBack : List Nat := [98, 97, 99, 107]
abbrev wOver : List Nat := [111, 118, 101, 114]
abbrev wBegin : List Nat := [98, 101, 103, 105, 110]
abbrev wEnd : List Nat := [101, 110, 100]
abbrev wFirst : List Nat := [102, 105, 114, 115, 116]
abbrev wTop : List Nat := [116, 111, 112]
abbrev wBottom : List Nat := [98, 111, 116, 116, 111, 109]
abbrev wPair : List Nat := [112, 97, 105, 114]
abbrev wRow : List Nat := [114, 111, 119]
abbrev wFind : List Nat := [102, 105, 110, 100]
abbrev wMark : List Nat := [109, 97, 114, 107]
abbrev wSearch : List Nat := [115, 101, 97, 114, 99, 104]
abbrev wAgain : List Nat := [97, 103, 97, 105, 110]
abbrev wBefore : List Nat := [98, 101, 102, 111, 114, 101]
def moD : Mo → D
  | .left n => .tup [.str wLeft, .int (n : Int)]
  | .right n => .tup [.str wRight, .int (n : Int)]
  | .up n => .tup [.str wUp, .int (n : Int)]
  | .down n => .tup [.str wDown, .int (n : Int)]
  | .word n => .tup [.str wWord, .int (n : Int)]
  | .back n => .tup [.str wBack, .int (n : Int)]
  | .over n => .tup [.str wOver, .int (n : Int)]
  | .mBegin => .tup [.str wBegin]
  | .mEnd => .tup [.str wEnd]
  | .first => .tup [.str wFirst]
  | .top => .tup [.str wTop]
  | .bottom => .tup [.str wBottom]
  | .pair => .tup [.str wPair]
  | .row n => .tup [.str wRow, .int (n : Int)]
  | .find c n => .tup [.str wFind, .str [c], .int (n : Int)]
  | .mark c => .tup [.str wMark, .str [c]]
  | .search w => .tup [.str wSearch, .str w]
  | .again => .tup [.str wAgain]
  | .before => .tup [.str wBefore]
def in9 (n : Nat) : Prop := 1 ≤ n ∧ n ≤ 9
def Mo.ok : Mo → Prop
  | .left n => in9 n
  | .right n => in9 n
  | .up n => in9 n
  | .down n => in9 n
  | .word n => in9 n
  | .back n => in9 n
  | .over n => in9 n
  | .row n => 1 ≤ n ∧ n ≤ 99
  | .find c n => c ∈ signs [] ∧ in9 n
  | .mark c => c ∈ [97, 98, 99, 100]
  | .search w => 1 ≤ w.length ∧ w.length ≤ 5 ∧ ∀ c ∈ w, c ∈ signs []
  | _ => True
theorem moD_rl (m : Mo) : (moD m).rl = true := by cases m <;> rfl
/-- begin and end of the row of a place -/
def bk (t : List Nat) (p : Nat) : Nat := aft (rfind1 10 (t.take p) 0 none)
def fw (t : List Nat) (p : Nat) : Nat := fin1 (find1 10 (t.drop p) p) t.length
theorem bck_bk (t : List Nat) (p : Nat) : bck t p = (bk t p : Int) := by
  unfold bck bk
  cases rfind1 10 (t.take p) 0 none with
  | none => rfl
  | some j => show ((j : Int) + 1) = ((j + 1 : Nat) : Int); omega
theorem fwd_fw (t : List Nat) (p : Nat) : fwd t p = (fw t p : Int) := by
  unfold fwd fw
  cases find1 10 (t.drop p) p <;> rfl
theorem rfind1_le : ∀ (l : List Nat) (i : Nat) (o : Option Nat), aft o ≤ i → aft (rfind1 10 l i o) ≤ i + l.length
  | [], i, o, h => h
  | c :: l, i, o, h => by
    unfold rfind1
    have := rfind1_le l (i + 1) (if c = 10 then some i else o) (by
      split
      · exact Nat.le_refl _
      · omega)
    rw [List.length_cons]
    omega
theorem bk_le (t : List Nat) (p : Nat) : bk t p ≤ p := by
  have := rfind1_le (t.take p) 0 none (Nat.le_refl _)
  rw [List.length_take] at this
  unfold bk
  omega
theorem find1_b : ∀ (l : List Nat) (i k : Nat), find1 10 l i = some k → i ≤ k ∧ k < i + l.length
  | [], _, _, h => nomatch h
  | c :: l, i, k, h => by
    unfold find1 at h
    rw [List.length_cons]
    split at h
    · injection h with h; omega
    · have := find1_b l (i + 1) k h
      omega
theorem fw_ge (t : List Nat) (p : Nat) (hp : p ≤ t.length) : p ≤ fw t p := by
  unfold fw
  cases e : find1 10 (t.drop p) p with
  | none => exact hp
  | some k => exact (find1_b _ _ _ e).1
theorem fw_le (t : List Nat) (p : Nat) (hp : p ≤ t.length) : fw t p ≤ t.length := by
  unfold fw
  cases e : find1 10 (t.drop p) p with
  | none => exact Nat.le_refl _
  | some k =>
    have := (find1_b _ _ _ e).2
    rw [List.length_drop] at this
    show k ≤ _
    omega
def rowN (t : List Nat) (p : Nat) : Nat := (t.take p).count 10
/-- a column of a row -/
def toRow (t : List Nat) (k : Int) (col : Nat) : Option Nat := if 0 ≤ k then ((bgs t)[k.toNat]?).map fun s => min (s + col) (fw t s) else none
def firstN (t : List Nat) (p : Nat) : Nat := bk t p + (((t.drop (bk t p)).take (fw t p - bk t p)).takeWhile fun c => decide (c = 32)).length
def fndR (t : List Nat) (p c : Nat) : List Nat := ((List.range (fw t p - (p + 1))).map (p + 1 + ·)).filter fun i => decide (sg t i = c)
def isWithin : Mo → Prop
  | .mBegin => True
  | .mEnd => True
  | .first => True
  | .top => True
  | .bottom => True
  | .pair => True
  | .row _ => True
  | .find _ _ => True
  | _ => False
def placeBy (t : List Nat) (p : Nat) (m : Mo) (col : Nat) (mk : List Nat → Option Nat) (pat : Option (List Nat)) : Option Nat := match m with
  | .left n => if 0 < p then some (p - n) else none
  | .right n => if p < t.length then some (min t.length (p + n)) else none
  | .up n => toRow t ((rowN t p : Int) - n) col
  | .down n => toRow t ((rowN t p : Int) + n) col
  | .word n => nthB (wb t) p n
  | .back n => nthA (wb t) p n
  | .over n => nthB (we t) p n
  | .mark c => mk [c]
  | .search w => srOn t p w
  | .again => pat.bind (srOn t p)
  | .before => pat.bind (srBack t p)
  | .mBegin => some (bk t p)
  | .mEnd => some (fw t p)
  | .first => some (firstN t p)
  | .top => some 0
  | .bottom => some t.length
  | .pair => partner t p
  | .row n => toRow t ((n : Int) - 1) 0
  | .find c n => nthB (fndR t p c) p n
section
variable {T : Tbl} {h : Hs}
theorem c_bk (b : B1 T) (n : Nat) (t : List Nat) (p : Nat) (h : Hs) : callF T (run T (n + 1)) 5 [.str t, .int (p : Int)] h = .ok (.int (bk t p : Int)) h :=
  call_p b.f5 rfl rfl ((r_begin_of (h := Hs.nil) b n t (p : Int) (by omega)).trans (by rw [Int.toNat_natCast, bck_bk])) rfl
theorem c_fw (b : B1 T) (n : Nat) (t : List Nat) (p : Nat) (hl : t.length ≤ 1000000) (h : Hs) : callF T (run T (n + 1)) 6 [.str t, .int (p : Int)] h = .ok (.int (fw t p : Int)) h :=
  call_p b.f6 rfl rfl ((r_end_of (h := Hs.nil) b n t (p : Int) (by omega) (Nat.le_trans hl (by decide))).trans (by rw [Int.toNat_natCast, fwd_fw])) rfl
theorem rowOf_N (t : List Nat) (p : Nat) (hp : p ≤ t.length) : rowOf t (p : Int) = rowN t p := by
  unfold rowOf rowN
  rw [cut_take _ _ hp]
theorem c_row (b : B1 T) (n : Nat) (t : List Nat) (p : Nat) (hl : t.length ≤ 1000000) (hp : p ≤ t.length) (h : Hs) : callF T (run T (n + 1)) 7 [.str t, .int (p : Int)] h = .ok (.int (rowN t p : Int)) h := by
  have hb : t.length ≤ big := Nat.le_trans hl (by decide)
  have e := r_row_of (h := Hs.nil) b n t (p : Int) hb
  rw [cut_take _ _ hp] at e
  exact call_p b.f7 rfl rfl e rfl
theorem c_toRow (b : B1 T) (n : Nat) (t : List Nat) (k : Int) (col : Nat) (hl : t.length ≤ 1000000) (h : Hs) : callF T (run T (n + 2)) 16 [.str t, .int k, .int (col : Int)] h = .ok (oN (toRow t k col)) h := by
  have hb : t.length + 2 < big := by have : big = 16777216 := rfl; omega
  refine call_p b.f16 rfl rfl (h' := Hs.nil) ?_ (oN_rl _)
  by_cases hk : 0 ≤ k ∧ k < (bgs t).length
  · obtain ⟨j, rfl⟩ : ∃ j : Nat, k = (j : Int) := ⟨k.toNat, by omega⟩
    have hj : j < (bgs t).length := by omega
    rw [r_to_row (h := Hs.nil) b n t j _ (col : Int) hb (List.getElem?_eq_getElem hj)]
    unfold toRow
    rw [if_pos hk.1, Int.toNat_natCast, List.getElem?_eq_getElem hj, fwd_fw]
    show R.ok (D.int _) _ = R.ok (D.int ((min ((bgs t)[j] + col) (fw t (bgs t)[j]) : Nat) : Int)) _
    congr 2
    split <;> omega
  · rw [r_to_row0 (h := Hs.nil) b n t k _ hb hk]
    unfold toRow
    by_cases h0 : 0 ≤ k
    · rw [if_pos h0, List.getElem?_eq_none (by omega)]
      rfl
    · rw [if_neg h0]
      rfl
theorem tw_dw (l : List Nat) (P : Nat → Bool) : (l.takeWhile P).length + (l.dropWhile P).length = l.length := by
  have := congrArg List.length (List.takeWhile_append_dropWhile (p := P) (l := l))
  rw [List.length_append] at this
  exact this
theorem r_find (b : BM T) (n : Nat) (t : List Nat) (p c k : Nat) (hl : t.length ≤ 1000000) (hp : p ≤ t.length) (hk : 1 ≤ k) : run T (n + 2) 21 [.str t, .int (p : Int), moD (.find c k)] h = .ok (oN (nthB (fndR t p c) p k)) h := by
  rw [run_s b.f21 rfl]
  have hb : t.length ≤ big := Nat.le_trans hl (by decide)
  have e1 := c_fw b.toB1 n t p hl
  have h1 := fw_le t p hp
  have er : okRange (fw t p : Int) = true := okRange_t (by omega) (by omega)
  have er2 : okRange ((p : Int) + 1) = true := okRange_t (by omega) (by omega)
  have i0 : ati [D.str wFind, .str [c], .int (k : Int)] 0 = some (.str wFind) := rfl
  have i1 : ati [D.str wFind, .str [c], .int (k : Int)] 1 = some (.str [c]) := rfl
  have i2 : ati [D.str wFind, .str [c], .int (k : Int)] 2 = some (.int (k : Int)) := rfl
  have hw : range ((p : Int) + 1) ((fw t p : Int) - ((p : Int) + 1)).toNat = nD ((List.range (fw t p - (p + 1))).map (p + 1 + ·)) := by
    have q1 : ((fw t p : Int) - ((p : Int) + 1)).toNat = fw t p - (p + 1) := by omega
    have q2 : ((p : Int) + 1) = ((p + 1 : Nat) : Int) := by omega
    rw [q1, q2, range_nD]
  have e2 : lcGo ⟨range ((p : Int) + 1) ((fw t p : Int) - ((p : Int) + 1)).toNat, none⟩ [some (.str t), some (.int (p : Int)), some (moD (.find c k)), some (.str wFind), none, none, none] (.nm 6) (ev T (run T (n + 1)) (.cmp .eq (.sub (.var 0) (.var 6)) (.sub (.var 2) (.lit (.int 1))))) (ev T (run T (n + 1)) (.var 6)) (range ((p : Int) + 1) ((fw t p : Int) - ((p : Int) + 1)).toNat) [] h = .ok ((fndR t p c).map fun (i : Nat) => .int (i : Int)) h := by
    rw [hw]
    refine lc_nat (fun x => [some (.str t), some (.int (p : Int)), some (moD (.find c k)), some (.str wFind), none, none, some x]) (fun i => decide (sg t i = c)) (fun i => .int (i : Int)) rfl _ h (fun x _ => rfl) (fun x hx => ?_) (fun x _ _ => rfl) (by simp; omega)
    obtain ⟨j, hj, rfl⟩ := List.mem_map.mp hx
    have hj := List.mem_range.mp hj
    have e2 := subs_at (h := h) t (p + 1 + j) hb (by omega)
    simp -implicitDefEqProofs only [e_cmp, e_sub, e_var, e_lit, getV, List.getElem?_cons_succ, List.getElem?_cons_zero, bind_ok, e2]
    simp -implicitDefEqProofs [moD, subs, items, i1, cmp]
  have hlen : (fndR t p c).length ≤ t.length := by
    have := List.length_filter_le (fun i => decide (sg t i = c)) ((List.range (fw t p - (p + 1))).map (p + 1 + ·))
    rw [List.length_map, List.length_range] at this
    unfold fndR
    omega
  have e3 := c_nthB b n (fndR t p c) p k (by omega) hk
  rw [nD_map] at e2
  simp only [moD] at e2
  simp -implicitDefEqProofs [i_within, env0, getV, moD, subs, items, i0, cmp, e1, itv, er, er2, e2, unl, i2, e3, outD]
theorem r_within (b : BM T) (n : Nat) (t : List Nat) (p : Nat) (m : Mo) (col : Nat) (mk : List Nat → Option Nat) (pat : Option (List Nat)) (hl : t.length ≤ 10000) (hp : p ≤ t.length) (hm : m.ok) (hw : isWithin m) :
    run T (n + 3) 21 [.str t, .int (p : Int), moD m] h = .ok (oN (placeBy t p m col mk pat)) h := by
  have hl2 : t.length ≤ 1000000 := by omega
  have hb : t.length ≤ big := Nat.le_trans hl (by decide)
  have e1 := c_bk b.toB1 (n + 1) t p
  have e2 := c_fw b.toB1 (n + 1) t p hl2
  have i1 : ∀ a : D, ati [a] 0 = some a := fun _ => rfl
  cases m with
  | mBegin => rw [run_s b.f21 rfl]; simp -implicitDefEqProofs [i_within, env0, getV, moD, subs, items, i1, cmp, e1, outD, placeBy, oN]
  | mEnd => rw [run_s b.f21 rfl]; simp -implicitDefEqProofs [i_within, env0, getV, moD, subs, items, i1, cmp, e2, outD, placeBy, oN]
  | first =>
    rw [run_s b.f21 rfl]
    have h1 := bk_le t p
    have h2 := fw_ge t p hp
    have h3 := fw_le t p hp
    have e3 := fun h => slice_mid (h := h) t (bk t p) (fw t p - bk t p) hb (by omega)
    have q1 : (bk t p : Int) + ((fw t p - bk t p : Nat) : Int) = (fw t p : Int) := by omega
    rw [q1] at e3
    have hr : ((t.drop (bk t p)).take (fw t p - bk t p)).length ≤ big := by rw [List.length_take]; omega
    have hd := tw_dw ((t.drop (bk t p)).take (fw t p - bk t p)) fun c => decide (c = 32)
    have e4 := fun h => len_str (h := h) _ hr
    have e5 : ∀ h, bmd .str .lstrip (.str ((t.drop (bk t p)).take (fw t p - bk t p))) [.str [32]] h = .ok (.str (((t.drop (bk t p)).take (fw t p - bk t p)).dropWhile fun c => decide (c = 32))) h := fun h => by
      simp only [bmd, bms, decide_eq_true hr, okIf]
    have e6 : ∀ x h, bty .lstrip (.str x) h = some .str := fun x h => by simp only [bty, bty0, bok]
    have e7 := fun h => len_str (h := h) (((t.drop (bk t p)).take (fw t p - bk t p)).dropWhile fun c => decide (c = 32)) (by omega)
    have q2 : (bk t p : Int) + (((t.drop (bk t p)).take (fw t p - bk t p)).length : Int) - ((((t.drop (bk t p)).take (fw t p - bk t p)).dropWhile fun c => decide (c = 32)).length : Int) = (firstN t p : Int) := by
      unfold firstN
      omega
    generalize ((t.drop (bk t p)).take (fw t p - bk t p)) = row at *
    simp -implicitDefEqProofs only [i_within, env0, List.map_cons, List.map_nil, List.cons_append, List.nil_append, List.replicate, Nat.reduceSub, ss_c, ss_n, s_set, s_ite, s_ret, e_var, e_lit, e_sub, e_slc, e_cmp, e_call, e_bin, e_blt, e_bm, es_c, es_n, bd_call, getV, List.getElem?_cons_succ, List.getElem?_cons_zero, moD, subs, items, i1, ofO_s, cmp, eqh_2, eq2_s, eqd_str, e1, e2, e3, e4, e5, e6, e7, bind_ok, bnd_int, bin_ai, bin_si, q2, outD, placeBy, oN, truth_bl, List.set_cons_succ, List.set_cons_zero, seq2_n, seq2_r, decide_false, decide_true, ite2_t, ite2_f, List.cons.injEq, Nat.reduceEqDiff, false_and, and_false, and_true, true_and]
  | top => rw [run_s b.f21 rfl]; simp -implicitDefEqProofs [i_within, env0, getV, moD, subs, items, i1, cmp, outD, placeBy, oN]
  | bottom =>
    have e3 := fun h => len_str (h := h) t hb
    rw [run_s b.f21 rfl]; simp -implicitDefEqProofs [i_within, env0, getV, moD, subs, items, i1, cmp, e3, outD, placeBy, oN]
  | pair =>
    have e3 := c_partner b (n + 1) t p hl hp
    rw [run_s b.f21 rfl]; simp -implicitDefEqProofs [i_within, env0, getV, moD, subs, items, i1, cmp, e3, outD, placeBy]
  | row k =>
    have e3 := c_toRow b.toB1 n t ((k : Int) - 1) 0 hl2
    simp only [Int.natCast_zero, Int.cast_ofNat_Int] at e3
    rw [run_s b.f21 rfl]; simp -implicitDefEqProofs [i_within, env0, getV, moD, subs, items, ati0, ati1, cmp, e3, outD, placeBy]
  | find c k => exact r_find b (n + 1) t p c k hl2 hp hm.2.1
  | _ => exact absurd hw id
end
end Ed

/-! part M5 -/
set_option maxRecDepth 100000
set_option maxHeartbeats 4000000
/-! Where any motion leads, and what is asked ahead of it. -/
namespace Ed
open Ev
def oS : Option (List Nat) → D
  | none => .non
  | some w => .str w
/-- mk stands for marks -/
structure MkOk (h : Hs) (mk : D) (f : List Nat → Option Nat) : Prop where
  ty : bty .get mk h = some .dict
  get : ∀ c, bmd .dict .get mk [.str c] h = .ok (oN (f c)) h
theorem mk_nil (h : Hs) : MkOk (h.new (.dct [])) (.ref h.n) (fun _ => none) where
  ty := by simp only [bty, bty0, new_o, bok]
  get := fun c => by simp only [bmd, dictOf, new_o, bmk]; rfl
structure BK (T : Tbl) : Prop extends BM T where
  kn : ∀ w : List Nat, (T.kd 0).lookup w = [(wLeft, D.str [110]), (wRight, D.str [110]), (wUp, D.str [110]), (wDown, D.str [110]), (wWord, D.str [110]), (wBack, D.str [110]), (wOver, D.str [110]), (wBegin, D.str []), (wEnd, D.str []), (wFirst, D.str []), (wTop, D.str []), (wBottom, D.str []), (wPair, D.str []), (wRow, D.str [114]), (wFind, D.str [115, 110]), (wMark, D.str [109]), (wSearch, D.str [116]), (wAgain, D.str []), (wBefore, D.str [])].lookup w
structure BG (T : Tbl) : Prop extends BK T where
  f23 : T.fn 23 = some i_need_motion
  f24 : T.fn 24 = some i_goes
section
variable {T : Tbl} {h : Hs}
theorem filter_len_le {xs : List Nat} {P : Nat → Bool} {n : Nat} (h : xs.length ≤ n) : (xs.filter P).length ≤ n := Nat.le_trans (List.length_filter_le _ _) h
theorem wb_len (t : List Nat) : (wb t).length ≤ t.length := filter_len_le (by simp)
theorem we_len (t : List Nat) : (we t).length ≤ t.length := by
  unfold we
  rw [List.length_map]
  exact filter_len_le (by simp)
theorem c_srOn (b : BM T) (n : Nat) (t pat : List Nat) (p : Nat) (hl : t.length ≤ 1000000) (hl2 : pat.length ≤ 1000000) (h : Hs) : callF T (run T (n + 2)) 19 [.str t, .int (p : Int), .str pat] h = .ok (oN (srOn t p pat)) h :=
  call_p b.f19 rfl rfl (r_srOn (h := Hs.nil) b n t pat p hl hl2) (oN_rl _)
theorem c_srBack (b : BM T) (n : Nat) (t pat : List Nat) (p : Nat) (hl : t.length ≤ 1000000) (hl2 : pat.length ≤ 1000000) (h : Hs) : callF T (run T (n + 2)) 20 [.str t, .int (p : Int), .str pat] h = .ok (oN (srBack t p pat)) h :=
  call_p b.f20 rfl rfl (r_srBack (h := Hs.nil) b n t pat p hl hl2) (oN_rl _)
theorem c_within (b : BM T) (n : Nat) (t : List Nat) (p : Nat) (m : Mo) (col : Nat) (mk : List Nat → Option Nat) (pat : Option (List Nat)) (hl : t.length ≤ 10000) (hp : p ≤ t.length) (hm : m.ok) (hw : isWithin m) (h : Hs) :
    callF T (run T (n + 3)) 21 [.str t, .int (p : Int), moD m] h = .ok (oN (placeBy t p m col mk pat)) h :=
  call_p b.f21 rfl (by simp [D.rls, D.rl, moD_rl]) (r_within (h := Hs.nil) b n t p m col mk pat hl hp hm hw) (oN_rl _)
theorem i01 (a : D) : ati [a] 0 = some a := rfl
theorem i03 (a b c : D) : ati [a, b, c] 0 = some a := rfl
theorem memv2 (a b c : List Nat) : mem (.str a) (.tup [.str b, .str c]) h = some (decide (a = b ∨ a = c)) := mem2 a b c
theorem min_nn (i j : Nat) : blt .min [.int (i : Int), .int (j : Int)] h = .ok (.int ((min i j : Nat) : Int)) h := by
  simp only [blt, blt2]
  congr 2
  split <;> omega
theorem max_nn (i j : Nat) : blt .max [.int (i : Int), .int (j : Int)] h = .ok (.int ((max i j : Nat) : Int)) h := by
  simp only [blt, blt2]
  congr 2
  split <;> omega
theorem r_place_by (b : BK T) (n : Nat) (t : List Nat) (p : Nat) (m : Mo) (col : Nat) (mk : D) (mkf : List Nat → Option Nat) (pat : Option (List Nat)) (hl : t.length ≤ 10000) (hp : p ≤ t.length) (hm : m.ok) (hpat : ∀ w, pat = some w → w.length ≤ 1000000) (hmk : MkOk h mk mkf) :
    run T (n + 4) 22 [.str t, .int (p : Int), moD m, .int (col : Int), mk, oS pat] h = .ok (oN (placeBy t p m col mkf pat)) h := by
  have hl2 : t.length ≤ 1000000 := by omega
  have hb : t.length ≤ big := Nat.le_trans hl (by decide)
  have hwb := wb_len t
  have hwe := we_len t
  have eL := fun h => len_str (h := h) t hb
  have eW : ∀ m : Mo, m.ok → isWithin m → ∀ h, _ := fun m hm hw h => c_within b.toBM n t p m col mkf pat hl hp hm hw h
  have e7 := c_row b.toB1 (n + 2) t p hl2 hp
  rw [run_s b.f22 rfl]
  cases m with
  | left k =>
    by_cases h0 : 0 < p
    · have q : (if (0 : Int) < (p : Int) - (k : Int) then (p : Int) - (k : Int) else 0) = ((p - k : Nat) : Int) := by split <;> omega
      simp -implicitDefEqProofs [i_place_by, env0, getV, moD, subs, items, ati0, ati1, cmp, h0, blt, blt2, outD, placeBy, oN]
      split <;> omega
    · simp -implicitDefEqProofs [i_place_by, env0, getV, moD, subs, items, ati0, ati1, cmp, h0, outD, placeBy, oN]
  | right k =>
    by_cases h0 : p < t.length
    · have q := fun h => min_nn (h := h) t.length (p + k)
      simp only [Int.natCast_add] at q
      simp -implicitDefEqProofs [i_place_by, env0, getV, moD, subs, items, ati0, ati1, cmp, eL, h0, q, outD, placeBy, oN]
    · simp -implicitDefEqProofs [i_place_by, env0, getV, moD, subs, items, ati0, ati1, cmp, eL, h0, outD, placeBy, oN]
  | up k =>
    have e := c_toRow b.toB1 (n + 1) t ((rowN t p : Int) + -(k : Int)) col hl2
    have q : (rowN t p : Int) - (k : Int) = (rowN t p : Int) + -(k : Int) := by omega
    simp -implicitDefEqProofs [i_place_by, env0, getV, moD, subs, items, ati0, ati1, cmp, memv2, e7, e, outD, placeBy, q]
  | down k =>
    have e := c_toRow b.toB1 (n + 1) t ((rowN t p : Int) + (k : Int)) col hl2
    simp -implicitDefEqProofs [i_place_by, env0, getV, moD, subs, items, ati0, ati1, cmp, memv2, e7, e, outD, placeBy]
  | word k =>
    have e1 := c_wb b.toBM (n + 2) t hl2
    have e2 := c_nthB b.toBM (n + 2) (wb t) p k (by omega) hm.1
    simp -implicitDefEqProofs [i_place_by, env0, getV, moD, subs, items, ati0, ati1, cmp, memv2, e1, e2, outD, placeBy]
  | back k =>
    have e1 := c_wb b.toBM (n + 2) t hl2
    have e2 := c_nthA b.toBM (n + 2) (wb t) p k (by omega) hm.1
    simp -implicitDefEqProofs [i_place_by, env0, getV, moD, subs, items, ati0, ati1, cmp, memv2, e1, e2, outD, placeBy]
  | over k =>
    have e1 := c_we b.toBM (n + 2) t hl2
    have e2 := c_nthB b.toBM (n + 2) (we t) p k (by omega) hm.1
    simp -implicitDefEqProofs [i_place_by, env0, getV, moD, subs, items, ati0, ati1, cmp, memv2, e1, e2, outD, placeBy]
  | mark c =>
    have e1 := hmk.ty
    have e2 := hmk.get [c]
    simp -implicitDefEqProofs [i_place_by, env0, getV, moD, subs, items, ati0, ati1, cmp, memv2, e1, e2, outD, placeBy]
  | search w =>
    have e1 := c_srOn b.toBM (n + 1) t w p hl2 (by have := hm.2.1; omega)
    simp -implicitDefEqProofs [i_place_by, env0, getV, moD, subs, items, ati0, ati1, cmp, memv2, e1, outD, placeBy]
  | again =>
    cases pat with
    | none => simp -implicitDefEqProofs [i_place_by, env0, getV, moD, subs, items, i01, cmp, memv2, outD, placeBy, oS, oN]
    | some w =>
      have e1 := c_srOn b.toBM (n + 1) t w p hl2 (hpat w rfl)
      simp -implicitDefEqProofs [i_place_by, env0, getV, moD, subs, items, i01, cmp, memv2, e1, outD, placeBy, oS]
  | before =>
    cases pat with
    | none => simp -implicitDefEqProofs [i_place_by, env0, getV, moD, subs, items, i01, cmp, memv2, outD, placeBy, oS, oN]
    | some w =>
      have e1 := c_srBack b.toBM (n + 1) t w p hl2 (hpat w rfl)
      simp -implicitDefEqProofs [i_place_by, env0, getV, moD, subs, items, i01, cmp, memv2, e1, outD, placeBy, oS]
  | mBegin =>
    have e := eW .mBegin trivial trivial
    simp only [moD] at e
    simp -implicitDefEqProofs [i_place_by, env0, getV, moD, subs, items, i01, cmp, memv2, e, outD]
  | mEnd =>
    have e := eW .mEnd trivial trivial
    simp only [moD] at e
    simp -implicitDefEqProofs [i_place_by, env0, getV, moD, subs, items, i01, cmp, memv2, e, outD]
  | first =>
    have e := eW .first trivial trivial
    simp only [moD] at e
    simp -implicitDefEqProofs [i_place_by, env0, getV, moD, subs, items, i01, cmp, memv2, e, outD]
  | top =>
    have e := eW .top trivial trivial
    simp only [moD] at e
    simp -implicitDefEqProofs [i_place_by, env0, getV, moD, subs, items, i01, cmp, memv2, e, outD]
  | bottom =>
    have e := eW .bottom trivial trivial
    simp only [moD] at e
    simp -implicitDefEqProofs [i_place_by, env0, getV, moD, subs, items, i01, cmp, memv2, e, outD]
  | pair =>
    have e := eW .pair trivial trivial
    simp only [moD] at e
    simp -implicitDefEqProofs [i_place_by, env0, getV, moD, subs, items, i01, cmp, memv2, e, outD]
  | row k =>
    have e := eW (.row k) hm trivial
    simp only [moD] at e
    simp -implicitDefEqProofs [i_place_by, env0, getV, moD, subs, items, ati0, cmp, memv2, e, outD]
  | find c k =>
    have e := eW (.find c k) hm trivial
    simp only [moD] at e
    simp -implicitDefEqProofs [i_place_by, env0, getV, moD, subs, items, i03, cmp, memv2, e, outD]
/-! ### what is a motion -/
theorem c_whole (b : B1 T) (n : Nat) (i lo hi : Nat) (h1 : lo ≤ i) (h2 : i ≤ hi) (h : Hs) : callF T (run T (n + 1)) 0 [.int (i : Int), .int (lo : Int), .int (hi : Int)] h = .ok (.bl true) h :=
  call_p b.f0 rfl rfl ((r_is_whole (h := Hs.nil) b n (i : Int) (lo : Int) (hi : Int)).trans (by rw [decide_eq_true (by omega)])) rfl
theorem c_named (b : BM T) (n : Nat) (c : Nat) (z : List Nat) (hc : c ∈ z) (h : Hs) : callF T (run T (n + 1)) 11 [.str [c], .str z] h = .ok (.bl true) h := by
  refine call_p b.f11 rfl rfl (h' := Hs.nil) ?_ rfl
  rw [run_s b.f11 rfl]
  have e1 := len_str (h := Hs.nil) [c] (by show 1 ≤ big; decide)
  simp only [List.length_singleton, Int.cast_ofNat_Int] at e1
  simp -implicitDefEqProofs [i_is_named, env0, getV, isi, e1, cmp, mem_sign, hc, outD]
theorem c_signs (b : B1 T) (n : Nat) (t more : List Nat) (lo hi : Int) (hl : t.length ≤ 1000) (hm : more.length ≤ 1000) (h1 : lo ≤ t.length) (h2 : (t.length : Int) ≤ hi) (ht : ∀ c ∈ t, c ∈ signs more) (h : Hs) : callF T (run T (n + 1)) 1 [.str t, .int lo, .int hi, .str more] h = .ok (.bl true) h :=
  call_p b.f1 rfl rfl (r_are_signs (h := Hs.nil) b n t more lo hi (Nat.le_trans hl (by decide)) hm h1 h2 ht) rfl
theorem part_n (b : BM T) (n : Nat) (k : Nat) (hk : in9 k) (h : Hs) : callF T (run T (n + 2)) 12 [.str [110], .int (k : Int)] h = .ok (.bl true) h := by
  refine call_p b.f12 rfl rfl (h' := Hs.nil) ?_ rfl
  rw [run_s b.f12 rfl]
  have e1 := c_whole b.toB1 n k 1 9 hk.1 hk.2
  simp only [Int.cast_ofNat_Int] at e1
  simp -implicitDefEqProofs [i_is_part, env0, getV, cmp, eqd_sign, b.c5, e1, outD]
theorem part_r (b : BM T) (n : Nat) (k : Nat) (h1 : 1 ≤ k) (h2 : k ≤ 99) (h : Hs) : callF T (run T (n + 2)) 12 [.str [114], .int (k : Int)] h = .ok (.bl true) h := by
  refine call_p b.f12 rfl rfl (h' := Hs.nil) ?_ rfl
  rw [run_s b.f12 rfl]
  have e1 := c_whole b.toB1 n k 1 99 h1 h2
  simp only [Int.cast_ofNat_Int] at e1
  simp -implicitDefEqProofs [i_is_part, env0, getV, cmp, eqd_sign, b.c6, e1, outD]
theorem part_s (b : BM T) (n : Nat) (c : Nat) (hc : c ∈ signs []) (h : Hs) : callF T (run T (n + 2)) 12 [.str [115], .str [c]] h = .ok (.bl true) h := by
  refine call_p b.f12 rfl rfl (h' := Hs.nil) ?_ rfl
  rw [run_s b.f12 rfl]
  unfold signs at hc
  rw [List.append_nil] at hc
  have e1 := c_named b n c (cWORD ++ cOTHERS) hc
  have q1 : cWORD.length + cOTHERS.length ≤ big := by decide
  have e5 : ∀ h, bin .add (.str cWORD) (.str cOTHERS) h = .ok (.str (cWORD ++ cOTHERS)) h := fun h => by
    simp only [bin, decide_eq_true q1, okIf]
  simp -implicitDefEqProofs [i_is_part, env0, getV, cmp, eqd_sign, b.c0, b.c1, e5, e1, outD]
theorem part_m (b : BM T) (n : Nat) (c : Nat) (hc : c ∈ [97, 98, 99, 100]) (h : Hs) : callF T (run T (n + 2)) 12 [.str [109], .str [c]] h = .ok (.bl true) h := by
  refine call_p b.f12 rfl rfl (h' := Hs.nil) ?_ rfl
  rw [run_s b.f12 rfl]
  have e1 := c_named b n c [97, 98, 99, 100] hc
  simp -implicitDefEqProofs [i_is_part, env0, getV, cmp, eqd_sign, e1, outD]
theorem part_t (b : BM T) (n : Nat) (w : List Nat) (h1 : 1 ≤ w.length) (h2 : w.length ≤ 5) (hw : ∀ c ∈ w, c ∈ signs []) (h : Hs) : callF T (run T (n + 2)) 12 [.str [116], .str w] h = .ok (.bl true) h := by
  refine call_p b.f12 rfl rfl (h' := Hs.nil) ?_ rfl
  rw [run_s b.f12 rfl]
  have e1 := c_signs b.toB1 n w [] 1 5 (by omega) (by simp) (by omega) (by omega) hw
  simp -implicitDefEqProofs [i_is_part, env0, getV, cmp, eqd_sign, e1, outD]
def mot0 (w : List Nat) : Prop := w ∈ [wBegin, wEnd, wFirst, wTop, wBottom, wPair, wAgain, wBefore]
theorem slice1 (a : D) (xs : List D) : slice (.tup (a :: xs)) (some 1) none h = .ok (.tup xs) h := by
  have : cut (a :: xs) (some 1) none = xs := by
    have h1 : min (Int.toNat 1) (a :: xs).length = 1 := by rw [List.length_cons]; simp
    unfold cut six
    simp only [show ¬ ((1 : Int) < 0) by decide, if_false, h1]
    simp
  simp only [slice, this]
theorem len_tup (xs : List D) : blt .len [.tup xs] h = .ok (.int (xs.length : Int)) h := by
  simp only [blt, blt1, lenD, items]
theorem all_b (bs : List Bool) (hb : bs.all id = true) : blt .all [.lst (bs.map D.bl)] h = .ok (.bl true) h := by
  have := boolsOf_map id bs
  simp only [id_eq, List.map_id'] at this
  simp only [blt, blt1, lsts, Option.bind_some, this, Option.map_some, ofO_s, List.map_id, hb]
theorem zip_str (z : List Nat) (ys : List D) : itv .zip (.str z) (.tup ys) h = .ok ⟨zips (z.map fun c => .str [c]) ys, none⟩ h := by simp only [itv]
theorem kn_lookup (b : BK T) (m : Mo) : ∃ w rest sh, moD m = .tup (.str w :: rest) ∧ (T.kd 0).lookup w = some (.str sh) ∧ rest.length = sh.length ∧ sh.length ≤ 2 ∧ (m.ok → ∀ n h, lcGo ⟨zips (sh.map fun c => D.str [c]) rest, none⟩ [some (.tup (.str w :: rest)), some (.str sh), none, none] (.tp [2, 3]) (ev T (run T (n + 2)) (.lit (.bl true))) (ev T (run T (n + 2)) (.call 12 (.cons (.var 2) (.cons (.var 3) .nil)))) (zips (sh.map fun c => D.str [c]) rest) [] h = .ok (sh.map fun _ => .bl true) h) := by
  have two : ∀ (w : List Nat) (a : D) (c : Nat), (∀ n h, callF T (run T (n + 2)) 12 [.str [c], a] h = .ok (.bl true) h) → ∀ n h, lcGo ⟨zips ([c].map fun c => D.str [c]) [a], none⟩ [some (.tup [.str w, a]), some (.str [c]), none, none] (.tp [2, 3]) (ev T (run T (n + 2)) (.lit (.bl true))) (ev T (run T (n + 2)) (.call 12 (.cons (.var 2) (.cons (.var 3) .nil)))) (zips ([c].map fun c => D.str [c]) [a]) [] h = .ok ([c].map fun _ => .bl true) h := by
    intro w a c hc n h
    show lcGo _ _ _ _ _ [.tup [.str [c], a]] [] h = _
    rw [lc_c rfl]
    have hb : (0 : Nat) < big := by decide
    simp -implicitDefEqProofs [tgt, getV, hc, lc2, lc_n, hb]
  have non : ∀ (w : List Nat) n h, lcGo ⟨zips (([] : List Nat).map fun c => D.str [c]) [], none⟩ [some (.tup [.str w]), some (.str []), none, none] (.tp [2, 3]) (ev T (run T (n + 2)) (.lit (.bl true))) (ev T (run T (n + 2)) (.call 12 (.cons (.var 2) (.cons (.var 3) .nil)))) (zips (([] : List Nat).map fun c => D.str [c]) []) [] h = .ok (([] : List Nat).map fun _ => .bl true) h := by
    intro w n h
    exact lc_n rfl
  cases m with
  | left k => exact ⟨_, _, _, rfl, (b.kn _).trans rfl, rfl, by decide, fun hm => two _ _ _ fun n h => part_n b.toBM n k hm h⟩
  | right k => exact ⟨_, _, _, rfl, (b.kn _).trans rfl, rfl, by decide, fun hm => two _ _ _ fun n h => part_n b.toBM n k hm h⟩
  | up k => exact ⟨_, _, _, rfl, (b.kn _).trans rfl, rfl, by decide, fun hm => two _ _ _ fun n h => part_n b.toBM n k hm h⟩
  | down k => exact ⟨_, _, _, rfl, (b.kn _).trans rfl, rfl, by decide, fun hm => two _ _ _ fun n h => part_n b.toBM n k hm h⟩
  | word k => exact ⟨_, _, _, rfl, (b.kn _).trans rfl, rfl, by decide, fun hm => two _ _ _ fun n h => part_n b.toBM n k hm h⟩
  | back k => exact ⟨_, _, _, rfl, (b.kn _).trans rfl, rfl, by decide, fun hm => two _ _ _ fun n h => part_n b.toBM n k hm h⟩
  | over k => exact ⟨_, _, _, rfl, (b.kn _).trans rfl, rfl, by decide, fun hm => two _ _ _ fun n h => part_n b.toBM n k hm h⟩
  | mBegin => exact ⟨_, _, _, rfl, (b.kn _).trans rfl, rfl, by decide, fun hm => non _⟩
  | mEnd => exact ⟨_, _, _, rfl, (b.kn _).trans rfl, rfl, by decide, fun hm => non _⟩
  | first => exact ⟨_, _, _, rfl, (b.kn _).trans rfl, rfl, by decide, fun hm => non _⟩
  | top => exact ⟨_, _, _, rfl, (b.kn _).trans rfl, rfl, by decide, fun hm => non _⟩
  | bottom => exact ⟨_, _, _, rfl, (b.kn _).trans rfl, rfl, by decide, fun hm => non _⟩
  | pair => exact ⟨_, _, _, rfl, (b.kn _).trans rfl, rfl, by decide, fun hm => non _⟩
  | again => exact ⟨_, _, _, rfl, (b.kn _).trans rfl, rfl, by decide, fun hm => non _⟩
  | before => exact ⟨_, _, _, rfl, (b.kn _).trans rfl, rfl, by decide, fun hm => non _⟩
  | row k => exact ⟨_, _, _, rfl, (b.kn _).trans rfl, rfl, by decide, fun hm => two _ _ _ fun n h => part_r b.toBM n k hm.1 hm.2 h⟩
  | mark c => exact ⟨_, _, _, rfl, (b.kn _).trans rfl, rfl, by decide, fun hm => two _ _ _ fun n h => part_m b.toBM n c hm h⟩
  | search w => exact ⟨_, _, _, rfl, (b.kn _).trans rfl, rfl, by decide, fun hm => two _ _ _ fun n h => part_t b.toBM n w hm.1 hm.2.1 hm.2.2 h⟩
  | find c k =>
    refine ⟨_, _, _, rfl, (b.kn _).trans rfl, rfl, by decide, fun hm n h => ?_⟩
    show lcGo _ _ _ _ _ [.tup [.str [115], .str [c]], .tup [.str [110], .int (k : Int)]] [] h = _
    have hb : (0 : Nat) < big := by decide
    have hb1 : (1 : Nat) < big := by decide
    have e1 := part_s b.toBM n c hm.1
    have e2 := part_n b.toBM n k hm.2
    rw [lc_c rfl]
    simp -implicitDefEqProofs [tgt, getV, e1, lc2, hb]
    rw [lc_c rfl]
    simp -implicitDefEqProofs [tgt, getV, e2, lc2, lc_n, hb1]
theorem c_is_motion (b : BK T) (n : Nat) (m : Mo) (hm : m.ok) (h : Hs) : callF T (run T (n + 3)) 13 [moD m] h = .ok (.bl true) h := by
  refine call_p b.f13 rfl (by simp [D.rls, moD_rl]) (h' := Hs.nil) ?_ rfl
  rw [run_s b.f13 rfl]
  obtain ⟨w, rest, sh, e0, e1, e2, e3, e4⟩ := kn_lookup b m
  have e4 := e4 hm n Hs.nil
  rw [e0]
  have i0 : ati (.str w :: rest) (0 : Int) = some (.str w) := by
    have := ati_nat (.str w :: rest) 0
    simpa using this
  have a1 := len_tup (h := Hs.nil) (.str w :: rest)
  rw [List.length_cons, e2] at a1
  have a2 := len_str (h := Hs.nil) sh (Nat.le_trans e3 (by decide))
  have a3 := slice1 (h := Hs.nil) (.str w) rest
  have a4 := zip_str (h := Hs.nil) sh rest
  have a5 := all_b (h := Hs.nil) (sh.map fun _ => true) (by simp)
  rw [List.map_map] at a5
  have a6 : (D.bl ∘ fun _ : Nat => true) = fun _ => D.bl true := rfl
  rw [a6] at a5
  have q : ¬ ((sh.length : Int) + 1 = 0) := by omega
  simp only [Int.natCast_add, Int.cast_ofNat_Int] at a1
  simp -implicitDefEqProofs [i_is_motion, env0, getV, isi, a1, cmp, q, subs, items, i0, kind, e1, kgetd, a2, a3, a4, e4, unl, a5, outD]
theorem c_need_motion (b : BG T) (n : Nat) (m : Mo) (hm : m.ok) (h : Hs) : callF T (run T (n + 4)) 23 [moD m] h = .ok .non h := by
  refine call_p b.f23 rfl (by simp [D.rls, moD_rl]) (h' := Hs.nil) ?_ rfl
  rw [run_s b.f23 rfl]
  have e1 := c_is_motion b.toBK n m hm
  simp -implicitDefEqProofs [i_need_motion, env0, getV, e1, outD]
theorem c_need_place (b : B1 T) (n : Nat) (t : List Nat) (p : Nat) (hl : t.length ≤ 200) (ht : isText t) (hp : p ≤ t.length) (h : Hs) : callF T (run T (n + 4)) 4 [.str t, .int (p : Int)] h = .ok .non h :=
  call_p b.f4 rfl rfl (r_need_place (h := Hs.nil) b n t (p : Int) hl ht (by omega) (by omega)) rfl
/-- where the motion m leads from p in t -/
def goesN (t : List Nat) (p : Nat) (m : Mo) : Option Nat := placeBy t p m (p - bk t p) (fun _ => none) none
theorem c_goes (b : BG T) (n : Nat) (t : List Nat) (p : Nat) (m : Mo) (hl : t.length ≤ 200) (ht : isText t) (hp : p ≤ t.length) (hm : m.ok) (h : Hs) :
    callF T (run T (n + 6)) 24 [.str t, .int (p : Int), moD m] h = .ok (oN (goesN t p m)) h := by
  refine call_p b.f24 rfl (by simp [D.rls, moD_rl, D.rl]) (h' := Hs.nil.new (.dct [])) ?_ (oN_rl _)
  rw [run_s b.f24 rfl]
  have e1 := c_need_place b.toB1 (n + 1) t p hl ht hp
  have e2 := c_need_motion b (n + 1) m hm
  have e3 := c_bk b.toB1 (n + 4) t p
  have q : (p : Int) - (bk t p : Int) = ((p - bk t p : Nat) : Int) := by have := bk_le t p; omega
  have e5 : dctd [] [] Hs.nil = .ok (.ref Hs.nil.n) (Hs.nil.new (.dct [])) := rfl
  have e4 : callF T (run T (n + 5)) 22 [.str t, .int (p : Int), moD m, .int ((p - bk t p : Nat) : Int), .ref Hs.nil.n, .non] (Hs.nil.new (.dct [])) = .ok (oN (goesN t p m)) (Hs.nil.new (.dct [])) := by
    rw [call_i b.f22 rfl]
    exact r_place_by b.toBK (n + 1) t p m (p - bk t p) (.ref Hs.nil.n) (fun _ => none) none (by omega) hp hm (fun _ e => nomatch e) (mk_nil _)
  simp -implicitDefEqProofs [i_goes, env0, getV, e1, e2, e3, q, e4, e5, outD]
end
end Ed

/-! part L1 -/
set_option maxRecDepth 100000
set_option maxHeartbeats 4000000
/-! The law's own words. -/
namespace Ed
open Ev
structure LW (T : Tbl) : Prop where
  f35 : T.fn 35 = some i_law_is_word
  f39 : T.fn 39 = some i_law_ends
section
variable {T : Tbl} {h : Hs}
theorem isWd_rng (c : Nat) : isWd c = ((decide (97 ≤ c) && decide (c ≤ 122)) || ((decide (65 ≤ c) && decide (c ≤ 90)) || (decide (48 ≤ c) && decide (c ≤ 57)))) := by
  by_cases hc : c < 128
  · have : ∀ c < 128, isWd c = ((decide (97 ≤ c) && decide (c ≤ 122)) || ((decide (65 ≤ c) && decide (c ≤ 90)) || (decide (48 ≤ c) && decide (c ≤ 57)))) := by decide +kernel
    exact this c hc
  · have h1 : isWd c = false := by
      refine decide_eq_false fun hm => hc ?_
      have : ∀ x ∈ cWORD, x < 128 := by decide +kernel
      exact this c hm
    rw [h1]
    have a1 : ¬ (c ≤ 122) := by omega
    have a2 : ¬ (c ≤ 90) := by omega
    have a3 : ¬ (c ≤ 57) := by omega
    simp [a1, a2, a3]
theorem le_sign (a b : Nat) : cmp .le (.str [a]) (.str [b]) h = .ok (decide (a ≤ b)) h := by
  simp only [cmp]
  congr 1
  by_cases hab : a ≤ b
  · rw [decide_eq_true hab]
    have : ¬ ([b] < [a]) := by
      intro hh
      rw [List.cons_lt_cons_iff] at hh
      rcases hh with hh | hh
      · omega
      · exact List.not_lt_nil _ hh.2
    rw [decide_eq_false this]
    rfl
  · rw [decide_eq_false hab]
    have : [b] < [a] := List.cons_lt_cons_iff.mpr (.inl (by omega))
    rw [decide_eq_true this]
    rfl
theorem c_is_word (b : LW T) (n : Nat) (c : Nat) (h : Hs) : callF T (run T (n + 1)) 35 [.str [c]] h = .ok (.bl (isWd c)) h := by
  refine call_p b.f35 rfl rfl (h' := Hs.nil) ?_ rfl
  rw [run_s b.f35 rfl, isWd_rng]
  by_cases h1 : 97 ≤ c <;> by_cases h2 : c ≤ 122 <;> by_cases h3 : 65 ≤ c <;> by_cases h4 : c ≤ 90 <;> by_cases h5 : 48 ≤ c <;> by_cases h6 : c ≤ 57 <;>
    simp -implicitDefEqProofs [i_law_is_word, env0, getV, le_sign, h1, h2, h3, h4, h5, h6, outD]
def flg (t : List Nat) : List Bool := false :: (t.map isWd ++ [false])
def bD (l : List Bool) : List D := l.map D.bl
theorem flg_len (t : List Nat) : (flg t).length = t.length + 2 := by simp [flg]
theorem flg_s (t : List Nat) (i : Nat) (hi : i ≤ t.length) : (flg t)[i + 1]? = some (wdAt t i) := by
  unfold flg
  rw [List.getElem?_cons_succ]
  by_cases h : i < t.length
  · rw [List.getElem?_append_left (by simpa using h), List.getElem?_map, sg_at t i h, wdAt_lt t i h]
    rfl
  · have : i = t.length := by omega
    subst this
    rw [List.getElem?_append_right (by simp), wdAt_ge t _ (Nat.le_refl _)]
    simp
theorem flg_0 (t : List Nat) : (flg t)[0]? = some false := rfl
theorem bin_lst (a b : List D) (hl : a.length + b.length ≤ big) : bin .add (.lst a) (.lst b) h = .ok (.lst (a ++ b)) h := by
  simp only [bin, decide_eq_true hl, okIf]
theorem subs_flg (t : List Nat) (i : Nat) (hi : i ≤ t.length) : subs (.lst (bD (flg t))) (.int ((i : Int) + 1)) h = .ok (.bl (wdAt t i)) h := by
  have q : (i : Int) + 1 = ((i + 1 : Nat) : Int) := by omega
  simp only [subs, items, q, ati_nat, bD, List.getElem?_map, flg_s t i hi, Option.map_some, ofO_s]
theorem subs_flg0 (t : List Nat) : subs (.lst (bD (flg t))) (.int 0) h = .ok (.bl false) h := by
  have := ati_nat (bD (flg t)) 0
  simp only [Int.cast_ofNat_Int] at this
  simp only [subs, items, this]
  simp only [bD, List.getElem?_map, flg_0, Option.map_some, ofO_s]
theorem subs_flgm (t : List Nat) (i : Nat) (hi : i ≤ t.length) : subs (.lst (bD (flg t))) (.int (i : Int)) h = .ok (.bl (!(decide (i = 0) || !wdAt t (i - 1)))) h := by
  cases i with
  | zero => exact subs_flg0 t
  | succ j =>
    have := subs_flg (h := h) t j (by omega)
    have q : ((j : Int) + 1) = ((j + 1 : Nat) : Int) := by omega
    rw [q] at this
    rw [this]
    simp
theorem lc_signs {w : Wk} {v : Env} {t : Tg} {c e : Env → Hs → R D} (g : D → Env) (f : Nat → D) (hw : w.on = none) (xs : List Nat) (h : Hs) (h1 : ∀ x ∈ xs, tgt t (.str [x]) v h = .ok (g (.str [x])) h) (h2 : ∀ x ∈ xs, c (g (.str [x])) h = .ok (.bl true) h) (h3 : ∀ x ∈ xs, e (g (.str [x])) h = .ok (f x) h) (hl : xs.length ≤ big) :
    lcGo w v t c e (xs.map fun c => .str [c]) [] h = .ok (xs.map f) h := by
  have H := lc_all (g := g) (p := fun _ => true) (f := fun d => match d with | .str [x] => f x | _ => .non) hw (c := c) (e := e) (t := t) (v := v) (xs.map fun c => .str [c]) [] h ?_ ?_ ?_ (by simpa using hl)
  · rw [H, List.nil_append, List.filter_eq_self.mpr (fun _ _ => rfl), List.map_map]
    rfl
  · intro x hx
    obtain ⟨k, hk, rfl⟩ := List.mem_map.mp hx
    exact h1 k hk
  · intro x hx
    obtain ⟨k, hk, rfl⟩ := List.mem_map.mp hx
    exact h2 k hk
  · intro x hx
    obtain ⟨k, hk, rfl⟩ := List.mem_map.mp hx
    intro _
    exact h3 k hk
def enS (m : Mo) (k : Nat) (t : List Nat) (p : Nat) : Prop := m = .word k ∨ m = .back k ∨ m = .over k
theorem we_eq (t : List Nat) : ((List.range t.length).map (1 + ·)).filter (fun i => wdAt t (i - 1) && !wdAt t i) = we t := by
  unfold we
  rw [List.filter_map]
  have : ((fun i => wdAt t (i - 1) && !wdAt t i) ∘ fun x => 1 + x) = weP t := by
    funext i
    show (wdAt t (1 + i - 1) && !wdAt t (1 + i)) = (wdAt t i && !wdAt t (i + 1))
    rw [show 1 + i - 1 = i by omega, Nat.add_comm 1 i]
  rw [this]
  apply List.map_congr_left
  intro i _
  omega
theorem nth_ife {v : Env} {cl : Calls} (xs : List Nat) (k : Nat) (hk : 1 ≤ k) (hl : xs.length ≤ big) : (if (k : Int) ≤ (xs.length : Int) then subs (.lst (nD xs)) (.int ((k : Int) - 1)) h else .ok .non h) = .ok (oN xs[k - 1]?) h := by
  by_cases hc : k ≤ xs.length
  · rw [if_pos (by omega), show (k : Int) - 1 = ((k - 1 : Nat) : Int) by omega, subs_nD xs (k - 1) (by omega)]
  · rw [if_neg (by omega), List.getElem?_eq_none (by omega)]
    rfl
theorem rev_lst (xs : List Nat) : revd (.lst (nD xs)) h = .ok (.lst (nD xs.reverse)) h := by
  simp only [revd, lsts, nD, List.map_reverse]
theorem r_ends (b : LW T) (n : Nat) (t : List Nat) (p : Nat) (m : Mo) (k : Nat) (hk : 1 ≤ k) (hl : t.length ≤ 10000) (hm : m = .word k ∨ m = .back k ∨ m = .over k) :
    run T (n + 2) 39 [.str t, moD m, .int (p : Int)] h = .ok (oN (goesN t p m)) h := by
  have hb : t.length ≤ big := Nat.le_trans hl (by decide)
  have hbig : big = 16777216 := rfl
  have e0 := fun h => len_str (h := h) t hb
  have e1 : ∀ v3 v5 v6 v7 v8 h, lcGo ⟨t.map fun c => D.str [c], none⟩ [some (.str t), some (moD m), some (.int (p : Int)), v3, none, v5, v6, v7, v8] (.nm 4) (ev T (run T (n + 1)) (.lit (.bl true))) (ev T (run T (n + 1)) (.call 35 (.cons (.var 4) .nil))) (t.map fun c => D.str [c]) [] h = .ok (t.map fun c => .bl (isWd c)) h := by
    intro v3 v5 v6 v7 v8 h
    refine lc_signs (fun x => [some (.str t), some (moD m), some (.int (p : Int)), v3, some x, v5, v6, v7, v8]) _ rfl t h (fun x _ => rfl) (fun x _ => rfl) (fun x _ => ?_) hb
    have := c_is_word b n x
    simp -implicitDefEqProofs [getV, this]
  have e2 : ∀ h, bin .add (.lst [.bl false]) (.lst (t.map fun c => .bl (isWd c))) h = .ok (.lst (.bl false :: t.map fun c => .bl (isWd c))) h := fun h => by
    rw [bin_lst _ _ (by simp; omega)]
    rfl
  have e3 : ∀ h, bin .add (.lst (.bl false :: t.map fun c => .bl (isWd c))) (.lst [.bl false]) h = .ok (.lst (bD (flg t))) h := fun h => by
    rw [bin_lst _ _ (by simp; omega)]
    simp [bD, flg]
  have er : okRange (t.length : Int) = true := okRange_t (by omega) (by omega)
  have er1 : okRange ((t.length : Int) + 1) = true := okRange_t (by omega) (by omega)
  have er2 : okRange 1 = true := okRange_t (by omega) (by omega)
  have e4 : ∀ h, lcGo ⟨range 0 t.length, none⟩ [some (.str t), some (moD m), some (.int (p : Int)), some (.lst (bD (flg t))), none, none, none, none, none] (.nm 6) (ev T (run T (n + 1)) (.and (.sub (.var 3) (.bin .add (.var 6) (.lit (.int 1)))) (.not (.sub (.var 3) (.var 6))))) (ev T (run T (n + 1)) (.var 6)) (range 0 t.length) [] h = .ok (nD (wb t)) h := by
    intro h
    rw [range_nD0]
    refine (lc_nat (fun x => [some (.str t), some (moD m), some (.int (p : Int)), some (.lst (bD (flg t))), none, none, some x, none, none]) (wbP t) (fun i => .int (i : Int)) rfl _ h (fun x _ => rfl) (fun x hx => ?_) (fun x _ _ => rfl) (by simpa using hb)).trans rfl
    have hx := List.mem_range.mp hx
    have q1 := fun h => subs_flg (h := h) t x (by omega)
    have q2 := fun h => subs_flgm (h := h) t x (by omega)
    unfold wbP
    cases hw : wdAt t x with
    | false => rw [hw] at q1; simp -implicitDefEqProofs [getV, q1]
    | true => rw [hw] at q1; simp -implicitDefEqProofs [getV, q1, q2]
  have hr : range 1 ((t.length : Int) + 1 - 1).toNat = nD ((List.range t.length).map (1 + ·)) := by
    have := range_nD 1 t.length
    rw [show ((t.length : Int) + 1 - 1).toNat = t.length by omega]
    exact this
  have hr' : range 1 t.length = nD ((List.range t.length).map (1 + ·)) := range_nD 1 t.length
  have e5 : ∀ h, lcGo ⟨range 1 t.length, none⟩ [some (.str t), some (moD m), some (.int (p : Int)), some (.lst (bD (flg t))), none, some (.lst (nD (wb t))), none, none, none] (.nm 6) (ev T (run T (n + 1)) (.and (.sub (.var 3) (.var 6)) (.not (.sub (.var 3) (.bin .add (.var 6) (.lit (.int 1))))))) (ev T (run T (n + 1)) (.var 6)) (range 1 t.length) [] h = .ok (nD (we t)) h := by
    intro h
    rw [hr', ← we_eq t]
    refine (lc_nat (fun x => [some (.str t), some (moD m), some (.int (p : Int)), some (.lst (bD (flg t))), none, some (.lst (nD (wb t))), some x, none, none]) (fun i => wdAt t (i - 1) && !wdAt t i) (fun i => .int (i : Int)) rfl _ h (fun x _ => rfl) (fun x hx => ?_) (fun x _ _ => rfl) (by simpa using hb)).trans rfl
    obtain ⟨j, hj, rfl⟩ := List.mem_map.mp hx
    have hj := List.mem_range.mp hj
    have q1 := fun h => subs_flg (h := h) t j (by omega)
    have q2 := fun h => subs_flg (h := h) t (j + 1) (by omega)
    have a1 : ((1 + j : Nat) : Int) = (j : Int) + 1 := by omega
    have a2 : ((j + 1 : Nat) : Int) = (j : Int) + 1 := by omega
    rw [a2] at q2
    rw [a1, show 1 + j - 1 = j by omega, Nat.add_comm 1 j]
    cases hw : wdAt t j with
    | false => rw [hw] at q1; simp -implicitDefEqProofs [getV, q1]
    | true => rw [hw] at q1; simp -implicitDefEqProofs [getV, q1, q2]
  have hwb := wb_len t
  have hwe := we_len t
  have e6 : ∀ (v4 v5 v6 v7 : Option D) (xs : List Nat) h, xs.length ≤ big → lcGo ⟨nD xs, none⟩ [some (.str t), some (moD m), some (.int (p : Int)), some (.lst (bD (flg t))), v4, v5, v6, v7, some (.lst (nD xs))] (.nm 6) (ev T (run T (n + 1)) (.cmp .lt (.var 6) (.var 2))) (ev T (run T (n + 1)) (.var 6)) (nD xs) [] h = .ok (nD (xs.filter fun i => decide (i < p))) h := by
    intro v4 v5 v6 v7 xs h hx
    refine (lc_nat (fun x => [some (.str t), some (moD m), some (.int (p : Int)), some (.lst (bD (flg t))), v4, v5, some x, v7, some (.lst (nD xs))]) (fun i => decide (i < p)) (fun i => .int (i : Int)) rfl xs h (fun x _ => rfl) (fun x _ => ?_) (fun x _ _ => rfl) hx).trans rfl
    simp [getV, cmp]
  have e7 : ∀ (v4 v5 v6 v7 : Option D) (xs : List Nat) h, xs.length ≤ big → lcGo ⟨nD xs, none⟩ [some (.str t), some (moD m), some (.int (p : Int)), some (.lst (bD (flg t))), v4, v5, v6, v7, some (.lst (nD xs))] (.nm 6) (ev T (run T (n + 1)) (.cmp .gt (.var 6) (.var 2))) (ev T (run T (n + 1)) (.var 6)) (nD xs) [] h = .ok (nD (xs.filter fun i => decide (p < i))) h := by
    intro v4 v5 v6 v7 xs h hx
    refine (lc_nat (fun x => [some (.str t), some (moD m), some (.int (p : Int)), some (.lst (bD (flg t))), v4, v5, some x, v7, some (.lst (nD xs))]) (fun i => decide (p < i)) (fun i => .int (i : Int)) rfl xs h (fun x _ => rfl) (fun x _ => ?_) (fun x _ _ => rfl) hx).trans rfl
    simp [getV, cmp]
  rw [run_s b.f39 rfl]
  have fin : ∀ (xs : List Nat) (h : Hs), xs.length ≤ big → ∀ (cl : Calls) v, (((ife2 T cl (.sub (.var 8) (.bin .sub (.sub (.var 1) (.lit (.int 1))) (.lit (.int 1)))) (.lit .non) v (decide ((k : Int) ≤ (xs.length : Int))) h))) = if (k : Int) ≤ (xs.length : Int) then ev T cl (.sub (.var 8) (.bin .sub (.sub (.var 1) (.lit (.int 1))) (.lit (.int 1)))) v h else .ok .non h := by
    intro xs h _ cl v
    by_cases hc : (k : Int) ≤ (xs.length : Int)
    · rw [decide_eq_true hc, if_pos hc]; rfl
    · rw [decide_eq_false hc, if_neg hc]; rfl
  rcases hm with rfl | rfl | rfl
  · have f1 := e7 none (some (.lst (nD (wb t)))) none (some (.lst (nD (we t)))) (wb t)
    have f2 := fun h => len_lst (h := h) (nD ((wb t).filter fun i => decide (p < i)))
    rw [nD_len] at f2
    have f3 := fun h => nth_ife (h := h) (v := []) (cl := run T n) ((wb t).filter fun i => decide (p < i)) k hk (filter_len_le (by omega))
    have f4 : goesN t p (.word k) = ((wb t).filter fun i => decide (p < i))[k - 1]? := rfl
    have hx : (wb t).length ≤ big := by omega
    simp only [moD] at e1 e4 e5 f1
    rw [f4]
    by_cases hc : (k : Int) ≤ (((wb t).filter fun i => decide (p < i)).length : Int)
    · simp only [if_pos hc] at f3
      simp -implicitDefEqProofs [i_law_ends, env0, getV, itv, seqw, seqd, e1, unl, e2, e3, e0, er, e4, er1, er2, e5, moD, subs_nD, ati0, ati1, subs, items, cmp, f1, hx, f2, hc]
      simp -implicitDefEqProofs [subs, items] at f3
      simp -implicitDefEqProofs [f3, outD]
    · simp only [if_neg hc] at f3
      have f3' := f3 Hs.nil
      simp only [R.ok.injEq, and_true] at f3'
      simp -implicitDefEqProofs [i_law_ends, env0, getV, itv, seqw, seqd, e1, unl, e2, e3, e0, er, e4, er1, er2, e5, moD, ati0, ati1, subs, items, cmp, f1, hx, f2, hc, outD, ← f3']
  · have f1 := e6 none (some (.lst (nD (wb t)))) none (some (.lst (nD (we t)))) (wb t)
    have f2 := fun h => len_lst (h := h) (nD ((wb t).filter fun i => decide (i < p)).reverse)
    rw [nD_len] at f2
    have f3 := fun h => nth_ife (h := h) (v := []) (cl := run T n) ((wb t).filter fun i => decide (i < p)).reverse k hk (by rw [List.length_reverse]; exact filter_len_le (by omega))
    have f4 : goesN t p (.back k) = ((wb t).filter fun i => decide (i < p)).reverse[k - 1]? := rfl
    have f5 := fun h => rev_lst (h := h) ((wb t).filter fun i => decide (i < p))
    have hx : (wb t).length ≤ big := by omega
    simp only [moD] at e1 e4 e5 f1
    rw [f4]
    generalize ((wb t).filter fun i => decide (i < p)).reverse = zs at *
    by_cases hc : (k : Int) ≤ (zs.length : Int)
    · simp only [if_pos hc] at f3
      simp -implicitDefEqProofs [i_law_ends, env0, getV, itv, seqw, seqd, e1, unl, e2, e3, e0, er, e4, er1, er2, e5, moD, ati0, ati1, subs, items, cmp, f1, hx, f5, f2, hc]
      simp -implicitDefEqProofs [subs, items] at f3
      simp -implicitDefEqProofs [f3, outD]
    · simp only [if_neg hc] at f3
      have f3' := f3 Hs.nil
      simp only [R.ok.injEq, and_true] at f3'
      simp -implicitDefEqProofs [i_law_ends, env0, getV, itv, seqw, seqd, e1, unl, e2, e3, e0, er, e4, er1, er2, e5, moD, ati0, ati1, subs, items, cmp, f1, hx, f5, f2, hc, outD, ← f3']
  · have f1 := e7 none (some (.lst (nD (wb t)))) none (some (.lst (nD (we t)))) (we t)
    have f2 := fun h => len_lst (h := h) (nD ((we t).filter fun i => decide (p < i)))
    rw [nD_len] at f2
    have f3 := fun h => nth_ife (h := h) (v := []) (cl := run T n) ((we t).filter fun i => decide (p < i)) k hk (filter_len_le (by omega))
    have f4 : goesN t p (.over k) = ((we t).filter fun i => decide (p < i))[k - 1]? := rfl
    have hx : (we t).length ≤ big := by omega
    simp only [moD] at e1 e4 e5 f1
    rw [f4]
    generalize ((we t).filter fun i => decide (p < i)) = zs at *
    by_cases hc : (k : Int) ≤ (zs.length : Int)
    · simp only [if_pos hc] at f3
      simp -implicitDefEqProofs [i_law_ends, env0, getV, itv, seqw, seqd, e1, unl, e2, e3, e0, er, e4, er1, er2, e5, moD, ati0, ati1, subs, items, cmp, f1, hx, f2, hc]
      simp -implicitDefEqProofs [subs, items] at f3
      simp -implicitDefEqProofs [f3, outD]
    · simp only [if_neg hc] at f3
      have f3' := f3 Hs.nil
      simp only [R.ok.injEq, and_true] at f3'
      simp -implicitDefEqProofs [i_law_ends, env0, getV, itv, seqw, seqd, e1, unl, e2, e3, e0, er, e4, er1, er2, e5, moD, ati0, ati1, subs, items, cmp, f1, hx, f2, hc, outD, ← f3']
end
end Ed

/-! part Mth2 -/
set_option maxRecDepth 100000
set_option maxHeartbeats 4000000
/-! The row of a place. -/
namespace Ed
open Ev
theorem rfind1_ge : ∀ (l : List Nat) (i : Nat) (o : Option Nat), aft o ≤ i → aft o ≤ aft (rfind1 10 l i o)
  | [], _, _, _ => Nat.le_refl _
  | c :: l, i, o, h => by
    unfold rfind1
    by_cases hc : c = 10
    · rw [if_pos hc]
      have := rfind1_ge l (i + 1) (some i) (Nat.le_refl _)
      have e : aft (some i) = i + 1 := rfl
      omega
    · rw [if_neg hc]
      exact rfind1_ge l (i + 1) o (by omega)
theorem nl_free : ∀ (l : List Nat) (i : Nat) (o : Option Nat) (j : Nat), aft o ≤ i → l[j]? = some 10 → i + j + 1 ≤ aft (rfind1 10 l i o)
  | [], _, _, _, _, h => nomatch h
  | c :: l, i, o, 0, ho, h => by
    have hc : c = 10 := by simpa using h
    unfold rfind1
    rw [if_pos hc]
    exact rfind1_ge l (i + 1) (some i) (Nat.le_refl _)
  | c :: l, i, o, j + 1, ho, h => by
    rw [List.getElem?_cons_succ] at h
    unfold rfind1
    have := nl_free l (i + 1) (if c = 10 then some i else o) j (by
      split
      · exact Nat.le_refl _
      · omega) h
    omega
theorem beg_row : ∀ (u : List Nat) (p i : Nat) (o : Option Nat), (aft o :: begA i u)[(u.take p).count 10]? = some (aft (rfind1 10 (u.take p) i o))
  | [], p, i, o => by
    rw [List.take_nil]
    rfl
  | c :: u, 0, i, o => rfl
  | c :: u, p + 1, i, o => by
    rw [List.take_succ_cons]
    unfold rfind1 begA
    by_cases hc : c = 10
    · rw [if_pos hc, if_pos hc, hc, List.count_cons_self, List.getElem?_cons_succ]
      exact beg_row u p (i + 1) (some i)
    · rw [if_neg hc, if_neg hc, List.count_cons_of_ne hc]
      exact beg_row u p (i + 1) o
theorem bk_row (t : List Nat) (p : Nat) : (bgs t)[rowN t p]? = some (bk t p) := beg_row t p 0 none
theorem fw_bk (t : List Nat) (p : Nat) (hp : p ≤ t.length) : fw t p = fw t (bk t p) := by
  have hb := bk_le t p
  have e : t.drop (bk t p) = ((t.drop (bk t p)).take (p - bk t p)) ++ t.drop p := by
    have h2 : (t.drop (bk t p)).drop (p - bk t p) = t.drop p := by rw [List.drop_drop]; congr 1; omega
    rw [← h2, List.take_append_drop]
  have hl : ((t.drop (bk t p)).take (p - bk t p)).length = p - bk t p := by rw [List.length_take, List.length_drop]; omega
  have hn : ∀ c ∈ (t.drop (bk t p)).take (p - bk t p), c ≠ 10 := by
    intro c hc h10
    subst h10
    obtain ⟨j, hj, ej⟩ := List.getElem_of_mem hc
    rw [hl] at hj
    have e1 : t[bk t p + j]? = some 10 := by
      have := List.getElem?_eq_getElem (l := (t.drop (bk t p)).take (p - bk t p)) (i := j) (by omega)
      rw [ej, List.getElem?_take, if_pos hj, List.getElem?_drop] at this
      exact this
    have e2 : (t.take p)[bk t p + j]? = some 10 := by
      rw [List.getElem?_take, if_pos (by omega)]
      exact e1
    have := nl_free (t.take p) 0 none _ (Nat.le_refl _) e2
    have e3 : aft (rfind1 10 (t.take p) 0 none) = bk t p := rfl
    omega
  unfold fw
  rw [e, find_skip _ _ _ hn, hl, show bk t p + (p - bk t p) = p by omega]
theorem split_txt : ∀ (u acc : List Nat) (j : Nat) (r : List Nat), (split1 10 u acc)[j]? = some r → ((acc ++ u).drop (lens ((split1 10 u acc).take j))).take r.length = r
  | [], acc, 0, r, hr => by
    unfold split1 at hr
    simp at hr
    subst hr
    simp [lens]
  | [], acc, j + 1, r, hr => by
    unfold split1 at hr
    simp at hr
  | c :: u, acc, j, r, hr => by
    unfold split1 at hr ⊢
    by_cases hc : c = 10
    · rw [if_pos hc] at hr ⊢
      cases j with
      | zero =>
        simp at hr
        subst hr
        simp [lens]
      | succ j =>
        rw [List.getElem?_cons_succ] at hr
        have ih := split_txt u [] j r hr
        rw [List.take_succ_cons, lens_c]
        have e1 : (acc ++ c :: u).drop (acc.length + 1 + lens ((split1 10 u []).take j)) = ([] ++ u).drop (lens ((split1 10 u []).take j)) := by
          rw [← List.drop_drop, List.nil_append]
          congr 1
          rw [show acc ++ c :: u = (acc ++ [c]) ++ u by simp, show acc.length + 1 = (acc ++ [c]).length by simp]
          exact List.drop_left
        rw [e1]
        exact ih
    · rw [if_neg hc] at hr ⊢
      have ih := split_txt u (acc ++ [c]) j r hr
      rw [show acc ++ c :: u = acc ++ [c] ++ u by simp]
      exact ih
theorem rowN_lt (t : List Nat) (p : Nat) : rowN t p < (rows t).length := by
  rw [← bgs_len]
  exact (List.getElem?_eq_some_iff.mp (bk_row t p)).1
/-- the row of a place -/
def rowT (t : List Nat) (p : Nat) : List Nat := (t.drop (bk t p)).take (fw t p - bk t p)
theorem row_at (t : List Nat) (p : Nat) (hp : p ≤ t.length) : (rows t)[rowN t p]? = some (rowT t p) ∧ lens ((rows t).take (rowN t p)) = bk t p ∧ fw t p = bk t p + (rowT t p).length := by
  have hlt := rowN_lt t p
  obtain ⟨r, hr⟩ : ∃ r, (rows t)[rowN t p]? = some r := ⟨_, List.getElem?_eq_getElem hlt⟩
  have h1 := bgs_at t (rowN t p) hlt
  rw [bk_row] at h1
  have h2 : bk t p = lens ((rows t).take (rowN t p)) := Option.some.inj h1
  have h3 := fwd_at t (rowN t p) r hr
  rw [← h2, fwd_fw, ← fw_bk t p hp] at h3
  have h4 := split_txt t [] (rowN t p) r hr
  have e : split1 10 t [] = rows t := rfl
  rw [e, ← h2, List.nil_append] at h4
  have h5 : rowT t p = r := by
    unfold rowT
    rw [show fw t p - bk t p = r.length by omega]
    exact h4
  rw [h5]
  exact ⟨hr, h2.symm, by omega⟩
theorem sp_rowN (t : List Nat) (p : Nat) (hp : p ≤ t.length) : (sp t (p : Int)).1 = rowN t p := by rw [sp_row, rowOf_N t p hp]
theorem sp_colN (t : List Nat) (p : Nat) (hp : p ≤ t.length) : (sp t (p : Int)).2 = p - bk t p := by
  have h := sp_col t (p : Int) (by omega) (by omega)
  rw [Int.toNat_natCast, bck_bk] at h
  omega
theorem lead32 : ∀ r : List Nat, ((List.range r.length).filter fun i => decide (r.take (i + 1) = List.replicate (i + 1) 32)).length = (r.takeWhile fun c => decide (c = 32)).length
  | [] => rfl
  | c :: r => by
    rw [List.length_cons, List.range_succ_eq_map, List.filter_cons, List.filter_map, List.takeWhile_cons]
    by_cases hc : c = 32
    · subst hc
      have e : ((fun i => decide ((32 :: r).take (i + 1) = List.replicate (i + 1) 32)) ∘ Nat.succ) = fun i => decide (r.take (i + 1) = List.replicate (i + 1) 32) := by
        funext i
        show decide ((32 :: r).take (i + 1 + 1) = List.replicate (i + 1 + 1) 32) = _
        rw [List.take_succ_cons, List.replicate_succ]
        simp
      rw [e]
      simp [lead32 r]
    · have e : ((fun i => decide ((c :: r).take (i + 1) = List.replicate (i + 1) 32)) ∘ Nat.succ) = fun _ => false := by
        funext i
        show decide ((c :: r).take (i + 1 + 1) = List.replicate (i + 1 + 1) 32) = _
        rw [List.take_succ_cons, List.replicate_succ]
        simp [hc]
      rw [e]
      simp [hc]
end Ed

/-! part L2 -/
set_option maxRecDepth 100000
set_option maxHeartbeats 4000000
/-! The law's own goes is the program's. -/
namespace Ed
open Ev
structure LG (T : Tbl) : Prop extends LW T, B4 T
section
variable {T : Tbl} {h : Hs}
theorem big_v : big = 16777216 := rfl
/-- the run of the law's goes ends in d, with at most one more object -/
def Ret (x : R D) (h : Hs) (d : D) : Prop := ∃ h', x = .ok d h' ∧ (h' = h ∨ ∃ o, h' = h.new o)
theorem Ret.of {x : R D} {h : Hs} {d : D} (e : x = .ok d h) : Ret x h d := ⟨h, e, .inl rfl⟩
theorem lg_left (b : LG T) (n : Nat) (t : List Nat) (p k : Nat) (mk : D) (hl : t.length ≤ 10000) (hp : p ≤ t.length) (hk : 1 ≤ k) : run T (n + 2) 40 [.str t, .int (p : Int), moD (.left k), .non, mk, .non] h = .ok (oN (goesN t p (.left k))) h := by
  refine (g_left b.toB4 n t (p : Int) (k : Int) mk (by rw [big_v]; omega)).trans ?_
  have e : goesN t p (.left k) = if 0 < p then some (p - k) else none := rfl
  rw [e]
  dsimp only
  have q : (if (p : Int) + (k : Int) * -1 < (t.length : Int) then (p : Int) + (k : Int) * -1 else (t.length : Int)) = (p : Int) - k := by split <;> omega
  rw [q]
  congr 1
  by_cases h0 : 0 < p
  · rw [if_pos h0]
    by_cases h1 : 0 < (p : Int) - k
    · rw [if_pos h1, if_pos (by omega)]
      show D.int _ = D.int ((p - k : Nat) : Int)
      congr 1
      omega
    · rw [if_neg h1, if_pos (by omega)]
      show D.int _ = D.int ((p - k : Nat) : Int)
      congr 1
      omega
  · rw [if_neg h0, if_neg (c := 0 < (p : Int) - k) (by omega), if_neg (by omega)]
    rfl
theorem lg_right (b : LG T) (n : Nat) (t : List Nat) (p k : Nat) (mk : D) (hl : t.length ≤ 10000) (hp : p ≤ t.length) (hk : 1 ≤ k) : run T (n + 2) 40 [.str t, .int (p : Int), moD (.right k), .non, mk, .non] h = .ok (oN (goesN t p (.right k))) h := by
  refine (g_right b.toB4 n t (p : Int) (k : Int) mk (by rw [big_v]; omega)).trans ?_
  have e : goesN t p (.right k) = if p < t.length then some (min t.length (p + k)) else none := rfl
  rw [e]
  dsimp only
  have q : (if (p : Int) + (k : Int) < (t.length : Int) then (p : Int) + (k : Int) else (t.length : Int)) = ((min t.length (p + k) : Nat) : Int) := by split <;> omega
  rw [q]
  congr 1
  by_cases h0 : p < t.length
  · rw [if_pos h0, if_pos (c := (0 : Int) < _) (by omega), if_pos (by omega)]
    rfl
  · rw [if_neg h0]
    by_cases h1 : (0 : Int) < ((min t.length (p + k) : Nat) : Int)
    · rw [if_pos h1, if_neg (by omega)]
      rfl
    · rw [if_neg h1, if_neg (by omega)]
      rfl
theorem toRow_some (t : List Nat) (j col : Nat) (r : List Nat) (hr : (rows t)[j]? = some r) : toRow t (j : Int) col = some (lens ((rows t).take j) + min col r.length) := by
  have hj := (List.getElem?_eq_some_iff.mp hr).1
  have h1 := bgs_at t j hj
  have h2 := fwd_at t j r hr
  rw [fwd_fw] at h2
  unfold toRow
  rw [if_pos (by omega), Int.toNat_natCast, h1, Option.map_some]
  congr 1
  omega
theorem toRow_none (t : List Nat) (j : Int) (col : Nat) (hj : ¬ (0 ≤ j ∧ j < ((rows t).length : Int))) : toRow t j col = none := by
  unfold toRow
  by_cases h0 : 0 ≤ j
  · rw [if_pos h0, List.getElem?_eq_none (by rw [bgs_len]; omega)]
    rfl
  · rw [if_neg h0]
theorem rows_big (t : List Nat) (hl : t.length ≤ 10000) : (rows t).length ≤ big ∧ ∀ r ∈ rows t, r.length ≤ big := by
  have h1 := rows_len t
  rw [big_v]
  exact ⟨by omega, fun r hr => by have := rows_row t r hr; omega⟩
theorem lg_up (b : LG T) (n : Nat) (t : List Nat) (p k : Nat) (mk : D) (hl : t.length ≤ 10000) (hp : p ≤ t.length) : run T (n + 2) 40 [.str t, .int (p : Int), moD (.up k), .non, mk, .non] h = .ok (oN (goesN t p (.up k))) h := by
  have hb : t.length + 2 < big := by rw [big_v]; omega
  have ⟨hR, hr⟩ := rows_big t hl
  have h1 := sp_rowN t p hp
  have h2 := sp_colN t p hp
  have h3 := rowN_lt t p
  have e : goesN t p (.up k) = toRow t ((rowN t p : Int) - k) (p - bk t p) := rfl
  rw [e]
  by_cases hg : k ≤ rowN t p
  · obtain ⟨r, er⟩ : ∃ r, (rows t)[rowN t p - k]? = some r := ⟨_, List.getElem?_eq_getElem (by omega)⟩
    refine (g_up b.toB4 n t (p : Int) (k : Int) mk (rowN t p - k) r hb (by rw [h1]; omega) er hR hr).trans ?_
    rw [show (rowN t p : Int) - (k : Int) = ((rowN t p - k : Nat) : Int) by omega, toRow_some t _ _ r er, h2]
    show R.ok (D.int _) _ = R.ok (D.int _) _
    congr 2
    split <;> omega
  · refine (g_up0 b.toB4 n t (p : Int) (k : Int) mk hb (by rw [h1]; omega) hR).trans ?_
    rw [toRow_none _ _ _ (by omega)]
    rfl
theorem lg_down (b : LG T) (n : Nat) (t : List Nat) (p k : Nat) (mk : D) (hl : t.length ≤ 10000) (hp : p ≤ t.length) : run T (n + 2) 40 [.str t, .int (p : Int), moD (.down k), .non, mk, .non] h = .ok (oN (goesN t p (.down k))) h := by
  have hb : t.length + 2 < big := by rw [big_v]; omega
  have ⟨hR, hr⟩ := rows_big t hl
  have h1 := sp_rowN t p hp
  have h2 := sp_colN t p hp
  have e : goesN t p (.down k) = toRow t ((rowN t p : Int) + k) (p - bk t p) := rfl
  rw [e]
  by_cases hg : rowN t p + k < (rows t).length
  · obtain ⟨r, er⟩ : ∃ r, (rows t)[rowN t p + k]? = some r := ⟨_, List.getElem?_eq_getElem hg⟩
    refine (g_down b.toB4 n t (p : Int) (k : Int) mk (rowN t p + k) r hb (by rw [h1]; omega) er hR hr).trans ?_
    rw [show (rowN t p : Int) + (k : Int) = ((rowN t p + k : Nat) : Int) by omega, toRow_some t _ _ r er, h2]
    show R.ok (D.int _) _ = R.ok (D.int _) _
    congr 2
    split <;> omega
  · refine (g_down0 b.toB4 n t (p : Int) (k : Int) mk hb (by omega) (by rw [h1]; omega) hR).trans ?_
    rw [toRow_none _ _ _ (by omega)]
    rfl
theorem c_ends (b : LG T) (n : Nat) (t : List Nat) (p : Nat) (m : Mo) (k : Nat) (hk : 1 ≤ k) (hl : t.length ≤ 10000) (hm : m = .word k ∨ m = .back k ∨ m = .over k) (h : Hs) :
    callF T (run T (n + 2)) 39 [.str t, moD m, .int (p : Int)] h = .ok (oN (goesN t p m)) h :=
  call_p b.f39 rfl (by simp [D.rls, D.rl, moD_rl]) (r_ends (h := Hs.nil) b.toLW n t p m k hk hl hm) (oN_rl _)
theorem c_spotN (b : LG T) (n : Nat) (t : List Nat) (p : Nat) (hl : t.length ≤ 10000) (hp : p ≤ t.length) (h : Hs) : callF T (run T (n + 1)) 33 [.str t, .int (p : Int)] h = .ok (.tup [.int (rowN t p : Int), .int ((p - bk t p : Nat) : Int)]) h := by
  have e := c_spot b.toB4 n t (p : Int) (by rw [big_v]; omega) h
  rw [sp_rowN t p hp, sp_colN t p hp] at e
  exact e
theorem c_rowsN (b : LG T) (n : Nat) (t : List Nat) (hl : t.length ≤ 10000) (h : Hs) : callF T (run T (n + 1)) 32 [.str t] h = .ok (.lst ((rows t).map D.str)) h := c_rows b.toB4 n t (by rw [big_v]; omega) h
theorem lg_words (b : LG T) (n : Nat) (t : List Nat) (p : Nat) (m : Mo) (k : Nat) (mk : D) (hk : 1 ≤ k) (hl : t.length ≤ 10000) (hp : p ≤ t.length) (hm : m = .word k ∨ m = .back k ∨ m = .over k) :
    run T (n + 3) 40 [.str t, .int (p : Int), moD m, .non, mk, .non] h = .ok (oN (goesN t p m)) h := by
  have e1 := c_rowsN b (n + 1) t hl
  have e2 := c_spotN b (n + 1) t p hl hp
  have e3 := c_ends b n t p m k hk hl hm
  rw [run_s b.f40 rfl]
  rcases hm with rfl | rfl | rfl <;>
    · simp only [moD] at e3
      simp -implicitDefEqProofs [i_law_goes, env0, getV, moD, subs, items, ati0, ati1, e1, e2, tgt, cmp, mem, mem2, mem3, e3, outD]
theorem subs_tup0 (xs : List D) (i : Int) : subs (.tup xs) (.int i) h = ofO (ati xs i) h := (rfl)
theorem subs_rows (R : List (List Nat)) (i : Nat) (r : List Nat) (hr : R[i]? = some r) : subs (.lst (R.map D.str)) (.int (i : Int)) h = .ok (.str r) h := by
  simp only [subs, items, ati_nat, List.getElem?_map, hr, Option.map_some, ofO_s]
theorem rep_flat (k : Nat) : (List.replicate k [32]).flatten = List.replicate k 32 := by
  induction k with
  | zero => rfl
  | succ k ih => simp [List.replicate_succ, ih]
theorem bin_blanks (k : Nat) (hk : k ≤ 100000) : bin .mul (.str [32]) (.int (k : Int)) h = .ok (.str (List.replicate k 32)) h := by
  have hc : (decide (-(2 ^ 63) ≤ (k : Int)) && (decide ((k : Int) < 2 ^ 63) && decide ([32].length * (k : Int).toNat ≤ big))) = true := by
    have h3 : [32].length * ((k : Int).toNat) ≤ big := by rw [big_v]; simp; omega
    have h1 : (-9223372036854775808 : Int) ≤ (k : Int) := by omega
    have h2 : (k : Int) < 9223372036854775808 := by omega
    have h4 : k ≤ big := by rw [big_v]; omega
    simp [h1, h2, h4]
  simp only [bin]
  rw [hc, Int.toNat_natCast, rep_flat, okIf_t]
theorem slice_to (t : List Nat) (i : Nat) (hl : t.length ≤ big) : slice (.str t) none (some (i : Int)) h = .ok (.str (t.take i)) h := by
  simp only [slice, decide_eq_true hl, okIf]
  congr 2
  unfold cut six
  have h1 : ¬ ((i : Int) < 0) := by omega
  simp only [h1, if_false, Nat.sub_zero, List.drop_zero, Int.toNat_natCast]
  by_cases hi : i ≤ t.length
  · congr 1
    omega
  · rw [List.take_of_length_le (by omega), List.take_of_length_le (by omega)]
theorem goes_begin (t : List Nat) (p : Nat) : goesN t p .mBegin = some (bk t p) := rfl
theorem goes_end (t : List Nat) (p : Nat) : goesN t p .mEnd = some (fw t p) := rfl
theorem goes_first (t : List Nat) (p : Nat) : goesN t p .first = some (firstN t p) := rfl
theorem lg_bef (b : LG T) (n : Nat) (t : List Nat) (p : Nat) (m : Mo) (mk : D) (hl : t.length ≤ 10000) (hp : p ≤ t.length) (hm : m = .mBegin ∨ m = .mEnd ∨ m = .first) :
    Ret (run T (n + 3) 40 [.str t, .int (p : Int), moD m, .non, mk, .non] h) h (oN (goesN t p m)) := by
  have e1 := c_rowsN b (n + 1) t hl
  have e2 := c_spotN b (n + 1) t p hl hp
  have ⟨r1, r2, r3⟩ := row_at t p hp
  have e3 := fun h => subs_rows (h := h) (rows t) (rowN t p) _ r1
  have hrl : (rowT t p).length ≤ 10000 := by
    have := rows_row t _ (List.mem_of_getElem? r1)
    omega
  have hrb : (rowT t p).length ≤ big := by rw [big_v]; omega
  have e4 := fun h => len_str (h := h) (rowT t p) hrb
  have er : okRange ((rowT t p).length : Int) = true := okRange_t (by omega) (by omega)
  have hbk := bk_le t p
  let bl := ((List.range (rowT t p).length).filter fun i => decide ((rowT t p).take (i + 1) = List.replicate (i + 1) 32))
  have e5 : ∀ (w : D) h, lcGo ⟨range 0 (rowT t p).length, none⟩ [some (.str t), some (.int (p : Int)), some (.tup [w]), some .non, some mk, some .non, some w, some (.lst ((rows t).map D.str)), some (.int (rowN t p : Int)), some (.int ((p - bk t p : Nat) : Int)), none, none, none, none] (.nm 12) (ev T (run T (n + 2)) (.cmp .eq (.slc (.sub (.var 7) (.var 8)) .nob (.bin .add (.var 12) (.lit (.int 1)))) (.bin .mul (.lit (.str [32])) (.bin .add (.var 12) (.lit (.int 1)))))) (ev T (run T (n + 2)) (.var 12)) (range 0 (rowT t p).length) [] h = .ok (nD bl) h := by
    intro w h
    rw [range_nD0]
    refine (lc_nat (fun x => [some (.str t), some (.int (p : Int)), some (.tup [w]), some .non, some mk, some .non, some w, some (.lst ((rows t).map D.str)), some (.int (rowN t p : Int)), some (.int ((p - bk t p : Nat) : Int)), none, none, some x, none]) (fun i => decide ((rowT t p).take (i + 1) = List.replicate (i + 1) 32)) (fun i => .int (i : Int)) rfl _ h (fun x _ => rfl) (fun x hx => ?_) (fun x _ _ => rfl) (by simpa using hrb)).trans rfl
    have hx := List.mem_range.mp hx
    have q1 := fun h => slice_to (h := h) (rowT t p) (x + 1) hrb
    have q2 := fun h => bin_blanks (h := h) (x + 1) (by omega)
    have q3 : ((x + 1 : Nat) : Int) = (x : Int) + 1 := by omega
    rw [q3] at q1 q2
    simp -implicitDefEqProofs [getV, e3, q1, q2, cmp]
  have e6 : bl.length = ((rowT t p).takeWhile fun c => decide (c = 32)).length := lead32 _
  have e7 := fun h => len_lst (h := h) (nD bl)
  rw [nD_len, e6] at e7
  have q0 : (p : Int) - ((p - bk t p : Nat) : Int) = (bk t p : Int) := by omega
  have q1 : (bk t p : Int) + ((rowT t p).length : Int) = (fw t p : Int) := by omega
  have q2 : (bk t p : Int) + ((((rowT t p).takeWhile fun c => decide (c = 32)).length : Nat) : Int) = (firstN t p : Int) := by
    unfold firstN rowT
    omega
  have hd : ∀ (a c : Int) h, dctd [wBegin, wEnd, wFirst] [.int 0, .int a, .int c] h = .ok (.ref h.n) (h.new (.dct [(wBegin, .int 0), (wEnd, .int a), (wFirst, .int c)])) := fun a c h => by
    unfold dctd okIf
    rfl
  have i1 : ∀ a : D, ati [a] 0 = some a := fun _ => rfl
  rw [run_s b.f40 rfl]
  generalize bl = bl at *
  generalize ((rowT t p).takeWhile fun c => decide (c = 32)).length = tk at *
  refine ⟨h.new (.dct [(wBegin, .int 0), (wEnd, .int ((rowT t p).length : Int)), (wFirst, .int (tk : Int))]), ?_, .inr ⟨_, rfl⟩⟩
  have hsub : ∀ w d, [(wBegin, D.int 0), (wEnd, D.int ((rowT t p).length : Int)), (wFirst, D.int (tk : Int))].lookup w = some d → subs (.ref h.n) (.str w) (h.new (.dct [(wBegin, .int 0), (wEnd, .int ((rowT t p).length : Int)), (wFirst, .int (tk : Int))])) = .ok d (h.new (.dct [(wBegin, .int 0), (wEnd, .int ((rowT t p).length : Int)), (wFirst, .int (tk : Int))])) := fun w d hw => by
    simp only [subs, dictOf, new_o, hw, ofO_s]
  rcases hm with rfl | rfl | rfl
  · have e8 := hsub wBegin (.int 0) rfl
    have e5 := e5 (.str wBegin)
    rw [goes_begin]
    simp -implicitDefEqProofs [i_law_goes, env0, getV, moD, subs_tup0, i1, e1, e2, tgt, cmp, mem, mem2, mem3, e3, e4, itv, er, e5, unl, e7, hd, e8, q0, outD, oN]
  · have e8 := hsub wEnd (.int ((rowT t p).length : Int)) rfl
    have e5 := e5 (.str wEnd)
    rw [goes_end]
    simp -implicitDefEqProofs [i_law_goes, env0, getV, moD, subs_tup0, i1, e1, e2, tgt, cmp, mem, mem2, mem3, e3, e4, itv, er, e5, unl, e7, hd, e8, q0, q1, outD, oN]
  · have e8 := hsub wFirst (.int (tk : Int)) rfl
    have e5 := e5 (.str wFirst)
    rw [goes_first]
    simp -implicitDefEqProofs [i_law_goes, env0, getV, moD, subs_tup0, i1, e1, e2, tgt, cmp, mem, mem2, mem3, e3, e4, itv, er, e5, unl, e7, hd, e8, q0, q2, outD, oN]
theorem c_back0 (b : LG T) (n : Nat) (R : List (List Nat)) (g : Nat) (r : List Nat) (hr : R[g]? = some r) (hl : R.length ≤ big) (hb : ∀ r ∈ R, r.length ≤ big) (h : Hs) : callF T (run T (n + 1)) 34 [.lst (R.map D.str), .int (g : Int), .int 0] h = .ok (.int (lens (R.take g) : Int)) h := by
  rw [c_back b.toB4 n R g 0 r hr hl hb h]
  have : (if (r.length : Int) < 0 then (r.length : Int) else 0) = 0 := by split <;> omega
  rw [this, Int.add_zero]
theorem lg_row (b : LG T) (n : Nat) (t : List Nat) (p k : Nat) (mk : D) (hl : t.length ≤ 10000) (hp : p ≤ t.length) (hk : 1 ≤ k) : run T (n + 3) 40 [.str t, .int (p : Int), moD (.row k), .non, mk, .non] h = .ok (oN (goesN t p (.row k))) h := by
  have e1 := c_rowsN b (n + 1) t hl
  have e2 := c_spotN b (n + 1) t p hl hp
  have ⟨hR, hrb⟩ := rows_big t hl
  have eL := fun h => len_lst (h := h) ((rows t).map D.str)
  rw [List.length_map] at eL
  have e : goesN t p (.row k) = toRow t ((k : Int) - 1) 0 := rfl
  rw [run_s b.f40 rfl, e]
  by_cases hc : k ≤ (rows t).length
  · obtain ⟨r, er⟩ : ∃ r, (rows t)[k - 1]? = some r := ⟨_, List.getElem?_eq_getElem (by omega)⟩
    have e3 := c_back0 b (n + 1) (rows t) (k - 1) r er hR hrb
    have q : ((k - 1 : Nat) : Int) = (k : Int) - 1 := by omega
    rw [← q, toRow_some t _ _ r er]
    rw [q] at e3
    simp -implicitDefEqProofs [i_law_goes, env0, getV, moD, subs, items, ati0, ati1, e1, e2, tgt, cmp, mem, mem2, mem3, eL, hc, e3, outD, oN]
  · rw [toRow_none _ _ _ (by omega)]
    simp -implicitDefEqProofs [i_law_goes, env0, getV, moD, subs, items, ati0, ati1, e1, e2, tgt, cmp, mem, mem2, mem3, eL, hc, outD, oN]
theorem lg_tb (b : LG T) (n : Nat) (t : List Nat) (p : Nat) (m : Mo) (mk : D) (hl : t.length ≤ 10000) (hp : p ≤ t.length) (hm : m = .top ∨ m = .bottom) : run T (n + 3) 40 [.str t, .int (p : Int), moD m, .non, mk, .non] h = .ok (oN (goesN t p m)) h := by
  have e1 := c_rowsN b (n + 1) t hl
  have e2 := c_spotN b (n + 1) t p hl hp
  have eL := fun h => len_str (h := h) t (by rw [big_v]; omega)
  have i1 : ∀ a : D, ati [a] 0 = some a := fun _ => rfl
  rw [run_s b.f40 rfl]
  rcases hm with rfl | rfl
  · have e : goesN t p .top = some 0 := rfl
    have q := fun h => bin_mul (h := h) (t.length : Int) 0 (mulOk_r (by decide) (by decide))
    rw [e]
    simp -implicitDefEqProofs [i_law_goes, env0, getV, moD, subs_tup0, i1, e1, e2, tgt, cmp, mem, mem2, mem3, eL, intD_b, q, outD, oN]
  · have e : goesN t p .bottom = some t.length := rfl
    have q := fun h => bin_mul (h := h) (t.length : Int) 1 (mulOk_r (by decide) (by decide))
    rw [e]
    simp -implicitDefEqProofs [i_law_goes, env0, getV, moD, subs_tup0, i1, e1, e2, tgt, cmp, mem, mem2, mem3, eL, intD_b, q, outD, oN]
end
end Ed

/-! part L3 -/
set_option maxRecDepth 100000
set_option maxHeartbeats 4000000
/-! The law's own pairs: brackets by a stack. -/
namespace Ed
open Ev
def pairGo (a o p : Nat) : List Nat → Nat → List Nat → Option Nat
  | [], _, _ => none
  | c :: r, i, st => if c = a then pairGo a o p r (i + 1) (i :: st) else if c = o then (match st with
    | [] => pairGo a o p r (i + 1) []
    | f :: st => if p = f ∨ p = i then some (i + f - p) else pairGo a o p r (i + 1) st) else pairGo a o p r (i + 1) st
def pairAll (t : List Nat) (p : Nat) : Option Nat := (pairGo 40 41 p t 0 []).or ((pairGo 91 93 p t 0 []).or (pairGo 123 125 p t 0 []))
/-! ### the stack and the count -/
theorem pair_none (a o p : Nat) : ∀ (r : List Nat) (i : Nat) (st : List Nat), (∀ f ∈ st, p ≠ f) → (∀ j, i ≤ j → p = j → ∀ c, r[j - i]? = some c → c ≠ a ∧ c ≠ o) → pairGo a o p r i st = none
  | [], _, _, _, _ => rfl
  | c :: r, i, st, hs, hr => by
    have hr' : ∀ j, i + 1 ≤ j → p = j → ∀ d, r[j - (i + 1)]? = some d → d ≠ a ∧ d ≠ o := fun j hj hp d hd => hr j (by omega) hp d (by
      rw [show j - i = (j - (i + 1)) + 1 by omega, List.getElem?_cons_succ]; exact hd)
    unfold pairGo
    by_cases h1 : c = a
    · rw [if_pos h1]
      refine pair_none a o p r (i + 1) (i :: st) (fun f hf => ?_) hr'
      rcases List.mem_cons.mp hf with rfl | hf
      · intro e
        exact (hr f (Nat.le_refl _) e c (by rw [Nat.sub_self]; rfl)).1 h1
      · exact hs f hf
    · rw [if_neg h1]
      by_cases h2 : c = o
      · rw [if_pos h2]
        cases st with
        | nil => exact pair_none a o p r (i + 1) [] (fun f hf => nomatch hf) hr'
        | cons f st =>
          have n1 : ¬ (p = f ∨ p = i) := by
            rintro (e | e)
            · exact hs f (List.mem_cons_self ..) e
            · exact (hr i (Nat.le_refl _) e c (by rw [Nat.sub_self]; rfl)).2 h2
          dsimp only
          rw [if_neg n1]
          exact pair_none a o p r (i + 1) st (fun f hf => hs f (List.mem_cons_of_mem _ hf)) hr'
      · rw [if_neg h2]
        exact pair_none a o p r (i + 1) st hs hr'
/-- from an opened one on -/
theorem pair_open (a o p : Nat) (hao : a ≠ o) : ∀ (r : List Nat) (i : Nat) (ab st : List Nat), p < i → (∀ f ∈ ab, p < f) → (∀ f ∈ st, f < p) → pairGo a o p r i (ab ++ p :: st) = (prtN a o r (ab.length + 1)).map (i + ·)
  | [], _, _, _, _, _, _ => rfl
  | c :: r, i, ab, st, hi, hab, hst => by
    unfold pairGo prtN
    by_cases h1 : c = a
    · have e1 : stp a o c ((ab.length : Int) + 1) = ((i :: ab).length : Int) + 1 := by
        unfold stp
        rw [if_pos h1, if_neg (by rw [h1]; exact hao), List.length_cons]
        omega
      rw [if_pos h1, e1, if_neg (by omega)]
      have := pair_open a o p hao r (i + 1) (i :: ab) st (by omega) (fun f hf => by
        rcases List.mem_cons.mp hf with rfl | hf
        · exact hi
        · exact hab f hf) hst
      rw [List.cons_append] at this
      rw [this, Option.map_map]
      congr 1
      funext k
      show i + 1 + k = i + (k + 1)
      omega
    · rw [if_neg h1]
      by_cases h2 : c = o
      · have e1 : stp a o c ((ab.length : Int) + 1) = (ab.length : Int) := by
          unfold stp
          rw [if_neg h1, if_pos h2]
          omega
        rw [if_pos h2, e1]
        cases ab with
        | nil =>
          rw [List.nil_append]
          dsimp only
          rw [if_pos (.inl rfl), List.length_nil, if_pos (by rfl)]
          show some (i + p - p) = some (i + 0)
          congr 1
          omega
        | cons f ab =>
          rw [List.cons_append]
          dsimp only
          have hf := hab f (List.mem_cons_self ..)
          rw [if_neg (by omega), if_neg (by rw [List.length_cons]; omega)]
          have := pair_open a o p hao r (i + 1) ab st (by omega) (fun f hf => hab f (List.mem_cons_of_mem _ hf)) hst
          rw [this, Option.map_map, List.length_cons]
          congr 1
          funext k
          show i + 1 + k = i + (k + 1)
          omega
      · have e1 : stp a o c ((ab.length : Int) + 1) = (ab.length : Int) + 1 := by
          unfold stp
          rw [if_neg h1, if_neg h2]
          omega
        rw [if_neg h2, e1, if_neg (by omega)]
        rw [pair_open a o p hao r (i + 1) ab st (by omega) hab hst, Option.map_map]
        congr 1
        funext k
        show i + 1 + k = i + (k + 1)
        omega
/-- the stack behind a text -/
def stk (a o : Nat) : List Nat → Nat → List Nat → List Nat
  | [], _, st => st
  | c :: r, i, st => if c = a then stk a o r (i + 1) (i :: st) else if c = o then stk a o r (i + 1) st.tail else stk a o r (i + 1) st
theorem stk_snoc (a o c : Nat) : ∀ (r : List Nat) (i : Nat) (st : List Nat), stk a o (r ++ [c]) i st = if c = a then (i + r.length) :: stk a o r i st else if c = o then (stk a o r i st).tail else stk a o r i st
  | [], i, st => by
    simp only [List.nil_append, stk, List.length_nil, Nat.add_zero]
  | d :: r, i, st => by
    rw [List.cons_append]
    unfold stk
    rw [List.length_cons, show i + (r.length + 1) = i + 1 + r.length by omega]
    split
    · exact stk_snoc a o c r (i + 1) (i :: st)
    · split
      · exact stk_snoc a o c r (i + 1) st.tail
      · exact stk_snoc a o c r (i + 1) st
theorem stk_lt (a o : Nat) : ∀ (r : List Nat) (i : Nat) (st : List Nat), (∀ f ∈ st, f < i) → ∀ f ∈ stk a o r i st, f < i + r.length
  | [], i, st, h => fun f hf => by simpa using h f hf
  | c :: r, i, st, h => fun f hf => by
    unfold stk at hf
    rw [List.length_cons]
    have key : ∀ st' : List Nat, (∀ f ∈ st', f < i + 1) → f ∈ stk a o r (i + 1) st' → f < i + (r.length + 1) := fun st' h' hf => by
      have := stk_lt a o r (i + 1) st' h' f hf
      omega
    split at hf
    · exact key _ (fun g hg => by
        rcases List.mem_cons.mp hg with rfl | hg
        · omega
        · have := h g hg; omega) hf
    · split at hf
      · exact key _ (fun g hg => by have := h g (List.mem_of_mem_tail hg); omega) hf
      · exact key _ (fun g hg => by have := h g hg; omega) hf
/-- up to a place that is met neither way the run is the stack's -/
theorem pair_pre (a o p : Nat) (hao : a ≠ o) : ∀ (u : List Nat) (r : List Nat) (i : Nat) (st : List Nat), i + u.length ≤ p → (∀ f ∈ st, f < p) → pairGo a o p (u ++ r) i st = pairGo a o p r (i + u.length) (stk a o u i st)
  | [], r, i, st, _, _ => rfl
  | c :: u, r, i, st, hi, hst => by
    rw [List.length_cons] at hi ⊢
    rw [List.cons_append, show i + (u.length + 1) = i + 1 + u.length by omega]
    conv => lhs; unfold pairGo
    unfold stk
    by_cases h1 : c = a
    · rw [if_pos h1, if_pos h1]
      exact pair_pre a o p hao u r (i + 1) (i :: st) (by omega) (fun f hf => by
        rcases List.mem_cons.mp hf with rfl | hf
        · omega
        · exact hst f hf)
    · rw [if_neg h1, if_neg h1]
      by_cases h2 : c = o
      · rw [if_pos h2, if_pos h2]
        cases st with
        | nil => exact pair_pre a o p hao u r (i + 1) [] (by omega) (fun f hf => nomatch hf)
        | cons f st =>
          have hf := hst f (List.mem_cons_self ..)
          dsimp only
          rw [if_neg (by omega)]
          exact pair_pre a o p hao u r (i + 1) st (by omega) (fun f hf => hst f (List.mem_cons_of_mem _ hf))
      · rw [if_neg h2, if_neg h2]
        exact pair_pre a o p hao u r (i + 1) st (by omega) hst
/-- the count backwards finds the stack's elements -/
theorem stk_cnt (a o : Nat) (hao : a ≠ o) : ∀ (u : List Nat) (d : Nat), (stk a o u.reverse 0 [])[d]? = (prtN o a u ((d : Int) + 1)).map (u.length - 1 - ·)
  | [], d => rfl
  | c :: u, d => by
    rw [List.reverse_cons, stk_snoc, Nat.zero_add, List.length_reverse]
    unfold prtN
    rw [List.length_cons]
    by_cases h1 : c = a
    · have e1 : stp o a c ((d : Int) + 1) = d := by
        unfold stp
        rw [if_neg (by rw [h1]; exact hao), if_pos h1]
        omega
      rw [if_pos h1, e1]
      cases d with
      | zero =>
        rw [if_pos (by rfl)]
        show some u.length = some (u.length + 1 - 1 - 0)
        congr 1
      | succ d =>
        rw [if_neg (by omega), List.getElem?_cons_succ, stk_cnt a o hao u d, Option.map_map]
        show _ = Option.map _ (prtN o a u ((d : Int) + 1))
        congr 1
        funext k
        show u.length - 1 - k = u.length + 1 - 1 - (k + 1)
        omega
    · rw [if_neg h1]
      by_cases h2 : c = o
      · have e1 : stp o a c ((d : Int) + 1) = ((d + 1 : Nat) : Int) + 1 := by
          unfold stp
          rw [if_pos h2, if_neg h1]
          omega
        rw [if_pos h2, e1, if_neg (by omega), List.getElem?_tail, stk_cnt a o hao u (d + 1), Option.map_map]
        congr 1
        funext k
        show u.length - 1 - k = u.length + 1 - 1 - (k + 1)
        omega
      · have e1 : stp o a c ((d : Int) + 1) = (d : Int) + 1 := by
          unfold stp
          rw [if_neg h2, if_neg h1]
          omega
        rw [if_neg h2, e1, if_neg (by omega), stk_cnt a o hao u d, Option.map_map]
        congr 1
        funext k
        show u.length - 1 - k = u.length + 1 - 1 - (k + 1)
        omega
theorem pair_at_open (a o : Nat) (hao : a ≠ o) (t : List Nat) (p : Nat) (hp : p < t.length) (hs : sg t p = a) : pairGo a o p t 0 [] = (prtN a o (t.drop p) 0).map (p + ·) := by
  have e : t = t.take p ++ t.drop p := (List.take_append_drop p t).symm
  have hl : (t.take p).length = p := by rw [List.length_take]; omega
  conv => lhs; rw [e]
  rw [pair_pre a o p hao _ _ 0 [] (by omega) (fun f hf => nomatch hf), Nat.zero_add, hl, drop_sg t p hp]
  unfold pairGo prtN
  have e1 : stp a o (sg t p) 0 = 1 := by
    unfold stp
    rw [if_pos hs, if_neg (by rw [hs]; exact hao)]
    rfl
  rw [if_pos hs, e1, if_neg (by decide)]
  have := pair_open a o p hao (t.drop (p + 1)) (p + 1) [] (stk a o (t.take p) 0 []) (by omega) (fun f hf => nomatch hf) (fun f hf => by
    have := stk_lt a o (t.take p) 0 [] (fun f hf => nomatch hf) f hf
    omega)
  rw [List.nil_append] at this
  rw [this, Option.map_map]
  show Option.map _ (prtN a o _ 1) = _
  congr 1
  funext k
  show p + 1 + k = p + (k + 1)
  omega
theorem pair_at_shut (a o : Nat) (hao : a ≠ o) (t : List Nat) (p : Nat) (hp : p < t.length) (hs : sg t p = o) : pairGo a o p t 0 [] = (prtN o a (t.take (p + 1)).reverse 0).map (p - ·) := by
  have e : t = t.take p ++ t.drop p := (List.take_append_drop p t).symm
  have hl : (t.take p).length = p := by rw [List.length_take]; omega
  conv => lhs; rw [e]
  rw [pair_pre a o p hao _ _ 0 [] (by omega) (fun f hf => nomatch hf), Nat.zero_add, hl, drop_sg t p hp, take_sg t p hp]
  unfold pairGo prtN
  have e1 : stp o a (sg t p) 0 = 1 := by
    unfold stp
    rw [if_pos hs, if_neg (by rw [hs]; exact fun e => hao e.symm)]
    rfl
  rw [if_neg (by rw [hs]; exact fun e => hao e.symm), if_pos hs, e1, if_neg (by decide)]
  have hc := stk_cnt a o hao (t.take p).reverse 0
  rw [List.reverse_reverse, List.length_reverse, hl] at hc
  have hlt := stk_lt a o (t.take p) 0 [] (fun f hf => nomatch hf)
  rw [Nat.zero_add, hl] at hlt
  have hc1 : ((0 : Nat) : Int) + 1 = 1 := rfl
  rw [hc1] at hc
  have hnone : ∀ st : List Nat, (∀ f ∈ st, f < p) → pairGo a o p (t.drop (p + 1)) (p + 1) st = none := fun st h => by
    refine pair_none a o p _ _ st (fun f hf => by have := h f hf; omega) (fun j hj e => by omega)
  cases hst : stk a o (t.take p) 0 [] with
  | nil =>
    rw [hst] at hc
    dsimp only
    rw [hnone [] (fun f hf => nomatch hf)]
    cases hq : prtN o a (t.take p).reverse 1 with
    | none => rfl
    | some k => rw [hq] at hc; exact nomatch hc
  | cons f st =>
    rw [hst] at hc
    dsimp only
    rw [if_pos (.inr rfl)]
    cases hq : prtN o a (t.take p).reverse 1 with
    | none => rw [hq] at hc; exact nomatch hc
    | some k =>
      rw [hq] at hc
      have hc := Option.some.inj hc
      show some (p + f - p) = some (p - (k + 1))
      have hk := prtN_lt _ _ _ _ _ hq
      rw [List.length_reverse, hl] at hk
      congr 1
      dsimp only at hc
      omega
theorem pair_not (a o : Nat) (t : List Nat) (p : Nat) (h : ∀ c, t[p]? = some c → c ≠ a ∧ c ≠ o) : pairGo a o p t 0 [] = none :=
  pair_none a o p t 0 [] (fun f hf => nomatch hf) (fun j _ e c hc => h c (by rw [e]; exact hc))
theorem pairAll_eq (t : List Nat) (p : Nat) : pairAll t p = partner t p := by
  unfold pairAll partner
  cases e : t[p]? with
  | none =>
    have h : ∀ a o c, t[p]? = some c → c ≠ a ∧ c ≠ o := fun a o c h => by rw [e] at h; cases h
    rw [pair_not 40 41 t p (h 40 41), pair_not 91 93 t p (h 91 93), pair_not 123 125 t p (h 123 125)]
    rfl
  | some s =>
    have hp := (List.getElem?_eq_some_iff.mp e).1
    have hsg : sg t p = s := by unfold sg; rw [e]; rfl
    have no : ∀ a o, s ≠ a → s ≠ o → pairGo a o p t 0 [] = none := fun a o h1 h2 => pair_not a o t p (fun c h => by rw [e] at h; cases h; exact ⟨h1, h2⟩)
    dsimp only
    cases hb : brOf s with
    | none =>
      have hn := brOf_none s hb
      have hn : s ≠ 40 ∧ s ≠ 91 ∧ s ≠ 123 ∧ s ≠ 41 ∧ s ≠ 93 ∧ s ≠ 125 := by simpa [cOPEN, cSHUT] using hn
      rw [no 40 41 hn.1 hn.2.2.2.1, no 91 93 hn.2.1 hn.2.2.2.2.1, no 123 125 hn.2.2.1 hn.2.2.2.2.2]
      rfl
    | some x =>
      have h6 := brOf_cases s x hb
      obtain ⟨dir, o⟩ := x
      simp only [List.mem_cons, Prod.mk.injEq, List.not_mem_nil, or_false] at h6
      rcases h6 with ⟨hc, rfl, rfl⟩ | ⟨hc, rfl, rfl⟩ | ⟨hc, rfl, rfl⟩ | ⟨hc, rfl, rfl⟩ | ⟨hc, rfl, rfl⟩ | ⟨hc, rfl, rfl⟩ <;> subst hc
      · rw [no 91 93 (by decide) (by decide), no 123 125 (by decide) (by decide), pair_at_open 40 41 (by decide) t p hp hsg, Option.or_none, Option.or_none]
      · rw [no 40 41 (by decide) (by decide), no 123 125 (by decide) (by decide), pair_at_open 91 93 (by decide) t p hp hsg, Option.or_none, Option.none_or]
      · rw [no 40 41 (by decide) (by decide), no 91 93 (by decide) (by decide), pair_at_open 123 125 (by decide) t p hp hsg, Option.none_or, Option.none_or]
      · rw [no 91 93 (by decide) (by decide), no 123 125 (by decide) (by decide), pair_at_shut 40 41 (by decide) t p hp hsg, Option.or_none, Option.or_none]
      · rw [no 40 41 (by decide) (by decide), no 123 125 (by decide) (by decide), pair_at_shut 91 93 (by decide) t p hp hsg, Option.or_none, Option.none_or]
      · rw [no 40 41 (by decide) (by decide), no 91 93 (by decide) (by decide), pair_at_shut 123 125 (by decide) t p hp hsg, Option.none_or, Option.none_or]
end Ed

/-! part L4 -/
set_option maxRecDepth 100000
set_option maxHeartbeats 4000000
/-! The law's own pair and find, run. -/
namespace Ed
open Ev
structure LP (T : Tbl) : Prop extends LG T where
  f38 : T.fn 38 = some i_law_pair
section
variable {T : Tbl} {h : Hs}
def pairB : Ss := (.cons (.ite (.cmp .eq (.var 6) (.var 2)) (.cons (.exp (.bm .append (.var 4) (.cons (.var 5) .nil))) .nil) .nil) (.cons (.ite (.and (.cmp .eq (.var 6) (.var 3)) (.cmp .ne (.var 4) (.lst .nil))) (.cons (.set 7 (.bm .pop (.var 4) .nil)) (.cons (.ite (.cmp .mem (.var 1) (.tup (.cons (.var 7) (.cons (.var 5) .nil)))) (.cons (.ret (.bin .sub (.bin .add (.var 5) (.var 7)) (.var 1))) .nil) .nil) .nil)) .nil) .nil))
theorem eqh_ref (k : Nat) (xs : List Nat) (ho : h.o k = some (.lst (nD xs))) : eqh (.ref k) (.lst []) h = some (decide (xs = [])) := by
  have e1 : eqd (.ref k) (.lst []) = none := by
    unfold eqd
    simp [flat, dok]
  have e2 : dr (.ref k) h = .lst (nD xs) := by
    unfold dr
    simp only [ho]
  have e3 : dr (.lst []) h = .lst [] := rfl
  unfold eqh
  rw [e1]
  unfold eqr
  dsimp only
  rw [e2, e3]
  have a1 : dok 60 (.lst (nD xs)) = true := dok_nD xs 59
  have a2 : cmpb (.lst (nD xs)) (.lst []) = true := by cases xs <;> rfl
  have a3 : dok 60 (.lst []) = true := rfl
  rw [a1, a2, a3]
  cases xs <;> simp [nD]
theorem meml_ii (a b c : Int) : mem (.int a) (.tup [.int b, .int c]) h = some (decide (a = b ∨ a = c)) := by
  show memd (.int a) [.int b, .int c] = _
  unfold memd
  simp [flat, cmpb]
theorem nD_snoc (xs : List Nat) (i : Nat) : nD xs ++ [.int (i : Int)] = nD (xs ++ [i]) := by simp [nD]
theorem eqh_sign (c d : Nat) : eqh (.str [c]) (.str [d]) h = some (decide (c = d)) := by
  unfold eqh
  rw [eqd_sign]
theorem pair_in {cl : Calls} {w : Wk} (hw : w.on = none) (t0 : D) (a o p k0 : Nat) (hao : a ≠ o) : ∀ (r : List Nat) (i : Nat) (st : List Nat) (x5 x6 x7 : Option D) (h : Hs), h.o k0 = some (.lst (nD st.reverse)) → st.length ≤ i → i + r.length ≤ 1000000 →
    ∃ y5 y6 y7 h', forGo w (.tp [5, 6]) (exes T cl pairB) (enums i (r.map fun c => D.str [c])) [some t0, some (.int (p : Int)), some (.str [a]), some (.str [o]), some (.ref k0), x5, x6, x7] h
      = .ok (match pairGo a o p r i st with | some q => .rt (.int (q : Int)) | none => .nx [some t0, some (.int (p : Int)), some (.str [a]), some (.str [o]), some (.ref k0), y5, y6, y7]) h'
  | [], i, st, x5, x6, x7, h, _, _, _ => ⟨x5, x6, x7, h, for_n hw⟩
  | c :: r, i, st, x5, x6, x7, h, ho, hs, hl => by
    rw [List.length_cons] at hl
    show ∃ y5 y6 y7 h', forGo w (.tp [5, 6]) (exes T cl pairB) (D.tup [.int (i : Int), .str [c]] :: enums (i + 1) (r.map fun c => D.str [c])) _ h = _
    rw [for_c hw]
    have e0 : tgt (.tp [5, 6]) (D.tup [.int (i : Int), .str [c]]) [some t0, some (.int (p : Int)), some (.str [a]), some (.str [o]), some (.ref k0), x5, x6, x7] h = .ok [some t0, some (.int (p : Int)), some (.str [a]), some (.str [o]), some (.ref k0), some (.int (i : Int)), some (.str [c]), x7] h := by simp [tgt]
    rw [e0, bind_ok]
    have hlen : (nD st.reverse).length < big := by rw [nD_len, List.length_reverse, big_v]; omega
    have bt : ∀ h : Hs, ∀ z, h.o k0 = some (.lst z) → (bty .append (.ref k0) h = some .list ∧ bty .pop (.ref k0) h = some .list) := fun h z hz => by simp only [bty, bty0, hz, bok, and_self]
    unfold pairGo
    by_cases h1 : c = a
    · have h2 : ¬ (c = o) := fun e => hao (h1.symm.trans e)
      have e1 : bmd .list .append (.ref k0) [.int (i : Int)] h = .ok .non (h.put k0 (.lst (nD (i :: st).reverse))) := by
        simp only [bmd, bml, ho, decide_eq_true hlen, okIf]
        simp [nD]
      have e2 := (bt h _ ho).1
      have e3 : exes T cl pairB [some t0, some (.int (p : Int)), some (.str [a]), some (.str [o]), some (.ref k0), some (.int (i : Int)), some (.str [c]), x7] h = .ok (.nx [some t0, some (.int (p : Int)), some (.str [a]), some (.str [o]), some (.ref k0), some (.int (i : Int)), some (.str [c]), x7]) (h.put k0 (.lst (nD (i :: st).reverse))) := by
        simp -implicitDefEqProofs [pairB, getV, cmp, eqd_sign, h1, hao, e1, e2]
      obtain ⟨y5, y6, y7, h', e4⟩ := pair_in hw t0 a o p k0 hao r (i + 1) (i :: st) (some (.int (i : Int))) (some (.str [c])) x7 _ (put_same h k0 _) (by rw [List.length_cons]; omega) (by omega)
      exact ⟨y5, y6, y7, h', by rw [e3, bind_ok, for2_n, if_pos h1, e4]⟩
    · by_cases h2 : c = o
      · have e5 := eqh_ref (h := h) k0 st.reverse ho
        cases st with
        | nil =>
          have e3 : exes T cl pairB [some t0, some (.int (p : Int)), some (.str [a]), some (.str [o]), some (.ref k0), some (.int (i : Int)), some (.str [c]), x7] h = .ok (.nx [some t0, some (.int (p : Int)), some (.str [a]), some (.str [o]), some (.ref k0), some (.int (i : Int)), some (.str [c]), x7]) h := by
            simp only [List.reverse_nil] at e5
            simp -implicitDefEqProofs [-eqh_2, pairB, getV, cmp, eqh_sign, h1, h2, Ne.symm hao, e5]
          obtain ⟨y5, y6, y7, h', e4⟩ := pair_in hw t0 a o p k0 hao r (i + 1) [] (some (.int (i : Int))) (some (.str [c])) x7 _ ho (by simp) (by omega)
          exact ⟨y5, y6, y7, h', by rw [e3, bind_ok, for2_n, if_neg h1, if_pos h2, e4]⟩
        | cons f st =>
          have e6 : ¬ ((f :: st).reverse = []) := by simp
          have e2 := (bt h _ ho).2
          have e7 : bmd .list .pop (.ref k0) [] h = .ok (.int (f : Int)) (h.put k0 (.lst (nD st.reverse))) := by
            have q1 : (nD (f :: st).reverse)[(nD (f :: st).reverse).length - 1]? = some (.int (f : Int)) := by
              simp [nD]
            have q2 : (nD (f :: st).reverse).dropLast = nD st.reverse := by simp [nD]
            simp only [bmd, ho, bml, q1, q2]
            rfl
          rw [if_neg h1, if_pos h2]
          dsimp only
          have em := fun h => meml_ii (h := h) (p : Int) (f : Int) (i : Int)
          by_cases hp : p = f ∨ p = i
          · have hp' : (p : Int) = f ∨ (p : Int) = i := by omega
            have e3 : exes T cl pairB [some t0, some (.int (p : Int)), some (.str [a]), some (.str [o]), some (.ref k0), some (.int (i : Int)), some (.str [c]), x7] h = .ok (.rt (.int ((i : Int) + f - p))) (h.put k0 (.lst (nD st.reverse))) := by
              simp -implicitDefEqProofs [-eqh_2, pairB, getV, cmp, eqh_sign, h1, h2, Ne.symm hao, e5, e6, e2, e7, em, hp']
            refine ⟨x5, x6, x7, h.put k0 (.lst (nD st.reverse)), ?_⟩
            rw [e3, bind_ok, for2_r, if_pos hp]
            dsimp only
            congr 3
            omega
          · have hp' : ¬ ((p : Int) = f ∨ (p : Int) = i) := by omega
            have e3 : exes T cl pairB [some t0, some (.int (p : Int)), some (.str [a]), some (.str [o]), some (.ref k0), some (.int (i : Int)), some (.str [c]), x7] h = .ok (.nx [some t0, some (.int (p : Int)), some (.str [a]), some (.str [o]), some (.ref k0), some (.int (i : Int)), some (.str [c]), some (.int (f : Int))]) (h.put k0 (.lst (nD st.reverse))) := by
              simp -implicitDefEqProofs [-eqh_2, pairB, getV, cmp, eqh_sign, h1, h2, Ne.symm hao, e5, e6, e2, e7, em, hp']
            obtain ⟨y5, y6, y7, h', e4⟩ := pair_in hw t0 a o p k0 hao r (i + 1) st (some (.int (i : Int))) (some (.str [c])) (some (.int (f : Int))) _ (put_same h k0 _) (by rw [List.length_cons] at hs; omega) (by omega)
            exact ⟨y5, y6, y7, h', by rw [e3, bind_ok, for2_n, if_neg hp, e4]⟩
      · have e3 : exes T cl pairB [some t0, some (.int (p : Int)), some (.str [a]), some (.str [o]), some (.ref k0), some (.int (i : Int)), some (.str [c]), x7] h = .ok (.nx [some t0, some (.int (p : Int)), some (.str [a]), some (.str [o]), some (.ref k0), some (.int (i : Int)), some (.str [c]), x7]) h := by
          simp -implicitDefEqProofs [pairB, getV, cmp, eqd_sign, h1, h2]
        obtain ⟨y5, y6, y7, h', e4⟩ := pair_in hw t0 a o p k0 hao r (i + 1) st (some (.int (i : Int))) (some (.str [c])) x7 _ ho (by omega) (by omega)
        exact ⟨y5, y6, y7, h', by rw [e3, bind_ok, for2_n, if_neg h1, if_neg h2, e4]⟩
def pairO : Ss := (.cons (.set 4 (.mut (.lst .nil))) (.cons (.for_ (.tp [5, 6]) .enm (.var 0) (.lit .non) pairB) .nil))
theorem pair_out {cl : Calls} (t : List Nat) (a o p : Nat) (hao : a ≠ o) (hl : t.length ≤ 1000000) (x4 x5 x6 x7 : Option D) (h : Hs) :
    ∃ y4 y5 y6 y7 h', exes T cl pairO [some (.str t), some (.int (p : Int)), some (.str [a]), some (.str [o]), x4, x5, x6, x7] h
      = .ok (match pairGo a o p t 0 [] with | some q => .rt (.int (q : Int)) | none => .nx [some (.str t), some (.int (p : Int)), some (.str [a]), some (.str [o]), y4, y5, y6, y7]) h' := by
  obtain ⟨y5, y6, y7, h', e⟩ := pair_in (T := T) (cl := cl) (w := ⟨enums 0 (t.map fun c => D.str [c]), none⟩) rfl (.str t) a o p h.n hao t 0 [] x5 x6 x7 (h.new (.lst [])) (new_o h _) (by simp) (by omega)
  refine ⟨some (.ref h.n), y5, y6, y7, h', ?_⟩
  have e1 : exes T cl pairO [some (.str t), some (.int (p : Int)), some (.str [a]), some (.str [o]), x4, x5, x6, x7] h = (forGo ⟨enums 0 (t.map fun c => D.str [c]), none⟩ (.tp [5, 6]) (exes T cl pairB) (enums 0 (t.map fun c => D.str [c])) [some (.str t), some (.int (p : Int)), some (.str [a]), some (.str [o]), some (.ref h.n), x5, x6, x7] (h.new (.lst []))).bind fun o h => seq2 T cl .nil o h := by
    simp -implicitDefEqProofs [pairO, getV, mutd, itv, seqw, seqd]
  rw [e1, e]
  cases pairGo a o p t 0 [] <;> rfl
theorem r_pair (b : LP T) (n : Nat) (t : List Nat) (p : Nat) (hl : t.length ≤ 1000000) : ∃ h', run T (n + 1) 38 [.str t, .int (p : Int)] h = .ok (oN (partner t p)) h' := by
  rw [run_s b.f38 rfl, ← pairAll_eq]
  have e0 : exes T (run T n) i_law_pair.body (env0 i_law_pair [.str t, .int (p : Int)]) h = (forGo ⟨[.tup [.str [40], .str [41]], .tup [.str [91], .str [93]], .tup [.str [123], .str [125]]], none⟩ (.tp [2, 3]) (exes T (run T n) pairO) [.tup [.str [40], .str [41]], .tup [.str [91], .str [93]], .tup [.str [123], .str [125]]] [some (.str t), some (.int (p : Int)), none, none, none, none, none, none] h).bind fun o h => seq2 T (run T n) (.cons (.ret (.lit .non)) .nil) o h := by
    simp -implicitDefEqProofs [i_law_pair, env0, itv, seqw, seqd, pairO, pairB]
  have tg : ∀ (a o : Nat) (x2 x3 x4 x5 x6 x7 : Option D) h, tgt (.tp [2, 3]) (.tup [.str [a], .str [o]]) [some (.str t), some (.int (p : Int)), x2, x3, x4, x5, x6, x7] h = .ok [some (.str t), some (.int (p : Int)), some (.str [a]), some (.str [o]), x4, x5, x6, x7] h := fun a o x2 x3 x4 x5 x6 x7 h => by simp [tgt]
  obtain ⟨y4, y5, y6, y7, h1, e1⟩ := pair_out (T := T) (cl := run T n) t 40 41 p (by decide) hl none none none none h
  obtain ⟨z4, z5, z6, z7, h2, e2⟩ := pair_out (T := T) (cl := run T n) t 91 93 p (by decide) hl y4 y5 y6 y7 h1
  obtain ⟨w4, w5, w6, w7, h3, e3⟩ := pair_out (T := T) (cl := run T n) t 123 125 p (by decide) hl z4 z5 z6 z7 h2
  rw [e0]
  unfold pairAll
  rw [for_c rfl, tg, bind_ok, e1, bind_ok]
  cases pairGo 40 41 p t 0 [] with
  | some q => exact ⟨h1, rfl⟩
  | none =>
    dsimp only
    rw [for2_n, for_c rfl, tg, bind_ok, e2, bind_ok]
    cases pairGo 91 93 p t 0 [] with
    | some q => exact ⟨h2, rfl⟩
    | none =>
      dsimp only
      rw [for2_n, for_c rfl, tg, bind_ok, e3, bind_ok]
      cases pairGo 123 125 p t 0 [] with
      | some q => exact ⟨h3, rfl⟩
      | none =>
        dsimp only
        rw [for2_n, for_n rfl]
        exact ⟨h3, rfl⟩
theorem c_pair (b : LP T) (n : Nat) (t : List Nat) (p : Nat) (hl : t.length ≤ 1000000) (h : Hs) : callF T (run T (n + 1)) 38 [.str t, .int (p : Int)] h = .ok (oN (partner t p)) h := by
  obtain ⟨h', e⟩ := r_pair (h := Hs.nil) b n t p hl
  exact call_p b.f38 rfl rfl e (oN_rl _)
theorem lg_pair (b : LP T) (n : Nat) (t : List Nat) (p : Nat) (mk : D) (hl : t.length ≤ 10000) (hp : p ≤ t.length) : run T (n + 3) 40 [.str t, .int (p : Int), moD .pair, .non, mk, .non] h = .ok (oN (goesN t p .pair)) h := by
  have e1 := c_rowsN b.toLG (n + 1) t hl
  have e2 := c_spotN b.toLG (n + 1) t p hl hp
  have e3 := c_pair b (n + 1) t p (by omega)
  have i1 : ∀ a : D, ati [a] 0 = some a := fun _ => rfl
  have e : goesN t p .pair = partner t p := rfl
  rw [run_s b.f40 rfl, e]
  simp -implicitDefEqProofs [i_law_goes, env0, getV, moD, subs_tup0, i1, e1, e2, tgt, cmp, mem, mem2, mem3, e3, outD]
/-! ### find -/
theorem sg_row (t : List Nat) (p j : Nat) (hp : p ≤ t.length) (hj : j < (rowT t p).length) : sg (rowT t p) j = sg t (bk t p + j) := by
  unfold sg rowT
  rw [List.getElem?_take, List.getElem?_drop, if_pos (by
    unfold rowT at hj
    rw [List.length_take] at hj
    omega)]
theorem fndR_row (t : List Nat) (p c : Nat) (hp : p ≤ t.length) : (((List.range ((rowT t p).length - (p - bk t p + 1))).map (p - bk t p + 1 + ·)).filter fun i => decide (sg (rowT t p) i = c)).map (bk t p + ·) = fndR t p c := by
  have ⟨_, _, r3⟩ := row_at t p hp
  have hb := bk_le t p
  unfold fndR
  have e1 : fw t p - (p + 1) = (rowT t p).length - (p - bk t p + 1) := by omega
  have e2 : ((List.range (fw t p - (p + 1))).map (p + 1 + ·)) = ((List.range ((rowT t p).length - (p - bk t p + 1))).map (p - bk t p + 1 + ·)).map (bk t p + ·) := by
    rw [e1, List.map_map]
    apply List.map_congr_left
    intro i _
    show p + 1 + i = bk t p + (p - bk t p + 1 + i)
    omega
  conv => rhs; rw [e2, List.filter_map]
  congr 1
  apply List.filter_congr
  intro i hi
  obtain ⟨j, hj, rfl⟩ := List.mem_map.mp hi
  have hj := List.mem_range.mp hj
  show decide (sg (rowT t p) (p - bk t p + 1 + j) = c) = decide (sg t (bk t p + (p - bk t p + 1 + j)) = c)
  rw [sg_row t p _ hp (by omega)]
theorem fndR_gt (t : List Nat) (p c : Nat) : ∀ i ∈ fndR t p c, p < i := by
  intro i hi
  obtain ⟨h1, _⟩ := List.mem_filter.mp hi
  obtain ⟨j, _, rfl⟩ := List.mem_map.mp h1
  show p < p + 1 + j
  omega
theorem i13 (a b c : D) : ati [a, b, c] 1 = some b := rfl
theorem i23 (a b c : D) : ati [a, b, c] 2 = some c := rfl
theorem lg_find (b : LG T) (n : Nat) (t : List Nat) (p c k : Nat) (mk : D) (hl : t.length ≤ 10000) (hp : p ≤ t.length) (hk : 1 ≤ k) : run T (n + 3) 40 [.str t, .int (p : Int), moD (.find c k), .non, mk, .non] h = .ok (oN (goesN t p (.find c k))) h := by
  have e1 := c_rowsN b (n + 1) t hl
  have e2 := c_spotN b (n + 1) t p hl hp
  have ⟨r1, r2, r3⟩ := row_at t p hp
  have e3 := fun h => subs_rows (h := h) (rows t) (rowN t p) _ r1
  have hrl : (rowT t p).length ≤ 10000 := by
    have := rows_row t _ (List.mem_of_getElem? r1)
    omega
  have hbk := bk_le t p
  have hrb : (rowT t p).length ≤ big := by rw [big_v]; omega
  have e4 := fun h => len_str (h := h) (rowT t p) hrb
  have er : okRange ((rowT t p).length : Int) = true := okRange_t (by omega) (by omega)
  have er1 : okRange (((p - bk t p : Nat) : Int) + 1) = true := okRange_t (by omega) (by omega)
  let xs := ((List.range ((rowT t p).length - (p - bk t p + 1))).map (p - bk t p + 1 + ·)).filter fun i => decide (sg (rowT t p) i = c)
  have hr : range (((p - bk t p : Nat) : Int) + 1) (((rowT t p).length : Int) - (((p - bk t p : Nat) : Int) + 1)).toNat = nD ((List.range ((rowT t p).length - (p - bk t p + 1))).map (p - bk t p + 1 + ·)) := by
    have q1 : (((rowT t p).length : Int) - (((p - bk t p : Nat) : Int) + 1)).toNat = (rowT t p).length - (p - bk t p + 1) := by omega
    have q2 : ((p - bk t p : Nat) : Int) + 1 = ((p - bk t p + 1 : Nat) : Int) := by omega
    rw [q1, q2, range_nD]
  have e5 : ∀ h, lcGo ⟨range (((p - bk t p : Nat) : Int) + 1) (((rowT t p).length : Int) - (((p - bk t p : Nat) : Int) + 1)).toNat, none⟩ [some (.str t), some (.int (p : Int)), some (moD (.find c k)), some .non, some mk, some .non, some (.str wFind), some (.lst ((rows t).map D.str)), some (.int (rowN t p : Int)), some (.int ((p - bk t p : Nat) : Int)), none, none, none, none] (.nm 12) (ev T (run T (n + 2)) (.cmp .eq (.sub (.sub (.var 7) (.var 8)) (.var 12)) (.sub (.var 2) (.lit (.int 1))))) (ev T (run T (n + 2)) (.var 12)) (range (((p - bk t p : Nat) : Int) + 1) (((rowT t p).length : Int) - (((p - bk t p : Nat) : Int) + 1)).toNat) [] h = .ok (nD xs) h := by
    intro h
    rw [hr]
    refine (lc_nat (fun x => [some (.str t), some (.int (p : Int)), some (moD (.find c k)), some .non, some mk, some .non, some (.str wFind), some (.lst ((rows t).map D.str)), some (.int (rowN t p : Int)), some (.int ((p - bk t p : Nat) : Int)), none, none, some x, none]) (fun i => decide (sg (rowT t p) i = c)) (fun i => .int (i : Int)) rfl _ h (fun x _ => rfl) (fun x hx => ?_) (fun x _ _ => rfl) (by simp; omega)).trans rfl
    obtain ⟨j, hj, rfl⟩ := List.mem_map.mp hx
    have hj := List.mem_range.mp hj
    have q1 := fun h => subs_at (h := h) (rowT t p) (p - bk t p + 1 + j) hrb (by omega)
    generalize p - bk t p + 1 + j = x at *
    simp -implicitDefEqProofs only [e_cmp, e_sub, e_var, e_lit, getV, List.getElem?_cons_succ, List.getElem?_cons_zero, bind_ok, e3, q1]
    simp -implicitDefEqProofs [moD, subs_tup0, i13, cmp, eqd_sign]
  have hxl : xs.length ≤ (rowT t p).length := by
    refine Nat.le_trans (List.length_filter_le _ _) ?_
    simp
  have e6 := fun h => len_lst (h := h) (nD xs)
  rw [nD_len] at e6
  have e7 : goesN t p (.find c k) = (xs.map (bk t p + ·))[k - 1]? := by
    show nthB (fndR t p c) p k = _
    unfold nthB
    rw [List.filter_eq_self.mpr (fun i hi => decide_eq_true (fndR_gt t p c i hi)), ← fndR_row t p c hp]
  rw [run_s b.f40 rfl, e7]
  simp only [moD] at e5
  generalize xs = xs at *
  have q0 : (p : Int) - ((p - bk t p : Nat) : Int) = (bk t p : Int) := by omega
  by_cases hc : k ≤ xs.length
  · have hc' : (k : Int) ≤ (xs.length : Int) := by omega
    have e8 := fun h => subs_nD (h := h) xs (k - 1) (by omega)
    have q1 : ((k - 1 : Nat) : Int) = (k : Int) - 1 := by omega
    rw [q1] at e8
    rw [List.getElem?_map]
    rw [List.getElem?_eq_getElem (by omega)] at e8 ⊢
    simp only [oN] at e8
    simp -implicitDefEqProofs [i_law_goes, env0, getV, moD, subs_tup0, i03, i13, i23, e1, e2, tgt, cmp, mem, mem2, mem3, e3, e4, itv, er, er1, e5, unl, e6, hc', e8, q0, outD, oN]
  · have hc' : ¬ ((k : Int) ≤ (xs.length : Int)) := by omega
    rw [List.getElem?_eq_none (by rw [List.length_map]; omega)]
    simp -implicitDefEqProofs [i_law_goes, env0, getV, moD, subs_tup0, i03, i13, i23, e1, e2, tgt, cmp, mem, mem2, mem3, e3, e4, itv, er, er1, e5, unl, e6, hc', outD, oN]
end
end Ed

/-! part L5 -/
set_option maxRecDepth 100000
set_option maxHeartbeats 4000000
/-! The law's own search, and all its motions. -/
namespace Ed
open Ev
structure LN (T : Tbl) : Prop extends LP T where
  f36 : T.fn 36 = some i_law_starts
  f37 : T.fn 37 = some i_law_next
section
variable {T : Tbl} {h : Hs}
theorem c_starts (b : LN T) (n : Nat) (t pat : List Nat) (hl : t.length ≤ 1000000) (hl2 : pat.length ≤ 1000000) (h : Hs) : callF T (run T (n + 1)) 36 [.str t, .str pat] h = .ok (.lst (nD (fnd t pat))) h := by
  refine call_p b.f36 rfl rfl (h' := Hs.nil) ?_ (nD_rl _)
  rw [run_s b.f36 rfl]
  have hb : t.length ≤ big := Nat.le_trans hl (by decide)
  have hb2 : pat.length ≤ big := Nat.le_trans hl2 (by decide)
  have e0 := fun h => len_str (h := h) t hb
  have e00 := fun h => len_str (h := h) pat hb2
  have er : okRange (t.length : Int) = true := okRange_t (by omega) (by omega)
  have e1 : lcGo ⟨range 0 t.length, none⟩ [some (.str t), some (.str pat), none] (.nm 2) (ev T (run T n) (.cmp .eq (.slc (.var 0) (.var 2) (.bin .add (.var 2) (.blt .len (.cons (.var 1) .nil)))) (.var 1))) (ev T (run T n) (.var 2)) (range 0 t.length) [] Hs.nil = .ok (((List.range t.length).filter fun i => decide ((t.drop i).take pat.length = pat)).map fun (i : Nat) => .int (i : Int)) Hs.nil := by
    rw [range_nD0]
    refine lc_nat (fun x => [some (.str t), some (.str pat), some x]) (fun i => decide ((t.drop i).take pat.length = pat)) (fun i => .int (i : Int)) rfl _ _ (fun x _ => rfl) (fun x hx => ?_) (fun x _ _ => rfl) (by simpa using hb)
    have e2 := fun h => slice_mid (h := h) t x pat.length hb (Nat.le_of_lt (List.mem_range.mp hx))
    simp [getV, e00, e2, cmp]
  rw [nD_map] at e1
  simp -implicitDefEqProofs [i_law_starts, env0, getV, e0, itv, er, e1, unl, outD, fnd]
/-! ### the least pair -/
theorem ltP_total (a b : Bool × Int) (h1 : ltP a b = false) (h2 : ltP b a = false) : a = b := by
  obtain ⟨a1, a2⟩ := a
  obtain ⟨b1, b2⟩ := b
  unfold ltP at h1 h2
  dsimp only at h1 h2
  by_cases e : a1 = b1
  · subst e
    rw [if_pos rfl] at h1 h2
    have h1 := of_decide_eq_false h1
    have h2 := of_decide_eq_false h2
    have : a2 = b2 := by omega
    rw [this]
  · rw [if_neg e] at h1
    rw [if_neg (Ne.symm e)] at h2
    cases a1 <;> cases b1 <;> simp_all
theorem ltP_trans (a b c : Bool × Int) (h1 : ltP a b = true) (h2 : ltP b c = true) : ltP a c = true := by
  obtain ⟨a1, a2⟩ := a
  obtain ⟨b1, b2⟩ := b
  obtain ⟨c1, c2⟩ := c
  unfold ltP at h1 h2 ⊢
  dsimp only at h1 h2 ⊢
  cases a1 <;> cases b1 <;> cases c1 <;> simp at h1 h2 ⊢ <;> omega
theorem ltP_irr (a : Bool × Int) : ltP a a = false := by
  unfold ltP
  simp
theorem minP_ok : ∀ (r : List (Bool × Int)) (m : Bool × Int), minP r m ∈ m :: r ∧ ∀ y ∈ m :: r, ltP y (minP r m) = false
  | [], m => ⟨List.mem_cons_self .., fun y hy => by
    rw [List.mem_singleton] at hy
    rw [hy]
    exact ltP_irr m⟩
  | x :: r, m => by
    have e : minP (x :: r) m = minP r (if ltP x m = true then x else m) := rfl
    rw [e]
    obtain ⟨h1, h2⟩ := minP_ok r (if ltP x m = true then x else m)
    by_cases c : ltP x m = true
    · rw [if_pos c] at h1 h2 ⊢
      refine ⟨List.mem_cons_of_mem _ h1, fun y hy => ?_⟩
      rcases List.mem_cons.mp hy with rfl | hy
      · cases q : ltP y (minP r x) with
        | false => rfl
        | true =>
          have := ltP_trans _ _ _ c q
          rw [h2 x (List.mem_cons_self ..)] at this
          exact this.symm
      · exact h2 y hy
    · rw [if_neg c] at h1 h2 ⊢
      refine ⟨?_, fun y hy => ?_⟩
      · rcases List.mem_cons.mp h1 with h1 | h1
        · rw [h1]; exact List.mem_cons_self ..
        · exact List.mem_cons_of_mem _ (List.mem_cons_of_mem _ h1)
      · rcases List.mem_cons.mp hy with rfl | hy
        · exact h2 y (List.mem_cons_self ..)
        · rcases List.mem_cons.mp hy with rfl | hy
          · cases q : ltP y (minP r m) with
            | false => rfl
            | true =>
              have h3 := h2 m (List.mem_cons_self ..)
              cases q2 : ltP m y with
              | true => rw [ltP_trans _ _ _ q2 q] at h3; exact h3
              | false =>
                have := ltP_total m y q2 (by simpa using c)
                rw [← this] at q
                exact q.symm.trans h3
          · exact h2 y (List.mem_cons_of_mem _ hy)
theorem fnd_sorted (t pat : List Nat) : (fnd t pat).Pairwise (· < ·) := List.Pairwise.filter _ List.pairwise_lt_range
/-- the search on is the least by the pair -/
theorem srOn_min (t pat : List Nat) (p a : Nat) (xs : List Nat) (e : fnd t pat = a :: xs) : ∃ b v, minP (xs.map fun (i : Nat) => (decide (i ≤ p), (i : Int))) (decide (a ≤ p), (a : Int)) = (b, ((v : Nat) : Int)) ∧ srOn t p pat = some v := by
  obtain ⟨h1, h2⟩ := minP_ok (xs.map fun (i : Nat) => (decide (i ≤ p), (i : Int))) (decide (a ≤ p), (a : Int))
  have hs := fnd_sorted t pat
  rw [e] at hs
  have hmap : (decide (a ≤ p), (a : Int)) :: (xs.map fun (i : Nat) => (decide (i ≤ p), (i : Int))) = (a :: xs).map fun (i : Nat) => (decide (i ≤ p), (i : Int)) := rfl
  rw [hmap] at h1 h2
  -- the candidate
  obtain ⟨v, hv, hsr, hle⟩ : ∃ v, v ∈ a :: xs ∧ srOn t p pat = some v ∧ ∀ y ∈ a :: xs, ltP (decide (y ≤ p), (y : Int)) (decide (v ≤ p), (v : Int)) = false := by
    obtain ⟨l, el⟩ : ∃ l, (a :: xs).getLast? = some l := ⟨_, List.getLast?_eq_some_getLast (by simp)⟩
    have hlm : l ∈ a :: xs := List.mem_of_getLast? el
    have hll : ∀ y ∈ a :: xs, y ≤ l := by
      intro y hy
      have hp := hs
      obtain ⟨ys, eys⟩ : ∃ ys, a :: xs = ys ++ [l] := by
        rw [List.getLast?_eq_some_iff] at el
        exact el
      rw [eys] at hy hp
      rcases List.mem_append.mp hy with hy | hy
      · exact Nat.le_of_lt ((List.pairwise_append.mp hp).2.2 y hy l (by simp))
      · rw [List.mem_singleton] at hy
        omega
    unfold srOn
    rw [e, el]
    dsimp only
    by_cases hp : p < l
    · rw [if_pos hp]
      unfold nthB
      have hmem : l ∈ (a :: xs).filter fun i => decide (p < i) := List.mem_filter.mpr ⟨hlm, decide_eq_true hp⟩
      cases hf : (a :: xs).filter fun i => decide (p < i) with
      | nil => rw [hf] at hmem; exact nomatch hmem
      | cons v vs =>
        have hvm : v ∈ (a :: xs).filter fun i => decide (p < i) := by rw [hf]; exact List.mem_cons_self ..
        obtain ⟨hv1, hv2⟩ := List.mem_filter.mp hvm
        have hv2 := of_decide_eq_true hv2
        refine ⟨v, hv1, rfl, fun y hy => ?_⟩
        have hsf : (v :: vs).Pairwise (· < ·) := by rw [← hf]; exact List.Pairwise.filter _ hs
        unfold ltP
        rw [decide_eq_false (show ¬ v ≤ p by omega)]
        by_cases hy2 : y ≤ p
        · rw [decide_eq_true hy2]
          rfl
        · rw [decide_eq_false hy2]
          dsimp only
          rw [if_pos rfl]
          have hym : y ∈ v :: vs := by rw [← hf]; exact List.mem_filter.mpr ⟨hy, decide_eq_true (by omega)⟩
          refine decide_eq_false ?_
          rcases List.mem_cons.mp hym with rfl | hym
          · omega
          · have := (List.pairwise_cons.mp hsf).1 y hym
            omega
    · rw [if_neg hp]
      refine ⟨a, List.mem_cons_self .., rfl, fun y hy => ?_⟩
      have h1 := hll y hy
      have h2 := hll a (List.mem_cons_self ..)
      unfold ltP
      rw [decide_eq_true (show y ≤ p by omega), decide_eq_true (show a ≤ p by omega)]
      dsimp only
      rw [if_pos rfl]
      refine decide_eq_false ?_
      rcases List.mem_cons.mp hy with rfl | hy
      · omega
      · have := (List.pairwise_cons.mp hs).1 y hy
        omega
  obtain ⟨u, hu, eu⟩ := List.mem_map.mp h1
  have e1 := hle u hu
  have e2 := h2 (decide (v ≤ p), (v : Int)) (List.mem_map.mpr ⟨v, hv, rfl⟩)
  rw [← eu] at e2 ⊢
  have e3 := ltP_total _ _ e1 e2
  exact ⟨_, v, e3, hsr⟩
theorem pairsOf_map (xs : List Nat) (f : Nat → Bool) : pairsOf (xs.map fun (i : Nat) => D.tup [.bl (f i), .int (i : Int)]) = some (xs.map fun (i : Nat) => (f i, (i : Int))) := by
  induction xs with
  | nil => rfl
  | cons a xs ih =>
    rw [List.map_cons, pairsOf, ih]
    rfl
theorem intsOf_pairs (a : Nat) (xs : List Nat) (f : Nat → Bool) : intsOf ((a :: xs).map fun (i : Nat) => D.tup [.bl (f i), .int (i : Int)]) = none := rfl
theorem min_pairs (a : Nat) (xs : List Nat) (f : Nat → Bool) : blt .min [.lst ((a :: xs).map fun (i : Nat) => D.tup [.bl (f i), .int (i : Int)])] h = .ok (prD (minP (xs.map fun (i : Nat) => (f i, (i : Int))) (f a, (a : Int)))) h := by
  have e : pairsOf ((a :: xs).map fun (i : Nat) => D.tup [.bl (f i), .int (i : Int)]) = some ((f a, (a : Int)) :: xs.map fun (i : Nat) => (f i, (i : Int))) := pairsOf_map (a :: xs) f
  simp only [blt, blt1, minD, lsts, Option.bind_some, intsOf_pairs, minPD, e]
theorem c_next (b : LN T) (n : Nat) (t pat : List Nat) (p : Nat) (hl : t.length ≤ 1000000) (hl2 : pat.length ≤ 1000000) (h : Hs) : callF T (run T (n + 2)) 37 [.str t, .int (p : Int), .str pat, .bl true] h = .ok (oN (srOn t p pat)) h := by
  refine call_p b.f37 rfl rfl (h' := Hs.nil) ?_ (oN_rl _)
  rw [run_s b.f37 rfl]
  have e1 := c_starts b n t pat hl hl2
  have hf := fnd_len t pat
  cases e : fnd t pat with
  | nil =>
    have e2 : srOn t p pat = none := by simp [srOn, e]
    rw [e] at e1
    have e3 := eqd_nil []
    simp -implicitDefEqProofs [i_law_next, env0, getV, e1, cmp, e3, outD, e2, oN]
  | cons a xs =>
    obtain ⟨bb, v, e4, e5⟩ := srOn_min t pat p a xs e
    have e3 := eqd_nil (a :: xs)
    have e6 : lcGo ⟨nD (a :: xs), none⟩ [some (.str t), some (.int (p : Int)), some (.str pat), some (.bl true), some (.lst (nD (a :: xs))), none] (.nm 5) (ev T (run T (n + 1)) (.lit (.bl true))) (ev T (run T (n + 1)) (.tup (.cons (.cmp .le (.var 5) (.var 1)) (.cons (.var 5) .nil)))) (nD (a :: xs)) [] Hs.nil = .ok ((a :: xs).map fun (i : Nat) => D.tup [.bl (decide (i ≤ p)), .int (i : Int)]) Hs.nil := by
      refine (lc_nat (fun x => [some (.str t), some (.int (p : Int)), some (.str pat), some (.bl true), some (.lst (nD (a :: xs))), some x]) (fun _ => true) (fun (i : Nat) => D.tup [.bl (decide (i ≤ p)), .int (i : Int)]) rfl (a :: xs) Hs.nil (fun x _ => rfl) (fun x _ => rfl) (fun x _ _ => ?_) (by rw [← e, big_v]; omega)).trans ?_
      · simp [getV, cmp]
      · rw [List.filter_eq_self.mpr (fun _ _ => rfl)]
    have e7 := min_pairs (h := Hs.nil) a xs (fun i => decide (i ≤ p))
    rw [e4] at e7
    rw [e] at e1
    have e8 : subs (prD (bb, (v : Int))) (.int 1) Hs.nil = .ok (.int (v : Int)) Hs.nil := rfl
    simp only [List.isEmpty_cons] at e3
    rw [e5]
    simp only [List.map_cons] at e6 e7
    simp -implicitDefEqProofs [i_law_next, env0, getV, e1, cmp, e3, itv, seqw, seqd, e6, unl, e7, e8, outD, oN]
theorem lg_search (b : LN T) (n : Nat) (t w : List Nat) (p : Nat) (mk : D) (hl : t.length ≤ 10000) (hp : p ≤ t.length) (hw : w.length ≤ 1000) : run T (n + 3) 40 [.str t, .int (p : Int), moD (.search w), .non, mk, .non] h = .ok (oN (goesN t p (.search w))) h := by
  have e1 := c_rowsN b.toLG (n + 1) t hl
  have e2 := c_spotN b.toLG (n + 1) t p hl hp
  have e3 := c_next b n t w p (by omega) (by omega)
  have e : goesN t p (.search w) = srOn t p w := rfl
  rw [run_s b.f40 rfl, e]
  simp -implicitDefEqProofs [i_law_goes, env0, getV, moD, subs_tup0, ati0, ati1, e1, e2, tgt, cmp, mem, mem2, mem3, e3, outD]
theorem lg_mark (b : LG T) (n : Nat) (t : List Nat) (p c : Nat) (mk : D) (hl : t.length ≤ 10000) (hp : p ≤ t.length) (hmk : MkOk h mk (fun _ => none)) : run T (n + 3) 40 [.str t, .int (p : Int), moD (.mark c), .non, mk, .non] h = .ok (oN (goesN t p (.mark c))) h := by
  have e1 := c_rowsN b (n + 1) t hl
  have e2 := c_spotN b (n + 1) t p hl hp
  have e3 := hmk.ty
  have e4 := hmk.get [c]
  have e : goesN t p (.mark c) = none := rfl
  rw [run_s b.f40 rfl, e]
  simp -implicitDefEqProofs [i_law_goes, env0, getV, moD, subs_tup0, ati0, ati1, e1, e2, tgt, cmp, mem, mem2, mem3, e3, e4, outD]
theorem lg_ab (b : LG T) (n : Nat) (t : List Nat) (p : Nat) (m : Mo) (mk : D) (hl : t.length ≤ 10000) (hp : p ≤ t.length) (hm : m = .again ∨ m = .before) : run T (n + 3) 40 [.str t, .int (p : Int), moD m, .non, mk, .non] h = .ok (oN (goesN t p m)) h := by
  have e1 := c_rowsN b (n + 1) t hl
  have e2 := c_spotN b (n + 1) t p hl hp
  have i1 : ∀ a : D, ati [a] 0 = some a := fun _ => rfl
  have e : goesN t p m = none := by rcases hm with rfl | rfl <;> rfl
  rw [run_s b.f40 rfl, e]
  rcases hm with rfl | rfl <;> simp -implicitDefEqProofs [i_law_goes, env0, getV, moD, subs_tup0, i1, e1, e2, tgt, cmp, mem, mem2, mem3, outD, oN]
/-- all motions -/
theorem lg_all (b : LN T) (n : Nat) (t : List Nat) (p : Nat) (m : Mo) (mk : D) (hl : t.length ≤ 10000) (hp : p ≤ t.length) (hm : m.ok) (hmk : MkOk h mk (fun _ => none)) : Ret (run T (n + 3) 40 [.str t, .int (p : Int), moD m, .non, mk, .non] h) h (oN (goesN t p m)) := by
  have g := b.toLG
  cases m with
  | left k => exact .of (lg_left g (n + 1) t p k mk hl hp hm.1)
  | right k => exact .of (lg_right g (n + 1) t p k mk hl hp hm.1)
  | up k => exact .of (lg_up g (n + 1) t p k mk hl hp)
  | down k => exact .of (lg_down g (n + 1) t p k mk hl hp)
  | word k => exact .of (lg_words g n t p _ k mk hm.1 hl hp (.inl rfl))
  | back k => exact .of (lg_words g n t p _ k mk hm.1 hl hp (.inr (.inl rfl)))
  | over k => exact .of (lg_words g n t p _ k mk hm.1 hl hp (.inr (.inr rfl)))
  | mBegin => exact lg_bef g n t p _ mk hl hp (.inl rfl)
  | mEnd => exact lg_bef g n t p _ mk hl hp (.inr (.inl rfl))
  | first => exact lg_bef g n t p _ mk hl hp (.inr (.inr rfl))
  | top => exact .of (lg_tb g n t p _ mk hl hp (.inl rfl))
  | bottom => exact .of (lg_tb g n t p _ mk hl hp (.inr rfl))
  | pair => exact .of (lg_pair b.toLP n t p mk hl hp)
  | row k => exact .of (lg_row g n t p k mk hl hp hm.1)
  | find c k => exact .of (lg_find g n t p c k mk hl hp hm.2.1)
  | mark c => exact .of (lg_mark g n t p c mk hl hp hmk)
  | search w => exact .of (lg_search b n t w p mk hl hp (by have := hm.2.1; omega))
  | again => exact .of (lg_ab g n t p _ mk hl hp (.inl rfl))
  | before => exact .of (lg_ab g n t p _ mk hl hp (.inr rfl))
end
end Ed

/-! part Lw -/
set_option maxRecDepth 100000
set_option maxHeartbeats 4000000
/-! What the laws' bodies share. -/
namespace Ed
open Ev
section
variable {T : Tbl}
theorem tw0 : (Hs.nil.new (.lst [])) = tw (Hs.nil.new (.lst [])) 0 := by
  unfold tw Hs.new Hs.put Hs.nil zs
  congr 1
  funext j
  by_cases e : j = 0 <;> simp [e]
theorem many_draw (b : BD T) (n : Nat) (ns : List Int) (h : Hs) (k : Nat) (hk : k < 1000000) :
    ∃ (m : Nat) (a : Int), in9 m ∧ callF T (run T (n + 6)) 28 [.scr ns, .ref 0, .lst [.int 1, .int 2, .int 3, .int 9]] (tw h k) = .ok (.int a) (tw h (k + 1)) ∧ callF T (run T (n + 6)) 27 [.scr ns, .ref 0, .int a] (tw h (k + 1)) = .ok (.int ((m : Int) - 1)) (tw h (k + 1 + 1)) := by
  have e1 := c_pickl b (n + 2) ns h k [.int 1, .int 2, .int 3, .int 9] (by simp) (by omega)
  have e2 := pk_mem ns k [.int 1, .int 2, .int 3, .int 9] (by simp)
  have go : ∀ a : Int, 1 ≤ a → a ≤ 9 → pk ns k [.int 1, .int 2, .int 3, .int 9] = .int a → ∃ (m : Nat) (a : Int), in9 m ∧ callF T (run T (n + 6)) 28 [.scr ns, .ref 0, .lst [.int 1, .int 2, .int 3, .int 9]] (tw h k) = .ok (.int a) (tw h (k + 1)) ∧ callF T (run T (n + 6)) 27 [.scr ns, .ref 0, .int a] (tw h (k + 1)) = .ok (.int ((m : Int) - 1)) (tw h (k + 1 + 1)) := by
    intro a h1 h9 ea
    have e3 := c_draw b (n + 3) ns h (k + 1) a (by omega) (by omega)
    have a1 := mx_nn ns (k + 1 + 1) (m := a) (by omega)
    have a2 := mx_lt ns (k + 1 + 1) (m := a) (by omega)
    refine ⟨(mx ns (k + 1 + 1) a).toNat + 1, a, ⟨by omega, by omega⟩, by rw [e1, ea], ?_⟩
    rw [e3]
    congr 2
    omega
  simp at e2
  rcases e2 with e | e | e | e
  · exact go 1 (by decide) (by decide) e
  · exact go 2 (by decide) (by decide) e
  · exact go 3 (by decide) (by decide) e
  · exact go 9 (by decide) (by decide) e
theorem Ret.twn {x : R D} {h : Hs} {k : Nat} {d : D} (r : Ret x (tw h k) d) (hn : 0 < h.n) : ∃ h', x = .ok d (tw h' k) ∧ Hx h h' := by
  obtain ⟨h', e, rfl | ⟨o, rfl⟩⟩ := r
  · exact ⟨h, e, Hx.rfl⟩
  · exact ⟨h.new o, by rw [e, tw_new h k o hn], Hx.new _ _⟩
theorem dct0 (h : Hs) : dctd [] [] h = .ok (.ref h.n) (h.new (.dct [])) := (rfl)
def cmpE : E := (.cmp .ne (.call 24 (.cons (.var 2) (.cons (.var 4) (.cons (.var 6) .nil)))) (.call 40 (.cons (.var 2) (.cons (.var 4) (.cons (.var 6) (.cons (.lit .non) (.cons (.dct [] .nil) (.cons (.lit .non) .nil))))))))
end
end Ed

/-! part Dm -/
set_option maxRecDepth 100000
set_option maxHeartbeats 4000000
/-! Motions drawn. -/
namespace Ed
open Ev
structure BMo (T : Tbl) : Prop where
  d : BD T
  f42 : T.fn 42 = some i_law_motion
def noNl (t : List Nat) : List Nat := t.filter fun c => decide (c ≠ 10)
theorem noNl_len (t : List Nat) : (noNl t).length ≤ t.length := List.length_filter_le _ _
theorem noNl_sg (t : List Nat) (ht : isText t) : ∀ c ∈ noNl t, c ∈ signs [] := by
  intro c hc
  obtain ⟨h1, h2⟩ := List.mem_filter.mp hc
  have h3 := ht c h1
  unfold signs at h3 ⊢
  rcases List.mem_append.mp h3 with h3 | h3
  · exact List.mem_append.mpr (.inl h3)
  · rw [List.mem_singleton] at h3
    exact absurd h3 (of_decide_eq_true h2)
section
variable {T : Tbl} {h : Hs}
theorem rep_str (t : List Nat) (hl : t.length ≤ 1000000) : repd (.str t) h = .ok (.str (noNl t)) h := by
  simp only [repd, decide_eq_true hl, okIf]
  rfl
theorem bin_str (a b : List Nat) (hl : a.length + b.length ≤ big) : bin .add (.str a) (.str b) h = .ok (.str (a ++ b)) h := by
  simp only [bin, decide_eq_true hl, okIf]
theorem lrg_n (n : Nat) (hn : n ≤ 1000000) : lrgd (.int (n : Int)) h = .ok (.lst (nD (List.range n))) h := by
  have c1 : (0 : Int) ≤ (n : Int) := by omega
  have c2 : (n : Int) ≤ 1000000 := by omega
  simp only [lrgd, decide_eq_true c1, decide_eq_true c2, Bool.and_self, okIf]
  rw [Int.toNat_natCast, range_nD0]
/-- a sign of a text is drawn -/
theorem sign_draw (b : BD T) (n : Nat) (ns : List Int) (h : Hs) (k : Nat) (ss : List Nat) (h0 : 0 < ss.length) (hl : ss.length ≤ 1000000) (hk : k < 1000000) :
    ∃ (j c : Nat), c ∈ ss ∧ callF T (run T (n + 3)) 27 [.scr ns, .ref 0, .int (ss.length : Int)] (tw h k) = .ok (.int (j : Int)) (tw h (k + 1)) ∧ ∀ h, subs (.str ss) (.int (j : Int)) h = .ok (.str [c]) h := by
  have d1 := c_draw b n ns h k (ss.length : Int) (by omega) (by omega)
  have a1 := mx_nn ns (k + 1) (m := (ss.length : Int)) (by omega)
  have a2 := mx_lt ns (k + 1) (m := (ss.length : Int)) (by omega)
  obtain ⟨j, ej⟩ : ∃ j : Nat, mx ns (k + 1) (ss.length : Int) = j := ⟨(mx ns (k + 1) (ss.length : Int)).toNat, by omega⟩
  rw [ej] at d1 a2
  exact ⟨j, sg ss j, List.mem_of_getElem? (sg_at ss j (by omega)), d1, fun h => subs_at ss j (Nat.le_trans hl (by decide)) (by omega)⟩
/-- a number below m is drawn -/
theorem num_draw (b : BD T) (n : Nat) (ns : List Int) (h : Hs) (k : Nat) (m : Nat) (h0 : 0 < m) (hk : k < 1000000) :
    ∃ j : Nat, j < m ∧ callF T (run T (n + 3)) 27 [.scr ns, .ref 0, .int (m : Int)] (tw h k) = .ok (.int (j : Int)) (tw h (k + 1)) := by
  have d1 := c_draw b n ns h k (m : Int) (by omega) (by omega)
  have a1 := mx_nn ns (k + 1) (m := (m : Int)) (by omega)
  have a2 := mx_lt ns (k + 1) (m := (m : Int)) (by omega)
  obtain ⟨j, ej⟩ : ∃ j : Nat, mx ns (k + 1) (m : Int) = j := ⟨(mx ns (k + 1) (m : Int)).toNat, by omega⟩
  rw [ej] at d1 a2
  exact ⟨j, by omega, d1⟩
/-- one of some whole numbers is drawn, then a number below it -/
theorem pick_draw (b : BD T) (n : Nat) (ns : List Int) (h : Hs) (k : Nat) (xs : List Nat) (hx : xs ≠ []) (h1 : ∀ x ∈ xs, 0 < x) (hk : k < 990000) :
    ∃ a j : Nat, a ∈ xs ∧ j < a ∧ callF T (run T (n + 4)) 28 [.scr ns, .ref 0, .lst (nD xs)] (tw h k) = .ok (.int (a : Int)) (tw h (k + 1)) ∧ callF T (run T (n + 4)) 27 [.scr ns, .ref 0, .int (a : Int)] (tw h (k + 1)) = .ok (.int (j : Int)) (tw h (k + 1 + 1)) := by
  have hx2 : nD xs ≠ [] := by simpa [nD] using hx
  have e1 := c_pickl b n ns h k (nD xs) hx2 (by omega)
  obtain ⟨a, ha, ea⟩ := List.mem_map.mp (pk_mem ns k (nD xs) hx2)
  rw [← ea] at e1
  obtain ⟨j, hj, e2⟩ := num_draw b (n + 1) ns h (k + 1) a (h1 a ha) (by omega)
  exact ⟨a, j, ha, hj, e1, e2⟩
theorem pick_some (b : BD T) (n : Nat) (ns : List Int) (h : Hs) (k : Nat) (xs : List Nat) (hx : xs ≠ []) (hk : k < 1000000) :
    ∃ a : Nat, a ∈ xs ∧ callF T (run T (n + 4)) 28 [.scr ns, .ref 0, .lst (nD xs)] (tw h k) = .ok (.int (a : Int)) (tw h (k + 1)) := by
  have hx2 : nD xs ≠ [] := by simpa [nD] using hx
  have e1 := c_pickl b n ns h k (nD xs) hx2 (by omega)
  obtain ⟨a, ha, ea⟩ := List.mem_map.mp (pk_mem ns k (nD xs) hx2)
  rw [← ea] at e1
  exact ⟨a, ha, e1⟩
theorem c_motion (b : BMo T) (n : Nat) (ns : List Int) (h : Hs) (k : Nat) (t : List Nat) (hl : t.length ≤ 200) (ht : isText t) (hk : k < 900000) :
    ∃ mo k', mo.ok ∧ k' ≤ k + 10 ∧ callF T (run T (n + 7)) 42 [.scr ns, .ref 0, .str t] (tw h k) = .ok (moD mo) (tw h k') := by
  rw [call_i b.f42 rfl, run_s b.f42 rfl]
  have hb : t.length ≤ big := by rw [big_v]; omega
  obtain ⟨m, a, m9, e2, e3⟩ := many_draw b.d n ns h k (by omega)
  have hm : (1 : Int) + ((m : Int) - 1) = (m : Int) := by omega
  have r0 := fun h => lrg_n (h := h) 20 (by decide)
  simp only [Int.cast_ofNat_Int] at r0
  have r1 : ∀ h, bin .add (.lst (nD (List.range 20))) (.lst [.int 2, .int 3, .int 2, .int 3, .int 2, .int 3, .int 2, .int 3]) h = .ok (.lst (nD (List.range 20 ++ [2, 3, 2, 3, 2, 3, 2, 3]))) h := fun h => by
    rw [bin_lst _ _ (by rw [nD_len]; decide)]
    simp [nD]
  obtain ⟨j, hj, e4⟩ := pick_some b.d (n + 2) ns h (k + 1 + 1) (List.range 20 ++ [2, 3, 2, 3, 2, 3, 2, 3]) (by decide) (by omega)
  have hj20 : j < 20 := by
    have : ∀ x ∈ List.range 20 ++ [2, 3, 2, 3, 2, 3, 2, 3], x < 20 := by decide
    exact this j hj
  generalize nD (List.range 20 ++ [2, 3, 2, 3, 2, 3, 2, 3]) = kinds at *
  generalize nD (List.range 20) = k20 at *
  have fin : ∀ mo k', mo.ok → k' ≤ k + 10 → ((exes T (run T (n + 6)) i_law_motion.body (env0 i_law_motion [.scr ns, .ref 0, .str t]) (tw h k)).bind fun o h => .ok (outD o) h) = .ok (moD mo) (tw h k') → ∃ mo k', mo.ok ∧ k' ≤ k + 10 ∧ ((exes T (run T (n + 6)) i_law_motion.body (env0 i_law_motion [.scr ns, .ref 0, .str t]) (tw h k)).bind fun o h => .ok (outD o) h) = .ok (moD mo) (tw h k') := fun mo k' h1 h2 h3 => ⟨mo, k', h1, h2, h3⟩
  have cases : j = 0 ∨ j = 1 ∨ j = 2 ∨ j = 3 ∨ j = 4 ∨ j = 5 ∨ j = 6 ∨ j = 7 ∨ j = 8 ∨ j = 9 ∨ j = 10 ∨ j = 11 ∨ j = 12 ∨ j = 13 ∨ j = 14 ∨ j = 15 ∨ j = 16 ∨ j = 17 ∨ j = 18 ∨ j = 19 := by omega
  rcases cases with rfl | rfl | rfl | rfl | rfl | rfl | rfl | rfl | rfl | rfl | rfl | rfl | rfl | rfl | rfl | rfl | rfl | rfl | rfl | rfl
  all_goals simp only [Int.natCast_zero, Int.cast_ofNat_Int, Int.natCast_one] at e4
  · exact fin (.left m) (k + 1 + 1 + 1) m9 (by omega) (by simp -implicitDefEqProofs [i_law_motion, env0, getV, e2, e3, hm, r0, r1, e4, cmp, subs, items, ati, ixn, outD, moD])
  · exact fin (.right m) (k + 1 + 1 + 1) m9 (by omega) (by simp -implicitDefEqProofs [i_law_motion, env0, getV, e2, e3, hm, r0, r1, e4, cmp, subs, items, ati, ixn, outD, moD])
  · exact fin (.up m) (k + 1 + 1 + 1) m9 (by omega) (by simp -implicitDefEqProofs [i_law_motion, env0, getV, e2, e3, hm, r0, r1, e4, cmp, subs, items, ati, ixn, outD, moD])
  · exact fin (.down m) (k + 1 + 1 + 1) m9 (by omega) (by simp -implicitDefEqProofs [i_law_motion, env0, getV, e2, e3, hm, r0, r1, e4, cmp, subs, items, ati, ixn, outD, moD])
  · exact fin (.word m) (k + 1 + 1 + 1) m9 (by omega) (by simp -implicitDefEqProofs [i_law_motion, env0, getV, e2, e3, hm, r0, r1, e4, cmp, subs, items, ati, ixn, outD, moD])
  · exact fin (.over m) (k + 1 + 1 + 1) m9 (by omega) (by simp -implicitDefEqProofs [i_law_motion, env0, getV, e2, e3, hm, r0, r1, e4, cmp, subs, items, ati, ixn, outD, moD])
  · exact fin (.back m) (k + 1 + 1 + 1) m9 (by omega) (by simp -implicitDefEqProofs [i_law_motion, env0, getV, e2, e3, hm, r0, r1, e4, cmp, subs, items, ati, ixn, outD, moD])
  · exact fin .mBegin (k + 1 + 1 + 1) trivial (by omega) (by simp -implicitDefEqProofs [i_law_motion, env0, getV, e2, e3, hm, r0, r1, e4, cmp, subs, items, ati, ixn, outD, moD])
  · exact fin .mEnd (k + 1 + 1 + 1) trivial (by omega) (by simp -implicitDefEqProofs [i_law_motion, env0, getV, e2, e3, hm, r0, r1, e4, cmp, subs, items, ati, ixn, outD, moD])
  · exact fin .first (k + 1 + 1 + 1) trivial (by omega) (by simp -implicitDefEqProofs [i_law_motion, env0, getV, e2, e3, hm, r0, r1, e4, cmp, subs, items, ati, ixn, outD, moD])
  · exact fin .top (k + 1 + 1 + 1) trivial (by omega) (by simp -implicitDefEqProofs [i_law_motion, env0, getV, e2, e3, hm, r0, r1, e4, cmp, subs, items, ati, ixn, outD, moD])
  · exact fin .bottom (k + 1 + 1 + 1) trivial (by omega) (by simp -implicitDefEqProofs [i_law_motion, env0, getV, e2, e3, hm, r0, r1, e4, cmp, subs, items, ati, ixn, outD, moD])
  · obtain ⟨x, y, hx, hy, f1, f2⟩ := pick_draw b.d (n + 2) ns h (k + 1 + 1 + 1) [3, 6, 99] (by decide) (by decide) (by omega)
    have hx99 : x ≤ 99 := by
      have : ∀ x ∈ [3, 6, 99], x ≤ 99 := by decide
      exact this x hx
    have f1' : callF T (run T (n + 6)) 28 [.scr ns, .ref 0, .lst [.int 3, .int 6, .int 99]] (tw h (k + 1 + 1 + 1)) = .ok (.int (x : Int)) (tw h (k + 1 + 1 + 1 + 1)) := f1
    refine fin (.row (y + 1)) (k + 1 + 1 + 1 + 1 + 1) ⟨by omega, by omega⟩ (by omega) ?_
    have q : (1 : Int) + (y : Int) = ((y + 1 : Nat) : Int) := by omega
    simp -implicitDefEqProofs only [moD, ← q]
    simp -implicitDefEqProofs [i_law_motion, env0, getV, e2, e3, hm, r0, r1, e4, cmp, f1', f2, outD]
  · have nl := noNl_len t
    have s1 := fun h => rep_str (h := h) t (by omega)
    have s2 := fun h => bin_str (h := h) (noNl t) [97, 41] (by rw [big_v]; simp; omega)
    obtain ⟨y, c, hc, f1, f2⟩ := sign_draw b.d (n + 3) ns h (k + 1 + 1 + 1) (noNl t ++ [97, 41]) (by simp) (by simp; omega) (by omega)
    have hcs : c ∈ signs [] := by
      rcases List.mem_append.mp hc with hc | hc
      · exact noNl_sg t ht c hc
      · have : ∀ x ∈ [97, 41], x ∈ signs [] := by decide
        exact this c hc
    have s3 := fun h => len_str (h := h) (noNl t ++ [97, 41]) (by rw [big_v]; simp; omega)
    generalize noNl t ++ [97, 41] = ss at *
    exact fin (.find c m) (k + 1 + 1 + 1 + 1) ⟨hcs, m9⟩ (by omega) (by simp -implicitDefEqProofs [i_law_motion, env0, getV, e2, e3, hm, r0, r1, e4, cmp, s1, s2, s3, f1, f2, outD, moD])
  · exact fin .pair (k + 1 + 1 + 1) trivial (by omega) (by simp -implicitDefEqProofs [i_law_motion, env0, getV, e2, e3, hm, r0, r1, e4, cmp, outD, moD])
  · exact fin .pair (k + 1 + 1 + 1) trivial (by omega) (by simp -implicitDefEqProofs [i_law_motion, env0, getV, e2, e3, hm, r0, r1, e4, cmp, outD, moD])
  · have f1 := c_pickl b.d (n + 2) ns h (k + 1 + 1 + 1) ([97, 98, 99, 100].map fun c => .str [c]) (by simp) (by omega)
    obtain ⟨c, hc, ec⟩ := List.mem_map.mp (pk_mem ns (k + 1 + 1 + 1) ([97, 98, 99, 100].map fun c => D.str [c]) (by simp))
    rw [← ec] at f1
    simp only [List.map_cons, List.map_nil] at f1
    exact fin (.mark c) (k + 1 + 1 + 1 + 1) hc (by omega) (by simp -implicitDefEqProofs [i_law_motion, env0, getV, e2, e3, hm, r0, r1, e4, cmp, f1, outD, moD])
  rotate_left 2
  · skip
    have f1 := c_pickl b.d (n + 2) ns h (k + 1 + 1 + 1) ([Mo.again, .before].map moD) (by simp) (by omega)
    obtain ⟨mo, hmo, emo⟩ := List.mem_map.mp (pk_mem ns (k + 1 + 1 + 1) ([Mo.again, .before].map moD) (by simp))
    rw [← emo] at f1
    have hok : mo.ok := by
      have : mo = .again ∨ mo = .before := by simpa using hmo
      rcases this with rfl | rfl <;> trivial
    have f2 : callF T (run T (n + 6)) 28 [.scr ns, .ref 0, .lst [.tup [.str wAgain], .tup [.str wBefore]]] (tw h (k + 1 + 1 + 1)) = .ok (moD mo) (tw h (k + 1 + 1 + 1 + 1)) := f1
    clear f1 emo
    refine fin mo (k + 1 + 1 + 1 + 1) hok (by omega) ?_
    generalize moD mo = md at *
    simp -implicitDefEqProofs [i_law_motion, env0, getV, e2, e3, hm, r0, r1, e4, cmp, f2, outD]
  all_goals
    obtain ⟨x, hx, f1⟩ := num_draw b.d (n + 3) ns h (k + 1 + 1 + 1) (t.length + 1) (by omega) (by omega)
    obtain ⟨y, hy, f2⟩ := num_draw b.d (n + 3) ns h (k + 1 + 1 + 1 + 1) 3 (by omega) (by omega)
    have s0 := fun h => len_str (h := h) t hb
    have s1 := fun h => slice_mid (h := h) t x (1 + y) hb (by omega)
    have q1 : (x : Int) + ((1 + y : Nat) : Int) = (x : Int) + 1 + (y : Int) := by omega
    have q2 : ((t.length + 1 : Nat) : Int) = (t.length : Int) + 1 := by omega
    rw [q2] at f1
    simp only [q1] at s1
    have hpl : ((t.drop x).take (1 + y)).length ≤ 3 := by rw [List.length_take]; omega
    have hpt : isText ((t.drop x).take (1 + y)) := fun c hc => ht c (List.mem_of_mem_drop (List.mem_of_mem_take hc))
    have nl := noNl_len ((t.drop x).take (1 + y))
    have sok := noNl_sg _ hpt
    have s2 := fun h => rep_str (h := h) ((t.drop x).take (1 + y)) (by omega)
    generalize ((t.drop x).take (1 + y)) = pc at *
    generalize noNl pc = w at *
    simp only [Int.cast_ofNat_Int] at f2
    by_cases hw : w = []
    · subst hw
      exact fin (.search [97]) (k + 1 + 1 + 1 + 1 + 1) ⟨by decide, by decide, by decide⟩ (by omega) (by simp -implicitDefEqProofs [i_law_motion, env0, getV, e2, e3, hm, r0, r1, e4, cmp, s0, f1, f2, s1, s2, outD, moD])
    · have hw1 : 1 ≤ w.length := List.length_pos_iff.mpr hw
      exact fin (.search w) (k + 1 + 1 + 1 + 1 + 1) ⟨hw1, by omega, sok⟩ (by omega) (by simp -implicitDefEqProofs [i_law_motion, env0, getV, e2, e3, hm, r0, r1, e4, cmp, s0, f1, f2, s1, s2, hw, outD, moD])
end
end Ed

/-! part A1 -/
set_option maxRecDepth 100000
set_option maxHeartbeats 4000000
/-! The program's areas. -/
namespace Ed
open Ev
structure BA (T : Tbl) : Prop extends BK T where
  f46 : T.fn 46 = some i_is_area
  f47 : T.fn 47 = some i_word_at
  f48 : T.fn 48 = some i_inside
  f49 : T.fn 49 = some i_rows_from
  f50 : T.fn 50 = some i_area_by
  f51 : T.fn 51 = some i_area_of
  c7 : T.con 7 = .int 9
abbrev wBy : List Nat := [98, 121]
abbrev wRows : List Nat := [114, 111, 119, 115]
abbrev wInside : List Nat := [105, 110, 115, 105, 100, 101]
abbrev wChosen : List Nat := [99, 104, 111, 115, 101, 110]
abbrev wSigns : List Nat := [115, 105, 103, 110, 115]
def prD2 : Option (Nat × Nat) → D
  | none => .non
  | some (a, b) => .tup [.int (a : Int), .int (b : Int)]
theorem prD2_rl (o : Option (Nat × Nat)) : (prD2 o).rl = true := by
  cases o with
  | none => rfl
  | some p => rfl
/-- how many word signs lead, from the front -/
def wlen (l : List Nat) : Nat := (l.takeWhile isWd).length
def wordAt (t : List Nat) (p : Nat) : Option (Nat × Nat) := if p - wlen (t.take p).reverse < p + wlen (t.drop p) then some (p - wlen (t.take p).reverse, p + wlen (t.drop p)) else none
def shutOf (c : Nat) : Nat := match c with | 40 => 41 | 91 => 93 | _ => 125
def insideN (t : List Nat) (p c : Nat) : Option (Nat × Nat) := match prtN (shutOf c) c (t.take p).reverse 1 with
  | none => none
  | some k => (prtN c (shutOf c) (t.drop p) 1).map fun j => (p - 1 - k + 1, p + j)
def rowsFrom (t : List Nat) (p n : Nat) : Nat × Nat := (bk t p, fw t ((bgs t)[min ((bgs t).length - 1) (rowN t p + n - 1)]?.getD 0))
section
variable {T : Tbl} {h : Hs}
/-! ### the word at a place -/
def waC : E := (.and (.cmp .gt (.var 2) (.lit (.int 0))) (.cmp .mem (.sub (.var 0) (.bin .sub (.var 2) (.lit (.int 1)))) (.con 0)))
def waB : Ss := (.cons (.set 2 (.bin .sub (.var 2) (.lit (.int 1)))) .nil)
theorem wa_back (b : B1 T) {cl : Calls} (t : List Nat) (hl : t.length ≤ big) (x1 x3 : Option D) : ∀ (i N : Nat), i ≤ t.length → i < N →
    whGo (ev T cl waC) (exes T cl waB) N [some (.str t), x1, some (.int (i : Int)), x3] h = .ok (.nx [some (.str t), x1, some (.int ((i - wlen (t.take i).reverse : Nat) : Int)), x3]) h
  | 0, N + 1, _, _ => by
    have hc : ev T cl waC [some (.str t), x1, some (.int ((0 : Nat) : Int)), x3] h = .ok (.bl false) h := by
      simp -implicitDefEqProofs [waC, getV, cmp]
    rw [wh_end hc]
    rfl
  | i + 1, N + 1, hi, hN => by
    have e1 := fun h => subs_at (h := h) t i hl (by omega)
    have q : ((i + 1 : Nat) : Int) - 1 = (i : Int) := by omega
    have h0 : (0 : Int) < ((i + 1 : Nat) : Int) := by omega
    rw [take_sg t i (by omega)]
    unfold wlen
    rw [List.takeWhile_cons]
    generalize hx : ((i + 1 : Nat) : Int) = x at *
    cases hw : isWd (sg t i) with
    | false =>
      have hw2 : ¬ (sg t i ∈ cWORD) := of_decide_eq_false hw
      have hc : ev T cl waC [some (.str t), x1, some (.int x), x3] h = .ok (.bl false) h := by
        simp -implicitDefEqProofs [waC, getV, cmp, h0, q, e1, mem_sign, b.c0, hw2]
      rw [wh_end hc]
      simp [← hx]
    | true =>
      have hw2 : (sg t i ∈ cWORD) := of_decide_eq_true hw
      have hc : ev T cl waC [some (.str t), x1, some (.int x), x3] h = .ok (.bl true) h := by
        simp -implicitDefEqProofs [waC, getV, cmp, h0, q, e1, mem_sign, b.c0, hw2]
      have hb : exes T cl waB [some (.str t), x1, some (.int x), x3] h = .ok (.nx [some (.str t), x1, some (.int (i : Int)), x3]) h := by
        simp -implicitDefEqProofs [waB, getV, q]
      rw [wh_go hc hb, wa_back b t hl x1 x3 i N (by omega) (by omega)]
      unfold wlen
      rw [if_pos rfl, List.length_cons, show i + 1 - ((List.takeWhile isWd (t.take i).reverse).length + 1) = i - (List.takeWhile isWd (t.take i).reverse).length by omega]
def wbC : E := (.and (.cmp .lt (.var 3) (.blt .len (.cons (.var 0) .nil))) (.cmp .mem (.sub (.var 0) (.var 3)) (.con 0)))
def wbB : Ss := (.cons (.set 3 (.bin .add (.var 3) (.lit (.int 1)))) .nil)
theorem wa_fwd (b : B1 T) {cl : Calls} (t : List Nat) (hl : t.length ≤ big) (x1 x2 : Option D) : ∀ (m i N : Nat), i + m = t.length → m < N →
    whGo (ev T cl wbC) (exes T cl wbB) N [some (.str t), x1, x2, some (.int (i : Int))] h = .ok (.nx [some (.str t), x1, x2, some (.int ((i + wlen (t.drop i) : Nat) : Int))]) h
  | 0, i, N + 1, hi, _ => by
    have e0 := fun h => len_str (h := h) t hl
    have q : ¬ ((i : Int) < (t.length : Int)) := by omega
    have hc : ev T cl wbC [some (.str t), x1, x2, some (.int (i : Int))] h = .ok (.bl false) h := by
      simp -implicitDefEqProofs [wbC, getV, cmp, e0, q]
    rw [wh_end hc, List.drop_eq_nil_of_le (by omega)]
    rfl
  | m + 1, i, N + 1, hi, hN => by
    have e0 := fun h => len_str (h := h) t hl
    have e1 := fun h => subs_at (h := h) t i hl (by omega)
    have q : (i : Int) < (t.length : Int) := by omega
    rw [drop_sg t i (by omega)]
    unfold wlen
    rw [List.takeWhile_cons]
    cases hw : isWd (sg t i) with
    | false =>
      have hw2 : ¬ (sg t i ∈ cWORD) := of_decide_eq_false hw
      have hc : ev T cl wbC [some (.str t), x1, x2, some (.int (i : Int))] h = .ok (.bl false) h := by
        simp -implicitDefEqProofs [wbC, getV, cmp, e0, q, e1, mem_sign, b.c0, hw2]
      rw [wh_end hc]
      simp
    | true =>
      have hw2 : (sg t i ∈ cWORD) := of_decide_eq_true hw
      have hc : ev T cl wbC [some (.str t), x1, x2, some (.int (i : Int))] h = .ok (.bl true) h := by
        simp -implicitDefEqProofs [wbC, getV, cmp, e0, q, e1, mem_sign, b.c0, hw2]
      have q2 : (i : Int) + 1 = ((i + 1 : Nat) : Int) := by omega
      have hb : exes T cl wbB [some (.str t), x1, x2, some (.int (i : Int))] h = .ok (.nx [some (.str t), x1, x2, some (.int ((i + 1 : Nat) : Int))]) h := by
        rw [← q2]
        simp -implicitDefEqProofs [wbB, getV]
      rw [wh_go hc hb, wa_fwd b t hl x1 x2 m (i + 1) N (by omega) (by omega)]
      unfold wlen
      rw [if_pos rfl, List.length_cons, show i + ((List.takeWhile isWd (t.drop (i + 1))).length + 1) = i + 1 + (List.takeWhile isWd (t.drop (i + 1))).length by omega]
theorem c_word_at (b : BA T) (n : Nat) (t : List Nat) (p : Nat) (hl : t.length ≤ 10000) (hp : p ≤ t.length) (h : Hs) : callF T (run T (n + 1)) 47 [.str t, .int (p : Int)] h = .ok (prD2 (wordAt t p)) h := by
  refine call_p b.f47 rfl rfl (h' := Hs.nil) ?_ (prD2_rl _)
  rw [run_s b.f47 rfl]
  have hb : t.length ≤ big := by rw [big_v]; omega
  have e1 := fun x1 x3 => wa_back (h := Hs.nil) (cl := run T n) b.toB1 t hb x1 x3 p turns hp (by unfold turns; omega)
  have e2 := fun x1 x2 => wa_fwd (h := Hs.nil) (cl := run T n) b.toB1 t hb x1 x2 (t.length - p) p turns (by omega) (by unfold turns; omega)
  simp only [waC, waB, wbC, wbB] at e1 e2
  unfold wordAt
  generalize p - wlen (t.take p).reverse = x at *
  generalize p + wlen (t.drop p) = y at *
  by_cases hc : x < y
  · simp -implicitDefEqProofs [i_word_at, env0, getV, e1, e2, cmp, hc, outD, prD2]
  · simp -implicitDefEqProofs [i_word_at, env0, getV, e1, e2, cmp, hc, outD, prD2]
/-! ### within brackets -/
def inC : E := (.and (.cmp .gt (.var 5) (.lit (.int 0))) (.cmp .gt (.var 4) (.lit (.int 0))))
def inB : Ss := (.cons (.set 5 (.bin .sub (.var 5) (.lit (.int 1)))) (.cons (.set 4 (.bin .sub (.bin .add (.var 4) (.blt .int (.cons (.cmp .eq (.sub (.var 0) (.var 5)) (.var 3)) .nil))) (.blt .int (.cons (.cmp .eq (.sub (.var 0) (.var 5)) (.var 2)) .nil)))) .nil))
theorem cmp_gt (i j : Int) : cmp .gt (.int i) (.int j) h = .ok (decide (j < i)) h := (rfl)
theorem cmp_lt (i j : Int) : cmp .lt (.int i) (.int j) h = .ok (decide (i < j)) h := (rfl)
theorem stp_ge (s o c : Nat) (d : Int) (hd : 1 ≤ d) (hso : s ≠ o) : 0 ≤ stp s o c d := by
  unfold stp
  split <;> split <;> omega
theorem in_b {cl : Calls} (t : List Nat) (hl : t.length ≤ big) (s o i : Nat) (d x : Int) (x1 x6 : Option D) (hi : i < t.length) (hx : x - 1 = (i : Int)) :
    exes T cl inB [some (.str t), x1, some (.str [s]), some (.str [o]), some (.int d), some (.int x), x6] h = .ok (.nx [some (.str t), x1, some (.str [s]), some (.str [o]), some (.int (stp o s (sg t i) d)), some (.int (i : Int)), x6]) h := by
  have e0 := fun h => subs_at (h := h) t i hl hi
  have e1 : ∀ h, bin .sub (.int (d + if (decide (sg t i = o)) = true then 1 else 0)) (.int (if (decide (sg t i = s)) = true then 1 else 0)) h = .ok (.int (stp o s (sg t i) d)) h := fun h => by
    simp [stp]
  simp -implicitDefEqProofs only [inB, ss_c, ss_n, s_set, e_bin, e_var, e_lit, e_blt, es_c, es_n, e_cmp, e_sub, bind_ok, getV, List.getElem?_cons_succ, List.getElem?_cons_zero, bin_si, hx, e0, cmp, eqh_2, eq2_s, eqd_sign, ofO_s, intD_b, bin_ai, e1, List.set_cons_succ, List.set_cons_zero, seq2_n]
theorem in_back {cl : Calls} (t : List Nat) (hl : t.length ≤ big) (s o : Nat) (hso : s ≠ o) (x1 x6 : Option D) : ∀ (i N : Nat) (d : Int), i ≤ t.length → i < N → 1 ≤ d →
    ∃ (y : Nat) (e : Int), whGo (ev T cl inC) (exes T cl inB) N [some (.str t), x1, some (.str [s]), some (.str [o]), some (.int d), some (.int (i : Int)), x6] h = .ok (.nx [some (.str t), x1, some (.str [s]), some (.str [o]), some (.int e), some (.int (y : Int)), x6]) h ∧
      (match prtN o s (t.take i).reverse d with | some k => e = 0 ∧ y = i - 1 - k | none => 0 < e)
  | 0, N + 1, d, _, _, hd => by
    have hc : ev T cl inC [some (.str t), x1, some (.str [s]), some (.str [o]), some (.int d), some (.int ((0 : Nat) : Int)), x6] h = .ok (.bl false) h := by
      simp -implicitDefEqProofs [inC, getV, cmp_gt]
    refine ⟨0, d, by rw [wh_end hc], ?_⟩
    show (match prtN o s [] d with | some k => d = 0 ∧ (0 : Nat) = 0 - 1 - k | none => 0 < d)
    simp only [prtN]
    omega
  | i + 1, N + 1, d, hi, hN, hd => by
    have hx : ((i + 1 : Nat) : Int) - 1 = (i : Int) := by omega
    have h0 : (0 : Int) < ((i + 1 : Nat) : Int) := by omega
    rw [take_sg t i (by omega)]
    unfold prtN
    generalize hxx : ((i + 1 : Nat) : Int) = x at *
    have hc : ev T cl inC [some (.str t), x1, some (.str [s]), some (.str [o]), some (.int d), some (.int x), x6] h = .ok (.bl true) h := by
      have h1 : (0 : Int) < d := by omega
      simp -implicitDefEqProofs [inC, getV, cmp_gt, h0, h1]
    have hb := in_b (T := T) (h := h) (cl := cl) t hl s o i d x x1 x6 (by omega) hx
    rw [wh_go hc hb]
    by_cases hz : stp o s (sg t i) d = 0
    · have hc2 : ev T cl inC [some (.str t), x1, some (.str [s]), some (.str [o]), some (.int (stp o s (sg t i) d)), some (.int (i : Int)), x6] h = .ok (.bl false) h := by
        by_cases hi0 : 0 < i <;> simp -implicitDefEqProofs [inC, getV, cmp_gt, hz, hi0]
      obtain ⟨M, rfl⟩ : ∃ M, N = M + 1 := ⟨N - 1, by omega⟩
      refine ⟨i, stp o s (sg t i) d, by rw [wh_end hc2], ?_⟩
      rw [if_pos hz]
      exact ⟨hz, by omega⟩
    · rw [if_neg hz]
      have hd2 : 1 ≤ stp o s (sg t i) d := by
        have := stp_ge o s (sg t i) d hd (Ne.symm hso)
        omega
      obtain ⟨y, e, h1, h2⟩ := in_back t hl s o hso x1 x6 i N (stp o s (sg t i) d) (by omega) (by omega) hd2
      refine ⟨y, e, h1, ?_⟩
      cases hq : prtN o s (t.take i).reverse (stp o s (sg t i) d) with
      | none => rw [hq] at h2; exact h2
      | some k =>
        rw [hq] at h2
        exact ⟨h2.1, by rw [h2.2]; show i - 1 - k = i + 1 - 1 - (k + 1); omega⟩
def ifC : E := (.cmp .lt (.var 6) (.blt .len (.cons (.var 0) .nil)))
def ifB : Ss := (.cons (.set 4 (.bin .sub (.bin .add (.var 4) (.blt .int (.cons (.cmp .eq (.sub (.var 0) (.var 6)) (.var 2)) .nil))) (.blt .int (.cons (.cmp .eq (.sub (.var 0) (.var 6)) (.var 3)) .nil)))) (.cons (.ite (.cmp .eq (.var 4) (.lit (.int 0))) (.cons (.ret (.tup (.cons (.bin .add (.var 5) (.lit (.int 1))) (.cons (.var 6) .nil)))) .nil) .nil) (.cons (.set 6 (.bin .add (.var 6) (.lit (.int 1)))) .nil)))
theorem if_b {cl : Calls} (t : List Nat) (hl : t.length ≤ big) (s o i : Nat) (d y : Int) (x1 : Option D) (hi : i < t.length) :
    exes T cl ifB [some (.str t), x1, some (.str [s]), some (.str [o]), some (.int d), some (.int y), some (.int (i : Int))] h = if stp s o (sg t i) d = 0 then .ok (.rt (.tup [.int (y + 1), .int (i : Int)])) h else .ok (.nx [some (.str t), x1, some (.str [s]), some (.str [o]), some (.int (stp s o (sg t i) d)), some (.int y), some (.int ((i : Int) + 1))]) h := by
  have e0 := fun h => subs_at (h := h) t i hl hi
  have e1 : ∀ h, bin .sub (.int (d + if (decide (sg t i = s)) = true then 1 else 0)) (.int (if (decide (sg t i = o)) = true then 1 else 0)) h = .ok (.int (stp s o (sg t i) d)) h := fun h => by
    simp [stp]
  by_cases hc : stp s o (sg t i) d = 0
  · rw [if_pos hc]
    rw [hc] at e1
    simp -implicitDefEqProofs only [ifB, ss_c, ss_n, s_set, s_ite, s_ret, e_tup, e_bin, e_var, e_lit, e_blt, es_c, es_n, e_cmp, e_sub, bind_ok, getV, List.getElem?_cons_succ, List.getElem?_cons_zero, e0, cmp, eqh_2, eq2_s, eqd_sign, eqd_int, ofO_s, intD_b, bin_ai, e1, List.set_cons_succ, List.set_cons_zero, seq2_n, seq2_r, decide_true, truth_bl, ite2_t]
  · rw [if_neg hc]
    simp -implicitDefEqProofs only [ifB, ss_c, ss_n, s_set, s_ite, s_ret, e_tup, e_bin, e_var, e_lit, e_blt, es_c, es_n, e_cmp, e_sub, bind_ok, getV, List.getElem?_cons_succ, List.getElem?_cons_zero, e0, cmp, eqh_2, eq2_s, eqd_sign, eqd_int, ofO_s, intD_b, bin_ai, e1, List.set_cons_succ, List.set_cons_zero, seq2_n, seq2_r, hc, decide_false, truth_bl, ite2_f]
theorem if_fwd {cl : Calls} (t : List Nat) (hl : t.length ≤ big) (s o : Nat) (x1 : Option D) (y : Nat) : ∀ (m i N : Nat) (d : Int), i + m = t.length → m < N →
    ∃ v, whGo (ev T cl ifC) (exes T cl ifB) N [some (.str t), x1, some (.str [s]), some (.str [o]), some (.int d), some (.int (y : Int)), some (.int (i : Int))] h = .ok (match prtN s o (t.drop i) d with | some k => .rt (.tup [.int ((y + 1 : Nat) : Int), .int ((i + k : Nat) : Int)]) | none => .nx v) h
  | 0, i, N + 1, d, hi, _ => by
    have e0 := fun h => len_str (h := h) t hl
    have q : ¬ ((i : Int) < (t.length : Int)) := by omega
    have hc : ev T cl ifC [some (.str t), x1, some (.str [s]), some (.str [o]), some (.int d), some (.int (y : Int)), some (.int (i : Int))] h = .ok (.bl false) h := by
      simp -implicitDefEqProofs [ifC, getV, cmp_lt, e0, q]
    refine ⟨[some (.str t), x1, some (.str [s]), some (.str [o]), some (.int d), some (.int (y : Int)), some (.int (i : Int))], ?_⟩
    rw [wh_end hc, List.drop_eq_nil_of_le (by omega)]
    rfl
  | m + 1, i, N + 1, d, hi, hN => by
    have e0 := fun h => len_str (h := h) t hl
    have q : (i : Int) < (t.length : Int) := by omega
    have hc : ev T cl ifC [some (.str t), x1, some (.str [s]), some (.str [o]), some (.int d), some (.int (y : Int)), some (.int (i : Int))] h = .ok (.bl true) h := by
      simp -implicitDefEqProofs [ifC, getV, cmp_lt, e0, q]
    have hb := if_b (T := T) (h := h) (cl := cl) t hl s o i d (y : Int) x1 (by omega)
    rw [drop_sg t i (by omega)]
    unfold prtN
    by_cases hz : stp s o (sg t i) d = 0
    · rw [if_pos hz] at hb
      refine ⟨[], ?_⟩
      rw [wh_rt hc hb, if_pos hz]
      rfl
    · rw [if_neg hz] at hb
      obtain ⟨v, e⟩ := if_fwd t hl s o x1 y m (i + 1) N (stp s o (sg t i) d) (by omega) (by omega)
      refine ⟨v, ?_⟩
      have q2 : (i : Int) + 1 = ((i + 1 : Nat) : Int) := by omega
      rw [wh_go hc hb, if_neg hz, q2, e]
      cases prtN s o (t.drop (i + 1)) (stp s o (sg t i) d) with
      | none => rfl
      | some k =>
        simp only [Option.map_some]
        congr 6
        omega
theorem c_inside (b : BA T) (n : Nat) (t : List Nat) (p c : Nat) (hl : t.length ≤ 10000) (hp : p ≤ t.length) (hc : c = 40 ∨ c = 91 ∨ c = 123) (h : Hs) : callF T (run T (n + 1)) 48 [.str t, .int (p : Int), .str [c]] h = .ok (prD2 (insideN t p c)) h := by
  refine call_p b.f48 rfl rfl (h' := Hs.nil) ?_ (prD2_rl _)
  rw [run_s b.f48 rfl]
  have hb : t.length ≤ big := by rw [big_v]; omega
  have hne : c ≠ shutOf c := by rcases hc with rfl | rfl | rfl <;> decide
  obtain ⟨y, e, e1, e2⟩ := in_back (T := T) (h := Hs.nil) (cl := run T n) t hb c (shutOf c) hne (some (.int (p : Int))) none p turns 1 hp (by unfold turns; omega) (by decide)
  obtain ⟨v, e3⟩ := if_fwd (T := T) (h := Hs.nil) (cl := run T n) t hb c (shutOf c) (some (.int (p : Int))) y (t.length - p) p turns 1 (by omega) (by unfold turns; omega)
  have iy : ∀ h, bty .index (.str cOPEN) h = some .str := fun h => by simp only [bty, bty0, bok]
  obtain ⟨j, ix, iz⟩ : ∃ j : Nat, (∀ h, bmd .str .index (.str cOPEN) [.str [c]] h = .ok (.int (j : Int)) h) ∧ ∀ h, subs (.str cSHUT) (.int (j : Int)) h = .ok (.str [shutOf c]) h := by
    have q2 : cSHUT.length ≤ big := by decide
    have go : ∀ (j : Nat), find1 c cOPEN 0 = some j → cSHUT[j]? = some (shutOf c) → ∃ j : Nat, (∀ h, bmd .str .index (.str cOPEN) [.str [c]] h = .ok (.int (j : Int)) h) ∧ ∀ h, subs (.str cSHUT) (.int (j : Int)) h = .ok (.str [shutOf c]) h := fun j i1 i2 =>
      ⟨j, fun h => by simp only [bmd, bms, i1, Option.map_some, ofO_s], fun h => by simp only [subs, decide_eq_true q2, okIf, bind_ok, ati_nat, i2, Option.map_some, ofO_s]⟩
    rcases hc with rfl | rfl | rfl
    · exact go 0 rfl rfl
    · exact go 1 rfl rfl
    · exact go 2 rfl rfl
  simp only [inC, inB, ifC, ifB] at e1 e3
  unfold insideN
  generalize shutOf c = o at *
  cases hq : prtN o c (t.take p).reverse 1 with
  | none =>
    rw [hq] at e2
    simp -implicitDefEqProofs [i_inside, env0, getV, b.c2, b.c3, iy, ix, iz, e1, cmp_gt, e2, outD, prD2]
  | some k =>
    rw [hq] at e2
    obtain ⟨rfl, rfl⟩ := e2
    cases hq2 : prtN c o (t.drop p) 1 with
    | none =>
      rw [hq2] at e3
      simp -implicitDefEqProofs [i_inside, env0, getV, b.c2, b.c3, iy, ix, iz, e1, cmp_gt, e3, outD, prD2]
    | some k2 =>
      rw [hq2] at e3
      simp -implicitDefEqProofs [i_inside, env0, getV, b.c2, b.c3, iy, ix, iz, e1, cmp_gt, e3, outD, prD2]
/-! ### rows -/
theorem c_bgs (b : B1 T) (n : Nat) (t : List Nat) (hl : t.length ≤ 1000000) (h : Hs) : callF T (run T (n + 1)) 8 [.str t] h = .ok (.lst (nD (bgs t))) h :=
  call_p b.f8 rfl rfl (r_begins (h := Hs.nil) b n t (by rw [big_v]; omega)) (rl_ints _)
theorem c_rows_from (b : BA T) (n : Nat) (t : List Nat) (p k : Nat) (hl : t.length ≤ 10000) (hp : p ≤ t.length) (hk : 1 ≤ k) (h : Hs) : callF T (run T (n + 2)) 49 [.str t, .int (p : Int), .int (k : Int)] h = .ok (.tup [.int ((rowsFrom t p k).1 : Int), .int ((rowsFrom t p k).2 : Int)]) h := by
  refine call_p b.f49 rfl rfl (h' := Hs.nil) ?_ rfl
  rw [run_s b.f49 rfl]
  have hlt : rowN t p < (bgs t).length := (List.getElem?_eq_some_iff.mp (bk_row t p)).1
  have e1 := c_bgs b.toB1 n t (by omega)
  have e2 := c_row b.toB1 n t p (by omega) hp
  have e3 := fun h => len_lst (h := h) (nD (bgs t))
  rw [nD_len] at e3
  have e4 := fun h => min_nn (h := h) ((bgs t).length - 1) (rowN t p + k - 1)
  have q1 : (((bgs t).length - 1 : Nat) : Int) = ((bgs t).length : Int) - 1 := by omega
  have q2 : ((rowN t p + k - 1 : Nat) : Int) = (rowN t p : Int) + (k : Int) - 1 := by omega
  rw [q1, q2] at e4
  have e5 := fun h => subs_nD (h := h) (bgs t) (rowN t p) hlt
  rw [bk_row] at e5
  have hm : min ((bgs t).length - 1) (rowN t p + k - 1) < (bgs t).length := by omega
  have e6 := fun h => subs_nD (h := h) (bgs t) _ hm
  rw [List.getElem?_eq_getElem hm] at e6
  have e7 := c_fw b.toB1 n t ((bgs t)[min ((bgs t).length - 1) (rowN t p + k - 1)]) (by omega)
  have e8 : (rowsFrom t p k).2 = fw t ((bgs t)[min ((bgs t).length - 1) (rowN t p + k - 1)]) := by
    unfold rowsFrom
    rw [List.getElem?_eq_getElem hm]
    rfl
  have e9 : (rowsFrom t p k).1 = bk t p := rfl
  rw [e8, e9]
  generalize (bgs t)[min ((bgs t).length - 1) (rowN t p + k - 1)] = z at *
  generalize min ((bgs t).length - 1) (rowN t p + k - 1) = mm at *
  simp only [oN] at e5 e6
  simp -implicitDefEqProofs [i_rows_from, env0, getV, e1, e2, e3, e4, e5, e6, e7, outD]
end
end Ed

/-! part A2 -/
set_option maxRecDepth 100000
set_option maxHeartbeats 4000000
/-! All areas. -/
namespace Ed
open Ev
inductive Ar where
  | byM (m : Mo) | rows (n : Nat) | word | inside (c : Nat) | chosen
def arD : Ar → D
  | .byM m => .tup [.str wBy, moD m]
  | .rows n => .tup [.str wRows, .int (n : Int)]
  | .word => .tup [.str wWord]
  | .inside c => .tup [.str wInside, .str [c]]
  | .chosen => .tup [.str wChosen]
def isOp (c : Nat) : Prop := c = 40 ∨ c = 91 ∨ c = 123
def Ar.ok : Ar → Prop
  | .byM m => m.ok
  | .rows n => in9 n
  | .inside c => isOp c
  | _ => True
theorem arD_rl (a : Ar) : (arD a).rl = true := by
  cases a with
  | byM m =>
    show D.rls [.str wBy, moD m] = true
    simp [D.rls, D.rl, moD_rl]
  | _ => rfl
/-- kind (rows?), begin, end -/
def resD : Option (Bool × Nat × Nat) → D
  | none => .non
  | some (r, a, b) => .tup [.str (if r = true then wRows else wSigns), .int (a : Int), .int (b : Int)]
theorem resD_rl (o : Option (Bool × Nat × Nat)) : (resD o).rl = true := by
  cases o with
  | none => rfl
  | some x => rfl
theorem resD_eq (o : Option (Bool × Nat × Nat)) : eqd (resD o) (resD o) = some true := by
  cases o with
  | none => exact eqd_nn
  | some x =>
    obtain ⟨r, a, b⟩ := x
    unfold eqd
    have a1 : dok 60 (resD (some (r, a, b))) = true := by cases r <;> rfl
    have a2 : cmpb (resD (some (r, a, b))) (resD (some (r, a, b))) = true := by cases r <;> rfl
    have a3 : flat (resD (some (r, a, b))) = false := rfl
    rw [a1, a2, a3]
    simp
def nz : Option (Nat × Nat) → Option (Bool × Nat × Nat)
  | none => none
  | some (a, b) => if a = b then none else some (false, a, b)
def mm (p : Nat) (g : Option Nat) : Option (Nat × Nat) := g.map fun g => (min p g, max p g)
def areaBy (t : List Nat) (p : Nat) (a : Ar) (anchor : Option Nat) (col : Nat) (mk : List Nat → Option Nat) (pat : Option (List Nat)) : Option (Bool × Nat × Nat) := match a with
  | .rows n => some (true, rowsFrom t p n)
  | .byM m => nz (mm p (placeBy t p m col mk pat))
  | .word => nz (wordAt t p)
  | .inside c => nz (insideN t p c)
  | .chosen => nz (mm p anchor)
section
variable {T : Tbl} {h : Hs}
theorem bin_tup (a b : List D) (hl : a.length + b.length ≤ big) : bin .add (.tup a) (.tup b) h = .ok (.tup (a ++ b)) h := by
  simp only [bin, decide_eq_true hl, okIf]
theorem tup3 (a b : D) : bin .add (.tup [.str wSigns]) (.tup [a, b]) h = .ok (.tup [.str wSigns, a, b]) h := bin_tup _ _ (by show 1 + 2 ≤ big; decide)
theorem r_area_by (b : BA T) (n : Nat) (t : List Nat) (p : Nat) (a : Ar) (anchor : Option Nat) (col : Nat) (mk : D) (mkf : List Nat → Option Nat) (pat : Option (List Nat)) (hl : t.length ≤ 10000) (hp : p ≤ t.length) (ha : a.ok) (hpat : ∀ w, pat = some w → w.length ≤ 1000000) (hmk : MkOk h mk mkf) :
    run T (n + 5) 50 [.str t, .int (p : Int), arD a, oN anchor, .int (col : Int), mk, oS pat] h = .ok (resD (areaBy t p a anchor col mkf pat)) h := by
  rw [run_s b.f50 rfl]
  have i1 : ∀ a : D, ati [a] 0 = some a := fun _ => rfl
  cases a with
  | rows k =>
    have e1 := c_rows_from b (n + 2) t p k hl hp ha.1
    simp -implicitDefEqProofs [i_area_by, env0, getV, arD, subs_tup0, ati0, ati1, cmp, e1, tgt, outD, areaBy, resD]
  | byM m =>
    have e1 : callF T (run T (n + 4)) 22 [.str t, .int (p : Int), moD m, .int (col : Int), mk, oS pat] h = .ok (oN (placeBy t p m col mkf pat)) h := by
      rw [call_i b.f22 rfl]
      exact r_place_by b.toBK n t p m col mk mkf pat hl hp ha hpat hmk
    have eA : areaBy t p (.byM m) anchor col mkf pat = nz (mm p (placeBy t p m col mkf pat)) := rfl
    have eD : arD (.byM m) = .tup [.str wBy, moD m] := rfl
    rw [eA, eD]
    generalize placeBy t p m col mkf pat = g at *
    generalize moD m = md at *
    cases g with
    | none => simp -implicitDefEqProofs [i_area_by, env0, getV, arD, subs_tup0, ati0, ati1, cmp, e1, oN, outD, mm, nz, resD]
    | some g =>
      have e2 := fun h => min_nn (h := h) p g
      have e3 := fun h => max_nn (h := h) p g
      unfold mm
      rw [Option.map_some]
      generalize min p g = x at *
      generalize max p g = y at *
      simp only [oN] at e1
      by_cases hxy : x = y
      · subst hxy
        simp -implicitDefEqProofs [i_area_by, env0, getV, arD, subs_tup0, ati0, ati1, cmp, e1, e2, e3, outD, nz, resD]
      · have hxy' : ¬ ((x : Int) = (y : Int)) := by omega
        simp -implicitDefEqProofs [i_area_by, env0, getV, arD, subs_tup0, ati0, ati1, cmp, e1, e2, e3, hxy', hxy, tup3, outD, nz, resD]
  | word =>
    have e1 := c_word_at b (n + 3) t p hl hp
    have eA : areaBy t p .word anchor col mkf pat = nz (wordAt t p) := rfl
    rw [eA]
    generalize wordAt t p = o at *
    cases o with
    | none => simp -implicitDefEqProofs [i_area_by, env0, getV, arD, subs_tup0, i1, cmp, e1, prD2, outD, nz, resD]
    | some xy =>
      obtain ⟨x, y⟩ := xy
      simp only [prD2] at e1
      by_cases hxy : x = y
      · subst hxy
        simp -implicitDefEqProofs [i_area_by, env0, getV, arD, subs_tup0, i1, ati0, ati1, cmp, e1, outD, nz, resD]
      · have hxy' : ¬ ((x : Int) = (y : Int)) := by omega
        simp -implicitDefEqProofs [i_area_by, env0, getV, arD, subs_tup0, i1, ati0, ati1, cmp, e1, hxy', hxy, tup3, outD, nz, resD]
  | inside c =>
    have e1 := c_inside b (n + 3) t p c hl hp ha
    have eA : areaBy t p (.inside c) anchor col mkf pat = nz (insideN t p c) := rfl
    rw [eA]
    generalize insideN t p c = o at *
    cases o with
    | none => simp -implicitDefEqProofs [i_area_by, env0, getV, arD, subs_tup0, ati0, ati1, cmp, e1, prD2, outD, nz, resD]
    | some xy =>
      obtain ⟨x, y⟩ := xy
      simp only [prD2] at e1
      by_cases hxy : x = y
      · subst hxy
        simp -implicitDefEqProofs [i_area_by, env0, getV, arD, subs_tup0, ati0, ati1, cmp, e1, outD, nz, resD]
      · have hxy' : ¬ ((x : Int) = (y : Int)) := by omega
        simp -implicitDefEqProofs [i_area_by, env0, getV, arD, subs_tup0, ati0, ati1, cmp, e1, hxy', hxy, tup3, outD, nz, resD]
  | chosen =>
    cases anchor with
    | none => simp -implicitDefEqProofs [i_area_by, env0, getV, arD, subs_tup0, i1, cmp, oN, outD, nz, mm, areaBy, resD]
    | some g =>
      have e2 := fun h => min_nn (h := h) p g
      have e3 := fun h => max_nn (h := h) p g
      have eA : areaBy t p .chosen (some g) col mkf pat = nz (some (min p g, max p g)) := rfl
      rw [eA]
      generalize min p g = x at *
      generalize max p g = y at *
      by_cases hxy : x = y
      · subst hxy
        simp -implicitDefEqProofs [i_area_by, env0, getV, arD, subs_tup0, i1, ati0, ati1, cmp, e2, e3, oN, outD, nz, resD]
      · have hxy' : ¬ ((x : Int) = (y : Int)) := by omega
        simp -implicitDefEqProofs [i_area_by, env0, getV, arD, subs_tup0, i1, ati0, ati1, cmp, e2, e3, oN, hxy', hxy, tup3, outD, nz, resD]
theorem c_is_area (b : BA T) (n : Nat) (a : Ar) (ha : a.ok) (h : Hs) : callF T (run T (n + 4)) 46 [arD a] h = .ok (.bl true) h := by
  refine call_p b.f46 rfl (by simp [D.rls, arD_rl]) (h' := Hs.nil) ?_ rfl
  rw [run_s b.f46 rfl]
  have i1 : ∀ a : D, ati [a] 0 = some a := fun _ => rfl
  have l1 : ∀ x h, blt .len [.tup [x]] h = .ok (.int 1) h := fun x h => by simp [blt, blt1, lenD, items]
  have l2 : ∀ x y h, blt .len [.tup [x, y]] h = .ok (.int 2) h := fun x y h => by simp [blt, blt1, lenD, items]
  cases a with
  | byM m =>
    have e1 := c_is_motion b.toBK n m ha
    simp -implicitDefEqProofs [i_is_area, env0, getV, isi, arD, subs_tup0, ati0, ati1, cmp, l2, memv2, e1, outD]
  | rows k =>
    have e1 := c_whole b.toB1 (n + 2) k 1 9 ha.1 ha.2
    simp only [Int.cast_ofNat_Int] at e1
    simp -implicitDefEqProofs [i_is_area, env0, getV, isi, arD, subs_tup0, ati0, ati1, cmp, l2, memv2, b.c7, e1, outD]
  | word => simp -implicitDefEqProofs [i_is_area, env0, getV, isi, arD, subs_tup0, i1, cmp, l1, memv2, outD]
  | inside c =>
    have l3 := fun h => len_str (h := h) [c] (by show 1 ≤ big; decide)
    simp only [List.length_singleton, Int.cast_ofNat_Int] at l3
    have hc : c ∈ cOPEN := by rcases ha with rfl | rfl | rfl <;> decide
    simp -implicitDefEqProofs [i_is_area, env0, getV, isi, arD, subs_tup0, ati0, ati1, cmp, l2, l3, memv2, b.c2, mem_sign, hc, outD]
  | chosen => simp -implicitDefEqProofs [i_is_area, env0, getV, isi, arD, subs_tup0, i1, cmp, l1, memv2, outD]
/-- the area a about p in t -/
def areaN (t : List Nat) (p : Nat) (a : Ar) : Option (Bool × Nat × Nat) := areaBy t p a none (p - bk t p) (fun _ => none) none
theorem c_area_of (b : BA T) (n : Nat) (t : List Nat) (p : Nat) (a : Ar) (hl : t.length ≤ 200) (ht : isText t) (hp : p ≤ t.length) (ha : a.ok) (h : Hs) : callF T (run T (n + 6)) 51 [.str t, .int (p : Int), arD a] h = .ok (resD (areaN t p a)) h := by
  refine call_p b.f51 rfl (by simp [D.rls, arD_rl, D.rl]) (h' := Hs.nil.new (.dct [])) ?_ (resD_rl _)
  rw [run_s b.f51 rfl]
  have e1 := c_need_place b.toB1 (n + 1) t p hl ht hp
  have e2 := c_is_area b (n + 1) a ha
  have e3 := c_bk b.toB1 (n + 4) t p
  have q : (p : Int) - (bk t p : Int) = ((p - bk t p : Nat) : Int) := by have := bk_le t p; omega
  have e5 : dctd [] [] Hs.nil = .ok (.ref Hs.nil.n) (Hs.nil.new (.dct [])) := rfl
  have e4 : callF T (run T (n + 5)) 50 [.str t, .int (p : Int), arD a, .non, .int ((p - bk t p : Nat) : Int), .ref Hs.nil.n, .non] (Hs.nil.new (.dct [])) = .ok (resD (areaN t p a)) (Hs.nil.new (.dct [])) := by
    rw [call_i b.f50 rfl]
    exact r_area_by b n t p a none (p - bk t p) (.ref Hs.nil.n) (fun _ => none) none (by omega) hp ha (fun _ e => nomatch e) (mk_nil _)
  generalize arD a = ad at *
  simp -implicitDefEqProofs [i_area_of, env0, getV, e1, e2, e3, q, e4, e5, outD]
end
end Ed

/-! part C1 -/
set_option maxRecDepth 100000
set_option maxHeartbeats 4000000
/-! There and back: brackets, rows. -/
namespace Ed
open Ev
/-! ### the pair of a pair -/
theorem pair_in_or (a o p : Nat) : ∀ (r : List Nat) (i : Nat) (st : List Nat) (q : Nat), pairGo a o p r i st = some q → q ∈ st ∨ i ≤ q
  | [], _, _, _, h => nomatch h
  | c :: r, i, st, q, h => by
    unfold pairGo at h
    by_cases h1 : c = a
    · rw [if_pos h1] at h
      rcases pair_in_or a o p r (i + 1) (i :: st) q h with h | h
      · rcases List.mem_cons.mp h with rfl | h
        · exact .inr (Nat.le_refl _)
        · exact .inl h
      · exact .inr (by omega)
    · rw [if_neg h1] at h
      by_cases h2 : c = o
      · rw [if_pos h2] at h
        cases st with
        | nil =>
          rcases pair_in_or a o p r (i + 1) [] q h with h | h
          · exact nomatch h
          · exact .inr (by omega)
        | cons f st =>
          dsimp only at h
          by_cases hp : p = f ∨ p = i
          · rw [if_pos hp] at h
            have h := Option.some.inj h
            rcases hp with rfl | rfl
            · exact .inr (by omega)
            · have : q = f := by omega
              exact .inl (by rw [this]; exact List.mem_cons_self ..)
          · rw [if_neg hp] at h
            rcases pair_in_or a o p r (i + 1) st q h with h | h
            · exact .inl (List.mem_cons_of_mem _ h)
            · exact .inr (by omega)
      · rw [if_neg h2] at h
        rcases pair_in_or a o p r (i + 1) st q h with h | h
        · exact .inl h
        · exact .inr (by omega)
theorem pair_back (a o p : Nat) : ∀ (r : List Nat) (i : Nat) (st : List Nat) (q : Nat), st.Nodup → (∀ f ∈ st, f < i) → pairGo a o p r i st = some q → pairGo a o q r i st = some p ∧ q ≠ p
  | [], _, _, _, _, _, h => nomatch h
  | c :: r, i, st, q, hn, hs, h => by
    unfold pairGo at h ⊢
    by_cases h1 : c = a
    · rw [if_pos h1] at h ⊢
      refine pair_back a o p r (i + 1) (i :: st) q (List.nodup_cons.mpr ⟨fun hm => ?_, hn⟩) (fun f hf => ?_) h
      · have := hs i hm
        omega
      · rcases List.mem_cons.mp hf with rfl | hf
        · omega
        · have := hs f hf; omega
    · rw [if_neg h1] at h ⊢
      by_cases h2 : c = o
      · rw [if_pos h2] at h ⊢
        cases st with
        | nil => exact pair_back a o p r (i + 1) [] q hn (fun f hf => nomatch hf) h
        | cons f st =>
          dsimp only at h ⊢
          have hf := hs f (List.mem_cons_self ..)
          have hn2 := List.nodup_cons.mp hn
          by_cases hp : p = f ∨ p = i
          · rw [if_pos hp] at h
            have h := Option.some.inj h
            have hq : q = f ∨ q = i := by omega
            rw [if_pos hq]
            exact ⟨by congr 1; omega, by omega⟩
          · rw [if_neg hp] at h
            have hio := pair_in_or a o p r (i + 1) st q h
            have hq : ¬ (q = f ∨ q = i) := by
              rintro (rfl | rfl)
              · rcases hio with h | h
                · exact hn2.1 h
                · omega
              · rcases hio with h | h
                · have := hs q (List.mem_cons_of_mem _ h); omega
                · omega
            rw [if_neg hq]
            exact pair_back a o p r (i + 1) st q hn2.2 (fun g hg => by have := hs g (List.mem_cons_of_mem _ hg); omega) h
      · rw [if_neg h2] at h ⊢
        exact pair_back a o p r (i + 1) st q hn (fun g hg => by have := hs g hg; omega) h
theorem pair_kind (a o p q : Nat) (t : List Nat) (h : pairGo a o p t 0 [] = some q) : ∃ c, t[p]? = some c ∧ (c = a ∨ c = o) := by
  cases e : t[p]? with
  | none => rw [pair_not a o t p (fun c hc => by rw [e] at hc; cases hc)] at h; cases h
  | some c =>
    refine ⟨c, rfl, ?_⟩
    by_cases h1 : c = a
    · exact .inl h1
    · by_cases h2 : c = o
      · exact .inr h2
      · rw [pair_not a o t p (fun d hd => by rw [e] at hd; cases hd; exact ⟨h1, h2⟩)] at h
        cases h
theorem pair_other (a o a' o' q c : Nat) (t : List Nat) (hc : t[q]? = some c) (h1 : c ≠ a') (h2 : c ≠ o') : pairGo a' o' q t 0 [] = none :=
  pair_not a' o' t q (fun d hd => by rw [hc] at hd; cases hd; exact ⟨h1, h2⟩)
theorem partner_back (t : List Nat) (p q : Nat) (h : partner t p = some q) : partner t q = some p ∧ q ≠ p := by
  rw [← pairAll_eq] at h ⊢
  unfold pairAll at h ⊢
  have nl : ([] : List Nat).Nodup := List.nodup_nil
  cases e1 : pairGo 40 41 p t 0 [] with
  | some q1 =>
    rw [e1] at h
    have h : q1 = q := Option.some.inj h
    subst h
    have b := pair_back 40 41 p t 0 [] q1 nl (fun f hf => nomatch hf) e1
    rw [b.1]
    exact ⟨rfl, b.2⟩
  | none =>
    rw [e1, Option.none_or] at h
    cases e2 : pairGo 91 93 p t 0 [] with
    | some q2 =>
      rw [e2] at h
      have h : q2 = q := Option.some.inj h
      subst h
      have b := pair_back 91 93 p t 0 [] q2 nl (fun f hf => nomatch hf) e2
      obtain ⟨c, hc, hk⟩ := pair_kind 91 93 q2 p t b.1
      rw [pair_other 91 93 40 41 q2 c t hc (by omega) (by omega), b.1]
      exact ⟨rfl, b.2⟩
    | none =>
      rw [e2, Option.none_or] at h
      have b := pair_back 123 125 p t 0 [] q nl (fun f hf => nomatch hf) h
      obtain ⟨c, hc, hk⟩ := pair_kind 123 125 q p t b.1
      rw [pair_other 123 125 40 41 q c t hc (by omega) (by omega), pair_other 123 125 91 93 q c t hc (by omega) (by omega), b.1]
      exact ⟨rfl, b.2⟩
/-! ### rows -/
theorem lens_succ (R : List (List Nat)) (j : Nat) (r : List Nat) (h : R[j]? = some r) : lens (R.take (j + 1)) = lens (R.take j) + r.length + 1 := by
  rw [List.take_succ, h]
  unfold lens
  simp
  omega
theorem lens_mono (R : List (List Nat)) : ∀ (i j : Nat), i < j → j ≤ R.length → lens (R.take i) < lens (R.take j)
  | i, 0, h, _ => by omega
  | i, j + 1, h, hj => by
    have hr : R[j]? = some R[j] := List.getElem?_eq_getElem (by omega)
    rw [lens_succ R j _ hr]
    by_cases e : i = j
    · subst e; omega
    · have := lens_mono R i j (by omega) (by omega)
      omega
/-- at a row's begin -/
theorem row_beg (t : List Nat) (j : Nat) (hj : j < (rows t).length) : lens ((rows t).take j) ≤ t.length ∧ rowN t (lens ((rows t).take j)) = j ∧ bk t (lens ((rows t).take j)) = lens ((rows t).take j) := by
  obtain ⟨r, er⟩ : ∃ r, (rows t)[j]? = some r := ⟨_, List.getElem?_eq_getElem hj⟩
  have hf := fwd_at t j r er
  rw [fwd_fw] at hf
  have hle : lens ((rows t).take j) ≤ t.length := by
    by_cases h : lens ((rows t).take j) ≤ t.length
    · exact h
    · have e : fw t (lens ((rows t).take j)) = t.length := by
        unfold fw
        rw [List.drop_eq_nil_of_le (by omega)]
        rfl
      omega
  generalize hp : lens ((rows t).take j) = p at *
  have ⟨h1, h2, h3⟩ := row_at t p hle
  have hlt := rowN_lt t p
  have hbk := bk_le t p
  have hge := fw_ge t p hle
  have e : rowN t p = j := by
    rcases Nat.lt_trichotomy (rowN t p) j with h | h | h
    · have h4 := lens_succ (rows t) (rowN t p) _ h1
      have h5 : lens ((rows t).take (rowN t p + 1)) ≤ lens ((rows t).take j) := by
        by_cases e : rowN t p + 1 = j
        · rw [e]; exact Nat.le_refl _
        · exact Nat.le_of_lt (lens_mono (rows t) _ _ (by omega) (by omega))
      omega
    · exact h
    · have := lens_mono (rows t) j (rowN t p) h (by omega)
      omega
  refine ⟨hle, e, ?_⟩
  rw [← h2, e, hp]
theorem toRow0 (t : List Nat) (j : Nat) (hj : j < (rows t).length) : toRow t (j : Int) 0 = some (lens ((rows t).take j)) := by
  obtain ⟨r, er⟩ : ∃ r, (rows t)[j]? = some r := ⟨_, List.getElem?_eq_getElem hj⟩
  rw [toRow_some t j 0 r er]
  congr 1
theorem join_len : ∀ (l : List (List Nat)), l ≠ [] → (joins [10] l).length + 1 = lens l
  | [], h => absurd rfl h
  | [x], _ => by simp [joins, lens]
  | x :: y :: l, _ => by
    have ih := join_len (y :: l) (by simp)
    rw [lens_c, ← ih]
    rw [joins]
    · simp
      omega
    · intro h
      exact nomatch h
/-! ### what is searched comes round -/
theorem sorted_get {L : List Nat} (hs : L.Pairwise (· < ·)) {i j : Nat} {a b : Nat} (hi : L[i]? = some a) (hj : L[j]? = some b) (h : i < j) : a < b := by
  have h1 := (List.getElem?_eq_some_iff.mp hi)
  have h2 := (List.getElem?_eq_some_iff.mp hj)
  obtain ⟨l1, e1⟩ := h1
  obtain ⟨l2, e2⟩ := h2
  have := List.pairwise_iff_getElem.mp hs i j l1 l2 h
  rw [e1, e2] at this
  exact this
/-- the first behind p -/
theorem filter_first {L : List Nat} (hs : L.Pairwise (· < ·)) {i : Nat} {v p : Nat} (hi : L[i]? = some v) (hv : p < v) (hb : ∀ j u, j < i → L[j]? = some u → ¬ p < u) : (L.filter fun x => decide (p < x))[0]? = some v := by
  cases hf : L.filter fun x => decide (p < x) with
  | nil =>
    have : v ∈ L.filter fun x => decide (p < x) := List.mem_filter.mpr ⟨List.mem_of_getElem? hi, decide_eq_true hv⟩
    rw [hf] at this
    exact nomatch this
  | cons w ws =>
    show some w = some v
    have hw : w ∈ L.filter fun x => decide (p < x) := by rw [hf]; exact List.mem_cons_self ..
    obtain ⟨hw1, hw2⟩ := List.mem_filter.mp hw
    have hw2 := of_decide_eq_true hw2
    obtain ⟨k, hk, ek⟩ := List.getElem_of_mem hw1
    have ek : L[k]? = some w := by rw [List.getElem?_eq_getElem hk, ek]
    have hki : i ≤ k := by
      by_cases h : k < i
      · exact absurd hw2 (hb k w h ek)
      · omega
    have hvm : v ∈ w :: ws := by rw [← hf]; exact List.mem_filter.mpr ⟨List.mem_of_getElem? hi, decide_eq_true hv⟩
    have hsf : (w :: ws).Pairwise (· < ·) := by rw [← hf]; exact List.Pairwise.filter _ hs
    rcases List.mem_cons.mp hvm with h | h
    · rw [h]
    · have h1 := (List.pairwise_cons.mp hsf).1 v h
      by_cases h2 : i = k
      · subst h2
        rw [hi] at ek
        cases ek
        rfl
      · have := sorted_get hs hi ek (by omega)
        omega
theorem srOn_next (t pat : List Nat) (i v : Nat) (hi : (fnd t pat)[i]? = some v) : srOn t v pat = (fnd t pat)[(i + 1) % (fnd t pat).length]? := by
  have hs := fnd_sorted t pat
  generalize hL : fnd t pat = L at *
  have hlt := (List.getElem?_eq_some_iff.mp hi).1
  have hlast : L.getLast? = L[L.length - 1]? := List.getLast?_eq_getElem?
  obtain ⟨l, el⟩ : ∃ l, L[L.length - 1]? = some l := ⟨_, List.getElem?_eq_getElem (by omega)⟩
  unfold srOn nthB
  rw [hL, hlast, el]
  dsimp only
  by_cases h : i + 1 < L.length
  · obtain ⟨w, ew⟩ : ∃ w, L[i + 1]? = some w := ⟨_, List.getElem?_eq_getElem h⟩
    have hvw := sorted_get hs hi ew (by omega)
    have hvl : v < l := by
      by_cases e : i + 1 = L.length - 1
      · rw [e] at ew
        rw [ew] at el
        cases el
        exact hvw
      · have := sorted_get hs ew el (by omega)
        omega
    rw [if_pos hvl, Nat.mod_eq_of_lt h, ew]
    exact filter_first hs ew hvw (fun j u hj hu => by
      by_cases e : j = i
      · subst e
        rw [hi] at hu
        cases hu
        omega
      · have := sorted_get hs hu hi (by omega)
        omega)
  · have e : i = L.length - 1 := by omega
    rw [e, el] at hi
    cases hi
    rw [if_neg (by omega), show i + 1 = L.length by omega, Nat.mod_self]
end Ed

/-! part C2 -/
set_option maxRecDepth 100000
set_option maxHeartbeats 4000000
/-! All words met, on and back. -/
namespace Ed
open Ev
structure BC (T : Tbl) : Prop extends BG T where
  f52 : T.fn 52 = some i_law_words_met
theorem wb_sorted (t : List Nat) : (wb t).Pairwise (· < ·) := List.Pairwise.filter _ List.pairwise_lt_range
theorem wb_lt (t : List Nat) : ∀ i ∈ wb t, i < t.length := fun i hi => List.mem_range.mp (List.mem_filter.mp hi).1
/-- the last ahead of p -/
theorem filter_last {L : List Nat} (hs : L.Pairwise (· < ·)) {i : Nat} {v p : Nat} (hi : L[i]? = some v) (hv : v < p) (hb : ∀ j u, i < j → L[j]? = some u → ¬ u < p) : (L.filter fun x => decide (x < p)).reverse[0]? = some v := by
  have hlen : 0 < (L.filter fun x => decide (x < p)).length := List.length_pos_of_mem (List.mem_filter.mpr ⟨List.mem_of_getElem? hi, decide_eq_true hv⟩)
  rw [List.getElem?_reverse hlen]
  obtain ⟨w, ew⟩ : ∃ w, (L.filter fun x => decide (x < p))[(L.filter fun x => decide (x < p)).length - 1 - 0]? = some w := ⟨_, List.getElem?_eq_getElem (by omega)⟩
  rw [ew]
  have hw := List.mem_of_getElem? ew
  obtain ⟨hw1, hw2⟩ := List.mem_filter.mp hw
  have hw2 := of_decide_eq_true hw2
  obtain ⟨k, hk, ek⟩ := List.getElem_of_mem hw1
  have ek : L[k]? = some w := by rw [List.getElem?_eq_getElem hk, ek]
  have hki : k ≤ i := by
    by_cases h : i < k
    · exact absurd hw2 (hb k w h ek)
    · omega
  have hsf : (L.filter fun x => decide (x < p)).Pairwise (· < ·) := List.Pairwise.filter _ hs
  obtain ⟨m, hm, em⟩ := List.getElem_of_mem (List.mem_filter.mpr ⟨List.mem_of_getElem? hi, decide_eq_true hv⟩ : v ∈ L.filter fun x => decide (x < p))
  have em : (L.filter fun x => decide (x < p))[m]? = some v := by rw [List.getElem?_eq_getElem hm, em]
  by_cases e : k = i
  · subst e
    rw [hi] at ek
    cases ek
    rfl
  · have h1 := sorted_get hs ek hi (by omega)
    by_cases e2 : m = (L.filter fun x => decide (x < p)).length - 1 - 0
    · subst e2
      rw [em] at ew
      cases ew
      rfl
    · have := sorted_get hsf em ew (by omega)
      omega
theorem word_next (t : List Nat) (i v : Nat) (hi : (wb t)[i]? = some v) : goesN t v (.word 1) = (wb t)[i + 1]? := by
  have hs := wb_sorted t
  show ((wb t).filter fun x => decide (v < x))[1 - 1]? = _
  cases e : (wb t)[i + 1]? with
  | some w =>
    exact filter_first hs e (sorted_get hs hi e (by omega)) (fun j u hj hu => by
      by_cases q : j = i
      · subst q
        rw [hi] at hu
        cases hu
        omega
      · have := sorted_get hs hu hi (by omega)
        omega)
  | none =>
    have : (wb t).filter (fun x => decide (v < x)) = [] := by
      refine List.filter_eq_nil_iff.mpr fun x hx hc => ?_
      have hc := of_decide_eq_true hc
      obtain ⟨k, hk, ek⟩ := List.getElem_of_mem hx
      have ek : (wb t)[k]? = some x := by rw [List.getElem?_eq_getElem hk, ek]
      have hl := List.getElem?_eq_none_iff.mp e
      by_cases q : k = i
      · subst q
        rw [hi] at ek
        cases ek
        omega
      · have := sorted_get hs ek hi (by omega)
        omega
    rw [this]
    rfl
theorem word_prev (t : List Nat) (i v : Nat) (hi : (wb t)[i]? = some v) : goesN t v (.back 1) = if i = 0 then none else (wb t)[i - 1]? := by
  have hs := wb_sorted t
  show ((wb t).filter fun x => decide (x < v)).reverse[1 - 1]? = _
  by_cases h0 : i = 0
  · rw [if_pos h0]
    subst h0
    have : (wb t).filter (fun x => decide (x < v)) = [] := by
      refine List.filter_eq_nil_iff.mpr fun x hx hc => ?_
      have hc := of_decide_eq_true hc
      obtain ⟨k, hk, ek⟩ := List.getElem_of_mem hx
      have ek : (wb t)[k]? = some x := by rw [List.getElem?_eq_getElem hk, ek]
      by_cases q : k = 0
      · subst q
        rw [hi] at ek
        cases ek
        omega
      · have := sorted_get hs hi ek (by omega)
        omega
    rw [this]
    rfl
  · rw [if_neg h0]
    have hl := (List.getElem?_eq_some_iff.mp hi).1
    obtain ⟨u, eu⟩ : ∃ u, (wb t)[i - 1]? = some u := ⟨_, List.getElem?_eq_getElem (by omega)⟩
    rw [eu]
    exact filter_last hs eu (sorted_get hs eu hi (by omega)) (fun j w hj hw => by
      by_cases q : j = i
      · subst q
        rw [hi] at hw
        cases hw
        omega
      · have := sorted_get hs hi hw (by omega)
        omega)
theorem word_end (t : List Nat) : goesN t t.length (.back 1) = (wb t).getLast? := by
  have hs := wb_sorted t
  show ((wb t).filter fun x => decide (x < t.length)).reverse[1 - 1]? = _
  rw [List.filter_eq_self.mpr (fun x hx => decide_eq_true (wb_lt t x hx))]
  rw [show 1 - 1 = 0 from rfl]
  rw [← List.head?_eq_getElem?, List.head?_reverse]
theorem word_start (t : List Nat) (ht : 1 ≤ t.length) : (goesN t 1 (.back 1) = some 0 → (wb t)[0]? = some 0) ∧ (goesN t 1 (.back 1) ≠ some 0 → goesN t 0 (.word 1) = (wb t)[0]?) := by
  have hs := wb_sorted t
  have e1 : goesN t 1 (.back 1) = ((wb t).filter fun x => decide (x < 1)).reverse[1 - 1]? := rfl
  have e2 : goesN t 0 (.word 1) = ((wb t).filter fun x => decide (0 < x))[1 - 1]? := rfl
  rw [e1, e2]
  cases e : (wb t)[0]? with
  | none =>
    have : wb t = [] := by
      have := List.getElem?_eq_none_iff.mp e
      exact List.eq_nil_of_length_eq_zero (by omega)
    rw [this]
    exact ⟨fun h => by simpa using h, fun _ => rfl⟩
  | some a =>
    by_cases h0 : a = 0
    · subst h0
      have : ((wb t).filter fun x => decide (x < 1)).reverse[1 - 1]? = some 0 := filter_last hs e (by decide) (fun j u hj hu => by
        have := sorted_get hs e hu hj
        omega)
      rw [this]
      exact ⟨fun _ => rfl, fun h => absurd rfl h⟩
    · have h1 : (wb t).filter (fun x => decide (x < 1)) = [] := by
        refine List.filter_eq_nil_iff.mpr fun x hx hc => ?_
        have hc := of_decide_eq_true hc
        obtain ⟨k, hk, ek⟩ := List.getElem_of_mem hx
        have ek : (wb t)[k]? = some x := by rw [List.getElem?_eq_getElem hk, ek]
        by_cases q : k = 0
        · subst q
          rw [e] at ek
          cases ek
          omega
        · have := sorted_get hs e ek (by omega)
          omega
      rw [h1]
      refine ⟨fun h => by simp at h, fun _ => ?_⟩
      exact filter_first hs e (by omega) (fun j u hj hu => by omega)
section
variable {T : Tbl} {h : Hs}
theorem eqh_strs (a b : List Nat) : eqh (.str a) (.str b) h = some (decide (a = b)) := by
  unfold eqh
  rw [eqd_str]
theorem eqh_ints (a b : Int) : eqh (.int a) (.int b) h = some (decide (a = b)) := by
  unfold eqh
  rw [eqd_int]
def wmB : Ss := (.cons (.exp (.bm .append (.var 1) (.cons (.var 2) .nil))) (.cons (.set 2 (.call 24 (.cons (.var 0) (.cons (.var 2) (.cons (.tup (.cons (.lit (.str [119, 111, 114, 100])) (.cons (.lit (.int 1)) .nil))) .nil))))) .nil))
theorem app_ref (k i : Nat) (xs : List Nat) (ho : h.o k = some (.lst (nD xs))) (hl : xs.length ≤ 1000000) : bty .append (.ref k) h = some .list ∧ bmd .list .append (.ref k) [.int (i : Int)] h = .ok .non (h.put k (.lst (nD (xs ++ [i])))) := by
  have hlen : (nD xs).length < big := by rw [nD_len, big_v]; omega
  refine ⟨by simp only [bty, bty0, ho, bok], ?_⟩
  simp only [bmd, bml, ho, decide_eq_true hlen, okIf]
  rw [← nD_snoc]
  rfl
theorem put_ne (h : Hs) (k j : Nat) (x : O) (hj : j ≠ k) : (h.put k x).o j = h.o j := if_neg hj
theorem take_snoc {L : List Nat} {i v : Nat} (hi : L[i]? = some v) : L.take i ++ [v] = L.take (i + 1) := by
  rw [List.take_succ, hi]
  rfl
theorem wm_on (b : BC T) (n : Nat) (t : List Nat) (hl : t.length ≤ 200) (ht : isText t) (x3 : Option D) (k : Nat) : ∀ (m i N : Nat) (h : Hs), i + m = (wb t).length → m < N → h.o k = some (.lst (nD ((wb t).take i))) →
    ∃ h', whGo (ev T (run T (n + 6)) (.ntn (.var 2))) (exes T (run T (n + 6)) wmB) N [some (.str t), some (.ref k), some (oN (wb t)[i]?), x3] h = .ok (.nx [some (.str t), some (.ref k), some .non, x3]) h' ∧ h'.o k = some (.lst (nD (wb t))) ∧ h'.n = h.n ∧ ∀ j, j ≠ k → h'.o j = h.o j
  | 0, i, N + 1, h, hi, _, ho => by
    have e : (wb t)[i]? = none := List.getElem?_eq_none (by omega)
    rw [e]
    refine ⟨h, ?_, ?_, rfl, fun _ _ => rfl⟩
    · have hc : ev T (run T (n + 6)) (.ntn (.var 2)) [some (.str t), some (.ref k), some (oN none), x3] h = .ok (.bl false) h := by
        simp [getV, oN]
      rw [wh_end hc]
      rfl
    · rw [ho, List.take_of_length_le (by omega)]
  | m + 1, i, N + 1, h, hi, hN, ho => by
    obtain ⟨v, ev'⟩ : ∃ v, (wb t)[i]? = some v := ⟨_, List.getElem?_eq_getElem (by omega)⟩
    have hv := wb_lt t v (List.mem_of_getElem? ev')
    rw [ev']
    have hc : ev T (run T (n + 6)) (.ntn (.var 2)) [some (.str t), some (.ref k), some (oN (some v)), x3] h = .ok (.bl true) h := by
      simp [getV, oN]
    obtain ⟨a1, a2⟩ := app_ref (h := h) k v ((wb t).take i) ho (by rw [List.length_take]; have := wb_len t; omega)
    have e1 := c_goes b.toBG n t v (.word 1) hl ht (by omega) ⟨by decide, by decide⟩
    rw [word_next t i v ev'] at e1
    have eD : moD (.word 1) = .tup [.str [119, 111, 114, 100], .int 1] := rfl
    rw [eD] at e1
    rw [take_snoc ev'] at a2
    have hb : exes T (run T (n + 6)) wmB [some (.str t), some (.ref k), some (oN (some v)), x3] h = .ok (.nx [some (.str t), some (.ref k), some (oN (wb t)[i + 1]?), x3]) (h.put k (.lst (nD ((wb t).take (i + 1))))) := by
      generalize oN (wb t)[i + 1]? = nx at *
      simp only [oN]
      simp -implicitDefEqProofs [wmB, getV, a1, a2, e1]
    obtain ⟨h', e3, e4, e5, e6⟩ := wm_on b n t hl ht x3 k m (i + 1) N _ (by omega) (by omega) (put_same h k _)
    exact ⟨h', by rw [wh_go hc hb, e3], e4, e5, fun j hj => by rw [e6 j hj, put_ne _ _ _ _ hj]⟩
def wkB : Ss := (.cons (.exp (.bm .append (.var 3) (.cons (.var 2) .nil))) (.cons (.set 2 (.ife (.cmp .gt (.var 2) (.lit (.int 0))) (.call 24 (.cons (.var 0) (.cons (.var 2) (.cons (.tup (.cons (.lit (.str [98, 97, 99, 107])) (.cons (.lit (.int 1)) .nil))) .nil)))) (.lit .non))) .nil))
def prv (t : List Nat) (i : Nat) : Option Nat := if i = 0 then none else (wb t)[i - 1]?
theorem wm_back (b : BC T) (n : Nat) (t : List Nat) (hl : t.length ≤ 200) (ht : isText t) (x1 : Option D) (k : Nat) : ∀ (i N : Nat) (h : Hs), i ≤ (wb t).length → i < N → h.o k = some (.lst (nD ((wb t).drop i).reverse)) →
    ∃ h', whGo (ev T (run T (n + 6)) (.ntn (.var 2))) (exes T (run T (n + 6)) wkB) N [some (.str t), x1, some (oN (prv t i)), some (.ref k)] h = .ok (.nx [some (.str t), x1, some .non, some (.ref k)]) h' ∧ h'.o k = some (.lst (nD (wb t).reverse)) ∧ ∀ j, j ≠ k → h'.o j = h.o j
  | 0, N + 1, h, _, _, ho => by
    refine ⟨h, ?_, ?_, fun _ _ => rfl⟩
    · have hc : ev T (run T (n + 6)) (.ntn (.var 2)) [some (.str t), x1, some (oN (prv t 0)), some (.ref k)] h = .ok (.bl false) h := by
        simp [getV, oN, prv]
      rw [wh_end hc]
      rfl
    · rw [ho, List.drop_zero]
  | i + 1, N + 1, h, hi, hN, ho => by
    obtain ⟨v, ev'⟩ : ∃ v, (wb t)[i]? = some v := ⟨_, List.getElem?_eq_getElem (by omega)⟩
    have hv := wb_lt t v (List.mem_of_getElem? ev')
    have ep : prv t (i + 1) = some v := by unfold prv; rw [if_neg (by omega)]; exact ev'
    rw [ep]
    have hc : ev T (run T (n + 6)) (.ntn (.var 2)) [some (.str t), x1, some (oN (some v)), some (.ref k)] h = .ok (.bl true) h := by
      simp [getV, oN]
    obtain ⟨a1, a2⟩ := app_ref (h := h) k v ((wb t).drop (i + 1)).reverse ho (by simp; have := wb_len t; omega)
    have e1 := c_goes b.toBG n t v (.back 1) hl ht (by omega) ⟨by decide, by decide⟩
    rw [word_prev t i v ev'] at e1
    have eD : moD (.back 1) = .tup [.str [98, 97, 99, 107], .int 1] := rfl
    rw [eD] at e1
    have ed : ((wb t).drop (i + 1)).reverse ++ [v] = ((wb t).drop i).reverse := by
      have hl := (List.getElem?_eq_some_iff.mp ev').1
      have : (wb t).drop i = v :: (wb t).drop (i + 1) := by
        rw [List.drop_eq_getElem_cons hl]
        congr 1
        have := (List.getElem?_eq_some_iff.mp ev').2
        exact this
      rw [this, List.reverse_cons]
    rw [ed] at a2
    have e2 : (if i = 0 then none else (wb t)[i - 1]?) = prv t i := rfl
    rw [e2] at e1
    have hb : exes T (run T (n + 6)) wkB [some (.str t), x1, some (oN (some v)), some (.ref k)] h = .ok (.nx [some (.str t), x1, some (oN (prv t i)), some (.ref k)]) (h.put k (.lst (nD ((wb t).drop i).reverse))) := by
      by_cases h0 : 0 < v
      · generalize oN (prv t i) = nx at *
        simp only [oN]
        simp -implicitDefEqProofs [wkB, getV, a1, a2, cmp_gt, h0, e1]
      · have hi0 : i = 0 := by
          by_cases q : i = 0
          · exact q
          · have h2 : (wb t)[0]? = some (wb t)[0] := List.getElem?_eq_getElem (by omega)
            have := sorted_get (wb_sorted t) h2 ev' (by omega)
            omega
        have e3 : prv t i = none := by unfold prv; rw [if_pos hi0]
        rw [e3]
        simp only [oN]
        simp -implicitDefEqProofs [wkB, getV, a1, a2, cmp_gt, h0]
    obtain ⟨h', e3, e4, e6⟩ := wm_back b n t hl ht x1 k i N _ (by omega) (by omega) (put_same h k _)
    exact ⟨h', by rw [wh_go hc hb, e3], e4, fun j hj => by rw [e6 j hj, put_ne _ _ _ _ hj]⟩
theorem c_words_met (b : BC T) (n : Nat) (t : List Nat) (hl : t.length ≤ 200) (ht : isText t) (h : Hs) : callF T (run T (n + 7)) 52 [.str t] h = .ok (.bl true) h := by
  have hb : t.length ≤ big := by rw [big_v]; omega
  have hwl := wb_len t
  -- where the first word begins
  obtain ⟨h1, f1, f2, f3, f4⟩ := wm_on b n t hl ht none 0 (wb t).length 0 turns (Hs.nil.new (.lst [])) (by omega) (by unfold turns; omega) rfl
  have hn1 : h1.n = 1 := f3
  obtain ⟨h2, g1, g2, g3⟩ := wm_back b n t hl ht (some (.ref 0)) 1 (wb t).length turns (h1.new (.lst [])) (Nat.le_refl _) (by unfold turns; omega) (by
    rw [List.drop_length]
    have : (h1.new (.lst [])).o h1.n = some (.lst []) := new_o _ _
    rw [hn1] at this
    exact this)
  have g0 : h2.o 0 = some (.lst (nD (wb t))) := by
    rw [g3 0 (by decide)]
    show (if 0 = h1.n then _ else h1.o 0) = _
    rw [hn1, if_neg (by decide), f2]
  refine call_p b.f52 rfl rfl (h' := h2) ?_ rfl
  rw [run_s b.f52 rfl]
  have e0 : (D.ref Hs.nil.n) = .ref 0 := rfl
  have e1 : (D.ref h1.n) = .ref 1 := by rw [hn1]
  have s1 : ∀ h, slice (.str t) none (some 1) h = .ok (.str (t.take 1)) h := fun h => slice_to (h := h) t 1 hb
  have eL := fun h => len_str (h := h) t hb
  have r1 : revd (.ref 1) h2 = .ok (.lst (nD (wb t))) h2 := by
    unfold revd lsts
    simp only [g2]
    rw [nD, ← List.map_reverse, List.reverse_reverse]
    rfl
  have q1 : eqh (.lst (nD (wb t))) (.ref 0) h2 = some true := by
    have a1 : eqd (.lst (nD (wb t))) (.ref 0) = none := by
      unfold eqd
      simp [flat, dok]
    have a2 : dr (.ref 0) h2 = .lst (nD (wb t)) := by
      unfold dr
      simp only [g0]
    have a3 : dr (.lst (nD (wb t))) h2 = .lst (nD (wb t)) := rfl
    unfold eqh
    rw [a1]
    unfold eqr
    dsimp only
    have a4 : dok 60 (.lst (nD (wb t))) = true := dok_nD _ 59
    have a5 : ∀ l : List Nat, cmpbs (nD l) (nD l) = true := fun l => by
      induction l with
      | nil => rfl
      | cons a l ih => exact ih
    have a6 : cmpb (.lst (nD (wb t))) (.lst (nD (wb t))) = true := a5 _
    rw [a2, a3, a4, a6]
    simp
  simp only [wmB] at f1
  simp only [wkB] at g1
  have eDb : moD (.back 1) = .tup [.str [98, 97, 99, 107], .int 1] := rfl
  have eDw : moD (.word 1) = .tup [.str [119, 111, 114, 100], .int 1] := rfl
  by_cases ht0 : t = []
  · subst ht0
    have w0 : wb [] = [] := rfl
    have e3 := c_goes b.toBG n [] 0 (.word 1) (by simp) ht (by simp) ⟨by decide, by decide⟩
    have e4 : goesN [] 0 (.word 1) = none := rfl
    rw [e4, eDw] at e3
    simp only [Int.cast_ofNat_Int, Int.natCast_zero] at e3
    rw [w0] at f1 g1
    have e5 : prv [] 0 = none := rfl
    have e6 : ([] : List Nat)[0]? = none := rfl
    simp only [List.length_nil, e5, e6, oN] at f1 g1 e3
    simp only [List.take_nil] at s1
    simp only [List.length_nil, Int.natCast_zero, Int.cast_ofNat_Int] at eL
    simp -implicitDefEqProofs [-eqh_2, i_law_words_met, env0, getV, mutd, e0, e1, s1, cmp, eqh_strs, e3, f1, eL, g1, r1, q1, outD]
  · have htl : 1 ≤ t.length := List.length_pos_iff.mpr ht0
    have ht1 : ¬ (t.take 1 = []) := by
      intro h
      have := congrArg List.length h
      rw [List.length_take, List.length_nil] at this
      omega
    obtain ⟨w1, w2⟩ := word_start t htl
    have e3 := c_goes b.toBG n t 1 (.back 1) hl ht htl ⟨by decide, by decide⟩
    have e4 := c_goes b.toBG n t 0 (.word 1) hl ht (by omega) ⟨by decide, by decide⟩
    have e5 := c_goes b.toBG n t t.length (.back 1) hl ht (Nat.le_refl _) ⟨by decide, by decide⟩
    rw [word_end] at e5
    have ep : prv t (wb t).length = (wb t).getLast? := by
      unfold prv
      by_cases h0 : (wb t).length = 0
      · rw [if_pos h0, List.eq_nil_of_length_eq_zero h0]
        rfl
      · rw [if_neg h0, List.getLast?_eq_getElem?]
    rw [ep] at g1
    rw [eDb] at e3 e5
    rw [eDw] at e4
    simp only [Int.cast_ofNat_Int, Int.natCast_zero, Int.natCast_one] at e3 e4
    have hpos : 0 < t.length := by omega
    by_cases hc : goesN t 1 (.back 1) = some 0
    · have h0 := w1 hc
      rw [hc] at e3
      rw [h0] at f1
      simp only [oN] at e3 f1
      generalize oN (wb t).getLast? = lst at *
      simp only [Int.natCast_zero, Int.cast_ofNat_Int] at e3 f1
      simp -implicitDefEqProofs [-eqh_2, i_law_words_met, env0, getV, mutd, e0, e1, s1, ht1, cmp, eqh_strs, eqh_ints, e3, f1, eL, hpos, e5, g1, r1, q1, outD]
    · have h0 := w2 hc
      rw [h0] at e4
      have hq : ∀ h, eqh (oN (goesN t 1 (.back 1))) (.int 0) h = some false := fun h => by
        cases hg : goesN t 1 (.back 1) with
        | none =>
          unfold eqh
          rw [show oN none = .non from rfl, eqd_ni]
        | some v =>
          unfold eqh
          rw [show oN (some v) = .int (v : Int) from rfl, eqd_int, decide_eq_false]
          intro e
          refine hc ?_
          rw [hg]
          congr 1
          omega
      generalize oN (goesN t 1 (.back 1)) = bk1 at *
      generalize oN (wb t)[0]? = fst at *
      generalize oN (wb t).getLast? = lst at *
      simp -implicitDefEqProofs [-eqh_2, i_law_words_met, env0, getV, mutd, e0, e1, s1, ht1, cmp, eqh_strs, e3, hq, e4, f1, eL, hpos, e5, g1, r1, q1, outD]
end
end Ed

/-! part C3 -/
set_option maxRecDepth 100000
set_option maxHeartbeats 4000000
/-! All places of a pattern are met, and round again. -/
namespace Ed
open Ev
theorem count_nodup : ∀ (l : List Int) (x : Int), l.Nodup → l.count x ≤ 1
  | [], _, _ => by simp
  | a :: l, x, h => by
    have h2 := List.nodup_cons.mp h
    by_cases e : x = a
    · subst e
      rw [List.count_cons_self, List.count_eq_zero.mpr h2.1]
      exact Nat.le_refl _
    · rw [List.count_cons_of_ne (Ne.symm e)]
      exact count_nodup l x h2.2
theorem srOn_mem (t pat : List Nat) (p : Nat) (h : fnd t pat ≠ []) : ∃ (i v : Nat), (fnd t pat)[i]? = some v ∧ srOn t p pat = some v := by
  cases e : fnd t pat with
  | nil => exact absurd e h
  | cons a xs =>
    unfold srOn
    rw [e]
    obtain ⟨l, el⟩ : ∃ l, (a :: xs).getLast? = some l := ⟨_, List.getLast?_eq_some_getLast (by simp)⟩
    rw [el]
    dsimp only
    by_cases hp : p < l
    · rw [if_pos hp]
      unfold nthB
      have hm : l ∈ (a :: xs).filter fun i => decide (p < i) := List.mem_filter.mpr ⟨List.mem_of_getLast? el, decide_eq_true hp⟩
      cases hf : (a :: xs).filter fun i => decide (p < i) with
      | nil => rw [hf] at hm; exact nomatch hm
      | cons v vs =>
        have hv : v ∈ a :: xs := (List.mem_filter.mp (by rw [hf]; exact List.mem_cons_self .. : v ∈ (a :: xs).filter fun i => decide (p < i))).1
        obtain ⟨k, hk, ek⟩ := List.getElem_of_mem hv
        exact ⟨k, v, by rw [List.getElem?_eq_getElem hk, ek], rfl⟩
    · rw [if_neg hp]
      exact ⟨0, a, rfl, rfl⟩
/-- the places met, from the i-th on -/
def vis (L : List Nat) (i j : Nat) : List Nat := (List.range (j + 1)).map fun k => (L[(i + k) % L.length]?).getD 0
theorem vis_succ (L : List Nat) (i j : Nat) : vis L i (j + 1) = vis L i j ++ [(L[(i + (j + 1)) % L.length]?).getD 0] := by
  unfold vis
  rw [List.range_succ (n := j + 1), List.map_append]
  rfl
theorem vis_last (L : List Nat) (i j : Nat) : (vis L i j).getLast? = some ((L[(i + j) % L.length]?).getD 0) := by
  cases j with
  | zero => rfl
  | succ j => rw [vis_succ]; simp
theorem vis_len (L : List Nat) (i j : Nat) : (vis L i j).length = j + 1 := by
  unfold vis
  simp
theorem get_inj {L : List Nat} (hs : L.Pairwise (· < ·)) {a b : Nat} (ha : a < L.length) (hb : b < L.length) (h : (L[a]?).getD 0 = (L[b]?).getD 0) : a = b := by
  have ea : L[a]? = some L[a] := List.getElem?_eq_getElem ha
  have eb : L[b]? = some L[b] := List.getElem?_eq_getElem hb
  rw [ea, eb] at h
  have h : L[a] = L[b] := h
  rcases Nat.lt_trichotomy a b with q | q | q
  · have := sorted_get hs ea eb q
    omega
  · exact q
  · have := sorted_get hs eb ea q
    omega
theorem mod_inj {m i a b : Nat} (hab : a < b) (hb : b < m) (h : (i + a) % m = (i + b) % m) : False := by
  have h1 := Nat.div_add_mod (i + a) m
  have h2 := Nat.div_add_mod (i + b) m
  have h3 := Nat.mod_lt (i + a) (show 0 < m by omega)
  rw [h] at h1
  have e : b - a = m * ((i + b) / m) - m * ((i + a) / m) := by omega
  have h4 : (i + a) / m ≤ (i + b) / m := Nat.div_le_div_right (by omega)
  rw [← Nat.mul_sub] at e
  cases q : (i + b) / m - (i + a) / m with
  | zero => rw [q] at e; omega
  | succ r =>
    rw [q, Nat.mul_add, Nat.mul_one] at e
    have := Nat.zero_le (m * r)
    omega
theorem vis_count (L : List Nat) (hs : L.Pairwise (· < ·)) (i j : Nat) (hj : j < L.length) (x : Int) : ((vis L i j).map fun (n : Nat) => (n : Int)).count x ≤ 1 := by
  refine count_nodup _ _ ?_
  unfold vis
  rw [List.map_map]
  refine List.pairwise_map.mpr ?_
  refine List.Pairwise.imp_of_mem ?_ (List.pairwise_lt_range (n := j + 1))
  intro a b ha hb hab h
  have ha := List.mem_range.mp ha
  have hb := List.mem_range.mp hb
  have h : ((L[(i + a) % L.length]?).getD 0 : Int) = ((L[(i + b) % L.length]?).getD 0 : Int) := h
  have h := get_inj hs (Nat.mod_lt _ (by omega)) (Nat.mod_lt _ (by omega)) (Int.ofNat_inj.mp h)
  exact mod_inj hab (by omega) h
theorem vis_round (L : List Nat) (i : Nat) (hL : 0 < L.length) : 2 ≤ ((vis L i L.length).map fun (n : Nat) => (n : Int)).count (((L[(i + L.length) % L.length]?).getD 0 : Nat) : Int) := by
  obtain ⟨m, hm⟩ : ∃ m, L.length = m + 1 := ⟨L.length - 1, by omega⟩
  have e : vis L i L.length = vis L i m ++ [(L[(i + L.length) % L.length]?).getD 0] := by
    have := vis_succ L i m
    rw [← hm] at this
    exact this
  rw [e, List.map_append, List.count_append]
  have h1 : 1 ≤ ((vis L i m).map fun (n : Nat) => (n : Int)).count (((L[(i + L.length) % L.length]?).getD 0 : Nat) : Int) := by
    refine List.count_pos_iff.mpr ?_
    refine List.mem_map.mpr ⟨(L[(i + L.length) % L.length]?).getD 0, ?_, rfl⟩
    unfold vis
    refine List.mem_map.mpr ⟨0, List.mem_range.mpr (by omega), ?_⟩
    rw [Nat.add_zero, Nat.add_mod_right]
  have h2 : ([(L[(i + L.length) % L.length]?).getD 0].map fun (n : Nat) => (n : Int)).count (((L[(i + L.length) % L.length]?).getD 0 : Nat) : Int) = 1 := by
    rw [List.map_cons, List.map_nil, List.count_cons_self]
    rfl
  omega
section
variable {T : Tbl} {h : Hs}
def smC : E := (.and (.ntn (.sub (.var 8) (.neg (.lit (.int 1))))) (.cmp .lt (.bm .count (.var 8) (.cons (.sub (.var 8) (.neg (.lit (.int 1)))) .nil)) (.lit (.int 2))))
def smB : Ss := (.cons (.exp (.bm .append (.var 8) (.cons (.call 24 (.cons (.var 2) (.cons (.sub (.var 8) (.neg (.lit (.int 1)))) (.cons (.tup (.cons (.lit (.str [115, 101, 97, 114, 99, 104])) (.cons (.var 7) .nil))) .nil)))) .nil))) .nil)
theorem sub_ref (k : Nat) (xs : List Nat) (v : Nat) (ho : h.o k = some (.lst (nD xs))) (hv : xs.getLast? = some v) : subs (.ref k) (.int (-1)) h = .ok (.int (v : Int)) h := by
  have h0 : xs ≠ [] := fun e => by rw [e] at hv; cases hv
  have e1 := subs_nD_last (h := h) xs h0
  rw [hv] at e1
  simp only [subs, items] at e1 ⊢
  rw [ho]
  exact e1
theorem count_ref (k : Nat) (xs : List Nat) (x : Int) (ho : h.o k = some (.lst (nD xs))) : bty .count (.ref k) h = some .list ∧ bmd .list .count (.ref k) [.int x] h = .ok (.int (((xs.map fun (n : Nat) => (n : Int)).count x : Nat) : Int)) h := by
  refine ⟨by simp only [bty, bty0, ho, bok], ?_⟩
  have e1 : (lsts h (.ref k)).bind intsOf = some (xs.map fun (n : Nat) => (n : Int)) := by
    simp only [lsts, ho, Option.bind_some]
    exact intsOf_map (fun (n : Nat) => (n : Int)) xs
  simp only [bmd, decide_true, e1, cntD]
theorem sm_loop (b : BG T) (n : Nat) (t w : List Nat) (hl : t.length ≤ 200) (ht : isText t) (hw1 : 1 ≤ w.length) (hw2 : w.length ≤ 5) (hw : ∀ c ∈ w, c ∈ signs []) (k i : Nat) (hL : 0 < (fnd t w).length) (v : Env)
    (v2 : v[2]? = some (some (.str t))) (v7 : v[7]? = some (some (.str w))) (v8 : v[8]? = some (some (.ref k))) : ∀ (m j N : Nat) (h : Hs), j + m = (fnd t w).length → m < N → h.o k = some (.lst (nD (vis (fnd t w) i j))) →
    ∃ h', whGo (ev T (run T (n + 6)) smC) (exes T (run T (n + 6)) smB) N v h = .ok (.nx v) h' ∧ h'.o k = some (.lst (nD (vis (fnd t w) i (fnd t w).length))) ∧ h'.n = h.n ∧ ∀ x, x ≠ k → h'.o x = h.o x := by
  intro m
  have hs := fnd_sorted t w
  have g2 : ∀ h, getV v 2 h = .ok (.str t) h := fun h => getV_some v 2 _ v2
  have g7 : ∀ h, getV v 7 h = .ok (.str w) h := fun h => getV_some v 7 _ v7
  have g8 : ∀ h, getV v 8 h = .ok (.ref k) h := fun h => getV_some v 8 _ v8
  induction m with
  | zero =>
    intro j N h hj hN ho
    obtain ⟨M, rfl⟩ : ∃ M, N = M + 1 := ⟨N - 1, by omega⟩
    have ej : j = (fnd t w).length := by omega
    subst ej
    have e1 := sub_ref k _ _ ho (vis_last (fnd t w) i (fnd t w).length)
    obtain ⟨c1, c2⟩ := count_ref (h := h) k _ ((((fnd t w)[(i + (fnd t w).length) % (fnd t w).length]?).getD 0 : Nat) : Int) ho
    have c3 := vis_round (fnd t w) i hL
    have c4 : ¬ (((((vis (fnd t w) i (fnd t w).length).map fun (n : Nat) => (n : Int)).count ((((fnd t w)[(i + (fnd t w).length) % (fnd t w).length]?).getD 0 : Nat) : Int) : Nat) : Int) < 2) := by omega
    generalize (((vis (fnd t w) i (fnd t w).length).map fun (n : Nat) => (n : Int)).count ((((fnd t w)[(i + (fnd t w).length) % (fnd t w).length]?).getD 0 : Nat) : Int)) = cn at *
    generalize ((((fnd t w)[(i + (fnd t w).length) % (fnd t w).length]?).getD 0 : Nat) : Int) = x at *
    have hc : ev T (run T (n + 6)) smC v h = .ok (.bl false) h := by
      simp -implicitDefEqProofs [smC, g8, negd, e1, c1, c2, cmp_lt, c4]
    exact ⟨h, wh_end hc, ho, rfl, fun _ _ => rfl⟩
  | succ m ih =>
    intro j N h hj hN ho
    obtain ⟨M, rfl⟩ : ∃ M, N = M + 1 := ⟨N - 1, by omega⟩
    have hjl : j < (fnd t w).length := by omega
    have e1 := sub_ref k _ _ ho (vis_last (fnd t w) i j)
    have hmod : (i + j) % (fnd t w).length < (fnd t w).length := Nat.mod_lt _ hL
    obtain ⟨u, eu⟩ : ∃ u, (fnd t w)[(i + j) % (fnd t w).length]? = some u := ⟨_, List.getElem?_eq_getElem hmod⟩
    rw [eu] at e1
    simp only [Option.getD_some] at e1
    obtain ⟨c1, c2⟩ := count_ref (h := h) k _ (u : Int) ho
    have c3 := vis_count (fnd t w) hs i j hjl (u : Int)
    have c4 : (((((vis (fnd t w) i j).map fun (n : Nat) => (n : Int)).count (u : Int) : Nat) : Int) < 2) := by omega
    generalize (((vis (fnd t w) i j).map fun (n : Nat) => (n : Int)).count (u : Int)) = cn at *
    have hc : ev T (run T (n + 6)) smC v h = .ok (.bl true) h := by
      simp -implicitDefEqProofs [smC, g8, negd, e1, c1, c2, cmp_lt, c4]
    have hu : u < t.length := by
      have := List.mem_of_getElem? eu
      exact List.mem_range.mp (List.mem_filter.mp this).1
    have e2 := c_goes b n t u (.search w) hl ht (by omega) ⟨hw1, hw2, hw⟩
    have e3 : goesN t u (.search w) = (fnd t w)[((i + j) % (fnd t w).length + 1) % (fnd t w).length]? := srOn_next t w _ u eu
    have e4 : ((i + j) % (fnd t w).length + 1) % (fnd t w).length = (i + (j + 1)) % (fnd t w).length := by
      rw [Nat.mod_add_mod]
      rfl
    obtain ⟨u2, eu2⟩ : ∃ u2, (fnd t w)[(i + (j + 1)) % (fnd t w).length]? = some u2 := ⟨_, List.getElem?_eq_getElem (Nat.mod_lt _ hL)⟩
    rw [e3, e4, eu2] at e2
    have eD : moD (.search w) = .tup [.str [115, 101, 97, 114, 99, 104], .str w] := rfl
    rw [eD] at e2
    simp only [oN] at e2
    obtain ⟨a1, a2⟩ := app_ref (h := h) k u2 _ ho (by rw [vis_len]; have := fnd_len t w; omega)
    have e5 := vis_succ (fnd t w) i j
    rw [eu2] at e5
    simp only [Option.getD_some] at e5
    rw [← e5] at a2
    have hb : exes T (run T (n + 6)) smB v h = .ok (.nx v) (h.put k (.lst (nD (vis (fnd t w) i (j + 1))))) := by
      simp -implicitDefEqProofs [smB, g8, g2, g7, negd, e1, e2, a1, a2]
    obtain ⟨h', f1, f2, f3, f4⟩ := ih (j + 1) M _ (by omega) (by omega) (put_same h k _)
    exact ⟨h', by rw [wh_go hc hb, f1], f2, f3, fun x hx => by rw [f4 x hx, put_ne _ _ _ _ hx]⟩
end
end Ed

/-! part W27 -/
set_option maxRecDepth 100000
set_option maxHeartbeats 4000000
/-! Law k27. -/
namespace Ed
open Ev
def k27_a1 : S := (.set 1 (.mut (.lst .nil)))
def k27_a2 : S := (.set 2 (.call 30 (.cons (.var 0) (.cons (.var 1) (.cons (.lit (.int 30)) .nil)))))
def k27_a3 : S := (.set 3 (.call 31 (.cons (.var 0) (.cons (.var 1) (.cons (.var 2) .nil)))))
def k27_a4 : S := (.set 4 (.bin .add (.lit (.int 1)) (.call 27 (.cons (.var 0) (.cons (.var 1) (.cons (.lit (.int 9)) .nil))))))
def k27_aB : S := (.ite (.cmp .le (.bin .add (.var 3) (.var 4)) (.blt .len (.cons (.var 2) .nil))) (.cons (.set 5 (.call 24 (.cons (.var 2) (.cons (.var 3) (.cons (.tup (.cons (.lit (.str [114, 105, 103, 104, 116])) (.cons (.var 4) .nil))) .nil))))) (.cons (.ite (.cmp .ne (.call 24 (.cons (.var 2) (.cons (.var 5) (.cons (.tup (.cons (.lit (.str [108, 101, 102, 116])) (.cons (.var 4) .nil))) .nil)))) (.var 3)) (.cons (.ret (.lit (.bl false))) .nil) .nil) .nil)) .nil)
def k27_aC : S := (.ite (.not (.call 52 (.cons (.var 2) .nil))) (.cons (.ret (.lit (.bl false))) .nil) .nil)
def k27_aD6 : S := (.set 6 (.call 24 (.cons (.var 2) (.cons (.var 3) (.cons (.tup (.cons (.lit (.str [112, 97, 105, 114])) .nil)) .nil)))))
def k27_aD : S := (.ite (.and (.ntn (.var 6)) (.or (.cmp .ne (.call 24 (.cons (.var 2) (.cons (.var 6) (.cons (.tup (.cons (.lit (.str [112, 97, 105, 114])) .nil)) .nil)))) (.var 3)) (.cmp .eq (.var 6) (.var 3)))) (.cons (.ret (.lit (.bl false))) .nil) .nil)
def k27_aE7 : S := (.setr 7 (.rep (.slc (.var 2) (.var 3) (.bin .add (.var 3) (.lit (.int 2))))))
def k27_aE : S := (.ite (.cmp .ne (.var 7) (.lit (.str []))) (.cons (.set 8 (.mut (.lst (.cons (.call 24 (.cons (.var 2) (.cons (.var 3) (.cons (.tup (.cons (.lit (.str [115, 101, 97, 114, 99, 104])) (.cons (.var 7) .nil))) .nil)))) .nil)))) (.cons (.whl (.and (.ntn (.sub (.var 8) (.neg (.lit (.int 1))))) (.cmp .lt (.bm .count (.var 8) (.cons (.sub (.var 8) (.neg (.lit (.int 1)))) .nil)) (.lit (.int 2)))) (.cons (.exp (.bm .append (.var 8) (.cons (.call 24 (.cons (.var 2) (.cons (.sub (.var 8) (.neg (.lit (.int 1)))) (.cons (.tup (.cons (.lit (.str [115, 101, 97, 114, 99, 104])) (.cons (.var 7) .nil))) .nil)))) .nil))) .nil)) (.cons (.ite (.cmp .ne (.bin .sub (.blt .len (.cons (.var 8) .nil)) (.lit (.int 1))) (.blt .len (.cons (.lc (.nm 9) .rng1 (.blt .len (.cons (.var 2) .nil)) (.lit .non) (.cmp .eq (.slc (.var 2) (.var 9) (.bin .add (.var 9) (.blt .len (.cons (.var 7) .nil)))) (.var 7)) (.var 9)) .nil))) (.cons (.ret (.lit (.bl false))) .nil) .nil) .nil))) .nil)
def k27_aF : S := (.for_ (.nm 10) .rng1 (.bin .add (.bm .count (.var 2) (.cons (.lit (.str [10])) .nil)) (.lit (.int 1))) (.lit .non) (.cons (.set 11 (.call 24 (.cons (.var 2) (.cons (.var 3) (.cons (.tup (.cons (.lit (.str [114, 111, 119])) (.cons (.bin .add (.var 10) (.lit (.int 1))) .nil))) .nil))))) (.cons (.ite (.cmp .ne (.var 11) (.bin .add (.blt .len (.cons (.bm .join (.lit (.str [10])) (.cons (.slc (.bm .split (.var 2) (.cons (.lit (.str [10])) .nil)) .nob (.var 10)) .nil)) .nil)) (.blt .int (.cons (.cmp .gt (.var 10) (.lit (.int 0))) .nil)))) (.cons (.ret (.lit (.bl false))) .nil) .nil) (.cons (.ite (.and (.cmp .gt (.var 10) (.lit (.int 0))) (.cmp .ne (.call 24 (.cons (.var 2) (.cons (.var 11) (.cons (.tup (.cons (.lit (.str [117, 112])) (.cons (.lit (.int 1)) .nil))) .nil)))) (.call 24 (.cons (.var 2) (.cons (.lit (.int 0)) (.cons (.tup (.cons (.lit (.str [114, 111, 119])) (.cons (.var 10) .nil))) .nil)))))) (.cons (.ret (.lit (.bl false))) .nil) .nil) .nil))))
def k27_aG12 : S := (.set 12 (.call 24 (.cons (.var 2) (.cons (.var 3) (.cons (.tup (.cons (.lit (.str [119, 111, 114, 100])) (.cons (.var 4) .nil))) .nil)))))
def k27_aG13 : S := (.set 13 (.ife (.isn (.var 12)) (.lit .non) (.tup (.cons (.lit (.str [115, 105, 103, 110, 115])) (.cons (.var 3) (.cons (.var 12) .nil))))))
def k27_aG : S := (.ret (.cmp .eq (.call 51 (.cons (.var 2) (.cons (.var 3) (.cons (.tup (.cons (.lit (.str [98, 121])) (.cons (.tup (.cons (.lit (.str [119, 111, 114, 100])) (.cons (.var 4) .nil))) .nil))) .nil)))) (.var 13)))
def i_law_k27 : Fi := ⟨14, 1, false, (.cons k27_a1 (.cons k27_a2 (.cons k27_a3 (.cons k27_a4 (.cons k27_aB (.cons k27_aC (.cons k27_aD6 (.cons k27_aD (.cons k27_aE7 (.cons k27_aE (.cons k27_aF (.cons k27_aG12 (.cons k27_aG13 (.cons k27_aG .nil))))))))))))))⟩
structure T27 (T : Tbl) : Prop where
  c : BC T
  a : BA T
  p : BP T
  f41 : T.fn 41 = some i_law_k27
section
variable {T : Tbl} {h : Hs}
theorem cmp_le (i j : Int) : cmp .le (.int i) (.int j) h = .ok (decide (i ≤ j)) h := (rfl)
theorem moD_right (m : Nat) : moD (.right m) = .tup [.str [114, 105, 103, 104, 116], .int (m : Int)] := rfl
theorem moD_left (m : Nat) : moD (.left m) = .tup [.str [108, 101, 102, 116], .int (m : Int)] := rfl
theorem moD_pair : moD .pair = .tup [.str [112, 97, 105, 114]] := rfl
theorem moD_word (m : Nat) : moD (.word m) = .tup [.str [119, 111, 114, 100], .int (m : Int)] := rfl
theorem moD_row (m : Nat) : moD (.row m) = .tup [.str [114, 111, 119], .int (m : Int)] := rfl
theorem moD_up (m : Nat) : moD (.up m) = .tup [.str [117, 112], .int (m : Int)] := rfl
theorem eqh_oN (o : Option Nat) : eqh (oN o) (oN o) h = some true := by
  unfold eqh
  rw [oN_ans]
theorem k27_B (b : T27 T) (n : Nat) (t : List Nat) (p m : Nat) (hl : t.length ≤ 200) (ht : isText t) (hp : p ≤ t.length) (hm : in9 m) (x0 x1 x5 x6 x7 x8 x9 x10 x11 x12 x13 : Option D) :
    ∃ y5, exe T (run T (n + 7)) k27_aB [x0, x1, some (.str t), some (.int (p : Int)), some (.int (m : Int)), x5, x6, x7, x8, x9, x10, x11, x12, x13] h = .ok (.nx [x0, x1, some (.str t), some (.int (p : Int)), some (.int (m : Int)), y5, x6, x7, x8, x9, x10, x11, x12, x13]) h := by
  have eL := fun h => len_str (h := h) t (by rw [big_v]; omega)
  by_cases hc : p + m ≤ t.length
  · have hc' : (p : Int) + (m : Int) ≤ (t.length : Int) := by omega
    have e1 := c_goes b.c.toBG (n + 1) t p (.right m) hl ht hp hm
    have g1 : goesN t p (.right m) = some (p + m) := by
      show (if p < t.length then some (min t.length (p + m)) else none) = _
      rw [if_pos (by have := hm.1; omega)]
      congr 1
      omega
    have e2 := c_goes b.c.toBG (n + 1) t (p + m) (.left m) hl ht hc hm
    have g2 : goesN t (p + m) (.left m) = some p := by
      show (if 0 < p + m then some (p + m - m) else none) = _
      rw [if_pos (by have := hm.1; omega)]
      congr 1
      omega
    rw [g1, moD_right] at e1
    rw [g2, moD_left] at e2
    simp only [oN] at e1 e2
    generalize ((p + m : Nat) : Int) = q at *
    exact ⟨some (.int q), by simp -implicitDefEqProofs [k27_aB, getV, cmp_le, eL, hc', e1, e2, cmp]⟩
  · have hc' : ¬ ((p : Int) + (m : Int) ≤ (t.length : Int)) := by omega
    exact ⟨x5, by simp -implicitDefEqProofs [k27_aB, getV, cmp_le, eL, hc']⟩
theorem k27_D (b : T27 T) (n : Nat) (t : List Nat) (p : Nat) (hl : t.length ≤ 200) (ht : isText t) (hp : p ≤ t.length) (x0 x1 x4 x5 x6 x7 x8 x9 x10 x11 x12 x13 : Option D) :
    ∃ y6, exe T (run T (n + 7)) k27_aD6 [x0, x1, some (.str t), some (.int (p : Int)), x4, x5, x6, x7, x8, x9, x10, x11, x12, x13] h = .ok (.nx [x0, x1, some (.str t), some (.int (p : Int)), x4, x5, some y6, x7, x8, x9, x10, x11, x12, x13]) h ∧
      exe T (run T (n + 7)) k27_aD [x0, x1, some (.str t), some (.int (p : Int)), x4, x5, some y6, x7, x8, x9, x10, x11, x12, x13] h = .ok (.nx [x0, x1, some (.str t), some (.int (p : Int)), x4, x5, some y6, x7, x8, x9, x10, x11, x12, x13]) h := by
  have e1 := c_goes b.c.toBG (n + 1) t p .pair hl ht hp trivial
  have g1 : goesN t p .pair = partner t p := rfl
  rw [g1, moD_pair] at e1
  refine ⟨oN (partner t p), by simp -implicitDefEqProofs [k27_aD6, getV, e1], ?_⟩
  cases hq : partner t p with
  | none =>
    simp -implicitDefEqProofs [k27_aD, getV, oN]
  | some q =>
    have hql := partner_le t p q hq
    obtain ⟨h1, h2⟩ := partner_back t p q hq
    have e2 := c_goes b.c.toBG (n + 1) t q .pair hl ht (by omega) trivial
    have g2 : goesN t q .pair = partner t q := rfl
    rw [g2, moD_pair, h1] at e2
    have h3 : ¬ ((q : Int) = (p : Int)) := by omega
    simp only [oN] at e2
    simp -implicitDefEqProofs [k27_aD, getV, oN, e2, cmp, h3, h2]
theorem k27_E (b : T27 T) (n : Nat) (t w : List Nat) (p : Nat) (hl : t.length ≤ 200) (ht : isText t) (hp : p ≤ t.length) (hw2 : w.length ≤ 5) (hw : ∀ c ∈ w, c ∈ signs []) (x0 x1 x4 x5 x6 x8 x10 x11 x12 x13 : Option D) :
    ∃ y8 h', exe T (run T (n + 7)) k27_aE [x0, x1, some (.str t), some (.int (p : Int)), x4, x5, x6, some (.str w), x8, none, x10, x11, x12, x13] h = .ok (.nx [x0, x1, some (.str t), some (.int (p : Int)), x4, x5, x6, some (.str w), y8, none, x10, x11, x12, x13]) h' := by
  by_cases hw0 : w = []
  · subst hw0
    exact ⟨x8, h, by simp -implicitDefEqProofs [k27_aE, getV, cmp]⟩
  have hw1 : 1 ≤ w.length := List.length_pos_iff.mpr hw0
  have e1 := c_goes b.c.toBG (n + 1) t p (.search w) hl ht hp ⟨hw1, hw2, hw⟩
  have g1 : goesN t p (.search w) = srOn t p w := rfl
  have eD : moD (.search w) = .tup [.str [115, 101, 97, 114, 99, 104], .str w] := rfl
  rw [g1, eD] at e1
  have hb : t.length ≤ big := by rw [big_v]; omega
  have eL := fun h => len_str (h := h) t hb
  have eLw := fun h => len_str (h := h) w (by rw [big_v]; omega)
  have er : okRange (t.length : Int) = true := okRange_t (by omega) (by omega)
  have e2 : ∀ y8 h, lcGo ⟨range 0 t.length, none⟩ [x0, x1, some (.str t), some (.int (p : Int)), x4, x5, x6, some (.str w), y8, none, x10, x11, x12, x13] (.nm 9) (ev T (run T (n + 7)) (.cmp .eq (.slc (.var 2) (.var 9) (.bin .add (.var 9) (.blt .len (.cons (.var 7) .nil)))) (.var 7))) (ev T (run T (n + 7)) (.var 9)) (range 0 t.length) [] h = .ok (nD (fnd t w)) h := by
    intro y8 h
    rw [range_nD0]
    refine (lc_nat (fun x => [x0, x1, some (.str t), some (.int (p : Int)), x4, x5, x6, some (.str w), y8, some x, x10, x11, x12, x13]) (fun i => decide ((t.drop i).take w.length = w)) (fun i => .int (i : Int)) rfl _ h (fun x _ => rfl) (fun x hx => ?_) (fun x _ _ => rfl) (by simpa using hb)).trans rfl
    have q := fun h => slice_mid (h := h) t x w.length hb (Nat.le_of_lt (List.mem_range.mp hx))
    simp -implicitDefEqProofs [getV, eLw, q, cmp]
  have eF := fun h => len_lst (h := h) (nD (fnd t w))
  rw [nD_len] at eF
  by_cases hL : fnd t w = []
  · have s0 : srOn t p w = none := by simp [srOn, hL]
    rw [s0] at e1
    simp only [oN] at e1
    rw [hL] at eF
    rw [hL] at e2
    have ho : (h.new (.lst [.non])).o h.n = some (.lst [.non]) := new_o _ _
    have q1 : subs (.ref h.n) (.int (-1)) (h.new (.lst [.non])) = .ok .non (h.new (.lst [.non])) := by
      simp only [subs, items]
      rw [ho]
      rfl
    have q2 : blt .len [.ref h.n] (h.new (.lst [.non])) = .ok (.int 1) (h.new (.lst [.non])) := by
      simp only [blt, blt1, lenD, items]
      rw [ho]
      rfl
    have hwh : whGo (ev T (run T (n + 7)) smC) (exes T (run T (n + 7)) smB) turns [x0, x1, some (.str t), some (.int (p : Int)), x4, x5, x6, some (.str w), some (.ref h.n), none, x10, x11, x12, x13] (h.new (.lst [.non])) = .ok (.nx [x0, x1, some (.str t), some (.int (p : Int)), x4, x5, x6, some (.str w), some (.ref h.n), none, x10, x11, x12, x13]) (h.new (.lst [.non])) := by
      have hc : ev T (run T (n + 7)) smC [x0, x1, some (.str t), some (.int (p : Int)), x4, x5, x6, some (.str w), some (.ref h.n), none, x10, x11, x12, x13] (h.new (.lst [.non])) = .ok (.bl false) (h.new (.lst [.non])) := by
        simp -implicitDefEqProofs [smC, getV, negd, q1]
      have : turns = 99999 + 1 := rfl
      rw [this, wh_end hc]
    refine ⟨some (.ref h.n), h.new (.lst [.non]), ?_⟩
    simp only [smC, smB] at hwh
    simp only [List.length_nil, Int.natCast_zero, Int.cast_ofNat_Int] at eF
    simp -implicitDefEqProofs [k27_aE, getV, cmp, hw0, e1, mutd, hwh, q2, eL, itv, er, e2, unl, eF]
  · have hL0 : 0 < (fnd t w).length := List.length_pos_iff.mpr hL
    obtain ⟨i, v, hi, hv⟩ := srOn_mem t w p hL
    rw [hv] at e1
    simp only [oN] at e1
    have hil := (List.getElem?_eq_some_iff.mp hi).1
    have ev0 : vis (fnd t w) i 0 = [v] := by
      unfold vis
      show [((fnd t w)[(i + 0) % (fnd t w).length]?).getD 0] = [v]
      rw [Nat.add_zero, Nat.mod_eq_of_lt hil, hi]
      rfl
    obtain ⟨h', f1, f2, f3, f4⟩ := sm_loop b.c.toBG (n + 1) t w hl ht hw1 hw2 hw h.n i hL0 [x0, x1, some (.str t), some (.int (p : Int)), x4, x5, x6, some (.str w), some (.ref h.n), none, x10, x11, x12, x13] rfl rfl rfl (fnd t w).length 0 turns (h.new (.lst [.int (v : Int)])) (by omega) (by have := fnd_len t w; unfold turns; omega) (by
      rw [ev0]
      exact new_o _ _)
    have q2 : blt .len [.ref h.n] h' = .ok (.int (((fnd t w).length : Int) + 1)) h' := by
      simp only [blt, blt1, lenD, items]
      rw [f2]
      simp only [nD_len, vis_len]
      rfl
    refine ⟨some (.ref h.n), h', ?_⟩
    simp only [smC, smB] at f1
    have q3 : ((fnd t w).length : Int) + 1 - 1 = ((fnd t w).length : Int) := by omega
    simp -implicitDefEqProofs [k27_aE, getV, cmp, hw0, e1, mutd, f1, q2, q3, eL, itv, er, e2, unl, eF]
def rwB : Ss := (.cons (.set 11 (.call 24 (.cons (.var 2) (.cons (.var 3) (.cons (.tup (.cons (.lit (.str [114, 111, 119])) (.cons (.bin .add (.var 10) (.lit (.int 1))) .nil))) .nil))))) (.cons (.ite (.cmp .ne (.var 11) (.bin .add (.blt .len (.cons (.bm .join (.lit (.str [10])) (.cons (.slc (.bm .split (.var 2) (.cons (.lit (.str [10])) .nil)) .nob (.var 10)) .nil)) .nil)) (.blt .int (.cons (.cmp .gt (.var 10) (.lit (.int 0))) .nil)))) (.cons (.ret (.lit (.bl false))) .nil) .nil) (.cons (.ite (.and (.cmp .gt (.var 10) (.lit (.int 0))) (.cmp .ne (.call 24 (.cons (.var 2) (.cons (.var 11) (.cons (.tup (.cons (.lit (.str [117, 112])) (.cons (.lit (.int 1)) .nil))) .nil)))) (.call 24 (.cons (.var 2) (.cons (.lit (.int 0)) (.cons (.tup (.cons (.lit (.str [114, 111, 119])) (.cons (.var 10) .nil))) .nil)))))) (.cons (.ret (.lit (.bl false))) .nil) .nil) .nil)))
theorem strsOf_map (l : List (List Nat)) : strsOf (l.map D.str) = some l := by
  induction l with
  | nil => rfl
  | cons a l ih =>
    rw [List.map_cons, strsOf, ih]
    rfl
theorem lens_le : ∀ (R : List (List Nat)), (R.map List.length).sum ≤ lens R
  | [] => Nat.le_refl _
  | r :: R => by
    have := lens_le R
    rw [lens_c, List.map_cons, List.sum_cons]
    omega
theorem k27_row (b : T27 T) (n : Nat) (t : List Nat) (p j : Nat) (hl : t.length ≤ 90) (ht : isText t) (hp : p ≤ t.length) (hj : j < (rows t).length) (x0 x1 x4 x5 x6 x7 x8 x9 x11 x12 x13 : Option D) :
    ∃ y11, exes T (run T (n + 7)) rwB [x0, x1, some (.str t), some (.int (p : Int)), x4, x5, x6, x7, x8, x9, some (.int (j : Int)), x11, x12, x13] h = .ok (.nx [x0, x1, some (.str t), some (.int (p : Int)), x4, x5, x6, x7, x8, x9, some (.int (j : Int)), y11, x12, x13]) h := by
  have hrl := rows_len t
  have e1 := c_goes b.c.toBG (n + 1) t p (.row (j + 1)) (by omega) ht hp ⟨by omega, by omega⟩
  have g1 : goesN t p (.row (j + 1)) = some (lens ((rows t).take j)) := by
    show toRow t (((j + 1 : Nat) : Int) - 1) 0 = _
    rw [show ((j + 1 : Nat) : Int) - 1 = (j : Int) by omega]
    exact toRow0 t j hj
  have q0 : ((j + 1 : Nat) : Int) = (j : Int) + 1 := by omega
  rw [g1, moD_row, q0] at e1
  simp only [oN] at e1
  obtain ⟨b1, b2, b3⟩ := row_beg t j hj
  have s1 : ∀ h, bmd .str .split (.str t) [.str [10]] h = .ok (.lst ((rows t).map D.str)) h := fun h => by
    have c1 : t.length + 2 ≤ big := by rw [big_v]; omega
    simp only [bmd, bms, decide_eq_true c1, show decide (10 < 256) = true from rfl, Bool.and_self, okIf]
    rfl
  have s2 : ∀ x h, bty .split (.str x) h = some .str := fun x h => by simp only [bty, bty0, bok]
  have s3 : ∀ x h, bty .join (.str x) h = some .str := fun x h => by simp only [bty, bty0, bok]
  have s4 : ∀ h, slice (.lst ((rows t).map D.str)) none (some (j : Int)) h = .ok (.lst (((rows t).take j).map D.str)) h := fun h => by
    simp only [slice, lsts]
    rw [cut_take _ _ (by rw [List.length_map]; omega), List.map_take]
  have hll : lens ((rows t).take j) ≤ t.length := b1
  have s5 : ∀ h, bmd .str .join (.str [10]) [.lst (((rows t).take j).map D.str)] h = .ok (.str (joins [10] ((rows t).take j))) h := fun h => by
    have c1 : (((rows t).take j).map List.length).sum + ((rows t).take j).length * [10].length ≤ big := by
      have := lens_le ((rows t).take j)
      have h2 : ((rows t).take j).length ≤ t.length + 1 := by rw [List.length_take]; omega
      rw [big_v]
      simp only [List.length_singleton, Nat.mul_one]
      omega
    simp only [bmd, bms, lsts, Option.bind_some, strsOf_map, decide_eq_true c1, okIf]
  have hjl : (joins [10] ((rows t).take j)).length + (if 0 < j then 1 else 0) = lens ((rows t).take j) := by
    by_cases h0 : 0 < j
    · rw [if_pos h0]
      exact join_len _ (by
        intro e
        have := congrArg List.length e
        rw [List.length_take, List.length_nil] at this
        omega)
    · have : j = 0 := by omega
      subst this
      rfl
  have s6 := fun h => len_str (h := h) (joins [10] ((rows t).take j)) (by rw [big_v]; omega)
  generalize joins [10] ((rows t).take j) = jn at *
  generalize ((rows t).take j).map D.str = jl at s4 s5
  refine ⟨some (.int (lens ((rows t).take j) : Int)), ?_⟩
  by_cases h0 : 0 < j
  · have e2 := c_goes b.c.toBG (n + 1) t (lens ((rows t).take j)) (.up 1) (by omega) ht b1 ⟨by decide, by decide⟩
    have e3 := c_goes b.c.toBG (n + 1) t 0 (.row j) (by omega) ht (by omega) ⟨h0, by omega⟩
    have g2 : goesN t (lens ((rows t).take j)) (.up 1) = some (lens ((rows t).take (j - 1))) := by
      show toRow t ((rowN t (lens ((rows t).take j)) : Int) - ((1 : Nat) : Int)) (lens ((rows t).take j) - bk t (lens ((rows t).take j))) = _
      rw [b2, b3, Nat.sub_self, show (j : Int) - ((1 : Nat) : Int) = ((j - 1 : Nat) : Int) by omega]
      exact toRow0 t (j - 1) (by omega)
    have g3 : goesN t 0 (.row j) = some (lens ((rows t).take (j - 1))) := by
      show toRow t ((j : Int) - 1) 0 = _
      rw [show (j : Int) - 1 = ((j - 1 : Nat) : Int) by omega]
      exact toRow0 t (j - 1) (by omega)
    rw [g2, moD_up] at e2
    rw [g3, moD_row] at e3
    simp only [oN, Int.cast_ofNat_Int, Int.natCast_zero, Int.natCast_one] at e2 e3
    rw [if_pos h0] at hjl
    have q1 : (jn.length : Int) + 1 = (lens ((rows t).take j) : Int) := by omega
    generalize (lens ((rows t).take j) : Int) = x at *
    generalize (lens ((rows t).take (j - 1)) : Int) = z at *
    simp -implicitDefEqProofs [rwB, getV, e1, s1, s2, s3, s4, s5, s6, cmp, h0, intD_b, q1, e2, e3]
  · rw [if_neg h0] at hjl
    have q1 : (jn.length : Int) + 0 = (lens ((rows t).take j) : Int) := by omega
    simp only [Int.add_zero] at q1
    generalize (lens ((rows t).take j) : Int) = x at *
    simp -implicitDefEqProofs [rwB, getV, e1, s1, s2, s3, s4, s5, s6, cmp, h0, intD_b, q1]
theorem k27_rows (b : T27 T) (n : Nat) (t : List Nat) (p : Nat) (hl : t.length ≤ 90) (ht : isText t) (hp : p ≤ t.length) {w : Wk} (hw : w.on = none) (x0 x1 x4 x5 x6 x7 x8 x9 x12 x13 : Option D) : ∀ (js : List Nat) (x10 x11 : Option D), (∀ j ∈ js, j < (rows t).length) →
    ∃ y10 y11, forGo w (.nm 10) (exes T (run T (n + 7)) rwB) (nD js) [x0, x1, some (.str t), some (.int (p : Int)), x4, x5, x6, x7, x8, x9, x10, x11, x12, x13] h = .ok (.nx [x0, x1, some (.str t), some (.int (p : Int)), x4, x5, x6, x7, x8, x9, y10, y11, x12, x13]) h
  | [], x10, x11, _ => ⟨x10, x11, for_n hw⟩
  | j :: js, x10, x11, hj => by
    obtain ⟨y11, e1⟩ := k27_row (h := h) b n t p j hl ht hp (hj j (List.mem_cons_self ..)) x0 x1 x4 x5 x6 x7 x8 x9 x11 x12 x13
    obtain ⟨z10, z11, e2⟩ := k27_rows b n t p hl ht hp hw x0 x1 x4 x5 x6 x7 x8 x9 x12 x13 js (some (.int (j : Int))) y11 (fun i hi => hj i (List.mem_cons_of_mem _ hi))
    refine ⟨z10, z11, ?_⟩
    show forGo w (.nm 10) (exes T (run T (n + 7)) rwB) (D.int (j : Int) :: nD js) _ h = _
    rw [for_c hw, tgt_nm, bind_ok]
    show (exes T (run T (n + 7)) rwB [x0, x1, some (.str t), some (.int (p : Int)), x4, x5, x6, x7, x8, x9, some (.int (j : Int)), x11, x12, x13] h).bind _ = _
    rw [e1, bind_ok, for2_n, e2]
theorem split_count27 : ∀ (t acc : List Nat), (split1 10 t acc).length = t.count 10 + 1
  | [], _ => rfl
  | c :: t, acc => by
    unfold split1
    by_cases hc : c = 10
    · rw [if_pos hc, List.length_cons, split_count27 t, hc, List.count_cons_self]
    · rw [if_neg hc, split_count27 t, List.count_cons_of_ne hc]
theorem k27_F (b : T27 T) (n : Nat) (t : List Nat) (p : Nat) (hl : t.length ≤ 90) (ht : isText t) (hp : p ≤ t.length) (x0 x1 x4 x5 x6 x7 x8 x9 x10 x11 x12 x13 : Option D) :
    ∃ y10 y11, exe T (run T (n + 7)) k27_aF [x0, x1, some (.str t), some (.int (p : Int)), x4, x5, x6, x7, x8, x9, x10, x11, x12, x13] h = .ok (.nx [x0, x1, some (.str t), some (.int (p : Int)), x4, x5, x6, x7, x8, x9, y10, y11, x12, x13]) h := by
  have hrc : (rows t).length = t.count 10 + 1 := split_count27 t []
  have hrl := rows_len t
  have s1 : ∀ h, bmd .str .count (.str t) [.str [10]] h = .ok (.int ((t.count 10 : Nat) : Int)) h := fun h => by
    simp only [bmd, bms]
  have s2 : ∀ x h, bty .count (.str x) h = some .str := fun x h => by simp only [bty, bty0, bok]
  have er : okRange (((t.count 10 : Nat) : Int) + 1) = true := okRange_t (by omega) (by omega)
  obtain ⟨y10, y11, e⟩ := k27_rows (h := h) b n t p hl ht hp (w := ⟨range 0 (((t.count 10 : Nat) : Int) + 1).toNat, none⟩) rfl x0 x1 x4 x5 x6 x7 x8 x9 x12 x13 (List.range (t.count 10 + 1)) x10 x11 (fun j hj => by
    have := List.mem_range.mp hj
    omega)
  have q : (((t.count 10 : Nat) : Int) + 1).toNat = t.count 10 + 1 := by omega
  rw [← range_nD0, q] at e
  refine ⟨y10, y11, ?_⟩
  simp only [rwB] at e
  generalize t.count 10 = cn at *
  simp -implicitDefEqProofs [k27_aF, getV, s1, s2, itv, er, q, e]
theorem k27_G (b : T27 T) (n : Nat) (t : List Nat) (p m : Nat) (hl : t.length ≤ 200) (ht : isText t) (hp : p ≤ t.length) (hm : in9 m) (x0 x1 x5 x6 x7 x8 x9 x10 x11 x12 x13 : Option D) :
    exes T (run T (n + 7)) (.cons k27_aG12 (.cons k27_aG13 (.cons k27_aG .nil))) [x0, x1, some (.str t), some (.int (p : Int)), some (.int (m : Int)), x5, x6, x7, x8, x9, x10, x11, x12, x13] h = .ok (.rt (.bl true)) h := by
  have e1 := c_goes b.c.toBG (n + 1) t p (.word m) hl ht hp hm
  have e2 := c_area_of b.a (n + 1) t p (.byM (.word m)) hl ht hp hm
  have g2 : areaN t p (.byM (.word m)) = nz (mm p (goesN t p (.word m))) := rfl
  have eD : arD (.byM (.word m)) = .tup [.str [98, 121], .tup [.str [119, 111, 114, 100], .int (m : Int)]] := rfl
  rw [g2, eD] at e2
  rw [moD_word] at e1
  cases hg : goesN t p (.word m) with
  | none =>
    rw [hg] at e1 e2
    have e3 : resD (nz (mm p none)) = .non := rfl
    rw [e3] at e2
    simp only [oN] at e1
    simp -implicitDefEqProofs [k27_aG12, k27_aG13, k27_aG, getV, e1, e2, cmp]
  | some g =>
    have hgp : p < g := by
      have h1 : ((wb t).filter fun i => decide (p < i))[m - 1]? = some g := hg
      have := List.mem_of_getElem? h1
      exact of_decide_eq_true (List.mem_filter.mp this).2
    rw [hg] at e1 e2
    have e3 : resD (nz (mm p (some g))) = .tup [.str [115, 105, 103, 110, 115], .int (p : Int), .int (g : Int)] := by
      show resD (nz (some (min p g, max p g))) = _
      rw [Nat.min_eq_left (by omega), Nat.max_eq_right (by omega)]
      show resD (if p = g then none else some (false, p, g)) = _
      rw [if_neg (by omega)]
      rfl
    rw [e3] at e2
    have e4 := resD_eq (some (false, p, g))
    have e5 : resD (some (false, p, g)) = .tup [.str [115, 105, 103, 110, 115], .int (p : Int), .int (g : Int)] := rfl
    rw [e5] at e4
    simp only [oN] at e1
    generalize (g : Int) = gi at *
    simp -implicitDefEqProofs [k27_aG12, k27_aG13, k27_aG, getV, e1, e2, cmp, e4]
theorem r_law27 (b : T27 T) (n : Nat) (ns : List Int) : ∃ h', run T (n + 8) 41 [.scr ns] Hs.nil = .ok (.bl true) h' := by
  rw [run_s b.f41 rfl]
  obtain ⟨t, k1, h1, e1, hx, hk1, ht, hl, hl2⟩ := c_text2 b.p (n + 1) ns (Hs.nil.new (.lst [])) 0 30 (by decide) (by decide) (by decide) (Nat.succ_pos _)
  rw [← tw0] at e1
  have hl90 : t.length ≤ 90 := by
    rcases hl2 with h | h
    · omega
    · have : (30 : Int).toNat = 30 := rfl
      omega
  obtain ⟨p, hp, k2, e2, hk2⟩ := c_place b.p (n + 1) ns h1 k1 t hl (by omega)
  obtain ⟨j, hj, e3⟩ := num_draw b.p.toBD (n + 4) ns h1 k2 9 (by decide) (by omega)
  simp only [Int.cast_ofNat_Int] at e3
  have hm : in9 (1 + j) := ⟨by omega, by omega⟩
  have q : (1 : Int) + (j : Int) = ((1 + j : Nat) : Int) := by omega
  have e0 : (D.ref Hs.nil.n) = .ref 0 := rfl
  have h4 := c_words_met b.c n t hl ht
  obtain ⟨y5, eB⟩ := k27_B (h := tw h1 (k2 + 1)) b n t p (1 + j) hl ht hp hm (some (.scr ns)) (some (.ref 0)) none none none none none none none none none
  obtain ⟨y6, eD6, eD⟩ := k27_D (h := tw h1 (k2 + 1)) b n t p hl ht hp (some (.scr ns)) (some (.ref 0)) (some (.int ((1 + j : Nat) : Int))) y5 none none none none none none none none
  have hpl : ((t.drop p).take 2).length ≤ 2 := by rw [List.length_take]; omega
  have hpt : isText ((t.drop p).take 2) := fun c hc => ht c (List.mem_of_mem_drop (List.mem_of_mem_take hc))
  have nl := noNl_len ((t.drop p).take 2)
  have sok := noNl_sg _ hpt
  have s1 := fun h => slice_mid (h := h) t p 2 (by rw [big_v]; omega) hp
  have s2 := fun h => rep_str (h := h) ((t.drop p).take 2) (by omega)
  simp only [Int.cast_ofNat_Int] at s1
  generalize ((t.drop p).take 2) = pc at *
  generalize noNl pc = w at *
  obtain ⟨y8, h5, eE⟩ := k27_E (h := tw h1 (k2 + 1)) b n t w p hl ht hp (by omega) sok (some (.scr ns)) (some (.ref 0)) (some (.int ((1 + j : Nat) : Int))) y5 (some y6) none none none none none
  obtain ⟨y10, y11, eF⟩ := k27_F (h := h5) b n t p hl90 ht hp (some (.scr ns)) (some (.ref 0)) (some (.int ((1 + j : Nat) : Int))) y5 (some y6) (some (.str w)) y8 none none none none none
  have eG := k27_G (h := h5) b n t p (1 + j) hl ht hp hm (some (.scr ns)) (some (.ref 0)) y5 (some y6) (some (.str w)) y8 none y10 y11 none none
  refine ⟨h5, ?_⟩
  have eA : ∀ r, exes T (run T (n + 7)) (.cons k27_a1 (.cons k27_a2 (.cons k27_a3 (.cons k27_a4 r)))) [some (.scr ns), none, none, none, none, none, none, none, none, none, none, none, none, none] Hs.nil = exes T (run T (n + 7)) r [some (.scr ns), some (.ref 0), some (.str t), some (.int (p : Int)), some (.int ((1 + j : Nat) : Int)), none, none, none, none, none, none, none, none, none] (tw h1 (k2 + 1)) := by
    intro r
    rw [← q]
    simp -implicitDefEqProofs [k27_a1, k27_a2, k27_a3, k27_a4, getV, mutd, e0, e1, e2, e3]
  have eC : ∀ y5 h, exe T (run T (n + 7)) k27_aC [some (.scr ns), some (.ref 0), some (.str t), some (.int (p : Int)), some (.int ((1 + j : Nat) : Int)), y5, none, none, none, none, none, none, none, none] h = .ok (.nx [some (.scr ns), some (.ref 0), some (.str t), some (.int (p : Int)), some (.int ((1 + j : Nat) : Int)), y5, none, none, none, none, none, none, none, none]) h := by
    intro y5 h
    simp -implicitDefEqProofs [k27_aC, getV, h4]
  have eE7 : ∀ y5 y6 h, exe T (run T (n + 7)) k27_aE7 [some (.scr ns), some (.ref 0), some (.str t), some (.int (p : Int)), some (.int ((1 + j : Nat) : Int)), y5, y6, none, none, none, none, none, none, none] h = .ok (.nx [some (.scr ns), some (.ref 0), some (.str t), some (.int (p : Int)), some (.int ((1 + j : Nat) : Int)), y5, y6, some (.str w), none, none, none, none, none, none]) h := by
    intro y5 y6 h
    simp -implicitDefEqProofs [k27_aE7, getV, s1, s2]
  have eb : i_law_k27.body = (.cons k27_a1 (.cons k27_a2 (.cons k27_a3 (.cons k27_a4 (.cons k27_aB (.cons k27_aC (.cons k27_aD6 (.cons k27_aD (.cons k27_aE7 (.cons k27_aE (.cons k27_aF (.cons k27_aG12 (.cons k27_aG13 (.cons k27_aG .nil)))))))))))))) := rfl
  have ee : env0 i_law_k27 [.scr ns] = [some (.scr ns), none, none, none, none, none, none, none, none, none, none, none, none, none] := rfl
  rw [eb, ee, eA, ss_c, eB, bind_ok, seq2_n, ss_c, eC, bind_ok, seq2_n, ss_c, eD6, bind_ok, seq2_n, ss_c, eD, bind_ok, seq2_n, ss_c, eE7, bind_ok, seq2_n, ss_c, eE, bind_ok, seq2_n, ss_c, eF, bind_ok, seq2_n, eG]
  rfl
end
end Ed

/-! part K27D -/
set_option maxRecDepth 100000
set_option maxHeartbeats 0
namespace K27
open PySem PySem.Spec PyProof.Rows L2 Ev Ed
abbrev R : PySem.W.OpenRow := PySem.W.OpenLaw.row PySem.Challenge.rw_editheart_k27_whole_there_and_back
def top (i : Nat) : Stmt := R.prog.main.body.getD i (.Pass ⟨0, 0, 0, 0⟩)
def d_is_whole : Dn := ⟨0, ⟨("is_whole", none), "is_whole", "is_whole", defArgs (top 12), defBody (top 12), defScope (top 12), [], []⟩, ["thing", "low", "most"], ["thing", "low", "most"], i_is_whole⟩
def d_are_signs : Dn := ⟨1, ⟨("are_signs", none), "are_signs", "are_signs", defArgs (top 13), defBody (top 13), defScope (top 13), [], []⟩, ["thing", "low", "most", "more", "sign"], ["thing", "low", "most", "more"], i_are_signs⟩
def d_is_text : Dn := ⟨2, ⟨("is_text", none), "is_text", "is_text", defArgs (top 14), defBody (top 14), defScope (top 14), [], []⟩, ["thing"], ["thing"], i_is_text⟩
def d_need_text : Dn := ⟨3, ⟨("need_text", none), "need_text", "need_text", defArgs (top 15), defBody (top 15), defScope (top 15), [], []⟩, ["thing"], ["thing"], i_need_text⟩
def d_need_place : Dn := ⟨4, ⟨("need_place", none), "need_place", "need_place", defArgs (top 16), defBody (top 16), defScope (top 16), [], []⟩, ["text", "place"], ["text", "place"], i_need_place⟩
def d_begin_of : Dn := ⟨5, ⟨("begin_of", none), "begin_of", "begin_of", defArgs (top 17), defBody (top 17), defScope (top 17), [], []⟩, ["text", "place"], ["text", "place"], i_begin_of⟩
def d_end_of : Dn := ⟨6, ⟨("end_of", none), "end_of", "end_of", defArgs (top 18), defBody (top 18), defScope (top 18), [], []⟩, ["text", "place", "found"], ["text", "place"], i_end_of⟩
def d_row_of : Dn := ⟨7, ⟨("row_of", none), "row_of", "row_of", defArgs (top 19), defBody (top 19), defScope (top 19), [], []⟩, ["text", "place"], ["text", "place"], i_row_of⟩
def d_begins : Dn := ⟨8, ⟨("begins", none), "begins", "begins", defArgs (top 20), defBody (top 20), defScope (top 20), [], []⟩, ["text", "place", "sign"], ["text"], i_begins⟩
def d_word_begins : Dn := ⟨9, ⟨("word_begins", none), "word_begins", "word_begins", defArgs (top 21), defBody (top 21), defScope (top 21), [], []⟩, ["text", "made", "place", "sign"], ["text"], i_word_begins⟩
def d_word_ends : Dn := ⟨10, ⟨("word_ends", none), "word_ends", "word_ends", defArgs (top 22), defBody (top 22), defScope (top 22), [], []⟩, ["text", "made", "place", "sign"], ["text"], i_word_ends⟩
def d_is_named : Dn := ⟨11, ⟨("is_named", none), "is_named", "is_named", defArgs (top 27), defBody (top 27), defScope (top 27), [], []⟩, ["thing", "names"], ["thing", "names"], i_is_named⟩
def d_is_part : Dn := ⟨12, ⟨("is_part", none), "is_part", "is_part", defArgs (top 28), defBody (top 28), defScope (top 28), [], []⟩, ["sign", "thing"], ["sign", "thing"], i_is_part⟩
def d_is_motion : Dn := ⟨13, ⟨("is_motion", none), "is_motion", "is_motion", defArgs (top 29), defBody (top 29), defScope (top 29), [], []⟩, ["thing", "shape", "sign", "part"], ["thing"], i_is_motion⟩
def d_nth_behind : Dn := ⟨14, ⟨("nth_behind", none), "nth_behind", "nth_behind", defArgs (top 30), defBody (top 30), defScope (top 30), [], []⟩, ["some", "place", "many", "later", "one"], ["some", "place", "many"], i_nth_behind⟩
def d_nth_ahead : Dn := ⟨15, ⟨("nth_ahead", none), "nth_ahead", "nth_ahead", defArgs (top 31), defBody (top 31), defScope (top 31), [], []⟩, ["some", "place", "many", "before", "one"], ["some", "place", "many"], i_nth_ahead⟩
def d_to_row : Dn := ⟨16, ⟨("to_row", none), "to_row", "to_row", defArgs (top 32), defBody (top 32), defScope (top 32), [], []⟩, ["text", "number", "column", "some"], ["text", "number", "column"], i_to_row⟩
def d_partner : Dn := ⟨17, ⟨("partner", none), "partner", "partner", defArgs (top 33), defBody (top 33), defScope (top 33), [], []⟩, ["text", "place", "sign", "step", "kinds", "other", "deep", "here"], ["text", "place"], i_partner⟩
def d_found_at : Dn := ⟨18, ⟨("found_at", none), "found_at", "found_at", defArgs (top 34), defBody (top 34), defScope (top 34), [], []⟩, ["text", "pattern", "place"], ["text", "pattern"], i_found_at⟩
def d_search_on : Dn := ⟨19, ⟨("search_on", none), "search_on", "search_on", defArgs (top 35), defBody (top 35), defScope (top 35), [], []⟩, ["text", "place", "pattern", "some"], ["text", "place", "pattern"], i_search_on⟩
def d_search_back : Dn := ⟨20, ⟨("search_back", none), "search_back", "search_back", defArgs (top 36), defBody (top 36), defScope (top 36), [], []⟩, ["text", "place", "pattern", "some"], ["text", "place", "pattern"], i_search_back⟩
def d_within : Dn := ⟨21, ⟨("within", none), "within", "within", defArgs (top 37), defBody (top 37), defScope (top 37), [], []⟩, ["text", "place", "motion", "word", "row", "some", "one"], ["text", "place", "motion"], i_within⟩
def d_place_by : Dn := ⟨22, ⟨("place_by", none), "place_by", "place_by", defArgs (top 38), defBody (top 38), defScope (top 38), [], []⟩, ["text", "place", "motion", "column", "marks", "pattern", "word", "step"], ["text", "place", "motion", "column", "marks", "pattern"], i_place_by⟩
def d_need_motion : Dn := ⟨23, ⟨("need_motion", none), "need_motion", "need_motion", defArgs (top 39), defBody (top 39), defScope (top 39), [], []⟩, ["thing"], ["thing"], i_need_motion⟩
def d_goes : Dn := ⟨24, ⟨("goes", none), "goes", "goes", defArgs (top 40), defBody (top 40), defScope (top 40), [], []⟩, ["text", "place", "motion"], ["text", "place", "motion"], i_goes⟩
def d_is_area : Dn := ⟨46, ⟨("is_area", none), "is_area", "is_area", defArgs (top 43), defBody (top 43), defScope (top 43), [], []⟩, ["thing"], ["thing"], i_is_area⟩
def d_word_at : Dn := ⟨47, ⟨("word_at", none), "word_at", "word_at", defArgs (top 44), defBody (top 44), defScope (top 44), [], []⟩, ["text", "place", "begin", "end"], ["text", "place"], i_word_at⟩
def d_inside : Dn := ⟨48, ⟨("inside", none), "inside", "inside", defArgs (top 45), defBody (top 45), defScope (top 45), [], []⟩, ["text", "place", "sign", "other", "deep", "begin", "end"], ["text", "place", "sign"], i_inside⟩
def d_rows_from : Dn := ⟨49, ⟨("rows_from", none), "rows_from", "rows_from", defArgs (top 46), defBody (top 46), defScope (top 46), [], []⟩, ["text", "place", "many", "some", "first", "last"], ["text", "place", "many"], i_rows_from⟩
def d_area_by : Dn := ⟨50, ⟨("area_by", none), "area_by", "area_by", defArgs (top 47), defBody (top 47), defScope (top 47), [], []⟩, ["text", "place", "area", "anchor", "column", "marks", "pattern", "begin", "end", "found", "goal"], ["text", "place", "area", "anchor", "column", "marks", "pattern"], i_area_by⟩
def d_area_of : Dn := ⟨51, ⟨("area_of", none), "area_of", "area_of", defArgs (top 48), defBody (top 48), defScope (top 48), [], []⟩, ["text", "place", "area"], ["text", "place", "area"], i_area_of⟩
def d_law_cell_at : Dn := ⟨25, ⟨("_law_cell_at", none), "_law_cell_at", "_law_cell_at", defArgs (top 50), defBody (top 50), defScope (top 50), [], []⟩, ["_law_script", "_law_k"], ["_law_script", "_law_k"], i_law_cell_at⟩
def d_law_mixed : Dn := ⟨26, ⟨("_law_mixed", none), "_law_mixed", "_law_mixed", defArgs (top 51), defBody (top 51), defScope (top 51), [], []⟩, ["_law_script", "_law_k", "_law_many", "_law_drawn"], ["_law_script", "_law_k", "_law_many"], i_law_mixed⟩
def d_law_draw : Dn := ⟨27, ⟨("_law_draw", none), "_law_draw", "_law_draw", defArgs (top 52), defBody (top 52), defScope (top 52), [], []⟩, ["_law_script", "_law_town", "_law_many"], ["_law_script", "_law_town", "_law_many"], i_law_draw⟩
def d_law_pick : Dn := ⟨28, ⟨("_law_pick", none), "_law_pick", "_law_pick", defArgs (top 53), defBody (top 53), defScope (top 53), [], []⟩, ["_law_script", "_law_town", "_law_some"], ["_law_script", "_law_town", "_law_some"], i_law_pick⟩
def d_law_piece : Dn := ⟨29, ⟨("_law_piece", none), "_law_piece", "_law_piece", defArgs (top 54), defBody (top 54), defScope (top 54), [], []⟩, ["_law_script", "_law_town", "_law_most", "_law_made", "_law_few", "_law_k"], ["_law_script", "_law_town", "_law_most"], i_law_piece⟩
def d_law_text : Dn := ⟨30, ⟨("_law_text", none), "_law_text", "_law_text", defArgs (top 55), defBody (top 55), defScope (top 55), [], []⟩, ["_law_script", "_law_town", "_law_most", "_law_kind", "_law_letters", "_law_k"], ["_law_script", "_law_town", "_law_most"], i_law_text⟩
def d_law_place : Dn := ⟨31, ⟨("_law_place", none), "_law_place", "_law_place", defArgs (top 56), defBody (top 56), defScope (top 56), [], []⟩, ["_law_script", "_law_town", "_law_text_here"], ["_law_script", "_law_town", "_law_text_here"], i_law_place⟩
def d_law_words_met : Dn := ⟨52, ⟨("_law_words_met", none), "_law_words_met", "_law_words_met", defArgs (top 57), defBody (top 57), defScope (top 57), [], []⟩, ["_law_text_here", "_law_words", "_law_here", "_law_back"], ["_law_text_here"], i_law_words_met⟩
def d_law : Dn := ⟨41, ⟨("law", none), "law", "law", defArgs (top 58), defBody (top 58), defScope (top 58), [], []⟩, ["_law_script", "_law_town", "_law_text_here", "_law_place_here", "_law_many", "_law_there", "_law_other", "_law_pattern", "_law_met", "_law_at", "_law_row", "_law_begin", "_law_goal", "_law_due"], ["_law_script"], i_law_k27⟩
def nm0 : List (Str × Nat × List Str) := [("is_whole", 0, ["thing", "low", "most"]), ("are_signs", 1, ["thing", "low", "most", "more"]), ("is_text", 2, ["thing"]), ("need_text", 3, ["thing"]), ("need_place", 4, ["text", "place"]), ("begin_of", 5, ["text", "place"]), ("end_of", 6, ["text", "place"]), ("row_of", 7, ["text", "place"]), ("begins", 8, ["text"]), ("word_begins", 9, ["text"])]
def nm1 : List (Str × Nat × List Str) := [("word_ends", 10, ["text"]), ("is_named", 11, ["thing", "names"]), ("is_part", 12, ["sign", "thing"]), ("is_motion", 13, ["thing"]), ("nth_behind", 14, ["some", "place", "many"]), ("nth_ahead", 15, ["some", "place", "many"]), ("to_row", 16, ["text", "number", "column"]), ("partner", 17, ["text", "place"]), ("found_at", 18, ["text", "pattern"]), ("search_on", 19, ["text", "place", "pattern"])]
def nm2 : List (Str × Nat × List Str) := [("search_back", 20, ["text", "place", "pattern"]), ("within", 21, ["text", "place", "motion"]), ("place_by", 22, ["text", "place", "motion", "column", "marks", "pattern"]), ("need_motion", 23, ["thing"]), ("goes", 24, ["text", "place", "motion"]), ("_law_cell_at", 25, ["_law_script", "_law_k"]), ("_law_mixed", 26, ["_law_script", "_law_k", "_law_many"]), ("_law_draw", 27, ["_law_script", "_law_town", "_law_many"]), ("_law_pick", 28, ["_law_script", "_law_town", "_law_some"]), ("_law_piece", 29, ["_law_script", "_law_town", "_law_most"])]
def nm3 : List (Str × Nat × List Str) := [("_law_text", 30, ["_law_script", "_law_town", "_law_most"]), ("_law_place", 31, ["_law_script", "_law_town", "_law_text_here"]), ("law", 41, ["_law_script"]), ("is_area", 46, ["thing"]), ("word_at", 47, ["text", "place"]), ("inside", 48, ["text", "place", "sign"]), ("rows_from", 49, ["text", "place", "many"]), ("area_by", 50, ["text", "place", "area", "anchor", "column", "marks", "pattern"]), ("area_of", 51, ["text", "place", "area"]), ("_law_words_met", 52, ["_law_text_here"])]
def pd : Pd where
  ds := [d_is_whole, d_are_signs, d_is_text, d_need_text, d_need_place, d_begin_of, d_end_of, d_row_of, d_begins, d_word_begins, d_word_ends, d_is_named, d_is_part, d_is_motion, d_nth_behind, d_nth_ahead, d_to_row, d_partner, d_found_at, d_search_on, d_search_back, d_within, d_place_by, d_need_motion, d_goes, d_is_area, d_word_at, d_inside, d_rows_from, d_area_by, d_area_of, d_law_cell_at, d_law_mixed, d_law_draw, d_law_pick, d_law_piece, d_law_text, d_law_place, d_law_words_met, d_law]
  nms := nm0 ++ nm1 ++ nm2 ++ nm3
  cons := [("LONG", 4, .int 200), ("OPEN", 2, .str [40, 91, 123]), ("OTHERS", 1, .str [32, 46, 44, 45, 40, 41, 91, 93, 123, 125]), ("ROWS", 6, .int 99), ("SHUT", 3, .str [41, 93, 125]), ("TIMES_areas", 7, .int 9), ("TIMES_motions", 5, .int 9), ("WORD", 0, .str [97, 98, 99, 100, 101, 102, 103, 104, 105, 106, 107, 108, 109, 110, 111, 112, 113, 114, 115, 116, 117, 118, 119, 120, 121, 122, 65, 66, 67, 68, 69, 70, 71, 72, 73, 74, 75, 76, 77, 78, 79, 80, 81, 82, 83, 84, 85, 86, 87, 88, 89, 90, 48, 49, 50, 51, 52, 53, 54, 55, 56, 57])]
  kds := [("SIZES", 0, [("left", [110]), ("right", [110]), ("up", [110]), ("down", [110]), ("word", [110]), ("back", [110]), ("over", [110]), ("begin", []), ("end", []), ("first", []), ("top", []), ("bottom", []), ("pair", []), ("row", [114]), ("find", [115, 110]), ("mark", [109]), ("search", [116]), ("again", []), ("before", [])])]
  excs := [("NoArea", 3), ("NoMotion", 2), ("NoPlace", 1), ("NoText", 0)]
theorem b_is_whole : ∀ (kV doc pm : Value) (an : Option Addr) (cdv ct : Value) (us : List Value), us.length = d_is_whole.ps.length → bindArgs (PySem.W.fnOf d_is_whole.d.name d_is_whole.d.qual d_is_whole.d.params d_is_whole.d.body d_is_whole.d.scope .none kV doc pm an cdv ct) ⟨us, []⟩ = pure (d_is_whole.ps.zip us) := fun _ _ _ _ _ _ us hl => match us, hl with | [_, _, _], _ => rfl
theorem b_are_signs : ∀ (kV doc pm : Value) (an : Option Addr) (cdv ct : Value) (us : List Value), us.length = d_are_signs.ps.length → bindArgs (PySem.W.fnOf d_are_signs.d.name d_are_signs.d.qual d_are_signs.d.params d_are_signs.d.body d_are_signs.d.scope .none kV doc pm an cdv ct) ⟨us, []⟩ = pure (d_are_signs.ps.zip us) := fun _ _ _ _ _ _ us hl => match us, hl with | [_, _, _, _], _ => rfl
theorem b_is_text : ∀ (kV doc pm : Value) (an : Option Addr) (cdv ct : Value) (us : List Value), us.length = d_is_text.ps.length → bindArgs (PySem.W.fnOf d_is_text.d.name d_is_text.d.qual d_is_text.d.params d_is_text.d.body d_is_text.d.scope .none kV doc pm an cdv ct) ⟨us, []⟩ = pure (d_is_text.ps.zip us) := fun _ _ _ _ _ _ us hl => match us, hl with | [_], _ => rfl
theorem b_need_text : ∀ (kV doc pm : Value) (an : Option Addr) (cdv ct : Value) (us : List Value), us.length = d_need_text.ps.length → bindArgs (PySem.W.fnOf d_need_text.d.name d_need_text.d.qual d_need_text.d.params d_need_text.d.body d_need_text.d.scope .none kV doc pm an cdv ct) ⟨us, []⟩ = pure (d_need_text.ps.zip us) := fun _ _ _ _ _ _ us hl => match us, hl with | [_], _ => rfl
theorem b_need_place : ∀ (kV doc pm : Value) (an : Option Addr) (cdv ct : Value) (us : List Value), us.length = d_need_place.ps.length → bindArgs (PySem.W.fnOf d_need_place.d.name d_need_place.d.qual d_need_place.d.params d_need_place.d.body d_need_place.d.scope .none kV doc pm an cdv ct) ⟨us, []⟩ = pure (d_need_place.ps.zip us) := fun _ _ _ _ _ _ us hl => match us, hl with | [_, _], _ => rfl
theorem b_begin_of : ∀ (kV doc pm : Value) (an : Option Addr) (cdv ct : Value) (us : List Value), us.length = d_begin_of.ps.length → bindArgs (PySem.W.fnOf d_begin_of.d.name d_begin_of.d.qual d_begin_of.d.params d_begin_of.d.body d_begin_of.d.scope .none kV doc pm an cdv ct) ⟨us, []⟩ = pure (d_begin_of.ps.zip us) := fun _ _ _ _ _ _ us hl => match us, hl with | [_, _], _ => rfl
theorem b_end_of : ∀ (kV doc pm : Value) (an : Option Addr) (cdv ct : Value) (us : List Value), us.length = d_end_of.ps.length → bindArgs (PySem.W.fnOf d_end_of.d.name d_end_of.d.qual d_end_of.d.params d_end_of.d.body d_end_of.d.scope .none kV doc pm an cdv ct) ⟨us, []⟩ = pure (d_end_of.ps.zip us) := fun _ _ _ _ _ _ us hl => match us, hl with | [_, _], _ => rfl
theorem b_row_of : ∀ (kV doc pm : Value) (an : Option Addr) (cdv ct : Value) (us : List Value), us.length = d_row_of.ps.length → bindArgs (PySem.W.fnOf d_row_of.d.name d_row_of.d.qual d_row_of.d.params d_row_of.d.body d_row_of.d.scope .none kV doc pm an cdv ct) ⟨us, []⟩ = pure (d_row_of.ps.zip us) := fun _ _ _ _ _ _ us hl => match us, hl with | [_, _], _ => rfl
theorem b_begins : ∀ (kV doc pm : Value) (an : Option Addr) (cdv ct : Value) (us : List Value), us.length = d_begins.ps.length → bindArgs (PySem.W.fnOf d_begins.d.name d_begins.d.qual d_begins.d.params d_begins.d.body d_begins.d.scope .none kV doc pm an cdv ct) ⟨us, []⟩ = pure (d_begins.ps.zip us) := fun _ _ _ _ _ _ us hl => match us, hl with | [_], _ => rfl
theorem b_word_begins : ∀ (kV doc pm : Value) (an : Option Addr) (cdv ct : Value) (us : List Value), us.length = d_word_begins.ps.length → bindArgs (PySem.W.fnOf d_word_begins.d.name d_word_begins.d.qual d_word_begins.d.params d_word_begins.d.body d_word_begins.d.scope .none kV doc pm an cdv ct) ⟨us, []⟩ = pure (d_word_begins.ps.zip us) := fun _ _ _ _ _ _ us hl => match us, hl with | [_], _ => rfl
theorem b_word_ends : ∀ (kV doc pm : Value) (an : Option Addr) (cdv ct : Value) (us : List Value), us.length = d_word_ends.ps.length → bindArgs (PySem.W.fnOf d_word_ends.d.name d_word_ends.d.qual d_word_ends.d.params d_word_ends.d.body d_word_ends.d.scope .none kV doc pm an cdv ct) ⟨us, []⟩ = pure (d_word_ends.ps.zip us) := fun _ _ _ _ _ _ us hl => match us, hl with | [_], _ => rfl
theorem b_is_named : ∀ (kV doc pm : Value) (an : Option Addr) (cdv ct : Value) (us : List Value), us.length = d_is_named.ps.length → bindArgs (PySem.W.fnOf d_is_named.d.name d_is_named.d.qual d_is_named.d.params d_is_named.d.body d_is_named.d.scope .none kV doc pm an cdv ct) ⟨us, []⟩ = pure (d_is_named.ps.zip us) := fun _ _ _ _ _ _ us hl => match us, hl with | [_, _], _ => rfl
theorem b_is_part : ∀ (kV doc pm : Value) (an : Option Addr) (cdv ct : Value) (us : List Value), us.length = d_is_part.ps.length → bindArgs (PySem.W.fnOf d_is_part.d.name d_is_part.d.qual d_is_part.d.params d_is_part.d.body d_is_part.d.scope .none kV doc pm an cdv ct) ⟨us, []⟩ = pure (d_is_part.ps.zip us) := fun _ _ _ _ _ _ us hl => match us, hl with | [_, _], _ => rfl
theorem b_is_motion : ∀ (kV doc pm : Value) (an : Option Addr) (cdv ct : Value) (us : List Value), us.length = d_is_motion.ps.length → bindArgs (PySem.W.fnOf d_is_motion.d.name d_is_motion.d.qual d_is_motion.d.params d_is_motion.d.body d_is_motion.d.scope .none kV doc pm an cdv ct) ⟨us, []⟩ = pure (d_is_motion.ps.zip us) := fun _ _ _ _ _ _ us hl => match us, hl with | [_], _ => rfl
theorem b_nth_behind : ∀ (kV doc pm : Value) (an : Option Addr) (cdv ct : Value) (us : List Value), us.length = d_nth_behind.ps.length → bindArgs (PySem.W.fnOf d_nth_behind.d.name d_nth_behind.d.qual d_nth_behind.d.params d_nth_behind.d.body d_nth_behind.d.scope .none kV doc pm an cdv ct) ⟨us, []⟩ = pure (d_nth_behind.ps.zip us) := fun _ _ _ _ _ _ us hl => match us, hl with | [_, _, _], _ => rfl
theorem b_nth_ahead : ∀ (kV doc pm : Value) (an : Option Addr) (cdv ct : Value) (us : List Value), us.length = d_nth_ahead.ps.length → bindArgs (PySem.W.fnOf d_nth_ahead.d.name d_nth_ahead.d.qual d_nth_ahead.d.params d_nth_ahead.d.body d_nth_ahead.d.scope .none kV doc pm an cdv ct) ⟨us, []⟩ = pure (d_nth_ahead.ps.zip us) := fun _ _ _ _ _ _ us hl => match us, hl with | [_, _, _], _ => rfl
theorem b_to_row : ∀ (kV doc pm : Value) (an : Option Addr) (cdv ct : Value) (us : List Value), us.length = d_to_row.ps.length → bindArgs (PySem.W.fnOf d_to_row.d.name d_to_row.d.qual d_to_row.d.params d_to_row.d.body d_to_row.d.scope .none kV doc pm an cdv ct) ⟨us, []⟩ = pure (d_to_row.ps.zip us) := fun _ _ _ _ _ _ us hl => match us, hl with | [_, _, _], _ => rfl
theorem b_partner : ∀ (kV doc pm : Value) (an : Option Addr) (cdv ct : Value) (us : List Value), us.length = d_partner.ps.length → bindArgs (PySem.W.fnOf d_partner.d.name d_partner.d.qual d_partner.d.params d_partner.d.body d_partner.d.scope .none kV doc pm an cdv ct) ⟨us, []⟩ = pure (d_partner.ps.zip us) := fun _ _ _ _ _ _ us hl => match us, hl with | [_, _], _ => rfl
theorem b_found_at : ∀ (kV doc pm : Value) (an : Option Addr) (cdv ct : Value) (us : List Value), us.length = d_found_at.ps.length → bindArgs (PySem.W.fnOf d_found_at.d.name d_found_at.d.qual d_found_at.d.params d_found_at.d.body d_found_at.d.scope .none kV doc pm an cdv ct) ⟨us, []⟩ = pure (d_found_at.ps.zip us) := fun _ _ _ _ _ _ us hl => match us, hl with | [_, _], _ => rfl
theorem b_search_on : ∀ (kV doc pm : Value) (an : Option Addr) (cdv ct : Value) (us : List Value), us.length = d_search_on.ps.length → bindArgs (PySem.W.fnOf d_search_on.d.name d_search_on.d.qual d_search_on.d.params d_search_on.d.body d_search_on.d.scope .none kV doc pm an cdv ct) ⟨us, []⟩ = pure (d_search_on.ps.zip us) := fun _ _ _ _ _ _ us hl => match us, hl with | [_, _, _], _ => rfl
theorem b_search_back : ∀ (kV doc pm : Value) (an : Option Addr) (cdv ct : Value) (us : List Value), us.length = d_search_back.ps.length → bindArgs (PySem.W.fnOf d_search_back.d.name d_search_back.d.qual d_search_back.d.params d_search_back.d.body d_search_back.d.scope .none kV doc pm an cdv ct) ⟨us, []⟩ = pure (d_search_back.ps.zip us) := fun _ _ _ _ _ _ us hl => match us, hl with | [_, _, _], _ => rfl
theorem b_within : ∀ (kV doc pm : Value) (an : Option Addr) (cdv ct : Value) (us : List Value), us.length = d_within.ps.length → bindArgs (PySem.W.fnOf d_within.d.name d_within.d.qual d_within.d.params d_within.d.body d_within.d.scope .none kV doc pm an cdv ct) ⟨us, []⟩ = pure (d_within.ps.zip us) := fun _ _ _ _ _ _ us hl => match us, hl with | [_, _, _], _ => rfl
theorem b_place_by : ∀ (kV doc pm : Value) (an : Option Addr) (cdv ct : Value) (us : List Value), us.length = d_place_by.ps.length → bindArgs (PySem.W.fnOf d_place_by.d.name d_place_by.d.qual d_place_by.d.params d_place_by.d.body d_place_by.d.scope .none kV doc pm an cdv ct) ⟨us, []⟩ = pure (d_place_by.ps.zip us) := fun _ _ _ _ _ _ us hl => match us, hl with | [_, _, _, _, _, _], _ => rfl
theorem b_need_motion : ∀ (kV doc pm : Value) (an : Option Addr) (cdv ct : Value) (us : List Value), us.length = d_need_motion.ps.length → bindArgs (PySem.W.fnOf d_need_motion.d.name d_need_motion.d.qual d_need_motion.d.params d_need_motion.d.body d_need_motion.d.scope .none kV doc pm an cdv ct) ⟨us, []⟩ = pure (d_need_motion.ps.zip us) := fun _ _ _ _ _ _ us hl => match us, hl with | [_], _ => rfl
theorem b_goes : ∀ (kV doc pm : Value) (an : Option Addr) (cdv ct : Value) (us : List Value), us.length = d_goes.ps.length → bindArgs (PySem.W.fnOf d_goes.d.name d_goes.d.qual d_goes.d.params d_goes.d.body d_goes.d.scope .none kV doc pm an cdv ct) ⟨us, []⟩ = pure (d_goes.ps.zip us) := fun _ _ _ _ _ _ us hl => match us, hl with | [_, _, _], _ => rfl
theorem b_is_area : ∀ (kV doc pm : Value) (an : Option Addr) (cdv ct : Value) (us : List Value), us.length = d_is_area.ps.length → bindArgs (PySem.W.fnOf d_is_area.d.name d_is_area.d.qual d_is_area.d.params d_is_area.d.body d_is_area.d.scope .none kV doc pm an cdv ct) ⟨us, []⟩ = pure (d_is_area.ps.zip us) := fun _ _ _ _ _ _ us hl => match us, hl with | [_], _ => rfl
theorem b_word_at : ∀ (kV doc pm : Value) (an : Option Addr) (cdv ct : Value) (us : List Value), us.length = d_word_at.ps.length → bindArgs (PySem.W.fnOf d_word_at.d.name d_word_at.d.qual d_word_at.d.params d_word_at.d.body d_word_at.d.scope .none kV doc pm an cdv ct) ⟨us, []⟩ = pure (d_word_at.ps.zip us) := fun _ _ _ _ _ _ us hl => match us, hl with | [_, _], _ => rfl
theorem b_inside : ∀ (kV doc pm : Value) (an : Option Addr) (cdv ct : Value) (us : List Value), us.length = d_inside.ps.length → bindArgs (PySem.W.fnOf d_inside.d.name d_inside.d.qual d_inside.d.params d_inside.d.body d_inside.d.scope .none kV doc pm an cdv ct) ⟨us, []⟩ = pure (d_inside.ps.zip us) := fun _ _ _ _ _ _ us hl => match us, hl with | [_, _, _], _ => rfl
theorem b_rows_from : ∀ (kV doc pm : Value) (an : Option Addr) (cdv ct : Value) (us : List Value), us.length = d_rows_from.ps.length → bindArgs (PySem.W.fnOf d_rows_from.d.name d_rows_from.d.qual d_rows_from.d.params d_rows_from.d.body d_rows_from.d.scope .none kV doc pm an cdv ct) ⟨us, []⟩ = pure (d_rows_from.ps.zip us) := fun _ _ _ _ _ _ us hl => match us, hl with | [_, _, _], _ => rfl
theorem b_area_by : ∀ (kV doc pm : Value) (an : Option Addr) (cdv ct : Value) (us : List Value), us.length = d_area_by.ps.length → bindArgs (PySem.W.fnOf d_area_by.d.name d_area_by.d.qual d_area_by.d.params d_area_by.d.body d_area_by.d.scope .none kV doc pm an cdv ct) ⟨us, []⟩ = pure (d_area_by.ps.zip us) := fun _ _ _ _ _ _ us hl => match us, hl with | [_, _, _, _, _, _, _], _ => rfl
theorem b_area_of : ∀ (kV doc pm : Value) (an : Option Addr) (cdv ct : Value) (us : List Value), us.length = d_area_of.ps.length → bindArgs (PySem.W.fnOf d_area_of.d.name d_area_of.d.qual d_area_of.d.params d_area_of.d.body d_area_of.d.scope .none kV doc pm an cdv ct) ⟨us, []⟩ = pure (d_area_of.ps.zip us) := fun _ _ _ _ _ _ us hl => match us, hl with | [_, _, _], _ => rfl
theorem b_law_cell_at : ∀ (kV doc pm : Value) (an : Option Addr) (cdv ct : Value) (us : List Value), us.length = d_law_cell_at.ps.length → bindArgs (PySem.W.fnOf d_law_cell_at.d.name d_law_cell_at.d.qual d_law_cell_at.d.params d_law_cell_at.d.body d_law_cell_at.d.scope .none kV doc pm an cdv ct) ⟨us, []⟩ = pure (d_law_cell_at.ps.zip us) := fun _ _ _ _ _ _ us hl => match us, hl with | [_, _], _ => rfl
theorem b_law_mixed : ∀ (kV doc pm : Value) (an : Option Addr) (cdv ct : Value) (us : List Value), us.length = d_law_mixed.ps.length → bindArgs (PySem.W.fnOf d_law_mixed.d.name d_law_mixed.d.qual d_law_mixed.d.params d_law_mixed.d.body d_law_mixed.d.scope .none kV doc pm an cdv ct) ⟨us, []⟩ = pure (d_law_mixed.ps.zip us) := fun _ _ _ _ _ _ us hl => match us, hl with | [_, _, _], _ => rfl
theorem b_law_draw : ∀ (kV doc pm : Value) (an : Option Addr) (cdv ct : Value) (us : List Value), us.length = d_law_draw.ps.length → bindArgs (PySem.W.fnOf d_law_draw.d.name d_law_draw.d.qual d_law_draw.d.params d_law_draw.d.body d_law_draw.d.scope .none kV doc pm an cdv ct) ⟨us, []⟩ = pure (d_law_draw.ps.zip us) := fun _ _ _ _ _ _ us hl => match us, hl with | [_, _, _], _ => rfl
theorem b_law_pick : ∀ (kV doc pm : Value) (an : Option Addr) (cdv ct : Value) (us : List Value), us.length = d_law_pick.ps.length → bindArgs (PySem.W.fnOf d_law_pick.d.name d_law_pick.d.qual d_law_pick.d.params d_law_pick.d.body d_law_pick.d.scope .none kV doc pm an cdv ct) ⟨us, []⟩ = pure (d_law_pick.ps.zip us) := fun _ _ _ _ _ _ us hl => match us, hl with | [_, _, _], _ => rfl
theorem b_law_piece : ∀ (kV doc pm : Value) (an : Option Addr) (cdv ct : Value) (us : List Value), us.length = d_law_piece.ps.length → bindArgs (PySem.W.fnOf d_law_piece.d.name d_law_piece.d.qual d_law_piece.d.params d_law_piece.d.body d_law_piece.d.scope .none kV doc pm an cdv ct) ⟨us, []⟩ = pure (d_law_piece.ps.zip us) := fun _ _ _ _ _ _ us hl => match us, hl with | [_, _, _], _ => rfl
theorem b_law_text : ∀ (kV doc pm : Value) (an : Option Addr) (cdv ct : Value) (us : List Value), us.length = d_law_text.ps.length → bindArgs (PySem.W.fnOf d_law_text.d.name d_law_text.d.qual d_law_text.d.params d_law_text.d.body d_law_text.d.scope .none kV doc pm an cdv ct) ⟨us, []⟩ = pure (d_law_text.ps.zip us) := fun _ _ _ _ _ _ us hl => match us, hl with | [_, _, _], _ => rfl
theorem b_law_place : ∀ (kV doc pm : Value) (an : Option Addr) (cdv ct : Value) (us : List Value), us.length = d_law_place.ps.length → bindArgs (PySem.W.fnOf d_law_place.d.name d_law_place.d.qual d_law_place.d.params d_law_place.d.body d_law_place.d.scope .none kV doc pm an cdv ct) ⟨us, []⟩ = pure (d_law_place.ps.zip us) := fun _ _ _ _ _ _ us hl => match us, hl with | [_, _, _], _ => rfl
theorem b_law_words_met : ∀ (kV doc pm : Value) (an : Option Addr) (cdv ct : Value) (us : List Value), us.length = d_law_words_met.ps.length → bindArgs (PySem.W.fnOf d_law_words_met.d.name d_law_words_met.d.qual d_law_words_met.d.params d_law_words_met.d.body d_law_words_met.d.scope .none kV doc pm an cdv ct) ⟨us, []⟩ = pure (d_law_words_met.ps.zip us) := fun _ _ _ _ _ _ us hl => match us, hl with | [_], _ => rfl
theorem b_law : ∀ (kV doc pm : Value) (an : Option Addr) (cdv ct : Value) (us : List Value), us.length = d_law.ps.length → bindArgs (PySem.W.fnOf d_law.d.name d_law.d.qual d_law.d.params d_law.d.body d_law.d.scope .none kV doc pm an cdv ct) ⟨us, []⟩ = pure (d_law.ps.zip us) := fun _ _ _ _ _ _ us hl => match us, hl with | [_], _ => rfl
theorem binds : ∀ q ∈ pd.ds, ∀ (kV doc pm : Value) (an : Option Addr) (cdv ct : Value) (us : List Value), us.length = q.ps.length → bindArgs (PySem.W.fnOf q.d.name q.d.qual q.d.params q.d.body q.d.scope .none kV doc pm an cdv ct) ⟨us, []⟩ = pure (q.ps.zip us) := by
  intro q hq
  simp only [pd, List.mem_cons, List.not_mem_nil, or_false] at hq
  rcases hq with rfl | rfl | rfl | rfl | rfl | rfl | rfl | rfl | rfl | rfl | rfl | rfl | rfl | rfl | rfl | rfl | rfl | rfl | rfl | rfl | rfl | rfl | rfl | rfl | rfl | rfl | rfl | rfl | rfl | rfl | rfl | rfl | rfl | rfl | rfl | rfl | rfl | rfl | rfl | rfl
  · exact b_is_whole
  · exact b_are_signs
  · exact b_is_text
  · exact b_need_text
  · exact b_need_place
  · exact b_begin_of
  · exact b_end_of
  · exact b_row_of
  · exact b_begins
  · exact b_word_begins
  · exact b_word_ends
  · exact b_is_named
  · exact b_is_part
  · exact b_is_motion
  · exact b_nth_behind
  · exact b_nth_ahead
  · exact b_to_row
  · exact b_partner
  · exact b_found_at
  · exact b_search_on
  · exact b_search_back
  · exact b_within
  · exact b_place_by
  · exact b_need_motion
  · exact b_goes
  · exact b_is_area
  · exact b_word_at
  · exact b_inside
  · exact b_rows_from
  · exact b_area_by
  · exact b_area_of
  · exact b_law_cell_at
  · exact b_law_mixed
  · exact b_law_draw
  · exact b_law_pick
  · exact b_law_piece
  · exact b_law_text
  · exact b_law_place
  · exact b_law_words_met
  · exact b_law
theorem okN : pd.okN = true := by kernel_rfl
theorem okD : (pd.ds.all pd.okD) = true := by kernel_rfl
end K27

/-! part K27H -/
set_option maxRecDepth 100000
set_option maxHeartbeats 0
namespace K27
open PySem PySem.Spec PyProof.Rows L2 Ev
def lo1 : List Str := ["__name__", "EditError", "NoText", "NoPlace", "NoMotion", "NoArea", "WORD", "OTHERS", "OPEN", "SHUT", "LONG", "is_whole", "are_signs", "is_text", "need_text", "need_place", "begin_of", "end_of", "row_of", "begins", "word_begins", "word_ends", "TIMES_motions", "ROWS", "SIZES", "is_named", "is_part", "is_motion", "nth_behind", "nth_ahead"]
def lo2 : List Str := ["to_row", "partner", "found_at", "search_on", "search_back", "within", "place_by", "need_motion", "goes", "TIMES_areas", "is_area", "word_at", "inside", "rows_from", "area_by", "area_of", "_law_cell_at", "_law_mixed", "_law_draw", "_law_pick", "_law_piece", "_law_text", "_law_place", "_law_words_met"]
def loose : List Str := lo1 ++ lo2
abbrev hk : PySem.W.Hook := Hd.hook pd.fa pd.fn pd.ts pd.xs
def ob (s : PySem.W.SharedT) : Hd.Al := Hd.obsG pd.fa pd.fn pd.ts pd.xs (HandSHeadRun.getT s)
theorem ob_eq (s : PySem.W.SharedT) : ob s = hk.obs s.abs := Hd.obsG_eq (HandSHeadRun.getT_eq s)
abbrev vq : Program := PySem.W.view R.prog [58]
open HandSHeadRun PySem.W in
theorem lF (w : World) (os : OsState) : (endF (stepQ (denQ tabQ) R.prog (w.withFollow "special-get-raises" false)) 40000 R.prog (w.withFollow "special-get-raises" false) os).map (fun s => looksF R.prog (boot_heap (w.withFollow "special-get-raises" false).params) s.abs) = some true := by kernel_rfl
open HandSHeadRun PySem.W in
theorem sF (w : World) (os : OsState) : (endF (stepQ (denQ tabQ) R.prog (w.withFollow "special-get-raises" false)) 40000 R.prog (w.withFollow "special-get-raises" false) os).map (fun s => seenQ vq loose (importedModules R.prog.main.body) (fun s => xlAt vq [] s && recOk R.toRowW.records s) s.abs) = some (openGood vq loose) := by kernel_rfl
open HandSHeadRun PySem.W in
theorem oF (w : World) (os : OsState) : (endF (stepQ (denQ tabQ) R.prog (w.withFollow "special-get-raises" false)) 40000 R.prog (w.withFollow "special-get-raises" false) os).map (fun s => ob s) = some (hk.val (w.withFollow "special-get-raises" false)) := by kernel_rfl
theorem rF (w : World) : HandSHeadRun.RunEq R vq hk ob 40000 loose (w.withFollow "special-get-raises" false) := fun os => Ev.comb3 (lF w os) (sF w os) (oF w os)
open HandSHeadRun PySem.W in
theorem lT (w : World) (os : OsState) : (endF (stepQ (denQ tabQ) R.prog (w.withFollow "special-get-raises" true)) 40000 R.prog (w.withFollow "special-get-raises" true) os).map (fun s => looksF R.prog (boot_heap (w.withFollow "special-get-raises" true).params) s.abs) = some true := by kernel_rfl
open HandSHeadRun PySem.W in
theorem sT (w : World) (os : OsState) : (endF (stepQ (denQ tabQ) R.prog (w.withFollow "special-get-raises" true)) 40000 R.prog (w.withFollow "special-get-raises" true) os).map (fun s => seenQ vq loose (importedModules R.prog.main.body) (fun s => xlAt vq [] s && recOk R.toRowW.records s) s.abs) = some (openGood vq loose) := by kernel_rfl
open HandSHeadRun PySem.W in
theorem oT (w : World) (os : OsState) : (endF (stepQ (denQ tabQ) R.prog (w.withFollow "special-get-raises" true)) 40000 R.prog (w.withFollow "special-get-raises" true) os).map (fun s => ob s) = some (hk.val (w.withFollow "special-get-raises" true)) := by kernel_rfl
theorem rT (w : World) : HandSHeadRun.RunEq R vq hk ob 40000 loose (w.withFollow "special-get-raises" true) := fun os => Ev.comb3 (lT w os) (sT w os) (oT w os)
theorem runEq (w : World) : HandSHeadRun.RunEq R vq hk ob 40000 loose w := PySem.W.byRow2 "special-get-raises" (P := fun w => HandSHeadRun.RunEq R vq hk ob 40000 loose w) rF rT w
end K27

/-! part K27F -/
set_option maxRecDepth 100000
set_option maxHeartbeats 0
open PySem PySem.W PyProof.Rows in
theorem law_holds (law : ∀ ns : List Int, ns.length ≤ 63 → ∃ h', Ev.run K27.pd.T 20 41 [.scr ns] Ev.Hs.nil = .ok (.bl true) h') : PySem.Challenge.rw_editheart_k27_whole_there_and_back.Holds := by
  w_on; o_law
  refine HandSHeadRun.head_any (r := OpenLaw.row PySem.Challenge.rw_editheart_k27_whole_there_and_back) (q := K27.vq) (H := K27.hk) (ob := K27.ob) (M := 40000) (loose := K27.loose) (d := HandSHeadRun.topDef (OpenLaw.row PySem.Challenge.rw_editheart_k27_whole_there_and_back).prog 58) (kwd := []) K27.ob_eq
    (by kernel_rfl) (fun s => by kernel_rfl) K27.runEq (by kernel_rfl) (by kernel_rfl) (by kernel_rfl) (by rfl) (by first | assumption | decide +kernel) (by decide +kernel) ⟨rfl, rfl, rfl, rfl, rfl, by decide +kernel⟩ ?hw ?hc
  case hw => w_witness2
  case hc =>
    refine L2.walk_ofEw (l := PySem.Challenge.rw_editheart_k27_whole_there_and_back) (n := 63) (k := 41) (x := "_law_script") (CX := fun w => L2.CX (PySem.Challenge.rw_editheart_k27_whole_there_and_back).prog w) rfl (by decide) (by kernel_rfl) ⟨rfl, by decide, by decide⟩ ?F (fun _ _ _ _ _ => L2.cx_false)
    intro w mg fa h Y G hmg0
    obtain ⟨K, KX, c, cx⟩ := Y
    have hmg : mg ("law" : PySem.Str) = some (.ref fa) := by
      have e : (HandSHeadRun.topDef (OpenLaw.row PySem.Challenge.rw_editheart_k27_whole_there_and_back).prog 58).name = ("law" : PySem.Str) := by kernel_rfl
      rw [← e]
      exact hmg0
    exact Ev.law_end (q := K27.d_law) (n := 20) KX G c cx K27.okD K27.okN K27.binds (by kernel_rfl) (by kernel_rfl) (by kernel_rfl) hmg law

/-! part K27Z -/
set_option maxRecDepth 100000
set_option maxHeartbeats 8000000
namespace K27
theorem tab : Ed.T27 pd.T := by
  repeat' constructor
  all_goals (intro w; rfl)
end K27
theorem PySem.Challenge.cw_editheart_k27_whole_there_and_back_holds : PySem.Challenge.rw_editheart_k27_whole_there_and_back.Holds := by
  exact law_holds (fun ns _ => Ed.r_law27 K27.tab 12 ns)
