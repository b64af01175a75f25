import PyProof.Rows.All
import Wide.All
import OpenK.AllK
import Wide.FinOn
import HandS.ForMost
import HandS.Strs
import HandS.Conv
import HandS.Wide
import HandS.Flow
import HandS.More
import KE.KDictKeyed
import HandS.SetKeys
import HandS.Small
import HandS.TupAny
import HandS.Text
import HandS.IsInst
import KE.KSortedM
import HandS.SortInts
import HandS.HeadWalk
import HandS.MakeKw
import HandS.Zip
import HandS.Remove
import HandS.Exc
import HandS.HeadHook1
import PySem.Challenge.RW_everybudget_k85_whole_kept_or_a_tree
/-! Pd: data, a small syntax of its own, its evaluator. -/
namespace Pd

/-- values: None, bools, ints, texts (code points), tuples, lists (as values), the script's list, an object of the table -/
inductive D where
  | non
  | bl (b : Bool)
  | int (i : Int)
  | str (s : List Nat)
  | tup (xs : List D)
  | lst (xs : List D)
  | scr (xs : List Int)
  | obj (n : Nat)
deriving Inhabited

/-- objects that change: a list, a dict, an instance of class c -/
inductive Ob where
  | lst (xs : List D)
  | dct (k : Bool) (kvs : List (D × D))
  | ins (c : Nat) (fs : List (Nat × D))
deriving Inhabited

abbrev T := List Ob

inductive R (α : Type) where
  | ok (a : α) (t : T)
  | ex (c : Nat) (as : List D) (t : T)
  | no

def bnd {α β : Type} (r : R α) (k : α → T → R β) : R β :=
  match r with
  | .ok a t => k a t
  | .ex c as t => .ex c as t
  | .no => .no
@[simp] theorem bnd_ok {α β : Type} (a : α) (t : T) (k : α → T → R β) : bnd (.ok a t) k = k a t := rfl
@[simp] theorem bnd_ex {α β : Type} (c : Nat) (as : List D) (t : T) (k : α → T → R β) : bnd (.ex c as t) k = .ex c as t := rfl
@[simp] theorem bnd_no {α β : Type} (k : α → T → R β) : bnd (.no : R α) k = .no := rfl
def ofO {α : Type} (o : Option α) (t : T) : R α :=
  match o with
  | some a => .ok a t
  | none => .no
@[simp] theorem ofO_some {α : Type} (a : α) (t : T) : ofO (some a) t = .ok a t := rfl
@[simp] theorem ofO_none {α : Type} (t : T) : ofO (none : Option α) t = .no := rfl

/-- a slot: nothing known, a value, a list of one's own (may be changed), one's own list while it is walked -/
inductive Cell where
  | un
  | val (d : D)
  | own (ds : List D)
  | loan (ds : List D)
deriving Inhabited
abbrev Env := List Cell

/-- the longest list or text -/
def sz : Nat := 16777216

/-! ### operations on data -/
inductive Bo where | add | sub | mul | fdiv | mod | pow | shl | shr | band | bor | bxor
deriving DecidableEq
inductive Co where | eq | ne | lt | le | gt | ge | isin | notin | isN | notN
deriving DecidableEq
inductive Ty where | int | bool | str | tup | lst | row
deriving DecidableEq

def bits (i : Int) : Nat := i.natAbs.log2

def binD : Bo → D → D → Option D
  | .add, .int a, .int b => some (.int (a + b))
  | .add, .str a, .str b => if a.length + b.length ≤ sz then some (.str (a ++ b)) else none
  | .add, .tup a, .tup b => if a.length + b.length ≤ sz then some (.tup (a ++ b)) else none
  | .add, .lst a, .lst b => if a.length + b.length ≤ sz then some (.lst (a ++ b)) else none
  | .sub, .int a, .int b => some (.int (a - b))
  | .mul, .int a, .int b => if bits a + bits b < 1000000 then some (.int (a * b)) else none
  | .fdiv, .int a, .int b => if 0 < b ∧ bits b < 9000 then some (.int (a / b)) else none
  | .mod, .int a, .int b => if 0 < b then some (.int (a % b)) else none
  | .pow, .int a, .int b => if 0 ≤ b ∧ b ≤ 1000000 ∧ a.natAbs < 2 ^ 64 then some (.int (a ^ b.toNat)) else none
  | .shl, .int a, .int b => if 0 ≤ b ∧ b ≤ 1000000 ∧ a.natAbs < 2 ^ 64 then some (.int (a * 2 ^ b.toNat)) else none
  | .shr, .int a, .int b => if 0 ≤ b then some (.int (a / 2 ^ b.toNat)) else none
  | .band, .int a, .int b => if 0 ≤ a ∧ 0 ≤ b then some (.int ((a.toNat &&& b.toNat : Nat) : Int)) else none
  | .bor, .int a, .int b => if 0 ≤ a ∧ 0 ≤ b then some (.int ((a.toNat ||| b.toNat : Nat) : Int)) else none
  | .bxor, .int a, .int b => if 0 ≤ a ∧ 0 ≤ b then some (.int ((a.toNat ^^^ b.toNat : Nat) : Int)) else none
  | _, _, _ => none

def b2i (b : Bool) : Int := if b then 1 else 0

mutual
/-- == of data -/
def eqv : D → D → Bool
  | .non, .non => true
  | .bl a, .bl b => a == b
  | .bl a, .int j => b2i a == j
  | .int i, .bl b => i == b2i b
  | .int i, .int j => i == j
  | .str x, .str y => x == y
  | .lst xs, .lst ys => eqvs xs ys
  | .tup xs, .tup ys => eqvs xs ys
  | _, _ => false
def eqvs : List D → List D → Bool
  | [], [] => true
  | x :: xs, y :: ys => eqv x y && eqvs xs ys
  | _, _ => false
end
mutual
/-- may be compared: nesting below k -/
def shp : Nat → D → Bool
  | _, .non => true
  | _, .bl _ => true
  | _, .int _ => true
  | _, .str _ => true
  | k, .lst xs => match k with | 0 => false | k + 1 => shps k xs
  | k, .tup xs => match k with | 0 => false | k + 1 => shps k xs
  | _, .scr _ => false
  | _, .obj _ => false
def shps : Nat → List D → Bool
  | _, [] => true
  | k, x :: xs => shp k x && shps k xs
end
mutual
/-- the very same data -/
def dEq : D → D → Bool
  | .non, .non => true
  | .bl a, .bl b => a == b
  | .int i, .int j => decide (i = j)
  | .str x, .str y => decide (x = y)
  | .tup xs, .tup ys => dEqs xs ys
  | .lst xs, .lst ys => dEqs xs ys
  | .scr xs, .scr ys => decide (xs = ys)
  | .obj a, .obj b => decide (a = b)
  | _, _ => false
def dEqs : List D → List D → Bool
  | [], [] => true
  | x :: xs, y :: ys => dEq x y && dEqs xs ys
  | _, _ => false
end
def flat : D → Bool
  | .non => true
  | .bl _ => true
  | .int _ => true
  | .str _ => true
  | _ => false

/-- items of what may be walked -/
def items : D → Option (List D)
  | .tup xs => some xs
  | .lst xs => some xs
  | .scr xs => some (xs.map .int)
  | .str s => some (s.map fun c => .str [c])
  | _ => none
def seqs : D → Option (List D)
  | .tup xs => some xs
  | .lst xs => some xs
  | _ => none

/-- a dict's entry under a key -/
def dget (k : D) : List (D × D) → Option D
  | [] => none
  | (j, v) :: r => if eqv j k then some v else dget k r
def dput (k v : D) : List (D × D) → List (D × D)
  | [] => [(k, v)]
  | (j, w) :: r => if eqv j k then (j, v) :: r else (j, w) :: dput k v r
-- keys: ints, texts, tuples of keys
mutual
def keyOk : D → Bool
  | .int _ => true
  | .str _ => true
  | .tup xs => keysOk xs
  | _ => false
def keysOk : List D → Bool
  | [] => true
  | x :: xs => keyOk x && keysOk xs
end

mutual
/-- a part of a key of tuples, at most k deep -/
def nkB : Nat → D → Bool
  | _, .non => true
  | _, .int _ => true
  | _, .str _ => true
  | k, .tup xs => match k with | 0 => false | k + 1 => nkBs k xs
  | _, _ => false
def nkBs : Nat → List D → Bool
  | _, [] => true
  | k, x :: xs => nkB k x && nkBs k xs
end
/-- may be a key of a dict of kind k -/
def keyB (k : Bool) (d : D) : Bool := match k, d with
  | true, .tup xs => nkB 8 (.tup xs)
  | false, .int _ => true
  | false, .str _ => true
  | _, _ => false
/-- the dict of the table -/
def dctOf (t : T) : D → Option (Bool × List (D × D))
  | .obj n => match t[n]? with
    | some (.dct k kvs) => some (k, kvs)
    | _ => none
  | _ => none
/-- what lies under key x of dict y -/
def getD (t : T) (y x : D) : Option (Option D) := (dctOf t y).bind fun p => if keyB p.1 x then some (dget x p.2) else none

def inD (x y : D) : Option Bool :=
  match y with
  | .tup ys => if flat x && ys.all flat then some (ys.any fun y => eqv y x) else none
  | .lst ys => if flat x && ys.all flat then some (ys.any fun y => eqv y x) else none
  | .str s => match x with
    | .str [c] => some (decide (c ∈ s))
    | _ => none
  | _ => none

/-- in, dicts too -/
def inT (t : T) (x y : D) : Option Bool :=
  match y with
  | .obj n => (getD t (.obj n) x).map Option.isSome
  | y => inD x y

def isNon : D → Bool
  | .non => true
  | _ => false
def isB (b : Bool) : D → Bool
  | .bl c => c == b
  | _ => false

def cmpD (t : T) : Co → D → D → Option D
  | .eq, x, y => if shp 60 x && shp 60 y then some (.bl (eqv x y)) else none
  | .ne, x, y => if shp 60 x && shp 60 y then some (.bl (!eqv x y)) else none
  | .lt, .int a, .int b => some (.bl (decide (a < b)))
  | .le, .int a, .int b => some (.bl (decide (a ≤ b)))
  | .gt, .int a, .int b => some (.bl (decide (b < a)))
  | .ge, .int a, .int b => some (.bl (decide (b ≤ a)))
  | .isin, x, y => (inT t x y).map .bl
  | .notin, x, y => (inT t x y).map fun b => .bl (!b)
  | .isN, x, .non => some (.bl (isNon x))
  | .notN, x, .non => some (.bl (!isNon x))
  | .isN, x, .bl b => some (.bl (isB b x))
  | .notN, x, .bl b => some (.bl (!isB b x))
  | _, _, _ => none

def truthD (t : T) : D → Option Bool
  | .non => some false
  | .bl b => some b
  | .int i => some (i != 0)
  | .str s => some (!s.isEmpty)
  | .tup xs => some (!xs.isEmpty)
  | .lst xs => some (!xs.isEmpty)
  | .scr xs => some (!xs.isEmpty)
  | .obj n => match t[n]? with
    | some (.lst xs) => some (!xs.isEmpty)
    | _ => none

def lenD (t : T) : D → Option Nat
  | .str s => some s.length
  | .tup xs => some xs.length
  | .lst xs => some xs.length
  | .scr xs => some xs.length
  | .obj n => match t[n]? with
    | some (.lst xs) => some xs.length
    | _ => none
  | _ => none

/-- the place of index i among n -/
def ixN (n : Nat) (i : Int) : Option Nat := if 0 ≤ i then (if i < n then some i.toNat else none) else if -(n : Int) ≤ i then some (i + n).toNat else none
def atI {α : Type} (xs : List α) (i : Int) : Option α := (ixN xs.length i).bind fun j => xs[j]?

def ixD (t : T) : D → D → Option D
  | .str s, .int i => (atI s i).map fun c => .str [c]
  | .tup xs, .int i => atI xs i
  | .lst xs, .int i => atI xs i
  | .scr xs, .int i => (atI xs i).map .int
  | .obj n, i => match t[n]? with
    | some (.lst xs) => match i with
      | .int i => atI xs i
      | _ => none
    | some (.dct k kvs) => if keyB k i then dget i kvs else none
    | _ => none
  | _, _ => none

/-- where a slice's end stands -/
def sIx (n d : Nat) : Option Int → Nat
  | none => d
  | some v => if v < 0 then (v + n).toNat else min v.toNat n
def cut {α : Type} (xs : List α) (lo hi : Option Int) : List α := (xs.drop (sIx xs.length 0 lo)).take (sIx xs.length xs.length hi - sIx xs.length 0 lo)
def cutD (lo hi : Option Int) : D → Option D
  | .str s => some (.str (cut s lo hi))
  | .tup xs => some (.tup (cut xs lo hi))
  | .lst xs => some (.lst (cut xs lo hi))
  | _ => none

/-- ints of a list -/
def intsOf : List D → Option (List Int)
  | [] => some []
  | .int i :: r => (intsOf r).map (i :: ·)
  | _ => none
def boolsOf : List D → Option (List Bool)
  | [] => some []
  | .bl b :: r => (boolsOf r).map (b :: ·)
  | _ => none
def strsOf : List D → Option (List (List Nat))
  | [] => some []
  | .str s :: r => (strsOf r).map (s :: ·)
  | _ => none
def maxI : List Int → Option Int
  | [] => none
  | [x] => some x
  | x :: r => (maxI r).map fun m => if x < m then m else x
def minI : List Int → Option Int
  | [] => none
  | [x] => some x
  | x :: r => (minI r).map fun m => if m < x then m else x
def joinS (sep : List Nat) : List (List Nat) → List Nat
  | [] => []
  | [x] => x
  | x :: r => x ++ sep ++ joinS sep r
def range0 (n : Int) : List D := (List.range n.toNat).map fun k : Nat => D.int (k : Int)
def range2 (a b : Int) : List D := (List.range (b - a).toNat).map fun k : Nat => D.int (a + (k : Int))
def enumF : Nat → List D → List D
  | _, [] => []
  | k, x :: r => .tup [.int k, x] :: enumF (k + 1) r
def zipD : List D → List D → List D
  | x :: r, y :: s => .tup [x, y] :: zipD r s
  | _, _ => []

-- the order of data that may be sorted: ints, texts, tuples of these
mutual
def leD : D → D → Bool
  | .int a, .int b => decide (a ≤ b)
  | .str a, .str b => decide (a ≤ b)
  | .tup a, .tup b => leDs a b
  | _, _ => false
def leDs : List D → List D → Bool
  | [], _ => true
  | _ :: _, [] => false
  | x :: r, y :: s => if eqv x y then leDs r s else leD x y
end
-- of one kind, place by place
mutual
def like : D → D → Bool
  | .int _, .int _ => true
  | .str _, .str _ => true
  | .tup a, .tup b => likes a b
  | _, _ => false
def likes : List D → List D → Bool
  | [], [] => true
  | x :: r, y :: s => like x y && likes r s
  | _, _ => false
end

inductive B1 where | len | abs | int | str | sum | max | min | any | all | list | tuple | sorted | lenset | lrange | trange
deriving DecidableEq
inductive B2 where | max | min
deriving DecidableEq
inductive Mu where | append | insert | pop | popAt | remove | extend | reverse
deriving DecidableEq

/-- each text once -/
def onceS (σ : List (List Nat)) (v : List Nat) : List (List Nat) := if σ.any (fun x => x == v) then σ else σ ++ [v]
def b1D (t : T) : B1 → D → Option D
  | .len, d => (lenD t d).map fun n : Nat => D.int (n : Int)
  | .abs, .int i => some (.int (if i < 0 then -i else i))
  | .int, .int i => some (.int i)
  | .int, .bl b => some (.int (b2i b))
  | .int, .str s => match s with
    | [c] => if 48 ≤ c ∧ c ≤ 57 then some (.int ((c : Int) - 48)) else none
    | _ => none
  | .str, .int i => if 0 ≤ i ∧ i < 10 then some (.str [48 + i.toNat]) else none
  | .sum, .lst xs => (intsOf xs).map fun ns => .int ns.sum
  | .max, .lst xs => ((intsOf xs).bind maxI).map .int
  | .min, .lst xs => ((intsOf xs).bind minI).map .int
  | .any, .lst xs => (boolsOf xs).map fun bs => .bl (bs.any id)
  | .all, .lst xs => (boolsOf xs).map fun bs => .bl (bs.all id)
  | .list, d => match d with
    | .tup xs => some (.lst xs)
    | .lst xs => some (.lst xs)
    | .scr xs => some (.lst (xs.map .int))
    | .obj n => match t[n]? with
      | some (.lst xs) => some (.lst xs)
      | _ => none
    | _ => none
  | .tuple, d => match d with
    | .tup xs => some (.tup xs)
    | .lst xs => some (.tup xs)
    | .obj n => match t[n]? with
      | some (.lst xs) => some (.tup xs)
      | _ => none
    | _ => none
  | .sorted, .lst xs => (intsOf xs).map fun ns => .lst ((ns.mergeSort (fun a b => decide (a ≤ b))).map .int)
  | .lenset, d => match seqs d with
    | some xs => (strsOf xs).bind fun ss => if ss.length ≤ 1000 then some (.int ((ss.foldl onceS []).length : Int)) else none
    | none => none
  | .lrange, .int n => if -1000000 ≤ n ∧ n ≤ 1000000 then some (.lst (range0 n)) else none
  | .trange, .int n => if -1000000 ≤ n ∧ n ≤ 1000000 then some (.tup (range0 n)) else none
  | _, _ => none
def b2D : B2 → D → D → Option D
  | .max, .int i, .int j => some (.int (if j > i then j else i))
  | .min, .int i, .int j => some (.int (if j < i then j else i))
  | _, _, _ => none
def isiO : Ty → Bool
  | .lst => true
  | .row => true
  | _ => false
def isiD (t : T) : Ty → D → Option Bool
  | k, .obj n => match t[n]? with
    | some (.lst _) => some (isiO k)
    | _ => none
  | .int, d => some (match d with | .int _ => true | .bl _ => true | _ => false)
  | .bool, d => some (match d with | .bl _ => true | _ => false)
  | .str, d => some (match d with | .str _ => true | _ => false)
  | .tup, d => some (match d with | .tup _ => true | _ => false)
  | .lst, d => some (match d with | .lst _ => true | .scr _ => true | _ => false)
  | .row, d => some (match d with | .lst _ => true | .scr _ => true | .tup _ => true | _ => false)

/-- methods of dicts -/
inductive Dm where | get | setdefault
deriving DecidableEq
def dmD (t : T) : Dm → D → List D → Option (D × T)
  | .get, y, [k] => (getD t y k).map fun o => (o.getD .non, t)
  | .get, y, [k, d] => (getD t y k).map fun o => (o.getD d, t)
  | .setdefault, .obj n, [k, d] => match t[n]? with
    | some (.dct b kvs) => if keyB b k && decide (kvs.length < sz) then (match dget k kvs with
      | some v => some (v, t)
      | none => some (d, t.set n (.dct b (dput k d kvs)))) else none
    | _ => none
  | _, _, _ => none
def okP (r : Option (D × T)) : R D := match r with
  | some p => .ok p.1 p.2
  | none => .no

/-! ### syntax -/
mutual
inductive Tg where
  | nm (i : Nat)
  | tp (gs : Tgs)
inductive Tgs where
  | nil
  | cons (g : Tg) (r : Tgs)
end
mutual
inductive E where
  | var (i : Nat)
  | kon (d : D)
  | glb (x : String) (d : D)
  | bin (o : Bo) (a b : E)
  | neg (a : E)
  | cmp (o : Co) (a b : E)
  | chn (o p : Co) (a b c : E)
  | and (es : Es)
  | or (es : Es)
  | not (a : E)
  | ife (c : Tt) (a b : E)
  | call (f : Nat) (as : Es)
  | callk (f : Nat) (pm : List Nat) (as ks : Es)
  | mth (c m : Nat) (o : E) (as : Es)
  | mk (c : Nat) (as : Es)
  | b1 (b : B1) (a : E)
  | b2 (b : B2) (a c : E)
  | isi (k : Ty) (a : E)
  | ix (a i : E)
  | sl (a : E) (lo hi : Es)
  | lst (es : Es)
  | tup (es : Es)
  | newL (es : Es)
  | newD (k : Bool)
  | lobj (a : E)
  | dsp (ks : List D) (es : Es)
  | mkk (c : Nat) (pm : List Nat) (as ks : Es)
  | dm (m : Dm) (o : E) (as : Es)
  | comp (s : Src) (g : Tg) (own : List Nat) (c : Tt) (e : E)
  | join (a : E)
  | fld (o : E) (f : Nat)
  | never
inductive Tt where
  | yes
  | not (t : Tt)
  | and (ts : Tts)
  | or (ts : Tts)
  | val (e : E)
inductive Tts where
  | nil
  | cons (t : Tt) (r : Tts)
inductive Es where
  | nil
  | cons (e : E) (r : Es)
inductive Src where
  | seq (a : E)
  | rng (a : E)
  | rng2 (a b : E)
  | enm (a : E)
  | zip (a b : E)
end
mutual
inductive S where
  | asg (g : Tg) (e : E)
  | setI (o i e : E)
  | setF (o : E) (f : Nat) (e : E)
  | aug (i : Nat) (o : Bo) (e : E)
  | mut (m : Mu) (i : Nat) (es : Es)
  | ifs (c : Tt) (a b : Ss)
  | for (g : Tg) (s : Src) (b : Ss) (fg : List Nat)
  | whl (k : Nat) (c : Tt) (b : Ss) (fg : List Nat)
  | ret (e : E)
  | retn
  | brk
  | cont
  | exp (e : E)
  | rai (c : Nat) (es : Es)
  | fg (is : List Nat)
  | pas
  | never
inductive Ss where
  | nil
  | cons (s : S) (r : Ss)
end

/-- lists of syntax -/
def es : List E → Es
  | [] => .nil
  | a :: r => .cons a (es r)
def ts : List Tt → Tts
  | [] => .nil
  | a :: r => .cons a (ts r)
def gs : List Tg → Tgs
  | [] => .nil
  | a :: r => .cons a (gs r)
def ss : List S → Ss
  | [] => .nil
  | a :: r => .cons a (ss r)

/-! ### which names get out of an expression's hands -/
mutual
/-- names whose object may be kept by what e gives or calls -/
def esc : E → List Nat
  | .var i => [i]
  | .kon _ => []
  | .glb _ _ => []
  | .bin _ a b => esO a ++ esO b
  | .neg a => esO a
  | .cmp _ a b => esO a ++ esO b
  | .chn _ _ a b c => esO a ++ esO b ++ esO c
  | .and es => escs es
  | .or es => escs es
  | .not a => esO a
  | .ife c a b => esT c ++ esc a ++ esc b
  | .call _ as => escs as
  | .callk _ _ as ks => escs as ++ escs ks
  | .mth _ _ o as => esc o ++ escs as
  | .mk _ as => escs as
  | .b1 _ a => esO a
  | .b2 _ a c => esO a ++ esO c
  | .isi _ a => esO a
  | .ix a i => esO a ++ esO i
  | .sl a lo hi => esO a ++ escs lo ++ escs hi
  | .lst es => escs es
  | .tup es => escs es
  | .newL es => escs es
  | .newD _ => []
  | .lobj a => esO a
  | .dsp _ es => escs es
  | .mkk _ _ as ks => escs as ++ escs ks
  | .dm _ o as => esc o ++ escs as
  | .comp s _ own c e => esS s ++ (esT c ++ esc e).filter fun i => !own.contains i
  | .join a => esO a
  | .fld o _ => esc o
  | .never => []
/-- an operand that is only looked at -/
def esO : E → List Nat
  | .var _ => []
  | .bin _ a b => esO a ++ esO b
  | .neg a => esO a
  | .cmp _ a b => esO a ++ esO b
  | .chn _ _ a b c => esO a ++ esO b ++ esO c
  | .and es => escs es
  | .or es => escs es
  | .not a => esO a
  | .ife c a b => esT c ++ esc a ++ esc b
  | .call _ as => escs as
  | .callk _ _ as ks => escs as ++ escs ks
  | .mth _ _ o as => esc o ++ escs as
  | .mk _ as => escs as
  | .b1 _ a => esO a
  | .b2 _ a c => esO a ++ esO c
  | .isi _ a => esO a
  | .ix a i => esO a ++ esO i
  | .sl a lo hi => esO a ++ escs lo ++ escs hi
  | .lst es => escs es
  | .tup es => escs es
  | .newL es => escs es
  | .lobj a => esO a
  | .dsp _ es => escs es
  | .mkk _ _ as ks => escs as ++ escs ks
  | .dm _ o as => esc o ++ escs as
  | .comp s _ own c e => esS s ++ (esT c ++ esc e).filter fun i => !own.contains i
  | .join a => esO a
  | .fld o _ => esc o
  | _ => []
def esT : Tt → List Nat
  | .yes => []
  | .not t => esT t
  | .and ts => esTs ts
  | .or ts => esTs ts
  | .val e => esO e
def esTs : Tts → List Nat
  | .nil => []
  | .cons t r => esT t ++ esTs r
def escs : Es → List Nat
  | .nil => []
  | .cons e r => esc e ++ escs r
def esS : Src → List Nat
  | .seq a => esO a
  | .rng a => esO a
  | .rng2 a b => esO a ++ esO b
  | .enm a => esO a
  | .zip a b => esO a ++ esO b
end

/-- the names that a for's source gets hold of -/
def escS : Src → List Nat
  | .seq a => esc a
  | .rng a => esc a
  | .rng2 a b => esc a ++ esc b
  | .enm a => esc a
  | .zip a b => esc a ++ esc b

/-! ### slots -/
def look : Env → Nat → Cell
  | [], _ => .un
  | c :: _, 0 => c
  | _ :: r, i + 1 => look r i
def put : Env → Nat → Cell → Env
  | [], _, _ => []
  | _ :: r, 0, c => c :: r
  | x :: r, i + 1, c => x :: put r i c
def frz : Cell → Cell
  | .own ds => .val (.lst ds)
  | c => c
def frzAll : Env → List Nat → Env
  | ρ, [] => ρ
  | ρ, i :: r => frzAll (put ρ i (frz (look ρ i))) r
def unset : Env → List Nat → Env
  | ρ, [] => ρ
  | ρ, i :: r => unset (put ρ i .un) r
mutual
def asgT : Tg → D → Env → Option Env
  | .nm i, d, ρ => if i < ρ.length then some (put ρ i (.val d)) else none
  | .tp gs, d, ρ => match d with
    | .tup xs => asgTs gs xs ρ
    | _ => none
def asgTs : Tgs → List D → Env → Option Env
  | .nil, [], ρ => some ρ
  | .cons g r, x :: xs, ρ => (asgT g x ρ).bind fun ρ => asgTs r xs ρ
  | _, _, _ => none
end
/-- the value of a name that gets out -/
def valOf : Cell → Option D
  | .val d => some d
  | _ => none
/-- .. that is looked at -/
def peek : Cell → Option D
  | .val d => some d
  | .own ds => some (.lst ds)
  | .loan ds => some (.lst ds)
  | .un => none

/-- the turns of a comprehension; ck: what is walked still stands as it was -/
def compL (ck : T → Bool) (f : D → T → R (Option D)) : List D → T → R (List D)
  | [], t => if ck t then .ok [] t else .no
  | x :: xs, t => if ck t then bnd (f x t) fun o t => bnd (compL ck f xs t) fun r t => .ok (match o with | some d => d :: r | none => r) t else .no
/-- items, where a name may hold a list of the table -/
def itemsS (a : E) (t : T) (x : D) : Option (List D) :=
  match x with
  | .obj n => match a with
    | .var _ => match t[n]? with
      | some (.lst xs) => some xs
      | _ => none
    | _ => none
  | x => items x
/-- a list of the table stands as it was -/
def ckO (n : Nat) (xs : List D) (t : T) : Bool := match t[n]? with
  | some (.lst ys) => dEqs ys xs
  | _ => false
def ckC (x : Cell) (xs : List D) : T → Bool := match x with
  | .val (.obj n) => ckO n xs
  | _ => fun _ => true
def ckS (s : Src) (ρ : Env) (xs : List D) : T → Bool := match s with
  | .seq (.var i) => ckC (look ρ i) xs
  | _ => fun _ => true

/-- the calls: function (index), class (index) made -/
structure Calls where
  fn : Nat → List D → T → R D
  cn : Nat → List D → T → R D

/-- an operand: a name is only looked at -/
def opd (e : E) (ρ : Env) (t : T) (r : R D) : R D :=
  match e with
  | .var i => ofO (peek (look ρ i)) t
  | _ => r

/-- an operand of what is walked: looked at, or got out -/
def opn (pk : Bool) (e : E) (ρ : Env) (t : T) (r : R D) : R D := if pk then opd e ρ t r else r

def fldD (t : T) (f : Nat) : D → Option D
  | .obj n => match t[n]? with
    | some (.ins _ fs) => fs.lookup f
    | _ => none
  | _ => none
def isIns (t : T) (c : Nat) : D → Bool
  | .obj n => match t[n]? with
    | some (.ins k _) => k == c
    | _ => false
  | _ => false

def isDct (t : T) (x : D) : Bool := (dctOf t x).isSome

section
variable (cl : Calls)
mutual
def ev : E → Env → T → R D
  | .var i, ρ, t => ofO (valOf (look ρ i)) t
  | .kon d, _, t => .ok d t
  | .glb _ d, _, t => .ok d t
  | .bin o a b, ρ, t => bnd (opd a ρ t (ev a ρ t)) fun x t => bnd (opd b ρ t (ev b ρ t)) fun y t => ofO (binD o x y) t
  | .neg a, ρ, t => bnd (opd a ρ t (ev a ρ t)) fun x t => match x with
    | .int i => .ok (.int (-i)) t
    | _ => .no
  | .cmp o a b, ρ, t => bnd (opd a ρ t (ev a ρ t)) fun x t => bnd (opd b ρ t (ev b ρ t)) fun y t => ofO (cmpD t o x y) t
  | .chn o p a b c, ρ, t => bnd (opd a ρ t (ev a ρ t)) fun x t => bnd (opd b ρ t (ev b ρ t)) fun y t => bnd (ofO (cmpD t o x y) t) fun k t =>
    match k with
    | .bl true => bnd (opd c ρ t (ev c ρ t)) fun z t => ofO (cmpD t p y z) t
    | .bl false => .ok (.bl false) t
    | _ => .no
  | .and es, ρ, t => evAnd es ρ t
  | .or es, ρ, t => evOr es ρ t
  | .not a, ρ, t => bnd (opd a ρ t (ev a ρ t)) fun x t => bnd (ofO (truthD t x) t) fun k t => .ok (.bl (!k)) t
  | .ife c a b, ρ, t => bnd (evT c ρ t) fun k t => if k then ev a ρ t else ev b ρ t
  | .call f as, ρ, t => bnd (evs as ρ t) fun xs t => cl.fn f xs t
  | .callk f pm as ks, ρ, t => bnd (evs as ρ t) fun xs t => bnd (evs ks ρ t) fun ys t => cl.fn f (xs ++ pm.map fun k => ys.getD k .non) t
  | .mth c m o as, ρ, t => bnd (ev o ρ t) fun x t => if isIns t c x then bnd (evs as ρ t) fun xs t => cl.fn m (x :: xs) t else .no
  | .mk c as, ρ, t => bnd (evs as ρ t) fun xs t => cl.cn c xs t
  | .b1 b a, ρ, t => bnd (opd a ρ t (ev a ρ t)) fun x t => ofO (b1D t b x) t
  | .b2 b a c, ρ, t => bnd (opd a ρ t (ev a ρ t)) fun x t => bnd (opd c ρ t (ev c ρ t)) fun y t => ofO (b2D b x y) t
  | .isi k a, ρ, t => bnd (opd a ρ t (ev a ρ t)) fun x t => ofO ((isiD t k x).map .bl) t
  | .ix a i, ρ, t => bnd (opd a ρ t (ev a ρ t)) fun x t => bnd (opd i ρ t (ev i ρ t)) fun y t => ofO (ixD t x y) t
  | .sl a lo hi, ρ, t => bnd (opd a ρ t (ev a ρ t)) fun x t => bnd (evP lo ρ t) fun l t => bnd (evP hi ρ t) fun h t => ofO (cutD l h x) t
  | .lst es, ρ, t => bnd (evs es ρ t) fun xs t => .ok (.lst xs) t
  | .tup es, ρ, t => bnd (evs es ρ t) fun xs t => .ok (.tup xs) t
  | .newL es, ρ, t => bnd (evs es ρ t) fun xs t => .ok (.obj t.length) (t ++ [.lst xs])
  | .newD k, _, t => .ok (.obj t.length) (t ++ [.dct k []])
  | .lobj a, ρ, t => bnd (opd a ρ t (ev a ρ t)) fun x t => match b1D t .list x with
    | some (.lst xs) => .ok (.obj t.length) (t ++ [.lst xs])
    | _ => .no
  | .dsp ks es, ρ, t => bnd (evs es ρ t) fun xs t => .ok (.obj t.length) (t ++ [.dct false (ks.zip xs)])
  | .mkk c pm as ks, ρ, t => bnd (evs as ρ t) fun xs t => bnd (evs ks ρ t) fun ys t => cl.cn c (xs ++ pm.map fun k => ys.getD k .non) t
  | .dm m o as, ρ, t => bnd (ev o ρ t) fun x t => if isDct t x then bnd (evs as ρ t) fun ys t => okP (dmD t m x ys) else .no
  | .comp s g own c e, ρ, t => bnd (evSrc s true ρ t) fun xs t => bnd (compL (ckS s ρ xs) (fun x t =>
      match asgT g x (unset ρ own) with
      | none => .no
      | some ρ => bnd (evT c ρ t) fun k t => if k then bnd (ev e ρ t) fun d t => .ok (some d) t else .ok none t) xs t) fun ds t => .ok (.lst ds) t
  | .join a, ρ, t => bnd (opd a ρ t (ev a ρ t)) fun x t => match seqs x with
    | some xs => ofO ((strsOf xs).bind fun ss => if ss.flatten.length ≤ sz then some (.str ss.flatten) else none) t
    | none => .no
  | .fld o f, ρ, t => bnd (ev o ρ t) fun x t => ofO (fldD t f x) t
  | .never, _, _ => .no
def evT : Tt → Env → T → R Bool
  | .yes, _, t => .ok true t
  | .not u, ρ, t => bnd (evT u ρ t) fun k t => .ok (!k) t
  | .and ts, ρ, t => evTAnd ts ρ t
  | .or ts, ρ, t => evTOr ts ρ t
  | .val e, ρ, t => bnd (opd e ρ t (ev e ρ t)) fun x t => ofO (truthD t x) t
def evTAnd : Tts → Env → T → R Bool
  | .nil, _, t => .ok true t
  | .cons u r, ρ, t => bnd (evT u ρ t) fun k t => if k then evTAnd r ρ t else .ok false t
def evTOr : Tts → Env → T → R Bool
  | .nil, _, t => .ok false t
  | .cons u r, ρ, t => bnd (evT u ρ t) fun k t => if k then .ok true t else evTOr r ρ t
def evAnd : Es → Env → T → R D
  | .nil, _, _ => .no
  | .cons e r, ρ, t => match r with
    | .nil => ev e ρ t
    | _ => bnd (ev e ρ t) fun x t => bnd (ofO (truthD t x) t) fun k t => if k then evAnd r ρ t else .ok x t
def evOr : Es → Env → T → R D
  | .nil, _, _ => .no
  | .cons e r, ρ, t => match r with
    | .nil => ev e ρ t
    | _ => bnd (ev e ρ t) fun x t => bnd (ofO (truthD t x) t) fun k t => if k then .ok x t else evOr r ρ t
def evs : Es → Env → T → R (List D)
  | .nil, _, t => .ok [] t
  | .cons e r, ρ, t => bnd (ev e ρ t) fun x t => bnd (evs r ρ t) fun xs t => .ok (x :: xs) t
/-- an end of a slice -/
def evP : Es → Env → T → R (Option Int)
  | .nil, _, t => .ok none t
  | .cons e _, ρ, t => bnd (ev e ρ t) fun x t => match x with
    | .int i => .ok (some i) t
    | _ => .no
def evSrc : Src → Bool → Env → T → R (List D)
  | .seq a, pk, ρ, t => bnd (opn pk a ρ t (ev a ρ t)) fun x t => ofO (itemsS a t x) t
  | .rng a, pk, ρ, t => bnd (opn pk a ρ t (ev a ρ t)) fun x t => match x with
    | .int n => if n ≤ 1000000 ∧ -1000000 ≤ n then .ok (range0 n) t else .no
    | _ => .no
  | .rng2 a b, pk, ρ, t => bnd (opn pk a ρ t (ev a ρ t)) fun x t => bnd (opn pk b ρ t (ev b ρ t)) fun y t => match x, y with
    | .int m, .int n => if n ≤ 1000000 ∧ -1000000 ≤ n ∧ m ≤ 1000000 ∧ -1000000 ≤ m then .ok (range2 m n) t else .no
    | _, _ => .no
  | .enm a, pk, ρ, t => bnd (opn pk a ρ t (ev a ρ t)) fun x t => match x with
    | .lst xs => .ok (enumF 0 xs) t
    | _ => .no
  | .zip a b, pk, ρ, t => bnd (opn pk a ρ t (ev a ρ t)) fun x t => bnd (opn pk b ρ t (ev b ρ t)) fun y t => match x, y with
    | .lst xs, .lst ys => .ok (zipD xs ys) t
    | .tup xs, .tup ys => .ok (zipD xs ys) t
    | _, _ => .no
end
end

/-! ### statements -/
inductive Out where
  | nx (ρ : Env) (t : T)
  | ret (d : D) (t : T)
  | brk (ρ : Env) (t : T)
  | cont (ρ : Env) (t : T)
  | ex (c : Nat) (as : List D) (t : T)
  | no
def bo {α : Type} (r : R α) (k : α → T → Out) : Out :=
  match r with
  | .ok a t => k a t
  | .ex c as t => .ex c as t
  | .no => .no
@[simp] theorem bo_ok {α : Type} (a : α) (t : T) (k : α → T → Out) : bo (.ok a t) k = k a t := rfl
@[simp] theorem bo_ex {α : Type} (c : Nat) (as : List D) (t : T) (k : α → T → Out) : bo (.ex c as t) k = .ex c as t := rfl
@[simp] theorem bo_no {α : Type} (k : α → T → Out) : bo (.no : R α) k = .no := rfl

/-- a list that no one else holds -/
def fresh : E → Bool
  | .bin _ _ _ => true
  | .sl _ _ _ => true
  | .lst _ => true
  | .comp _ _ _ _ _ => true
  | .b1 b _ => b == .list || b == .sorted || b == .lrange
  | _ => false
def cellOf (fr : Bool) (d : D) : Cell :=
  match fr, d with
  | true, .lst ds => .own ds
  | _, d => .val d
/-- a changed list, and what the method gives -/
def muD : Mu → List D → List D → Option (List D)
  | .append, ds, [x] => if ds.length < sz then some (ds ++ [x]) else none
  | .insert, ds, [.int i, x] => if ds.length < sz ∧ 0 ≤ i ∧ i ≤ ds.length then some (ds.take i.toNat ++ x :: ds.drop i.toNat) else none
  | .pop, ds, [] => if ds.length = 0 then none else some ds.dropLast
  | .popAt, ds, [.int i] => (ixN ds.length i).map fun k => ds.eraseIdx k
  | .remove, ds, [.int i] => (intsOf ds).bind fun ns => if i ∈ ns then some ((ns.erase i).map .int) else none
  | .extend, ds, [.lst xs] => if ds.length + xs.length ≤ sz then some (ds ++ xs) else none
  | .reverse, ds, [] => some ds.reverse
  | _, _, _ => none
def setOb (t : T) (n : Nat) (i d : D) : Option T :=
  match t[n]? with
  | some (.lst xs) => match i with
    | .int k => (ixN xs.length k).map fun j => t.set n (.lst (xs.set j d))
    | _ => none
  | some (.dct k kvs) => if keyB k i && decide (kvs.length < sz) then some (t.set n (.dct k (dput i d kvs))) else none
  | _ => none
def fput (f : Nat) (d : D) : List (Nat × D) → List (Nat × D)
  | [] => [(f, d)]
  | (g, x) :: r => if f = g then (f, d) :: r else (g, x) :: fput f d r
section
variable (cl : Calls)
/-- the turns of a for: f stores the item and does the body -/
def forL (ck : T → Bool) (f : D → Env → T → Out) (fg : List Nat) : List D → Env → T → Out
  | [], ρ, t => if ck t then .nx ρ t else .no
  | x :: xs, ρ, t => if ck t then (match f x ρ t with
    | .nx ρ' t' => forL ck f fg xs (unset ρ' fg) t'
    | .cont ρ' t' => forL ck f fg xs (unset ρ' fg) t'
    | .brk ρ' t' => .nx (unset ρ' fg) t'
    | o => o) else .no
def whlL (c : Env → T → R Bool) (f : Env → T → Out) (fz fg : List Nat) : Nat → Env → T → Out
  | 0, _, _ => .no
  | k + 1, ρ, t => bo (c (frzAll ρ fz) t) fun b t => if b then
      match f (frzAll ρ fz) t with
      | .nx ρ' t' => whlL c f fz fg k (unset ρ' fg) t'
      | .cont ρ' t' => whlL c f fz fg k (unset ρ' fg) t'
      | .brk ρ' t' => .nx (unset ρ' fg) t'
      | o => o
    else .nx (frzAll ρ fz) t
def isVar : E → Option Nat
  | .var k => some k
  | _ => none
def setX (ρ : Env) (t : T) (x j d : D) : Out :=
  match x with
  | .obj n => match setOb t n j d with
    | some t => .nx ρ t
    | none => .no
  | _ => .no
def setO (ρ : Env) (t : T) (k : Nat) (ds : List D) (j d : D) : Out :=
  match j with
  | .int j => match ixN ds.length j with
    | some m => .nx (put ρ k (.own (ds.set m d))) t
    | none => .no
  | _ => .no
def setK (ρ : Env) (t : T) (k : Option Nat) (x j d : D) : Out :=
  match k with
  | some k => match look ρ k with
    | .own ds => setO ρ t k ds j d
    | _ => setX ρ t x j d
  | none => setX ρ t x j d
def setFK (ρ : Env) (t : T) (x : D) (f : Nat) (d : D) : Out :=
  match x with
  | .obj n => match t[n]? with
    | some (.ins c fs) => if fs.length < 999 then .nx ρ (t.set n (.ins c (fput f d fs))) else .no
    | _ => .no
  | _ => .no
def augK (ρ : Env) (t : T) (i : Nat) (o : Bo) (x : Int) (y : D) : Out :=
  match y with
  | .int y => match o with
    | .add => .nx (put ρ i (.val (.int (x + y)))) t
    | .sub => .nx (put ρ i (.val (.int (x - y)))) t
    | _ => .no
  | _ => .no
def mutK (ρ : Env) (t : T) (m : Mu) (i : Nat) (xs : List D) : Out :=
  match look ρ i with
  | .own ds => match muD m ds xs with
    | some ds => .nx (put ρ i (.own ds)) t
    | none => .no
  | .val (.obj n) => match t[n]? with
    | some (.lst ds) => match m with
      | .remove => .no
      | m => match muD m ds xs with
        | some ds => .nx ρ (t.set n (.lst ds))
        | none => .no
    | _ => .no
  | _ => .no
/-- an object that is to be changed is a list -/
def mutOk (x : Cell) (t : T) : Bool := match x with
  | .val (.obj n) => match t[n]? with
    | some (.lst _) => true
    | _ => false
  | _ => true
def asgK (fr : Bool) (g : Tg) (ρ : Env) (d : D) (t : T) : Out :=
  match g with
  | .nm i => if i < ρ.length then .nx (put ρ i (cellOf fr d)) t else .no
  | .tp gs => match asgT (.tp gs) d ρ with
    | some ρ => .nx ρ t
    | none => .no
def forK (g : Tg) (f : Env → T → Out) (x : D) (ρ : Env) (t : T) : Out :=
  match asgT g x ρ with
  | some ρ => f ρ t
  | none => .no
def thenK (o : Out) (f : Env → T → Out) : Out :=
  match o with
  | .nx ρ t => f ρ t
  | o => o
mutual
def exec : S → Env → T → Out
  | .asg g e, ρ, t => bo (ev cl e (frzAll ρ (esc e)) t) fun d t => asgK (fresh e) g (frzAll ρ (esc e)) d t
  | .setI o i e, ρ, t => bo (ev cl e (frzAll ρ (esc e ++ esO i)) t) fun d t => bo (opd o (frzAll ρ (esc e ++ esO i)) t (ev cl o (frzAll ρ (esc e ++ esO i)) t)) fun x t =>
    bo (opd i (frzAll ρ (esc e ++ esO i)) t (ev cl i (frzAll ρ (esc e ++ esO i)) t)) fun j t => setK (frzAll ρ (esc e ++ esO i)) t (isVar o) x j d
  | .setF o f e, ρ, t => bo (ev cl e (frzAll ρ (esc e)) t) fun d t => bo (ev cl o (frzAll ρ (esc e)) t) fun x t => setFK (frzAll ρ (esc e)) t x f d
  | .aug i o e, ρ, t => match look (frzAll ρ (esc e)) i with
    | .val (.int x) => bo (ev cl e (frzAll ρ (esc e)) t) fun y t => augK (frzAll ρ (esc e)) t i o x y
    | _ => .no
  | .mut m i es, ρ, t => if mutOk (look (frzAll ρ (escs es)) i) t then bo (evs cl es (frzAll ρ (escs es)) t) fun xs t => mutK (frzAll ρ (escs es)) t m i xs else .no
  | .ifs c a b, ρ, t => bo (evT cl c (frzAll ρ (esT c)) t) fun k t => if k then execs a (frzAll ρ (esT c)) t else execs b (frzAll ρ (esT c)) t
  | .for g s b fg, ρ, t => bo (evSrc cl s false (frzAll ρ (escS s)) t) fun xs t => forL (ckS s (frzAll ρ (escS s)) xs) (forK g fun ρ t => execs b ρ t) fg xs (frzAll ρ (escS s)) t
  | .whl k c b fg, ρ, t => whlL (fun ρ t => evT cl c ρ t) (fun ρ t => execs b ρ t) (esT c) fg k ρ t
  | .ret e, ρ, t => bo (ev cl e (frzAll ρ (esc e)) t) fun d t => .ret d t
  | .retn, _, t => .ret .non t
  | .brk, ρ, t => .brk ρ t
  | .cont, ρ, t => .cont ρ t
  | .exp e, ρ, t => bo (ev cl e (frzAll ρ (esc e)) t) fun _ t => .nx (frzAll ρ (esc e)) t
  | .rai c es, ρ, t => bo (evs cl es (frzAll ρ (escs es)) t) fun xs t => .ex c xs t
  | .fg is, ρ, t => .nx (unset ρ is) t
  | .pas, ρ, t => .nx ρ t
  | .never, _, _ => .no
def execs : Ss → Env → T → Out
  | .nil, ρ, t => .nx ρ t
  | .cons s r, ρ, t => thenK (exec s ρ t) fun ρ t => execs r ρ t
end
end

/-! ### the program -/
structure Fn where
  name : String
  cls : Option Nat
  N : List String
  np : Nat
  body : Ss
  gc : Nat
structure Cls where
  name : String
  init : Nat
structure Prg where
  fns : List Fn
  cls : List Cls
  flds : List String
  cons : List (String × D)

-- objects below n alone
mutual
def low (n : Nat) : D → Bool
  | .obj k => decide (k < n)
  | .tup xs => lows n xs
  | .lst xs => lows n xs
  | _ => true
def lows (n : Nat) : List D → Bool
  | [] => true
  | x :: r => low n x && lows n r
end
def lowO (n : Nat) : Ob → Bool
  | .lst xs => lows n xs
  | .dct _ kvs => kvs.all fun p => low n p.1 && low n p.2
  | .ins _ fs => fs.all fun p => low n p.2
/-- what a def made for itself alone is forgotten -/
def sweep (gc : Bool) (n : Nat) (d : D) (t : T) : R D :=
  if gc then (if low n d && (t.take n).all (lowO n) then .ok d (t.take n) else .no) else .ok d t
def outR (gc : Bool) (n : Nat) (o : Out) : R D :=
  match o with
  | .nx _ t' => sweep gc n .non t'
  | .ret d t' => sweep gc n d t'
  | .ex c as t' => .ex c as t'
  | _ => .no
/-- a def that knows no object of the table: it has a table of its own -/
def outF (t : T) (o : Out) : R D :=
  match o with
  | .nx _ _ => .ok .non t
  | .ret d _ => if low 0 d then .ok d t else .no
  | _ => .no
/-- gc: 0: plain; 1: what it made is forgotten; 2: a table of its own -/
def runF (cl : Calls) (f : Fn) (as : List D) (t : T) : R D :=
  if as.length = f.np then
    match f.gc with
    | 2 => if lows 0 as then outF t (execs cl f.body (as.map .val ++ List.replicate (f.N.length - as.length) .un) []) else .no
    | k => outR (k == 1) t.length (execs cl f.body (as.map .val ++ List.replicate (f.N.length - as.length) .un) t)
  else .no
/-- the object is made, then __init__ is run -/
def mkC (P : Prg) (fn : Nat → List D → T → R D) (c : Nat) (as : List D) (t : T) : R D :=
  match P.cls[c]? with
  | some k => bnd (fn k.init (.obj t.length :: as) (t ++ [.ins c []])) fun d t' => match d with
    | .non => .ok (.obj t.length) t'
    | _ => .no
  | none => .no
def call (P : Prg) : Nat → Nat → List D → T → R D
  | 0, _, _, _ => .no
  | n + 1, i, as, t => match P.fns[i]? with
    | some f => runF ⟨fun j as t => call P n j as t, fun c as t => mkC P (fun j as t => call P n j as t) c as t⟩ f as t
    | none => .no
end Pd
set_option Elab.async false
set_option linter.all false
set_option maxRecDepth 100000
set_option autoImplicit false
/-! Pd: len(set(texts)), list(range(n)), tuple(range(n)). -/
namespace Pd
open PySem PySem.Spec PyProof.Rows L2 TL Bits

def onceP (σ : List PySem.Str) (v : PySem.Str) : List PySem.Str := if σ.any (· == v) then σ else σ ++ [v]
theorem onceP_any (σ : List PySem.Str) (v k : PySem.Str) : (onceP σ v).any (· == k) = (σ.any (· == k) || decide (k = v)) := by
  unfold onceP
  by_cases h : σ.any (· == v) = true
  · rw [if_pos h]
    by_cases e : k = v
    · subst e; rw [h]; simp
    · simp [e]
  · rw [if_neg h, List.any_append]
    by_cases e : k = v
    · subst e; simp
    · have hb : (v == k) = false := by simpa [beq_iff_eq] using (fun h' : v = k => e h'.symm)
      simp [hb, e]
theorem onceP_length (σ : List PySem.Str) (v : PySem.Str) : (onceP σ v).length = if σ.any (· == v) then σ.length else σ.length + 1 := by
  unfold onceP; split <;> simp
def metP (xs : List PySem.Str) (i : Nat) : List PySem.Str := (xs.take i).foldl onceP []
theorem metP_succ {xs : List PySem.Str} {i : Nat} (h : i < xs.length) : metP xs (i + 1) = onceP (metP xs i) (xs.getD i Str.empty) := by
  unfold metP
  have e : xs.take (i + 1) = xs.take i ++ [xs[i]] := by simp
  rw [e, List.foldl_append, List.getD_eq_getElem?_getD, List.getElem?_eq_getElem h]
  rfl
theorem metP_le (xs : List PySem.Str) : ∀ i, (metP xs i).length ≤ i
  | 0 => by simp [metP]
  | i + 1 => by
    by_cases h : i < xs.length
    · rw [metP_succ h, onceP_length]
      have := metP_le xs i
      split <;> omega
    · have e : metP xs (i + 1) = metP xs i := by
        unfold metP
        rw [List.take_of_length_le (by omega), List.take_of_length_le (by omega)]
      have := metP_le xs i
      rw [e]; omega
section
variable {prog : Program} {w : World} {A : Around} {R : Result → Shared → Prop} {I : Addr} {fp wr : List Addr} {G : Array GenState → Array GenState → Prop} {n : Nat} {P : Nat → Value → Prop} {St : Nat → Shared → Prop}
theorem loopP (W : WalksS prog w A.in1 I fp wr G n P St) (S : Addr) (hSf : S ∉ fp) (xs : List PySem.Str) (hsz : xs.length = n) (hb : n + 1 < scanBound)
    (hval : ∀ i v, P i v → ∃ t, v = .str (xs.getD i Str.empty) t) :
    ∀ (k i : Nat) (s : Shared), n - i = k → i ≤ n → St i s →
      s.heap.SetOf (PySem.strKind prog w) S (fun k' => (metP xs i).any (· == k')) (metP xs i).length →
      (∀ s', Moved (S :: wr) G s s' → s'.heap.SetOf (PySem.strKind prog w) S (fun k' => (metP xs n).any (· == k')) (metP xs n).length → R (.ok (.ret .none)) s') →
      codeAny (model prog w) A (.builtin "set.update.loop" ⟨[.ref S, .ref I], []⟩) R s := by
  have hSw : S ∉ wr := fun h => hSf (W.sub _ h)
  have hsub : ∀ b ∈ wr, b ∈ S :: wr := fun b hb => List.mem_cons_of_mem _ hb
  intro k
  induction k with
  | zero =>
    intro i s hk hi hst hS hR
    have hin : i = n := by omega
    subst hin
    refine codeAny_builtin PyProof.Rows.F.entry_set_update_loop ?_
    rw [Around.under_plainId PyProof.Rows.F.plain_set_update_loop _]
    show wpAny _ A.in1 (pyNext (.ref I) >>= _) _ _ s
    refine wpAny_bind (W.done s _ _ hst fun s' hm => ?_)
    show wpAny _ A.in1 (ret Value.none) _ _ s'
    exact wpAny_pure (hR s' (hm.mono hsub) (by
      obtain ⟨o, es, ep, t, ho, rest⟩ := hS
      exact ⟨o, es, ep, t, hm.heap S _ hSw ho, rest⟩))
  | succ k ih =>
    intro i s hk hi hst hS hR
    have hlt : i < n := by omega
    refine codeAny_builtin PyProof.Rows.F.entry_set_update_loop ?_
    rw [Around.under_plainId PyProof.Rows.F.plain_set_update_loop _]
    show wpAny _ A.in1 (pyNext (.ref I) >>= _) _ _ s
    refine wpAny_bind (W.item i s _ _ hlt hst fun v s' hP hst' hm => ?_)
    obtain ⟨t, rfl⟩ := hval i v hP
    have hS' : s'.heap.SetOf (PySem.strKind prog w) S (fun k' => (metP xs i).any (· == k')) (metP xs i).length := by
      obtain ⟨o, es, ep, tb, ho, rest⟩ := hS
      exact ⟨o, es, ep, tb, hm.heap S _ hSw ho, rest⟩
    show wpAny _ A.in1 (holding [Value.str (xs.getD i Str.empty) t] (setAdd S (.str (xs.getD i Str.empty) t)) >>= _) _ _ s'
    refine wpAny_bind (wpAny_holding ?_)
    unfold setAdd
    refine wpAny_holding ?_
    refine wpAny_bind ((PySem.strKind prog w).pyHash (k := xs.getD i Str.empty) (strKind_is _ _ _ _) ?_)
    have hroom : (metP xs i).length + 1 < scanBound := by have := metP_le xs i; omega
    refine wpAny_setAddHashed_of (knd := PySem.strKind prog w) (s := { s' with toks := s'.toks + 1 }) (strKind_is _ _ _ _) rfl hS' hroom fun h' hsb hS2 => ?_
    have hSi : h'.SetOf (PySem.strKind prog w) S (fun k' => (metP xs (i + 1)).any (· == k')) (metP xs (i + 1)).length :=
      SetOf_congr hS2 (fun k' => by rw [metP_succ (by omega), onceP_any]) (by rw [metP_succ (by omega), onceP_length])
    refine wpAny_pure ⟨plainId_quiet PyProof.Rows.F.plain_set_update_loop _, ih (i + 1) _ (by omega) hlt (W.frame _ s' _ _ hst' (Nat.le_succ _) fun b hb o e => ?_) hSi fun s'' hm'' hS'' => ?_⟩
    · rw [hsb.2 b (fun h : b = S => hSf (by rw [← h]; exact hb))]; exact e
    · refine hR s'' (Moved.trans W.gtrans ((hm.mono hsub).then_heap (Nat.le_succ _) fun b o hb e => ?_) hm'') hS''
      rw [hsb.2 b (fun h : b = S => hb (by rw [h]; exact List.mem_cons_self))]; exact e
end
section
variable {prog : Program} {w : World} {A : Around} {E : Value → Shared → Prop} {s : Shared}
set_option maxHeartbeats 6400000 in
/-- set(xs) of a list or a tuple of texts, turned from the kit's proof for no text or one -/
theorem call_setP {l : Addr} {items : Array Value} {xs : List PySem.Str} {Q : Value → Shared → Prop}
    (hh : A.handled = none) (hl : s.heap.IsList l items ∨ s.heap.IsTuple l items) (hi : PyProof.Rows.StrsAre items.toList xs) (hb : items.size + 1 < scanBound)
    (h : ∀ (h' : Heap) (tk : Nat), h'.SetOf (PySem.strKind prog w) s.heap.objs.size (fun k' => (metP xs items.size).any (· == k')) (metP xs items.size).length →
      (∀ b o, b < s.heap.objs.size → s.heap.get? b = some o → h'.get? b = some o) → Q (.ref s.heap.objs.size) { s with heap := h', toks := tk }) :
    wpAny (model prog w) A (PySem.call (.type "set") [.ref l]) Q E s := by
  obtain ⟨c, tl, hmro⟩ := PySem.F.called_set.mro
  have hmade := PySem.F.called_set.made
  have hsub := PySem.F.called_set.sub
  refine wpAny_call (codeAny_of_tree ?_)
  show wpAny _ _ (callAny (.type "set") _) _ _ _
  refine wpAny_pure ⟨Code.quiet_builtin _ (by decide +kernel), codeAny_builtin PySem.F.entry_type_call ?_⟩
  rw [Around.under_plain (weight_type_call_type "set" [.ref l] []) rfl]
  have h1 := PySem.F.called_set.notType
  have h2 := PySem.F.called_set.canCreate
  have hct := PySem.F.typeCall_set_1 (.ref l)
  repeat (any_goals (first | assumption | wp_step))
  refine codeAny_mono (code_set_new_1 (.ref l) (E := E) (Q₁ := fun obj s₁ => ∃ led : Bool, obj = .ref s.heap.objs.size ∧ s₁ = { s with heap := s.heap.push { cls := .type "set", dict := none, data := .set #[] 0 (.fresh 0 0 led) } }) fun led => ⟨led, rfl, rfl⟩) fun r s₁ hr => ?_
  cases r with
  | error e => exact hr
  | ok fl =>
    cases fl with
    | ret obj =>
      obtain ⟨led, rfl, rfl⟩ := hr
      have hS : (s.heap.push { cls := .type "set", dict := none, data := .set #[] 0 (.fresh 0 0 led) }).get? s.heap.objs.size = some { cls := .type "set", dict := none, data := .set #[] 0 (.fresh 0 0 led) } := Heap.get?_push_size _ rfl
      have hT : Shared.TypeIs { s with heap := s.heap.push { cls := .type "set", dict := none, data := .set #[] 0 (.fresh 0 0 led) } } (.ref s.heap.objs.size) "set" := ⟨_, hS, rfl⟩
      have hli := PySem.F.called_set.init.lookup
      have hbi := PySem.F.called_set.init.bind (.ref s.heap.objs.size)
      repeat (any_goals (first | assumption | wp_step))
      have hsz : xs.length = items.size := by rw [← StrsAre.len_eq hi, Array.length_toList]
      have hval : ∀ (i : Nat) (v : Value), items[i]? = some v → ∃ t, v = .str (xs.getD i Str.empty) t := fun i v hv => SS.strs_at hi i v (by rw [Array.getElem?_toList]; exact hv)
      have hh3 : A.in1.in1.in1.handled = none := by simp [hh]
      have fin : ∀ s', Moved [s.heap.objs.size, (s.heap.push { cls := .type "set", dict := none, data := .set #[] 0 (.fresh 0 0 led) }).objs.size] (· = ·) { s with heap := (s.heap.push { cls := .type "set", dict := none, data := .set #[] 0 (.fresh 0 0 led) }) } s' → True := fun _ _ => trivial
      refine codeAny_mono (codeAny_call_builtin (R := wants (fun r s₂ => r = .none ∧ ∃ h' tk, s₂ = { s with heap := h', toks := tk } ∧
          h'.SetOf (PySem.strKind prog w) s.heap.objs.size (fun k' => (metP xs items.size).any (· == k')) (metP xs items.size).length ∧
          (∀ b o, b < s.heap.objs.size → s.heap.get? b = some o → h'.get? b = some o)) E) PySem.F.called_set.init.plain PySem.F.entry_set_init (check_set_init_1 hT ?_)) fun r₂ s₂ hr₂ => ?_
      · rcases hl with hl | hl
        · obtain ⟨ol, hol, hcl, nl, hdl⟩ := hl
          obtain ⟨ocls, odict, odata, oslots⟩ := ol
          simp only at hcl hdl
          subst hcl; subst hdl
          have hol' : (s.heap.push { cls := .type "set", dict := none, data := .set #[] 0 (.fresh 0 0 led) }).get? l = some { cls := .type "list", dict := odict, data := .seq items nl, slots := oslots } := Heap.get?_push_of_some _ hol
          have hsls := PySem.F.sub_list_set
          have hslf := PySem.F.sub_list_frozenset
          have hne : (Value.type "list" == Value.type "dict") = false := by decide
          have hl1 : (s.heap.push { cls := .type "set", dict := none, data := .set #[] 0 (.fresh 0 0 led) }).IsList l items := ⟨_, hol', rfl, nl, rfl⟩
          unfold Builtin.«set.__init__» noKeywords Builtin.Frozenset.updateFrom
          generalize hPI : pyIter = PI
          wp_walk
          subst hPI
          refine wpAny_pyIter_list hl1 ?_
          refine wpAny_bind (wpAny_runValue ?_)
          have hlS : l < s.heap.objs.size := Heap.lt_size hol
          have hneI : l ≠ (s.heap.push { cls := .type "set", dict := none, data := .set #[] 0 (.fresh 0 0 led) }).objs.size := by
            rw [Heap.size_push]; exact Nat.ne_of_lt (Nat.lt_succ_of_lt hlS)
          have hSf : s.heap.objs.size ∉ [(s.heap.push { cls := .type "set", dict := none, data := .set #[] 0 (.fresh 0 0 led) }).objs.size, l] := by
            rw [Heap.size_push]; simp only [List.mem_cons, List.mem_singleton, List.not_mem_nil, or_false, not_or]
            exact ⟨Nat.ne_of_lt (Nat.lt_succ_self _), Nat.ne_of_gt hlS⟩
          refine loopP ((Walks.list hh3 _ l hneI items).toS) s.heap.objs.size
            hSf xs hsz hb hval (items.size - 0) 0 _ (by omega) (Nat.zero_le _)
            ⟨⟨_, Heap.get?_push_size _ rfl, rfl, rfl⟩, (hl1.push _)⟩ ?hS0 ?hR
          case hS0 =>
            have hget : ((s.heap.push { cls := .type "set", dict := none, data := .set #[] 0 (.fresh 0 0 led) }).push { cls := .type "list_iterator", data := .fields #[.ref l, .int 0 0] }).get? s.heap.objs.size
                = some { cls := .type "set", dict := none, data := .set #[] 0 (.fresh 0 0 led) } := Heap.get?_push_of_some _ hS
            exact PyProof.Rows.SetOf_congr ((PyProof.Rows.setObjOf_fresh (knd := PySem.strKind prog w) led).setOf hget (by unfold scanBound; omega)) (fun _ => rfl) rfl
          case hR =>
            intro s' hm hS'
            obtain ⟨h', g', d', tk', os'⟩ := s'
            have eg : g' = s.gens := hm.gens
            have ed : d' = s.drawn := hm.drawn
            have eo : os' = s.os := hm.os
            subst eg; subst ed; subst eo
            show wpAny _ _ _ _ _ _
            refine wpAny_pure ?_
            show wpAny _ _ (ret Value.none) _ _ _
            refine wpAny_pure ⟨rfl, h', tk', rfl, hS', fun b o hb e => ?_⟩
            have hb1 : b ≠ s.heap.objs.size := Nat.ne_of_lt hb
            have hb2 : b ≠ (s.heap.push { cls := .type "set", dict := none, data := .set #[] 0 (.fresh 0 0 led) }).objs.size := by
              rw [Heap.size_push]; exact Nat.ne_of_lt (Nat.lt_succ_of_lt hb)
            exact hm.heap b o (by simp only [List.mem_cons, List.mem_singleton, List.not_mem_nil, or_false, not_or]; exact ⟨hb1, hb2⟩) (Heap.get?_push_of_some _ (Heap.get?_push_of_some _ e))
        · obtain ⟨ol, hol, hcl, nl, hdl⟩ := hl
          obtain ⟨ocls, odict, odata, oslots⟩ := ol
          simp only at hcl hdl
          subst hcl; subst hdl
          have hol' : (s.heap.push { cls := .type "set", dict := none, data := .set #[] 0 (.fresh 0 0 led) }).get? l = some { cls := .type "tuple", dict := odict, data := .seq items nl, slots := oslots } := Heap.get?_push_of_some _ hol
          have hsls := PySem.F.sub_tuple_set
          have hslf := PySem.F.sub_tuple_frozenset
          have hne : (Value.type "tuple" == Value.type "dict") = false := by decide
          have hl1 : (s.heap.push { cls := .type "set", dict := none, data := .set #[] 0 (.fresh 0 0 led) }).IsTuple l items := ⟨_, hol', rfl, nl, rfl⟩
          unfold Builtin.«set.__init__» noKeywords Builtin.Frozenset.updateFrom
          generalize hPI : pyIter = PI
          wp_walk
          subst hPI
          refine wpAny_pyIter_tuple hl1 ?_
          refine wpAny_bind (wpAny_runValue ?_)
          have hlS : l < s.heap.objs.size := Heap.lt_size hol
          have hneI : l ≠ (s.heap.push { cls := .type "set", dict := none, data := .set #[] 0 (.fresh 0 0 led) }).objs.size := by
            rw [Heap.size_push]; exact Nat.ne_of_lt (Nat.lt_succ_of_lt hlS)
          have hSf : s.heap.objs.size ∉ [(s.heap.push { cls := .type "set", dict := none, data := .set #[] 0 (.fresh 0 0 led) }).objs.size, l] := by
            rw [Heap.size_push]; simp only [List.mem_cons, List.mem_singleton, List.not_mem_nil, or_false, not_or]
            exact ⟨Nat.ne_of_lt (Nat.lt_succ_self _), Nat.ne_of_gt hlS⟩
          refine loopP ((Walks.tuple hh3 _ l hneI items).toS) s.heap.objs.size
            hSf xs hsz hb hval (items.size - 0) 0 _ (by omega) (Nat.zero_le _)
            ⟨⟨_, Heap.get?_push_size _ rfl, rfl, rfl⟩, (hl1.push _)⟩ ?hS0 ?hR
          case hS0 =>
            have hget : ((s.heap.push { cls := .type "set", dict := none, data := .set #[] 0 (.fresh 0 0 led) }).push { cls := .type "tuple_iterator", data := .fields #[.ref l, .int 0 0] }).get? s.heap.objs.size
                = some { cls := .type "set", dict := none, data := .set #[] 0 (.fresh 0 0 led) } := Heap.get?_push_of_some _ hS
            exact PyProof.Rows.SetOf_congr ((PyProof.Rows.setObjOf_fresh (knd := PySem.strKind prog w) led).setOf hget (by unfold scanBound; omega)) (fun _ => rfl) rfl
          case hR =>
            intro s' hm hS'
            obtain ⟨h', g', d', tk', os'⟩ := s'
            have eg : g' = s.gens := hm.gens
            have ed : d' = s.drawn := hm.drawn
            have eo : os' = s.os := hm.os
            subst eg; subst ed; subst eo
            show wpAny _ _ _ _ _ _
            refine wpAny_pure ?_
            show wpAny _ _ (ret Value.none) _ _ _
            refine wpAny_pure ⟨rfl, h', tk', rfl, hS', fun b o hb e => ?_⟩
            have hb1 : b ≠ s.heap.objs.size := Nat.ne_of_lt hb
            have hb2 : b ≠ (s.heap.push { cls := .type "set", dict := none, data := .set #[] 0 (.fresh 0 0 led) }).objs.size := by
              rw [Heap.size_push]; exact Nat.ne_of_lt (Nat.lt_succ_of_lt hb)
            exact hm.heap b o (by simp only [List.mem_cons, List.mem_singleton, List.not_mem_nil, or_false, not_or]; exact ⟨hb1, hb2⟩) (Heap.get?_push_of_some _ (Heap.get?_push_of_some _ e))
      · cases r₂ with
        | error e => exact hr₂
        | ok fl₂ =>
          cases fl₂ with
          | ret r =>
            obtain ⟨rfl, h', tk, rfl, hS', hk'⟩ := hr₂
            repeat (any_goals (first | assumption | wp_step))
            exact h _ _ hS' hk'
          | _ => exact hr₂.elim
    | _ => exact hr.elim
end
section
variable {X : Cx}
def tLenSetP (K : PySem.W.Frag) (ta : TE) : TE := fun σ H Q => ta σ H fun x H1 => ∃ (l : Addr) (xs : List PySem.Str), x = .ref l ∧ (SqL K H1 l (xs.map V.str) ∨ SqT K H1 l (xs.map V.str)) ∧ xs.length ≤ 1000 ∧ Q (.int ((metP xs xs.length).length : Nat)) H1
theorem pe_lenSetP {a : Expr} {ta : TE} {p p2 q pos : Pos} (hc : X.calm = true) (hg : Gl X "len") (hm : X.mg "len" = none) (hg2 : Gl X "set") (hm2 : X.mg "set" = none) (ha : PE X a ta)
    (na : starEach [a] X.env = (false, eval a X.env) :: starEach [] X.env) : PE X (.Call (.Name "len" p) [.Call (.Name "set" p2) [a] [] q] [] pos) (tLenSetP X.K ta) := by
  refine ⟨fun pins s σ H Q I h => Call_ (ld_blt I hg hm boot_len (PyProof.Rows.callWith_builtin1 (PyProof.Rows.args_cons (Call_ (ld_blt I hg2 hm2 boot_set (PyProof.Rows.callWith_type1 (PyProof.Rows.args_cons (thn (ha.run pins s σ H _ I h) fun v s1 hv => PyProof.Rows.args_nil ?_) na) na rfl))) rfl) rfl rfl))⟩
  obtain ⟨x, H1, I1, r1, l, xs, rfl, hq, h1, q1⟩ := hv
  cases r1
  have go : ∀ (its : List Value), Vals (xs.map V.str) its → (s1.heap.IsList l its.toArray ∨ s1.heap.IsTuple l its.toArray) → wpAny (model X.prog X.w) X.A (PySem.call (.type "set") [.ref l]) (fun v s₁ => wpAny (model X.prog X.w) X.A (spliced (backTo pos (starEach [] X.env))) (fun vs s₂ => wpAny (model X.prog X.w) X.A (PySem.call (.builtin "len") (v :: vs)) (EP X pins σ Q) X.xe s₂) X.xe s₁) X.xe s1 := fun its r hl => by
    have hz : its.toArray.size = xs.length := by rw [List.size_toArray, ← r.length, List.length_map]
    refine call_setP (I1.ok.hd hc) hl (by simpa using strsAre_of r) (by rw [hz]; unfold scanBound; omega) fun h' tk hS hk => PyProof.Rows.args_nil ?_
    rw [hz] at hS
    obtain ⟨o, es, ep, t, ho, hex, hd, _, _, _, hf, hn⟩ := hS
    have I2 : Inv X pins σ H1 { s1 with heap := h', toks := tk } := I1.kept fun b o e => hk b o (Heap.lt_size e) e
    have lm := metP_le xs xs.length
    exact call_len_set ho hex hd hf (by rw [hn]; omega) ⟨.int ((metP xs xs.length).length : Nat), H1, I2.tok _, ⟨_, by rw [hn]⟩, q1⟩
  rcases hq with hq | hq
  · obtain ⟨its, r, pl, hz⟩ := I1.list hq
    exact go its r (.inl pl.isList)
  · obtain ⟨its, r, pl, hz⟩ := I1.tuple hq
    exact go its r (.inr pl)
end
end Pd
set_option Elab.async false
set_option linter.all false
set_option maxRecDepth 100000
set_option autoImplicit false
/-! Pd: how data lie in the abstract heap: values. -/
namespace Pd
open PySem PySem.Spec PyProof.Rows L2

theorem szL : (sizeLine : Nat) = sz := by rw [sizeLine_eq]; rfl

/-- what stays the same through a law: the written part, where classes lie, the fields' names -/
structure Cn where
  K : PySem.W.Frag
  prog : PySem.Program
  w : PySem.World
  ca : Nat → Option Addr
  fnm : Nat → Option Str

/-- where objects lie; what is never changed again -/
structure Gh where
  ob : List Addr
  fz : Addr → Prop

def strV (s : List Nat) : V := .str ⟨s.toArray⟩
/-- a text as it may be -/
def okS (s : List Nat) : Prop := s.length ≤ sz ∧ ∀ x ∈ s, x < 1114112

section
variable (c : Cn) (g : Gh) (H : Hp)
mutual
def Rep : V → D → Prop
  | v, .non => v = .non
  | v, .bl b => v = .bl b
  | v, .int i => v = .int i
  | v, .str s => v = strV s ∧ okS s
  | v, .tup ds => ∃ a vs, v = .ref a ∧ g.fz a ∧ H a = some (.tup vs) ∧ Reps vs ds ∧ ds.length ≤ sz
  | v, .lst ds => ∃ a vs, v = .ref a ∧ g.fz a ∧ H a = some (.lst vs) ∧ Reps vs ds ∧ ds.length ≤ sz
  | v, .scr ns => ∃ a, v = .ref a ∧ ns.length ≤ 1000 ∧ ((g.fz a ∧ L2.Rd H a (.lst (ns.map V.int))) ∨
      ∃ (o : Obj) (its : Array Value) (n : Nat), c.K.lookup a = some o ∧ o.cls = .type "list" ∧ o.dict = none ∧ o.data = .seq its n ∧ its.size ≤ sizeLine ∧ Vals (ns.map V.int) its.toList)
  | v, .obj n => ∃ a, v = .ref a ∧ g.ob[n]? = some a
def Reps : List V → List D → Prop
  | vs, [] => vs = []
  | vs, d :: ds => ∃ v r, vs = v :: r ∧ Rep v d ∧ Reps r ds
end
end

/-- frozen things stay as they are, objects keep their numbers -/
structure Mo (g : Gh) (H : Hp) (g' : Gh) (H' : Hp) : Prop where
  fz : ∀ a, g.fz a → g'.fz a ∧ H' a = H a
  ob : g.ob <+: g'.ob
theorem Mo.refl {g : Gh} {H : Hp} : Mo g H g H := ⟨fun _ h => ⟨h, rfl⟩, List.prefix_refl _⟩
theorem Mo.trans {g g1 g2 : Gh} {H H1 H2 : Hp} (a : Mo g H g1 H1) (b : Mo g1 H1 g2 H2) : Mo g H g2 H2 :=
  ⟨fun x h => ⟨(b.fz x (a.fz x h).1).1, (b.fz x (a.fz x h).1).2.trans (a.fz x h).2⟩, a.ob.trans b.ob⟩
theorem pre_get {α : Type} {xs ys : List α} (h : xs <+: ys) {i : Nat} {a : α} (e : xs[i]? = some a) : ys[i]? = some a := by
  obtain ⟨r, rfl⟩ := h
  rw [List.getElem?_append_left (List.getElem?_eq_some_iff.mp e).1]; exact e

section
variable {c : Cn} {g g' : Gh} {H H' : Hp}
mutual
theorem Rep.mono (m : Mo g H g' H') : ∀ (d : D) (v : V), Rep c g H v d → Rep c g' H' v d
  | .non, _, h => h
  | .bl _, _, h => h
  | .int _, _, h => h
  | .str _, _, h => h
  | .tup ds, v, h => by
    obtain ⟨a, vs, e, f, q, r, l⟩ := h
    exact ⟨a, vs, e, (m.fz a f).1, (m.fz a f).2.trans q, Reps.mono m ds vs r, l⟩
  | .lst ds, v, h => by
    obtain ⟨a, vs, e, f, q, r, l⟩ := h
    exact ⟨a, vs, e, (m.fz a f).1, (m.fz a f).2.trans q, Reps.mono m ds vs r, l⟩
  | .scr ns, v, h => by
    obtain ⟨a, e, l, q⟩ := h
    refine ⟨a, e, l, ?_⟩
    rcases q with ⟨f, q⟩ | q
    · refine .inl ⟨(m.fz a f).1, ?_⟩
      rcases q with q | ⟨o, q⟩
      · exact .inl ((m.fz a f).2.trans q)
      · exact .inr ⟨o, (m.fz a f).2.trans q⟩
    · exact .inr q
  | .obj n, v, h => by
    obtain ⟨a, e, q⟩ := h
    exact ⟨a, e, pre_get m.ob q⟩
theorem Reps.mono (m : Mo g H g' H') : ∀ (ds : List D) (vs : List V), Reps c g H vs ds → Reps c g' H' vs ds
  | [], _, h => h
  | d :: ds, vs, h => by
    obtain ⟨v, r, e, h1, h2⟩ := h
    exact ⟨v, r, e, Rep.mono m d v h1, Reps.mono m ds r h2⟩
end
theorem Reps.nil : Reps c g H [] [] := rfl
theorem Reps.cons {v : V} {d : D} {vs : List V} {ds : List D} (h : Rep c g H v d) (r : Reps c g H vs ds) : Reps c g H (v :: vs) (d :: ds) := ⟨v, vs, rfl, h, r⟩
theorem Reps.length : ∀ {ds : List D} {vs : List V}, Reps c g H vs ds → vs.length = ds.length
  | [], _, h => by cases h; rfl
  | d :: ds, vs, h => by
    obtain ⟨v, r, rfl, _, h2⟩ := h
    rw [List.length_cons, List.length_cons, Reps.length h2]
theorem Reps.append : ∀ {ds es : List D} {vs ws : List V}, Reps c g H vs ds → Reps c g H ws es → Reps c g H (vs ++ ws) (ds ++ es)
  | [], _, _, _, h, k => by cases h; exact k
  | d :: ds, es, vs, ws, h, k => by
    obtain ⟨v, r, rfl, h1, h2⟩ := h
    exact ⟨v, r ++ ws, rfl, h1, Reps.append h2 k⟩
theorem Reps.get : ∀ {ds : List D} {vs : List V} {i : Nat} {d : D}, Reps c g H vs ds → ds[i]? = some d → ∃ v, vs[i]? = some v ∧ Rep c g H v d
  | [], _, _, _, _, e => by simp at e
  | x :: ds, vs, i, d, h, e => by
    obtain ⟨v, r, rfl, h1, h2⟩ := h
    cases i with
    | zero => simp at e; subst e; exact ⟨v, rfl, h1⟩
    | succ i =>
      obtain ⟨w, e1, e2⟩ := Reps.get (i := i) h2 (by simpa using e)
      exact ⟨w, by simpa using e1, e2⟩
theorem Reps.drop : ∀ {ds : List D} {vs : List V} (n : Nat), Reps c g H vs ds → Reps c g H (vs.drop n) (ds.drop n)
  | _, _, 0, h => h
  | [], _, n + 1, h => by cases h; rfl
  | x :: ds, vs, n + 1, h => by
    obtain ⟨v, r, rfl, h1, h2⟩ := h
    exact Reps.drop n h2
theorem Reps.take : ∀ {ds : List D} {vs : List V} (n : Nat), Reps c g H vs ds → Reps c g H (vs.take n) (ds.take n)
  | _, _, 0, h => rfl
  | [], _, n + 1, h => by cases h; rfl
  | x :: ds, vs, n + 1, h => by
    obtain ⟨v, r, rfl, h1, h2⟩ := h
    exact ⟨v, r.take n, rfl, h1, Reps.take n h2⟩
theorem Reps.set : ∀ {ds : List D} {vs : List V} {v : V} {d : D} (i : Nat), Reps c g H vs ds → Rep c g H v d → Reps c g H (vs.set i v) (ds.set i d)
  | [], _, _, _, _, h, _ => by cases h; rfl
  | x :: ds, vs, v, d, 0, h, k => by
    obtain ⟨w, r, rfl, h1, h2⟩ := h
    exact ⟨v, r, rfl, k, h2⟩
  | x :: ds, vs, v, d, i + 1, h, k => by
    obtain ⟨w, r, rfl, h1, h2⟩ := h
    exact ⟨w, r.set i v, rfl, h1, Reps.set i h2 k⟩
theorem Reps.eraseIdx : ∀ {ds : List D} {vs : List V} (i : Nat), Reps c g H vs ds → Reps c g H (vs.eraseIdx i) (ds.eraseIdx i)
  | [], _, _, h => by cases h; rfl
  | x :: ds, vs, 0, h => by
    obtain ⟨w, r, rfl, h1, h2⟩ := h
    exact h2
  | x :: ds, vs, i + 1, h => by
    obtain ⟨w, r, rfl, h1, h2⟩ := h
    exact ⟨w, r.eraseIdx i, rfl, h1, Reps.eraseIdx i h2⟩
theorem Reps.ints : ∀ (ns : List Int), Reps c g H (ns.map V.int) (ns.map D.int)
  | [] => rfl
  | n :: ns => ⟨.int n, ns.map V.int, rfl, rfl, Reps.ints ns⟩
theorem Reps.intsOf : ∀ {ds : List D} {vs : List V} {ns : List Int}, Reps c g H vs ds → intsOf ds = some ns → vs = ns.map V.int
  | [], _, ns, h, e => by cases h; cases e; rfl
  | d :: ds, vs, ns, h, e => by
    obtain ⟨v, r, rfl, h1, h2⟩ := h
    cases d with
    | int i =>
      obtain ⟨ms, e1, rfl⟩ := Option.map_eq_some_iff.mp (show (Pd.intsOf ds).map (i :: ·) = some ns from e)
      rw [show v = V.int i from h1, Reps.intsOf h2 e1]; rfl
    | _ => cases e
theorem Reps.boolsOf : ∀ {ds : List D} {vs : List V} {ns : List Bool}, Reps c g H vs ds → boolsOf ds = some ns → vs = ns.map V.bl
  | [], _, ns, h, e => by cases h; cases e; rfl
  | d :: ds, vs, ns, h, e => by
    obtain ⟨v, r, rfl, h1, h2⟩ := h
    cases d with
    | bl i =>
      obtain ⟨ms, e1, rfl⟩ := Option.map_eq_some_iff.mp (show (Pd.boolsOf ds).map (i :: ·) = some ns from e)
      rw [show v = V.bl i from h1, Reps.boolsOf h2 e1]; rfl
    | _ => cases e
theorem Reps.strsOf : ∀ {ds : List D} {vs : List V} {ns : List (List Nat)}, Reps c g H vs ds → strsOf ds = some ns → vs = ns.map strV ∧ ∀ s ∈ ns, okS s
  | [], _, ns, h, e => by cases h; cases e; exact ⟨rfl, fun _ h => absurd h (by simp)⟩
  | d :: ds, vs, ns, h, e => by
    obtain ⟨v, r, rfl, h1, h2⟩ := h
    cases d with
    | str i =>
      obtain ⟨ms, e1, rfl⟩ := Option.map_eq_some_iff.mp (show (Pd.strsOf ds).map (i :: ·) = some ns from e)
      obtain ⟨q1, q2⟩ := Reps.strsOf h2 e1
      obtain ⟨h3, h4⟩ : v = strV i ∧ okS i := h1
      refine ⟨by rw [h3, q1]; rfl, fun s hs => ?_⟩
      rcases List.mem_cons.mp hs with rfl | hs
      · exact h4
      · exact q2 s hs
    | _ => cases e
end

end Pd
set_option Elab.async false
set_option linter.all false
set_option maxRecDepth 100000
set_option autoImplicit false
/-! Pd: dicts whose keys are tuples (nested). -/
namespace Pd
open PySem PySem.Spec PyProof.Rows L2 TL Bits

abbrev Ent := NestedKey × Addr × Value
/-- the dict's own object -/
def entB (P : Program) (w : World) (h : Heap) (a : Addr) (xs : List Ent) : Prop :=
  (a == sysModules) = false ∧ xs.length ≤ sizeLine ∧ ∃ o es ep, h.get? a = some o ∧ o.ExactDict ∧ o.data = .dict es ep ∧ es.toList = xs.map (entryOfKey (nestedKind P w)) ∧ (xs.map (·.1)).Nodup
def DicO (P : Program) (w : World) (a : Addr) (xs : List Ent) : HO := .ext fun h => entB P w h a xs
section
variable {P : Program} {w : World} {h h' : Heap} {a : Addr} {xs : List Ent} {H : Hp}
theorem entB.at (B : entB P w h a xs) (k : ∀ o, h.get? a = some o → h'.get? a = some o) : entB P w h' a xs := by
  obtain ⟨h1, h2, o, es, ep, h3, r⟩ := B
  exact ⟨h1, h2, o, es, ep, k o h3, r⟩
theorem dic_ok (B : entB P w h a xs) : ObjOk P w H h a (DicO P w a xs) := by
  have ⟨_, _, o, _, _, ho, _⟩ := B
  exact ⟨B, ⟨o, ho⟩, fun h1 h2 p k => entB.at p k⟩
theorem dic_get {X : Cx} {pins : List (Addr × Obj)} {σ : L2.St} {s : Shared} (I : Inv X pins σ H s) (ha : H a = some (DicO X.prog X.w a xs)) : entB X.prog X.w s.heap a xs := (I.hok a _ ha).1
theorem entB.keyed (B : entB P w h a xs) (hk : ∀ x ∈ xs, (nestedKind P w).is h x.1 x.2.1) : h.DictOfH (nestedKind P w) a xs := by
  obtain ⟨_, _, o, es, ep, h3, h4, h5, h6, h7⟩ := B
  exact ⟨o, es, ep, h3, h4, h5, h6, hk, h7⟩
theorem entB.of (h1 : (a == sysModules) = false) (h2 : xs.length ≤ sizeLine) (D : h.DictOfH (nestedKind P w) a xs) : entB P w h a xs := by
  obtain ⟨o, es, ep, h3, h4, h5, h6, hk, h7⟩ := D
  exact ⟨h1, h2, o, es, ep, h3, h4, h5, h6, h7⟩
end
mutual
/-- a datum as a key -/
def nkD : D → Option NestedKey
  | .non => some .none
  | .int i => some (.num i)
  | .str s => some (.text ⟨s.toArray⟩)
  | .tup xs => (nkDs xs).map .tup
  | _ => none
def nkDs : List D → Option (List NestedKey)
  | [] => some []
  | x :: xs => (nkD x).bind fun k => (nkDs xs).map (k :: ·)
end
mutual
theorem nested_of {X : Cx} {pins : List (Addr × Obj)} {σ : L2.St} {H : Hp} {s : Shared} {c : Cn} {g : Gh} (I : Inv X pins σ H s) : ∀ (d : D) (v : V) (u : Value) (k : NestedKey), Rep c g H v d → L2.RelV v u → nkD d = some k → NestedIs s.heap k u
  | .non, v, u, k, r, rv, e => by cases e; cases r; cases rv; exact .none
  | .int i, v, u, k, r, rv, e => by cases e; cases r; obtain ⟨t, rfl⟩ := rv; exact .int i t
  | .str z, v, u, k, r, rv, e => by cases e; obtain ⟨rfl, _⟩ := r; obtain ⟨t, rfl⟩ := rv; exact .text _ t
  | .tup ds, v, u, k, r, rv, e => by
    obtain ⟨ks, e1, rfl⟩ := Option.map_eq_some_iff.mp (show (nkDs ds).map NestedKey.tup = some k from e)
    obtain ⟨a, vs, rfl, _, hq, rr, _⟩ := r
    cases rv
    obtain ⟨its, rvs, p, _⟩ := I.tuple (SqT.of hq)
    obtain ⟨o, ho, hc, n, hd⟩ := p
    exact .tup ho hc hd (by simpa using nested_all I ds vs its ks rr rvs e1)
  | .bl _, _, _, _, _, _, e => by cases e
  | .lst _, _, _, _, _, _, e => by cases e
  | .scr _, _, _, _, _, _, e => by cases e
  | .obj _, _, _, _, _, _, e => by cases e
theorem nested_all {X : Cx} {pins : List (Addr × Obj)} {σ : L2.St} {H : Hp} {s : Shared} {c : Cn} {g : Gh} (I : Inv X pins σ H s) : ∀ (ds : List D) (vs : List V) (us : List Value) (ks : List NestedKey), Reps c g H vs ds → Vals vs us → nkDs ds = some ks → NestedAll s.heap ks us
  | [], vs, us, ks, r, rv, e => by cases e; cases r; cases rv; exact .nil
  | d :: ds, vs, us, ks, r, rv, e => by
    obtain ⟨v, vr, rfl, r1, r2⟩ := r
    obtain ⟨k, e1, e2⟩ := Option.bind_eq_some_iff.mp (show (nkD d).bind (fun k => (nkDs ds).map (k :: ·)) = some ks from e)
    obtain ⟨ks', e3, rfl⟩ := Option.map_eq_some_iff.mp e2
    cases rv with
    | cons q qs => exact .cons (nested_of I d v _ k r1 q e1) (nested_all I ds vr _ ks' r2 qs e3)
end
mutual
theorem eqv_nk : ∀ (x y : D) (a b : NestedKey), nkD x = some a → nkD y = some b → eqv x y = NestedKey.beq a b
  | .non, y, a, b, e1, e2 => by
    cases e1
    cases y <;> first | (cases e2; rfl) | (obtain ⟨ks, _, rfl⟩ := Option.map_eq_some_iff.mp e2; rfl) | cases e2
  | .int i, y, a, b, e1, e2 => by
    cases e1
    cases y <;> first | (cases e2; rfl) | (obtain ⟨ks, _, rfl⟩ := Option.map_eq_some_iff.mp e2; rfl) | cases e2
  | .str z, y, a, b, e1, e2 => by
    cases e1
    cases y with
    | str z2 =>
      cases e2
      show (z == z2) = decide ((⟨z.toArray⟩ : PySem.Str) = ⟨z2.toArray⟩)
      by_cases h : z = z2
      · subst h; simp
      · have h2 : (⟨z.toArray⟩ : PySem.Str) ≠ ⟨z2.toArray⟩ := fun e => h (by
          have : z.toArray = z2.toArray := congrArg PySem.Str.cps e
          simpa using this)
        rw [beq_eq_false_iff_ne.mpr h, decide_eq_false h2]
    | tup ys => obtain ⟨ks, _, rfl⟩ := Option.map_eq_some_iff.mp e2; rfl
    | non => cases e2; rfl
    | int _ => cases e2; rfl
    | _ => cases e2
  | .tup xs, y, a, b, e1, e2 => by
    obtain ⟨ks, q1, rfl⟩ := Option.map_eq_some_iff.mp e1
    cases y with
    | tup ys =>
      obtain ⟨ls, q2, rfl⟩ := Option.map_eq_some_iff.mp e2
      exact eqvs_nk xs ys ks ls q1 q2
    | non => cases e2; rfl
    | int _ => cases e2; rfl
    | str _ => cases e2; rfl
    | _ => cases e2
  | .bl _, _, _, _, e, _ => by cases e
  | .lst _, _, _, _, e, _ => by cases e
  | .scr _, _, _, _, e, _ => by cases e
  | .obj _, _, _, _, e, _ => by cases e
theorem eqvs_nk : ∀ (xs ys : List D) (a b : List NestedKey), nkDs xs = some a → nkDs ys = some b → eqvs xs ys = NestedKey.beqAll a b
  | [], [], a, b, e1, e2 => by cases e1; cases e2; rfl
  | [], y :: ys, a, b, e1, e2 => by
    cases e1
    obtain ⟨k, _, q⟩ := Option.bind_eq_some_iff.mp e2
    obtain ⟨ks, _, rfl⟩ := Option.map_eq_some_iff.mp q
    rfl
  | x :: xs, [], a, b, e1, e2 => by
    cases e2
    obtain ⟨k, _, q⟩ := Option.bind_eq_some_iff.mp e1
    obtain ⟨ks, _, rfl⟩ := Option.map_eq_some_iff.mp q
    rfl
  | x :: xs, y :: ys, a, b, e1, e2 => by
    obtain ⟨k, p1, q⟩ := Option.bind_eq_some_iff.mp e1
    obtain ⟨ks, p2, rfl⟩ := Option.map_eq_some_iff.mp q
    obtain ⟨l, p3, q'⟩ := Option.bind_eq_some_iff.mp e2
    obtain ⟨ls, p4, rfl⟩ := Option.map_eq_some_iff.mp q'
    show (eqv x y && eqvs xs ys) = (NestedKey.beq k l && NestedKey.beqAll ks ls)
    rw [eqv_nk x y k l p1 p3, eqvs_nk xs ys ks ls p2 p4]
end
end Pd
set_option Elab.async false
set_option linter.all false
set_option maxRecDepth 100000
set_option autoImplicit false
/-! Pd: dicts whose keys are tuples: the entries beside the data. -/
namespace Pd
open PySem PySem.Spec PyProof.Rows L2 TL Bits

/-- may be a key: a tuple, not too deep -/
def keyD : D → Option NestedKey
  | .tup xs => (nkD (.tup xs)).bind fun k => if k.depth ≤ 8 then some k else none
  | _ => none
theorem keyD_nk {d : D} {k : NestedKey} (h : keyD d = some k) : nkD d = some k ∧ k.depth ≤ 8 := by
  cases d with
  | tup xs =>
    obtain ⟨k', e1, e2⟩ := Option.bind_eq_some_iff.mp (show (nkD (.tup xs)).bind (fun k => if k.depth ≤ 8 then some k else none) = some k from h)
    by_cases hk : k'.depth ≤ 8
    · rw [if_pos hk] at e2; cases e2; exact ⟨e1, hk⟩
    · rw [if_neg hk] at e2; cases e2
  | _ => cases h
section
variable (c : Cn) (g : Gh) (H : Hp)
def DRel : List Ent → List (D × D) → Prop
  | [], [] => True
  | (k, b, u) :: xs, (dk, dv) :: kvs => keyD dk = some k ∧ Rep c g H (.ref b) dk ∧ (∃ v, L2.RelV v u ∧ Rep c g H v dv) ∧ DRel xs kvs
  | _, _ => False
end
section
variable {c : Cn} {g g' : Gh} {H H' : Hp}
theorem DRel.mono (m : Mo g H g' H') : ∀ {xs : List Ent} {kvs : List (D × D)}, DRel c g H xs kvs → DRel c g' H' xs kvs
  | [], [], _ => trivial
  | (k, b, u) :: xs, (dk, dv) :: kvs, h => by
    obtain ⟨h1, h2, ⟨v, h3, h4⟩, h5⟩ := h
    exact ⟨h1, Rep.mono m dk _ h2, ⟨v, h3, Rep.mono m dv v h4⟩, DRel.mono m h5⟩
  | [], _ :: _, h => h.elim
  | _ :: _, [], h => h.elim
theorem DRel.length : ∀ {xs : List Ent} {kvs : List (D × D)}, DRel c g H xs kvs → xs.length = kvs.length
  | [], [], _ => rfl
  | (k, b, u) :: xs, (dk, dv) :: kvs, h => by
    rw [List.length_cons, List.length_cons, DRel.length h.2.2.2]
  | [], _ :: _, h => h.elim
  | _ :: _, [], h => h.elim
theorem DRel.keys {X : Cx} {pins : List (Addr × Obj)} {σ : L2.St} {s : Shared} (I : Inv X pins σ H s) : ∀ {xs : List Ent} {kvs : List (D × D)}, DRel c g H xs kvs → ∀ x ∈ xs, (nestedKind X.prog X.w).is s.heap x.1 x.2.1
  | [], [], _, x, hx => by cases hx
  | (k, b, u) :: xs, (dk, dv) :: kvs, h, x, hx => by
    rcases List.mem_cons.mp hx with rfl | hx
    · obtain ⟨e1, e2⟩ := keyD_nk h.1
      exact ⟨nested_of I dk _ _ k h.2.1 rfl e1, e2⟩
    · exact DRel.keys I h.2.2.2 x hx
  | [], _ :: _, h, _, _ => h.elim
  | _ :: _, [], h, _, _ => h.elim
theorem key_eq {j dk : D} {a k : NestedKey} (hj : keyD j = some a) (hk : keyD dk = some k) : eqv j dk = decide (a = k) := by
  rw [eqv_nk j dk a k (keyD_nk hj).1 (keyD_nk hk).1, NestedKey.decide_eq]
theorem DRel.at {dk : D} {k : NestedKey} (hk : keyD dk = some k) : ∀ {xs : List Ent} {kvs : List (D × D)}, DRel c g H xs kvs →
    match dget dk kvs with
    | some d => ∃ b u v, atKey xs k = some (b, u) ∧ L2.RelV v u ∧ Rep c g H v d
    | none => atKey xs k = none
  | [], [], _ => rfl
  | (a, b, u) :: xs, (j, dv) :: kvs, h => by
    obtain ⟨h1, h2, ⟨v, h3, h4⟩, h5⟩ := h
    have e := key_eq h1 hk
    have ih := DRel.at hk h5
    by_cases hak : a = k
    · subst hak
      have e1 : eqv j dk = true := by rw [e]; simp
      have e2 : dget dk ((j, dv) :: kvs) = some dv := by show (if eqv j dk then some dv else dget dk kvs) = _; rw [e1]; rfl
      rw [e2]
      exact ⟨b, u, v, by simp [atKey], h3, h4⟩
    · have e1 : eqv j dk = false := by rw [e]; simp [hak]
      have e2 : dget dk ((j, dv) :: kvs) = dget dk kvs := by show (if eqv j dk then some dv else dget dk kvs) = _; rw [e1]; rfl
      have e3 : atKey ((a, b, u) :: xs) k = atKey xs k := by simp [atKey, hak]
      rw [e2, e3]
      exact ih
  | [], _ :: _, h => h.elim
  | _ :: _, [], h => h.elim
theorem map_putAt_none {xs : List Ent} {k : NestedKey} {u : Value} (h : ∀ x ∈ xs, x.1 ≠ k) : xs.map (putAt k u) = xs := by
  conv => rhs; rw [← List.map_id xs]
  apply List.map_congr_left
  intro x hx
  show (if x.1 = k then _ else x) = x
  rw [if_neg (h x hx)]
theorem DRel.putOld {dk dv : D} {k : NestedKey} {v : V} {u : Value} (hk : keyD dk = some k) (rv : L2.RelV v u) (r : Rep c g H v dv) : ∀ {xs : List Ent} {kvs : List (D × D)}, (xs.map (·.1)).Nodup → DRel c g H xs kvs → (atKey xs k).isSome = true → DRel c g H (xs.map (putAt k u)) (dput dk dv kvs)
  | [], [], _, _, h => by cases h
  | (a, b, w) :: xs, (j, dw) :: kvs, nd, h, hs => by
    obtain ⟨h1, h2, ⟨v', h3, h4⟩, h5⟩ := h
    have e := key_eq h1 hk
    rw [List.map_cons, List.nodup_cons] at nd
    by_cases hak : a = k
    · subst hak
      have e1 : eqv j dk = true := by rw [e]; simp
      have e2 : dput dk dv ((j, dw) :: kvs) = (j, dv) :: kvs := by show (if eqv j dk then _ else _) = _; rw [e1]; rfl
      rw [e2, List.map_cons, map_putAt_none fun x hx e => nd.1 (by rw [← e]; exact List.mem_map.mpr ⟨x, hx, rfl⟩)]
      have e3 : putAt a u (a, b, w) = (a, b, u) := if_pos rfl
      rw [e3]
      exact ⟨h1, h2, ⟨v, rv, r⟩, h5⟩
    · have e1 : eqv j dk = false := by rw [e]; simp [hak]
      have e2 : dput dk dv ((j, dw) :: kvs) = (j, dw) :: dput dk dv kvs := by show (if eqv j dk then _ else _) = _; rw [e1]; rfl
      have e3 : putAt k u (a, b, w) = (a, b, w) := if_neg hak
      rw [e2, List.map_cons, e3]
      exact ⟨h1, h2, ⟨v', h3, h4⟩, DRel.putOld hk rv r nd.2 h5 (by simpa [atKey, hak] using hs)⟩
  | [], _ :: _, _, h, _ => h.elim
  | _ :: _, [], _, h, _ => h.elim
theorem DRel.putNew {dk dv : D} {k : NestedKey} {b : Addr} {v : V} {u : Value} (hk : keyD dk = some k) (rb : Rep c g H (.ref b) dk) (rv : L2.RelV v u) (r : Rep c g H v dv) : ∀ {xs : List Ent} {kvs : List (D × D)}, DRel c g H xs kvs → atKey xs k = none → DRel c g H (xs ++ [(k, b, u)]) (dput dk dv kvs)
  | [], [], _, _ => ⟨hk, rb, ⟨v, rv, r⟩, trivial⟩
  | (a, b', w) :: xs, (j, dw) :: kvs, h, hs => by
    obtain ⟨h1, h2, ⟨v', h3, h4⟩, h5⟩ := h
    have e := key_eq h1 hk
    have hak : a ≠ k := fun z => by subst z; simp [atKey] at hs
    have e1 : eqv j dk = false := by rw [e]; simp [hak]
    have e2 : dput dk dv ((j, dw) :: kvs) = (j, dw) :: dput dk dv kvs := by show (if eqv j dk then _ else _) = _; rw [e1]; rfl
    rw [e2]
    exact ⟨h1, h2, ⟨v', h3, h4⟩, DRel.putNew hk rb rv r h5 (by simpa [atKey, hak] using hs)⟩
  | [], _ :: _, h, _ => h.elim
  | _ :: _, [], h, _ => h.elim
theorem DRel.put {dk dv : D} {k : NestedKey} {b : Addr} {v : V} {u : Value} {xs : List Ent} {kvs : List (D × D)} (hk : keyD dk = some k) (rb : Rep c g H (.ref b) dk) (rv : L2.RelV v u) (r : Rep c g H v dv) (nd : (xs.map (·.1)).Nodup) (h : DRel c g H xs kvs) : DRel c g H (storedH xs k b u) (dput dk dv kvs) := by
  unfold storedH
  by_cases hs : (atKey xs k).isSome = true
  · rw [if_pos hs]; exact DRel.putOld hk rv r nd h hs
  · rw [if_neg hs]; exact DRel.putNew hk rb rv r h (by simpa using hs)
end
end Pd
set_option Elab.async false
set_option linter.all false
set_option maxRecDepth 100000
set_option autoImplicit false
/-! Pd: dicts whose keys are ints and texts: the entries beside the data. -/
namespace Pd
open PySem PySem.Spec PyProof.Rows L2 TL Bits

/-- an atom as a key -/
def keyA : D → Option Key
  | .int i => some (.inl i)
  | .str s => some (.inr ⟨s.toArray⟩)
  | _ => none
section
variable (c : Cn) (g : Gh) (H : Hp)
def KRel : List (Key × V) → List (D × D) → Prop
  | [], [] => True
  | (k, v) :: xs, (dk, dv) :: kvs => keyA dk = some k ∧ Rep c g H (kV k) dk ∧ Rep c g H v dv ∧ KRel xs kvs
  | _, _ => False
end
section
variable {c : Cn} {g g' : Gh} {H H' : Hp}
theorem KRel.mono (m : Mo g H g' H') : ∀ {xs : List (Key × V)} {kvs : List (D × D)}, KRel c g H xs kvs → KRel c g' H' xs kvs
  | [], [], _ => trivial
  | (k, v) :: xs, (dk, dv) :: kvs, h => ⟨h.1, Rep.mono m dk _ h.2.1, Rep.mono m dv v h.2.2.1, KRel.mono m h.2.2.2⟩
  | [], _ :: _, h => h.elim
  | _ :: _, [], h => h.elim
theorem KRel.length : ∀ {xs : List (Key × V)} {kvs : List (D × D)}, KRel c g H xs kvs → xs.length = kvs.length
  | [], [], _ => rfl
  | (k, v) :: xs, (dk, dv) :: kvs, h => by
    rw [List.length_cons, List.length_cons, KRel.length h.2.2.2]
  | [], _ :: _, h => h.elim
  | _ :: _, [], h => h.elim
theorem keyA_eq {j dk : D} {a k : Key} (hj : keyA j = some a) (hk : keyA dk = some k) : eqv j dk = decide (a = k) := by
  cases j with
  | int i =>
    cases hj
    cases dk with
    | int i2 => cases hk; simp only [eqv, Sum.inl.injEq]; exact Bool.eq_iff_iff.mpr (by simp)
    | str s2 => cases hk; simp [eqv]
    | _ => cases hk
  | str s =>
    cases hj
    cases dk with
    | int i2 => cases hk; simp [eqv]
    | str s2 => cases hk; exact Bool.eq_iff_iff.mpr (by simp [eqv])
    | _ => cases hk
  | _ => cases hj
theorem KRel.at {dk : D} {k : Key} (hk : keyA dk = some k) : ∀ {xs : List (Key × V)} {kvs : List (D × D)}, KRel c g H xs kvs →
    match dget dk kvs with
    | some d => ∃ v, valV xs k = some v ∧ Rep c g H v d
    | none => valV xs k = none
  | [], [], _ => rfl
  | (a, v) :: xs, (j, dv) :: kvs, h => by
    obtain ⟨h1, h2, h3, h4⟩ := h
    have e := keyA_eq h1 hk
    have ih := KRel.at hk h4
    by_cases hak : a = k
    · have e1 : eqv j dk = true := by rw [e]; simp [hak]
      have e2 : dget dk ((j, dv) :: kvs) = some dv := by show (if eqv j dk then some dv else dget dk kvs) = _; rw [e1]; rfl
      rw [e2]
      exact ⟨v, valV_pos hak, h3⟩
    · have e1 : eqv j dk = false := by rw [e]; simp [hak]
      have e2 : dget dk ((j, dv) :: kvs) = dget dk kvs := by show (if eqv j dk then some dv else dget dk kvs) = _; rw [e1]; rfl
      rw [e2, valV_neg (p := (a, v)) hak]
      exact ih
  | [], _ :: _, h => h.elim
  | _ :: _, [], h => h.elim
theorem KRel.putOld {dk dv : D} {k : Key} {v : V} (hk : keyA dk = some k) (r : Rep c g H v dv) : ∀ {xs : List (Key × V)} {kvs : List (D × D)}, KRel c g H xs kvs → (valV xs k).isSome = true → (xs.map (·.1)).Nodup → KRel c g H (xs.map fun kv => if kv.1 = k then (kv.1, v) else kv) (dput dk dv kvs)
  | [], [], _, h, _ => by cases h
  | (a, w) :: xs, (j, dw) :: kvs, h, hs, nd => by
    obtain ⟨h1, h2, h3, h4⟩ := h
    have e := keyA_eq h1 hk
    rw [List.map_cons, List.nodup_cons] at nd
    by_cases hak : a = k
    · have e1 : eqv j dk = true := by rw [e]; simp [hak]
      have e2 : dput dk dv ((j, dw) :: kvs) = (j, dv) :: kvs := by show (if eqv j dk then _ else _) = _; rw [e1]; rfl
      have e3 : (xs.map fun kv => if kv.1 = k then (kv.1, v) else kv) = xs := by
        conv => rhs; rw [← List.map_id xs]
        apply List.map_congr_left
        intro x hx
        rw [if_neg fun z => nd.1 (by rw [hak, ← z]; exact List.mem_map.mpr ⟨x, hx, rfl⟩)]; rfl
      rw [e2, List.map_cons, e3, if_pos hak]
      exact ⟨h1, h2, r, h4⟩
    · have e1 : eqv j dk = false := by rw [e]; simp [hak]
      have e2 : dput dk dv ((j, dw) :: kvs) = (j, dw) :: dput dk dv kvs := by show (if eqv j dk then _ else _) = _; rw [e1]; rfl
      rw [e2, List.map_cons, if_neg hak]
      exact ⟨h1, h2, h3, KRel.putOld hk r h4 (by rw [valV_neg (p := (a, w)) hak] at hs; exact hs) nd.2⟩
  | [], _ :: _, h, _, _ => h.elim
  | _ :: _, [], h, _, _ => h.elim
theorem KRel.putNew {dk dv : D} {k : Key} {v : V} (hk : keyA dk = some k) (rk : Rep c g H (kV k) dk) (r : Rep c g H v dv) : ∀ {xs : List (Key × V)} {kvs : List (D × D)}, KRel c g H xs kvs → valV xs k = none → KRel c g H (xs ++ [(k, v)]) (dput dk dv kvs)
  | [], [], _, _ => ⟨hk, rk, r, trivial⟩
  | (a, w) :: xs, (j, dw) :: kvs, h, hs => by
    obtain ⟨h1, h2, h3, h4⟩ := h
    have e := keyA_eq h1 hk
    by_cases hak : a = k
    · rw [valV_pos (p := (a, w)) hak] at hs; cases hs
    · have e1 : eqv j dk = false := by rw [e]; simp [hak]
      have e2 : dput dk dv ((j, dw) :: kvs) = (j, dw) :: dput dk dv kvs := by show (if eqv j dk then _ else _) = _; rw [e1]; rfl
      rw [e2]
      rw [valV_neg (p := (a, w)) hak] at hs
      exact ⟨h1, h2, h3, KRel.putNew hk rk r h4 hs⟩
  | [], _ :: _, h, _ => h.elim
  | _ :: _, [], h, _ => h.elim
theorem KRel.put {dk dv : D} {k : Key} {v : V} {xs : List (Key × V)} {kvs : List (D × D)} (hk : keyA dk = some k) (rk : Rep c g H (kV k) dk) (r : Rep c g H v dv) (nd : (xs.map (·.1)).Nodup) (h : KRel c g H xs kvs) : KRel c g H (putK xs k v) (dput dk dv kvs) := by
  unfold putK
  rw [valV_any]
  by_cases hs : (valV xs k).isSome = true
  · rw [if_pos hs]; exact KRel.putOld hk r h hs nd
  · rw [if_neg hs]; exact KRel.putNew hk rk r h (by simpa using hs)
end
end Pd
set_option Elab.async false
set_option linter.all false
set_option maxRecDepth 100000
set_option autoImplicit false
/-! Pd: how data lie in the abstract heap: objects, states. -/
namespace Pd
open PySem PySem.Spec PyProof.Rows L2

/-- an object as it lies -/
def ObR (c : Cn) (g : Gh) (H : Hp) (a : Addr) : Ob → Prop
  | .lst ds => ∃ vs, H a = some (.lst vs) ∧ Reps c g H vs ds ∧ ds.length ≤ sz
  | .dct false kvs => ∃ ks, H a = some (.dK ks) ∧ (ks.map (·.1)).Nodup ∧ KRel c g H ks kvs
  | .dct true kvs => ∃ xs, H a = some (DicO c.prog c.w a xs) ∧ DRel c g H xs kvs
  | .ins k fs => ∃ C dx gs, c.ca k = some C ∧ H a = some (.ins C dx gs) ∧ gs.map (fun p => some p.1) = fs.map (fun p => c.fnm p.1) ∧ Reps c g H (gs.map (·.2)) (fs.map (·.2))

/-- the table of objects -/
structure StH (c : Cn) (g : Gh) (H : Hp) (t : T) : Prop where
  len : g.ob.length = t.length
  nd : g.ob.Nodup
  nf : ∀ a ∈ g.ob, ¬ g.fz a
  tr : ∀ a, g.fz a → H a ≠ none
  obs : ∀ (i : Nat) (a : Addr) (o : Ob), g.ob[i]? = some a → t[i]? = some o → ObR c g H a o
theorem ObR.tracked {c : Cn} {g : Gh} {H : Hp} {a : Addr} {o : Ob} (h : ObR c g H a o) : H a ≠ none := by
  cases o with
  | lst ds => obtain ⟨_, e, _⟩ := h; rw [e]; simp
  | dct b kvs =>
    cases b with
    | false => obtain ⟨_, e, _⟩ := h; rw [e]; simp
    | true => obtain ⟨_, e, _⟩ := h; rw [e]; simp
  | ins k fs => obtain ⟨_, _, _, _, e, _⟩ := h; rw [e]; simp
theorem StH.there {c : Cn} {g : Gh} {H : Hp} {t : T} (s : StH c g H t) {a : Addr} (h : a ∈ g.ob) : H a ≠ none := by
  obtain ⟨i, e⟩ := List.getElem?_of_mem h
  have hl : i < t.length := by rw [← s.len]; exact (List.getElem?_eq_some_iff.mp e).1
  exact (s.obs i a _ e (List.getElem?_eq_getElem hl)).tracked

theorem ObR.mono {c : Cn} {g g' : Gh} {H H' : Hp} {a : Addr} {o : Ob} (m : Mo g H g' H') (e : H' a = H a) (h : ObR c g H a o) : ObR c g' H' a o := by
  cases o with
  | lst ds =>
    obtain ⟨vs, q, r, l⟩ := h
    exact ⟨vs, e.trans q, Reps.mono m ds vs r, l⟩
  | dct b kvs =>
    cases b with
    | false =>
      obtain ⟨ks, q, l, r⟩ := h
      exact ⟨ks, e.trans q, l, KRel.mono m r⟩
    | true =>
      obtain ⟨xs, q, r⟩ := h
      exact ⟨xs, e.trans q, DRel.mono m r⟩
  | ins k fs =>
    obtain ⟨C, dx, gs, h1, h2, h3, h4⟩ := h
    exact ⟨C, dx, gs, h1, e.trans h2, h3, Reps.mono m _ _ h4⟩

/-- from one moment of an expression to a later one -/
structure Step (g : Gh) (H : Hp) (g' : Gh) (H' : Hp) : Prop where
  pre : g.ob <+: g'.ob
  fzm : ∀ a, g.fz a → g'.fz a
  fzn : ∀ a, g'.fz a → g.fz a ∨ H a = none
  obn : ∀ a ∈ g'.ob, a ∈ g.ob ∨ H a = none
  keep : ∀ a o, H a = some o → a ∉ g.ob → H' a = some o
  tr : ∀ a, H a ≠ none → H' a ≠ none
theorem Step.refl {g : Gh} {H : Hp} : Step g H g H := ⟨List.prefix_refl _, fun _ h => h, fun _ h => .inl h, fun _ h => .inl h, fun _ _ h _ => h, fun _ h => h⟩
theorem not_none {H : Hp} {a : Addr} (h : H a ≠ none) : ∃ o, H a = some o := by
  cases e : H a with
  | none => exact absurd e h
  | some o => exact ⟨o, rfl⟩
theorem Step.trans {g g1 g2 : Gh} {H H1 H2 : Hp} (a : Step g H g1 H1) (b : Step g1 H1 g2 H2) : Step g H g2 H2 where
  pre := a.pre.trans b.pre
  fzm := fun x h => b.fzm x (a.fzm x h)
  fzn := fun x h => by
    rcases b.fzn x h with q | q
    · exact a.fzn x q
    · cases e : H x with
      | none => exact .inr rfl
      | some o => exact absurd q (a.tr x (by rw [e]; simp))
  obn := fun x h => by
    rcases b.obn x h with q | q
    · exact a.obn x q
    · cases e : H x with
      | none => exact .inr rfl
      | some o => exact absurd q (a.tr x (by rw [e]; simp))
  keep := fun x o h n => by
    refine b.keep x o (a.keep x o h n) fun q => ?_
    rcases a.obn x q with z | z
    · exact n z
    · rw [z] at h; cases h
  tr := fun x h => b.tr x (a.tr x h)
theorem Step.mo {c : Cn} {t : T} {g g' : Gh} {H H' : Hp} (s : StH c g H t) (a : Step g H g' H') : Mo g H g' H' := by
  refine ⟨fun x h => ⟨a.fzm x h, ?_⟩, a.pre⟩
  obtain ⟨o, e⟩ := not_none (s.tr x h)
  rw [e]
  exact a.keep x o e fun q => s.nf x q h

/-- p is new and never changed again -/
def Gh.add (g : Gh) (p : Addr) : Gh := ⟨g.ob, fun a => g.fz a ∨ a = p⟩
section
variable {c : Cn} {g : Gh} {H : Hp} {t : T} {p : Addr} {o : HO}
theorem Step.alloc (hp : H p = none) : Step g H g (upd H p o) where
  pre := List.prefix_refl _
  fzm := fun _ h => h
  fzn := fun _ h => .inl h
  obn := fun _ h => .inl h
  keep := fun a u h _ => by rw [upd_ne (ne_of_none h hp)]; exact h
  tr := fun a h => by
    obtain ⟨u, e⟩ := not_none h
    rw [upd_ne (ne_of_none e hp)]; exact h
theorem Step.froze (h : H p = none) (hq : H p = none) : Step g H (g.add p) (upd H p o) where
  pre := List.prefix_refl _
  fzm := fun _ h => .inl h
  fzn := fun a h => by
    rcases h with h | rfl
    · exact .inl h
    · exact .inr hq
  obn := fun _ h => .inl h
  keep := (Step.alloc hq).keep
  tr := (Step.alloc (g := g) hq).tr
theorem StH.step {g' : Gh} {H' : Hp} (s : StH c g H t) (st : Step g H g' H') (e : g'.ob = g.ob) (h : ∀ a ∈ g.ob, H' a = H a) (tr : ∀ a, g'.fz a → H' a ≠ none) : StH c g' H' t where
  len := by rw [e]; exact s.len
  nd := by rw [e]; exact s.nd
  nf := fun a ha f => by
    rw [e] at ha
    rcases st.fzn a f with q | q
    · exact s.nf a ha q
    · exact s.there ha q
  tr := tr
  obs := fun i a o h1 h2 => by
    rw [e] at h1
    exact (s.obs i a o h1 h2).mono (st.mo s) (h a (List.mem_of_getElem? h1))
theorem StH.alloc (s : StH c g H t) (hp : H p = none) : StH c g (upd H p o) t :=
  s.step (Step.alloc hp) rfl (fun a ha => upd_ne fun z => s.there ha (z ▸ hp)) fun a f => (Step.alloc (g := g) hp).tr a (s.tr a f)
theorem StH.froze (s : StH c g H t) (hp : H p = none) : StH c (g.add p) (upd H p o) t :=
  s.step (Step.froze hp hp) rfl (fun a ha => upd_ne fun z => s.there ha (z ▸ hp)) fun a f => by
    rcases f with f | rfl
    · exact (Step.alloc (g := g) hp).tr a (s.tr a f)
    · rw [upd_same]; simp
end

/-! ### wishes -/
/-- the data d is handed on -/
def KD (c : Cn) (g : Gh) (H : Hp) (t : T) (d : D) (Q : VK) : Prop :=
  ∀ v g' H', Step g H g' H' → StH c g' H' t → Rep c g' H' v d → Q v H'
/-- a new list, held by no one -/
def KL (c : Cn) (g : Gh) (H : Hp) (t : T) (ds : List D) (Q : VK) : Prop :=
  ∀ p vs g' H', Step g H g' H' → StH c g' H' t → H' p = none → Reps c g' H' vs ds → ds.length ≤ sz → Q (.ref p) (upd H' p (.lst vs))
def KF (fr : Bool) (c : Cn) (g : Gh) (H : Hp) (t : T) (d : D) (Q : VK) : Prop :=
  match fr, d with
  | true, .lst ds => KL c g H t ds Q
  | _, d => KD c g H t d Q
theorem KD.kl {c : Cn} {g : Gh} {H : Hp} {t : T} {ds : List D} {Q : VK} (k : KD c g H t (.lst ds) Q) : KL c g H t ds Q := fun p vs g' H' st s hp r l =>
  k _ (g'.add p) _ (st.trans (Step.froze hp hp)) (s.froze hp) ⟨p, vs, rfl, .inr rfl, upd_same, Reps.mono ((Step.froze (o := .lst vs) hp hp).mo s) ds vs r, l⟩
theorem KD.kf {fr : Bool} {c : Cn} {g : Gh} {H : Hp} {t : T} {d : D} {Q : VK} (k : KD c g H t d Q) : KF fr c g H t d Q := by
  unfold KF
  split
  · exact k.kl
  · exact k

/-- data that is looked at: a list may still be changed later -/
def RepP (c : Cn) (g : Gh) (H : Hp) (v : V) : D → Prop
  | .lst ds => ∃ a vs, v = .ref a ∧ a ∉ g.ob ∧ H a = some (.lst vs) ∧ Reps c g H vs ds ∧ ds.length ≤ sz
  | d => Rep c g H v d
theorem Rep.peek {c : Cn} {g : Gh} {H : Hp} {t : T} {v : V} {d : D} (s : StH c g H t) (h : Rep c g H v d) : RepP c g H v d := by
  cases d with
  | lst ds => obtain ⟨a, vs, e, f, q, r, l⟩ := h; exact ⟨a, vs, e, fun z => s.nf a z f, q, r, l⟩
  | _ => exact h
theorem RepP.step {c : Cn} {g g' : Gh} {H H' : Hp} {t : T} {v : V} {d : D} (s : StH c g H t) (st : Step g H g' H') (h : RepP c g H v d) : RepP c g' H' v d := by
  cases d with
  | lst ds =>
    obtain ⟨a, vs, e, n, q, r, l⟩ := h
    refine ⟨a, vs, e, fun z => ?_, st.keep a _ q n, Reps.mono (st.mo s) ds vs r, l⟩
    rcases st.obn a z with z | z
    · exact n z
    · rw [z] at q; cases q
  | non => exact h
  | bl _ => exact h
  | int _ => exact h
  | str _ => exact h
  | tup ds => exact Rep.mono (c := c) (st.mo s) (.tup ds) v h
  | scr ns => exact Rep.mono (c := c) (st.mo s) (.scr ns) v h
  | obj n => exact Rep.mono (c := c) (st.mo s) (.obj n) v h

/-! ### a def's frame -/
structure En where
  g : Gh
  H : Hp

def CellR (c : Cn) (en : En) (g : Gh) (H : Hp) (x : Option (Option V)) : Cell → Prop
  | .un => True
  | .val d => ∃ v, x = some (some v) ∧ Rep c g H v d
  | .own ds => ∃ a vs, x = some (some (.ref a)) ∧ H a = some (.lst vs) ∧ Reps c g H vs ds ∧ ds.length ≤ sz ∧ ¬ g.fz a ∧ a ∉ g.ob ∧ en.H a = none
  | .loan ds => ∃ a vs, x = some (some (.ref a)) ∧ H a = some (.lst vs) ∧ Reps c g H vs ds ∧ ds.length ≤ sz ∧ ¬ g.fz a ∧ a ∉ g.ob ∧ en.H a = none
def isOwn : Cell → Bool
  | .own _ => true
  | .loan _ => true
  | _ => false
structure SR (c : Cn) (en : En) (g : Gh) (σ : L2.St) (H : Hp) (ρ : Env) (t : T) : Prop where
  st : StH c g H t
  ent : Step en.g en.H g H
  len : ρ.length = σ.length
  cell : ∀ i, CellR c en g H σ[i]? (look ρ i)
  dis : ∀ i j a, isOwn (look ρ i) = true → isOwn (look ρ j) = true → σ[i]? = some (some (.ref a)) → σ[j]? = some (some (.ref a)) → i = j
theorem CellR.step {c : Cn} {en : En} {g g' : Gh} {H H' : Hp} {t : T} {x : Option (Option V)} {l : Cell} (s : StH c g H t) (st : Step g H g' H') (h : CellR c en g H x l) : CellR c en g' H' x l := by
  have go : ∀ {a : Addr} {vs : List V} {ds : List D}, H a = some (.lst vs) → Reps c g H vs ds → ¬ g.fz a → a ∉ g.ob → H' a = some (.lst vs) ∧ Reps c g' H' vs ds ∧ ¬ g'.fz a ∧ a ∉ g'.ob := fun {a vs ds} q r f n => by
    refine ⟨st.keep a _ q n, Reps.mono (st.mo s) ds vs r, fun z => ?_, fun z => ?_⟩
    · rcases st.fzn a z with z | z
      · exact f z
      · rw [z] at q; cases q
    · rcases st.obn a z with z | z
      · exact n z
      · rw [z] at q; cases q
  cases l with
  | un => trivial
  | val d =>
    obtain ⟨v, e, h⟩ := h
    exact ⟨v, e, Rep.mono (st.mo s) d v h⟩
  | own ds =>
    obtain ⟨a, vs, e, q, r, l, f, n, z⟩ := h
    obtain ⟨h1, h2, h3, h4⟩ := go q r f n
    exact ⟨a, vs, e, h1, h2, l, h3, h4, z⟩
  | loan ds =>
    obtain ⟨a, vs, e, q, r, l, f, n, z⟩ := h
    obtain ⟨h1, h2, h3, h4⟩ := go q r f n
    exact ⟨a, vs, e, h1, h2, l, h3, h4, z⟩
theorem SR.step {c : Cn} {en : En} {g g' : Gh} {σ : L2.St} {H H' : Hp} {ρ : Env} {t t' : T} (s : SR c en g σ H ρ t) (st : Step g H g' H') (s' : StH c g' H' t') : SR c en g' σ H' ρ t' :=
  ⟨s', s.ent.trans st, s.len, fun i => (s.cell i).step s.st st, s.dis⟩

/-! ### slots -/
theorem look_put : ∀ (ρ : Env) (i j : Nat) (l : Cell), look (put ρ i l) j = if i < ρ.length ∧ j = i then l else look ρ j
  | [], i, j, l => by simp [put, look]
  | x :: r, 0, 0, l => by simp [put, look]
  | x :: r, 0, j + 1, l => by simp [put, look]
  | x :: r, i + 1, 0, l => by simp [put, look]
  | x :: r, i + 1, j + 1, l => by
    simp only [put, look, look_put r i j l, List.length_cons, Nat.add_lt_add_iff_right, Nat.add_right_cancel_iff]
theorem put_length : ∀ (ρ : Env) (i : Nat) (l : Cell), (put ρ i l).length = ρ.length
  | [], _, _ => rfl
  | _ :: _, 0, _ => rfl
  | x :: r, i + 1, l => by simp [put, put_length r i l]
theorem look_out : ∀ (ρ : Env) (i : Nat), ρ.length ≤ i → look ρ i = .un
  | [], _, _ => rfl
  | x :: r, 0, h => by simp at h
  | x :: r, i + 1, h => by simpa [look] using look_out r i (by simpa using h)
section
variable {c : Cn} {en : En} {g : Gh} {σ : L2.St} {H : Hp} {ρ : Env} {t : T}
/-- a slot is forgotten -/
theorem SR.forget (s : SR c en g σ H ρ t) (i : Nat) : SR c en g σ H (put ρ i .un) t where
  st := s.st
  ent := s.ent
  len := by rw [put_length]; exact s.len
  cell := fun j => by
    rw [look_put]
    split
    · trivial
    · exact s.cell j
  dis := fun j k a h1 h2 => by
    rw [look_put] at h1 h2
    split at h1
    · cases h1
    · split at h2
      · cases h2
      · exact s.dis j k a h1 h2
theorem SR.unset : ∀ (is : List Nat) {ρ : Env}, SR c en g σ H ρ t → SR c en g σ H (unset ρ is) t
  | [], _, s => s
  | i :: r, _, s => SR.unset r (s.forget i)
/-- a value is stored -/
theorem SR.store (s : SR c en g σ H ρ t) {i : Nat} {v : V} {d : D} (hi : i < ρ.length) (h : Rep c g H v d) : SR c en g (σ.set i (some v)) H (put ρ i (.val d)) t where
  st := s.st
  ent := s.ent
  len := by rw [put_length, List.length_set]; exact s.len
  cell := fun j => by
    rw [look_put]
    by_cases hj : j = i
    · subst hj
      rw [if_pos ⟨hi, rfl⟩, List.getElem?_set_self (by rw [← s.len]; exact hi)]
      exact ⟨v, rfl, h⟩
    · rw [if_neg (fun z => hj z.2), List.getElem?_set_ne (Ne.symm hj)]
      exact s.cell j
  dis := fun j k a h1 h2 e1 e2 => by
    rw [look_put] at h1 h2
    split at h1
    · cases h1
    · rename_i n1
      split at h2
      · cases h2
      · rename_i n2
        have hj : j ≠ i := fun z => n1 ⟨hi, z⟩
        have hk : k ≠ i := fun z => n2 ⟨hi, z⟩
        rw [List.getElem?_set_ne (Ne.symm hj)] at e1
        rw [List.getElem?_set_ne (Ne.symm hk)] at e2
        exact s.dis j k a h1 h2 e1 e2
/-- a new list is stored as one's own -/
theorem SR.storeOwn (s : SR c en g σ H ρ t) {i : Nat} {p : Addr} {vs : List V} {ds : List D} (hi : i < ρ.length) (hp : H p = none) (r : Reps c g H vs ds) (l : ds.length ≤ sz) :
    SR c en g (σ.set i (some (.ref p))) (upd H p (.lst vs)) (put ρ i (.own ds)) t := by
  have st1 : Step g H g (upd H p (.lst vs)) := Step.alloc hp
  have s1 := s.step st1 (s.st.alloc hp)
  have nf : ¬ g.fz p := fun z => s.st.tr p z hp
  have no : p ∉ g.ob := fun z => s.st.there z hp
  have ne : en.H p = none := by
    cases e : en.H p with
    | none => rfl
    | some o => exact absurd hp (s.ent.tr p (by rw [e]; simp))
  have other : ∀ j, isOwn (look ρ j) = true → σ[j]? ≠ some (some (.ref p)) := fun j hj e => by
    have q := s.cell j
    cases hl : look ρ j with
    | un => rw [hl] at hj; cases hj
    | val d => rw [hl] at hj; cases hj
    | own ds =>
      rw [hl] at q
      obtain ⟨a, ws, e1, e2, _⟩ := q
      rw [e] at e1; cases e1; rw [hp] at e2; cases e2
    | loan ds =>
      rw [hl] at q
      obtain ⟨a, ws, e1, e2, _⟩ := q
      rw [e] at e1; cases e1; rw [hp] at e2; cases e2
  refine ⟨s1.st, s1.ent, by rw [put_length, List.length_set]; exact s.len, fun j => ?_, fun j k a h1 h2 e1 e2 => ?_⟩
  · rw [look_put]
    by_cases hj : j = i
    · subst hj
      rw [if_pos ⟨hi, rfl⟩, List.getElem?_set_self (by rw [← s.len]; exact hi)]
      exact ⟨p, vs, rfl, upd_same, Reps.mono (st1.mo s.st) ds vs r, l, nf, no, ne⟩
    · rw [if_neg (fun z => hj z.2), List.getElem?_set_ne (Ne.symm hj)]
      exact s1.cell j
  · rw [look_put] at h1 h2
    by_cases hj : j = i
    · by_cases hk : k = i
      · rw [hj, hk]
      · rw [if_neg (fun z => hk z.2)] at h2
        rw [List.getElem?_set_ne (Ne.symm hk)] at e2
        rw [hj, List.getElem?_set_self (by rw [← s.len]; exact hi)] at e1
        cases e1
        exact absurd e2 (other k h2)
    · rw [if_neg (fun z => hj z.2)] at h1
      rw [List.getElem?_set_ne (Ne.symm hj)] at e1
      by_cases hk : k = i
      · rw [hk, List.getElem?_set_self (by rw [← s.len]; exact hi)] at e2
        cases e2
        exact absurd e1 (other j h1)
      · rw [if_neg (fun z => hk z.2)] at h2
        rw [List.getElem?_set_ne (Ne.symm hk)] at e2
        exact s.dis j k a h1 h2 e1 e2
/-- one's own list is changed -/
theorem SR.change (s : SR c en g σ H ρ t) {i : Nat} {a : Addr} {vs ws : List V} {ds es : List D} (hl : look ρ i = .own ds) (hi : σ[i]? = some (some (.ref a))) (ha : H a = some (.lst vs))
    (r : Reps c g H ws es) (l : es.length ≤ sz) : SR c en g σ (upd H a (.lst ws)) (put ρ i (.own es)) t := by
  have hil : i < ρ.length := by
    by_cases h : i < ρ.length
    · exact h
    · rw [look_out ρ i (by omega)] at hl; cases hl
  have q := s.cell i
  rw [hl] at q
  obtain ⟨a', vs', e1, e2, _, _, nf, no, ne⟩ := q
  rw [hi] at e1; cases e1
  have other : ∀ b, b ≠ a → (upd H a (.lst ws)) b = H b := fun b h => upd_ne h
  have m : Mo g H g (upd H a (.lst ws)) := ⟨fun b h => ⟨h, other b fun z => nf (z ▸ h)⟩, List.prefix_refl _⟩
  have st : StH c g (upd H a (.lst ws)) t := ⟨s.st.len, s.st.nd, s.st.nf, fun b h => by rw [other b fun z => nf (z ▸ h)]; exact s.st.tr b h, fun j b o h1 h2 => (s.st.obs j b o h1 h2).mono m (other b fun z => no (z ▸ List.mem_of_getElem? h1))⟩
  refine ⟨st, ⟨s.ent.pre, s.ent.fzm, s.ent.fzn, s.ent.obn, fun b o h n => ?_, fun b h => ?_⟩, by rw [put_length]; exact s.len, fun j => ?_, fun j k b h1 h2 f1 f2 => ?_⟩
  · have hb : b ≠ a := fun z => by rw [z, ne] at h; cases h
    rw [other b hb]; exact s.ent.keep b o h n
  · by_cases hb : b = a
    · rw [hb, upd_same]; simp
    · rw [other b hb]; exact s.ent.tr b h
  · rw [look_put]
    by_cases hj : j = i
    · rw [if_pos ⟨hil, hj⟩, hj, hi]
      exact ⟨a, ws, rfl, upd_same, Reps.mono m es ws r, l, nf, no, ne⟩
    · rw [if_neg (fun z => hj z.2)]
      have q := s.cell j
      have d := s.dis j i
      cases hq : look ρ j with
      | un => trivial
      | val d =>
        rw [hq] at q
        obtain ⟨v, h1, h2⟩ := q
        exact ⟨v, h1, Rep.mono m d v h2⟩
      | own ds' =>
        rw [hq] at q d
        obtain ⟨b, us, h1, h2, h3, h4, h5, h6, h7⟩ := q
        have hb : b ≠ a := fun z => hj (d b rfl (by rw [hl]; rfl) h1 (z ▸ hi))
        exact ⟨b, us, h1, (other b hb).trans h2, Reps.mono m _ _ h3, h4, h5, h6, h7⟩
      | loan ds' =>
        rw [hq] at q d
        obtain ⟨b, us, h1, h2, h3, h4, h5, h6, h7⟩ := q
        have hb : b ≠ a := fun z => hj (d b rfl (by rw [hl]; rfl) h1 (z ▸ hi))
        exact ⟨b, us, h1, (other b hb).trans h2, Reps.mono m _ _ h3, h4, h5, h6, h7⟩
  · have o : ∀ m, isOwn (look (put ρ i (.own es)) m) = true → isOwn (look ρ m) = true := fun m h => by
      rw [look_put] at h
      split at h
      · rename_i z; rw [z.2, hl]; rfl
      · exact h
    exact s.dis j k b (o j h1) (o k h2) f1 f2
/-- one's own list is handed out: it is never changed again -/
theorem SR.freeze1 (s : SR c en g σ H ρ t) (i : Nat) : ∃ g', Mo g H g' H ∧ SR c en g' σ H (put ρ i (frz (look ρ i))) t := by
  cases hl : look ρ i with
  | own ds =>
    have hil : i < ρ.length := by
      by_cases h : i < ρ.length
      · exact h
      · rw [look_out ρ i (by omega)] at hl; cases hl
    have q := s.cell i
    rw [hl] at q
    obtain ⟨a, vs, e1, e2, e3, e4, nf, no, ne⟩ := q
    have m : Mo g H (g.add a) H := ⟨fun b h => ⟨.inl h, rfl⟩, List.prefix_refl _⟩
    refine ⟨g.add a, m, ⟨⟨s.st.len, s.st.nd, fun b hb f => ?_, fun b f => ?_, fun j b o h1 h2 => (s.st.obs j b o h1 h2).mono m rfl⟩, ⟨s.ent.pre, fun b h => .inl (s.ent.fzm b h), fun b h => ?_, s.ent.obn, s.ent.keep, s.ent.tr⟩, by rw [put_length]; exact s.len, fun j => ?_, fun j k b h1 h2 f1 f2 => ?_⟩⟩
    · rcases f with f | rfl
      · exact s.st.nf b hb f
      · exact no hb
    · rcases f with f | rfl
      · exact s.st.tr b f
      · rw [e2]; simp
    · rcases h with h | rfl
      · exact s.ent.fzn b h
      · exact .inr ne
    · rw [look_put]
      by_cases hj : j = i
      · rw [if_pos ⟨hil, hj⟩, hj, e1]
        exact ⟨.ref a, rfl, a, vs, rfl, .inr rfl, e2, Reps.mono m ds vs e3, e4⟩
      · rw [if_neg (fun z => hj z.2)]
        have q := s.cell j
        have d := s.dis j i
        have nb : ∀ b, ¬ g.fz b → b ≠ a → ¬ (g.add a).fz b := fun b h n z => z.elim h n
        cases hq : look ρ j with
        | un => trivial
        | val d =>
          rw [hq] at q
          obtain ⟨v, h1, h2⟩ := q
          exact ⟨v, h1, Rep.mono m d v h2⟩
        | own ds' =>
          rw [hq] at q d
          obtain ⟨b, us, h1, h2, h3, h4, h5, h6, h7⟩ := q
          have hb : b ≠ a := fun z => hj (d b rfl (by rw [hl]; rfl) h1 (z ▸ e1))
          exact ⟨b, us, h1, h2, Reps.mono m _ _ h3, h4, nb b h5 hb, h6, h7⟩
        | loan ds' =>
          rw [hq] at q d
          obtain ⟨b, us, h1, h2, h3, h4, h5, h6, h7⟩ := q
          have hb : b ≠ a := fun z => hj (d b rfl (by rw [hl]; rfl) h1 (z ▸ e1))
          exact ⟨b, us, h1, h2, Reps.mono m _ _ h3, h4, nb b h5 hb, h6, h7⟩
    · have o : ∀ m, isOwn (look (put ρ i (frz (.own ds))) m) = true → isOwn (look ρ m) = true := fun m h => by
        rw [look_put] at h
        split at h
        · cases h
        · exact h
      exact s.dis j k b (o j h1) (o k h2) f1 f2
  | un =>
    refine ⟨g, Mo.refl, ?_⟩
    have e : put ρ i (frz .un) = put ρ i .un := rfl
    rw [e]; exact s.forget i
  | val d =>
    refine ⟨g, Mo.refl, ?_⟩
    have e : ∀ j, look (put ρ i (frz (.val d))) j = look ρ j := fun j => by
      rw [look_put]; split
      · rename_i z; rw [z.2, hl]; rfl
      · rfl
    exact ⟨s.st, s.ent, by rw [put_length]; exact s.len, fun j => by rw [e]; exact s.cell j, fun j k a => by rw [e, e]; exact s.dis j k a⟩
  | loan d =>
    refine ⟨g, Mo.refl, ?_⟩
    have e : ∀ j, look (put ρ i (frz (.loan d))) j = look ρ j := fun j => by
      rw [look_put]; split
      · rename_i z; rw [z.2, hl]; rfl
      · rfl
    exact ⟨s.st, s.ent, by rw [put_length]; exact s.len, fun j => by rw [e]; exact s.cell j, fun j k a => by rw [e, e]; exact s.dis j k a⟩
theorem SR.freeze : ∀ (is : List Nat) {g : Gh} {ρ : Env}, SR c en g σ H ρ t → ∃ g', Mo g H g' H ∧ SR c en g' σ H (frzAll ρ is) t
  | [], g, _, s => ⟨g, Mo.refl, s⟩
  | i :: r, g, ρ, s => by
    obtain ⟨g1, m1, s1⟩ := s.freeze1 i
    obtain ⟨g2, m2, s2⟩ := SR.freeze r s1
    exact ⟨g2, m1.trans m2, s2⟩
end
end Pd
set_option Elab.async false
set_option linter.all false
set_option maxRecDepth 100000
set_option autoImplicit false
/-! Pd: dicts whose keys are tuples: what is done with them. -/
namespace Pd
open PySem PySem.Spec PyProof.Rows L2 TL Bits

section
variable {X : Cx} {c : Cn} {g : Gh} {pins : List (Addr × Obj)} {σ : L2.St} {H : Hp} {s : Shared} {a b : Addr} {xs : List Ent} {kvs : List (D × D)} {dk : D} {k : NestedKey}
theorem dic_room (hu : X.A.units + 64 < cLine) : (nestedKind X.prog X.w).room X.A.in1 := by
  show X.A.units + 1 + 8 < cLine
  omega
theorem dic_at (I : Inv X pins σ H s) (ha : H a = some (DicO X.prog X.w a xs)) (R : DRel c g H xs kvs) : s.heap.DictKeyed (nestedKind X.prog X.w) a (pairsH xs) ∧ (a == sysModules) = false ∧ xs.length ≤ sizeLine ∧ (xs.map (·.1)).Nodup := by
  have B := dic_get I ha
  have D0 := B.keyed (R.keys I)
  obtain ⟨h1, h2, _, _, _, _, _, _, _, h7⟩ := B
  exact ⟨⟨xs, D0, rfl⟩, h1, h2, h7⟩
theorem dic_key (I : Inv X pins σ H s) (rk : Rep c g H (.ref b) dk) (hk : keyD dk = some k) : (nestedKind X.prog X.w).is s.heap k b :=
  ⟨nested_of I dk _ _ k rk rfl (keyD_nk hk).1, (keyD_nk hk).2⟩
theorem dic_val (hk : keyD dk = some k) (R : DRel c g H xs kvs) : (∀ d, dget dk kvs = some d → ∃ u v, valueAt (pairsH xs) k = some u ∧ L2.RelV v u ∧ Rep c g H v d) ∧ (dget dk kvs = none → valueAt (pairsH xs) k = none) := by
  have h := DRel.at hk R
  rw [valueAt_pairsH]
  refine ⟨fun d e => ?_, fun e => ?_⟩
  · rw [e] at h
    obtain ⟨b, u, v, h1, h2, h3⟩ := h
    exact ⟨u, v, by rw [h1]; rfl, h2, h3⟩
  · rw [e] at h
    rw [show atKey xs k = none from h]; rfl
theorem dic_some (hk : keyD dk = some k) (R : DRel c g H xs kvs) : (valueAt (pairsH xs) k).isSome = (dget dk kvs).isSome := by
  obtain ⟨h1, h2⟩ := dic_val hk R
  cases e : dget dk kvs with
  | none => rw [h2 e]; rfl
  | some d => obtain ⟨u, v, q, _⟩ := h1 d e; rw [q]; rfl
theorem dic_in (hu : X.A.units + 64 < cLine) (I : Inv X pins σ H s) (ha : H a = some (DicO X.prog X.w a xs)) (R : DRel c g H xs kvs) (rk : Rep c g H (.ref b) dk) (hk : keyD dk = some k) {Q : VK} (q : Q (.bl (dget dk kvs).isSome) H) :
    wpAny (model X.prog X.w) X.A (compareOp .In (.ref b) (.ref a)) (EP X pins σ Q) X.xe s := by
  obtain ⟨d1, d2, _, _⟩ := dic_at I ha R
  refine in_keyed (dic_room hu) (dic_key I rk hk) d2 d1 ?_
  rw [dic_some hk R]
  exact ⟨.bl (dget dk kvs).isSome, H, I.tok _, rfl, q⟩
theorem dic_notIn (hu : X.A.units + 64 < cLine) (I : Inv X pins σ H s) (ha : H a = some (DicO X.prog X.w a xs)) (R : DRel c g H xs kvs) (rk : Rep c g H (.ref b) dk) (hk : keyD dk = some k) {Q : VK} (q : Q (.bl (!(dget dk kvs).isSome)) H) :
    wpAny (model X.prog X.w) X.A (compareOp .NotIn (.ref b) (.ref a)) (EP X pins σ Q) X.xe s := by
  obtain ⟨d1, d2, _, _⟩ := dic_at I ha R
  refine notIn_keyed (dic_room hu) (dic_key I rk hk) d2 d1 ?_
  rw [dic_some hk R]
  exact ⟨.bl (!(dget dk kvs).isSome), H, I.tok _, rfl, q⟩
theorem dic_item (hu : X.A.units + 64 < cLine) (I : Inv X pins σ H s) (ha : H a = some (DicO X.prog X.w a xs)) (R : DRel c g H xs kvs) (rk : Rep c g H (.ref b) dk) (hk : keyD dk = some k) {d : D} (hd : dget dk kvs = some d) {Q : VK} (q : ∀ v, Rep c g H v d → Q v H) :
    wpAny (model X.prog X.w) X.A (getItem (.ref a) (.ref b)) (EP X pins σ Q) X.xe s := by
  obtain ⟨d1, _, _, _⟩ := dic_at I ha R
  obtain ⟨u, v, e, rv, r⟩ := (dic_val hk R).1 d hd
  exact getItem_keyed (dic_room hu) (dic_key I rk hk) d1 e ⟨v, H, I.tok _, rv, q v r⟩
theorem dic_getOr (hu : X.A.units + 64 < cLine) (I : Inv X pins σ H s) (ha : H a = some (DicO X.prog X.w a xs)) (R : DRel c g H xs kvs) (rk : Rep c g H (.ref b) dk) (hk : keyD dk = some k) {x : V} {ux : Value} {dx : D} (rx : L2.RelV x ux) (rd : Rep c g H x dx) {Q : VK} (q : ∀ v, Rep c g H v ((dget dk kvs).getD dx) → Q v H) :
    wpAny (model X.prog X.w) X.A (PySem.call (.builtin "dict.get") [.ref a, .ref b, ux]) (EP X pins σ Q) X.xe s := by
  obtain ⟨d1, d2, _, _⟩ := dic_at I ha R
  refine getOr_keyed (dic_room hu) (dic_key I rk hk) d2 d1 ?_
  obtain ⟨h1, h2⟩ := dic_val hk R
  cases e : dget dk kvs with
  | none =>
    rw [h2 e]
    exact ⟨x, H, I.tok _, rx, q x (by rw [e]; exact rd)⟩
  | some d =>
    obtain ⟨u, v, eu, rv, r⟩ := h1 d e
    rw [eu]
    exact ⟨v, H, I.tok _, rv, q v (by rw [e]; exact r)⟩
theorem dic_get1 (hu : X.A.units + 64 < cLine) (I : Inv X pins σ H s) (ha : H a = some (DicO X.prog X.w a xs)) (R : DRel c g H xs kvs) (rk : Rep c g H (.ref b) dk) (hk : keyD dk = some k) {Q : VK} (q : ∀ v, Rep c g H v ((dget dk kvs).getD .non) → Q v H) :
    wpAny (model X.prog X.w) X.A (PySem.call (.builtin "dict.get") [.ref a, .ref b]) (EP X pins σ Q) X.xe s := by
  obtain ⟨d1, d2, _, _⟩ := dic_at I ha R
  refine get_keyed (dic_room hu) (dic_key I rk hk) d2 d1 ?_
  obtain ⟨h1, h2⟩ := dic_val hk R
  cases e : dget dk kvs with
  | none =>
    rw [h2 e]
    exact ⟨.non, H, I.tok _, rfl, q .non (by rw [e]; rfl)⟩
  | some d =>
    obtain ⟨u, v, eu, rv, r⟩ := h1 d e
    rw [eu]
    exact ⟨v, H, I.tok _, rv, q v (by rw [e]; exact r)⟩
theorem dic_set (hu : X.A.units + 64 < cLine) (I : Inv X pins σ H s) (ha : H a = some (DicO X.prog X.w a xs)) (R : DRel c g H xs kvs) (rk : Rep c g H (.ref b) dk) (hk : keyD dk = some k) (hz : kvs.length < sz) {x : V} {ux : Value} {dx : D} (rx : L2.RelV x ux) (rd : Rep c g H x dx) {Q : Hp → Prop}
    (q : DRel c g H (storedH xs k b ux) (dput dk dx kvs) → Q (upd H a (DicO X.prog X.w a (storedH xs k b ux)))) :
    wpAny (model X.prog X.w) X.A (setItem (.ref a) (.ref b) ux) (fun _ s' => ∃ H', Inv X pins σ H' s' ∧ Q H') X.xe s := by
  have B := dic_get I ha
  have D0 := B.keyed (R.keys I)
  obtain ⟨h1, h2, _, _, _, _, _, _, _, h7⟩ := B
  refine wpAny_setItem_heap (hsz := h2) (dic_room hu) (dic_key I rk hk) D0 fun h' hm' hs => ?_
  have R' := DRel.put hk rk rx rd h7 R
  have hl : (storedH xs k b ux).length ≤ sizeLine := by
    rw [szL]
    have l := R.length
    unfold storedH
    split
    · rw [List.length_map]; omega
    · rw [List.length_append]; simp; omega
  have B' : entB X.prog X.w h' a (storedH xs k b ux) := entB.of h1 hl hm'
  have hob : ∃ o, h'.get? a = some o := by obtain ⟨o, _, _, ho, _⟩ := hm'; exact ⟨o, ho⟩
  exact ⟨_, I.write (x := a) (e := a) (by rw [ha]; exact trivial) (.inl rfl) (fun b' u hb hu' => (hs.2 b' hb).trans hu') hob (dic_ok B'), q R'⟩
end
section
variable {X : Cx} {pos : Pos}
/-- {} -/
theorem pe_dicNew : PE X (.Dict [] [] pos) (fun _ H Q => ∀ p, H p = none → Q (.ref p) (upd H p (DicO X.prog X.w p []))) := ⟨fun pins s σ H Q I h => by
  refine wpAny_Dict_empty ⟨.ref s.heap.objs.size, _, I.laid (a := s.heap.objs.size) (o := DicO X.prog X.w s.heap.objs.size []) (t' := s.toks) (fun _ _ q => Heap.get?_push_of_some _ q) (Nat.le_refl _) (dic_ok ?_), rfl, h _ (I.hok.fresh (Nat.le_refl _))⟩
  exact ⟨beq_eq_false_iff_ne.mpr (Ne.symm (Nat.ne_of_lt I.big)), Nat.zero_le _, _, #[], 0, Heap.get?_push_size _ rfl, ⟨rfl, rfl, rfl⟩, rfl, rfl, List.nodup_nil⟩⟩
end
end Pd
set_option Elab.async false
set_option linter.all false
set_option maxRecDepth 100000
set_option autoImplicit false
/-! Pd: dicts of the table, either kind: what is done with them. -/
namespace Pd
open PySem PySem.Spec PyProof.Rows L2 TL Bits

/-! ### keys -/
mutual
theorem nkB_nk : ∀ (k : Nat) (d : D), nkB k d = true → ∃ x, nkD d = some x ∧ x.depth ≤ k
  | k, .non, _ => ⟨.none, rfl, by simp [NestedKey.depth]⟩
  | k, .int i, _ => ⟨.num i, rfl, by simp [NestedKey.depth]⟩
  | k, .str s, _ => ⟨.text _, rfl, by simp [NestedKey.depth]⟩
  | k, .tup xs, h => by
    cases k with
    | zero => cases h
    | succ k =>
      obtain ⟨ks, e, l⟩ := nkBs_nk k xs (by simpa [nkB] using h)
      exact ⟨.tup ks, by simp only [nkD, e]; rfl, by simp only [NestedKey.depth]; omega⟩
  | _, .bl _, h => by simp [nkB] at h
  | _, .lst _, h => by simp [nkB] at h
  | _, .scr _, h => by simp [nkB] at h
  | _, .obj _, h => by simp [nkB] at h
theorem nkBs_nk : ∀ (k : Nat) (ds : List D), nkBs k ds = true → ∃ xs, nkDs ds = some xs ∧ NestedKey.depthAll xs ≤ k
  | k, [], _ => ⟨[], rfl, by simp [NestedKey.depthAll]⟩
  | k, d :: ds, h => by
    simp only [nkBs, Bool.and_eq_true] at h
    obtain ⟨x, e1, l1⟩ := nkB_nk k d h.1
    obtain ⟨xs, e2, l2⟩ := nkBs_nk k ds h.2
    exact ⟨x :: xs, by simp only [nkDs, e1, e2]; rfl, by simp only [NestedKey.depthAll]; omega⟩
end
theorem keyB_t {d : D} (h : keyB true d = true) : ∃ k, keyD d = some k ∧ ∀ c g H v, Rep c g H v d → ∃ b, v = .ref b := by
  cases d with
  | tup xs =>
    obtain ⟨x, e, l⟩ := nkB_nk 8 (.tup xs) h
    refine ⟨x, ?_, fun c g H v r => ?_⟩
    · show (nkD (.tup xs)).bind _ = _
      rw [e]
      exact if_pos l
    · obtain ⟨a, vs, e, _⟩ := r; exact ⟨a, e⟩
  | _ => simp [keyB] at h
theorem keyB_f {d : D} (h : keyB false d = true) : ∃ k, keyA d = some k ∧ ∀ c g H v, Rep c g H v d → v = kV k := by
  cases d with
  | int i => exact ⟨.inl i, rfl, fun c g H v r => r⟩
  | str s => exact ⟨.inr _, rfl, fun c g H v r => r.1⟩
  | _ => simp [keyB] at h
theorem keyB_rep {k : Bool} {c : Cn} {g : Gh} {H : Hp} {v : V} {d : D} (h : keyB k d = true) (r : RepP c g H v d) : Rep c g H v d := by
  cases d with
  | lst ds => cases k <;> simp [keyB] at h
  | _ => exact r

/-! ### the table's object is changed -/
theorem StH.setOb {c : Cn} {g : Gh} {H : Hp} {t : T} {n : Nat} {a : Addr} {o o' : Ob} {u : HO} (s : StH c g H t) (ha : g.ob[n]? = some a) (ho : t[n]? = some o) (h : ObR c g (upd H a u) a o') :
    Step g H g (upd H a u) ∧ StH c g (upd H a u) (t.set n o') := by
  have hm : a ∈ g.ob := List.mem_of_getElem? ha
  have nf : ∀ b, g.fz b → b ≠ a := fun b hb z => s.nf a hm (z ▸ hb)
  have m : Mo g H g (upd H a u) := ⟨fun b hb => ⟨hb, upd_ne (nf b hb)⟩, List.prefix_refl _⟩
  refine ⟨⟨List.prefix_refl _, fun _ h => h, fun _ h => .inl h, fun _ h => .inl h, fun b ob h1 h2 => by
      have hb : b ≠ a := fun z => h2 (by rw [z]; exact hm)
      rw [upd_ne hb]; exact h1, fun b hb => ?_⟩,
    ⟨by rw [List.length_set]; exact s.len, s.nd, s.nf, fun b hb => by rw [upd_ne (nf b hb)]; exact s.tr b hb, fun i b ob h1 h2 => ?_⟩⟩
  · by_cases hba : b = a
    · subst hba; rw [upd_same]; simp
    · rw [upd_ne hba]; exact hb
  · by_cases hi : i = n
    · subst hi
      rw [ha] at h1; cases h1
      rw [List.getElem?_set_self (List.getElem?_eq_some_iff.mp ho).1] at h2
      cases h2
      exact h
    · rw [List.getElem?_set_ne (Ne.symm hi)] at h2
      have hb : b ≠ a := fun z => by
        subst z
        have q1 := (List.getElem?_eq_some_iff.mp h1)
        have q2 := (List.getElem?_eq_some_iff.mp ha)
        exact hi ((List.getElem_inj s.nd).mp (q1.2.trans q2.2.symm))
      exact (s.obs i b ob h1 h2).mono m (upd_ne hb)
theorem mo_ob {c : Cn} {g : Gh} {H : Hp} {t : T} {n : Nat} {a : Addr} {u : HO} (s : StH c g H t) (ha : g.ob[n]? = some a) : Mo g H g (upd H a u) :=
  ⟨fun b hb => ⟨hb, upd_ne fun z => s.nf a (List.mem_of_getElem? ha) (z ▸ hb)⟩, List.prefix_refl _⟩

section
variable {X : Cx} {c : Cn} {g : Gh} {pins : List (Addr × Obj)} {σ : L2.St} {H : Hp} {s : Shared} {t : T} {n : Nat} {kb : Bool} {kvs : List (D × D)} {dk : D} {x y : V} {u : Value} {a : Addr}
/-- what lies at a dict of the table -/
theorem dct_ob (hs : StH c g H t) (hx : Rep c g H x (.obj n)) (ht : t[n]? = some (.dct kb kvs)) : ∃ a, x = .ref a ∧ g.ob[n]? = some a ∧ ObR c g H a (.dct kb kvs) := by
  obtain ⟨a, rfl, q⟩ := hx
  exact ⟨a, rfl, q, hs.obs n a _ q ht⟩
theorem dct_type (hP : c.prog = X.prog) (hW : c.w = X.w) (I : Inv X pins σ H s) (h : ObR c g H a (.dct kb kvs)) : s.TypeIs (.ref a) "dict" ∧ ∀ b, Value.ref a = .ref b → ∃ ob, s.heap.get? b = some ob ∧ ob.dict = none := by
  cases kb with
  | false =>
    obtain ⟨ks, e, _, _⟩ := h
    obtain ⟨h1, h2, _⟩ := isD_at I (.inl ⟨ks, .inl e⟩)
    exact ⟨h1, h2⟩
  | true =>
    obtain ⟨xs, e, R⟩ := h
    rw [hP, hW] at e
    have B := dic_get I e
    have D0 := B.keyed (R.keys I)
    obtain ⟨_, _, ob, _, _, h1, h2, _⟩ := B
    exact ⟨D0.typeIs, fun b q => by cases q; exact ⟨ob, h1, h2.2.1⟩⟩
theorem getV (h : ObR c g H a (.dct false kvs)) (hy : Rep c g H y dk) (hk : keyB false dk = true) : ∃ ks o, H a = some (.dK ks) ∧ DGet H a y o ∧ o.isSome = (dget dk kvs).isSome ∧ (∀ d, dget dk kvs = some d → ∃ v, o = some v ∧ Rep c g H v d) ∧ (dget dk kvs = none → o = none) := by
  obtain ⟨ks, e, nd, R⟩ := h
  obtain ⟨k, ek, hv⟩ := keyB_f hk
  have q := KRel.at ek R
  rw [hv _ _ _ _ hy]
  refine ⟨ks, valV ks k, e, DGet.k e, ?_⟩
  cases hd : dget dk kvs with
  | none =>
    rw [hd] at q
    have q : valV ks k = none := q
    exact ⟨by rw [q]; rfl, fun d z => (by cases z), fun _ => q⟩
  | some d =>
    rw [hd] at q
    obtain ⟨v, h1, h2⟩ := q
    exact ⟨by rw [h1]; rfl, fun d' z => by cases z; exact ⟨v, h1, h2⟩, fun z => (by cases z)⟩
theorem dct_in (hP : c.prog = X.prog) (hW : c.w = X.w) (hu : X.A.units + 64 < cLine) (I : Inv X pins σ H s) (h : ObR c g H a (.dct kb kvs)) (hy : Rep c g H y dk) (ry : L2.RelV y u) (hk : keyB kb dk = true) {Q : VK} (q : Q (.bl (dget dk kvs).isSome) H) :
    wpAny (model X.prog X.w) X.A (compareOp .In u (.ref a)) (EP X pins σ Q) X.xe s := by
  cases kb with
  | false =>
    obtain ⟨ks, o, e, G, e2, _, _⟩ := getV h hy hk
    refine d_in (by omega) I G ry fun s' I' => ⟨.bl (dget dk kvs).isSome, H, I', ?_, q⟩
    rw [e2]; rfl
  | true =>
    obtain ⟨xs, e, R⟩ := h
    rw [hP, hW] at e
    obtain ⟨k, ek, hv⟩ := keyB_t hk
    obtain ⟨b, rfl⟩ := hv _ _ _ _ hy
    cases ry
    exact dic_in hu I e R hy ek q
theorem dct_notIn (hP : c.prog = X.prog) (hW : c.w = X.w) (hu : X.A.units + 64 < cLine) (I : Inv X pins σ H s) (h : ObR c g H a (.dct kb kvs)) (hy : Rep c g H y dk) (ry : L2.RelV y u) (hk : keyB kb dk = true) {Q : VK} (q : Q (.bl (!(dget dk kvs).isSome)) H) :
    wpAny (model X.prog X.w) X.A (compareOp .NotIn u (.ref a)) (EP X pins σ Q) X.xe s := by
  cases kb with
  | false =>
    obtain ⟨ks, o, e, G, e2, _, _⟩ := getV h hy hk
    refine d_notIn (by omega) I G ry fun s' I' => ⟨.bl (!(dget dk kvs).isSome), H, I', ?_, q⟩
    rw [e2]; rfl
  | true =>
    obtain ⟨xs, e, R⟩ := h
    rw [hP, hW] at e
    obtain ⟨k, ek, hv⟩ := keyB_t hk
    obtain ⟨b, rfl⟩ := hv _ _ _ _ hy
    cases ry
    exact dic_notIn hu I e R hy ek q
theorem dct_item (hP : c.prog = X.prog) (hW : c.w = X.w) (hu : X.A.units + 64 < cLine) (I : Inv X pins σ H s) (h : ObR c g H a (.dct kb kvs)) (hy : Rep c g H y dk) (ry : L2.RelV y u) (hk : keyB kb dk = true) {d : D} (hd : dget dk kvs = some d) {Q : VK} (q : ∀ v, Rep c g H v d → Q v H) :
    wpAny (model X.prog X.w) X.A (getItem (.ref a) u) (EP X pins σ Q) X.xe s := by
  cases kb with
  | false =>
    obtain ⟨ks, o, e, G, _, e3, _⟩ := getV h hy hk
    obtain ⟨v, rfl, rv⟩ := e3 d hd
    exact d_getItem (by omega) I G ry fun w' s' I' rw' => ⟨v, H, I', rw', q v rv⟩
  | true =>
    obtain ⟨xs, e, R⟩ := h
    rw [hP, hW] at e
    obtain ⟨k, ek, hv⟩ := keyB_t hk
    obtain ⟨b, rfl⟩ := hv _ _ _ _ hy
    cases ry
    exact dic_item hu I e R hy ek hd q
theorem dct_get1 (hP : c.prog = X.prog) (hW : c.w = X.w) (hu : X.A.units + 64 < cLine) (I : Inv X pins σ H s) (h : ObR c g H a (.dct kb kvs)) (hy : Rep c g H y dk) (ry : L2.RelV y u) (hk : keyB kb dk = true) {Q : VK} (q : ∀ v, Rep c g H v ((dget dk kvs).getD .non) → Q v H) :
    wpAny (model X.prog X.w) X.A (PySem.call (.builtin "dict.get") [.ref a, u]) (EP X pins σ Q) X.xe s := by
  cases kb with
  | false =>
    obtain ⟨ks, o, e, G, _, e3, e4⟩ := getV h hy hk
    refine d_get1 (by omega) I G ry fun w' s' I' rw' => ⟨o.getD .non, H, I', rw', q _ ?_⟩
    cases hd : dget dk kvs with
    | none => rw [e4 hd]; exact rfl
    | some d => obtain ⟨v, rfl, rv⟩ := e3 d hd; exact rv
  | true =>
    obtain ⟨xs, e, R⟩ := h
    rw [hP, hW] at e
    obtain ⟨k, ek, hv⟩ := keyB_t hk
    obtain ⟨b, rfl⟩ := hv _ _ _ _ hy
    cases ry
    exact dic_get1 hu I e R hy ek q
theorem dct_get2 (hP : c.prog = X.prog) (hW : c.w = X.w) (hu : X.A.units + 64 < cLine) (I : Inv X pins σ H s) (h : ObR c g H a (.dct kb kvs)) (hy : Rep c g H y dk) (ry : L2.RelV y u) (hk : keyB kb dk = true) {z : V} {uz : Value} {dz : D} (rz : L2.RelV z uz) (hz : Rep c g H z dz) {Q : VK} (q : ∀ v, Rep c g H v ((dget dk kvs).getD dz) → Q v H) :
    wpAny (model X.prog X.w) X.A (PySem.call (.builtin "dict.get") [.ref a, u, uz]) (EP X pins σ Q) X.xe s := by
  cases kb with
  | false =>
    obtain ⟨ks, o, e, G, _, e3, e4⟩ := getV h hy hk
    refine d_get2 (by omega) I G ry rz fun w' s' I' rw' => ⟨o.getD z, H, I', rw', q _ ?_⟩
    cases hd : dget dk kvs with
    | none => rw [e4 hd]; exact hz
    | some d => obtain ⟨v, rfl, rv⟩ := e3 d hd; exact rv
  | true =>
    obtain ⟨xs, e, R⟩ := h
    rw [hP, hW] at e
    obtain ⟨k, ek, hv⟩ := keyB_t hk
    obtain ⟨b, rfl⟩ := hv _ _ _ _ hy
    cases ry
    exact dic_getOr hu I e R hy ek rz hz q
theorem valV_putK (ks : List (Key × V)) (k : Key) (v : V) : (putK ks k v).map (·.1) = ks.map (·.1) ∨ (valV ks k = none ∧ (putK ks k v).map (·.1) = ks.map (·.1) ++ [k]) := by
  unfold putK
  rw [valV_any]
  by_cases hs : (valV ks k).isSome = true
  · rw [if_pos hs]
    left
    rw [List.map_map]
    apply List.map_congr_left
    intro p _
    show (if p.1 = k then (p.1, v) else p).1 = p.1
    split <;> rfl
  · rw [if_neg hs]
    right
    exact ⟨by simpa using hs, by rw [List.map_append]; rfl⟩
theorem valV_mem : ∀ {ks : List (Key × V)} {k : Key}, valV ks k = none → k ∉ ks.map (·.1)
  | [], k, _ => by simp
  | p :: ks, k, h => by
    by_cases hp : p.1 = k
    · rw [valV_pos hp] at h; cases h
    · rw [valV_neg hp] at h
      rw [List.map_cons, List.mem_cons]
      rintro (z | z)
      · exact hp z.symm
      · exact valV_mem h z
theorem putK_nodup {ks : List (Key × V)} {k : Key} {v : V} (nd : (ks.map (·.1)).Nodup) : ((putK ks k v).map (·.1)).Nodup := by
  rcases valV_putK ks k v with e | ⟨e1, e⟩
  · rw [e]; exact nd
  · rw [e]
    refine List.nodup_append.mpr ⟨nd, by simp, fun a ha b hb z => ?_⟩
    rw [List.mem_singleton.mp hb] at z
    exact valV_mem e1 (z ▸ ha)
/-- d[k] = v -/
theorem dct_set (hP : c.prog = X.prog) (hW : c.w = X.w) (hu : X.A.units + 64 < cLine) (I : Inv X pins σ H s) (hs : StH c g H t) (ha : g.ob[n]? = some a) (ht : t[n]? = some (.dct kb kvs)) (hy : Rep c g H y dk) (ry : L2.RelV y u) (hk : keyB kb dk = true) (hz : kvs.length < sz) {z : V} {uz : Value} {dz : D} (rz : L2.RelV z uz) (hv : Rep c g H z dz) {Q : Hp → Prop}
    (q : ∀ o, ObR c g (upd H a o) a (.dct kb (dput dk dz kvs)) → Q (upd H a o)) :
    wpAny (model X.prog X.w) X.A (setItem (.ref a) u uz) (fun _ s' => ∃ H', Inv X pins σ H' s' ∧ Q H') X.xe s := by
  have h := hs.obs n a _ ha ht
  cases kb with
  | false =>
    obtain ⟨ks, e, nd, R⟩ := h
    obtain ⟨k, ek, hkv⟩ := keyB_f hk
    rw [hkv _ _ _ _ hy] at ry
    have hl : ks.length < sizeLine := by rw [szL, R.length]; exact hz
    refine d_setItem (by omega) I (DPut.k e hl) ry rz fun s' I' => ⟨_, I', q _ ⟨_, upd_same, putK_nodup nd, KRel.mono (mo_ob hs ha) (KRel.put ek ?_ hv nd R)⟩⟩
    have hy2 := hy
    rw [hkv _ _ _ _ hy] at hy2
    exact hy2
  | true =>
    obtain ⟨xs, e, R⟩ := h
    have e2 := e
    rw [hP, hW] at e
    obtain ⟨k, ek, hkv⟩ := keyB_t hk
    obtain ⟨b, rfl⟩ := hkv _ _ _ _ hy
    cases ry
    refine dic_set hu I e R hy ek hz rz hv (Q := Q) fun R' => q _ ⟨_, ?_, DRel.mono (mo_ob hs ha) R'⟩
    rw [hP, hW]; exact upd_same
/-- d.setdefault(k, v) -/
theorem dct_setd (hP : c.prog = X.prog) (hW : c.w = X.w) (hu : X.A.units + 64 < cLine) (I : Inv X pins σ H s) (hs : StH c g H t) (ha : g.ob[n]? = some a) (ht : t[n]? = some (.dct kb kvs)) (hy : Rep c g H y dk) (ry : L2.RelV y u) (hk : keyB kb dk = true) (hz : kvs.length < sz) {z : V} {uz : Value} {dz : D} (rz : L2.RelV z uz) (hv : Rep c g H z dz) {Q : VK}
    (q1 : ∀ d v, dget dk kvs = some d → Rep c g H v d → Q v H) (q2 : dget dk kvs = none → ∀ o, ObR c g (upd H a o) a (.dct kb (dput dk dz kvs)) → Q z (upd H a o)) :
    wpAny (model X.prog X.w) X.A (PySem.call (.builtin "dict.setdefault") [.ref a, u, uz]) (EP X pins σ Q) X.xe s := by
  have h := hs.obs n a _ ha ht
  cases kb with
  | false =>
    obtain ⟨ks, e, nd, R⟩ := h
    obtain ⟨k, ek, hkv⟩ := keyB_f hk
    rw [hkv _ _ _ _ hy] at ry
    have hl : ks.length < sizeLine := by rw [szL, R.length]; exact hz
    have at_ := KRel.at ek R
    refine d_setd I e ry rz hl (fun v hv' w' s' I' rw' => ?_) fun hn w' s' I' rw' => ?_
    · cases hd : dget dk kvs with
      | none =>
        rw [hd] at at_
        have at_ : valV ks k = none := at_
        rw [at_] at hv'; cases hv'
      | some d =>
        rw [hd] at at_
        obtain ⟨v2, e1, e2⟩ := at_
        rw [e1] at hv'; cases hv'
        exact ⟨_, H, I', rw', q1 d _ hd e2⟩
    · cases hd : dget dk kvs with
      | some d =>
        rw [hd] at at_
        obtain ⟨v2, e1, e2⟩ := at_
        rw [e1] at hn; cases hn
      | none =>
        refine ⟨z, _, I', rw', q2 hd _ ⟨_, upd_same, putK_nodup nd, KRel.mono (mo_ob hs ha) (KRel.put ek ?_ hv nd R)⟩⟩
        have hy2 := hy
        rw [hkv _ _ _ _ hy] at hy2
        exact hy2
  | true =>
    obtain ⟨xs, e, R⟩ := h
    rw [hP, hW] at e
    obtain ⟨k, ek, hkv⟩ := keyB_t hk
    obtain ⟨b, rfl⟩ := hkv _ _ _ _ hy
    cases ry
    have B := dic_get I e
    have D0 := B.keyed (R.keys I)
    obtain ⟨h1, h2, _, _, _, _, _, _, _, h7⟩ := B
    have at_ := DRel.at ek R
    refine call_setdefault_heap (hsz := h2) (dic_room hu) (dic_key I hy ek) h1 D0 (fun p hp => ?_) fun hn h' hm' hsb => ?_
    · cases hd : dget dk kvs with
      | none =>
        rw [hd] at at_
        have at_ : atKey xs k = none := at_
        rw [at_] at hp; cases hp
      | some d =>
        rw [hd] at at_
        obtain ⟨b', u', v', e1, e2, e3⟩ := at_
        rw [e1] at hp; cases hp
        exact ⟨v', H, I.tok _, e2, q1 d v' hd e3⟩
    · cases hd : dget dk kvs with
      | some d =>
        rw [hd] at at_
        obtain ⟨b', u', v', e1, e2, e3⟩ := at_
        rw [e1] at hn; cases hn
      | none =>
        have R' := DRel.put ek hy rz hv h7 R
        have hl : (storedH xs k b uz).length ≤ sizeLine := by
          rw [szL]
          have l := R.length
          unfold storedH
          split
          · rw [List.length_map]; omega
          · rw [List.length_append]; simp; omega
        have B' : entB X.prog X.w h' a (storedH xs k b uz) := entB.of h1 hl hm'
        have hob : ∃ o, h'.get? a = some o := by obtain ⟨o, _, _, ho, _⟩ := hm'; exact ⟨o, ho⟩
        refine ⟨z, _, I.write (x := a) (e := a) (by rw [e]; exact trivial) (.inl rfl) (fun b' u hb hu' => (hsb.2 b' hb).trans hu') hob (dic_ok B'), rz, q2 hd _ ⟨_, ?_, DRel.mono (mo_ob hs ha) R'⟩⟩
        rw [hP, hW]; exact upd_same
end
end Pd
set_option Elab.async false
set_option linter.all false
set_option maxRecDepth 100000
set_option autoImplicit false
/-! Pd: each operation on data is what the machine does. -/
namespace Pd
open PySem PySem.Spec PyProof.Rows L2 TL Bits

section
variable {c : Cn} {g : Gh} {H : Hp} {t : T} {Q : VK}
theorem KD.here {v : V} {d : D} (k : KD c g H t d Q) (s : StH c g H t) (r : Rep c g H v d) : Q v H := k v g H Step.refl s r
theorem KD.tup {vs : List V} {ds : List D} (k : KD c g H t (.tup ds) Q) (s : StH c g H t) (r : Reps c g H vs ds) (l : ds.length ≤ sz) : ∀ p, H p = none → Q (.ref p) (upd H p (.tup vs)) := fun p hp =>
  k _ (g.add p) _ (Step.froze hp hp) (s.froze hp) ⟨p, vs, rfl, .inr rfl, upd_same, Reps.mono ((Step.froze (o := .tup vs) hp hp).mo s) ds vs r, l⟩
theorem KL.lst {vs : List V} {ds : List D} (k : KL c g H t ds Q) (s : StH c g H t) (r : Reps c g H vs ds) (l : ds.length ≤ sz) : ∀ p, H p = none → Q (.ref p) (upd H p (.lst vs)) := fun p hp =>
  k p vs g H Step.refl s hp r l
end

def bop : Bo → Operator
  | .add => .Add
  | .sub => .Sub
  | .mul => .Mult
  | .fdiv => .FloorDiv
  | .mod => .Mod
  | .pow => .Pow
  | .shl => .LShift
  | .shr => .RShift
  | .band => .BitAnd
  | .bor => .BitOr
  | .bxor => .BitXor

def rBin (c : Cn) (o : Bo) : R2 := fun x y H Q => ∃ g t dx dy d, StH c g H t ∧ RepP c g H x dx ∧ RepP c g H y dy ∧ binD o dx dy = some d ∧ KF true c g H t d Q

theorem str_app (a b : List Nat) : ((⟨a.toArray⟩ : PySem.Str) ++ (⟨b.toArray⟩ : PySem.Str)) = ⟨(a ++ b).toArray⟩ := ext_tl (by rw [tl_append, tl_mk, tl_mk, tl_mk])
theorem str_len (a : List Nat) : (⟨a.toArray⟩ : PySem.Str).length = a.length := by simp [PySem.Str.length]
theorem bitAnd_pp {x y : Int} (hx : 0 ≤ x) (hy : 0 ≤ y) : Builtin.bitAnd x y = ((x.toNat &&& y.toNat : Nat) : Int) := by
  unfold Builtin.bitAnd
  rw [decide_eq_true hx, decide_eq_true hy]

section
variable {X : Cx} {c : Cn}
theorem op_bin (hK : c.K = X.K) (o : Bo) : OpR X (binaryOp (bop o)) (rBin c o) := by
  intro pins s σ H x y v u Q I rx ry h
  obtain ⟨g, t, dx, dy, d, hs, hx, hy, hb, hk⟩ := h
  cases o with
  | add =>
    cases dx with
    | int a =>
      cases dy with
      | int b =>
        cases hx; cases hy; cases hb
        exact op_add pins s σ H _ _ v u Q I rx ry ⟨a, b, rfl, rfl, KD.here hk hs rfl⟩
      | _ => cases hb
    | str a =>
      cases dy with
      | str b =>
        obtain ⟨rfl, ha⟩ := hx
        obtain ⟨rfl, hb2⟩ := hy
        by_cases hl : a.length + b.length ≤ sz
        · rw [binD, if_pos hl] at hb; cases hb
          refine op_add_str pins s σ H _ _ v u Q I rx ry ⟨_, _, rfl, rfl, by rw [str_len, str_len, szL]; exact hl, ?_⟩
          rw [str_app]
          refine KD.here hk hs ⟨rfl, by rw [List.length_append]; exact hl, fun x hx => ?_⟩
          rcases List.mem_append.mp hx with hx | hx
          · exact ha.2 x hx
          · exact hb2.2 x hx
        · rw [binD, if_neg hl] at hb; cases hb
      | _ => cases hb
    | tup a =>
      cases dy with
      | tup b =>
        obtain ⟨p, vs, rfl, f1, e1, r1, l1⟩ := hx
        obtain ⟨q, ws, rfl, f2, e2, r2, l2⟩ := hy
        by_cases hl : a.length + b.length ≤ sz
        · rw [binD, if_pos hl] at hb; cases hb
          have k : KD c g H t (.tup (a ++ b)) Q := hk
          have n1 := Reps.length r1
          have n2 := Reps.length r2
          refine op_catA pins s σ H _ _ v u Q I rx ry ⟨p, q, vs, ws, rfl, rfl, SqT.of e1, SqT.of e2, by rw [n1, n2, szL]; exact hl, fun z => ?_, fun z1 z2 => ?_, fun z1 z2 => ?_⟩
          · subst z
            have : a = [] := List.length_eq_zero_iff.mp n1.symm
            subst this
            exact KD.here k hs ⟨q, ws, rfl, f2, e2, r2, l2⟩
          · subst z2
            have : b = [] := List.length_eq_zero_iff.mp n2.symm
            subst this
            rw [List.append_nil] at k
            exact KD.here k hs ⟨p, vs, rfl, f1, e1, r1, l1⟩
          · exact KD.tup k hs (Reps.append r1 r2) (by rw [List.length_append]; exact hl)
        · rw [binD, if_neg hl] at hb; cases hb
      | _ => cases hb
    | lst a =>
      cases dy with
      | lst b =>
        obtain ⟨p, vs, rfl, f1, e1, r1, l1⟩ := hx
        obtain ⟨q, ws, rfl, f2, e2, r2, l2⟩ := hy
        by_cases hl : a.length + b.length ≤ sz
        · rw [binD, if_pos hl] at hb; cases hb
          have k : KL c g H t (a ++ b) Q := hk
          exact op_cat pins s σ H _ _ v u Q I rx ry ⟨p, q, vs, ws, rfl, rfl, e1, e2, by rw [Reps.length r1, Reps.length r2, szL]; exact hl, KL.lst k hs (Reps.append r1 r2) (by rw [List.length_append]; exact hl)⟩
        · rw [binD, if_neg hl] at hb; cases hb
      | _ => cases hb
    | _ => cases hb
  | sub =>
    cases dx with
    | int a =>
      cases dy with
      | int b =>
        cases hx; cases hy; cases hb
        exact op_sub pins s σ H _ _ v u Q I rx ry ⟨a, b, rfl, rfl, KD.here hk hs rfl⟩
      | _ => cases hb
    | _ => cases hb
  | mul =>
    cases dx with
    | int a =>
      cases dy with
      | int b =>
        cases hx; cases hy
        by_cases hl : bits a + bits b < 1000000
        · rw [binD, if_pos hl] at hb; cases hb
          exact op_mulW pins s σ H _ _ v u Q I rx ry ⟨a, b, rfl, rfl, hl, KD.here hk hs rfl⟩
        · rw [binD, if_neg hl] at hb; cases hb
      | _ => cases hb
    | _ => cases hb
  | fdiv =>
    cases dx with
    | int a =>
      cases dy with
      | int b =>
        cases hx; cases hy
        by_cases hl : 0 < b ∧ bits b < 9000
        · rw [binD, if_pos hl] at hb; cases hb
          exact op_fdivW pins s σ H _ _ v u Q I rx ry ⟨a, b, rfl, rfl, hl, KD.here hk hs rfl⟩
        · rw [binD, if_neg hl] at hb; cases hb
      | _ => cases hb
    | _ => cases hb
  | mod =>
    cases dx with
    | int a =>
      cases dy with
      | int b =>
        cases hx; cases hy
        by_cases hl : 0 < b
        · rw [binD, if_pos hl] at hb; cases hb
          exact op_mod pins s σ H _ _ v u Q I rx ry ⟨a, b, rfl, rfl, hl, KD.here hk hs rfl⟩
        · rw [binD, if_neg hl] at hb; cases hb
      | _ => cases hb
    | _ => cases hb
  | pow =>
    cases dx with
    | int a =>
      cases dy with
      | int b =>
        cases hx; cases hy
        by_cases hl : 0 ≤ b ∧ b ≤ 1000000 ∧ a.natAbs < 2 ^ 64
        · rw [binD, if_pos hl] at hb; cases hb
          exact op_pow pins s σ H _ _ v u Q I rx ry ⟨a, b, rfl, rfl, hl, KD.here hk hs rfl⟩
        · rw [binD, if_neg hl] at hb; cases hb
      | _ => cases hb
    | _ => cases hb
  | shl =>
    cases dx with
    | int a =>
      cases dy with
      | int b =>
        cases hx; cases hy
        by_cases hl : 0 ≤ b ∧ b ≤ 1000000 ∧ a.natAbs < 2 ^ 64
        · rw [binD, if_pos hl] at hb; cases hb
          exact op_shl pins s σ H _ _ v u Q I rx ry ⟨a, b, rfl, rfl, hl, KD.here hk hs rfl⟩
        · rw [binD, if_neg hl] at hb; cases hb
      | _ => cases hb
    | _ => cases hb
  | shr =>
    cases dx with
    | int a =>
      cases dy with
      | int b =>
        cases hx; cases hy
        by_cases hl : 0 ≤ b
        · rw [binD, if_pos hl] at hb; cases hb
          exact op_shr pins s σ H _ _ v u Q I rx ry ⟨a, b, rfl, rfl, hl, KD.here hk hs rfl⟩
        · rw [binD, if_neg hl] at hb; cases hb
      | _ => cases hb
    | _ => cases hb
  | band =>
    cases dx with
    | int a =>
      cases dy with
      | int b =>
        cases hx; cases hy
        by_cases hl : 0 ≤ a ∧ 0 ≤ b
        · rw [binD, if_pos hl] at hb; cases hb
          exact op_and pins s σ H _ _ v u Q I rx ry ⟨a, b, rfl, rfl, by show Q (V.int (Builtin.bitAnd a b)) H; rw [bitAnd_pp hl.1 hl.2]; exact KD.here hk hs rfl⟩
        · rw [binD, if_neg hl] at hb; cases hb
      | _ => cases hb
    | _ => cases hb
  | bor =>
    cases dx with
    | int a =>
      cases dy with
      | int b =>
        cases hx; cases hy
        by_cases hl : 0 ≤ a ∧ 0 ≤ b
        · rw [binD, if_pos hl] at hb; cases hb
          exact op_or pins s σ H _ _ v u Q I rx ry ⟨a, b, rfl, rfl, by show Q (V.int (Builtin.bitOr a b)) H; rw [bitOr_pp hl.1 hl.2]; exact KD.here hk hs rfl⟩
        · rw [binD, if_neg hl] at hb; cases hb
      | _ => cases hb
    | _ => cases hb
  | bxor =>
    cases dx with
    | int a =>
      cases dy with
      | int b =>
        cases hx; cases hy
        by_cases hl : 0 ≤ a ∧ 0 ≤ b
        · rw [binD, if_pos hl] at hb; cases hb
          exact op_xor pins s σ H _ _ v u Q I rx ry ⟨a, b, rfl, rfl, by show Q (V.int (Builtin.bitXor a b)) H; rw [bitXor_pp hl.1 hl.2]; exact KD.here hk hs rfl⟩
        · rw [binD, if_neg hl] at hb; cases hb
      | _ => cases hb
    | _ => cases hb
end

/-! ### what a value is, by what H tells -/
section
variable {c : Cn} {g : Gh} {H : Hp} {t : T} {v : V}
theorem RepP.sqL {ds : List D} (h : RepP c g H v (.lst ds)) : ∃ a vs, v = .ref a ∧ H a = some (.lst vs) ∧ Reps c g H vs ds ∧ ds.length ≤ sz := by
  obtain ⟨a, vs, e, _, q, r, l⟩ := h; exact ⟨a, vs, e, q, r, l⟩
theorem scr_sq {ns : List Int} (h : Rep c g H v (.scr ns)) : ∃ a, v = .ref a ∧ SqL c.K H a (ns.map V.int) ∧ ns.length ≤ 1000 := by
  obtain ⟨a, e, l, q⟩ := h
  refine ⟨a, e, ?_, l⟩
  rcases q with ⟨_, q⟩ | ⟨o, its, n, q⟩
  · exact .inl q
  · exact .inr ⟨o, its, n, q⟩
theorem obj_at {n : Nat} {o : Ob} (s : StH c g H t) (h : Rep c g H v (.obj n)) (e : t[n]? = some o) : ∃ a, v = .ref a ∧ g.ob[n]? = some a ∧ ObR c g H a o := by
  obtain ⟨a, rfl, q⟩ := h
  exact ⟨a, rfl, q, s.obs n a o q e⟩
end

/-! ### truth, len -/
section
variable {X : Cx} {c : Cn}
def rTru (c : Cn) (x : V) (H : Hp) (Q : Bool → Hp → Prop) : Prop := ∃ g t d b, StH c g H t ∧ RepP c g H x d ∧ truthD t d = some b ∧ Q b H
theorem ne0 {α : Type} (xs : List α) : (!xs.isEmpty) = ((xs.length : Int) != 0) := by cases xs <;> simp <;> omega
theorem empty_of {vs : List V} {ds : List D} {g : Gh} {H : Hp} (r : Reps c g H vs ds) : (!vs.isEmpty) = !ds.isEmpty := by
  have e := Reps.length r
  cases vs <;> cases ds <;> simp at e ⊢
theorem tru_of (hK : c.K = X.K) {x : V} {H : Hp} {g : Gh} {t : T} {d : D} {b : Bool} (s : StH c g H t) (h : RepP c g H x d) (e : truthD t d = some b) : TruV X.K x H b := by
  cases d with
  | non => cases h; cases e; rfl
  | bl k => cases h; cases e; rfl
  | int i => cases h; cases e; rfl
  | str z =>
    obtain ⟨rfl, l⟩ := h
    cases e
    refine ⟨by rw [str_len, szL]; exact l.1, ?_⟩
    rw [str_len]; exact ne0 z
  | tup ds =>
    obtain ⟨a, vs, rfl, _, q, r, l⟩ := h
    cases e
    exact .inr (.inl ⟨vs, SqT.of q, (empty_of r).symm⟩)
  | lst ds =>
    obtain ⟨a, vs, rfl, _, q, r, l⟩ := h
    cases e
    exact .inl ⟨vs, SqL.of q, (empty_of r).symm⟩
  | scr ns =>
    obtain ⟨a, rfl, q, l⟩ := scr_sq h
    cases e
    rw [hK] at q
    exact .inl ⟨_, q, by cases ns <;> rfl⟩
  | obj n =>
    cases ho : t[n]? with
    | none => simp [truthD, ho] at e
    | some o =>
      cases o with
      | lst xs =>
        simp only [truthD, ho, Option.some.injEq] at e
        obtain ⟨a, rfl, _, vs, q, r, l⟩ := obj_at s h ho
        exact .inl ⟨vs, SqL.of q, by rw [← e]; exact (empty_of r).symm⟩
      | _ => simp [truthD, ho] at e
theorem op_tru (hK : c.K = X.K) : TruR X (rTru c) := by
  intro pins s σ H x v Q I rx h
  obtain ⟨g, t, d, b, hs, hx, e, q⟩ := h
  exact tru_ok pins s σ H x v Q I rx ⟨b, tru_of hK hs hx e, q⟩
def rLen (c : Cn) : List V → Hp → VK → Prop := fun xs H Q => ∃ x g t d n, xs = [x] ∧ StH c g H t ∧ RepP c g H x d ∧ lenD t d = some n ∧ Q (.int (n : Int)) H
theorem op_len (hK : c.K = X.K) : CallR X (.builtin "len") (rLen c) := by
  intro pins s σ H xs us Q I r h
  obtain ⟨x, g, t, d, n, rfl, hs, hx, e, qq⟩ := h
  refine call_len pins s σ H [x] us Q I r ⟨x, n, rfl, ?_, qq⟩
  cases d with
  | str z =>
    obtain ⟨rfl, l⟩ := hx
    cases e
    exact ⟨by rw [str_len, szL]; exact l.1, (str_len z).symm⟩
  | tup ds =>
    obtain ⟨a, vs, rfl, _, q, rr, l⟩ := hx
    cases e
    exact .inr ⟨vs, SqT.of q, (Reps.length rr).symm⟩
  | lst ds =>
    obtain ⟨a, vs, rfl, _, q, rr, l⟩ := hx
    cases e
    exact .inl ⟨vs, SqL.of q, (Reps.length rr).symm⟩
  | scr ns =>
    obtain ⟨a, rfl, q, l⟩ := scr_sq hx
    cases e
    rw [hK] at q
    exact .inl ⟨_, q, by simp⟩
  | obj m =>
    cases ho : t[m]? with
    | none => simp [lenD, ho] at e
    | some o =>
      cases o with
      | lst xs =>
        simp only [lenD, ho, Option.some.injEq] at e
        obtain ⟨a, rfl, _, vs, q, rr, l⟩ := obj_at hs hx ho
        exact .inl ⟨vs, SqL.of q, by rw [← e]; exact (Reps.length rr).symm⟩
      | _ => simp [lenD, ho] at e
  | non => cases e
  | bl _ => cases e
  | int _ => cases e
end
end Pd
set_option Elab.async false
set_option linter.all false
set_option maxRecDepth 100000
set_option autoImplicit false
namespace Pd
open PySem PySem.Spec PyProof.Rows L2 TL Bits

/-! ### == of data -/
mutual
def toPy : D → PyData
  | .non => .none
  | .bl b => .bool b
  | .int i => .int i
  | .str s => .str ⟨s.toArray⟩
  | .tup xs => .tuple (toPys xs)
  | .lst xs => .list (toPys xs)
  | .scr _ => .none
  | .obj _ => .none
def toPys : List D → List PyData
  | [] => []
  | x :: xs => toPy x :: toPys xs
end
theorem str_beq (x y : List Nat) : ((⟨x.toArray⟩ : PySem.Str) == ⟨y.toArray⟩) = (x == y) := by
  rw [Bool.beq_eq_decide_eq, Bool.beq_eq_decide_eq]
  congr 1
  exact propext ⟨fun h => by have := congrArg PySem.Str.cps h; simpa using this, fun h => by rw [h]⟩
mutual
theorem eqv_py (k : Nat) : ∀ x y : D, shp k x = true → shp k y = true → PyData.eqv (toPy x) (toPy y) = eqv x y
  | .non, y, _, h => by cases y <;> first | rfl | cases h | (simp [toPy, PyData.eqv, eqv])
  | .bl a, y, _, h => by cases y <;> first | rfl | cases h | (simp [toPy, PyData.eqv, eqv, b2i])
  | .int a, y, _, h => by cases y <;> first | rfl | cases h | (simp [toPy, PyData.eqv, eqv, b2i])
  | .str a, y, _, h => by
    cases y with
    | str b => simp only [toPy, PyData.eqv, eqv]; exact str_beq a b
    | scr _ => cases h
    | obj _ => cases h
    | _ => simp [toPy, PyData.eqv, eqv]
  | .tup xs, y, g, h => by
    cases y with
    | tup ys =>
      cases k with
      | zero => cases g
      | succ k =>
        simp only [toPy, PyData.eqv, eqv]
        exact eqvs_py k xs ys (by simpa [shp] using g) (by simpa [shp] using h)
    | scr _ => cases h
    | obj _ => cases h
    | _ => simp [toPy, PyData.eqv, eqv]
  | .lst xs, y, g, h => by
    cases y with
    | lst ys =>
      cases k with
      | zero => cases g
      | succ k =>
        simp only [toPy, PyData.eqv, eqv]
        exact eqvs_py k xs ys (by simpa [shp] using g) (by simpa [shp] using h)
    | scr _ => cases h
    | obj _ => cases h
    | _ => simp [toPy, PyData.eqv, eqv]
  | .scr _, _, g, _ => by cases g
  | .obj _, _, g, _ => by cases g
theorem eqvs_py (k : Nat) : ∀ xs ys : List D, shps k xs = true → shps k ys = true → PyData.eqvAll (toPys xs) (toPys ys) = eqvs xs ys
  | [], [], _, _ => by simp [toPys, PyData.eqvAll, eqvs]
  | [], y :: ys, _, _ => by simp [toPys, PyData.eqvAll, eqvs]
  | x :: xs, [], _, _ => by simp [toPys, PyData.eqvAll, eqvs]
  | x :: xs, y :: ys, g, h => by
    simp only [shps, Bool.and_eq_true] at g h
    simp only [toPys, PyData.eqvAll, eqvs, eqv_py k x y g.1 h.1, eqvs_py k xs ys g.2 h.2]
end
section
variable {c : Cn} {g : Gh} {H : Hp}
mutual
theorem Rep.dp {K : PySem.W.Frag} (k : Nat) : ∀ (d : D) (v : V), Rep c g H v d → shp k d = true → Dp K H v (toPy d) ∧ (toPy d).canLay0 = true ∧ (toPy d).depth ≤ k
  | .non, v, h, _ => by cases h; exact ⟨.non, by simp [toPy, PyData.canLay0], by simp [toPy, PyData.depth]⟩
  | .bl b, v, h, _ => by cases h; exact ⟨.bl b, by simp [toPy, PyData.canLay0], by simp [toPy, PyData.depth]⟩
  | .int i, v, h, _ => by cases h; exact ⟨.int i, by simp [toPy, PyData.canLay0], by simp [toPy, PyData.depth]⟩
  | .str s, v, h, _ => by
    obtain ⟨rfl, h1, h2⟩ := h
    refine ⟨.str _, ?_, by simp [toPy, PyData.depth]⟩
    simp only [toPy, PyData.canLay0]
    show (s.toArray).all (· < 0x110000) = true
    simp only [List.all_toArray, List.all_eq_true, decide_eq_true_eq]
    exact h2
  | .tup ds, v, h, g => by
    obtain ⟨a, vs, rfl, _, e, r, _⟩ := h
    cases k with
    | zero => cases g
    | succ k =>
      obtain ⟨h1, h2, h3⟩ := Reps.dp k ds vs r (by simpa [shp] using g)
      exact ⟨.tup (SqT.of e) h1, by simpa only [toPy, PyData.canLay0] using h2, by simp only [toPy, PyData.depth]; omega⟩
  | .lst ds, v, h, g => by
    obtain ⟨a, vs, rfl, _, e, r, _⟩ := h
    cases k with
    | zero => cases g
    | succ k =>
      obtain ⟨h1, h2, h3⟩ := Reps.dp k ds vs r (by simpa [shp] using g)
      exact ⟨.lst (SqL.of e) h1, by simpa only [toPy, PyData.canLay0] using h2, by simp only [toPy, PyData.depth]; omega⟩
  | .scr _, _, _, g => by cases g
  | .obj _, _, _, g => by cases g
theorem Reps.dp {K : PySem.W.Frag} (k : Nat) : ∀ (ds : List D) (vs : List V), Reps c g H vs ds → shps k ds = true → DpAll K H vs (toPys ds) ∧ PyData.canLayAll0 (toPys ds) = true ∧ PyData.depthAll (toPys ds) ≤ k
  | [], vs, h, _ => by cases h; exact ⟨.nil, by simp [toPys, PyData.canLayAll0], by simp [toPys, PyData.depthAll]⟩
  | d :: ds, vs, h, g => by
    obtain ⟨v, r, rfl, h1, h2⟩ := h
    simp only [shps, Bool.and_eq_true] at g
    obtain ⟨a1, a2, a3⟩ := Rep.dp (K := K) k d v h1 g.1
    obtain ⟨b1, b2, b3⟩ := Reps.dp (K := K) k ds r h2 g.2
    exact ⟨.cons a1 b1, by simp only [toPys, PyData.canLayAll0, a2, b2, Bool.and_self], by simp only [toPys, PyData.depthAll]; omega⟩
end
theorem RepP.dp {K : PySem.W.Frag} (k : Nat) {d : D} {v : V} (h : RepP c g H v d) (s : shp k d = true) : Dp K H v (toPy d) ∧ (toPy d).canLay0 = true ∧ (toPy d).depth ≤ k := by
  cases d with
  | lst ds =>
    obtain ⟨a, vs, rfl, _, e, r, _⟩ := h
    cases k with
    | zero => cases s
    | succ k =>
      obtain ⟨h1, h2, h3⟩ := Reps.dp (K := K) k ds vs r (by simpa [shp] using s)
      exact ⟨.lst (SqL.of e) h1, by simpa only [toPy, PyData.canLay0] using h2, by simp only [toPy, PyData.depth]; omega⟩
  | _ => exact Rep.dp (c := c) (g := g) k _ v h s
theorem shaped_of {k : Nat} {d : PyData} (hk : k ≤ 64) (h1 : d.canLay0 = true) (h2 : d.depth ≤ k) : SeqAt.shaped d = true := by
  unfold SeqAt.shaped
  rw [h1, decide_eq_true (by omega : d.depth ≤ 64)]; rfl

/-! ### in -/
theorem flat_of {d : D} {v : V} (h : Rep c g H v d) (f : flat d = true) : flatV v = true := by
  cases d with
  | non => cases h; rfl
  | bl _ => cases h; rfl
  | int _ => cases h; rfl
  | str _ => obtain ⟨rfl, _⟩ := h; rfl
  | _ => cases f
theorem eqV_of {d e : D} {v w : V} (h : Rep c g H v d) (k : Rep c g H w e) (f1 : flat d = true) (f2 : flat e = true) : eqV v w = eqv d e := by
  cases d with
  | non => cases h; cases e <;> first | (cases k; simp [eqV, eqv]; done) | (obtain ⟨rfl, _⟩ := k; simp [eqV, strV, eqv]; done) | cases f2
  | bl _ => cases h; cases e <;> first | (cases k; simp [eqV, eqv, b2i]; done) | (obtain ⟨rfl, _⟩ := k; simp [eqV, strV, eqv]; done) | cases f2
  | int _ => cases h; cases e <;> first | (cases k; simp [eqV, eqv, b2i]; done) | (obtain ⟨rfl, _⟩ := k; simp [eqV, strV, eqv]; done) | cases f2
  | str a =>
    obtain ⟨rfl, _⟩ := h
    cases e with
    | str b =>
      obtain ⟨rfl, _⟩ := k
      simp only [strV, eqV, eqv]; exact str_beq a b
    | non => cases k; simp [eqV, strV, eqv]
    | bl _ => cases k; simp [eqV, strV, eqv]
    | int _ => cases k; simp [eqV, strV, eqv]
    | _ => cases f2
  | _ => cases f1
theorem inV_of {d : D} {v : V} (h : Rep c g H v d) (f : flat d = true) : ∀ {ds : List D} {vs : List V}, Reps c g H vs ds → ds.all flat = true → vs.all flatV = true ∧ inV v vs = ds.any fun y => eqv y d
  | [], _, r, _ => by cases r; exact ⟨rfl, rfl⟩
  | e :: ds, _, r, a => by
    obtain ⟨w, vs, rfl, h1, h2⟩ := r
    rw [List.all_cons, Bool.and_eq_true] at a
    obtain ⟨i1, i2⟩ := inV_of h f h2 a.2
    refine ⟨by rw [List.all_cons, flat_of h1 a.1, i1]; rfl, ?_⟩
    unfold inV at i2 ⊢
    rw [List.any_cons, List.any_cons, i2, eqV_of h1 h a.1 f]
end

def cop : Co → CmpOp
  | .eq => .Eq
  | .ne => .NotEq
  | .lt => .Lt
  | .le => .LtE
  | .gt => .Gt
  | .ge => .GtE
  | .isin => .In
  | .notin => .NotIn
  | .isN => .Is
  | .notN => .IsNot
def rCmp (c : Cn) (o : Co) : R2 := fun x y H Q => ∃ g t dx dy d, StH c g H t ∧ RepP c g H x dx ∧ RepP c g H y dy ∧ cmpD t o dx dy = some d ∧ KD c g H t d Q

section
variable {X : Cx} {c : Cn}
theorem is_non {g : Gh} {H : Hp} {x : V} {d : D} (h : RepP c g H x d) : decide (x = .non) = isNon d := by
  cases d with
  | non => cases h; rfl
  | bl _ => cases h; rfl
  | int _ => cases h; rfl
  | str _ => obtain ⟨rfl, _⟩ := h; rfl
  | tup _ => obtain ⟨a, vs, rfl, _⟩ := h; rfl
  | lst _ => obtain ⟨a, vs, rfl, _⟩ := h; rfl
  | scr _ => obtain ⟨a, rfl, _⟩ := h; rfl
  | obj _ => obtain ⟨a, rfl, _⟩ := h; rfl
theorem in_ok (hK : c.K = X.K) {g : Gh} {H : Hp} {t : T} {x y : V} {dx dy : D} {b : Bool} (hs : StH c g H t) (hx : RepP c g H x dx) (hy : RepP c g H y dy) (e : inD dx dy = some b) :
    (∃ p xs, y = .ref p ∧ (SqL X.K H p xs ∨ SqT X.K H p xs) ∧ flatV x = true ∧ xs.all flatV = true ∧ inV x xs = b) ∨ ∃ (n : Nat) (z : List Nat), x = strV [n] ∧ y = strV z ∧ b = decide (n ∈ z) := by
  cases dy with
  | tup ds =>
    obtain ⟨a, vs, rfl, _, q, r, l⟩ := hy
    by_cases f : (flat dx && ds.all flat) = true
    · simp only [inD, if_pos f, Option.some.injEq] at e
      rw [Bool.and_eq_true] at f
      have hx' : Rep c g H x dx := by cases dx <;> first | exact hx | cases f.1
      obtain ⟨h1, h2⟩ := inV_of hx' f.1 r f.2
      exact .inl ⟨a, vs, rfl, .inr (SqT.of q), flat_of hx' f.1, h1, h2.trans e⟩
    · simp [inD, f] at e
  | lst ds =>
    obtain ⟨a, vs, rfl, _, q, r, l⟩ := hy
    by_cases f : (flat dx && ds.all flat) = true
    · simp only [inD, if_pos f, Option.some.injEq] at e
      rw [Bool.and_eq_true] at f
      have hx' : Rep c g H x dx := by cases dx <;> first | exact hx | cases f.1
      obtain ⟨h1, h2⟩ := inV_of hx' f.1 r f.2
      exact .inl ⟨a, vs, rfl, .inl (SqL.of q), flat_of hx' f.1, h1, h2.trans e⟩
    · simp [inD, f] at e
  | str z =>
    obtain ⟨rfl, _⟩ := hy
    cases dx with
    | str w =>
      obtain ⟨rfl, _⟩ := hx
      match w, e with
      | [n], e =>
        simp only [inD, Option.some.injEq] at e
        exact .inr ⟨n, z, rfl, rfl, e.symm⟩
    | _ => simp [inD] at e
  | _ => simp [inD] at e
theorem is_bl {g : Gh} {H : Hp} {x : V} {d : D} {v : Value} (b : Bool) (h : RepP c g H x d) (rx : L2.RelV x v) : PySem.plainIs v (.bool b) = true ∧ (v == .bool b) = isB b d := by
  cases d with
  | non => cases h; cases rx; exact ⟨rfl, rfl⟩
  | bl a => cases h; cases rx; refine ⟨rfl, ?_⟩; cases a <;> cases b <;> rfl
  | int _ => cases h; obtain ⟨t, rfl⟩ := rx; exact ⟨rfl, rfl⟩
  | str _ => obtain ⟨rfl, _⟩ := h; obtain ⟨t, rfl⟩ := rx; exact ⟨rfl, rfl⟩
  | tup _ => obtain ⟨a, vs, rfl, _⟩ := h; cases rx; exact ⟨rfl, rfl⟩
  | lst _ => obtain ⟨a, vs, rfl, _⟩ := h; cases rx; exact ⟨rfl, rfl⟩
  | scr _ => obtain ⟨a, rfl, _⟩ := h; cases rx; exact ⟨rfl, rfl⟩
  | obj _ => obtain ⟨a, rfl, _⟩ := h; cases rx; exact ⟨rfl, rfl⟩
theorem getD_ob {t : T} {n : Nat} {x : D} {o : Option D} (h : getD t (.obj n) x = some o) : ∃ k kvs, t[n]? = some (.dct k kvs) ∧ keyB k x = true ∧ o = dget x kvs := by
  have h : (match t[n]? with
    | some (Ob.dct k kvs) => some (k, kvs)
    | _ => none : Option (Bool × List (D × D))).bind (fun p => if keyB p.1 x then some (dget x p.2) else none) = some o := h
  cases ht : t[n]? with
  | none => rw [ht] at h; cases h
  | some ob =>
    rw [ht] at h
    cases ob with
    | dct k kvs =>
      have h : (if keyB k x = true then some (dget x kvs) else none) = some o := h
      by_cases hk : keyB k x = true
      · rw [if_pos hk] at h; cases h; exact ⟨k, kvs, rfl, hk, rfl⟩
      · rw [if_neg hk] at h; cases h
    | _ => cases h
theorem op_cmp (hK : c.K = X.K) (hP : c.prog = X.prog) (hW : c.w = X.w) (hu : X.A.units + 64 < cLine) (o : Co) : OpR X (compareOp (cop o)) (rCmp c o) := by
  intro pins s σ H x y v u Q I rx ry h
  obtain ⟨g, t, dx, dy, d, hs, hx, hy, hb, hk⟩ := h
  have twoI : ∀ (p : Int → Int → Bool), (∀ a b, cmpD t o (.int a) (.int b) = some (.bl (p a b))) → (∀ a b, cmpD t o a b ≠ none → ∃ i j, a = .int i ∧ b = .int j) → ∃ i j, x = .int i ∧ y = .int j ∧ Q (.bl (p i j)) H := fun p h1 h2 => by
    obtain ⟨i, j, rfl, rfl⟩ := h2 dx dy (by rw [hb]; simp)
    rw [h1] at hb; cases hb
    cases hx; cases hy
    exact ⟨i, j, rfl, rfl, KD.here hk hs rfl⟩
  cases o with
  | eq =>
    by_cases f : (shp 60 dx && shp 60 dy) = true
    · rw [cmpD, if_pos f] at hb; cases hb
      rw [Bool.and_eq_true] at f
      obtain ⟨a1, a2, a3⟩ := RepP.dp (K := X.K) 60 hx f.1
      obtain ⟨b1, b2, b3⟩ := RepP.dp (K := X.K) 60 hy f.2
      refine op_eqD hu pins s σ H x y v u Q I rx ry ⟨_, _, a1, b1, shaped_of (by decide) a2 a3, shaped_of (by decide) b2 b3, ?_⟩
      rw [eqv_py 60 dx dy f.1 f.2]
      exact KD.here hk hs rfl
    · rw [cmpD, if_neg f] at hb; cases hb
  | ne =>
    by_cases f : (shp 60 dx && shp 60 dy) = true
    · rw [cmpD, if_pos f] at hb; cases hb
      rw [Bool.and_eq_true] at f
      obtain ⟨a1, a2, a3⟩ := RepP.dp (K := X.K) 60 hx f.1
      obtain ⟨b1, b2, b3⟩ := RepP.dp (K := X.K) 60 hy f.2
      refine op_neD hu pins s σ H x y v u Q I rx ry ⟨_, _, a1, b1, shaped_of (by decide) a2 a3, shaped_of (by decide) b2 b3, ?_⟩
      rw [eqv_py 60 dx dy f.1 f.2]
      exact KD.here hk hs rfl
    · rw [cmpD, if_neg f] at hb; cases hb
  | lt => exact op_lt pins s σ H x y v u Q I rx ry (twoI (fun a b => decide (a < b)) (fun _ _ => rfl) (fun a b h => by cases a <;> cases b <;> first | exact ⟨_, _, rfl, rfl⟩ | exact absurd rfl h))
  | le => exact op_le pins s σ H x y v u Q I rx ry (twoI (fun a b => decide (a ≤ b)) (fun _ _ => rfl) (fun a b h => by cases a <;> cases b <;> first | exact ⟨_, _, rfl, rfl⟩ | exact absurd rfl h))
  | gt => exact op_gt pins s σ H x y v u Q I rx ry (twoI (fun a b => decide (b < a)) (fun _ _ => rfl) (fun a b h => by cases a <;> cases b <;> first | exact ⟨_, _, rfl, rfl⟩ | exact absurd rfl h))
  | ge => exact op_ge pins s σ H x y v u Q I rx ry (twoI (fun a b => decide (b ≤ a)) (fun _ _ => rfl) (fun a b h => by cases a <;> cases b <;> first | exact ⟨_, _, rfl, rfl⟩ | exact absurd rfl h))
  | isin =>
    obtain ⟨b, e, rfl⟩ := Option.map_eq_some_iff.mp hb
    have gen : inD dx dy = some b → wpAny (model X.prog X.w) X.A (compareOp (cop .isin) v u) (EP X pins σ Q) X.xe s := fun e => by
      rcases in_ok hK hs hx hy e with ⟨p, xs, rfl, h1, h2, h3, h4⟩ | ⟨n, z, rfl, rfl, rfl⟩
      · refine op_in_seq pins s σ H x _ v u Q I rx ry ⟨p, xs, rfl, h1, h2, h3, ?_⟩
        rw [if_neg (by decide), h4]
        exact KD.here hk hs rfl
      · exact op_in_sign pins s σ H _ _ v u Q I rx ry ⟨n, ⟨z.toArray⟩, rfl, rfl, KD.here hk hs rfl⟩
    cases dy with
    | obj n =>
      obtain ⟨o, e1, e2⟩ := Option.map_eq_some_iff.mp (show (getD t (.obj n) dx).map Option.isSome = some b from e)
      obtain ⟨k, kvs, ht, hkb, rfl⟩ := getD_ob e1
      obtain ⟨a, rfl, _, ob⟩ := dct_ob hs hy ht
      cases ry
      subst e2
      exact dct_in hP hW hu I ob (keyB_rep hkb hx) rx hkb (KD.here hk hs rfl)
    | _ => exact gen e
  | notin =>
    obtain ⟨b, e, rfl⟩ := Option.map_eq_some_iff.mp hb
    have gen : inD dx dy = some b → wpAny (model X.prog X.w) X.A (compareOp (cop .notin) v u) (EP X pins σ Q) X.xe s := fun e => by
      rcases in_ok hK hs hx hy e with ⟨p, xs, rfl, h1, h2, h3, h4⟩ | ⟨n, z, rfl, rfl, rfl⟩
      · refine op_notIn_seq pins s σ H x _ v u Q I rx ry ⟨p, xs, rfl, h1, h2, h3, ?_⟩
        rw [if_pos rfl, h4]
        exact KD.here hk hs rfl
      · exact op_notIn_sign pins s σ H _ _ v u Q I rx ry ⟨n, ⟨z.toArray⟩, rfl, rfl, KD.here hk hs rfl⟩
    cases dy with
    | obj n =>
      obtain ⟨o, e1, e2⟩ := Option.map_eq_some_iff.mp (show (getD t (.obj n) dx).map Option.isSome = some b from e)
      obtain ⟨k, kvs, ht, hkb, rfl⟩ := getD_ob e1
      obtain ⟨a, rfl, _, ob⟩ := dct_ob hs hy ht
      cases ry
      subst e2
      exact dct_notIn hP hW hu I ob (keyB_rep hkb hx) rx hkb (KD.here hk hs rfl)
    | _ => exact gen e
  | isN =>
    cases dy with
    | non =>
      have hb : some (D.bl (isNon dx)) = some d := hb
      cases hb
      refine op_isN pins s σ H x y v u Q I rx ry ⟨hy, ?_⟩
      rw [is_non hx]
      exact KD.here hk hs rfl
    | bl b =>
      have hb : some (D.bl (isB b dx)) = some d := hb
      cases hb
      cases hy
      cases ry
      obtain ⟨h1, h2⟩ := is_bl b hx rx
      refine PySem.wpAny_is_plain h1 ⟨.bl (isB b dx), H, I, ?_, KD.here hk hs rfl⟩
      rw [h2]; rfl
    | _ => simp [cmpD] at hb
  | notN =>
    cases dy with
    | non =>
      have hb : some (D.bl (!isNon dx)) = some d := hb
      cases hb
      refine op_notN pins s σ H x y v u Q I rx ry ⟨hy, ?_⟩
      rw [is_non hx]
      exact KD.here hk hs rfl
    | bl b =>
      have hb : some (D.bl (!isB b dx)) = some d := hb
      cases hb
      cases hy
      cases ry
      obtain ⟨h1, h2⟩ := is_bl b hx rx
      refine PySem.wpAny_isNot_plain h1 ⟨.bl (!isB b dx), H, I, ?_, KD.here hk hs rfl⟩
      rw [h2]; rfl
    | _ => simp [cmpD] at hb
end
end Pd
set_option Elab.async false
set_option linter.all false
set_option maxRecDepth 100000
set_option autoImplicit false
namespace Pd
open PySem PySem.Spec PyProof.Rows L2 TL Bits

/-! ### an item -/
theorem tail_dct {P : Program} {w : World} {A : Around} {E : Value → Shared → Prop} {s1 : Shared} {ve se : Expr} {ov ix : Value} {Q : Value → Shared → Prop} (ty : s1.TypeIs ov "dict") (sub : subscripted se false ov ix = operate [ov, ix] (getItem ov ix)) (h : wpAny (model P w) A (getItem ov ix) Q E s1) : wpAny (model P w) A (subscriptTail ve se ov ix) Q E s1 := by
  have go : wpAny (model P w) A (subscripted se false ov ix) (fun r s2 => wpAny (model P w) A (letTemporaryGo ve ov r >>= fun _ => pure r) Q E s2) E s1 := by
    rw [sub]
    exact wpAny_operating (wpAny_mono h (fun r s2 h2 => wpAny_bind (wpAny_letTemporaryGo (wpAny_pure h2))) fun _ _ z => z)
  unfold subscriptTail
  refine wpAny_bind ?_
  rw [getitemInPython_of_ne ty.not_modules]
  refine wpAny_bind (wpAny_specialOf ty PySem.F.slot_dict_getitem.lookup ?_)
  first
    | exact wpAny_bind go
    | exact wpAny_pure (wpAny_bind go)
    | exact wpAny_bind (wpAny_pure (wpAny_bind go))
theorem atI_eq {α : Type} (xs : List α) (i : Int) : L2.atI xs i = Pd.atI xs i := rfl
theorem atI_reps {c : Cn} {g : Gh} {H : Hp} {ds : List D} {vs : List V} {i : Int} {d : D} (r : Reps c g H vs ds) (e : Pd.atI ds i = some d) : ∃ v, L2.atI vs i = some v ∧ Rep c g H v d := by
  unfold Pd.atI at e
  cases h : Pd.ixN ds.length i with
  | none => rw [h] at e; cases e
  | some j =>
    rw [h] at e
    obtain ⟨v, h1, h2⟩ := Reps.get r e
    refine ⟨v, ?_, h2⟩
    show (Pd.ixN vs.length i).bind _ = _
    rw [Reps.length r, h]; exact h1
def rIxA (c : Cn) : R2 := fun x y H Q => ∃ g t dx dy d, StH c g H t ∧ RepP c g H x dx ∧ RepP c g H y dy ∧ ixD t dx dy = some d ∧ KD c g H t d Q
section
variable {X : Cx} {c : Cn}
theorem op_ix (hK : c.K = X.K) (hP : c.prog = X.prog) (hW : c.w = X.w) (hu : X.A.units + 64 < cLine) : IxR X (rIxA c) := by
  intro value slice pins s σ H x y v u Q I rx ry h hsub
  obtain ⟨g, t, dx, dy, d, hs, hx, hy, hb, hk⟩ := h
  cases dx with
  | str z =>
    obtain ⟨rfl, hz⟩ := hx
    cases dy with
    | int i =>
      cases hy
      obtain ⟨n, e, rfl⟩ := Option.map_eq_some_iff.mp (show (Pd.atI z i).map (fun c => D.str [c]) = some d from hb)
      have hm : n ∈ z := by
        unfold Pd.atI at e
        cases h : Pd.ixN z.length i with
        | none => rw [h] at e; cases e
        | some j => rw [h] at e; exact List.mem_of_getElem? e
      refine ix_str value slice pins s σ H _ _ v u Q I rx ry ⟨⟨z.toArray⟩, i, n, rfl, rfl, by rw [str_len, szL]; exact hz.1, e, ?_⟩ hsub
      exact KD.here hk hs ⟨rfl, by show [n].length ≤ sz; unfold sz; simp, fun x hx => by rw [List.mem_singleton.mp hx]; exact hz.2 n hm⟩
    | _ => cases hb
  | tup ds =>
    obtain ⟨p, vs, rfl, f, q, r, l⟩ := hx
    cases dy with
    | int i =>
      cases hy
      obtain ⟨w, h1, h2⟩ := atI_reps r (show Pd.atI ds i = some d from hb)
      exact ix_tup value slice pins s σ H _ _ v u Q I rx ry ⟨p, vs, i, w, rfl, rfl, SqT.of q, h1, KD.here hk hs h2⟩ hsub
    | _ => cases hb
  | lst ds =>
    obtain ⟨p, vs, rfl, f, q, r, l⟩ := hx
    cases dy with
    | int i =>
      cases hy
      obtain ⟨w, h1, h2⟩ := atI_reps r (show Pd.atI ds i = some d from hb)
      exact ix_list value slice pins s σ H _ _ v u Q I rx ry ⟨p, vs, i, w, rfl, rfl, SqL.of q, h1, KD.here hk hs h2⟩ hsub
    | _ => cases hb
  | scr ns =>
    obtain ⟨p, rfl, q, l⟩ := scr_sq hx
    cases dy with
    | int i =>
      cases hy
      obtain ⟨n, e, rfl⟩ := Option.map_eq_some_iff.mp (show (Pd.atI ns i).map D.int = some d from hb)
      rw [hK] at q
      have e2 : L2.atI (ns.map V.int) i = some (.int n) := by
        unfold Pd.atI at e
        show (Pd.ixN (ns.map V.int).length i).bind _ = _
        rw [List.length_map]
        cases h : Pd.ixN ns.length i with
        | none => rw [h] at e; cases e
        | some j =>
          rw [h] at e
          have e : ns[j]? = some n := e
          show (ns.map V.int)[j]? = _
          rw [List.getElem?_map, e]; rfl
      exact ix_list value slice pins s σ H _ _ v u Q I rx ry ⟨p, _, i, _, rfl, rfl, q, e2, KD.here hk hs rfl⟩ hsub
    | _ => cases hb
  | obj n =>
    cases ho : t[n]? with
    | none => simp [ixD, ho] at hb
    | some o =>
      cases o with
      | lst xs =>
        cases dy with
        | int i =>
          cases hy
          obtain ⟨p, rfl, _, vs, q, r, l⟩ := obj_at hs hx ho
          obtain ⟨w, h1, h2⟩ := atI_reps r (show Pd.atI xs i = some d by simpa [ixD, ho] using hb)
          exact ix_list value slice pins s σ H _ _ v u Q I rx ry ⟨p, vs, i, w, rfl, rfl, SqL.of q, h1, KD.here hk hs h2⟩ hsub
        | _ => simp [ixD, ho] at hb
      | dct k kvs =>
        have hb : (if keyB k dy then dget dy kvs else none) = some d := by simpa [ixD, ho] using hb
        by_cases hkb : keyB k dy = true
        · rw [if_pos hkb] at hb
          obtain ⟨a, rfl, _, ob⟩ := dct_ob hs hx ho
          cases rx
          exact tail_dct (dct_type hP hW I ob).1 hsub (dct_item hP hW hu I ob (keyB_rep hkb hy) ry hkb hb fun v' r => KD.here hk hs r)
        · rw [if_neg hkb] at hb; cases hb
      | _ => simp [ixD, ho] at hb
  | _ => cases hb

/-! ### a slice -/
def rSlD (c : Cn) : V → Option Int → Option Int → Hp → VK → Prop := fun x lo hi H Q => ∃ g t d e, StH c g H t ∧ RepP c g H x d ∧ cutD lo hi d = some e ∧ KF true c g H t e Q
theorem cut_len {α : Type} (xs : List α) (lo hi : Option Int) : (cut xs lo hi).length ≤ xs.length := by
  unfold cut; rw [List.length_take, List.length_drop]; omega
theorem cut_mem {α : Type} {xs : List α} {lo hi : Option Int} {x : α} (h : x ∈ cut xs lo hi) : x ∈ xs := List.mem_of_mem_drop (List.mem_of_mem_take h)
theorem sIx_eq (n d : Nat) (o : Option Int) : HT.sIx n d o = sIx n d o := by cases o <;> rfl
theorem cut_reps {g : Gh} {H : Hp} {ds : List D} {vs : List V} (r : Reps c g H vs ds) (lo hi : Option Int) : Reps c g H (cutV vs lo hi) (cut ds lo hi) := by
  unfold cutV cut
  rw [Reps.length r, sIx_eq, sIx_eq]
  exact Reps.take _ (Reps.drop _ r)
theorem op_sl (hK : c.K = X.K) : SlR X (rSlD c) := by
  intro pins s σ H x v vl vu lo hi sl Q I rx hsl pl pu h
  obtain ⟨g, t, d, e, hs, hx, hb, hk⟩ := h
  cases d with
  | str z =>
    obtain ⟨rfl, hz⟩ := hx
    cases hb
    refine sl_str pins s σ H _ v vl vu lo hi sl Q I rx hsl pl pu ⟨⟨z.toArray⟩, rfl, by rw [str_len, szL]; exact hz.1, ?_⟩
    have e : cutS ⟨z.toArray⟩ lo hi = ⟨(cut z lo hi).toArray⟩ := by
      unfold cutS cut
      rw [str_len, sIx_eq, sIx_eq]
    rw [e]
    exact KD.here hk hs ⟨rfl, Nat.le_trans (cut_len z lo hi) hz.1, fun x hx => hz.2 x (cut_mem hx)⟩
  | tup ds =>
    obtain ⟨p, vs, rfl, f, q, r, l⟩ := hx
    cases hb
    have k : KD c g H t (.tup (cut ds lo hi)) Q := hk
    refine sl_tupA pins s σ H _ v vl vu lo hi sl Q I rx hsl pl pu ⟨p, vs, rfl, SqT.of q, fun hw => ?_, fun _ => KD.tup k hs (cut_reps r lo hi) (Nat.le_trans (cut_len ds lo hi) l)⟩
    have e : cut ds lo hi = ds := by
      unfold cut
      rw [← sIx_eq, ← sIx_eq, ← Reps.length r, hw.1, hw.2, List.drop_zero, Nat.sub_zero, Reps.length r]
      exact List.take_length
    rw [e] at k
    exact KD.here k hs ⟨p, vs, rfl, f, q, r, l⟩
  | lst ds =>
    obtain ⟨p, vs, rfl, f, q, r, l⟩ := hx
    cases hb
    have k : KL c g H t (cut ds lo hi) Q := hk
    exact sl_list pins s σ H _ v vl vu lo hi sl Q I rx hsl pl pu ⟨p, vs, rfl, SqL.of q, KL.lst k hs (cut_reps r lo hi) (Nat.le_trans (cut_len ds lo hi) l)⟩
  | _ => cases hb

/-! ### isinstance -/
def tyN : Ty → List String
  | .int => ["int"]
  | .bool => ["bool"]
  | .str => ["str"]
  | .tup => ["tuple"]
  | .lst => ["list"]
  | .row => ["tuple", "list"]
/-- the type's name -/
def nmD : D → String
  | .non => "NoneType"
  | .bl _ => "bool"
  | .int _ => "int"
  | .str _ => "str"
  | .tup _ => "tuple"
  | .lst _ => "list"
  | .scr _ => "list"
  | .obj _ => "list"
/-- an object of the table whose type is asked: a list -/
theorem obj_isi {t : T} {k : Ty} {n : Nat} {b : Bool} (h : isiD t k (.obj n) = some b) : (∃ xs, t[n]? = some (.lst xs)) ∧ b = isiO k := by
  cases ht : t[n]? with
  | none => cases k <;> simp [isiD, ht] at h
  | some ob =>
    cases ob with
    | lst xs =>
      refine ⟨⟨xs, rfl⟩, ?_⟩
      have h : some (isiO k) = some b := by
        cases k <;> simpa [isiD, ht] using h
      exact (Option.some.inj h).symm
    | dct _ _ => cases k <;> simp [isiD, ht] at h
    | ins _ _ => cases k <;> simp [isiD, ht] at h
theorem ty_of (hK : c.K = X.K) {g : Gh} {H : Hp} {t : T} {x : V} {d : D} {k : Ty} {b : Bool} (hs : StH c g H t) (hx : RepP c g H x d) (n : isiD t k d = some b) : TyX X.K H x (.type (nmD d)) := by
  cases d with
  | non => cases hx; exact .base .non
  | bl b => cases hx; exact .base (.bl b)
  | int i => cases hx; exact .base (.int i)
  | str s => obtain ⟨rfl, _⟩ := hx; exact .base (.str _)
  | tup ds => obtain ⟨p, vs, rfl, f, q, r, l⟩ := hx; exact .base (.tup q)
  | lst ds => obtain ⟨p, vs, rfl, f, q, r, l⟩ := hx; exact .base (.lst q)
  | scr ns =>
    obtain ⟨a, rfl, l, q⟩ := hx
    rcases q with ⟨_, q | ⟨o, q⟩⟩ | ⟨o, its, m, q, hc, _⟩
    · exact .base (.lst q)
    · exact .base (.frz q)
    · rw [hK] at q; exact .kList q hc
  | obj n' =>
    obtain ⟨⟨xs, ht⟩, _⟩ := obj_isi n
    obtain ⟨a, rfl, _, vs, q, _⟩ := obj_at hs hx ht
    exact .base (.lst q)
def rIs (c : Cn) (k : Ty) : List V → Hp → VK → Prop := fun xs H Q => ∃ x g t d b, (match tyN k with | [n] => xs = [x, .ty n] | ns => ∃ p, xs = [x, .ref p] ∧ H p = some (.tup (ns.map V.ty))) ∧ StH c g H t ∧ RepP c g H x d ∧ isiD t k d = some b ∧ KD c g H t (.bl b) Q
theorem op_isi (hK : c.K = X.K) (k : Ty) : CallR X (.builtin "isinstance") (rIs c k) := by
  intro pins s σ H xs us Q I r h
  obtain ⟨x, g, t, d, b, hxs, hs, hx, hb, hk⟩ := h
  have hty := ty_of hK hs hx hb
  have q := KD.here hk hs (show Rep c g H (.bl b) (.bl b) from rfl)
  have one : ∀ (n : String), xs = [x, .ty n] → kitB (nmD d) n = some b → wpAny (model X.prog X.w) X.A (PySem.call (.builtin "isinstance") us) (EP X pins σ Q) X.xe s := fun n e1 e2 =>
    call_isi pins s σ H xs us Q I r ⟨x, .ty n, _, _, b, e1, .ty n, hty, kit_ty e2, q⟩
  cases k with
  | row =>
    obtain ⟨p, e1, e2⟩ := hxs
    refine call_isiT pins s σ H xs us Q I r ⟨x, p, _, _, _, b, e1, e2, .cons (.ty "tuple") (.cons (.ty "list") .nil), hty, ?_, q⟩
    have go : ∀ (b1 b2 : Bool), kitB (nmD d) "tuple" = some b1 → kitB (nmD d) "list" = some b2 → b = (b1 || b2) → PySem.W.kitAny X.K (.type (nmD d)) [.type "tuple", .type "list"] = some b := fun b1 b2 h1 h2 e => by
      refine kitAny_cons (kit_ty h1) (fun z => ?_) fun z => by rw [e, z]; rfl
      refine kitAny_cons (kit_ty h2) (fun z2 => by rw [e, z, z2]; exact kitAny_nil) fun z2 => by rw [e, z, z2]; rfl
    cases d with
    | non => cases hb; exact go false false (by dsimp only [nmD]; decide +kernel) (by dsimp only [nmD]; decide +kernel) rfl
    | bl _ => cases hb; exact go false false (by dsimp only [nmD]; decide +kernel) (by dsimp only [nmD]; decide +kernel) rfl
    | int _ => cases hb; exact go false false (by dsimp only [nmD]; decide +kernel) (by dsimp only [nmD]; decide +kernel) rfl
    | str _ => cases hb; exact go false false (by dsimp only [nmD]; decide +kernel) (by dsimp only [nmD]; decide +kernel) rfl
    | tup _ => cases hb; exact go true false (by dsimp only [nmD]; decide +kernel) (by dsimp only [nmD]; decide +kernel) rfl
    | lst _ => cases hb; exact go false true (by dsimp only [nmD]; decide +kernel) (by dsimp only [nmD]; decide +kernel) rfl
    | scr _ => cases hb; exact go false true (by dsimp only [nmD]; decide +kernel) (by dsimp only [nmD]; decide +kernel) rfl
    | obj _ =>
      have e := (obj_isi hb).2
      subst e
      exact go false true (by dsimp only [nmD]; decide +kernel) (by dsimp only [nmD]; decide +kernel) rfl
  | int => cases d <;> first | (cases hb; exact one "int" hxs (by dsimp only [nmD]; decide +kernel)) | (have e := (obj_isi hb).2; subst e; exact one "int" hxs (by dsimp only [nmD]; decide +kernel))
  | bool => cases d <;> first | (cases hb; exact one "bool" hxs (by dsimp only [nmD]; decide +kernel)) | (have e := (obj_isi hb).2; subst e; exact one "bool" hxs (by dsimp only [nmD]; decide +kernel))
  | str => cases d <;> first | (cases hb; exact one "str" hxs (by dsimp only [nmD]; decide +kernel)) | (have e := (obj_isi hb).2; subst e; exact one "str" hxs (by dsimp only [nmD]; decide +kernel))
  | tup => cases d <;> first | (cases hb; exact one "tuple" hxs (by dsimp only [nmD]; decide +kernel)) | (have e := (obj_isi hb).2; subst e; exact one "tuple" hxs (by dsimp only [nmD]; decide +kernel))
  | lst => cases d <;> first | (cases hb; exact one "list" hxs (by dsimp only [nmD]; decide +kernel)) | (have e := (obj_isi hb).2; subst e; exact one "list" hxs (by dsimp only [nmD]; decide +kernel))

/-! ### built-in functions -/
def rB1 (c : Cn) (b : B1) : List V → Hp → VK → Prop := fun xs H Q => ∃ x g t d e, xs = [x] ∧ StH c g H t ∧ RepP c g H x d ∧ b1D t b d = some e ∧ KF true c g H t e Q
theorem b1_len (hK : c.K = X.K) : CallR X (.builtin "len") (rB1 c .len) := by
  intro pins s σ H xs us Q I r h
  obtain ⟨x, g, t, d, e, rfl, hs, hx, hb, hk⟩ := h
  obtain ⟨n, h1, rfl⟩ := Option.map_eq_some_iff.mp (show (lenD t d).map (fun n : Nat => D.int (n : Int)) = some e by simpa only [b1D] using hb)
  exact op_len hK pins s σ H [x] us Q I r ⟨x, g, t, d, n, rfl, hs, hx, h1, KD.here hk hs rfl⟩
theorem b1_abs : CallR X (.builtin "abs") (rB1 c .abs) := by
  intro pins s σ H xs us Q I r h
  obtain ⟨x, g, t, d, e, rfl, hs, hx, hb, hk⟩ := h
  cases d with
  | int i =>
    cases hx; cases hb
    exact call_abs pins s σ H _ us Q I r ⟨i, rfl, KD.here hk hs rfl⟩
  | _ => cases hb
theorem digit_text : ∀ n : Nat, n < 10 → PySem.intText? ⟨[48 + n].toArray⟩ = some (n : Int) := by decide +kernel
theorem text_digit : ∀ n : Nat, n < 10 → (PySem.Str.ofString (toString ((n : Nat) : Int))) = ⟨[48 + n].toArray⟩ := by decide +kernel
theorem b1_int : CallR X (.type "int") (rB1 c .int) := by
  intro pins s σ H xs us Q I r h
  obtain ⟨x, g, t, d, e, rfl, hs, hx, hb, hk⟩ := h
  cases d with
  | int i =>
    cases hx; cases hb
    exact call_int1 pins s σ H _ us Q I r (.inl ⟨i, rfl, KD.here hk hs rfl⟩)
  | bl i =>
    cases hx; cases hb
    exact call_int1 pins s σ H _ us Q I r (.inr ⟨i, rfl, KD.here hk hs rfl⟩)
  | str z =>
    obtain ⟨rfl, _⟩ := hx
    match z, hb, r with
    | [n], hb, r =>
      by_cases hn : 48 ≤ n ∧ n ≤ 57
      · rw [b1D] at hb
        simp only [hn, and_self, if_true, Option.some.injEq] at hb
        subst hb
        refine call_int_str pins s σ H _ us Q I r ⟨_, ((n - 48 : Nat) : Int), rfl, ?_, by rw [str_len]; simp, ?_⟩
        · have := digit_text (n - 48) (by omega)
          rwa [show 48 + (n - 48) = n by omega] at this
        · rw [show ((n - 48 : Nat) : Int) = (n : Int) - 48 by omega]
          exact KD.here hk hs rfl
      · rw [b1D] at hb
        simp only [hn, if_false] at hb
        cases hb
  | _ => cases hb
theorem b1_str : CallR X (.type "str") (rB1 c .str) := by
  intro pins s σ H xs us Q I r h
  obtain ⟨x, g, t, d, e, rfl, hs, hx, hb, hk⟩ := h
  cases d with
  | int i =>
    cases hx
    by_cases hi : 0 ≤ i ∧ i < 10
    · rw [b1D, if_pos hi] at hb; cases hb
      refine call_str_int pins s σ H _ us Q I r ⟨i, rfl, ?_, ?_⟩
      · have h1 : i.natAbs < 10 := by omega
        exact Nat.lt_of_le_of_lt (Nat.log2_le_self i.natAbs) (by omega)
      · obtain ⟨n, rfl⟩ : ∃ n : Nat, i = n := ⟨i.toNat, by omega⟩
        rw [text_digit n (by omega)]
        refine KD.here hk hs ⟨rfl, by show [48 + (n : Int).toNat].length ≤ sz; unfold sz; simp, fun x hx => ?_⟩
        rw [List.mem_singleton.mp hx]; omega
    · rw [b1D, if_neg hi] at hb; cases hb
  | _ => cases hb
theorem b1_sum (hK : c.K = X.K) (hc : X.calm = true) : CallR X (.builtin "sum") (rB1 c .sum) := by
  intro pins s σ H xs us Q I r h
  obtain ⟨x, g, t, d, e, rfl, hs, hx, hb, hk⟩ := h
  cases d with
  | lst ds =>
    obtain ⟨p, vs, rfl, f, q, rr, l⟩ := hx
    obtain ⟨ns, h1, rfl⟩ := Option.map_eq_some_iff.mp (show (intsOf ds).map (fun ns => D.int ns.sum) = some e from hb)
    rw [Reps.intsOf rr h1] at q
    exact cr_sum hc pins s σ H _ us Q I r ⟨p, ns, rfl, SqL.of q, KD.here hk hs rfl⟩
  | _ => cases hb
theorem maxI_of : ∀ {ns : List Int} {m : Int}, m ∈ ns → (∀ y, y ∈ ns → y ≤ m) → maxI ns = some m
  | [x], m, h1, h2 => by rw [List.mem_singleton.mp h1]; rfl
  | x :: y :: r, m, h1, h2 => by
    have hx := h2 x List.mem_cons_self
    show (maxI (y :: r)).map _ = _
    by_cases hm : m ∈ y :: r
    · rw [maxI_of hm fun z hz => h2 z (List.mem_cons_of_mem _ hz)]
      show some (if x < m then m else x) = _
      split
      · rfl
      · congr 1; omega
    · have e : m = x := (List.mem_cons.mp h1).elim id fun e => absurd e hm
      subst e
      obtain ⟨k, hk, hle⟩ : ∃ k, maxI (y :: r) = some k ∧ k ∈ y :: r := by
        clear h1 h2 hx hm
        induction r generalizing y with
        | nil => exact ⟨y, rfl, List.mem_cons_self⟩
        | cons z r ih =>
          obtain ⟨k, h1, h2⟩ := ih z
          by_cases hy : y < k
          · exact ⟨k, by show (maxI (z :: r)).map _ = _; rw [h1]; show some (if y < k then k else y) = _; rw [if_pos hy], List.mem_cons_of_mem _ h2⟩
          · exact ⟨y, by show (maxI (z :: r)).map _ = _; rw [h1]; show some (if y < k then k else y) = _; rw [if_neg hy], List.mem_cons_self⟩
      rw [hk]
      show some (if m < k then k else m) = _
      have := h2 k (List.mem_cons_of_mem _ hle)
      rw [if_neg (by omega)]
theorem minI_of : ∀ {ns : List Int} {m : Int}, m ∈ ns → (∀ y, y ∈ ns → m ≤ y) → minI ns = some m
  | [x], m, h1, h2 => by rw [List.mem_singleton.mp h1]; rfl
  | x :: y :: r, m, h1, h2 => by
    have hx := h2 x List.mem_cons_self
    show (minI (y :: r)).map _ = _
    by_cases hm : m ∈ y :: r
    · rw [minI_of hm fun z hz => h2 z (List.mem_cons_of_mem _ hz)]
      show some (if m < x then m else x) = _
      split
      · rfl
      · congr 1; omega
    · have e : m = x := (List.mem_cons.mp h1).elim id fun e => absurd e hm
      subst e
      obtain ⟨k, hk, hle⟩ : ∃ k, minI (y :: r) = some k ∧ k ∈ y :: r := by
        clear h1 h2 hx hm
        induction r generalizing y with
        | nil => exact ⟨y, rfl, List.mem_cons_self⟩
        | cons z r ih =>
          obtain ⟨k, h1, h2⟩ := ih z
          by_cases hy : k < y
          · exact ⟨k, by show (minI (z :: r)).map _ = _; rw [h1]; show some (if k < y then k else y) = _; rw [if_pos hy], List.mem_cons_of_mem _ h2⟩
          · exact ⟨y, by show (minI (z :: r)).map _ = _; rw [h1]; show some (if k < y then k else y) = _; rw [if_neg hy], List.mem_cons_self⟩
      rw [hk]
      show some (if k < m then k else m) = _
      have := h2 k (List.mem_cons_of_mem _ hle)
      rw [if_neg (by omega)]
theorem b1_max (hK : c.K = X.K) (hc : X.calm = true) : CallR X (.builtin "max") (rB1 c .max) := by
  intro pins s σ H xs us Q I r h
  obtain ⟨x, g, t, d, e, rfl, hs, hx, hb, hk⟩ := h
  cases d with
  | lst ds =>
    obtain ⟨p, vs, rfl, f, q, rr, l⟩ := hx
    obtain ⟨m, h1, rfl⟩ := Option.map_eq_some_iff.mp (show ((intsOf ds).bind maxI).map D.int = some e from hb)
    obtain ⟨ns, h2, h3⟩ := Option.bind_eq_some_iff.mp h1
    rw [Reps.intsOf rr h2] at q
    refine cr_max hc pins s σ H _ us Q I r ⟨p, ns, rfl, SqL.of q, ?_, fun k hm hle => ?_⟩
    · cases ns with
      | nil => cases h3
      | cons => simp
    · rw [maxI_of hm hle] at h3; cases h3
      exact KD.here hk hs rfl
  | _ => cases hb
theorem b1_min (hK : c.K = X.K) (hc : X.calm = true) : CallR X (.builtin "min") (rB1 c .min) := by
  intro pins s σ H xs us Q I r h
  obtain ⟨x, g, t, d, e, rfl, hs, hx, hb, hk⟩ := h
  cases d with
  | lst ds =>
    obtain ⟨p, vs, rfl, f, q, rr, l⟩ := hx
    obtain ⟨m, h1, rfl⟩ := Option.map_eq_some_iff.mp (show ((intsOf ds).bind minI).map D.int = some e from hb)
    obtain ⟨ns, h2, h3⟩ := Option.bind_eq_some_iff.mp h1
    rw [Reps.intsOf rr h2] at q
    refine cr_min hc pins s σ H _ us Q I r ⟨p, ns, rfl, SqL.of q, ?_, fun k hm hle => ?_⟩
    · cases ns with
      | nil => cases h3
      | cons => simp
    · rw [minI_of hm hle] at h3; cases h3
      exact KD.here hk hs rfl
  | _ => cases hb
theorem b1_any (hK : c.K = X.K) (hc : X.calm = true) : CallR X (.builtin "any") (rB1 c .any) := by
  intro pins s σ H xs us Q I r h
  obtain ⟨x, g, t, d, e, rfl, hs, hx, hb, hk⟩ := h
  cases d with
  | lst ds =>
    obtain ⟨p, vs, rfl, f, q, rr, l⟩ := hx
    obtain ⟨ns, h1, rfl⟩ := Option.map_eq_some_iff.mp (show (boolsOf ds).map (fun bs => D.bl (bs.any id)) = some e from hb)
    rw [Reps.boolsOf rr h1] at q
    exact cr_any hc pins s σ H _ us Q I r ⟨p, ns, rfl, SqL.of q, KD.here hk hs rfl⟩
  | _ => cases hb
theorem b1_all (hK : c.K = X.K) (hc : X.calm = true) : CallR X (.builtin "all") (rB1 c .all) := by
  intro pins s σ H xs us Q I r h
  obtain ⟨x, g, t, d, e, rfl, hs, hx, hb, hk⟩ := h
  cases d with
  | lst ds =>
    obtain ⟨p, vs, rfl, f, q, rr, l⟩ := hx
    obtain ⟨ns, h1, rfl⟩ := Option.map_eq_some_iff.mp (show (boolsOf ds).map (fun bs => D.bl (bs.all id)) = some e from hb)
    rw [Reps.boolsOf rr h1] at q
    exact cr_all hc pins s σ H _ us Q I r ⟨p, ns, rfl, SqL.of q, KD.here hk hs rfl⟩
  | _ => cases hb
theorem b1_list (hK : c.K = X.K) : CallR X (.type "list") (rB1 c .list) := by
  intro pins s σ H xs us Q I r h
  obtain ⟨x, g, t, d, e, rfl, hs, hx, hb, hk⟩ := h
  cases d with
  | lst ds =>
    obtain ⟨p, vs, rfl, f, q, rr, l⟩ := hx
    cases hb
    exact call_list_of pins s σ H _ us Q I r ⟨p, vs, rfl, .inl (SqL.of q), KL.lst (show KL c g H t ds Q from hk) hs rr l⟩
  | tup ds =>
    obtain ⟨p, vs, rfl, f, q, rr, l⟩ := hx
    cases hb
    exact call_list_of pins s σ H _ us Q I r ⟨p, vs, rfl, .inr (SqT.of q), KL.lst (show KL c g H t ds Q from hk) hs rr l⟩
  | scr ns =>
    obtain ⟨p, rfl, q, l⟩ := scr_sq hx
    cases hb
    rw [hK] at q
    exact call_list_of pins s σ H _ us Q I r ⟨p, _, rfl, .inl q, KL.lst (show KL c g H t (ns.map D.int) Q from hk) hs (Reps.ints ns) (by rw [List.length_map]; unfold sz; omega)⟩
  | obj n =>
    cases ht : t[n]? with
    | none => simp [b1D, ht] at hb
    | some ob =>
      cases ob with
      | lst ds =>
        simp only [b1D, ht, Option.some.injEq] at hb
        subst hb
        obtain ⟨a, rfl, _, vs, q, rr, l⟩ := obj_at hs hx ht
        exact call_list_of pins s σ H _ us Q I r ⟨a, vs, rfl, .inl (SqL.of q), KL.lst (show KL c g H t ds Q from hk) hs rr l⟩
      | _ => simp [b1D, ht] at hb
  | _ => cases hb
theorem b1_tuple (hK : c.K = X.K) : CallR X (.type "tuple") (rB1 c .tuple) := by
  intro pins s σ H xs us Q I r h
  obtain ⟨x, g, t, d, e, rfl, hs, hx, hb, hk⟩ := h
  cases d with
  | lst ds =>
    obtain ⟨p, vs, rfl, f, q, rr, l⟩ := hx
    cases hb
    exact call_tuple_of pins s σ H _ us Q I r ⟨p, vs, rfl, .inl ⟨SqL.of q, KD.tup (show KD c g H t (.tup ds) Q from hk) hs rr l⟩⟩
  | tup ds =>
    obtain ⟨p, vs, rfl, f, q, rr, l⟩ := hx
    cases hb
    exact call_tuple_of pins s σ H _ us Q I r ⟨p, vs, rfl, .inr ⟨SqT.of q, KD.here hk hs ⟨p, vs, rfl, f, q, rr, l⟩⟩⟩
  | obj n =>
    cases ht : t[n]? with
    | none => simp [b1D, ht] at hb
    | some ob =>
      cases ob with
      | lst ds =>
        simp only [b1D, ht, Option.some.injEq] at hb
        subst hb
        obtain ⟨a, rfl, _, vs, q, rr, l⟩ := obj_at hs hx ht
        exact call_tuple_of pins s σ H _ us Q I r ⟨a, vs, rfl, .inl ⟨SqL.of q, KD.tup (show KD c g H t (.tup ds) Q from hk) hs rr l⟩⟩
      | _ => simp [b1D, ht] at hb
  | _ => cases hb
theorem b1_sorted (hK : c.K = X.K) : CallR X (.builtin "sorted") (rB1 c .sorted) := by
  intro pins s σ H xs us Q I r h
  obtain ⟨x, g, t, d, e, rfl, hs, hx, hb, hk⟩ := h
  cases d with
  | lst ds =>
    obtain ⟨p, vs, rfl, f, q, rr, l⟩ := hx
    obtain ⟨ns, h1, rfl⟩ := Option.map_eq_some_iff.mp (show (intsOf ds).map (fun ns => D.lst ((ns.mergeSort (fun a b => decide (a ≤ b))).map .int)) = some e from hb)
    have l2 := Reps.length rr
    rw [Reps.intsOf rr h1] at q l2
    refine cr_sortedI pins s σ H _ us Q I r ⟨p, ns, rfl, SqL.of q, fun ns' p2 pm sr hp => ?_⟩
    have e1 : ns' = ns.mergeSort (fun a b => decide (a ≤ b)) := by
      refine PySem.W.ksm_same (pm.trans (List.mergeSort_perm ns _).symm) sr ?_
      have h := List.pairwise_mergeSort (le := fun a b : Int => decide (a ≤ b)) (fun a b c h1 h2 => by simp only [decide_eq_true_eq] at *; omega) (fun a b => by simp only [Bool.or_eq_true, decide_eq_true_eq]; omega) ns
      exact h.imp fun h => by simpa using h
    rw [e1]
    refine KL.lst (show KL c g H t ((ns.mergeSort (fun a b => decide (a ≤ b))).map .int) Q from hk) hs (Reps.ints _) ?_ p2 hp
    rw [List.length_map, List.length_mergeSort]
    rw [List.length_map] at l2
    omega
  | _ => cases hb
def rB2 (c : Cn) (b : B2) : List V → Hp → VK → Prop := fun xs H Q => ∃ x y g t d e f, xs = [x, y] ∧ StH c g H t ∧ RepP c g H x d ∧ RepP c g H y e ∧ b2D b d e = some f ∧ KD c g H t f Q
theorem b2_max (hc : X.calm = true) : CallR X (.builtin "max") (rB2 c .max) := by
  intro pins s σ H xs us Q I r h
  obtain ⟨x, y, g, t, d, e, f, rfl, hs, hx, hy, hb, hk⟩ := h
  cases d with
  | int i =>
    cases e with
    | int j =>
      cases hx; cases hy; cases hb
      exact call_max2 hc pins s σ H _ us Q I r ⟨i, j, rfl, KD.here hk hs rfl⟩
    | _ => cases hb
  | _ => cases hb
theorem b2_min (hc : X.calm = true) : CallR X (.builtin "min") (rB2 c .min) := by
  intro pins s σ H xs us Q I r h
  obtain ⟨x, y, g, t, d, e, f, rfl, hs, hx, hy, hb, hk⟩ := h
  cases d with
  | int i =>
    cases e with
    | int j =>
      cases hx; cases hy; cases hb
      exact call_min2 hc pins s σ H _ us Q I r ⟨i, j, rfl, KD.here hk hs rfl⟩
    | _ => cases hb
  | _ => cases hb
end
end Pd
set_option Elab.async false
set_option linter.all false
set_option maxRecDepth 100000
set_option autoImplicit false
/-! Pd: each construct, given its parts. -/
namespace Pd
open PySem PySem.Spec PyProof.Rows L2 TL Bits

def run {α : Type} (r : R α) (k : α → T → Prop) : Prop :=
  match r with
  | .ok a t => k a t
  | _ => False
theorem run_bnd {α β : Type} {r : R α} {f : α → T → R β} {k : β → T → Prop} (h : run (bnd r f) k) : run r fun a t => run (f a t) k := by
  cases r <;> exact h
theorem run.mono {α : Type} {r : R α} {k k' : α → T → Prop} (h : run r k) (m : ∀ a t, k a t → k' a t) : run r k' := by
  cases r with
  | ok a t => exact m a t h
  | ex _ _ _ => exact h
  | no => exact h
theorem run_ofO {α : Type} {o : Option α} {t : T} {k : α → T → Prop} (h : run (ofO o t) k) : ∃ a, o = some a ∧ k a t := by
  cases o with
  | none => exact h.elim
  | some a => exact ⟨a, rfl, h⟩

section
variable (c : Cn) (en : En)
def KP (g : Gh) (H : Hp) (t : T) (d : D) (Q : VK) : Prop := ∀ v g' H', Step g H g' H' → StH c g' H' t → RepP c g' H' v d → Q v H'
def KT (g : Gh) (H : Hp) (t : T) (b : Bool) (Q : Bool → Hp → Prop) : Prop := ∀ g' H', Step g H g' H' → StH c g' H' t → Q b H'
def KA (g : Gh) (H : Hp) (t : T) (ds : List D) (Q : List V → Hp → Prop) : Prop := ∀ vs g' H', Step g H g' H' → StH c g' H' t → Reps c g' H' vs ds → Q vs H'
def tE (fr : Bool) (f : Env → T → R D) : TE := fun σ H Q => ∃ ρ t g, SR c en g σ H ρ t ∧ run (f ρ t) fun d t' => KF fr c g H t' d Q
def tO (f : Env → T → R D) : TE := fun σ H Q => ∃ ρ t g, SR c en g σ H ρ t ∧ run (f ρ t) fun d t' => KP c g H t' d Q
def tT (f : Env → T → R Bool) : TT := fun σ H Q => ∃ ρ t g, SR c en g σ H ρ t ∧ run (f ρ t) fun b t' => KT c g H t' b Q
def tAs (f : Env → T → R (List D)) : TA := fun σ H Q => ∃ ρ t g, SR c en g σ H ρ t ∧ run (f ρ t) fun ds t' => KA c g H t' ds Q
end

theorem _root_.L2.PE.imp {X : Cx} {e : Expr} {t t' : TE} (h : PE X e t) (k : ∀ σ H Q, t' σ H Q → t σ H Q) : PE X e t' := ⟨fun pins s σ H Q I q => h.run pins s σ H Q I (k σ H Q q)⟩
theorem _root_.L2.PT.imp {X : Cx} {e : Expr} {t t' : TT} (h : PT X e t) (k : ∀ σ H Q, t' σ H Q → t σ H Q) : PT X e t' := ⟨fun pins s σ H Q I q => h.run pins s σ H Q I (k σ H Q q)⟩
theorem _root_.L2.PW.imp {X : Cx} {e : Expr} {t t' : TT} (h : PW X e t) (k : ∀ σ H Q, t' σ H Q → t σ H Q) : PW X e t' := ⟨fun w pins s σ H Q I q => h.run w pins s σ H Q I (k σ H Q q)⟩
theorem _root_.L2.PA.imp {X : Cx} {e : List Expr} {t t' : TA} (h : PA X e t) (k : ∀ σ H Q, t' σ H Q → t σ H Q) : PA X e t' := ⟨fun pos pins s σ H Q I q => h.run pos pins s σ H Q I (k σ H Q q)⟩
theorem _root_.L2.PS.imp {X : Cx} {e : Stmt} {t t' : TS} (h : PS X e t) (k : ∀ D σ H, t' D σ H → t D σ H) : PS X e t' := ⟨fun pins s σ H D I q => h.run pins s σ H D I (k D σ H q)⟩
theorem _root_.L2.PSs.imp {X : Cx} {e : List Stmt} {t t' : TS} (h : PSs X e t) (k : ∀ D σ H, t' D σ H → t D σ H) : PSs X e t' := ⟨fun pins s σ H D I q => h.run pins s σ H D I (k D σ H q)⟩

section
variable {c : Cn} {en : En} {g : Gh} {σ : L2.St} {H : Hp} {ρ : Env} {t : T}
theorem KF.fls {d : D} {Q : VK} : KF false c g H t d Q = KD c g H t d Q := by unfold KF; split <;> first | rfl | contradiction
theorem tE.down {f : Env → T → R D} {Q : VK} (h : tE c en false f σ H Q) : tE c en true f σ H Q := by
  obtain ⟨ρ, t, g, s, r⟩ := h
  exact ⟨ρ, t, g, s, r.mono fun d t' k => by rw [KF.fls] at k; exact KD.kf k⟩
theorem _root_.L2.PE.esc {X : Cx} {e : Expr} {fr : Bool} {f : Env → T → R D} (h : PE X e (tE c en fr f)) : PE X e (tE c en false f) := by
  cases fr with
  | false => exact h
  | true => exact h.imp fun _ _ _ q => q.down
theorem tO.tE {f : Env → T → R D} {Q : VK} (h : tO c en f σ H Q) : tE c en false f σ H Q := by
  obtain ⟨ρ, t, g, s, r⟩ := h
  exact ⟨ρ, t, g, s, r.mono fun d t' k => by rw [KF.fls]; exact fun v g' H' st s' rp => k v g' H' st s' (Rep.peek s' rp)⟩
/-- an operand that is no name -/
theorem _root_.L2.PE.pk {X : Cx} {e : Expr} {fr : Bool} {f : Env → T → R D} (h : PE X e (tE c en fr f)) : PE X e (tO c en f) := h.esc.imp fun _ _ _ q => q.tE
theorem KD.after {d : D} {Q : VK} {g1 : Gh} {H1 : Hp} (st : Step g H g1 H1) (k : KD c g H t d Q) : KD c g1 H1 t d Q := fun v g' H' st' s' r => k v g' H' (st.trans st') s' r
theorem KL.after {ds : List D} {Q : VK} {g1 : Gh} {H1 : Hp} (st : Step g H g1 H1) (k : KL c g H t ds Q) : KL c g1 H1 t ds Q := fun p vs g' H' st' s' hp r l => k p vs g' H' (st.trans st') s' hp r l
theorem KF.after {fr : Bool} {d : D} {Q : VK} {g1 : Gh} {H1 : Hp} (st : Step g H g1 H1) (k : KF fr c g H t d Q) : KF fr c g1 H1 t d Q := by
  unfold KF at k ⊢
  split at k
  · exact KL.after st k
  · exact KD.after st k
theorem KT.after {b : Bool} {Q : Bool → Hp → Prop} {g1 : Gh} {H1 : Hp} (st : Step g H g1 H1) (k : KT c g H t b Q) : KT c g1 H1 t b Q := fun g' H' st' s' => k g' H' (st.trans st') s'
theorem KA.after {ds : List D} {Q : List V → Hp → Prop} {g1 : Gh} {H1 : Hp} (st : Step g H g1 H1) (k : KA c g H t ds Q) : KA c g1 H1 t ds Q := fun v g' H' st' s' r => k v g' H' (st.trans st') s' r
theorem KP.after {d : D} {Q : VK} {g1 : Gh} {H1 : Hp} (st : Step g H g1 H1) (k : KP c g H t d Q) : KP c g1 H1 t d Q := fun v g' H' st' s' r => k v g' H' (st.trans st') s' r
end

section
variable {X : Cx} {c : Cn} {en : En} {pos : Pos} {a b : Expr} {fa fb : Env → T → R D}

/-! ### names -/
theorem snd_var {i : Nat} {x : PySem.Str} (hN : X.N[i]? = some x) (hv : Vis X.env.scope x) (hd : (x == ("__debug__" : PySem.Str)) = false) (hcd : (x == ("__classdict__" : PySem.Str)) = false) :
    PE X (.Name x pos) (tE c en false fun ρ t => ofO (valOf (look ρ i)) t) := (pe_var hN hv hd hcd).imp fun σ H Q h => by
  obtain ⟨ρ, t, g, s, r⟩ := h
  obtain ⟨d, e, k⟩ := run_ofO r
  rw [KF.fls] at k
  cases hl : look ρ i with
  | val d' =>
    rw [hl] at e; cases e
    have q := s.cell i
    rw [hl] at q
    obtain ⟨v, h1, h2⟩ := q
    exact ⟨v, h1, KD.here k s.st h2⟩
  | _ => rw [hl] at e; cases e
theorem snd_peek {i : Nat} {x : PySem.Str} (hN : X.N[i]? = some x) (hv : Vis X.env.scope x) (hd : (x == ("__debug__" : PySem.Str)) = false) (hcd : (x == ("__classdict__" : PySem.Str)) = false) :
    PE X (.Name x pos) (tO c en fun ρ t => ofO (peek (look ρ i)) t) := (pe_var hN hv hd hcd).imp fun σ H Q h => by
  obtain ⟨ρ, t, g, s, r⟩ := h
  obtain ⟨d, e, k⟩ := run_ofO r
  have q := s.cell i
  cases hl : look ρ i with
  | val d' =>
    rw [hl] at e q; cases e
    obtain ⟨v, h1, h2⟩ := q
    exact ⟨v, h1, k v g H Step.refl s.st (Rep.peek s.st h2)⟩
  | own ds =>
    rw [hl] at e q; cases e
    obtain ⟨p, vs, h1, h2, h3, h4, h5, h6, h7⟩ := q
    exact ⟨.ref p, h1, k _ g H Step.refl s.st ⟨p, vs, rfl, h6, h2, h3, h4⟩⟩
  | loan ds =>
    rw [hl] at e q; cases e
    obtain ⟨p, vs, h1, h2, h3, h4, h5, h6, h7⟩ := q
    exact ⟨.ref p, h1, k _ g H Step.refl s.st ⟨p, vs, rfl, h6, h2, h3, h4⟩⟩
  | un => rw [hl] at e; cases e
/-- a constant, by its own rule -/
theorem snd_kon {v : V} {d : D} {pe : Expr} (h : PE X pe (tC v)) (r : ∀ g H, Rep c g H v d) : PE X pe (tE c en false fun _ t => .ok d t) := h.imp fun σ H Q ⟨ρ, t, g, s, k⟩ => by
  have k : KF false c g H t d Q := k
  rw [KF.fls] at k
  exact KD.here k s.st (r g H)

/-! ### operators -/
theorem snd_bin (hK : c.K = X.K) (o : Bo) (ha : PE X a (tO c en fa)) (hb : PE X b (tO c en fb)) :
    PE X (.BinOp a (bop o) b pos) (tE c en true fun ρ t => bnd (fa ρ t) fun x t => bnd (fb ρ t) fun y t => ofO (binD o x y) t) := (pe_op (op_bin hK o) ha hb).imp fun σ H Q h => by
  obtain ⟨ρ, t, g, s, r⟩ := h
  refine ⟨ρ, t, g, s, (run_bnd r).mono fun x t1 r1 v1 g1 H1 st1 s1 rp1 => ⟨ρ, t1, g1, s.step st1 s1, (run_bnd r1).mono fun y t2 r2 v2 g2 H2 st2 s2 rp2 => ?_⟩⟩
  obtain ⟨d, e, k⟩ := run_ofO r2
  exact ⟨g2, t2, x, y, d, s2, rp1.step s1 st2, rp2, e, KF.after (st1.trans st2) k⟩
theorem snd_cmp (hK : c.K = X.K) (hP : c.prog = X.prog) (hW : c.w = X.w) (hu : X.A.units + 64 < cLine) (o : Co) (ha : PE X a (tO c en fa)) (hb : PE X b (tO c en fb)) (hm : behindInMarks (cop o) b = false) :
    PE X (.Compare a [cop o] [b] pos) (tE c en false fun ρ t => bnd (fa ρ t) fun x t => bnd (fb ρ t) fun y t => ofO (cmpD t o x y) t) := (pe_cmpR (op_cmp hK hP hW hu o) ha hb hm).imp fun σ H Q h => by
  obtain ⟨ρ, t, g, s, r⟩ := h
  refine ⟨ρ, t, g, s, (run_bnd r).mono fun x t1 r1 v1 g1 H1 st1 s1 rp1 => ⟨ρ, t1, g1, s.step st1 s1, (run_bnd r1).mono fun y t2 r2 v2 g2 H2 st2 s2 rp2 => ?_⟩⟩
  obtain ⟨d, e, k⟩ := run_ofO r2
  rw [KF.fls] at k
  exact ⟨g2, t2, x, y, d, s2, rp1.step s1 st2, rp2, e, KD.after (st1.trans st2) k⟩
theorem cmp_bl {t : T} {o : Co} {x y d : D} (h : cmpD t o x y = some d) : ∃ b, d = .bl b := by
  cases o with
  | eq => simp only [cmpD] at h; split at h <;> cases h; exact ⟨_, rfl⟩
  | ne => simp only [cmpD] at h; split at h <;> cases h; exact ⟨_, rfl⟩
  | lt => cases x <;> cases y <;> first | (cases h; exact ⟨_, rfl⟩) | cases h
  | le => cases x <;> cases y <;> first | (cases h; exact ⟨_, rfl⟩) | cases h
  | gt => cases x <;> cases y <;> first | (cases h; exact ⟨_, rfl⟩) | cases h
  | ge => cases x <;> cases y <;> first | (cases h; exact ⟨_, rfl⟩) | cases h
  | isin => obtain ⟨b, _, e⟩ := Option.map_eq_some_iff.mp h; exact ⟨b, e.symm⟩
  | notin => obtain ⟨b, _, e⟩ := Option.map_eq_some_iff.mp h; exact ⟨_, e.symm⟩
  | isN => cases y <;> first | (cases h; exact ⟨_, rfl⟩) | (simp [cmpD] at h)
  | notN => cases y <;> first | (cases h; exact ⟨_, rfl⟩) | (simp [cmpD] at h)
theorem truth_bl {t : T} {b : Bool} {k : Bool} (h : truthD t (.bl b) = some k) : k = b := by cases h; rfl
/-- a comparison as a test -/
theorem snd_cmpT (hK : c.K = X.K) (hP : c.prog = X.prog) (hW : c.w = X.w) (hu : X.A.units + 64 < cLine) (o : Co) (ha : PE X a (tO c en fa)) (hb : PE X b (tO c en fb)) (hm : behindInMarks (cop o) b = false) :
    PT X (.Compare a [cop o] [b] pos) (tT c en fun ρ t => bnd (bnd (fa ρ t) fun x t => bnd (fb ρ t) fun y t => ofO (cmpD t o x y) t) fun x t => ofO (truthD t x) t) := (pt_cmpR (op_cmp hK hP hW hu o) ha hb hm).imp fun σ H Q h => by
  obtain ⟨ρ, t, g, s, r⟩ := h
  refine ⟨ρ, t, g, s, (run_bnd (run_bnd r)).mono fun x t1 r1 v1 g1 H1 st1 s1 rp1 => ⟨ρ, t1, g1, s.step st1 s1, (run_bnd r1).mono fun y t2 r2 v2 g2 H2 st2 s2 rp2 => ?_⟩⟩
  obtain ⟨d, e, k⟩ := run_ofO r2
  obtain ⟨b', e', k⟩ := run_ofO k
  refine ⟨g2, t2, x, y, d, s2, rp1.step s1 st2, rp2, e, fun v g3 H3 st3 s3 rp3 => ?_⟩
  obtain ⟨bb, rfl⟩ := cmp_bl e
  cases truth_bl e'
  exact ⟨b', rp3, k g3 H3 ((st1.trans st2).trans st3) s3⟩
theorem snd_neg (ha : PE X a (tO c en fa)) : PE X (.UnaryOp .USub a pos) (tE c en false fun ρ t => bnd (fa ρ t) fun x t => match x with
    | .int i => .ok (.int (-i)) t
    | _ => .no) := (pe_un un_neg ha).imp fun σ H Q h => by
  obtain ⟨ρ, t, g, s, r⟩ := h
  refine ⟨ρ, t, g, s, (run_bnd r).mono fun x t1 r1 v1 g1 H1 st1 s1 rp1 => ?_⟩
  cases x with
  | int i =>
    cases rp1
    have k : KF false c g H t1 (.int (-i)) Q := r1
    rw [KF.fls] at k
    exact ⟨i, rfl, k _ g1 H1 st1 s1 rfl⟩
  | _ => exact r1.elim
theorem snd_not (hK : c.K = X.K) (ha : PE X a (tO c en fa)) : PE X (.UnaryOp .Not a pos) (tE c en false fun ρ t => bnd (fa ρ t) fun x t => bnd (ofO (truthD t x) t) fun k t => .ok (.bl (!k)) t) := (pe_notT ha).imp fun σ H Q h => by
  obtain ⟨ρ, t, g, s, r⟩ := h
  refine ⟨ρ, t, g, s, (run_bnd r).mono fun x t1 r1 v1 g1 H1 st1 s1 rp1 => ?_⟩
  obtain ⟨k, e, q⟩ := run_ofO (run_bnd r1)
  have q : KF false c g H t1 (.bl (!k)) Q := q
  rw [KF.fls] at q
  exact ⟨k, tru_of hK s1 rp1 e, q _ g1 H1 st1 s1 rfl⟩
theorem snd_chn (hK : c.K = X.K) (hP : c.prog = X.prog) (hW : c.w = X.w) (hu : X.A.units + 64 < cLine) (o p : Co) {d : Expr} {fd : Env → T → R D} (ha : PE X a (tO c en fa)) (hb : PE X b (tO c en fb)) (hd : PE X d (tO c en fd)) (hm : lastMarks [cop o, cop p] [b, d] = false) :
    PE X (.Compare a [cop o, cop p] [b, d] pos) (tE c en false fun ρ t => bnd (fa ρ t) fun x t => bnd (fb ρ t) fun y t => bnd (ofO (cmpD t o x y) t) fun k t =>
    match k with
    | .bl true => bnd (fd ρ t) fun z t => ofO (cmpD t p y z) t
    | .bl false => .ok (.bl false) t
    | _ => .no) := by
  refine (pe_chain (op_cmp hK hP hW hu o) (op_cmp hK hP hW hu p) ha hb hd hm).imp fun σ H Q h => ?_
  obtain ⟨ρ, t, g, s, r⟩ := h
  refine ⟨ρ, t, g, s, (run_bnd r).mono fun x t1 r1 v1 g1 H1 st1 s1 rp1 => ⟨ρ, t1, g1, s.step st1 s1, (run_bnd r1).mono fun y t2 r2 v2 g2 H2 st2 s2 rp2 => ?_⟩⟩
  obtain ⟨k, e, r3⟩ := run_ofO (run_bnd r2)
  obtain ⟨bb, rfl⟩ := cmp_bl e
  refine ⟨g2, t2, x, y, _, s2, rp1.step s1 st2, rp2, e, fun v g3 H3 st3 s3 rp3 => ?_⟩
  cases rp3
  refine ⟨bb, rfl, ?_⟩
  have st := (st1.trans st2).trans st3
  cases bb with
  | true =>
    refine ⟨ρ, t2, g3, s.step st s3, (run_bnd r3).mono fun z t4 r4 v4 g4 H4 st4 s4 rp4 => ?_⟩
    obtain ⟨d', e', k⟩ := run_ofO r4
    rw [KF.fls] at k
    exact ⟨g4, t4, y, z, d', s4, (rp2.step s2 st3).step s3 st4, rp4, e', KD.after (st.trans st4) k⟩
  | false =>
    have k : KF false c g H t2 (.bl false) Q := r3
    rw [KF.fls] at k
    exact k _ g3 H3 st s3 rfl
end
end Pd
set_option Elab.async false
set_option linter.all false
set_option maxRecDepth 100000
set_option autoImplicit false
namespace Pd
open PySem PySem.Spec PyProof.Rows L2 TL Bits

/-! ### a new object -/
def Gh.obj (g : Gh) (p : Addr) : Gh := ⟨g.ob ++ [p], g.fz⟩
section
variable {c : Cn} {g : Gh} {H : Hp} {t : T} {p : Addr} {o : HO}
theorem Step.newOb (hp : H p = none) : Step g H (g.obj p) (upd H p o) where
  pre := List.prefix_append _ _
  fzm := fun _ h => h
  fzn := fun _ h => .inl h
  obn := fun a h => by
    rcases List.mem_append.mp h with h | h
    · exact .inl h
    · rw [List.mem_singleton.mp h]; exact .inr hp
  keep := (Step.alloc (g := g) hp).keep
  tr := (Step.alloc (g := g) hp).tr
theorem StH.newOb {b : Ob} (s : StH c g H t) (hp : H p = none) (r : ObR c (g.obj p) (upd H p o) p b) : StH c (g.obj p) (upd H p o) (t ++ [b]) where
  len := by
    show (g.ob ++ [p]).length = _
    rw [List.length_append, List.length_append, s.len]; rfl
  nd := by
    show (g.ob ++ [p]).Nodup
    refine List.nodup_append.mpr ⟨s.nd, by simp, fun a ha b hb e => ?_⟩
    rw [List.mem_singleton.mp hb] at e
    exact s.there ha (e ▸ hp)
  nf := fun a ha f => by
    rcases List.mem_append.mp ha with ha | ha
    · exact s.nf a ha f
    · rw [List.mem_singleton.mp ha] at f
      exact s.tr p f hp
  tr := fun a f => (Step.newOb (g := g) (o := o) hp).tr a (s.tr a f)
  obs := fun i a b' h1 h2 => by
    have h1 : (g.ob ++ [p])[i]? = some a := h1
    by_cases hi : i < g.ob.length
    · rw [List.getElem?_append_left hi] at h1
      rw [List.getElem?_append_left (by rw [← s.len]; exact hi)] at h2
      exact (s.obs i a b' h1 h2).mono ((Step.newOb hp).mo s) (upd_ne fun z => s.there (List.mem_of_getElem? h1) (z ▸ hp))
    · have hi2 : i = g.ob.length := by
        have := (List.getElem?_eq_some_iff.mp h1).1
        rw [List.length_append] at this
        simp only [List.length_cons, List.length_nil] at this
        omega
      subst hi2
      rw [List.getElem?_append_right (Nat.le_refl _), Nat.sub_self] at h1
      rw [s.len, List.getElem?_append_right (Nat.le_refl _), Nat.sub_self] at h2
      simp at h1 h2
      subst h1; subst h2
      exact r
theorem Gh.obj_at (s : StH c g H t) : (g.obj p).ob[t.length]? = some p := by
  show (g.ob ++ [p])[t.length]? = _
  rw [← s.len, List.getElem?_append_right (Nat.le_refl _), Nat.sub_self]; rfl
end

section
variable {X : Cx} {c : Cn} {en : En} {pos : Pos} {a b : Expr} {fa fb : Env → T → R D}

/-! ### and, or, not, if as values; tests -/
theorem snd_and1 {op : BoolOp} (ha : PE X a (tE c en false fa)) : PE X (.BoolOp op [a] pos) (tE c en false fa) := pe_one ha
theorem snd_and {rest : List Expr} (hK : c.K = X.K) (ha : PE X a (tE c en false fa)) (hb : PE X (.BoolOp .And (b :: rest) pos) (tE c en false fb)) :
    PE X (.BoolOp .And (a :: b :: rest) pos) (tE c en false fun ρ t => bnd (fa ρ t) fun x t => bnd (ofO (truthD t x) t) fun k t => if k then fb ρ t else .ok x t) := (pe_andT ha hb).imp fun σ H Q h => by
  obtain ⟨ρ, t, g, s, r⟩ := h
  refine ⟨ρ, t, g, s, (run_bnd r).mono fun x t1 r1 => ?_⟩
  rw [KF.fls]
  intro v1 g1 H1 st1 s1 rp1
  obtain ⟨k, e, r2⟩ := run_ofO (run_bnd r1)
  refine ⟨k, tru_of hK s1 (Rep.peek s1 rp1) e, ?_⟩
  cases k with
  | true => exact ⟨ρ, t1, g1, s.step st1 s1, r2.mono fun d t2 k => KF.after st1 k⟩
  | false =>
    have k : KF false c g H t1 x Q := r2
    rw [KF.fls] at k
    exact k v1 g1 H1 st1 s1 rp1
theorem snd_or {rest : List Expr} (hK : c.K = X.K) (ha : PE X a (tE c en false fa)) (hb : PE X (.BoolOp .Or (b :: rest) pos) (tE c en false fb)) :
    PE X (.BoolOp .Or (a :: b :: rest) pos) (tE c en false fun ρ t => bnd (fa ρ t) fun x t => bnd (ofO (truthD t x) t) fun k t => if k then .ok x t else fb ρ t) := (pe_orT ha hb).imp fun σ H Q h => by
  obtain ⟨ρ, t, g, s, r⟩ := h
  refine ⟨ρ, t, g, s, (run_bnd r).mono fun x t1 r1 => ?_⟩
  rw [KF.fls]
  intro v1 g1 H1 st1 s1 rp1
  obtain ⟨k, e, r2⟩ := run_ofO (run_bnd r1)
  refine ⟨k, tru_of hK s1 (Rep.peek s1 rp1) e, ?_⟩
  cases k with
  | false => exact ⟨ρ, t1, g1, s.step st1 s1, r2.mono fun d t2 k => KF.after st1 k⟩
  | true =>
    have k : KF false c g H t1 x Q := r2
    rw [KF.fls] at k
    exact k v1 g1 H1 st1 s1 rp1
section
variable {ft fu : Env → T → R Bool}
theorem snd_tru (hK : c.K = X.K) (ha : PE X a (tO c en fa)) (he : ∀ whole, isTrue a X.env whole = (do let v ← whole; standAt a.pos; holding [v] (truthy v))) :
    PT X a (tT c en fun ρ t => bnd (fa ρ t) fun x t => ofO (truthD t x) t) := (pt_truth ha he).imp fun σ H Q h => by
  obtain ⟨ρ, t, g, s, r⟩ := h
  refine ⟨ρ, t, g, s, (run_bnd r).mono fun x t1 r1 v1 g1 H1 st1 s1 rp1 => ?_⟩
  obtain ⟨k, e, q⟩ := run_ofO r1
  exact ⟨k, tru_of hK s1 rp1 e, q g1 H1 st1 s1⟩
theorem snd_tnot (ha : PT X a (tT c en ft)) : PT X (.UnaryOp .Not a pos) (tT c en fun ρ t => bnd (ft ρ t) fun k t => .ok (!k) t) := (pt_not ha).imp fun σ H Q h => by
  obtain ⟨ρ, t, g, s, r⟩ := h
  exact ⟨ρ, t, g, s, (run_bnd r).mono fun k t1 r1 => r1⟩
theorem snd_tand1 (ha : PT X a (tT c en ft)) : PW X (.BoolOp .And [a] pos) (tT c en fun ρ t => bnd (ft ρ t) fun k t => if k then .ok true t else .ok false t) := (pw_and1 ha).imp fun σ H Q h => by
  obtain ⟨ρ, t, g, s, r⟩ := h
  exact ⟨ρ, t, g, s, (run_bnd r).mono fun k t1 r1 => by cases k <;> exact r1⟩
theorem snd_tor1 (ha : PT X a (tT c en ft)) : PW X (.BoolOp .Or [a] pos) (tT c en fun ρ t => bnd (ft ρ t) fun k t => if k then .ok true t else .ok false t) := (pw_or1 ha).imp fun σ H Q h => by
  obtain ⟨ρ, t, g, s, r⟩ := h
  exact ⟨ρ, t, g, s, (run_bnd r).mono fun k t1 r1 => by cases k <;> exact r1⟩
theorem snd_tand {rest : List Expr} (ha : PT X a (tT c en ft)) (hb : PW X (.BoolOp .And (b :: rest) pos) (tT c en fu)) :
    PW X (.BoolOp .And (a :: b :: rest) pos) (tT c en fun ρ t => bnd (ft ρ t) fun k t => if k then fu ρ t else .ok false t) := (pw_and ha hb).imp fun σ H Q h => by
  obtain ⟨ρ, t, g, s, r⟩ := h
  refine ⟨ρ, t, g, s, (run_bnd r).mono fun k t1 r1 g1 H1 st1 s1 => ?_⟩
  cases k with
  | true => exact ⟨ρ, t1, g1, s.step st1 s1, r1.mono fun d t2 k => KT.after st1 k⟩
  | false => exact (show KT c g H t1 false Q from r1) g1 H1 st1 s1
theorem snd_tor {rest : List Expr} (ha : PT X a (tT c en ft)) (hb : PW X (.BoolOp .Or (b :: rest) pos) (tT c en fu)) :
    PW X (.BoolOp .Or (a :: b :: rest) pos) (tT c en fun ρ t => bnd (ft ρ t) fun k t => if k then .ok true t else fu ρ t) := (pw_or ha hb).imp fun σ H Q h => by
  obtain ⟨ρ, t, g, s, r⟩ := h
  refine ⟨ρ, t, g, s, (run_bnd r).mono fun k t1 r1 g1 H1 st1 s1 => ?_⟩
  cases k with
  | false => exact ⟨ρ, t1, g1, s.step st1 s1, r1.mono fun d t2 k => KT.after st1 k⟩
  | true => exact (show KT c g H t1 true Q from r1) g1 H1 st1 s1
theorem snd_ife {d : Expr} (hc : PT X d (tT c en ft)) (ha : PE X a (tE c en false fa)) (hb : PE X b (tE c en false fb)) :
    PE X (.IfExp d a b pos) (tE c en false fun ρ t => bnd (ft ρ t) fun k t => if k then fa ρ t else fb ρ t) := (pe_ifExp hc ha hb).imp fun σ H Q h => by
  obtain ⟨ρ, t, g, s, r⟩ := h
  refine ⟨ρ, t, g, s, (run_bnd r).mono fun k t1 r1 g1 H1 st1 s1 => ?_⟩
  cases k with
  | true => exact ⟨ρ, t1, g1, s.step st1 s1, r1.mono fun d t2 k => KF.after st1 k⟩
  | false => exact ⟨ρ, t1, g1, s.step st1 s1, r1.mono fun d t2 k => KF.after st1 k⟩
end

/-! ### argument lists, displays -/
theorem snd_nil : PA X [] (tAs c en fun _ t => .ok [] t) := pa_nil.imp fun σ H Q h => by
  obtain ⟨ρ, t, g, s, r⟩ := h
  exact (show KA c g H t [] Q from r) [] g H Step.refl s.st rfl
theorem snd_cons {es : List Expr} {fs : Env → T → R (List D)} (ha : PE X a (tE c en false fa)) (hr : PA X es (tAs c en fs)) (hs : starEach (a :: es) X.env = (false, eval a X.env) :: starEach es X.env) :
    PA X (a :: es) (tAs c en fun ρ t => bnd (fa ρ t) fun x t => bnd (fs ρ t) fun xs t => .ok (x :: xs) t) := (pa_cons ha hr hs).imp fun σ H Q h => by
  obtain ⟨ρ, t, g, s, r⟩ := h
  refine ⟨ρ, t, g, s, (run_bnd r).mono fun x t1 r1 => ?_⟩
  rw [KF.fls]
  intro v1 g1 H1 st1 s1 rp1
  refine ⟨ρ, t1, g1, s.step st1 s1, (run_bnd r1).mono fun xs t2 r2 vs g2 H2 st2 s2 rp2 => ?_⟩
  exact (show KA c g H t2 (x :: xs) Q from r2) (v1 :: vs) g2 H2 (st1.trans st2) s2 ⟨v1, vs, rfl, Rep.mono (st2.mo s1) x v1 rp1, rp2⟩
section
variable {es : List Expr} {fs : Env → T → R (List D)}
/-- the display has no more than sz items: told by the number of expressions -/
theorem snd_tup {k : Nat} (ha : PA X es (tAs c en fs)) (hz : ∀ ρ t xs t', fs ρ t = .ok xs t' → xs.length ≤ sz) :
    PE X (.Tuple es k pos) (tE c en false fun ρ t => bnd (fs ρ t) fun xs t => .ok (.tup xs) t) := (pe_tup ha).imp fun σ H Q h => by
  obtain ⟨ρ, t, g, s, r⟩ := h
  refine ⟨ρ, t, g, s, ?_⟩
  have r := run_bnd r
  cases hf : fs ρ t with
  | ok xs t1 =>
    rw [hf] at r
    have k : KF false c g H t1 (.tup xs) Q := r
    rw [KF.fls] at k
    intro vs g1 H1 st1 s1 rp1
    have l := hz ρ t xs t1 hf
    exact ⟨by rw [Reps.length rp1, szL]; exact l, KD.tup (KD.after st1 k) s1 rp1 l⟩
  | ex _ _ _ => rw [hf] at r; exact r.elim
  | no => rw [hf] at r; exact r.elim
end
end
end Pd
set_option Elab.async false
set_option linter.all false
set_option maxRecDepth 100000
set_option autoImplicit false
namespace Pd
open PySem PySem.Spec PyProof.Rows L2 TL Bits

section
variable {X : Cx} {c : Cn} {en : En} {pos : Pos} {a b : Expr} {fa fb : Env → T → R D} {es : List Expr} {fs : Env → T → R (List D)}

/-! ### displays -/
theorem run_ok {α : Type} {r : R α} {k : α → T → Prop} (h : run r k) : ∃ x t, r = .ok x t ∧ k x t := by
  cases r with
  | ok x t => exact ⟨x, t, rfl, h⟩
  | ex _ _ _ => exact h.elim
  | no => exact h.elim
theorem snd_lst (ha : PA X es (tAs c en fs)) (hz : ∀ ρ t xs t', fs ρ t = .ok xs t' → xs.length ≤ sz) :
    PE X (.List es pos) (tE c en true fun ρ t => bnd (fs ρ t) fun xs t => .ok (.lst xs) t) := (pe_lst ha).imp fun σ H Q h => by
  obtain ⟨ρ, t, g, s, r⟩ := h
  refine ⟨ρ, t, g, s, ?_⟩
  obtain ⟨xs, t1, hf, r⟩ := run_ok (run_bnd r)
  rw [hf]
  have k : KL c g H t1 xs Q := r
  intro vs g1 H1 st1 s1 rp1
  have l := hz ρ t xs t1 hf
  exact ⟨by rw [Reps.length rp1, szL]; exact l, KL.lst (KL.after st1 k) s1 rp1 l⟩
theorem snd_newL (ha : PA X es (tAs c en fs)) (hz : ∀ ρ t xs t', fs ρ t = .ok xs t' → xs.length ≤ sz) :
    PE X (.List es pos) (tE c en false fun ρ t => bnd (fs ρ t) fun xs t => .ok (.obj t.length) (t ++ [.lst xs])) := (pe_lst ha).imp fun σ H Q h => by
  obtain ⟨ρ, t, g, s, r⟩ := h
  refine ⟨ρ, t, g, s, ?_⟩
  obtain ⟨xs, t1, hf, r⟩ := run_ok (run_bnd r)
  rw [hf]
  have k : KF false c g H (t1 ++ [.lst xs]) (.obj t1.length) Q := r
  rw [KF.fls] at k
  intro vs g1 H1 st1 s1 rp1
  have l := hz ρ t xs t1 hf
  refine ⟨by rw [Reps.length rp1, szL]; exact l, fun p hp => ?_⟩
  have st2 : Step g1 H1 (g1.obj p) (upd H1 p (.lst vs)) := Step.newOb hp
  exact k (.ref p) (g1.obj p) _ (st1.trans st2) (s1.newOb hp ⟨vs, upd_same, Reps.mono (st2.mo s1) xs vs rp1, l⟩) ⟨p, rfl, Gh.obj_at s1⟩
theorem snd_newD (hP : c.prog = X.prog) (hW : c.w = X.w) (k : Bool) : PE X (.Dict [] [] pos) (tE c en false fun _ t => .ok (.obj t.length) (t ++ [.dct k []])) := by
  cases k with
  | false =>
    refine pe_dnewK.imp fun σ H Q h => ?_
    obtain ⟨ρ, t, g, s, r⟩ := h
    have k : KF false c g H (t ++ [.dct false []]) (.obj t.length) Q := r
    rw [KF.fls] at k
    intro p hp
    have st2 : Step g H (g.obj p) (upd H p (.dK [])) := Step.newOb hp
    exact k (.ref p) (g.obj p) _ st2 (s.st.newOb hp ⟨[], upd_same, List.nodup_nil, trivial⟩) ⟨p, rfl, Gh.obj_at s.st⟩
  | true =>
    refine pe_dicNew.imp fun σ H Q h => ?_
    obtain ⟨ρ, t, g, s, r⟩ := h
    have k : KF false c g H (t ++ [.dct true []]) (.obj t.length) Q := r
    rw [KF.fls] at k
    intro p hp
    have st2 : Step g H (g.obj p) (upd H p (DicO X.prog X.w p [])) := Step.newOb hp
    exact k (.ref p) (g.obj p) _ st2 (s.st.newOb hp ⟨[], by rw [hP, hW]; exact upd_same, trivial⟩) ⟨p, rfl, Gh.obj_at s.st⟩

/-! ### items, slices, isinstance, built-ins -/
theorem snd_ix (hK : c.K = X.K) (hP : c.prog = X.prog) (hW : c.w = X.w) (hu : X.A.units + 64 < cLine) (ha : PE X a (tO c en fa)) (hb : PE X b (tO c en fb)) (hp : PlainIx b) :
    PE X (.Subscript a b pos) (tE c en false fun ρ t => bnd (fa ρ t) fun x t => bnd (fb ρ t) fun y t => ofO (ixD t x y) t) := (pe_ix (op_ix hK hP hW hu) ha hb hp).imp fun σ H Q h => by
  obtain ⟨ρ, t, g, s, r⟩ := h
  refine ⟨ρ, t, g, s, (run_bnd r).mono fun x t1 r1 v1 g1 H1 st1 s1 rp1 => ⟨ρ, t1, g1, s.step st1 s1, (run_bnd r1).mono fun y t2 r2 v2 g2 H2 st2 s2 rp2 => ?_⟩⟩
  obtain ⟨d, e, k⟩ := run_ofO r2
  rw [KF.fls] at k
  exact ⟨g2, t2, x, y, d, s2, rp1.step s1 st2, rp2, e, KD.after (st1.trans st2) k⟩
/-- a part of a slice -/
def tPa (c : Cn) (en : En) (f : Env → T → R (Option Int)) : TO := fun σ H Q => ∃ ρ t g, SR c en g σ H ρ t ∧ run (f ρ t) fun o t' => ∀ g' H', Step g H g' H' → StH c g' H' t' → Q o H'
theorem _root_.L2.PO.imp {X : Cx} {e : Option Expr} {t t' : TO} (h : PO X e t) (k : ∀ σ H Q, t' σ H Q → t σ H Q) : PO X e t' := ⟨fun pins s σ H Q I q => h.run pins s σ H Q I (k σ H Q q)⟩
theorem snd_pnone : PO X none (tPa c en fun _ t => .ok none t) := po_none.imp fun σ H Q h => by
  obtain ⟨ρ, t, g, s, r⟩ := h
  exact (show ∀ g' H', Step g H g' H' → StH c g' H' t → Q none H' from r) g H Step.refl s.st
theorem snd_psome (ha : PE X a (tE c en false fa)) : PO X (some a) (tPa c en fun ρ t => bnd (fa ρ t) fun x t => match x with
    | .int i => .ok (some i) t
    | _ => .no) := (po_some ha).imp fun σ H Q h => by
  obtain ⟨ρ, t, g, s, r⟩ := h
  refine ⟨ρ, t, g, s, (run_bnd r).mono fun x t1 r1 => ?_⟩
  rw [KF.fls]
  intro v1 g1 H1 st1 s1 rp1
  cases x with
  | int i =>
    cases rp1
    exact ⟨i, rfl, (show ∀ g' H', Step g H g' H' → StH c g' H' t1 → Q (some i) H' from r1) g1 H1 st1 s1⟩
  | _ => exact r1.elim
theorem snd_sl {lo hi : Option Expr} {fl fh : Env → T → R (Option Int)} {p2 : Pos} (hK : c.K = X.K) (ha : PE X a (tO c en fa)) (hl : PO X lo (tPa c en fl)) (hh : PO X hi (tPa c en fh)) :
    PE X (.Subscript a (.Slice lo hi none p2) pos) (tE c en true fun ρ t => bnd (fa ρ t) fun x t => bnd (fl ρ t) fun l t => bnd (fh ρ t) fun h t => ofO (cutD l h x) t) := (pe_slice (op_sl hK) ha hl hh).imp fun σ H Q h => by
  obtain ⟨ρ, t, g, s, r⟩ := h
  refine ⟨ρ, t, g, s, (run_bnd r).mono fun x t1 r1 v1 g1 H1 st1 s1 rp1 => ⟨ρ, t1, g1, s.step st1 s1, (run_bnd r1).mono fun l t2 r2 g2 H2 st2 s2 => ⟨ρ, t2, g2, s.step (st1.trans st2) s2, (run_bnd r2).mono fun u t3 r3 g3 H3 st3 s3 => ?_⟩⟩⟩
  obtain ⟨d, e, k⟩ := run_ofO r3
  exact ⟨g3, t3, x, d, s3, rp1.step s1 (st2.trans st3), e, KF.after ((st1.trans st2).trans st3) k⟩
/-- f(e), f a built-in: ha is PA X [a] -/
theorem pa_one (ha : PE X a (tO c en fa)) (hs : starEach [a] X.env = (false, eval a X.env) :: starEach [] X.env) : PA X [a] (tCons (tO c en fa) tNil) := pa_cons ha pa_nil hs
theorem snd_b1 {bb : B1} {pe : Expr} (h : PE X pe (tCB (rB1 c bb) (tCons (tO c en fa) tNil))) : PE X pe (tE c en true fun ρ t => bnd (fa ρ t) fun x t => ofO (b1D t bb x) t) := h.imp fun σ H Q h => by
  obtain ⟨ρ, t, g, s, r⟩ := h
  refine ⟨ρ, t, g, s, (run_bnd r).mono fun x t1 r1 v1 g1 H1 st1 s1 rp1 => ?_⟩
  obtain ⟨d, e, k⟩ := run_ofO r1
  exact ⟨v1, g1, t1, x, d, rfl, s1, rp1, e, KF.after st1 k⟩
theorem snd_b2 {bb : B2} {pe : Expr} (h : PE X pe (tCB (rB2 c bb) (tCons (tO c en fa) (tCons (tO c en fb) tNil)))) : PE X pe (tE c en false fun ρ t => bnd (fa ρ t) fun x t => bnd (fb ρ t) fun y t => ofO (b2D bb x y) t) := h.imp fun σ H Q h => by
  obtain ⟨ρ, t, g, s, r⟩ := h
  refine ⟨ρ, t, g, s, (run_bnd r).mono fun x t1 r1 v1 g1 H1 st1 s1 rp1 => ⟨ρ, t1, g1, s.step st1 s1, (run_bnd r1).mono fun y t2 r2 v2 g2 H2 st2 s2 rp2 => ?_⟩⟩
  obtain ⟨d, e, k⟩ := run_ofO r2
  rw [KF.fls] at k
  exact ⟨v1, v2, g2, t2, x, y, d, rfl, s2, rp1.step s1 st2, rp2, e, KD.after (st1.trans st2) k⟩
theorem snd_isi1 {k : Ty} {n : String} {pe : Expr} (hn : tyN k = [n]) (h : PE X pe (tCB (rIs c k) (tCons (tO c en fa) (tCons (tC (.ty n)) tNil)))) : PE X pe (tE c en false fun ρ t => bnd (fa ρ t) fun x t => ofO ((isiD t k x).map .bl) t) := h.imp fun σ H Q h => by
  obtain ⟨ρ, t, g, s, r⟩ := h
  refine ⟨ρ, t, g, s, (run_bnd r).mono fun x t1 r1 v1 g1 H1 st1 s1 rp1 => ?_⟩
  obtain ⟨d, e, q⟩ := run_ofO r1
  obtain ⟨bb, e1, rfl⟩ := Option.map_eq_some_iff.mp e
  rw [KF.fls] at q
  refine ⟨v1, g1, t1, x, bb, ?_, s1, rp1, e1, KD.after st1 q⟩
  rw [hn]
theorem snd_isiR {pe : Expr} (h : PE X pe (tCB (rIs c .row) (tCons (tO c en fa) (tCons (tTup (tCons (tC (.ty "tuple")) (tCons (tC (.ty "list")) tNil))) tNil)))) : PE X pe (tE c en false fun ρ t => bnd (fa ρ t) fun x t => ofO ((isiD t .row x).map .bl) t) := h.imp fun σ H Q h => by
  obtain ⟨ρ, t, g, s, r⟩ := h
  refine ⟨ρ, t, g, s, (run_bnd r).mono fun x t1 r1 v1 g1 H1 st1 s1 rp1 => ?_⟩
  obtain ⟨d, e, q⟩ := run_ofO r1
  obtain ⟨bb, e1, rfl⟩ := Option.map_eq_some_iff.mp e
  rw [KF.fls] at q
  refine ⟨by show 2 ≤ (sizeLine : Nat); rw [szL]; unfold sz; omega, fun p hp => ?_⟩
  have st2 : Step g1 H1 g1 (upd H1 p (.tup [.ty "tuple", .ty "list"])) := Step.alloc hp
  exact ⟨v1, g1, t1, x, bb, ⟨p, rfl, upd_same⟩, s1.alloc hp, rp1.step s1 st2, e1, KD.after (st1.trans st2) q⟩

/-! ### ''.join -/
theorem sum_len (ss : List (List Nat)) : ((ss.map fun s => (⟨s.toArray⟩ : PySem.Str)).map (·.length)).sum = ss.flatten.length := by
  induction ss with
  | nil => rfl
  | cons s r ih =>
    rw [List.map_cons, List.map_cons, List.sum_cons, ih, str_len, List.flatten_cons, List.length_append]
theorem joinL_nil : ∀ ss : List (List Nat), joinL [] ss = ss.flatten
  | [] => rfl
  | [x] => by simp [joinL]
  | x :: y :: r => by
    have h := joinL_nil (y :: r)
    show x ++ ([] ++ joinL [] (y :: r)) = _
    rw [h, List.nil_append]
    rfl
theorem join_mk (ss : List (List Nat)) : Txt.join ⟨([] : List Nat).toArray⟩ (ss.map fun s => (⟨s.toArray⟩ : PySem.Str)) = ⟨ss.flatten.toArray⟩ := by
  refine ext_tl ?_
  rw [join_eq, tl_join, tl_mk, tl_mk]
  rw [List.map_map]
  have : (tl ∘ fun s : List Nat => (⟨s.toArray⟩ : PySem.Str)) = id := by funext s; exact tl_mk s
  rw [this, List.map_id, joinL_nil]
theorem snd_join {apos p0 : Pos} {j : Nat} {x0 : PySem.Str} (hx : x0 = ⟨([] : List Nat).toArray⟩) (hK : c.K = X.K) (ha : PE X a (tO c en fa)) (hs : starEach [a] X.env = [(false, eval a X.env)]) (hl : (apos.endLine == pos.line) = true) :
    PE X (.Call (.Attribute (.Constant (.str x0) j p0) "join" apos) [a] [] pos) (tE c en false fun ρ t => bnd (fa ρ t) fun x t => match seqs x with
    | some xs => ofO ((strsOf xs).bind fun ss => if ss.flatten.length ≤ sz then some (.str ss.flatten) else none) t
    | none => .no) := (pe_join pe_str ha hs rfl hl).imp fun σ H Q h => by
  subst hx
  obtain ⟨ρ, t, g, s, r⟩ := h
  refine ⟨⟨_, rfl⟩, ρ, t, g, s, (run_bnd r).mono fun x t1 r1 v1 g1 H1 st1 s1 rp1 => ?_⟩
  have fin : ∀ (p : Addr) (vs : List V) (ds : List D), (SqL X.K H1 p vs ∨ SqT X.K H1 p vs) → Reps c g1 H1 vs ds → run (ofO ((strsOf ds).bind fun ss => if ss.flatten.length ≤ sz then some (.str ss.flatten) else none) t1) (fun d t' => KF false c g H t' d Q) →
      ∃ (a : PySem.Str) (p' : Addr) (ys : List PySem.Str), V.str (⟨([] : List Nat).toArray⟩ : PySem.Str) = .str a ∧ [V.ref p] = [.ref p'] ∧ (SqL X.K H1 p' (ys.map V.str) ∨ SqT X.K H1 p' (ys.map V.str)) ∧ (ys.map (·.length)).sum + ys.length * a.length ≤ 16777216 ∧ Q (.str (Txt.join a ys)) H1 := fun p vs ds hq rr r2 => by
    obtain ⟨d, e, q⟩ := run_ofO r2
    obtain ⟨ss, e1, e2⟩ := Option.bind_eq_some_iff.mp e
    obtain ⟨h1, h2⟩ := Reps.strsOf rr e1
    by_cases hl : ss.flatten.length ≤ sz
    · rw [if_pos hl] at e2; cases e2
      rw [KF.fls] at q
      have e3 : vs = (ss.map fun s => (⟨s.toArray⟩ : PySem.Str)).map V.str := by rw [h1, List.map_map]; rfl
      rw [e3] at hq
      refine ⟨_, p, _, rfl, rfl, hq, ?_, ?_⟩
      · rw [sum_len, str_len]
        show _ + _ * 0 ≤ _
        rw [Nat.mul_zero, Nat.add_zero]; exact hl
      · rw [join_mk]
        refine q _ g1 H1 st1 s1 ⟨rfl, hl, fun x hx => ?_⟩
        obtain ⟨z, hz, hm⟩ := List.mem_flatten.mp hx
        exact (h2 z hz).2 x hm
    · rw [if_neg hl] at e2; cases e2
  cases x with
  | tup ds =>
    obtain ⟨p, vs, rfl, _, q, rr, l⟩ := rp1
    exact fin p vs ds (.inr (SqT.of q)) rr r1
  | lst ds =>
    obtain ⟨p, vs, rfl, _, q, rr, l⟩ := rp1
    exact fin p vs ds (.inl (SqL.of q)) rr r1
  | _ => exact r1.elim
end

/-! ### fields -/
theorem lookup_names {c : Cn} {g : Gh} {H : Hp} (inj : ∀ i j s, c.fnm i = some s → c.fnm j = some s → i = j) {f : Nat} {n0 : PySem.Str} (hf : c.fnm f = some n0) : ∀ {gs : List (PySem.Str × V)} {fs : List (Nat × D)}, gs.map (fun p => some p.1) = fs.map (fun p => c.fnm p.1) → Reps c g H (gs.map (·.2)) (fs.map (·.2)) → ∀ d, fs.lookup f = some d → ∃ v, gs.lookup n0 = some v ∧ Rep c g H v d
  | _, [], h, _, d, e => by cases e
  | [], _ :: _, h, _, _, _ => by simp at h
  | (n, v) :: gs, (k, d') :: fs, h, r, d, e => by
    simp only [List.map_cons, List.cons.injEq] at h
    obtain ⟨w, ws, e1, r1, r2⟩ := r
    simp only [List.map_cons, List.cons.injEq] at e1
    obtain ⟨rfl, rfl⟩ := e1
    rw [List.lookup_cons] at e ⊢
    by_cases hk : f = k
    · subst hk
      rw [beq_self_eq_true] at e
      cases e
      have e2 : n = n0 := by
        have := h.1.trans hf
        simpa using this
      subst e2
      rw [beq_self_eq_true]
      exact ⟨v, rfl, r1⟩
    · have n1 : (f == k) = false := by simpa using hk
      have n2 : (n0 == n) = false := by
        simp only [beq_eq_false_iff_ne, ne_eq]
        intro z
        subst z
        exact hk (inj _ _ _ hf h.1.symm)
      rw [n1] at e
      rw [n2]
      exact lookup_names inj hf h.2 r2 d e
theorem lookup_none {c : Cn} {m : PySem.Str} : ∀ {gs : List (PySem.Str × V)} {fs : List (Nat × D)}, gs.map (fun p => some p.1) = fs.map (fun p => c.fnm p.1) → (∀ i, c.fnm i ≠ some m) → gs.lookup m = none
  | [], _, _, _ => rfl
  | (n, v) :: gs, [], h, _ => by simp at h
  | (n, v) :: gs, (k, d) :: fs, h, hn => by
    simp only [List.map_cons, List.cons.injEq] at h
    rw [List.lookup_cons]
    have : (m == n) = false := by
      simp only [beq_eq_false_iff_ne, ne_eq]
      intro z
      subst z
      exact hn k h.1.symm
    rw [this]
    exact lookup_none h.2 hn
section
variable {X : Cx} {c : Cn} {en : En} {pos : Pos} {o : Expr} {fo : Env → T → R D}
/-- what is asked of the classes -/
structure ClsF (c : Cn) : Prop where
  inj : ∀ i j s, c.fnm i = some s → c.fnm j = some s → i = j
  cls : ∀ k C, c.ca k = some C → L2.Cls c.K C
  no : ∀ k C i s, c.ca k = some C → c.fnm i = some s → NoAttr c.K C s
theorem snd_fld {f : Nat} {n0 : PySem.Str} (F : ClsF c) (hf : c.fnm f = some n0) (hK : c.K = X.K) (ho : PE X o (tE c en false fo)) (hb : attributeBase o n0 X.env (eval o X.env) = eval o X.env) :
    PE X (.Attribute o n0 pos) (tE c en false fun ρ t => bnd (fo ρ t) fun x t => ofO (fldD t f x) t) := (pe_fld ho hb).imp fun σ H Q h => by
  obtain ⟨ρ, t, g, s, r⟩ := h
  refine ⟨ρ, t, g, s, (run_bnd r).mono fun x t1 r1 => ?_⟩
  rw [KF.fls]
  intro v1 g1 H1 st1 s1 rp1
  obtain ⟨d, e, k⟩ := run_ofO r1
  rw [KF.fls] at k
  cases x with
  | obj n =>
    cases ht : t1[n]? with
    | none => simp [fldD, ht] at e
    | some ob =>
      cases ob with
      | ins kc fs =>
        simp only [fldD, ht] at e
        obtain ⟨p, rfl, _, C, dx, gs, h1, h2, h3, h4⟩ := obj_at s1 rp1 ht
        obtain ⟨v, e1, e2⟩ := lookup_names F.inj hf h3 h4 d e
        exact ⟨p, C, dx, gs, v, rfl, h2, hK ▸ F.cls kc C h1, hK ▸ F.no kc C f _ h1 hf, e1, k v g1 H1 st1 s1 e2⟩
      | _ => simp [fldD, ht] at e
  | _ => simp [fldD] at e
end
end Pd
set_option Elab.async false
set_option linter.all false
set_option maxRecDepth 100000
set_option autoImplicit false
/-! Pd: how a call's arguments are bound: plain parameters, given by position or by name. -/
namespace Pd
open PySem PySem.Spec PyProof.Rows L2 TL Bits

theorem bind_loop {α : Type} {N : List PySem.Str} (f : PySem.Str × Value → (List (PySem.Str × Value) × α) → Sem (ForInStep (List (PySem.Str × Value) × α)))
    (hf : ∀ x s, x.1 ∈ N → s.1.lookup x.1 = none → f x s = pure (.yield (s.1 ++ [(x.1, x.2)], s.2))) :
    ∀ (kw : List (PySem.Str × Value)) (s : List (PySem.Str × Value) × α), (∀ x ∈ kw, x.1 ∈ N) → (∀ x ∈ kw, s.1.lookup x.1 = none) → (kw.map (·.1)).Nodup → forIn kw s f = pure (s.1 ++ kw, s.2)
  | [], s, _, _, _ => by rw [List.forIn_nil, List.append_nil]
  | x :: kw, s, h1, h2, h3 => by
    rw [List.forIn_cons, hf x s (h1 x List.mem_cons_self) (h2 x List.mem_cons_self)]
    show forIn kw (s.1 ++ [(x.1, x.2)], s.2) f = _
    rw [List.map_cons, List.nodup_cons] at h3
    rw [bind_loop f hf kw _ (fun y hy => h1 y (List.mem_cons_of_mem _ hy)) (fun y hy => ?_) h3.2]
    · rw [List.append_assoc]; rfl
    · show List.lookup y.1 (s.1 ++ [(x.1, x.2)]) = none
      have n : y.1 ≠ x.1 := fun e => h3.1 (e ▸ List.mem_map.mpr ⟨y, hy, rfl⟩)
      have q := h2 y (List.mem_cons_of_mem _ hy)
      generalize s.1 = l at q ⊢
      clear hf h1 h2
      induction l with
      | nil =>
        show List.lookup y.1 [(x.1, x.2)] = none
        rw [List.lookup_cons]
        have : (y.1 == x.1) = false := by simpa using n
        rw [this]; rfl
      | cons p l ih =>
        rw [List.cons_append, List.lookup_cons]
        rw [List.lookup_cons] at q
        cases e : y.1 == p.1 with
        | true => rw [e] at q; cases q
        | false => rw [e] at q; exact ih q
theorem lookup_app {β : Type} {n : PySem.Str} : ∀ (l m : List (PySem.Str × β)), (l ++ m).lookup n = (l.lookup n).or (m.lookup n)
  | [], m => by simp
  | p :: l, m => by
    rw [List.cons_append, List.lookup_cons, List.lookup_cons]
    cases n == p.1 with
    | true => rfl
    | false => exact lookup_app l m
theorem lookup_zip {β : Type} {n : PySem.Str} : ∀ {ns : List PySem.Str} {us : List β}, n ∈ ns → ns.length = us.length → ∃ u, (ns.zip us).lookup n = some u
  | [], _, h, _ => by cases h
  | _ :: _, [], _, e => by cases e
  | m :: ns, u :: us, h, e => by
    rw [List.zip_cons_cons, List.lookup_cons]
    cases hc : n == m with
    | true => exact ⟨u, rfl⟩
    | false =>
      have : n ∈ ns := by
        rcases List.mem_cons.mp h with rfl | h
        · rw [beq_self_eq_true] at hc; cases hc
        · exact h
      exact lookup_zip this (by simpa using e)
theorem lookup_no {β : Type} {n : PySem.Str} : ∀ {l : List (PySem.Str × β)}, n ∉ l.map (·.1) → l.lookup n = none
  | [], _ => rfl
  | p :: l, h => by
    rw [List.map_cons, List.mem_cons] at h
    rw [List.lookup_cons]
    have : (n == p.1) = false := by simpa using fun e => h (.inl e)
    rw [this]
    exact lookup_no fun q => h (.inr q)
theorem map_zip {β : Type} : ∀ {ns : List PySem.Str} {us : List β}, (ns.zip us).map (·.1) = ns.take us.length
  | [], us => by simp
  | n :: ns, [] => by simp
  | n :: ns, u :: us => by simp [map_zip]
/-- the values of the names N, by position and by name -/
def putIn {β : Type} (d : β) (N ks : List PySem.Str) (us ws : List β) : List β := N.map fun n => ((N.zip us ++ ks.zip ws).lookup n).getD d
/-- the names that are given by name are those that lack -/
def KwOk (N ks : List PySem.Str) (n : Nat) : Prop := N.Nodup ∧ ks.Nodup ∧ (∀ k ∈ ks, k ∈ N.drop n) ∧ ∀ k ∈ N.drop n, k ∈ ks
theorem seqItems_none : seqItems? Value.none = pure none := rfl
theorem filterMap_zip {N : List PySem.Str} {s : List (PySem.Str × Value)} (h : ∀ n ∈ N, ∃ u, s.lookup n = some u) : N.filterMap (fun n => (s.lookup n).map (n, ·)) = N.zip (N.map fun n => (s.lookup n).getD .none) := by
  induction N with
  | nil => rfl
  | cons n N ih =>
    obtain ⟨u, e⟩ := h n List.mem_cons_self
    rw [List.filterMap_cons, e, List.map_cons, List.zip_cons_cons, e, ih fun m hm => h m (List.mem_cons_of_mem _ hm)]
    rfl
theorem bind_kw {name qual : PySem.Str} {ps : List PySem.Arg} {body : List Stmt} {scope : Scope} {kV doc pm cdv ct : Value} {an : Option Addr} (us ws : List Value) (ks : List PySem.Str)
    (ok : KwOk (ps.map (·.arg)) ks us.length) (h1 : us.length ≤ ps.length) (h2 : ks.length = ws.length) :
    bindArgs (PySem.W.fnOf name qual { posonlyargs := [], args := ps, vararg := none, kwonlyargs := [], kw_defaults := [], kwarg := none, defaults := [] } body scope .none kV doc pm an cdv ct) ⟨us, ks.zip ws⟩ =
      pure ((ps.map (·.arg)).zip (putIn .none (ps.map (·.arg)) ks us ws)) := by
  obtain ⟨nd, ndk, hk, hk2⟩ := ok
  have some_ : ∀ n ∈ ps.map (·.arg), ∃ u, ((ps.map (·.arg)).zip us ++ ks.zip ws).lookup n = some u := fun n hn => by
    rw [lookup_app]
    cases e : ((ps.map (·.arg)).zip us).lookup n with
    | some u => exact ⟨u, rfl⟩
    | none =>
      have : n ∈ ks := by
        refine hk2 n ?_
        by_cases hd : n ∈ (ps.map (·.arg)).drop us.length
        · exact hd
        · have ht : n ∈ (ps.map (·.arg)).take us.length := by
            rw [← List.take_append_drop us.length (ps.map (·.arg))] at hn
            exact (List.mem_append.mp hn).resolve_right hd
          have hz : (ps.map (·.arg)).zip us = ((ps.map (·.arg)).take us.length).zip us := by
            conv => lhs; rw [← List.take_append_drop us.length (ps.map (·.arg))]
            rw [show us = us ++ [] by simp]
            rw [List.zip_append (by rw [List.length_take, List.length_map]; simp; omega)]
            simp
          obtain ⟨u, q⟩ := lookup_zip (us := us) ht (by rw [List.length_take, List.length_map]; omega)
          rw [hz, q] at e; cases e
      obtain ⟨u, q⟩ := lookup_zip this h2
      exact ⟨u, by rw [q]; rfl⟩
  unfold bindArgs
  simp only [PySem.W.fnOf, List.map_nil, List.nil_append]
  rw [bind_loop (N := ps.map (·.arg)) _ (fun x s hx hs => ?_) (ks.zip ws) _ (fun x hx => List.mem_of_mem_drop (hk x.1 (List.of_mem_zip hx).1)) (fun x hx => lookup_no ?_) ?_]
  · rw [pure_bind, seqItems_none, pure_bind]
    simp only [Option.getD_none, List.drop_nil, List.length_nil, Nat.zero_sub, Nat.sub_zero, List.append_nil]
    have g1 : (decide (us.length > (ps.map (·.arg)).length) && (none : Option PySem.Arg).isNone) = false := by
      rw [List.length_map]; simp; omega
    simp only [g1, Bool.false_eq_true, if_false]
    have g2 : (List.filter (fun n => (List.lookup n ((ps.map (·.arg)).zip us ++ ks.zip ws)).isNone) (List.take (ps.map (·.arg)).length (ps.map (·.arg)))) = [] := by
      rw [List.filter_eq_nil_iff]
      intro n hn
      obtain ⟨u, e⟩ := some_ n (List.mem_of_mem_take hn)
      rw [e]; simp
    simp only [g2, List.isEmpty_nil, Bool.not_true, Bool.false_eq_true, if_false, List.zip_nil_right, List.forIn_nil, pure_bind, List.append_nil]
    rw [filterMap_zip some_]
    rfl
  · rw [map_zip, ← h2, List.take_length]; exact ndk
  · rw [if_pos (by simpa using hx), hs]
    rfl
  · rw [map_zip]
    intro hm
    have h3 := hk x.1 (List.of_mem_zip hx).1
    have nd2 := nd
    rw [← List.take_append_drop us.length (ps.map (·.arg))] at nd2
    exact (List.nodup_append.mp nd2).2.2 x.1 hm x.1 h3 rfl
end Pd
set_option Elab.async false
set_option linter.all false
set_option maxRecDepth 100000
set_option autoImplicit false
/-! Pd: calls of the text's own defs, methods, classes. -/
namespace Pd
open PySem PySem.Spec PyProof.Rows L2 TL Bits

abbrev nm (s : String) : PySem.Str := PySem.Str.ofString s

/-- a def's promise: it does what sem does -/
def spF (c : Cn) (sem : List D → T → R D) (np : Nat) : Sp := fun vs H Q _ => ∃ g t ds, StH c g H t ∧ Reps c g H vs ds ∧ ds.length = np ∧ run (sem ds t) fun d t' => KD c g H t' d Q

/-- plain parameters -/
def Plain (fd : FuncData) (ps : List PySem.Str) : Prop := ∃ (name qual : PySem.Str) (as : List PySem.Arg) (body : List Stmt) (scope : Scope) (kV doc pm cdv ct : Value) (an : Option Addr),
  fd = PySem.W.fnOf name qual { posonlyargs := [], args := as, vararg := none, kwonlyargs := [], kw_defaults := [], kwarg := none, defaults := [] } body scope .none kV doc pm an cdv ct ∧ ps = as.map (·.arg) ∧ ps.Nodup
/-- values given by name: the one of the i-th lacking parameter stands at pm i -/
def PmOk (N ks : List PySem.Str) (n : Nat) (pm : List Nat) : Prop := N.Nodup ∧ ks.Nodup ∧ n + pm.length = N.length ∧ ks.length = pm.length ∧ (∀ k, k < pm.length → k ∈ pm) ∧ ∀ i k, pm[i]? = some k → ∃ x, N[n + i]? = some x ∧ ks[k]? = some x
theorem lookup_zip_at {β : Type} {n : PySem.Str} : ∀ {ns : List PySem.Str} {us : List β} {k : Nat}, ns.Nodup → ns[k]? = some n → (ns.zip us).lookup n = us[k]?
  | [], _, _, _, h => by simp at h
  | m :: ns, [], k, _, _ => by simp
  | m :: ns, u :: us, 0, _, h => by
    simp at h
    simp [List.lookup_cons, h]
  | m :: ns, u :: us, k + 1, nd, h => by
    rw [List.nodup_cons] at nd
    have h' : ns[k]? = some n := by simpa using h
    have : (n == m) = false := by simpa using fun e : n = m => nd.1 (e ▸ List.mem_of_getElem? h')
    rw [List.zip_cons_cons, List.lookup_cons, this]
    rw [lookup_zip_at nd.2 h']
    simp
theorem putIn_pm {β : Type} (d : β) {N ks : List PySem.Str} {us ws : List β} {pm : List Nat} (ok : PmOk N ks us.length pm) : putIn d N ks us ws = us ++ pm.map fun k => ws.getD k d := by
  obtain ⟨nd, ndk, hl, hkl, ndp, h⟩ := ok
  apply List.ext_getElem?
  intro i
  unfold putIn
  rw [List.getElem?_map]
  by_cases hi : i < us.length
  · have hN : i < N.length := by omega
    rw [List.getElem?_eq_getElem hN, List.getElem?_append_left hi]
    show some (((N.zip us ++ ks.zip ws).lookup N[i]).getD d) = _
    rw [lookup_app, lookup_zip_at nd (List.getElem?_eq_getElem hN), List.getElem?_eq_getElem hi]
    rfl
  · rw [List.getElem?_append_right (by omega), List.getElem?_map]
    cases hp : pm[i - us.length]? with
    | none =>
      have : pm.length ≤ i - us.length := List.getElem?_eq_none_iff.mp hp
      rw [List.getElem?_eq_none (by omega)]; rfl
    | some k =>
      obtain ⟨x, h1, h2⟩ := h _ k hp
      rw [show us.length + (i - us.length) = i by omega] at h1
      rw [h1]
      show some _ = some _
      congr 1
      show (((N.zip us ++ ks.zip ws).lookup x).getD d) = ws.getD k d
      rw [lookup_app, lookup_zip_at nd h1, List.getElem?_eq_none (by omega)]
      show ((ks.zip ws).lookup x).getD d = _
      rw [lookup_zip_at ndk h2]
      rfl
theorem Plain.binds {K : PySem.W.Frag} {fd : FuncData} {ps : List PySem.Str} (p : Plain fd ps) : Binds K fd ps [] := by
  obtain ⟨name, qual, as, body, scope, kV, doc, pm, cdv, ct, an, rfl, rfl, nd⟩ := p
  refine .all fun us h => ?_
  have q := bind_kw (name := name) (qual := qual) (ps := as) (body := body) (scope := scope) (kV := kV) (doc := doc) (pm := pm) (cdv := cdv) (ct := ct) (an := an) us [] [] ⟨nd, List.nodup_nil, fun k hk => absurd hk (by simp), fun k hk => ?_⟩ (by rw [h, List.length_map]; exact Nat.le_refl _) rfl
  · rw [putIn_pm (pm := []) Value.none ⟨nd, List.nodup_nil, by simpa using h, rfl, fun k hk => absurd hk (by simp), fun i k hk => absurd hk (by simp)⟩] at q
    rw [List.map_nil, List.append_nil] at q
    exact q
  · rw [h, List.drop_length] at hk; cases hk
theorem Vals.getD {vs : List V} {us : List Value} (r : Vals vs us) (k : Nat) : L2.RelV (vs.getD k .non) (us.getD k .none) := by
  cases e : vs[k]? with
  | none =>
    have e2 := r.none_of e
    rw [List.getD_eq_getElem?_getD, List.getD_eq_getElem?_getD, e, e2]; exact rfl
  | some v =>
    obtain ⟨u, e2, q⟩ := r.get e
    rw [List.getD_eq_getElem?_getD, List.getD_eq_getElem?_getD, e, e2]; exact q
theorem Vals.pick {vs : List V} {us : List Value} (r : Vals vs us) : ∀ pm : List Nat, Vals (pm.map fun k => vs.getD k .non) (pm.map fun k => us.getD k .none)
  | [] => .nil
  | k :: pm => .cons (Vals.getD r k) (Vals.pick r pm)
theorem Plain.kbinds {fd : FuncData} {N ks : List PySem.Str} {n : Nat} {pm : List Nat} (p : Plain fd N) (ok : PmOk N ks n pm) {s : Shared} {us ws : List Value} (hu : us.length = n) (hw : ks.length = ws.length) :
    BindsTo s fd ⟨us, ks.zip ws⟩ (N.zip (us ++ pm.map fun k => ws.getD k .none)) := by
  obtain ⟨name, qual, as, body, scope, kV, doc, pmm, cdv, ct, an, rfl, rfl, nd⟩ := p
  subst hu
  rw [← putIn_pm .none ok]
  have okc := ok
  obtain ⟨nd', ndk, hl, hkl, ndp, h⟩ := okc
  refine .of_eq (bind_kw us ws ks ⟨nd, ndk, fun k hk => ?_, fun k hk => ?_⟩ (by rw [List.length_map] at hl; omega) hw)
  · -- every name given is one that lacks
    obtain ⟨j, hj⟩ := List.getElem?_of_mem hk
    have hjl : j < pm.length := by rw [← hkl]; exact (List.getElem?_eq_some_iff.mp hj).1
    obtain ⟨i, hi⟩ := List.getElem?_of_mem (ndp j hjl)
    obtain ⟨x, h1, h2⟩ := h i j hi
    rw [hj] at h2; cases h2
    have : ((as.map (·.arg)).drop us.length)[i]? = some k := by rw [List.getElem?_drop]; exact h1
    exact List.mem_of_getElem? this
  · obtain ⟨i, hi⟩ := List.getElem?_of_mem hk
    rw [List.getElem?_drop] at hi
    have hil : i < pm.length := by
      have := (List.getElem?_eq_some_iff.mp hi).1
      omega
    obtain ⟨x, h1, h2⟩ := h i _ (List.getElem?_eq_getElem hil)
    rw [hi] at h1; cases h1
    exact List.mem_of_getElem? h2

structure FnAt (c : Cn) (P : Program) (w : World) (mg : PySem.Str → Option Value) (base : Heap) (lv : Nat) (F : Fn) (sem : List D → T → R D) : Prop where
  ex : ∃ (f : Addr) (fd : FuncData) (ps : List PySem.Str), FnOk P w c.K mg base CX0 lv f fd ps (spF c sem F.np) ∧ PySem.W.keepIn c.K (.ref f) = true ∧ Plain fd ps ∧ ps = (F.N.take F.np).map nm ∧ (∃ oc od osl, c.K.lookup f = some ⟨oc, od, .func fd, osl⟩) ∧
    (match F.cls with
    | none => mg (nm F.name) = some (.ref f)
    | some k => ∃ C, c.ca k = some C ∧ Meth c.K C (nm F.name) f)
structure ClsAt (c : Cn) (mg : PySem.Str → Option Value) (k : Nat) (C : Cls) : Prop where
  ex : ∃ Ca, c.ca k = some Ca ∧ mg (nm C.name) = some (.ref Ca) ∧ PySem.W.makesIn c.K Ca = true ∧ PySem.W.keepIn c.K (.ref Ca) = true

section
variable {X : Cx} {c : Cn} {en : En} {pos p apos : Pos} {es : List Expr} {fs : Env → T → R (List D)} {F : Fn} {sem : List D → T → R D} {lv : Nat} {e o : Expr}
theorem tCall_of {sp : Sp} {t : TA} {σ : L2.St} {H : Hp} {Q : VK} {E : XK} (h : t σ H fun vs H1 => sp (vs ++ []) H1 Q E) : tCall sp [] E t σ H Q := h
theorem snd_call0 (hK : c.K = X.K) (A : FnAt c X.prog X.w X.mg X.base lv F sem) (hr : Room lv X.A) (hc : F.cls = none) (hg : Gl X (nm F.name)) (har : ∀ ds t d t', sem ds t = .ok d t' → ds.length = F.np) (hdb : (nm F.name == ("__debug__" : PySem.Str)) = false) :
    PE X (.Call (.Name (nm F.name) p) [] [] pos) (tE c en false fun ρ t => bnd (.ok [] t) fun xs t => sem xs t) := by
  obtain ⟨f, fd, ps, G, kp, pl, hps, _, hm⟩ := A.ex
  rw [hc] at hm
  rw [hK] at G kp
  refine (pe_call0 (E := fun _ _ _ => False) G hr hg hm kp pl.binds .nil pass0 hdb).imp fun σ H Q h => ?_
  obtain ⟨ρ, t, g, s, r⟩ := h
  obtain ⟨d, t1, e1, k⟩ := run_ok r
  rw [KF.fls] at k
  refine ⟨g, t, [], s.st, rfl, har _ _ _ _ e1, ?_⟩
  have e1 : sem [] t = .ok d t1 := e1
  rw [e1]; exact k
theorem snd_call (hK : c.K = X.K) (A : FnAt c X.prog X.w X.mg X.base lv F sem) (hr : Room lv X.A) (hc : F.cls = none) (hg : Gl X (nm F.name)) (har : ∀ ds t d t', sem ds t = .ok d t' → ds.length = F.np) (hdb : (nm F.name == ("__debug__" : PySem.Str)) = false)
    (ha : PA X (e :: es) (tAs c en fs)) (he : starEach (e :: es) X.env = (false, eval e X.env) :: starEach es X.env) (hpl : (backTo pos (starEach es X.env)).any (·.1) = false) :
    PE X (.Call (.Name (nm F.name) p) (e :: es) [] pos) (tE c en false fun ρ t => bnd (fs ρ t) fun xs t => sem xs t) := by
  obtain ⟨f, fd, ps, G, kp, pl, hps, _, hm⟩ := A.ex
  rw [hc] at hm
  rw [hK] at G kp
  refine (pe_call (E := fun _ _ _ => False) G hr hg hm kp pl.binds .nil pass0 ha hdb he hpl).imp fun σ H Q h => ?_
  obtain ⟨ρ, t, g, s, r⟩ := h
  refine ⟨ρ, t, g, s, (run_bnd r).mono fun xs t1 r1 vs g1 H1 st1 s1 rp1 => ?_⟩
  obtain ⟨d, t2, e1, k⟩ := run_ok r1
  rw [KF.fls] at k
  refine ⟨g1, t1, xs, s1, by rw [List.append_nil]; exact rp1, har _ _ _ _ e1, ?_⟩
  rw [e1]; exact KD.after st1 k

theorem mcall_form {o : Expr} {m : PySem.Str} {apos pos : Pos} {args : List Expr} {env : PySem.Env} (hb : attributeBase o m env (eval o env) = eval o env) (hf : methodCallForm (args.length + ([] : List Keyword).length) (backTo pos (starEach args env)) (backToKw pos (keywordEach [] env)) = true) (hl : (apos.endLine == pos.line) = true) :
    eval (.Call (.Attribute o m apos) args [] pos) env = (do
      let ov ← eval o env
      standAt apos.atName
      let (f, first) ← holding [ov] (getMethod ov m (plainOf o env))
      callWith pos f first (backTo pos (starEach args env)) (backToKw pos (keywordEach [] env))) := by
  show (do
    let ov ← attributeBase o m env (eval o env)
    standAt apos.atName
    methodCall o m apos pos env ov (args.length + ([] : List Keyword).length) (backTo pos (starEach args env)) (backToKw pos (keywordEach [] env))) = _
  rw [hb]
  congr 1; funext ov
  congr 1; funext _
  rw [mcall_line hf hl]
theorem snd_mth0 {fo : Env → T → R D} {kc : Nat} (F0 : ClsF c) (hK : c.K = X.K) (A : FnAt c X.prog X.w X.mg X.base lv F sem) (hr : Room lv X.A) (hc : F.cls = some kc) (har : ∀ ds t d t', sem ds t = .ok d t' → ds.length = F.np) (hno : ∀ i, c.fnm i ≠ some (nm F.name))
    (ho : PE X o (tE c en false fo)) (hb : attributeBase o (nm F.name) X.env (eval o X.env) = eval o X.env) (hl : (apos.endLine == pos.line) = true) :
    PE X (.Call (.Attribute o (nm F.name) apos) [] [] pos) (tE c en false fun ρ t => bnd (fo ρ t) fun x t => if isIns t kc x then bnd (.ok [] t) fun xs t => sem (x :: xs) t else .no) := by
  obtain ⟨f, fd, ps, G, kp, pl, hps, _, hm⟩ := A.ex
  rw [hc] at hm
  obtain ⟨C, hC, hme⟩ := hm
  have hcl := F0.cls kc C hC
  rw [hK] at G kp hme hcl
  refine (pe_meth0 (E := fun _ _ _ => False) (pl := plainOf o X.env) ho hcl hme G hr pl.binds .nil pass0 (mcall_form hb rfl hl)).imp fun σ H Q h => ?_
  obtain ⟨ρ, t, g, s, r⟩ := h
  refine ⟨ρ, t, g, s, (run_bnd r).mono fun x t1 r1 => ?_⟩
  rw [KF.fls]
  intro v1 g1 H1 st1 s1 rp1
  by_cases hi : isIns t1 kc x = true
  · rw [if_pos hi] at r1
    cases x with
    | obj n =>
      cases ht : t1[n]? with
      | none => simp [isIns, ht] at hi
      | some ob =>
        cases ob with
        | ins k fs =>
          simp only [isIns, ht, beq_iff_eq] at hi
          subst hi
          obtain ⟨q, rfl, _, C', dx, gs, h1, h2, h3, h4⟩ := obj_at s1 rp1 ht
          rw [hC] at h1; cases h1
          refine ⟨q, dx, gs, rfl, h2, lookup_none h3 hno, ?_⟩
          obtain ⟨d, t2, e1, k2⟩ := run_ok r1
          have e1 : sem [.obj n] t1 = .ok d t2 := e1
          rw [KF.fls] at k2
          refine ⟨g1, t1, [.obj n], s1, ⟨.ref q, [], rfl, rp1, rfl⟩, har _ _ _ _ e1, ?_⟩
          rw [e1]; exact KD.after st1 k2
        | _ => simp [isIns, ht] at hi
    | _ => simp [isIns] at hi
  · rw [if_neg hi] at r1; exact r1.elim
theorem snd_mth {fo : Env → T → R D} {kc : Nat} (F0 : ClsF c) (hK : c.K = X.K) (A : FnAt c X.prog X.w X.mg X.base lv F sem) (hr : Room lv X.A) (hc : F.cls = some kc) (har : ∀ ds t d t', sem ds t = .ok d t' → ds.length = F.np) (hno : ∀ i, c.fnm i ≠ some (nm F.name))
    (ho : PE X o (tE c en false fo)) (hb : attributeBase o (nm F.name) X.env (eval o X.env) = eval o X.env) (hl : (apos.endLine == pos.line) = true)
    (ha : PA X (e :: es) (tAs c en fs)) (hst : starEach (e :: es) X.env = (false, eval e X.env) :: starEach es X.env) (hpl : (backTo pos (starEach es X.env)).any (·.1) = false) (hf : methodCallForm ((e :: es).length + ([] : List Keyword).length) (backTo pos (starEach (e :: es) X.env)) (backToKw pos (keywordEach [] X.env)) = true) :
    PE X (.Call (.Attribute o (nm F.name) apos) (e :: es) [] pos) (tE c en false fun ρ t => bnd (fo ρ t) fun x t => if isIns t kc x then bnd (fs ρ t) fun xs t => sem (x :: xs) t else .no) := by
  obtain ⟨f, fd, ps, G, kp, pl, hps, _, hm⟩ := A.ex
  rw [hc] at hm
  obtain ⟨C, hC, hme⟩ := hm
  have hcl := F0.cls kc C hC
  rw [hK] at G kp hme hcl
  refine (pe_meth (E := fun _ _ _ => False) (pl := plainOf o X.env) ho hcl hme G hr pl.binds .nil pass0 ha hst hpl (mcall_form hb hf hl)).imp fun σ H Q h => ?_
  obtain ⟨ρ, t, g, s, r⟩ := h
  refine ⟨ρ, t, g, s, (run_bnd r).mono fun x t1 r1 => ?_⟩
  rw [KF.fls]
  intro v1 g1 H1 st1 s1 rp1
  by_cases hi : isIns t1 kc x = true
  · rw [if_pos hi] at r1
    cases x with
    | obj n =>
      cases ht : t1[n]? with
      | none => simp [isIns, ht] at hi
      | some ob =>
        cases ob with
        | ins k fs' =>
          simp only [isIns, ht, beq_iff_eq] at hi
          subst hi
          obtain ⟨q, rfl, _, C', dx, gs, h1, h2, h3, h4⟩ := obj_at s1 rp1 ht
          rw [hC] at h1; cases h1
          refine ⟨q, dx, gs, rfl, h2, lookup_none h3 hno, ρ, t1, g1, s.step st1 s1, (run_bnd r1).mono fun xs t2 r2 vs g2 H2 st2 s2 rp2 => ?_⟩
          obtain ⟨d, t3, e1, k2⟩ := run_ok r2
          rw [KF.fls] at k2
          refine ⟨g2, t2, .obj n :: xs, s2, ⟨.ref q, vs ++ [], rfl, Rep.mono (st2.mo s1) _ _ rp1, by rw [List.append_nil]; exact rp2⟩, har _ _ _ _ e1, ?_⟩
          rw [e1]; exact KD.after (st1.trans st2) k2
        | _ => simp [isIns, ht] at hi
    | _ => simp [isIns] at hi
  · rw [if_neg hi] at r1; exact r1.elim
/-! ### calls by names -/
/-- the names that the keywords bear, in the text's order -/
def kwNames (kws : List Keyword) : List (Option PySem.Str) := kws.map fun k => match k with | ⟨n, _, _⟩ => n
theorem kwE : ∀ (kws : List Keyword) (env : PySem.Env) (pos : Pos), (backToKw pos (keywordEach kws env)).map (·.1) = kwNames kws
  | [], _, _ => rfl
  | ⟨n, v, _⟩ :: r, env, pos => by
    show n :: (backToKw pos (keywordEach r env)).map (·.1) = n :: kwNames r
    rw [kwE r env pos]
theorem kw_all {kws : List Keyword} {env : PySem.Env} {pos : Pos} {ks : List PySem.Str} (h : kwNames kws = ks.map some) : (backToKw pos (keywordEach kws env)).all (·.1.isSome) = true := by
  have e := kwE kws env pos
  rw [h] at e
  rw [List.all_eq_true]
  intro x hx
  have : x.1 ∈ ks.map some := by rw [← e]; exact List.mem_map.mpr ⟨x, hx, rfl⟩
  obtain ⟨y, _, hy⟩ := List.mem_map.mp this
  rw [← hy]; rfl
theorem kw_names {kws : List Keyword} {env : PySem.Env} {pos : Pos} {ks : List PySem.Str} (h : kwNames kws = ks.map some) : (backToKw pos (keywordEach kws env)).filterMap (·.1) = ks := by
  have e := kwE kws env pos
  rw [h] at e
  have : (backToKw pos (keywordEach kws env)).filterMap (·.1) = ((backToKw pos (keywordEach kws env)).map (·.1)).filterMap id := by rw [List.filterMap_map]; rfl
  rw [this, e, List.filterMap_map]
  show ks.filterMap some = ks
  rw [List.filterMap_some]
theorem kw_plain {kws : List Keyword} {env : PySem.Env} {pos : Pos} {ks : List PySem.Str} (h : kwNames kws = ks.map some) : (backToKw pos (keywordEach kws env)).any (·.1.isNone) = false := by
  have e := kw_all (env := env) (pos := pos) h
  rw [List.all_eq_true] at e
  rw [List.any_eq_false]
  intro x hx
  have := e x hx
  cases h2 : x.1 with
  | none => rw [h2] at this; cases this
  | some _ => simp
section
variable {kws : List Keyword} {fk : Env → T → R (List D)} {ks : List PySem.Str}
theorem _root_.L2.PK.imp {X : Cx} {e : List Keyword} {t t' : TA} (h : PK X e t) (k : ∀ σ H Q, t' σ H Q → t σ H Q) : PK X e t' := ⟨fun pos pins s σ H Q I q => h.run pos pins s σ H Q I (k σ H Q q)⟩
theorem snd_knil : PK X [] (tAs c en fun _ t => .ok [] t) := pk_nil.imp fun σ H Q h => by
  obtain ⟨ρ, t, g, s, r⟩ := h
  exact (show KA c g H t [] Q from r) [] g H Step.refl s.st rfl
theorem snd_kcons {n : Option PySem.Str} {kp : Pos} {fa : Env → T → R D} (ha : PE X e (tE c en false fa)) (hr : PK X kws (tAs c en fk)) :
    PK X (⟨n, e, kp⟩ :: kws) (tAs c en fun ρ t => bnd (fa ρ t) fun x t => bnd (fk ρ t) fun xs t => .ok (x :: xs) t) := (pk_cons ha hr).imp fun σ H Q h => by
  obtain ⟨ρ, t, g, s, r⟩ := h
  refine ⟨ρ, t, g, s, (run_bnd r).mono fun x t1 r1 => ?_⟩
  rw [KF.fls]
  intro v1 g1 H1 st1 s1 rp1
  refine ⟨ρ, t1, g1, s.step st1 s1, (run_bnd r1).mono fun xs t2 r2 vs g2 H2 st2 s2 rp2 => ?_⟩
  exact (show KA c g H t2 (x :: xs) Q from r2) (v1 :: vs) g2 H2 (st1.trans st2) s2 ⟨v1, vs, rfl, Rep.mono (st2.mo s1) x v1 rp1, rp2⟩
theorem Reps.getD {c : Cn} {g : Gh} {H : Hp} {vs : List V} {ds : List D} (r : Reps c g H vs ds) (k : Nat) : Rep c g H (vs.getD k .non) (ds.getD k .non) := by
  cases e : ds[k]? with
  | none =>
    have l := Reps.length r
    have e2 : vs[k]? = none := List.getElem?_eq_none_iff.mpr (by rw [l]; exact List.getElem?_eq_none_iff.mp e)
    rw [List.getD_eq_getElem?_getD, List.getD_eq_getElem?_getD, e, e2]; exact rfl
  | some d =>
    obtain ⟨v, e2, q⟩ := Reps.get r e
    rw [List.getD_eq_getElem?_getD, List.getD_eq_getElem?_getD, e, e2]; exact q
theorem Reps.pick {c : Cn} {g : Gh} {H : Hp} {vs : List V} {ds : List D} (r : Reps c g H vs ds) : ∀ pm : List Nat, Reps c g H (pm.map fun k => vs.getD k .non) (pm.map fun k => ds.getD k .non)
  | [] => rfl
  | k :: pm => ⟨_, _, rfl, Reps.getD r k, Reps.pick r pm⟩
/-- f(k = v, ..), f(e, .., k = v, ..); the number of values by position is the expressions' -/
theorem snd_callk {pm : List Nat} {n : Nat} (hK : c.K = X.K) (A : FnAt c X.prog X.w X.mg X.base lv F sem) (hr : Room lv X.A) (hc : F.cls = none) (hg : Gl X (nm F.name)) (har : ∀ ds t d t', sem ds t = .ok d t' → ds.length = F.np) (hdb : (nm F.name == ("__debug__" : PySem.Str)) = false)
    (ha : PA X es (tAs c en fs)) (hes : ∀ e r, es = e :: r → starEach (e :: r) X.env = (false, eval e X.env) :: starEach r X.env) (hnil : es = [] → ∀ ρ t, fs ρ t = .ok [] t) (hpl : (backTo pos (starEach es X.env)).any (·.1) = false) (hkw : PK X kws (tAs c en fk)) (hks : kwNames kws = ks.map some)
    (ok : PmOk ((F.N.take F.np).map nm) ks n pm) (hlen : ∀ ρ t xs t', fs ρ t = .ok xs t' → xs.length = n) (hklen : ∀ ρ t xs t', fk ρ t = .ok xs t' → xs.length = ks.length) :
    PE X (.Call (.Name (nm F.name) p) es kws pos) (tE c en false fun ρ t => bnd (fs ρ t) fun xs t => bnd (fk ρ t) fun ys t => sem (xs ++ pm.map fun k => ys.getD k .non) t) := by
  obtain ⟨f, fd, ps, G, kp, pl, hps, _, hm⟩ := A.ex
  rw [hc] at hm
  rw [hK] at G kp
  rw [← hps] at ok
  have body : ∀ {pins : List (Addr × Obj)} {s : Shared} {σ : L2.St} {H : Hp} {Q : VK} {us ws : List Value} {vs zs : List V}, L2.Inv X pins σ H s → Vals vs us → Vals zs ws → vs.length = n → zs.length = ks.length →
      spF c sem F.np (vs ++ pm.map fun k => zs.getD k .non) H Q (fun _ _ _ => False) → wpAny (model X.prog X.w) X.A (PySem.call (.ref f) us (ks.zip ws)) (EP X pins σ Q) X.xe s := fun {pins s σ H Q us ws vs zs} I r rz l1 l2 h => by
    have r2 : Vals (vs ++ pm.map fun k => zs.getD k .non) (us ++ pm.map fun k => ws.getD k .none) := r.append (Vals.pick rz pm)
    refine wpAny_call (codeAny_mono (G.run X.A X.stack s H ⟨us, ks.zip ws⟩ (us ++ pm.map fun k => ws.getD k .none) (vs ++ pm.map fun k => zs.getD k .non) Q (fun _ _ _ => False) hr I.env0 (pl.kbinds ok (by rw [← r.length]; exact l1) (by rw [← rz.length]; exact l2.symm)) r2 h) fun r s' hq => ?_)
    cases r with
    | error e => exact hq.elim
    | ok fl =>
      cases fl with
      | ret u => exact I.after hq
      | next => exact False.elim hq
      | brk => exact False.elim hq
      | cont => exact False.elim hq
  have main : ∀ {pins : List (Addr × Obj)} {s : Shared} {σ : L2.St} {H : Hp} {Q : VK}, L2.Inv X pins σ H s → tE c en false (fun ρ t => bnd (fs ρ t) fun xs t => bnd (fk ρ t) fun ys t => sem (xs ++ pm.map fun k => ys.getD k .non) t) σ H Q →
      wpAny (model X.prog X.w) X.A (spliced (backTo pos (starEach es X.env))) (fun us s1 => wpAny (model X.prog X.w) X.A (evalAll ((backToKw pos (keywordEach kws X.env)).map (·.2))) (fun ws s2 => X.K.In s2.heap ∧ wpAny (model X.prog X.w) X.A (PySem.call (.ref f) us (ks.zip ws)) (EP X pins σ Q) X.xe s2) X.xe s1) X.xe s := fun {pins s σ H Q} I h => by
    obtain ⟨ρ, t, g, s0, r⟩ := h
    obtain ⟨xs, t1, e1, r⟩ := run_ok (run_bnd r)
    obtain ⟨ys, t2, e2, r⟩ := run_ok (run_bnd r)
    have l1 := hlen _ _ _ _ e1
    have l2 := hklen _ _ _ _ e2
    refine thn (ha.run pos pins s σ H (fun vs H1 => vs.length = n ∧ tAs c en fk σ H1 fun zs H2 => zs.length = ks.length ∧ spF c sem F.np (vs ++ pm.map fun k => zs.getD k .non) H2 Q (fun _ _ _ => False)) I ⟨ρ, t, g, s0, ?_⟩) fun us s1 ⟨vs, H1, I1, rv, hl, q⟩ => ?_
    · rw [e1]
      intro vs g1 H1 st1 s1 rp1
      refine ⟨by rw [Reps.length rp1]; exact l1, ρ, t1, g1, s0.step st1 s1, ?_⟩
      rw [e2]
      intro zs g2 H2 st2 s2 rp2
      refine ⟨by rw [Reps.length rp2]; exact l2, ?_⟩
      obtain ⟨d, t3, e3, k3⟩ := run_ok r
      rw [KF.fls] at k3
      refine ⟨g2, t2, _, s2, Reps.append (Reps.mono (st2.mo s1) xs vs rp1) (Reps.pick rp2 pm), har _ _ _ _ e3, ?_⟩
      rw [e3]; exact KD.after (st1.trans st2) k3
    · exact thn (hkw.run pos pins s1 σ H1 _ I1 q) fun ws s2 ⟨zs, H2, I2, rz, hl2, q2⟩ => ⟨I2.kIn, body I2 rv rz hl hl2 q2⟩
  refine ⟨fun pins s σ H Q I h => ?_⟩
  refine wpAny_Call_Name_kw (ld_glob I hg hm ?_ hdb)
  cases es with
  | nil =>
    refine PySem.W.callWith_KW0 (h₀ := X.base) I.ok.mod.kin kp (kw_all hks) ?_ (by rw [kw_plain hks]; rfl)
    rw [kw_names hks]
    obtain ⟨ρ, t, g, s0, r⟩ := h
    have r : run (bnd (fs ρ t) fun xs t => bnd (fk ρ t) fun ys t => sem (xs ++ pm.map fun k => ys.getD k .non) t) (fun d t' => KF false c g H t' d Q) := r
    rw [hnil rfl] at r
    have r : run (bnd (fk ρ t) fun ys t => sem ([] ++ pm.map fun k => ys.getD k .non) t) (fun d t' => KF false c g H t' d Q) := r
    obtain ⟨ys, t2, e2, r⟩ := run_ok (run_bnd r)
    have l1 : n = 0 := (hlen ρ t [] t (hnil rfl ρ t)).symm
    have l2 := hklen _ _ _ _ e2
    refine thn (hkw.run pos pins s σ H (fun zs H2 => zs.length = ks.length ∧ spF c sem F.np ([] ++ pm.map fun k => zs.getD k .non) H2 Q (fun _ _ _ => False)) I ⟨ρ, t, g, s0, ?_⟩) fun ws s2 ⟨zs, H2, I2, rz, hl2, q2⟩ => ⟨I2.kIn, body (us := []) (vs := []) I2 .nil rz l1.symm hl2 q2⟩
    rw [e2]
    intro zs g2 H2 st2 s2 rp2
    refine ⟨by rw [Reps.length rp2]; exact l2, ?_⟩
    obtain ⟨d, t3, e3, k3⟩ := run_ok r
    rw [KF.fls] at k3
    refine ⟨g2, t2, _, s2, Reps.append (vs := []) (ds := []) rfl (Reps.pick rp2 pm), har _ _ _ _ e3, ?_⟩
    rw [e3]; exact KD.after st2 k3
  | cons e es =>
    refine PySem.W.callWith_KW (h₀ := X.base) I.ok.mod.kin kp (kw_all hks) ?_ (by rw [hpl, kw_plain hks]; rfl) (hes e es rfl)
    rw [kw_names hks]
    exact main I h
end
/-! ### C(..) -/
theorem snd_mk {kc : Nat} {C : Pd.Cls} {fn : Nat → List D → T → R D} (hK : c.K = X.K) (A : FnAt c X.prog X.w X.mg X.base lv F (fn C.init)) (B : ClsAt c X.mg kc C) (hr : Room (lv + 1) X.A) (hc : F.cls = some kc) (hin : F.name = "__init__") (hg : Gl X (nm C.name)) (har : ∀ ds t d t', fn C.init ds t = .ok d t' → ds.length = F.np) (hdb : (nm C.name == ("__debug__" : PySem.Str)) = false)
    (ha : PA X (e :: es) (tAs c en fs)) (he : starEach (e :: es) X.env = (false, eval e X.env) :: starEach es X.env) (hpl : (backTo pos (starEach es X.env)).any (·.1) = false) :
    PE X (.Call (.Name (nm C.name) p) (e :: es) [] pos) (tE c en false fun ρ t => bnd (fs ρ t) fun xs t => bnd (fn C.init (.obj t.length :: xs) (t ++ [.ins kc []])) fun d t' => match d with
      | .non => .ok (.obj t.length) t'
      | _ => .no) := by
  obtain ⟨f, fd, ps, G, kp, pl, hps, _, hm⟩ := A.ex
  rw [hc] at hm
  obtain ⟨Ca, hC, hme⟩ := hm
  obtain ⟨Cb, hCb, hmg, hmk, hkc⟩ := B.ex
  rw [hC] at hCb; cases hCb
  rw [hin] at hme
  rw [hK] at G kp hme hmk hkc
  have M : Mk X.K Ca f := ⟨hmk, hme.at_, hme.fn, hkc⟩
  refine (pe_make (E := fun _ _ _ => False) M G hr hg hmg pl.binds .nil pass0 ha hdb he hpl).imp fun σ H Q h => ?_
  obtain ⟨ρ, t, g, s, r⟩ := h
  refine ⟨ρ, t, g, s, (run_bnd r).mono fun xs t1 r1 vs g1 H1 st1 s1 rp1 x dx hx hdx hne => ?_⟩
  obtain ⟨d, t2, e1, k⟩ := run_ok (run_bnd r1)
  have st2 : Step g1 H1 g1 (upd H1 dx (.own x)) := Step.alloc hdx
  have s2 : StH c g1 (upd H1 dx (.own x)) t1 := s1.alloc hdx
  have hx2 : (upd H1 dx (.own x)) x = none := by rw [upd_ne (Ne.symm hne)]; exact hx
  have st3 : Step g1 (upd H1 dx (.own x)) (g1.obj x) (upd (upd H1 dx (.own x)) x (.ins Ca dx [])) := Step.newOb hx2
  have s3 : StH c (g1.obj x) (upd (upd H1 dx (.own x)) x (.ins Ca dx [])) (t1 ++ [.ins kc []]) := s2.newOb hx2 ⟨Ca, dx, [], hC, upd_same, rfl, rfl⟩
  have st := (st1.trans st2).trans st3
  refine ⟨g1.obj x, t1 ++ [.ins kc []], .obj t1.length :: xs, s3, ⟨.ref x, vs ++ [], rfl, ⟨x, rfl, Gh.obj_at s2⟩, by rw [List.append_nil]; exact Reps.mono ((st2.trans st3).mo s1) xs vs rp1⟩, har _ _ _ _ e1, ?_⟩
  rw [e1]
  intro v g4 H4 st4 s4 rp4
  cases d with
  | non =>
    have k : KF false c g H t2 (.obj t1.length) Q := k
    rw [KF.fls] at k
    refine ⟨rp4, k (.ref x) g4 H4 (st.trans st4) s4 ⟨x, rfl, pre_get st4.pre (Gh.obj_at s2)⟩⟩
  | _ => exact k.elim
end
section
variable {X : Cx} {c : Cn} {en : En} {pos : Pos} {es : List Expr} {fs : Env → T → R (List D)}
/-! ### methods of dicts -/
def dmN : Dm → String
  | .get => "get"
  | .setdefault => "setdefault"
theorem run_okP {r : Option (D × T)} {k : D → T → Prop} (h : run (okP r) k) : ∃ d t, r = some (d, t) ∧ k d t := by
  cases r with
  | none => exact h.elim
  | some p => exact ⟨p.1, p.2, rfl, h⟩
/-- what the method does with values -/
theorem dm_ok (m : Dm) {pins : List (Addr × Obj)} {σ : L2.St} {H : Hp} {s : Shared} {g : Gh} {t t' : T} {n : Nat} {ys : List D} {us : List V} {vs : List Value} {a : Addr} {d : D} {Q : VK} (hP : c.prog = X.prog) (hW : c.w = X.w) (hu : X.A.units + 64 < cLine) (I : Inv X pins σ H s) (hs : StH c g H t) (ha : g.ob[n]? = some a) (r : Reps c g H us ys) (rv : Vals us vs)
    (e : dmD t m (.obj n) ys = some (d, t')) (k : ∀ v H', Step g H g H' → StH c g H' t' → Rep c g H' v d → Q v H') : wpAny (model X.prog X.w) X.A (PySem.call (.builtin ("dict." ++ dmN m)) (.ref a :: vs)) (EP X pins σ Q) X.xe s := by
  cases ys with
  | nil => cases m <;> simp [dmD] at e
  | cons y ys =>
    obtain ⟨u1, ur, rfl, r1, r2⟩ := r
    cases rv with
    | cons q1 qs =>
      cases ys with
      | nil =>
        cases r2; cases qs
        cases m with
        | setdefault => simp [dmD] at e
        | get =>
          obtain ⟨o, e1, e2⟩ := Option.map_eq_some_iff.mp (show (getD t (.obj n) y).map (fun o => (o.getD D.non, t)) = some (d, t') from e)
          cases e2
          obtain ⟨kb, kvs, ht, hkb, rfl⟩ := getD_ob e1
          exact dct_get1 hP hW hu I (hs.obs n a _ ha ht) r1 q1 hkb fun v rv => k v H Step.refl hs rv
      | cons z zs =>
        obtain ⟨u2, ur2, rfl, r3, r4⟩ := r2
        cases qs with
        | cons q2 qs =>
          cases zs with
          | cons _ _ => cases m <;> simp [dmD] at e
          | nil =>
            cases r4; cases qs
            cases m with
            | get =>
              obtain ⟨o, e1, e2⟩ := Option.map_eq_some_iff.mp (show (getD t (.obj n) y).map (fun o => (o.getD z, t)) = some (d, t') from e)
              cases e2
              obtain ⟨kb, kvs, ht, hkb, rfl⟩ := getD_ob e1
              exact dct_get2 hP hW hu I (hs.obs n a _ ha ht) r1 q1 hkb q2 r3 fun v rv => k v H Step.refl hs rv
            | setdefault =>
              cases ht : t[n]? with
              | none => simp [dmD, ht] at e
              | some ob =>
                cases ob with
                | dct kb kvs =>
                  simp only [dmD, ht] at e
                  by_cases hc : (keyB kb y && decide (kvs.length < sz)) = true
                  · rw [if_pos hc] at e
                    simp only [Bool.and_eq_true, decide_eq_true_eq] at hc
                    refine dct_setd hP hW hu I hs ha ht r1 q1 hc.1 hc.2 q2 r3 (fun d' v hd rv => ?_) fun hd o ho => ?_
                    · rw [hd] at e; cases e
                      exact k v H Step.refl hs rv
                    · rw [hd] at e; cases e
                      obtain ⟨st, s2⟩ := hs.setOb ha ht ho
                      exact k _ _ st s2 (Rep.mono (st.mo hs) _ _ r3)
                  · rw [if_neg hc] at e; cases e
                | _ => simp [dmD, ht] at e
theorem dm_slot (m : Dm) : Slot "dict" (nm (dmN m)) ("dict." ++ dmN m) ∧ typeOf (.builtin ("dict." ++ dmN m)) = pure (.type "method_descriptor") := by
  cases m with
  | get => exact ⟨PySem.F.slot_dict_get, PySem.F.type_dict_get⟩
  | setdefault => exact ⟨PySem.F.slot_dict_setdefault, PySem.F.type_dict_setdefault⟩
theorem isDct_ob {t : T} {x : D} (h : isDct t x = true) : ∃ n kb kvs, x = .obj n ∧ t[n]? = some (.dct kb kvs) := by
  cases x with
  | obj n =>
    have h : (match t[n]? with
      | some (.dct k kvs) => some (k, kvs)
      | _ => none : Option (Bool × List (D × D))).isSome = true := h
    cases ht : t[n]? with
    | none => rw [ht] at h; cases h
    | some ob =>
      rw [ht] at h
      cases ob with
      | dct kb kvs => exact ⟨n, kb, kvs, rfl, ht⟩
      | _ => cases h
  | _ => cases h
theorem snd_dm {m : Dm} {o e : Expr} {fo : Env → T → R D} {apos : Pos} (hP : c.prog = X.prog) (hW : c.w = X.w) (hu : X.A.units + 64 < cLine) (ho : PE X o (tE c en false fo)) (ha : PA X (e :: es) (tAs c en fs))
    (hbase : attributeBase o (nm (dmN m)) X.env (eval o X.env) = eval o X.env)
    (hfew : ((backTo pos (starEach (e :: es) X.env)).all (fun x => !x.1) && (backToKw pos (keywordEach [] X.env)).all (fun x => x.1.isSome)
      && decide ((e :: es).length + ([] : List Keyword).length + (if ([] : List Keyword).isEmpty then 0 else 1) < 30)) = true)
    (hline : (apos.endLine == pos.line) = true) (hs : starEach (e :: es) X.env = (false, eval e X.env) :: starEach es X.env) (hplain : (backTo pos (starEach es X.env)).any (·.1) = false) :
    PE X (.Call (.Attribute o (nm (dmN m)) apos) (e :: es) [] pos) (tE c en false fun ρ t => bnd (fo ρ t) fun x t => if isDct t x then bnd (fs ρ t) fun ys t => okP (dmD t m x ys) else .no) := by
  refine ⟨fun pins s σ H Q I h => ?_⟩
  obtain ⟨ρ, t, g, s0, r⟩ := h
  obtain ⟨x, t1, e1, r1⟩ := run_ok (run_bnd r)
  have hdt : isDct t1 x = true := by
    cases hz : isDct t1 x with
    | true => rfl
    | false => rw [hz] at r1; exact r1.elim
  rw [if_pos hdt] at r1
  obtain ⟨ys, t2, e2, r2⟩ := run_ok (run_bnd r1)
  obtain ⟨d, t3, e3, r3⟩ := run_okP r2
  rw [KF.fls] at r3
  obtain ⟨n, kb, kvs, rfl, ht⟩ := isDct_ob hdt
  refine wpAny_Call_method_late hbase hfew hline rfl (thn (ho.run pins s σ H (fun v H1 => ∃ g1, Step g H g1 H1 ∧ StH c g1 H1 t1 ∧ Rep c g1 H1 v (.obj n)) I ⟨ρ, t, g, s0, ?_⟩) fun v s1 ⟨x, H1, I1, rx, g1, st1, s1h, rp⟩ => ?_)
  · rw [e1]
    show KF false c g H t1 (.obj n) _
    rw [KF.fls]
    exact fun v g1 H1 st1 s1 r => ⟨g1, st1, s1, r⟩
  · obtain ⟨a, rfl, ha1⟩ := rp
    cases rx
    -- the dict stands there before the arguments, too
    have hT := dct_type hP hW I1 (s1h.obs n a _ ha1 ht)
    obtain ⟨hsl, hty⟩ := dm_slot m
    refine ⟨"dict", _, PySem.F.plainAttrs_dict, hsl, hty, hT.1, hT.2, ?_⟩
    have hA := ha.run pos pins s1 σ H1 (fun us H2 => ∃ g2, Step g1 H1 g2 H2 ∧ StH c g2 H2 t2 ∧ Reps c g2 H2 us ys) I1 ⟨ρ, t1, g1, s0.step st1 s1h, by
      rw [e2]
      exact fun us g2 H2 st2 s2 r => ⟨g2, st2, s2, r⟩⟩
    rw [hs] at hA ⊢
    refine Calls.callWith_builtin (by show (false || (backTo pos (starEach es X.env)).any (·.1)) = false; rw [hplain] <;> rfl) (Calls.evalArgs_plain ?_)
    exact thn hA fun vs s2 ⟨us, H2, I2, rv, g2, st2, s2h, rp2⟩ => dm_ok m hP hW hu I2 s2h (pre_get st2.pre ha1) rp2 rv e3 fun v H3 st3 s3 r => r3 v g2 H3 ((st1.trans st2).trans st3) s3 r

end

/-! ### list(x) as an object; {k: v, ..}; C(k = v, ..) -/
section
variable {X : Cx} {c : Cn} {en : En} {pos : Pos}
theorem snd_lobj {pe : Expr} {fa : Env → T → R D} (h : PE X pe (tCB (rB1 c .list) (tCons (tO c en fa) tNil))) : PE X pe (tE c en false fun ρ t => bnd (fa ρ t) fun x t => match b1D t .list x with
    | some (.lst xs) => .ok (.obj t.length) (t ++ [.lst xs])
    | _ => .no) := h.imp fun σ H Q h => by
  obtain ⟨ρ, t, g, s, r⟩ := h
  refine ⟨ρ, t, g, s, (run_bnd r).mono fun x t1 r1 v1 g1 H1 st1 s1 rp1 => ?_⟩
  cases hb : b1D t1 .list x with
  | none => simp only [hb] at r1; exact r1.elim
  | some d =>
    cases d with
    | lst xs =>
      simp only [hb] at r1
      have k : KF false c g H (t1 ++ [.lst xs]) (.obj t1.length) Q := r1
      rw [KF.fls] at k
      refine ⟨v1, g1, t1, x, _, rfl, s1, rp1, hb, ?_⟩
      show KL c g1 H1 t1 xs Q
      intro p vs g2 H2 st2 s2 hp rr l
      have st3 : Step g2 H2 (g2.obj p) (upd H2 p (.lst vs)) := Step.newOb hp
      exact k (.ref p) (g2.obj p) _ ((st1.trans st2).trans st3) (s2.newOb hp ⟨vs, upd_same, Reps.mono (st3.mo s2) xs vs rr, l⟩) ⟨p, rfl, Gh.obj_at s2⟩
    | _ => simp only [hb] at r1; exact r1.elim
def without (H : Hp) (p : Addr) : Hp := fun a => if a = p then none else H a
theorem without_ne {H : Hp} {p a : Addr} (h : a ≠ p) : without H p a = H a := if_neg h
theorem without_same {H : Hp} {p : Addr} : without H p p = none := if_pos rfl
theorem upd_without {H : Hp} {p : Addr} {o : HO} : upd (without H p) p o = upd H p o := by
  funext a
  by_cases ha : a = p
  · subst ha; rw [upd_same, upd_same]
  · rw [upd_ne ha, upd_ne ha, without_ne ha]
/-- what was made beside a new object that no one knows -/
theorem out_step {g g' : Gh} {Hx H' : Hp} {t t' : T} {p : Addr} {o : HO} (hp : Hx p = none) (s : StH c g Hx t) (st : Step g (upd Hx p o) g' H') (s' : StH c g' H' t') :
    H' p = some o ∧ Step g Hx g' (without H' p) ∧ StH c g' (without H' p) t' ∧ Mo g' H' g' (without H' p) := by
  have nf : ¬ g.fz p := fun z => s.tr p z hp
  have no : p ∉ g.ob := fun z => s.there z hp
  have e1 : H' p = some o := st.keep p _ upd_same no
  have nf' : ¬ g'.fz p := fun z => by
    rcases st.fzn p z with z | z
    · exact nf z
    · rw [upd_same] at z; cases z
  have no' : p ∉ g'.ob := fun z => by
    rcases st.obn p z with z | z
    · exact no z
    · rw [upd_same] at z; cases z
  have m : Mo g' H' g' (without H' p) := ⟨fun a h => ⟨h, without_ne fun z => nf' (z ▸ h)⟩, List.prefix_refl _⟩
  refine ⟨e1, ⟨st.pre, st.fzm, fun a h => ?_, fun a h => ?_, fun a u h n => ?_, fun a h => ?_⟩, ⟨s'.len, s'.nd, s'.nf, fun a h => ?_, fun i a ob h1 h2 => (s'.obs i a ob h1 h2).mono m (without_ne fun z => no' (z ▸ List.mem_of_getElem? h1))⟩, m⟩
  · rcases st.fzn a h with z | z
    · exact .inl z
    · by_cases ha : a = p
      · exact absurd (ha ▸ h) nf'
      · rw [upd_ne ha] at z; exact .inr z
  · rcases st.obn a h with z | z
    · exact .inl z
    · by_cases ha : a = p
      · exact absurd (ha ▸ h) no'
      · rw [upd_ne ha] at z; exact .inr z
  · have ha : a ≠ p := fun z => by rw [z, hp] at h; cases h
    rw [without_ne ha]; exact st.keep a u (by rw [upd_ne ha]; exact h) n
  · have ha : a ≠ p := fun z => by rw [z, hp] at h; exact h rfl
    rw [without_ne ha]; exact st.tr a (by rw [upd_ne ha]; exact h)
  · have ha : a ≠ p := fun z => nf' (by rw [z] at h; exact h)
    rw [without_ne ha]; exact s'.tr a h
/-- keys of a display: ints and texts, each once -/
def keyVs : List D → Option (List Key)
  | [] => some []
  | d :: r => (keyA d).bind fun k => (keyVs r).map (k :: ·)
def kNew (x : D) : List D → Bool
  | [] => true
  | y :: r => !(eqv y x) && kNew x r
def ksB : List D → Bool
  | [] => true
  | d :: r => kNew d r && ksB r
def kOk : D → Bool
  | .int _ => true
  | .str s => decide (s.length ≤ sz) && s.all fun x => decide (x < 1114112)
  | _ => false
theorem kOk_rep {d : D} (h : kOk d = true) : ∃ k, keyA d = some k ∧ ∀ g H, Rep c g H (kV k) d := by
  cases d with
  | int i => exact ⟨_, rfl, fun _ _ => rfl⟩
  | str s =>
    simp only [kOk, Bool.and_eq_true, decide_eq_true_eq, List.all_eq_true] at h
    exact ⟨_, rfl, fun _ _ => ⟨rfl, h⟩⟩
  | _ => cases h
theorem kNew_no {d : D} {k : Key} (hd : keyA d = some k) : ∀ {ks : List D} {l : List Key}, kNew d ks = true → keyVs ks = some l → k ∉ l
  | [], l, _, h => by cases h; simp
  | y :: ks, l, hn, h => by
    simp only [kNew, Bool.and_eq_true, Bool.not_eq_true'] at hn
    obtain ⟨a, e1, h⟩ := Option.bind_eq_some_iff.mp (show (keyA y).bind (fun k => (keyVs ks).map (k :: ·)) = some l from h)
    obtain ⟨r, e2, rfl⟩ := Option.map_eq_some_iff.mp h
    have q := keyA_eq e1 hd
    rw [hn.1] at q
    rw [List.mem_cons]
    rintro (z | z)
    · subst z; simp at q
    · exact kNew_no hd hn.2 e2 z
theorem ksB_nodup : ∀ {ks : List D} {l : List Key}, ksB ks = true → keyVs ks = some l → l.Nodup
  | [], l, _, h => by cases h; exact List.nodup_nil
  | d :: ks, l, hb, h => by
    simp only [ksB, Bool.and_eq_true] at hb
    obtain ⟨a, e1, h⟩ := Option.bind_eq_some_iff.mp (show (keyA d).bind (fun k => (keyVs ks).map (k :: ·)) = some l from h)
    obtain ⟨r, e2, rfl⟩ := Option.map_eq_some_iff.mp h
    exact List.nodup_cons.mpr ⟨kNew_no e1 hb.1 e2, ksB_nodup hb.2 e2⟩
theorem mergeK_new : ∀ (more kvs : List (Key × V)), ((kvs ++ more).map (·.1)).Nodup → mergeK kvs more = kvs ++ more
  | [], kvs, _ => by show kvs = _; rw [List.append_nil]
  | p :: r, kvs, nd => by
    have hn : valV kvs p.1 = none := by
      cases h : valV kvs p.1 with
      | none => rfl
      | some v =>
        exfalso
        have hm : p.1 ∈ kvs.map (·.1) := by
          apply Classical.byContradiction
          intro z
          have : valV kvs p.1 = none := by
            clear nd h
            induction kvs with
            | nil => rfl
            | cons q kvs ih =>
              rw [List.map_cons, List.mem_cons, not_or] at z
              rw [valV_neg (fun e => z.1 e.symm)]
              exact ih z.2
          rw [this] at h; cases h
        rw [List.map_append, List.map_cons] at nd
        exact (List.nodup_append.mp nd).2.2 _ hm _ List.mem_cons_self rfl
    have e : putK kvs p.1 p.2 = kvs ++ [p] := by
      unfold putK
      rw [valV_any, hn]; rfl
    show mergeK (putK kvs p.1 p.2) r = _
    rw [e, mergeK_new r (kvs ++ [p]) (by rw [List.append_assoc]; exact nd), List.append_assoc]; rfl
/-- what a display's pairs ask -/
def PsOk (X : Cx) (c : Cn) (en : En) (pos : Pos) (keys : List (Option Expr)) (values : List Expr) (ks : List D) (fs : Env → T → R (List D)) : Prop :=
  ∃ trs, PPs X pos keys values trs ∧ ∀ σ H (Q : List (V × V) → Hp → Prop), tAs c en fs σ H (fun vs H' => ∀ l, keyVs ks = some l → Q ((l.map kV).zip vs) H') → tPairs trs σ H Q
theorem kRel_zip {g : Gh} {H : Hp} : ∀ {ks : List D} {l : List Key} {vs : List V} {xs : List D}, (∀ d ∈ ks, kOk d = true) → keyVs ks = some l → Reps c g H vs xs → KRel c g H (l.zip vs) (ks.zip xs)
  | [], l, vs, xs, _, h, _ => by cases h; exact trivial
  | d :: ks, l, vs, [], _, h, r => by
    obtain ⟨a, e1, h⟩ := Option.bind_eq_some_iff.mp (show (keyA d).bind (fun k => (keyVs ks).map (k :: ·)) = some l from h)
    obtain ⟨l', e2, rfl⟩ := Option.map_eq_some_iff.mp h
    cases r
    exact trivial
  | d :: ks, l, vs, x :: xs, ok, h, r => by
    obtain ⟨a, e1, h⟩ := Option.bind_eq_some_iff.mp (show (keyA d).bind (fun k => (keyVs ks).map (k :: ·)) = some l from h)
    obtain ⟨l', e2, rfl⟩ := Option.map_eq_some_iff.mp h
    obtain ⟨v, vr, rfl, r1, r2⟩ := r
    obtain ⟨a', e1', rk⟩ := kOk_rep (c := c) (ok d List.mem_cons_self)
    rw [e1] at e1'; cases e1'
    exact ⟨e1, rk g H, r1, kRel_zip (fun d hd => ok d (List.mem_cons_of_mem _ hd)) e2 r2⟩
theorem keyVs_some : ∀ {ks : List D}, (∀ d ∈ ks, kOk d = true) → ∃ l, keyVs ks = some l ∧ l.length = ks.length
  | [], _ => ⟨[], rfl, rfl⟩
  | d :: ks, h => by
    have hd := h d List.mem_cons_self
    obtain ⟨k, e⟩ : ∃ k, keyA d = some k := by
      cases d <;> first | exact ⟨_, rfl⟩ | cases hd
    obtain ⟨l, e2, e3⟩ := keyVs_some (ks := ks) fun d hd => h d (List.mem_cons_of_mem _ hd)
    exact ⟨k :: l, by simp only [keyVs, e, e2]; rfl, by simp [e3]⟩
theorem zip_maps : ∀ (l : List Key) (vs : List V), (l.map kV).zip vs = (l.zip vs).map fun kv => (kV kv.1, kv.2)
  | [], _ => rfl
  | _ :: _, [] => rfl
  | a :: l, v :: vs => by show (kV a, v) :: (l.map kV).zip vs = _; rw [zip_maps l vs]; rfl
theorem snd_dsp {keys : List (Option Expr)} {values : List Expr} {ks : List D} {fs : Env → T → R (List D)} (h : PsOk X c en pos keys values ks fs) (hlen : ∀ ρ t xs t', fs ρ t = .ok xs t' → xs.length = ks.length) (hk : (ks.all kOk) = true) (hb : ksB ks = true) (hall : keys.all (·.isSome) = true) (hl : keys.length = values.length) (h0 : keys ≠ []) (h15 : keys.length ≤ 15) (hn : ks.length ≤ 15) :
    PE X (.Dict keys values pos) (tE c en false fun ρ t => bnd (fs ρ t) fun xs t => .ok (.obj t.length) (t ++ [.dct false (ks.zip xs)])) := by
  obtain ⟨trs, hp, himp⟩ := h
  refine (pe_disp hp hall hl h0 h15).imp fun σ H Q ⟨ρ, t, g, s, r⟩ p hpn => himp _ _ _ ?_
  have hks : ∀ d ∈ ks, kOk d = true := List.all_eq_true.mp hk
  obtain ⟨xs, t1, e1, r1⟩ := run_ok (run_bnd r)
  have k : KF false c g H (t1 ++ [.dct false (ks.zip xs)]) (.obj t1.length) Q := r1
  rw [KF.fls] at k
  refine ⟨ρ, t, g, s.step (Step.alloc hpn) (s.st.alloc hpn), ?_⟩
  rw [e1]
  intro vs g2 H2 st2 s2 rp l el
  obtain ⟨q1, q2, q3, q4⟩ := out_step hpn s.st st2 s2
  have lx := hlen ρ t xs t1 e1
  obtain ⟨l', e2, e3⟩ := keyVs_some hks
  rw [el] at e2; cases e2
  have ndl := ksB_nodup hb el
  have lv : vs.length = l.length := by rw [Reps.length rp, lx, e3]
  have fz : (l.zip vs).map (·.1) = l := by
    rw [List.map_fst_zip]; omega
  have nz : ((l.zip vs).map (·.1)).Nodup := by rw [fz]; exact ndl
  refine ⟨q1, l.zip vs, zip_maps l vs, by rw [List.length_zip]; omega, ?_⟩
  rw [mergeK_new (l.zip vs) [] nz, List.nil_append, ← upd_without]
  have st3 : Step g2 (without H2 p) (g2.obj p) (upd (without H2 p) p (.dK (l.zip vs))) := Step.newOb without_same
  exact k (.ref p) (g2.obj p) _ (q2.trans st3) (q3.newOb without_same ⟨_, upd_same, nz, kRel_zip hks el (Reps.mono (st3.mo q3) _ _ (Reps.mono q4 _ _ rp))⟩) ⟨p, rfl, Gh.obj_at q3⟩
end
section
variable {X : Cx} {c : Cn} {en : En} {lv : Nat} {F : Fn} {p pos : Pos} {es : List Expr} {fs : Env → T → R (List D)} {kws : List Keyword} {fk : Env → T → R (List D)} {ks : List PySem.Str}
/-- C(e, .., k = v, ..) -/
theorem snd_mkk {kc : Nat} {C : Pd.Cls} {fn : Nat → List D → T → R D} {pm : List Nat} {n : Nat} (hK : c.K = X.K) (A : FnAt c X.prog X.w X.mg X.base lv F (fn C.init)) (B : ClsAt c X.mg kc C) (hr : Room (lv + 1) X.A) (hc : F.cls = some kc) (hin : F.name = "__init__") (hg : Gl X (nm C.name)) (har : ∀ ds t d t', fn C.init ds t = .ok d t' → ds.length = F.np) (hdb : (nm C.name == ("__debug__" : PySem.Str)) = false)
    (ha : PA X es (tAs c en fs)) (hes : ∀ e r, es = e :: r → starEach (e :: r) X.env = (false, eval e X.env) :: starEach r X.env) (hnil : es = [] → ∀ ρ t, fs ρ t = .ok [] t) (hpl : (backTo pos (starEach es X.env)).any (·.1) = false) (hkw : PK X kws (tAs c en fk)) (hks : kwNames kws = ks.map some)
    (ok : PmOk ((F.N.take F.np).map nm) ks (n + 1) pm) (hlen : ∀ ρ t xs t', fs ρ t = .ok xs t' → xs.length = n) (hklen : ∀ ρ t xs t', fk ρ t = .ok xs t' → xs.length = ks.length) :
    PE X (.Call (.Name (nm C.name) p) es kws pos) (tE c en false fun ρ t => bnd (fs ρ t) fun xs t => bnd (fk ρ t) fun ys t => bnd (fn C.init (.obj t.length :: (xs ++ pm.map fun k => ys.getD k .non)) (t ++ [.ins kc []])) fun d t' => match d with
      | .non => .ok (.obj t.length) t'
      | _ => .no) := by
  obtain ⟨f, fd, ps, G, kp, pl, hps, _, hm⟩ := A.ex
  rw [hc] at hm
  obtain ⟨Ca, hC, hme⟩ := hm
  obtain ⟨Cb, hCb, hmg, hmk, hkc⟩ := B.ex
  rw [hC] at hCb; cases hCb
  rw [hin] at hme
  rw [hK] at G kp hme hmk hkc
  have M : Mk X.K Ca f := ⟨hmk, hme.at_, hme.fn, hkc⟩
  rw [← hps] at ok
  have kb : KBn X.K fd ps (n + 1) ks (fun us ws => us ++ pm.map fun k => ws.getD k .none) (fun vs zs => vs ++ pm.map fun k => zs.getD k .non) :=
    ⟨fun s us ws _ h1 h2 => pl.kbinds ok h1 h2.symm, fun r rz => r.append (Vals.pick rz pm)⟩
  have fin : ∀ {g1 : Gh} {H1 : Hp} {t1 : T} {xs ys : List D} {vs zs : List V} {g : Gh} {H : Hp} {Q : VK}, Step g H g1 H1 → StH c g1 H1 t1 → Reps c g1 H1 vs xs → Reps c g1 H1 zs ys →
      run (bnd (fn C.init (.obj t1.length :: (xs ++ pm.map fun k => ys.getD k .non)) (t1 ++ [.ins kc []])) fun d t' => match d with
      | .non => .ok (.obj t1.length) t'
      | _ => .no) (fun d t' => KF false c g H t' d Q) → ∀ x dx, H1 x = none → H1 dx = none → dx ≠ x → spF c (fn C.init) F.np ((.ref x :: vs) ++ pm.map fun k => zs.getD k .non) (upd (upd H1 dx (.own x)) x (.ins Ca dx [])) (fun v H3 => v = .non ∧ Q (.ref x) H3) (fun _ _ _ => False) := fun {g1 H1 t1 xs ys vs zs g H Q} st1 s1 rp1 rp2 r x dx hx hdx hne => by
    obtain ⟨d, t2, e1, k⟩ := run_ok (run_bnd r)
    have st2 : Step g1 H1 g1 (upd H1 dx (.own x)) := Step.alloc hdx
    have s2 : StH c g1 (upd H1 dx (.own x)) t1 := s1.alloc hdx
    have hx2 : (upd H1 dx (.own x)) x = none := by rw [upd_ne (Ne.symm hne)]; exact hx
    have st3 : Step g1 (upd H1 dx (.own x)) (g1.obj x) (upd (upd H1 dx (.own x)) x (.ins Ca dx [])) := Step.newOb hx2
    have s3 : StH c (g1.obj x) (upd (upd H1 dx (.own x)) x (.ins Ca dx [])) (t1 ++ [.ins kc []]) := s2.newOb hx2 ⟨Ca, dx, [], hC, upd_same, rfl, rfl⟩
    have mo := (st2.trans st3).mo s1
    refine ⟨g1.obj x, t1 ++ [.ins kc []], .obj t1.length :: (xs ++ pm.map fun k => ys.getD k .non), s3, ⟨.ref x, _, rfl, ⟨x, rfl, Gh.obj_at s2⟩, Reps.append (Reps.mono mo xs vs rp1) (Reps.pick (Reps.mono mo ys zs rp2) pm)⟩, har _ _ _ _ e1, ?_⟩
    rw [e1]
    intro v g4 H4 st4 s4 rp4
    cases d with
    | non =>
      have k : KF false c g H t2 (.obj t1.length) Q := k
      rw [KF.fls] at k
      exact ⟨rp4, k (.ref x) g4 H4 (((st1.trans st2).trans st3).trans st4) s4 ⟨x, rfl, pre_get st4.pre (Gh.obj_at s2)⟩⟩
    | _ => exact k.elim
  have hpass : Passes CX0 X (fun _ _ _ => False) := pass0
  refine ⟨fun pins s σ H Q I h => ?_⟩
  refine wpAny_Call_Name_kw (ld_glob I hg hmg ?_ hdb)
  obtain ⟨ρ, t, g, s0, rA⟩ := h
  obtain ⟨xs, t1, e1, rB⟩ := run_ok (run_bnd rA)
  obtain ⟨ys, t2, e2, rC⟩ := run_ok (run_bnd rB)
  clear rA rB
  have l1 := hlen _ _ _ _ e1
  have l2 := hklen _ _ _ _ e2
  cases es with
  | nil =>
    refine PySem.W.callWith_KW0 (h₀ := X.base) I.ok.mod.kin M.kp (kw_all hks) ?_ (by rw [kw_plain hks]; rfl)
    rw [kw_names hks]
    have e1' := hnil rfl ρ t
    rw [e1] at e1'; cases e1'
    have ln : n = 0 := l1.symm
    subst ln
    refine thn (hkw.run pos pins s σ H (fun zs H2 => zs.length = ks.length ∧ ∃ g2, Step g H g2 H2 ∧ StH c g2 H2 t2 ∧ Reps c g2 H2 zs ys) I ⟨ρ, t, g, s0, ?_⟩) fun ws s2 ⟨zs, H2, I2, rz, hl2, g2, st2, s2h, rp2⟩ => ⟨I2.kIn, ?_⟩
    · rw [e2]
      exact fun zs g2 H2 st2 s2 rp2 => ⟨by rw [Reps.length rp2]; exact l2, g2, st2, s2, rp2⟩
    · exact run_makeN (n := 0) (us := []) (vs := []) M G hr kb hpass I2 .nil rz rfl hl2 (fin (xs := []) st2 s2h rfl rp2 rC)
  | cons e es =>
    refine PySem.W.callWith_KW (h₀ := X.base) I.ok.mod.kin M.kp (kw_all hks) ?_ (by rw [hpl, kw_plain hks]; rfl) (hes e es rfl)
    rw [kw_names hks]
    refine thn (ha.run pos pins s σ H (fun vs H1 => ∃ g1, Step g H g1 H1 ∧ StH c g1 H1 t1 ∧ Reps c g1 H1 vs xs) I ⟨ρ, t, g, s0, ?_⟩) fun us s1 ⟨vs, H1, I1, rv, g1, st1, s1h, rp1⟩ => ?_
    · rw [e1]
      exact fun vs g1 H1 st1 s1 rp1 => ⟨g1, st1, s1, rp1⟩
    · refine thn (hkw.run pos pins s1 σ H1 (fun zs H2 => zs.length = ks.length ∧ ∃ g2, Step g1 H1 g2 H2 ∧ StH c g2 H2 t2 ∧ Reps c g2 H2 zs ys) I1 ⟨ρ, t1, g1, s0.step st1 s1h, ?_⟩) fun ws s2 ⟨zs, H2, I2, rz, hl2, g2, st2, s2h, rp2⟩ => ⟨I2.kIn, ?_⟩
      · rw [e2]
        exact fun zs g2 H2 st2 s2 rp2 => ⟨by rw [Reps.length rp2]; exact l2, g2, st2, s2, rp2⟩
      · exact run_makeN M G hr kb hpass I2 rv rz (by rw [Reps.length rp1]; exact l1) hl2 (fin (st1.trans st2) s2h (Reps.mono (st2.mo s1h) xs vs rp1) rp2 rC)
end
end Pd
set_option Elab.async false
set_option linter.all false
set_option maxRecDepth 100000
set_option autoImplicit false
/-! Pd: len(set(x)), list(range(n)), tuple(range(n)). -/
namespace Pd
open PySem PySem.Spec PyProof.Rows L2 TL Bits

theorem once_map (mk : List Nat → PySem.Str) (inj : ∀ a b, mk a = mk b → a = b) : ∀ (l σ : List (List Nat)), (l.map mk).foldl onceP (σ.map mk) = (l.foldl onceS σ).map mk
  | [], σ => rfl
  | x :: l, σ => by
    have e : onceP (σ.map mk) (mk x) = (onceS σ x).map mk := by
      unfold onceP onceS
      have h : (σ.map mk).any (· == mk x) = σ.any fun y => y == x := by
        rw [List.any_map]
        congr 1
        funext y
        show (mk y == mk x) = (y == x)
        by_cases h : y = x
        · subst h; simp
        · have h2 : mk y ≠ mk x := fun z => h (inj _ _ z)
          rw [beq_eq_false_iff_ne.mpr h, beq_eq_false_iff_ne.mpr h2]
      rw [h]
      split
      · rfl
      · rw [List.map_append]; rfl
    rw [List.map_cons, List.foldl_cons, List.foldl_cons, e]
    exact once_map mk inj l (onceS σ x)
section
variable {X : Cx} {c : Cn} {en : En} {pos p p2 q : Pos} {a : Expr} {fa : Env → T → R D}
theorem snd_lenset (hK : c.K = X.K) (hc : X.calm = true) (hg : Gl X (nm "len")) (hm : X.mg (nm "len") = none) (hg2 : Gl X (nm "set")) (hm2 : X.mg (nm "set") = none) (ha : PE X a (tO c en fa)) (na : starEach [a] X.env = (false, eval a X.env) :: starEach [] X.env) :
    PE X (.Call (.Name (nm "len") p) [.Call (.Name (nm "set") p2) [a] [] q] [] pos) (tE c en true fun ρ t => bnd (fa ρ t) fun x t => ofO (b1D t .lenset x) t) := (pe_lenSetP hc hg hm hg2 hm2 ha na).imp fun σ H Q ⟨ρ, t, g, s, r⟩ => by
  refine ⟨ρ, t, g, s, (run_bnd r).mono fun x t1 r1 v1 g1 H1 st1 s1 rp => ?_⟩
  obtain ⟨d, e, k⟩ := run_ofO r1
  have fin : ∀ (l : Addr) (vs : List V) (ds : List D), v1 = .ref l → (SqL X.K H1 l vs ∨ SqT X.K H1 l vs) → Reps c g1 H1 vs ds → seqs x = some ds → ∃ (l : Addr) (xs : List PySem.Str), v1 = .ref l ∧ (SqL X.K H1 l (xs.map V.str) ∨ SqT X.K H1 l (xs.map V.str)) ∧ xs.length ≤ 1000 ∧ Q (.int ((metP xs xs.length).length : Nat)) H1 := fun l vs ds hv hq hr hs => by
    have e : (match seqs x with
      | some xs => (strsOf xs).bind fun ss => if ss.length ≤ 1000 then some (D.int ((ss.foldl onceS []).length : Int)) else none
      | none => none) = some d := e
    rw [hs] at e
    dsimp only at e
    obtain ⟨zs, e1, e2⟩ := Option.bind_eq_some_iff.mp e
    by_cases hl : zs.length ≤ 1000
    · rw [if_pos hl] at e2
      cases e2
      obtain ⟨h1, h2⟩ := Reps.strsOf hr e1
      refine ⟨l, zs.map fun s => (⟨s.toArray⟩ : PySem.Str), hv, ?_, by rw [List.length_map]; exact hl, ?_⟩
      · rw [List.map_map]; rw [h1] at hq; exact hq
      · have e3 : metP (zs.map fun s => (⟨s.toArray⟩ : PySem.Str)) (zs.map fun s => (⟨s.toArray⟩ : PySem.Str)).length = (zs.foldl onceS []).map fun s => (⟨s.toArray⟩ : PySem.Str) := by
          unfold metP
          rw [List.take_length]
          exact once_map _ (fun a b h => by
            have : a.toArray = b.toArray := congrArg PySem.Str.cps h
            simpa using this) zs []
        rw [e3, List.length_map]
        exact (show KD c g H t1 (.int ((zs.foldl onceS []).length : Int)) Q from k) _ g1 H1 st1 s1 rfl
    · rw [if_neg hl] at e2; cases e2
  cases x with
  | tup ds =>
    obtain ⟨l, vs, rfl, _, hq, hr, _⟩ := rp
    exact fin l vs ds rfl (.inr (SqT.of hq)) hr rfl
  | lst ds =>
    obtain ⟨l, vs, rfl, _, hq, hr, _⟩ := rp
    exact fin l vs ds rfl (.inl (SqL.of hq)) hr rfl
  | _ => cases e
theorem rgV_eq (n : Int) : rgV 0 n = (List.range n.toNat).map fun k : Nat => V.int (k : Int) := by
  unfold rgV
  rw [Int.sub_zero]
  congr 1
  funext k
  rw [Int.zero_add]
theorem range_reps {g : Gh} {H : Hp} : ∀ l : List Nat, Reps c g H (l.map fun k : Nat => V.int (k : Int)) (l.map fun k : Nat => D.int (k : Int))
  | [] => rfl
  | k :: l => ⟨_, _, rfl, rfl, range_reps l⟩
theorem snd_lrange (hc : X.calm = true) (hg : Gl X (nm "list")) (hm : X.mg (nm "list") = none) (hg2 : Gl X (nm "range")) (hm2 : X.mg (nm "range") = none) (ha : PE X a (tO c en fa)) (na : starEach [a] X.env = (false, eval a X.env) :: starEach [] X.env) :
    PE X (.Call (.Name (nm "list") p) [.Call (.Name (nm "range") p2) [a] [] q] [] pos) (tE c en true fun ρ t => bnd (fa ρ t) fun x t => ofO (b1D t .lrange x) t) := (pe_listRg hc hg hm (prg_1 hg2 hm2 ha na) rfl).imp fun σ H Q ⟨ρ, t, g, s, r⟩ => by
  refine ⟨ρ, t, g, s, (run_bnd r).mono fun x t1 r1 v1 g1 H1 st1 s1 rp => ?_⟩
  obtain ⟨d, e, k⟩ := run_ofO r1
  cases x with
  | int n =>
    cases rp
    by_cases hn : -1000000 ≤ n ∧ n ≤ 1000000
    · simp only [b1D, if_pos hn] at e
      cases e
      refine ⟨n, rfl, ⟨by omega, by omega, by omega, by omega, by omega⟩, ?_⟩
      rw [rgV_eq]
      exact KL.lst (KL.after st1 (show KL c g H t1 (range0 n) Q from k)) s1 (range_reps _) (by unfold range0 sz; rw [List.length_map, List.length_range]; omega)
    · simp only [b1D, if_neg hn] at e; cases e
  | _ => cases e
theorem snd_trange (hc : X.calm = true) (hg : Gl X (nm "tuple")) (hm : X.mg (nm "tuple") = none) (hg2 : Gl X (nm "range")) (hm2 : X.mg (nm "range") = none) (ha : PE X a (tO c en fa)) (na : starEach [a] X.env = (false, eval a X.env) :: starEach [] X.env) :
    PE X (.Call (.Name (nm "tuple") p) [.Call (.Name (nm "range") p2) [a] [] q] [] pos) (tE c en true fun ρ t => bnd (fa ρ t) fun x t => ofO (b1D t .trange x) t) := (pe_tupRg hc hg hm (prg_1 hg2 hm2 ha na) rfl).imp fun σ H Q ⟨ρ, t, g, s, r⟩ => by
  refine ⟨ρ, t, g, s, (run_bnd r).mono fun x t1 r1 v1 g1 H1 st1 s1 rp => ?_⟩
  obtain ⟨d, e, k⟩ := run_ofO r1
  cases x with
  | int n =>
    cases rp
    by_cases hn : -1000000 ≤ n ∧ n ≤ 1000000
    · simp only [b1D, if_pos hn] at e
      cases e
      refine ⟨n, rfl, ⟨by omega, by omega, by omega, by omega, by omega⟩, ?_⟩
      rw [rgV_eq]
      exact KD.tup (KD.after st1 (show KD c g H t1 (.tup (range0 n)) Q from k)) s1 (range_reps _) (by unfold range0 sz; rw [List.length_map, List.length_range]; omega)
    · simp only [b1D, if_neg hn] at e; cases e
  | _ => cases e
end
end Pd
set_option Elab.async false
set_option linter.all false
set_option maxRecDepth 100000
set_option autoImplicit false
/-! Pd: targets, sources, comprehensions. -/
namespace Pd
open PySem PySem.Spec PyProof.Rows L2 TL Bits

/-! ### targets -/
mutual
def tgS : Tg → List Nat
  | .nm i => [i]
  | .tp gs => tgsS gs
def tgsS : Tgs → List Nat
  | .nil => []
  | .cons g r => tgS g ++ tgsS r
end
def tgsN : Tgs → Nat
  | .nil => 0
  | .cons _ r => tgsN r + 1
theorem asgTs_len : ∀ (gs : Tgs) (ds : List D) (ρ ρ' : Env), asgTs gs ds ρ = some ρ' → ds.length = tgsN gs
  | .nil, [], _, _, _ => rfl
  | .nil, _ :: _, _, _, h => by simp [asgTs] at h
  | .cons _ _, [], _, _, h => by simp [asgTs] at h
  | .cons g r, x :: xs, ρ, ρ', h => by
    simp only [asgTs] at h
    obtain ⟨ρ1, _, h2⟩ := Option.bind_eq_some_iff.mp h
    rw [List.length_cons, asgTs_len r xs ρ1 ρ' h2]; rfl
section
variable (c : Cn) (en : En)
def gD (gt : Tg) : TG := fun v σ H Q => ∃ ρ t g d ρ', SR c en g σ H ρ t ∧ Rep c g H v d ∧ asgT gt d ρ = some ρ' ∧ ∀ σ', SR c en g σ' H ρ' t → σ'.length = σ.length → (∀ i, i ∉ tgS gt → σ'[i]? = σ[i]?) → Q σ' H
def gDs (gs : Tgs) : TGs := fun vs σ H Q => ∃ ρ t g ds ρ', SR c en g σ H ρ t ∧ Reps c g H vs ds ∧ asgTs gs ds ρ = some ρ' ∧ ∀ σ', SR c en g σ' H ρ' t → σ'.length = σ.length → (∀ i, i ∉ tgsS gs → σ'[i]? = σ[i]?) → Q σ' H
end
theorem _root_.L2.PG.imp {X : Cx} {e : Expr} {t t' : TG} (h : PG X e t) (k : ∀ v σ H Q, t' v σ H Q → t v σ H Q) : PG X e t' := ⟨fun pins s σ H v u Q I r q => h.run pins s σ H v u Q I r (k v σ H Q q)⟩
theorem _root_.L2.PGs.imp {X : Cx} {e : List Expr} {t t' : TGs} (h : PGs X e t) (k : ∀ v σ H Q, t' v σ H Q → t v σ H Q) : PGs X e t' := ⟨fun pins s σ H v u Q I r q => h.run pins s σ H v u Q I r (k v σ H Q q)⟩
section
variable {X : Cx} {c : Cn} {en : En} {pos : Pos}
theorem snd_gnm {i : Nat} {x : PySem.Str} (hN : X.N.Nodup) (hi : X.N[i]? = some x) (hx : Loc X.env.scope x) (hf : X.fn x = true ∨ X.env.scope.names.lookup x = some .local) : PG X (.Name x pos) (gD c en (.nm i)) :=
  (pg_name hN hi hx hf).imp fun v σ H Q ⟨ρ, t, g, d, ρ', s, r, e, k⟩ => by
    simp only [asgT] at e
    by_cases hl : i < ρ.length
    · rw [if_pos hl] at e; cases e
      refine k _ (s.store hl r) (List.length_set ..) fun j hj => ?_
      rw [List.getElem?_set_ne]
      intro z
      exact hj (by simp [tgS, z])
    · rw [if_neg hl] at e; cases e
theorem snd_gnil : PGs X [] (gDs c en .nil) := pgs_nil.imp fun vs σ H Q ⟨ρ, t, g, ds, ρ', s, r, e, k⟩ => by
  cases ds with
  | cons _ _ => simp [asgTs] at e
  | nil =>
    cases r
    cases e
    exact ⟨rfl, k σ s rfl fun _ _ => rfl⟩
theorem snd_gcons {e : Expr} {es : List Expr} {a : Tg} {b : Tgs} (h1 : PG X e (gD c en a)) (h2 : PGs X es (gDs c en b))
    (hs : (assignEach (e :: es) X.env).map (·.2) = assign e X.env :: (assignEach es X.env).map (·.2)) : PGs X (e :: es) (gDs c en (.cons a b)) := (pgs_cons h1 h2 hs).imp fun vs σ H Q ⟨ρ, t, g, ds, ρ', s, r, e, k⟩ => by
  cases ds with
  | nil => simp [asgTs] at e
  | cons d ds =>
    obtain ⟨v, r', rfl, r1, r2⟩ := r
    simp only [asgTs] at e
    obtain ⟨ρ1, e1, e2⟩ := Option.bind_eq_some_iff.mp e
    refine ⟨v, r', rfl, ρ, t, g, d, ρ1, s, r1, e1, fun σ1 s1 l1 f1 => ⟨ρ1, t, g, ds, ρ', s1, r2, e2, fun σ2 s2 l2 f2 => k σ2 s2 (l2.trans l1) fun i hi => ?_⟩⟩
    have hi' : i ∉ tgS a ∧ i ∉ tgsS b := by
      simp only [tgsS, List.mem_append, not_or] at hi; exact hi
    rw [f2 i hi'.2, f1 i hi'.1]
theorem snd_gtp {es : List Expr} {k : Nat} {gs : Tgs} (hK : c.K = X.K) (hc : X.calm = true) (h : PGs X es (gDs c en gs)) (hn : (assignEach es X.env).length = tgsN gs) (hst : (assignEach es X.env).findIdx? (·.1) = none) : PG X (.Tuple es k pos) (gD c en (.tp gs)) :=
  (pg_tup hc h hn hst).imp fun v σ H Q ⟨ρ, t, g, d, ρ', s, r, e, k⟩ => by
    cases d with
    | tup ds =>
      obtain ⟨a, vs, rfl, _, q, r1, _⟩ := r
      have e : asgTs gs ds ρ = some ρ' := e
      exact ⟨a, vs, rfl, SqT.of q, by rw [Reps.length r1, asgTs_len gs ds ρ ρ' e], ρ, t, g, ds, ρ', s, r1, e, k⟩
    | _ => simp [asgT] at e
end

/-! ### what is walked -/
mutual
theorem dEq_eq : ∀ a b : D, dEq a b = true → a = b
  | .non, b, h => by cases b <;> first | rfl | cases h
  | .bl x, b, h => by
    cases b with
    | bl y => rw [show x = y from by simpa [dEq] using h]
    | _ => cases h
  | .int x, b, h => by
    cases b with
    | int y => rw [show x = y from of_decide_eq_true h]
    | _ => cases h
  | .str x, b, h => by
    cases b with
    | str y => rw [show x = y from of_decide_eq_true h]
    | _ => cases h
  | .scr x, b, h => by
    cases b with
    | scr y => rw [show x = y from of_decide_eq_true h]
    | _ => cases h
  | .obj x, b, h => by
    cases b with
    | obj y => rw [show x = y from of_decide_eq_true h]
    | _ => cases h
  | .tup xs, b, h => by
    cases b with
    | tup ys => rw [dEqs_eq xs ys (by simpa [dEq] using h)]
    | _ => simp [dEq] at h
  | .lst xs, b, h => by
    cases b with
    | lst ys => rw [dEqs_eq xs ys (by simpa [dEq] using h)]
    | _ => simp [dEq] at h
theorem dEqs_eq : ∀ a b : List D, dEqs a b = true → a = b
  | [], b, h => by cases b <;> first | rfl | simp [dEqs] at h
  | x :: xs, b, h => by
    cases b with
    | nil => simp [dEqs] at h
    | cons y ys =>
      simp only [dEqs, Bool.and_eq_true] at h
      rw [dEq_eq x y h.1, dEqs_eq xs ys h.2]
end
structure WalkD (c : Cn) (P : Gh → Hp → Prop) (ck : T → Bool) (J : It) (ds : List D) : Prop where
  len : ds.length ≤ sz
  go : ∀ (g : Gh) (H : Hp) (t : T) (i : Nat), P g H → StH c g H t → ck t = true → i < ds.length → J.go i H
  yld : ∀ (g : Gh) (H : Hp) (t : T) (i : Nat) (v : V) (H' : Hp) (d : D), P g H → StH c g H t → ck t = true → ds[i]? = some d → J.yld i H v H' → ∃ g', Step g H g' H' ∧ StH c g' H' t ∧ Rep c g' H' v d
  stop : ∀ (g : Gh) (H : Hp) (t : T) (i : Nat), P g H → StH c g H t → ck t = true → ds.length ≤ i → J.stop i H
/-- a later moment -/
def Lat (pk : Bool) (g : Gh) (H : Hp) : Gh → Hp → Prop := fun g' H' => if pk then Step g H g' H' else Mo g H g' H'
theorem Lat.mo {c : Cn} {pk : Bool} {g : Gh} {H : Hp} {t : T} {g' : Gh} {H' : Hp} (s : StH c g H t) (l : Lat pk g H g' H') : Mo g H g' H' := by
  cases pk with
  | true => exact Step.mo s l
  | false => exact l
def RO (pk : Bool) (c : Cn) (g : Gh) (H : Hp) (v : V) (d : D) : Prop := if pk then RepP c g H v d else Rep c g H v d
def tOn (pk : Bool) (c : Cn) (en : En) (f : Env → T → R D) : TE := fun σ H Q => ∃ ρ t g, SR c en g σ H ρ t ∧ run (f ρ t) fun d t' => ∀ v g' H', Step g H g' H' → StH c g' H' t' → RO pk c g' H' v d → Q v H'
def tI (pk : Bool) (c : Cn) (en : En) (ckf : Env → List D → T → Bool) (f : Env → T → R (List D)) : TI := fun σ H R => ∃ ρ t g, SR c en g σ H ρ t ∧ run (f ρ t) fun ds t' => ∀ J g' H', Step g H g' H' → StH c g' H' t' → WalkD c (Lat pk g' H') (ckf ρ ds) J ds → R J H'
theorem tOn_tO {c : Cn} {en : En} {f : Env → T → R D} {X : Cx} {e : Expr} (h : PE X e (tO c en f)) : PE X e (tOn true c en f) := h.imp fun _ _ _ q => q
theorem tOn_tE {c : Cn} {en : En} {f : Env → T → R D} {X : Cx} {e : Expr} (h : PE X e (tE c en false f)) : PE X e (tOn false c en f) := h.imp fun _ _ _ ⟨ρ, t, g, s, r⟩ => ⟨ρ, t, g, s, r.mono fun d t' k => by rw [KF.fls]; exact k⟩
section
variable {c : Cn} {pk : Bool} {g : Gh} {H : Hp} {t : T} {v : V}
theorem RO.step {g' : Gh} {H' : Hp} {d : D} (s : StH c g H t) (st : Step g H g' H') (h : RO pk c g H v d) : RO pk c g' H' v d := by
  cases pk with
  | true => exact RepP.step s st h
  | false => exact Rep.mono (st.mo s) d v h
theorem RO.lst {ds : List D} (s : StH c g H t) (h : RO pk c g H v (.lst ds)) : ds.length ≤ sz ∧ ∃ a vs, v = .ref a ∧ H a = some (.lst vs) ∧ Reps c g H vs ds ∧ ∀ g' H', Lat pk g H g' H' → SqL c.K H' a vs ∧ Reps c g' H' vs ds := by
  cases pk with
  | true =>
    obtain ⟨a, vs, e, n, q, r, l⟩ := h
    exact ⟨l, a, vs, e, q, r, fun g' H' st => ⟨SqL.of (Step.keep st a _ q n), Reps.mono (Step.mo s st) ds vs r⟩⟩
  | false =>
    obtain ⟨a, vs, e, f, q, r, l⟩ := h
    exact ⟨l, a, vs, e, q, r, fun g' H' m => ⟨SqL.of ((Mo.fz m a f).2.trans q), Reps.mono m ds vs r⟩⟩
theorem RO.rep {d : D} (hd : ∀ ds, d ≠ .lst ds) (h : RO pk c g H v d) : Rep c g H v d := by
  cases pk with
  | true =>
    cases d with
    | lst ds => exact absurd rfl (hd ds)
    | _ => exact h
  | false => exact h
theorem RO.tup {ds : List D} (s : StH c g H t) (h : RO pk c g H v (.tup ds)) : ds.length ≤ sz ∧ ∃ a vs, v = .ref a ∧ H a = some (.tup vs) ∧ Reps c g H vs ds ∧ ∀ g' H', Lat pk g H g' H' → SqT c.K H' a vs ∧ Reps c g' H' vs ds := by
  obtain ⟨a, vs, e, f, q, r, l⟩ := RO.rep (by intro _ z; cases z) h
  exact ⟨l, a, vs, e, q, r, fun g' H' st => ⟨SqT.of (((Lat.mo s st).fz a f).2.trans q), Reps.mono (Lat.mo s st) ds vs r⟩⟩
theorem RO.scr {ns : List Int} (s : StH c g H t) (h : RO pk c g H v (.scr ns)) : ns.length ≤ 1000 ∧ ∃ a, v = .ref a ∧ SqL c.K H a (ns.map V.int) ∧ ∀ g' H', Lat pk g H g' H' → SqL c.K H' a (ns.map V.int) := by
  have h := RO.rep (by intro _ z; cases z) h
  obtain ⟨a, e, q, l⟩ := scr_sq h
  refine ⟨l, a, e, q, fun g' H' st => ?_⟩
  obtain ⟨a', e', q', _⟩ := scr_sq (Rep.mono (c := c) (Lat.mo s st) (.scr ns) v h)
  rw [e] at e'; cases e'; exact q'
/-- the list at a -/
theorem walk_list {P : Gh → Hp → Prop} {ck : T → Bool} {a : Addr} {vs : List V} {ds : List D} (l : ds.length ≤ sz) (h : ∀ g H, P g H → SqL c.K H a vs ∧ Reps c g H vs ds) : WalkD c P ck (Itl c.K a) ds where
  len := l
  go := fun g H t i p s _ hi => by
    obtain ⟨q, r⟩ := h g H p
    have hl : i < vs.length := by rw [Reps.length r]; exact hi
    exact ⟨vs, vs[i], q, List.getElem?_eq_getElem hl⟩
  yld := fun g H t i v H' d p s _ e y => by
    obtain ⟨q, r⟩ := h g H p
    obtain ⟨rfl, y⟩ := y
    obtain ⟨w, e1, r1⟩ := Reps.get r e
    rw [y vs q] at e1; cases e1
    exact ⟨g, Step.refl, s, r1⟩
  stop := fun g H t i p s _ hi => by
    obtain ⟨q, r⟩ := h g H p
    exact ⟨vs, q, by rw [Reps.length r]; exact hi⟩
/-- the table's list n, at a -/
theorem walk_ob {pk : Bool} {g0 : Gh} {H0 : Hp} {n : Nat} {a : Addr} {ds : List D} (l : ds.length ≤ sz) (ha : g0.ob[n]? = some a) : WalkD c (Lat pk g0 H0) (ckO n ds) (Itl c.K a) ds := by
  have key : ∀ (g : Gh) (H : Hp) (t : T), Lat pk g0 H0 g H → StH c g H t → ckO n ds t = true → ∃ vs, H a = some (.lst vs) ∧ Reps c g H vs ds := fun g H t p s k => by
    have ha' : g.ob[n]? = some a := by
      cases pk with
      | true => exact pre_get (Step.pre p) ha
      | false => exact pre_get (Mo.ob p) ha
    unfold ckO at k
    cases ht : t[n]? with
    | none => rw [ht] at k; cases k
    | some ob =>
      rw [ht] at k
      cases ob with
      | lst ys =>
        have e := dEqs_eq ys ds k
        subst e
        obtain ⟨vs, q, r, _⟩ := s.obs n a _ ha' ht
        exact ⟨vs, q, r⟩
      | _ => cases k
  refine ⟨l, fun g H t i p s k hi => ?_, fun g H t i v H' d p s k e y => ?_, fun g H t i p s k hi => ?_⟩
  · obtain ⟨vs, q, r⟩ := key g H t p s k
    have hl : i < vs.length := by rw [Reps.length r]; exact hi
    exact ⟨vs, vs[i], SqL.of q, List.getElem?_eq_getElem hl⟩
  · obtain ⟨vs, q, r⟩ := key g H t p s k
    obtain ⟨rfl, y⟩ := y
    obtain ⟨w, e1, r1⟩ := Reps.get r e
    rw [y vs (SqL.of q)] at e1; cases e1
    exact ⟨g, Step.refl, s, r1⟩
  · obtain ⟨vs, q, r⟩ := key g H t p s k
    exact ⟨vs, SqL.of q, by rw [Reps.length r]; exact hi⟩
theorem walk_tup {P : Gh → Hp → Prop} {ck : T → Bool} {a : Addr} {vs : List V} {ds : List D} (l : ds.length ≤ sz) (h : ∀ g H, P g H → SqT c.K H a vs ∧ Reps c g H vs ds) : WalkD c P ck (Itt c.K a) ds where
  len := l
  go := fun g H t i p s _ hi => by
    obtain ⟨q, r⟩ := h g H p
    have hl : i < vs.length := by rw [Reps.length r]; exact hi
    exact ⟨vs, vs[i], q, List.getElem?_eq_getElem hl⟩
  yld := fun g H t i v H' d p s _ e y => by
    obtain ⟨q, r⟩ := h g H p
    obtain ⟨rfl, y⟩ := y
    obtain ⟨w, e1, r1⟩ := Reps.get r e
    rw [y vs q] at e1; cases e1
    exact ⟨g, Step.refl, s, r1⟩
  stop := fun g H t i p s _ hi => by
    obtain ⟨q, r⟩ := h g H p
    exact ⟨vs, q, by rw [Reps.length r]; exact hi⟩
theorem walk_str {P : Gh → Hp → Prop} {ck : T → Bool} {s : List Nat} (ok : okS s) : WalkD c P ck (Its ⟨s.toArray⟩) (s.map fun x => .str [x]) where
  len := by rw [List.length_map]; exact ok.1
  go := fun g H t i p st _ hi => by rw [List.length_map] at hi; simpa [Its] using hi
  yld := fun g H t i v H' d p st _ e y => by
    obtain ⟨rfl, x, hx, rfl⟩ := y
    rw [List.getElem?_map] at e
    have hx : s[i]? = some x := by simpa using hx
    rw [hx] at e; cases e
    refine ⟨g, Step.refl, st, rfl, ?_, fun z hz => ?_⟩
    · show 1 ≤ sz; unfold sz; omega
    · rw [List.mem_singleton.mp hz]; exact ok.2 x (List.mem_of_getElem? hx)
  stop := fun g H t i p st _ hi => by rw [List.length_map] at hi; simpa [Its] using hi
theorem walk_range {P : Gh → Hp → Prop} {ck : T → Bool} (lo : Int) (n : Nat) (h : n ≤ sz) : WalkD c P ck (Itr lo n) ((List.range n).map fun k : Nat => D.int (lo + (k : Int))) where
  len := by rw [List.length_map, List.length_range]; exact h
  go := fun g H t i p st _ hi => by rw [List.length_map, List.length_range] at hi; exact hi
  yld := fun g H t i v H' d p st _ e y => by
    obtain ⟨rfl, rfl⟩ := y
    rw [List.getElem?_map] at e
    obtain ⟨k, e1, rfl⟩ := Option.map_eq_some_iff.mp e
    have hk : k = i := by
      obtain ⟨h1, h2⟩ := List.getElem?_eq_some_iff.mp e1
      simpa using h2.symm
    subst hk
    exact ⟨g, Step.refl, st, rfl⟩
  stop := fun g H t i p st _ hi => by rw [List.length_map, List.length_range] at hi; exact hi
theorem enumF_get : ∀ (ds : List D) (k i : Nat) (x : D), (enumF k ds)[i]? = some x → ∃ d, ds[i]? = some d ∧ x = .tup [.int ((k + i : Nat) : Int), d]
  | [], k, i, x, h => by simp [enumF] at h
  | d :: ds, k, 0, x, h => by simp [enumF] at h; exact ⟨d, rfl, by rw [← h]; simp⟩
  | d :: ds, k, i + 1, x, h => by
    simp [enumF] at h
    obtain ⟨d', e, q⟩ := enumF_get ds (k + 1) i x h
    exact ⟨d', by simpa using e, by rw [q]; congr 3; congr 1; omega⟩
theorem enumF_len : ∀ (ds : List D) (k : Nat), (enumF k ds).length = ds.length
  | [], _ => rfl
  | _ :: ds, k => by simp [enumF, enumF_len ds]
/-- a new pair -/
theorem pair_new {x y : V} {dx dy : D} {T0 : Addr} (s : StH c g H t) (rx : Rep c g H x dx) (ry : Rep c g H y dy) (hT : H T0 = none) : ∃ g', Step g H g' (upd H T0 (.tup [x, y])) ∧ StH c g' (upd H T0 (.tup [x, y])) t ∧ Rep c g' (upd H T0 (.tup [x, y])) (.ref T0) (.tup [dx, dy]) := by
  have st : Step g H (g.add T0) (upd H T0 (.tup [x, y])) := Step.froze hT hT
  exact ⟨g.add T0, st, s.froze hT, T0, [x, y], rfl, .inr rfl, upd_same, ⟨x, [y], rfl, Rep.mono (st.mo s) dx x rx, y, [], rfl, Rep.mono (st.mo s) dy y ry, rfl⟩, by show 2 ≤ sz; unfold sz; omega⟩
theorem walk_enum {P : Gh → Hp → Prop} {ck : T → Bool} {a : Addr} {vs : List V} {ds : List D} (l : ds.length ≤ sz) (h : ∀ g H, P g H → SqL c.K H a vs ∧ Reps c g H vs ds) : WalkD c P ck (Ite c.K a) (enumF 0 ds) where
  len := by rw [enumF_len]; exact l
  go := fun g H t i p s _ hi => by
    rw [enumF_len] at hi
    obtain ⟨q, r⟩ := h g H p
    have hl : i < vs.length := by rw [Reps.length r]; exact hi
    exact ⟨vs, vs[i], q, List.getElem?_eq_getElem hl⟩
  yld := fun g H t i v H' d p s _ e y => by
    obtain ⟨q, r⟩ := h g H p
    obtain ⟨d', e1, rfl⟩ := enumF_get ds 0 i d e
    obtain ⟨T0, x, rfl, hT, rfl, y⟩ := y
    obtain ⟨w, e2, r1⟩ := Reps.get r e1
    rw [y vs q] at e2; cases e2
    rw [Nat.zero_add]
    exact pair_new s rfl r1 hT
  stop := fun g H t i p s _ hi => by
    rw [enumF_len] at hi
    obtain ⟨q, r⟩ := h g H p
    exact ⟨vs, q, by rw [Reps.length r]; exact hi⟩
theorem zipD_get : ∀ (xs ys : List D) (i : Nat) (z : D), (zipD xs ys)[i]? = some z → ∃ x y, xs[i]? = some x ∧ ys[i]? = some y ∧ z = .tup [x, y]
  | [], _, i, z, h => by simp [zipD] at h
  | _ :: _, [], i, z, h => by simp [zipD] at h
  | x :: xs, y :: ys, 0, z, h => by simp [zipD] at h; exact ⟨x, y, rfl, rfl, h.symm⟩
  | x :: xs, y :: ys, i + 1, z, h => by
    simp [zipD] at h
    obtain ⟨x', y', e1, e2, q⟩ := zipD_get xs ys i z h
    exact ⟨x', y', by simpa using e1, by simpa using e2, q⟩
theorem zipD_len : ∀ (xs ys : List D), (zipD xs ys).length = min xs.length ys.length
  | [], _ => by simp [zipD]
  | _ :: _, [] => by simp [zipD]
  | _ :: xs, _ :: ys => by simp [zipD, zipD_len xs ys]
theorem walk_zip {P : Gh → Hp → Prop} {ck : T → Bool} {a b : Addr} {vs ws : List V} {ds es : List D} (l : ds.length ≤ sz) (h : ∀ g H, P g H → SqL c.K H a vs ∧ Reps c g H vs ds) (h2 : ∀ g H, P g H → SqL c.K H b ws ∧ Reps c g H ws es) : WalkD c P ck (Itz c.K a b) (zipD ds es) where
  len := by rw [zipD_len]; omega
  go := fun g H t i p s _ hi => by
    rw [zipD_len] at hi
    obtain ⟨q, r⟩ := h g H p
    obtain ⟨q2, r2⟩ := h2 g H p
    have hl : i < vs.length := by rw [Reps.length r]; omega
    have hl2 : i < ws.length := by rw [Reps.length r2]; omega
    exact ⟨vs, ws, vs[i], ws[i], q, q2, List.getElem?_eq_getElem hl, List.getElem?_eq_getElem hl2⟩
  yld := fun g H t i v H' d p s _ e y => by
    obtain ⟨q, r⟩ := h g H p
    obtain ⟨q2, r2⟩ := h2 g H p
    obtain ⟨d1, d2, e1, e2, rfl⟩ := zipD_get ds es i d e
    obtain ⟨T0, x, x2, rfl, hT, rfl, y, y2⟩ := y
    obtain ⟨w, f1, r1⟩ := Reps.get r e1
    obtain ⟨w2, f2, r3⟩ := Reps.get r2 e2
    rw [y vs q] at f1; cases f1
    rw [y2 ws q2] at f2; cases f2
    exact pair_new s r1 r3 hT
  stop := fun g H t i p s _ hi => by
    rw [zipD_len] at hi
    obtain ⟨q, r⟩ := h g H p
    obtain ⟨q2, r2⟩ := h2 g H p
    refine ⟨vs, ws, q, q2, ?_⟩
    rw [Reps.length r, Reps.length r2]; omega
theorem walk_zipT {P : Gh → Hp → Prop} {ck : T → Bool} {a b : Addr} {vs ws : List V} {ds es : List D} (l : ds.length ≤ sz) (h : ∀ g H, P g H → SqT c.K H a vs ∧ Reps c g H vs ds) (h2 : ∀ g H, P g H → SqT c.K H b ws ∧ Reps c g H ws es) : WalkD c P ck (RZ.ItzT c.K a b) (zipD ds es) where
  len := by rw [zipD_len]; omega
  go := fun g H t i p s _ hi => by
    rw [zipD_len] at hi
    obtain ⟨q, r⟩ := h g H p
    obtain ⟨q2, r2⟩ := h2 g H p
    have hl : i < vs.length := by rw [Reps.length r]; omega
    have hl2 : i < ws.length := by rw [Reps.length r2]; omega
    exact ⟨vs, ws, vs[i], ws[i], q, q2, List.getElem?_eq_getElem hl, List.getElem?_eq_getElem hl2⟩
  yld := fun g H t i v H' d p s _ e y => by
    obtain ⟨q, r⟩ := h g H p
    obtain ⟨q2, r2⟩ := h2 g H p
    obtain ⟨d1, d2, e1, e2, rfl⟩ := zipD_get ds es i d e
    obtain ⟨T0, x, x2, rfl, hT, rfl, y, y2⟩ := y
    obtain ⟨w, f1, r1⟩ := Reps.get r e1
    obtain ⟨w2, f2, r3⟩ := Reps.get r2 e2
    rw [y vs q] at f1; cases f1
    rw [y2 ws q2] at f2; cases f2
    exact pair_new s r1 r3 hT
  stop := fun g H t i p s _ hi => by
    rw [zipD_len] at hi
    obtain ⟨q, r⟩ := h g H p
    obtain ⟨q2, r2⟩ := h2 g H p
    refine ⟨vs, ws, q, q2, ?_⟩
    rw [Reps.length r, Reps.length r2]; omega
end
end Pd
set_option Elab.async false
set_option linter.all false
set_option maxRecDepth 100000
set_option autoImplicit false
/-! Pd: sources, comprehensions. -/
namespace Pd
open PySem PySem.Spec PyProof.Rows L2 TL Bits

theorem Lat.refl {pk : Bool} {g : Gh} {H : Hp} : Lat pk g H g H := by
  cases pk with
  | true => exact Step.refl
  | false => exact Mo.refl
section
variable {X : Cx} {c : Cn} {en : En} {pk : Bool} {pos p : Pos} {e e2 tg : Expr} {f f2 : Env → T → R D}
theorem snd_seq {ckf : Env → List D → T → Bool} (hK : c.K = X.K) (he : PE X e (tOn pk c en f)) : PI X tg e (tI pk c en ckf fun ρ t => bnd (f ρ t) fun x t => ofO (items x) t) := by
  refine ⟨fun pins s σ H R I h => ?_⟩
  obtain ⟨ρ, t, g, s0, r⟩ := h
  refine thn (he.run pins s σ H (fun v H1 => ∃ d g1 t1, StH c g1 H1 t1 ∧ RO pk c g1 H1 v d ∧ ∃ ds, items d = some ds ∧ ∀ J, WalkD c (Lat pk g1 H1) (ckf ρ ds) J ds → R J H1) I ⟨ρ, t, g, s0, (run_bnd r).mono fun x t1 r1 v1 g1 H1 st1 s1 rp => ?_⟩) fun v s1 ⟨x, H1, I1, r1, d, g1, t1, st1, rp, ds, e1, q⟩ => ?_
  · obtain ⟨ds, e1, q⟩ := run_ofO r1
    exact ⟨x, g1, t1, s1, rp, ds, e1, fun J w => q J g1 H1 st1 s1 w⟩
  · cases d with
    | lst xs =>
      cases e1
      obtain ⟨l, a, vs, rfl, q0, rr, hw⟩ := RO.lst st1 rp
      cases r1
      have hq := (hw g1 H1 Lat.refl).1
      rw [hK] at hq
      obtain ⟨its, rv, p, hz⟩ := I1.list hq
      refine wpAny_pyIter_list p.isList (pi_one (tk := s1.toks) I1 _ (turn_list a _) ⟨_, Heap.get?_push_size _ rfl, rfl, rfl⟩ (q _ ?_))
      rw [← hK]; exact walk_list l hw
    | tup xs =>
      cases e1
      obtain ⟨l, a, vs, rfl, q0, rr, hw⟩ := RO.tup st1 rp
      cases r1
      have hq := (hw g1 H1 Lat.refl).1
      rw [hK] at hq
      obtain ⟨its, rv, p, hz⟩ := I1.tuple hq
      refine wpAny_pyIter_tuple (show s1.heap.IsTuple a its.toArray from p) (pi_one (tk := s1.toks) I1 _ (turn_tuple a _) ⟨_, Heap.get?_push_size _ rfl, rfl, rfl⟩ (q _ ?_))
      rw [← hK]; exact walk_tup l hw
    | scr ns =>
      cases e1
      obtain ⟨l, a, rfl, q0, hw⟩ := RO.scr st1 rp
      cases r1
      rw [hK] at q0
      obtain ⟨its, rv, p, hz⟩ := I1.list q0
      refine wpAny_pyIter_list p.isList (pi_one (tk := s1.toks) I1 _ (turn_list a _) ⟨_, Heap.get?_push_size _ rfl, rfl, rfl⟩ (q _ ?_))
      rw [← hK]; exact walk_list (by rw [List.length_map]; unfold sz; omega) fun g' H' m => ⟨hw g' H' m, Reps.ints ns⟩
    | str xs =>
      cases e1
      obtain ⟨rfl, ok⟩ := RO.rep (by intro _ z; cases z) rp
      obtain ⟨u, rfl⟩ := r1
      cases ha : (⟨xs.toArray⟩ : PySem.Str).cps.all (· < 128)
      · exact wpAny_pyIter_wide ha (pi_one (tk := s1.toks) I1 _ (turn_str _ _ u "str_iterator" (.inr rfl)) ⟨_, Heap.get?_push_size _ rfl, rfl, rfl⟩ (q _ (walk_str ok)))
      · exact wpAny_pyIter_ascii ha (pi_one (tk := s1.toks) I1 _ (turn_str _ _ u "str_ascii_iterator" (.inl rfl)) ⟨_, Heap.get?_push_size _ rfl, rfl, rfl⟩ (q _ (walk_str ok)))
    | _ => cases e1
/-- a name walked: it may hold a list of the table -/
theorem snd_seqV {i : Nat} (hK : c.K = X.K) (he : PE X e (tOn pk c en fun ρ t => opn pk (.var i) ρ t (ofO (valOf (look ρ i)) t))) : PI X tg e (tI pk c en (fun ρ xs => ckC (look ρ i) xs) fun ρ t => bnd (opn pk (.var i) ρ t (ofO (valOf (look ρ i)) t)) fun x t => ofO (itemsS (.var i) t x) t) := by
  refine ⟨fun pins s σ H R I h => ?_⟩
  have h0 := h
  obtain ⟨ρ, t, g, s0, r⟩ := h
  by_cases ho : ∃ n, look ρ i = .val (.obj n)
  · obtain ⟨n, hl⟩ := ho
    have ev : opn pk (.var i) ρ t (ofO (valOf (look ρ i)) t) = .ok (.obj n) t := by
      cases pk with
      | true => show ofO (peek (look ρ i)) t = _; rw [hl]; rfl
      | false => show ofO (valOf (look ρ i)) t = _; rw [hl]; rfl
    have r : run (bnd (opn pk (.var i) ρ t (ofO (valOf (look ρ i)) t)) fun x t => ofO (itemsS (.var i) t x) t) _ := r
    rw [ev] at r
    have r : run (ofO (itemsS (.var i) t (.obj n)) t) _ := r
    obtain ⟨ds, e1, q⟩ := run_ofO r
    cases ht : t[n]? with
    | none => simp [itemsS, ht] at e1
    | some ob =>
      cases ob with
      | lst xs =>
        simp only [itemsS, ht, Option.some.injEq] at e1
        subst e1
        refine thn (he.run pins s σ H (fun v H1 => ∃ g1, Step g H g1 H1 ∧ StH c g1 H1 t ∧ RO pk c g1 H1 v (.obj n)) I ⟨ρ, t, g, s0, ?_⟩) fun v s1 ⟨x, H1, I1, r1, g1, st1, s1h, rp⟩ => ?_
        · show run (opn pk (.var i) ρ t (ofO (valOf (look ρ i)) t)) _
          rw [ev]
          exact fun v g1 H1 st1 s1 rp => ⟨g1, st1, s1, rp⟩
        · obtain ⟨a, rfl, ha⟩ := RO.rep (by intro _ z; cases z) rp
          obtain ⟨vs, hq, rr, l⟩ := s1h.obs n a _ ha ht
          cases r1
          obtain ⟨its, rv, p, hz⟩ := I1.list (SqL.of hq)
          refine wpAny_pyIter_list p.isList (pi_one (tk := s1.toks) I1 _ (turn_list a _) ⟨_, Heap.get?_push_size _ rfl, rfl, rfl⟩ (q _ g1 H1 st1 s1h ?_))
          show WalkD c _ (ckC (look ρ i) xs) _ _
          rw [hl, ← hK]
          exact walk_ob l ha
      | _ => simp [itemsS, ht] at e1
  · refine (snd_seq (tg := tg) (ckf := fun ρ xs => ckC (look ρ i) xs) hK he).run pins s σ H R I ⟨ρ, t, g, s0, ?_⟩
    have r : run (bnd (opn pk (.var i) ρ t (ofO (valOf (look ρ i)) t)) fun x t => ofO (itemsS (.var i) t x) t) _ := r
    have key : ∀ d, (peek (look ρ i) = some d ∨ valOf (look ρ i) = some d) → ∀ t, itemsS (.var i) t d = items d := fun d hd t => by
      cases d with
      | obj n =>
        exfalso
        apply ho
        refine ⟨n, ?_⟩
        cases hl : look ρ i with
        | val y =>
          rw [hl] at hd
          rcases hd with hd | hd <;> (cases hd; rfl)
        | un => rw [hl] at hd; rcases hd with hd | hd <;> cases hd
        | own _ => rw [hl] at hd; rcases hd with hd | hd <;> cases hd
        | loan _ => rw [hl] at hd; rcases hd with hd | hd <;> cases hd
      | _ => rfl
    show run (bnd (opn pk (.var i) ρ t (ofO (valOf (look ρ i)) t)) fun x t => ofO (items x) t) _
    cases pk with
    | true =>
      have r : run (bnd (ofO (peek (look ρ i)) t) fun x t => ofO (itemsS (.var i) t x) t) _ := r
      show run (bnd (ofO (peek (look ρ i)) t) fun x t => ofO (items x) t) _
      cases hp : peek (look ρ i) with
      | none => rw [hp] at r; exact r.elim
      | some d =>
        rw [hp] at r
        have r : run (ofO (itemsS (.var i) t d) t) _ := r
        rw [key d (.inl hp)] at r
        exact r
    | false =>
      have r : run (bnd (ofO (valOf (look ρ i)) t) fun x t => ofO (itemsS (.var i) t x) t) _ := r
      show run (bnd (ofO (valOf (look ρ i)) t) fun x t => ofO (items x) t) _
      cases hp : valOf (look ρ i) with
      | none => rw [hp] at r; exact r.elim
      | some d =>
        rw [hp] at r
        have r : run (ofO (itemsS (.var i) t d) t) _ := r
        rw [key d (.inr hp)] at r
        exact r
theorem _root_.L2.PI.imp {X : Cx} {tg e : Expr} {t t' : TI} (h : PI X tg e t) (k : ∀ σ H Q, t' σ H Q → t σ H Q) : PI X tg e t' := ⟨fun pins s σ H Q I q => h.run pins s σ H Q I (k σ H Q q)⟩
theorem RO.int {c : Cn} {pk : Bool} {g : Gh} {H : Hp} {v : V} {n : Int} (h : RO pk c g H v (.int n)) : v = .int n := by
  cases pk <;> exact h
theorem snd_rng {ckf : Env → List D → T → Bool} (hg : Gl X "range") (hm : X.mg "range" = none) (he : PE X e (tOn pk c en f)) (hs : starEach [e] X.env = (false, eval e X.env) :: starEach [] X.env) :
    PI X tg (.Call (.Name "range" p) [e] [] pos) (tI pk c en ckf fun ρ t => bnd (f ρ t) fun x t => match x with
    | .int n => if n ≤ 1000000 ∧ -1000000 ≤ n then .ok (range0 n) t else .no
    | _ => .no) := (pi_range1 hg hm (pa_cons he pa_nil hs) hs).imp fun σ H R ⟨ρ, t, g, s0, r⟩ => by
  refine ⟨ρ, t, g, s0, (run_bnd r).mono fun x t1 r1 v1 g1 H1 st1 s1 rp => ?_⟩
  cases x with
  | int n =>
    cases RO.int rp
    by_cases hn : n ≤ 1000000 ∧ -1000000 ≤ n
    · simp only [if_pos hn] at r1
      refine ⟨n, rfl, by omega, by omega, (show ∀ J g' H', Step g H g' H' → StH c g' H' t1 → WalkD c (Lat pk g' H') (ckf ρ _) J (range0 n) → R J H' from r1) _ g1 H1 st1 s1 ?_⟩
      have w := walk_range (c := c) (P := Lat pk g1 H1) (ck := ckf ρ (range0 n)) 0 n.toNat (by unfold sz; omega)
      simp only [Int.zero_add] at w
      exact w
    · simp only [if_neg hn] at r1; exact r1.elim
  | _ => exact r1.elim
theorem snd_rng2 {ckf : Env → List D → T → Bool} (hg : Gl X "range") (hm : X.mg "range" = none) (he : PE X e (tOn pk c en f)) (he2 : PE X e2 (tOn pk c en f2)) (hs : starEach [e, e2] X.env = (false, eval e X.env) :: starEach [e2] X.env) (hs2 : starEach [e2] X.env = (false, eval e2 X.env) :: starEach [] X.env) :
    PI X tg (.Call (.Name "range" p) [e, e2] [] pos) (tI pk c en ckf fun ρ t => bnd (f ρ t) fun x t => bnd (f2 ρ t) fun y t => match x, y with
    | .int m, .int n => if n ≤ 1000000 ∧ -1000000 ≤ n ∧ m ≤ 1000000 ∧ -1000000 ≤ m then .ok (range2 m n) t else .no
    | _, _ => .no) := (pi_range2 hg hm (pa_cons he (pa_cons he2 pa_nil hs2) hs) (by rw [hs, hs2]; rfl) hs2).imp fun σ H R ⟨ρ, t, g, s0, r⟩ => by
  refine ⟨ρ, t, g, s0, (run_bnd r).mono fun x t1 r1 v1 g1 H1 st1 s1 rp1 => ⟨ρ, t1, g1, s0.step st1 s1, (run_bnd r1).mono fun y t2 r2 v2 g2 H2 st2 s2 rp2 => ?_⟩⟩
  cases x with
  | int m =>
    cases y with
    | int n =>
      cases RO.int rp1
      cases RO.int rp2
      by_cases hn : n ≤ 1000000 ∧ -1000000 ≤ n ∧ m ≤ 1000000 ∧ -1000000 ≤ m
      · simp only [if_pos hn] at r2
        refine ⟨m, n, rfl, by omega, (show ∀ J g' H', Step g H g' H' → StH c g' H' t2 → WalkD c (Lat pk g' H') (ckf ρ _) J (range2 m n) → R J H' from r2) _ g2 H2 (st1.trans st2) s2 ?_⟩
        exact walk_range (c := c) (P := Lat pk g2 H2) m (n - m).toNat (by unfold sz; omega)
      · simp only [if_neg hn] at r2; exact r2.elim
    | _ => exact r2.elim
  | _ => cases y <;> exact r2.elim
theorem snd_enm {ckf : Env → List D → T → Bool} {elts : List Expr} {kk : Nat} {tpos : Pos} (hK : c.K = X.K) (hg : Gl X "enumerate") (hm : X.mg "enumerate" = none) (he : PE X e (tOn pk c en f)) (hs : starEach [e] X.env = (false, eval e X.env) :: starEach [] X.env) :
    PI X (.Tuple elts kk tpos) (.Call (.Name "enumerate" p) [e] [] pos) (tI pk c en ckf fun ρ t => bnd (f ρ t) fun x t => match x with
    | .lst xs => .ok (enumF 0 xs) t
    | _ => .no) := (pi_enum hg hm (pa_cons he pa_nil hs) hs).imp fun σ H R ⟨ρ, t, g, s0, r⟩ => by
  refine ⟨ρ, t, g, s0, (run_bnd r).mono fun x t1 r1 v1 g1 H1 st1 s1 rp => ?_⟩
  cases x with
  | lst xs =>
    obtain ⟨l, a, vs, rfl, q0, rr, hw⟩ := RO.lst s1 rp
    have hq := (hw g1 H1 Lat.refl).1
    rw [hK] at hq
    refine ⟨a, vs, rfl, hq, (show ∀ J g' H', Step g H g' H' → StH c g' H' t1 → WalkD c (Lat pk g' H') (ckf ρ _) J (enumF 0 xs) → R J H' from r1) _ g1 H1 st1 s1 ?_⟩
    rw [← hK]; exact walk_enum l hw
  | _ => exact r1.elim
theorem snd_zip {ckf : Env → List D → T → Bool} {elts : List Expr} {kk : Nat} {tpos : Pos} (hK : c.K = X.K) (hg : Gl X "zip") (hm : X.mg "zip" = none) (he : PE X e (tOn pk c en f)) (he2 : PE X e2 (tOn pk c en f2)) (hs : starEach [e, e2] X.env = (false, eval e X.env) :: starEach [e2] X.env) (hs2 : starEach [e2] X.env = (false, eval e2 X.env) :: starEach [] X.env) (hpl : (backTo pos (starEach [e2] X.env)).any (·.1) = false) :
    PI X (.Tuple elts kk tpos) (.Call (.Name "zip" p) [e, e2] [] pos) (tI pk c en ckf fun ρ t => bnd (f ρ t) fun x t => bnd (f2 ρ t) fun y t => match x, y with
    | .lst xs, .lst ys => .ok (zipD xs ys) t
    | .tup xs, .tup ys => .ok (zipD xs ys) t
    | _, _ => .no) := (RZ.pi_zipA hg hm (pa_cons he (pa_cons he2 pa_nil hs2) hs) hs hpl).imp fun σ H R ⟨ρ, t, g, s0, r⟩ => by
  refine ⟨ρ, t, g, s0, (run_bnd r).mono fun x t1 r1 v1 g1 H1 st1 s1 rp1 => ⟨ρ, t1, g1, s0.step st1 s1, (run_bnd r1).mono fun y t2 r2 v2 g2 H2 st2 s2 rp2 => ?_⟩⟩
  have rp1 := RO.step s1 st2 rp1
  cases x with
  | lst xs =>
    cases y with
    | lst ys =>
      obtain ⟨l, a, vs, rfl, q0, rr, hw⟩ := RO.lst s2 rp1
      obtain ⟨l2, b, ws, rfl, q2, rr2, hw2⟩ := RO.lst s2 rp2
      have hq := (hw g2 H2 Lat.refl).1
      have hq2 := (hw2 g2 H2 Lat.refl).1
      rw [hK] at hq hq2
      refine ⟨a, b, vs, ws, rfl, .inl ⟨hq, hq2, (show ∀ J g' H', Step g H g' H' → StH c g' H' t2 → WalkD c (Lat pk g' H') (ckf ρ _) J (zipD xs ys) → R J H' from r2) _ g2 H2 (st1.trans st2) s2 ?_⟩⟩
      rw [← hK]; exact walk_zip l hw hw2
    | _ => exact r2.elim
  | tup xs =>
    cases y with
    | tup ys =>
      obtain ⟨l, a, vs, rfl, q0, rr, hw⟩ := RO.tup s2 rp1
      obtain ⟨l2, b, ws, rfl, q2, rr2, hw2⟩ := RO.tup s2 rp2
      have hq := (hw g2 H2 Lat.refl).1
      have hq2 := (hw2 g2 H2 Lat.refl).1
      rw [hK] at hq hq2
      refine ⟨a, b, vs, ws, rfl, .inr ⟨hq, hq2, (show ∀ J g' H', Step g H g' H' → StH c g' H' t2 → WalkD c (Lat pk g' H') (ckf ρ _) J (zipD xs ys) → R J H' from r2) _ g2 H2 (st1.trans st2) s2 ?_⟩⟩
      rw [← hK]; exact walk_zipT l hw hw2
    | _ => exact r2.elim
  | _ => cases y <;> exact r2.elim
end

/-! ### comprehensions -/
def rm (H : Hp) (p : Addr) : Hp := fun a => if a = p then none else H a
theorem rm_ne {H : Hp} {p a : Addr} (h : a ≠ p) : rm H p a = H a := if_neg h
theorem rm_same {H : Hp} {p : Addr} : rm H p p = none := if_pos rfl
theorem upd_rm {H : Hp} {p : Addr} {o : HO} (h : H p = some o) : upd (rm H p) p o = H := by
  funext a
  by_cases ha : a = p
  · subst ha; rw [upd_same, h]
  · rw [upd_ne ha, rm_ne ha]
theorem upd_upd {H : Hp} {p : Addr} {o u : HO} : upd (upd H p o) p u = upd H p u := by
  funext a
  by_cases ha : a = p
  · subst ha; rw [upd_same, upd_same]
  · rw [upd_ne ha, upd_ne ha, upd_ne ha]
/-- the list at p that grows, known to no one else -/
def AccR (c : Cn) (g1 : Gh) (H1 : Hp) (g : Gh) (H : Hp) (t : T) (p : Addr) (xs : List D) : Prop := ∃ vs Hx, H = upd Hx p (.lst vs) ∧ Hx p = none ∧ Step g1 H1 g Hx ∧ StH c g Hx t ∧ Reps c g Hx vs xs
section
variable {c : Cn} {g1 g g' : Gh} {H1 H H' : Hp} {t t' : T} {p : Addr} {xs : List D}
theorem AccR.here (a : AccR c g1 H1 g H t p xs) : Step g1 H1 g H ∧ StH c g H t := by
  obtain ⟨vs, Hx, rfl, hp, st, s, r⟩ := a
  exact ⟨st.trans (Step.alloc hp), s.alloc hp⟩
theorem AccR.step (a : AccR c g1 H1 g H t p xs) (st : Step g H g' H') (s' : StH c g' H' t') : ∃ vs, H' p = some (.lst vs) ∧ vs.length = xs.length ∧ Step g1 H1 g' (rm H' p) ∧ StH c g' (rm H' p) t' ∧ Reps c g' (rm H' p) vs xs ∧ ∀ v d, Rep c g' H' v d → Rep c g' (rm H' p) v d := by
  obtain ⟨vs, Hx, rfl, hp, st1, s, r⟩ := a
  have nf : ¬ g.fz p := fun z => s.tr p z hp
  have no : p ∉ g.ob := fun z => s.there z hp
  have e1 : H' p = some (.lst vs) := st.keep p _ upd_same no
  have nf' : ¬ g'.fz p := fun z => by
    rcases st.fzn p z with z | z
    · exact nf z
    · rw [upd_same] at z; cases z
  have no' : p ∉ g'.ob := fun z => by
    rcases st.obn p z with z | z
    · exact no z
    · rw [upd_same] at z; cases z
  have m : Mo g' H' g' (rm H' p) := ⟨fun a h => ⟨h, rm_ne fun z => nf' (z ▸ h)⟩, List.prefix_refl _⟩
  have stx : Step g Hx g' (rm H' p) := ⟨st.pre, st.fzm, fun a h => by
      by_cases ha : a = p
      · exact absurd (ha ▸ h) nf'
      · rcases st.fzn a h with z | z
        · exact .inl z
        · rw [upd_ne ha] at z; exact .inr z, fun a h => by
      by_cases ha : a = p
      · exact absurd (ha ▸ h) no'
      · rcases st.obn a h with z | z
        · exact .inl z
        · rw [upd_ne ha] at z; exact .inr z, fun a o h n => by
      have ha : a ≠ p := fun z => by rw [z, hp] at h; cases h
      rw [rm_ne ha]; exact st.keep a o (by rw [upd_ne ha]; exact h) n, fun a h => by
      have ha : a ≠ p := fun z => by rw [z, hp] at h; exact h rfl
      rw [rm_ne ha]; exact st.tr a (by rw [upd_ne ha]; exact h)⟩
  refine ⟨vs, e1, Reps.length r, st1.trans stx, ⟨s'.len, s'.nd, s'.nf, fun a h => by
      have ha : a ≠ p := fun z => nf' (by rw [z] at h; exact h)
      rw [rm_ne ha]; exact s'.tr a h, fun i a o h1 h2 => (s'.obs i a o h1 h2).mono m (rm_ne fun z => no' (z ▸ List.mem_of_getElem? h1))⟩, Reps.mono (stx.mo s) xs vs r, fun v d h => Rep.mono m d v h⟩
theorem AccR.go (a : AccR c g1 H1 g H t p xs) (st : Step g H g' H') (s' : StH c g' H' t') : AccR c g1 H1 g' H' t' p xs := by
  obtain ⟨vs, e, _, st2, s2, r2, _⟩ := a.step st s'
  exact ⟨vs, rm H' p, (upd_rm e).symm, rm_same, st2, s2, r2⟩
theorem AccR.push (a : AccR c g1 H1 g H t p xs) {v : V} {d : D} (r : Rep c g H v d) : ∃ vs, H p = some (.lst vs) ∧ vs.length = xs.length ∧ AccR c g1 H1 g (upd H p (.lst (vs ++ [v]))) t p (xs ++ [d]) := by
  obtain ⟨_, s⟩ := a.here
  obtain ⟨vs, e, l, st2, s2, r2, k⟩ := a.step Step.refl s
  refine ⟨vs, e, l, vs ++ [v], rm H p, ?_, rm_same, st2, s2, Reps.append r2 ⟨v, [], rfl, k v d r, rfl⟩⟩
  funext a
  by_cases ha : a = p
  · subst ha; rw [upd_same, upd_same]
  · rw [upd_ne ha, upd_ne ha, rm_ne ha]
end
theorem unset_length : ∀ (is : List Nat) (ρ : Env), (unset ρ is).length = ρ.length
  | [], _ => rfl
  | i :: r, ρ => by show (unset (put ρ i .un) r).length = _; rw [unset_length r, put_length]
theorem look_unset : ∀ (is : List Nat) (ρ : Env) (j : Nat), (j ∈ is → look (unset ρ is) j = .un) ∧ (j ∉ is → look (unset ρ is) j = look ρ j)
  | [], ρ, j => ⟨fun h => absurd h (by simp), fun _ => rfl⟩
  | i :: r, ρ, j => by
    have ih := look_unset r (put ρ i .un) j
    refine ⟨fun h => ?_, fun h => ?_⟩
    · by_cases hj : j ∈ r
      · exact ih.1 hj
      · have hji : j = i := (List.mem_cons.mp h).resolve_right hj
        show look (unset (put ρ i .un) r) j = _
        rw [ih.2 hj, look_put]
        split
        · rfl
        · rename_i n
          have : ρ.length ≤ j := by
            have : ¬ i < ρ.length := fun z => n ⟨z, hji⟩
            omega
          exact look_out ρ j this
    · have h1 : j ≠ i := fun z => h (z ▸ List.mem_cons_self)
      have h2 : j ∉ r := fun z => h (List.mem_cons_of_mem _ z)
      show look (unset (put ρ i .un) r) j = _
      rw [ih.2 h2, look_put, if_neg fun z => h1 z.2]
theorem SR.wipe {c : Cn} {en : En} {g : Gh} {σ : L2.St} {H : Hp} {ρ : Env} {t : T} (s : SR c en g σ H ρ t) (is : List Nat) : SR c en g (wipe σ is) H (Pd.unset ρ is) t where
  st := s.st
  ent := s.ent
  len := by rw [unset_length, wipe_length]; exact s.len
  cell := fun j => by
    by_cases hj : j ∈ is
    · rw [(look_unset is ρ j).1 hj]; trivial
    · rw [(look_unset is ρ j).2 hj, wipe_out hj]; exact s.cell j
  dis := fun i j a h1 h2 e1 e2 => by
    have hi : i ∉ is := fun z => by rw [(look_unset is ρ i).1 z] at h1; cases h1
    have hj : j ∉ is := fun z => by rw [(look_unset is ρ j).1 z] at h2; cases h2
    rw [(look_unset is ρ i).2 hi] at h1
    rw [(look_unset is ρ j).2 hj] at h2
    rw [wipe_out hi] at e1
    rw [wipe_out hj] at e2
    exact s.dis i j a h1 h2 e1 e2
theorem wipe_in {σ : L2.St} {i : Nat} : ∀ {vs : List Nat}, i ∈ vs → (wipe σ vs)[i]? = if i < σ.length then some none else none
  | [], h => absurd h (by simp)
  | v :: vs, h => by
    unfold wipe
    by_cases hv : v = i
    · subst hv
      by_cases hl : v < σ.length
      · rw [List.getElem?_set_self (by rw [wipe_length]; exact hl), if_pos hl]
      · rw [if_neg hl, List.getElem?_eq_none (by rw [List.length_set, wipe_length]; omega)]
    · rw [List.getElem?_set_ne hv]
      exact wipe_in ((List.mem_cons.mp h).resolve_left fun z => hv z.symm)
theorem wipe_eq {σ τ : L2.St} {vs : List Nat} (l : τ.length = σ.length) (h : ∀ i, i ∉ vs → τ[i]? = σ[i]?) : wipe τ vs = wipe σ vs := by
  apply List.ext_getElem?
  intro i
  by_cases hi : i ∈ vs
  · rw [wipe_in hi, wipe_in hi, l]
  · rw [wipe_out hi, wipe_out hi, h i hi]
theorem wipe_wipe {σ : L2.St} {vs : List Nat} : wipe (wipe σ vs) vs = wipe σ vs := wipe_eq (wipe_length σ vs) fun i hi => wipe_out hi
/-- one turn of a comprehension -/
def turnF (gt : Tg) (own : List Nat) (ft : Env → T → R Bool) (fe : Env → T → R D) (ρ : Env) (x : D) (t : T) : R (Option D) :=
  match asgT gt x (unset ρ own) with
  | none => .no
  | some ρ => bnd (ft ρ t) fun k t => if k then bnd (fe ρ t) fun d t => .ok (some d) t else .ok none t
theorem comp_core {c : Cn} {en : En} {gt : Tg} {own : List Nat} {ckf : Env → List D → T → Bool} {fs : Env → T → R (List D)} {ft : Env → T → R Bool} {fe : Env → T → R D} {σ : L2.St} {H : Hp} {Q : VK} (hown : ∀ i ∈ tgS gt, i ∈ own)
    (h : tE c en true (fun ρ t => bnd (fs ρ t) fun xs t => bnd (compL (ckf ρ xs) (turnF gt own ft fe ρ) xs t) fun ds t => .ok (.lst ds) t) σ H Q) :
    tLc (tI true c en ckf fs) (gD c en gt) (tT c en ft) (tE c en false fe) own σ H Q := by
  obtain ⟨ρ, t, g, s, r⟩ := h
  refine ⟨ρ, t, g, s, (run_bnd r).mono fun ds t1 r1 J g1 H1 st1 s1 wk D0 hD => ?_⟩
  refine ⟨fun i m H' => m = ds.length - i ∧ i ≤ ds.length ∧ ∃ g' t' xs, AccR c g1 H1 g' H' t' D0 xs ∧ xs.length ≤ i ∧ run (compL (ckf ρ ds) (turnF gt own ft fe ρ) (ds.drop i) t') (fun rest t'' => KL c g H t'' (xs ++ rest) Q), ⟨ds.length, rfl, Nat.zero_le _, g1, t1, [], ⟨[], H1, rfl, hD, Step.refl, s1, rfl⟩, Nat.le_refl _, ?_⟩, ?_⟩
  · rw [List.drop_zero]
    exact (run_bnd r1).mono fun rest t'' k => k
  · rintro i m H' ⟨rfl, hi, g', t', xs, acc, hx, rn⟩
    obtain ⟨stH, sH⟩ := acc.here
    have hck : ckf ρ ds t' = true := by
      cases hq : ckf ρ ds t' with
      | true => rfl
      | false =>
        cases hd : ds.drop i with
        | nil => rw [hd] at rn; simp only [compL, hq] at rn; exact rn.elim
        | cons _ _ => rw [hd] at rn; simp only [compL, hq] at rn; exact rn.elim
    by_cases hlt : i < ds.length
    · refine .inr ⟨wk.go g' H' t' i stH sH hck hlt, fun Hn => i + 1 ≤ ds.length ∧ ∃ g' t' xs, AccR c g1 H1 g' Hn t' D0 xs ∧ xs.length ≤ i + 1 ∧ run (compL (ckf ρ ds) (turnF gt own ft fe ρ) (ds.drop (i + 1)) t') (fun rest t'' => KL c g H t'' (xs ++ rest) Q), fun Hn ⟨h1, h2⟩ => ⟨ds.length - (i + 1), by omega, rfl, h1, h2⟩, fun x H2 y => ?_⟩
      have hd : ds[i]? = some ds[i] := List.getElem?_eq_getElem hlt
      obtain ⟨g2, st2, s2, rx⟩ := wk.yld g' H' t' i x H2 _ stH sH hck hd y
      have acc2 := acc.go st2 s2
      rw [List.drop_eq_getElem_cons hlt] at rn
      simp only [compL, hck, if_true] at rn
      have rn := run_bnd rn
      have e0 : turnF gt own ft fe ρ ds[i] t' = (match asgT gt ds[i] (unset ρ own) with
        | none => .no
        | some ρ => bnd (ft ρ t') fun k t => if k then bnd (fe ρ t) fun d t => .ok (some d) t else .ok none t) := rfl
      rw [e0] at rn
      cases ha : asgT gt ds[i] (unset ρ own) with
      | none => rw [ha] at rn; exact rn.elim
      | some ρ' =>
        rw [ha] at rn
        have sw : SR c en g2 (L2.wipe σ own) H2 (Pd.unset ρ own) t' := (s.step ((st1.trans stH).trans st2) s2).wipe own
        refine ⟨_, t', g2, _, ρ', sw, rx, ha, fun σ' sσ lσ fσ => ⟨?_, ρ', t', g2, sσ, (run_bnd rn).mono fun b t3 r3 g3 H3 st3 s3 => ?_⟩⟩
        · rw [wipe_eq (σ := L2.wipe σ own) lσ fun j hj => fσ j fun z => hj (hown j z), wipe_wipe]
        · have acc3 := acc2.go st3 s3
          cases b with
          | false =>
            show _ ∧ _
            refine ⟨hlt, g3, t3, xs, acc3, by omega, ?_⟩
            exact (run_bnd r3).mono fun rest t'' k => k
          | true =>
            have r3 := run_bnd (show run (bnd (fe ρ' t3) fun d t => .ok (some d) t) _ from r3)
            show tE c en false fe σ' H3 _
            refine ⟨ρ', t3, g3, sσ.step st3 s3, r3.mono fun d t4 r4 => ?_⟩
            rw [KF.fls]
            intro y g4 H4 st4 s4 ry
            obtain ⟨vs, e1, l1, acc5⟩ := (acc3.go st4 s4).push ry
            refine ⟨vs, e1, ?_, hlt, g4, t4, xs ++ [d], acc5, by rw [List.length_append]; simp; omega, ?_⟩
            · rw [szL, l1]; have := wk.len; omega
            · exact (run_bnd r4).mono fun rest t'' k => by
                have k : KL c g H t'' (xs ++ d :: rest) Q := k
                rw [List.append_assoc]; exact k
    · have hi2 : i = ds.length := by omega
      subst hi2
      refine .inl ⟨wk.stop g' H' t' _ stH sH hck (Nat.le_refl _), ?_⟩
      rw [List.drop_length] at rn
      simp only [compL, hck, if_true] at rn
      have k : KL c g H t' (xs ++ []) Q := rn
      rw [List.append_nil] at k
      obtain ⟨vs, Hx, rfl, hp, st, s', rr⟩ := acc
      exact k D0 vs g' Hx (st1.trans st) s' hp rr (Nat.le_trans hx wk.len)
section
variable {X : Cx} {c : Cn} {en : En} {elt tg iter : Expr} {ifs : List Expr} {scope : Scope} {own : List (PySem.Str × Nat)} {pos spos : Pos} {gt : Tg} {ckf : Env → List D → T → Bool} {fs : Env → T → R (List D)} {ft : Env → T → R Bool} {fe : Env → T → R D}
theorem snd_comp (hc : X.calm = true) (hN : X.N.Nodup) (hi : PI X tg iter (tI true c en ckf fs)) (ok : BlkOk X.N X.env.scope scope own) (hown : ∀ i ∈ tgS gt, i ∈ own.map (·.2))
    (hg : ∀ (s : Shared) (H : Hp) (C : Addr) (cl : List (PySem.Str × Addr)) (fp : List Addr), PG (X.blk s H scope (compEnvC scope cl C X.env) fp) tg (gD c en gt))
    (ht : ∀ (s : Shared) (H : Hp) (C : Addr) (cl : List (PySem.Str × Addr)) (fp : List Addr), PTs (X.blk s H scope (compEnvC scope cl C X.env) fp) ifs (tT c en ft))
    (he : ∀ (s : Shared) (H : Hp) (C : Addr) (cl : List (PySem.Str × Addr)) (fp : List Addr), PE (X.blk s H scope (compEnvC scope cl C X.env) fp) elt (tE c en false fe)) (hs : ∀ x, foldedSetIterable iter X.env x = pure x) :
    PE X (.ListComp elt [⟨tg, iter, ifs, 0⟩] scope pos) (tE c en true fun ρ t => bnd (fs ρ t) fun xs t => bnd (compL (ckf ρ xs) (turnF gt (own.map (·.2)) ft fe ρ) xs t) fun ds t => .ok (.lst ds) t) :=
  (pe_lc hc hN hi ok hg ht he hs).imp fun σ H Q h => comp_core hown h
end
end Pd
set_option Elab.async false
set_option linter.all false
set_option maxRecDepth 100000
set_option autoImplicit false
/-! Pd: statements. -/
namespace Pd
open PySem PySem.Spec PyProof.Rows L2 TL Bits

/-- what a statement leaves -/
def outK (c : Cn) (en : En) (g : Gh) (H : Hp) (W : Ends) : Out → Prop
  | .nx ρ t => ∀ σ' g' H', Mo g H g' H' → SR c en g' σ' H' ρ t → W.nx σ' H'
  | .brk ρ t => ∀ σ' g' H', Mo g H g' H' → SR c en g' σ' H' ρ t → W.bk σ' H'
  | .cont ρ t => ∀ σ' g' H', Mo g H g' H' → SR c en g' σ' H' ρ t → W.ct σ' H'
  | .ret d t => ∀ v g' H', Step en.g en.H g' H' → StH c g' H' t → Rep c g' H' v d → W.rt v H'
  | .ex _ _ _ => False
  | .no => False
def tS (c : Cn) (en : En) (f : Env → T → Out) : TS := fun W σ H => ∃ ρ t g, SR c en g σ H ρ t ∧ outK c en g H W (f ρ t)
section
variable {c : Cn} {en : En} {g : Gh} {σ : L2.St} {H : Hp} {ρ : Env} {t : T} {W : Ends}
theorem outK.mo {g' : Gh} {H' : Hp} {o : Out} (m : Mo g H g' H') (h : outK c en g H W o) : outK c en g' H' W o := by
  cases o with
  | nx ρ t => exact fun σ1 g1 H1 m1 => h σ1 g1 H1 (m.trans m1)
  | brk ρ t => exact fun σ1 g1 H1 m1 => h σ1 g1 H1 (m.trans m1)
  | cont ρ t => exact fun σ1 g1 H1 m1 => h σ1 g1 H1 (m.trans m1)
  | ret d t => exact h
  | ex _ _ _ => exact h
  | no => exact h
theorem outK.bo {α : Type} {r : R α} {k : α → T → Out} (h : outK c en g H W (bo r k)) : run r fun a t => outK c en g H W (k a t) := by
  cases r <;> exact h
/-- the names that get out are frozen first -/
theorem SR.frz (s : SR c en g σ H ρ t) {o : Out} (is : List Nat) (h : outK c en g H W o) : ∃ g', SR c en g' σ H (frzAll ρ is) t ∧ outK c en g' H W o := by
  obtain ⟨g', m, s'⟩ := s.freeze is
  exact ⟨g', s', h.mo m⟩
theorem outK.nx {g' : Gh} {H' : Hp} {σ' : L2.St} {ρ' : Env} {t' : T} (h : outK c en g H W (.nx ρ' t')) (m : Mo g H g' H') (s : SR c en g' σ' H' ρ' t') : W.nx σ' H' := h σ' g' H' m s
end

/-! ### sequences -/
section
variable {X : Cx} {c : Cn} {en : En} {pos pos' : Pos}
theorem snd_ssnil : PSs X [] (tS c en fun ρ t => .nx ρ t) := pss_nil.imp fun W σ H ⟨ρ, t, g, s, k⟩ => outK.nx k Mo.refl s
theorem snd_sscons {st : Stmt} {sts : List Stmt} {f f2 : Env → T → Out} (h1 : PS X st (tS c en f)) (h2 : PSs X sts (tS c en f2)) : PSs X (st :: sts) (tS c en fun ρ t => thenK (f ρ t) f2) := (pss_cons h1 h2).imp fun W σ H ⟨ρ, t, g, s, k⟩ => by
  refine ⟨ρ, t, g, s, ?_⟩
  have k : outK c en g H W (thenK (f ρ t) f2) := k
  cases ho : f ρ t with
  | nx ρ1 t1 =>
    rw [ho] at k
    exact fun σ' g' H' m s' => ⟨ρ1, t1, g', s', outK.mo m k⟩
  | brk ρ1 t1 => rw [ho] at k; exact k
  | cont ρ1 t1 => rw [ho] at k; exact k
  | ret d t1 => rw [ho] at k; exact k
  | ex _ _ _ => rw [ho] at k; exact k
  | no => rw [ho] at k; exact k
theorem snd_sfg {sts : List Stmt} {f2 : Env → T → Out} (is : List Nat) (h2 : PSs X sts (tS c en f2)) : PSs X sts (tS c en fun ρ t => thenK (.nx (unset ρ is) t) f2) := h2.imp fun W σ H ⟨ρ, t, g, s, k⟩ => ⟨unset ρ is, t, g, s.unset is, k⟩
theorem snd_pass : PS X (.Pass pos) (tS c en fun ρ t => .nx ρ t) := ps_pass.imp fun W σ H ⟨ρ, t, g, s, k⟩ => outK.nx k Mo.refl s
theorem snd_brk : PS X (.Break pos) (tS c en fun ρ t => .brk ρ t) := ps_break.imp fun W σ H ⟨ρ, t, g, s, k⟩ => (show ∀ σ' g' H', Mo g H g' H' → SR c en g' σ' H' ρ t → W.bk σ' H' from k) σ g H Mo.refl s
theorem snd_cont : PS X (.Continue pos) (tS c en fun ρ t => .cont ρ t) := ps_continue.imp fun W σ H ⟨ρ, t, g, s, k⟩ => (show ∀ σ' g' H', Mo g H g' H' → SR c en g' σ' H' ρ t → W.ct σ' H' from k) σ g H Mo.refl s
theorem snd_retn : PS X (.Return none pos) (tS c en fun _ t => .ret .non t) := ps_retN.imp fun W σ H ⟨ρ, t, g, s, k⟩ => (show ∀ v g' H', Step en.g en.H g' H' → StH c g' H' t → Rep c g' H' v .non → W.rt v H' from k) .non g H s.ent s.st rfl
theorem snd_doc {x : PySem.Str} {j : _} : PS X (.Expr (.Constant (.str x) j pos) pos') (tS c en fun ρ t => .nx ρ t) := ps_doc.imp fun W σ H ⟨ρ, t, g, s, k⟩ => outK.nx k Mo.refl s
theorem snd_snever {st : Stmt} : PS X st (tS c en fun _ _ => .no) := ps_never.imp fun W σ H ⟨ρ, t, g, s, k⟩ => k
theorem snd_ret {e : Expr} {fe : Env → T → R D} (is : List Nat) (he : PE X e (tE c en false fe)) : PS X (.Return (some e) pos) (tS c en fun ρ t => bo (fe (frzAll ρ is) t) fun d t => .ret d t) := (ps_ret he).imp fun W σ H ⟨ρ, t, g, s, k⟩ => by
  obtain ⟨g0, s0, k⟩ := s.frz is k
  refine ⟨_, t, g0, s0, k.bo.mono fun d t1 k1 => ?_⟩
  rw [KF.fls]
  exact fun v g1 H1 st1 s1 r1 => (show ∀ v g' H', Step en.g en.H g' H' → StH c g' H' t1 → Rep c g' H' v d → W.rt v H' from k1) v g1 H1 (s0.ent.trans st1) s1 r1
theorem snd_exp {e : Expr} {fe : Env → T → R D} (is : List Nat) (he : PE X e (tE c en false fe)) (hs : swapsWith e none pos.line X.env = pure false) : PS X (.Expr e pos) (tS c en fun ρ t => bo (fe (frzAll ρ is) t) fun _ t => .nx (frzAll ρ is) t) := (ps_expr he hs).imp fun W σ H ⟨ρ, t, g, s, k⟩ => by
  obtain ⟨g0, s0, k⟩ := s.frz is k
  refine ⟨_, t, g0, s0, k.bo.mono fun d t1 k1 => ?_⟩
  rw [KF.fls]
  exact fun v g1 H1 st1 s1 r1 => outK.nx k1 (st1.mo s0.st) (s0.step st1 s1)
theorem snd_if {e : Expr} {a b : List Stmt} {fc : Env → T → R Bool} {fa fb : Env → T → Out} (is : List Nat) (hc : PT X e (tT c en fc)) (ha : PSs X a (tS c en fa)) (hb : PSs X b (tS c en fb)) :
    PS X (.If e a b pos) (tS c en fun ρ t => bo (fc (frzAll ρ is) t) fun k t => if k then fa (frzAll ρ is) t else fb (frzAll ρ is) t) := (ps_if hc ha hb).imp fun W σ H ⟨ρ, t, g, s, k⟩ => by
  obtain ⟨g0, s0, k⟩ := s.frz is k
  refine ⟨_, t, g0, s0, k.bo.mono fun d t1 k1 g1 H1 st1 s1 => ?_⟩
  cases d with
  | true => exact ⟨_, t1, g1, s0.step st1 s1, outK.mo (st1.mo s0.st) k1⟩
  | false => exact ⟨_, t1, g1, s0.step st1 s1, outK.mo (st1.mo s0.st) k1⟩

/-! ### stores -/
theorem asg_core {fr : Bool} {i : Nat} {fe : Env → T → R D} (is : List Nat) {W : Ends} {σ : L2.St} {H : Hp} (h : tS c en (fun ρ t => bo (fe (frzAll ρ is) t) fun d t => asgK fr (.nm i) (frzAll ρ is) d t) W σ H) :
    tE c en fr fe σ H (fun x H1 => W.nx (σ.set i (some x)) H1) := by
  obtain ⟨ρ, t, g, s, k⟩ := h
  obtain ⟨g0, s0, k⟩ := s.frz is k
  refine ⟨_, t, g0, s0, k.bo.mono fun d t1 k1 => ?_⟩
  have hl : i < (frzAll ρ is).length := by
    by_cases hl : i < (frzAll ρ is).length
    · exact hl
    · simp only [asgK, if_neg hl] at k1; exact k1.elim
  simp only [asgK, if_pos hl] at k1
  unfold KF
  split
  · intro p vs g1 H1 st1 s1 hp r l
    have k1 : outK c en g0 H W (.nx (put (frzAll ρ is) i (.own _)) t1) := k1
    have s2 := s0.step st1 s1
    exact outK.nx k1 ((st1.trans (Step.alloc hp)).mo s0.st) (s2.storeOwn hl hp r l)
  · rename_i hn
    intro v g1 H1 st1 s1 r1
    have e : cellOf fr d = .val d := by
      unfold cellOf
      split
      · exact absurd rfl (hn _ rfl)
      · rfl
    rw [e] at k1
    exact outK.nx k1 (st1.mo s0.st) ((s0.step st1 s1).store hl r1)
theorem snd_asg {fr : Bool} {i : Nat} {x : PySem.Str} {e : Expr} {fe : Env → T → R D} (is : List Nat) (hN : X.N.Nodup) (hi : X.N[i]? = some x) (hx : Loc X.env.scope x) (hf : X.fn x = true ∨ X.env.scope.names.lookup x = some .local) (he : PE X e (tE c en fr fe)) (hs : swapsWith e (some (.Name x pos')) pos.line X.env = pure false) :
    PS X (.Assign [.Name x pos'] e pos) (tS c en fun ρ t => bo (fe (frzAll ρ is) t) fun d t => asgK fr (.nm i) (frzAll ρ is) d t) := (ps_set hN hi hx he hs hf).imp fun W σ H h => asg_core is h
theorem snd_asgLc {i : Nat} {y : PySem.Str} {elt tg iter : Expr} {ifs : List Expr} {scope : Scope} {own : List (PySem.Str × Nat)} {p2 : Pos} {gt : Tg} {ckf : Env → List D → T → Bool} {fs : Env → T → R (List D)} {ft : Env → T → R Bool} {fe : Env → T → R D} (is : List Nat) (hc : X.calm = true) (hN : X.N.Nodup) (hy : X.N[i]? = some y) (hyl : X.env.scope.names.lookup y = some .local)
    (hsw : swapsWith (.ListComp elt [⟨tg, iter, ifs, 0⟩] scope p2) (some (.Name y pos')) pos.line X.env = pure true) (hi : PI X tg iter (tI true c en ckf fs)) (ok : BlkOk X.N X.env.scope scope own) (hown : ∀ i ∈ tgS gt, i ∈ own.map (·.2))
    (hg : ∀ (s : Shared) (H : Hp) (C : Addr) (cl : List (PySem.Str × Addr)) (fp : List Addr), PG (X.blk s H scope (compEnvC scope cl C X.env) fp) tg (gD c en gt))
    (ht : ∀ (s : Shared) (H : Hp) (C : Addr) (cl : List (PySem.Str × Addr)) (fp : List Addr), PTs (X.blk s H scope (compEnvC scope cl C X.env) fp) ifs (tT c en ft))
    (he : ∀ (s : Shared) (H : Hp) (C : Addr) (cl : List (PySem.Str × Addr)) (fp : List Addr), PE (X.blk s H scope (compEnvC scope cl C X.env) fp) elt (tE c en false fe)) (hs : ∀ x, foldedSetIterable iter X.env x = pure x) :
    PS X (.Assign [.Name y pos'] (.ListComp elt [⟨tg, iter, ifs, 0⟩] scope p2) pos) (tS c en fun ρ t => bo ((fun ρ t => bnd (fs ρ t) fun xs t => bnd (compL (ckf ρ xs) (turnF gt (own.map (·.2)) ft fe ρ) xs t) fun ds t => .ok (.lst ds) t) (frzAll ρ is) t) fun d t => asgK true (.nm i) (frzAll ρ is) d t) :=
  (ps_setLc hc hN hy hyl hsw hi ok hg ht he hs).imp fun W σ H h => comp_core hown (asg_core is h)
theorem snd_asgT {tg e : Expr} {fr : Bool} {gs : Tgs} {fe : Env → T → R D} (is : List Nat) (he : PE X e (tE c en false fe)) (hg : PG X tg (gD c en (.tp gs))) (hs : swapsWithSole [tg] e pos.line X.env = pure false) (hw : swappedStores [tg] e X.env = pure none)
    (h1 : (assignEach [tg] X.env).map (·.2) = [assign tg X.env]) : PS X (.Assign [tg] e pos) (tS c en fun ρ t => bo (fe (frzAll ρ is) t) fun d t => asgK fr (.tp gs) (frzAll ρ is) d t) := (ps_asg he hg hs hw h1).imp fun W σ H ⟨ρ, t, g, s, k⟩ => by
  obtain ⟨g0, s0, k⟩ := s.frz is k
  refine ⟨_, t, g0, s0, k.bo.mono fun d t1 k1 => ?_⟩
  rw [KF.fls]
  intro v g1 H1 st1 s1 r1
  cases ha : asgT (.tp gs) d (frzAll ρ is) with
  | none => simp only [asgK, ha] at k1; exact k1.elim
  | some ρ' =>
    simp only [asgK, ha] at k1
    exact ⟨_, t1, g1, d, ρ', s0.step st1 s1, r1, ha, fun σ' s' _ _ => outK.nx k1 (st1.mo s0.st) s'⟩

/-! ### own lists are changed -/
theorem SR.own {g : Gh} {σ : L2.St} {H : Hp} {ρ : Env} {t : T} {i : Nat} {ds : List D} (s : SR c en g σ H ρ t) (h : look ρ i = .own ds) : ∃ a vs, σ[i]? = some (some (.ref a)) ∧ H a = some (.lst vs) ∧ Reps c g H vs ds ∧ ds.length ≤ sz ∧ a ∉ g.ob ∧
    ∀ ws es, Reps c g H ws es → es.length ≤ sz → Mo g H g (upd H a (.lst ws)) ∧ SR c en g σ (upd H a (.lst ws)) (put ρ i (.own es)) t := by
  have q := s.cell i
  rw [h] at q
  obtain ⟨a, vs, h1, h2, h3, h4, h5, h6, h7⟩ := q
  refine ⟨a, vs, h1, h2, h3, h4, h6, fun ws es r l => ⟨⟨fun b hb => ⟨hb, upd_ne fun z => h5 (z ▸ hb)⟩, List.prefix_refl _⟩, s.change h h1 h2 r l⟩⟩
/-- a method that changes a list -/
def MuR (m : Mu) (r : V → List V → Hp → VK → Prop) : Prop := ∀ (c : Cn) (g : Gh) (H : Hp) (a : Addr) (vs us : List V) (ds es xs : List D) (Q : VK), H a = some (.lst vs) → Reps c g H vs ds → ds.length ≤ sz → Reps c g H us xs → muD m ds xs = some es →
  (∀ y ws, Reps c g H ws es → es.length ≤ sz → Q y (upd H a (.lst ws))) → r (.ref a) us H Q
theorem mu_append : MuR .append rAppend := by
  intro c g H a vs us ds es xs Q ha r l ru e k
  cases xs with
  | nil => simp [muD] at e
  | cons x xs =>
    cases xs with
    | cons _ _ => simp [muD] at e
    | nil =>
      obtain ⟨u, _, rfl, r1, r2⟩ := ru
      cases r2
      by_cases hl : ds.length < sz
      · simp only [muD, if_pos hl] at e; cases e
        exact ⟨a, vs, u, rfl, rfl, ha, by rw [szL, Reps.length r]; exact hl, k _ _ (Reps.append r ⟨u, [], rfl, r1, rfl⟩) (by rw [List.length_append]; exact hl)⟩
      · simp only [muD, if_neg hl] at e; cases e
theorem mu_pop : MuR .pop rPop := by
  intro c g H a vs us ds es xs Q ha r l ru e k
  cases xs with
  | cons _ _ => simp [muD] at e
  | nil =>
    cases ru
    by_cases hl : ds.length = 0
    · simp only [muD, if_pos hl] at e; cases e
    · simp only [muD, if_neg hl] at e; cases e
      have l2 := Reps.length r
      have hv : vs.length - 1 < vs.length := by omega
      refine ⟨a, vs, vs[vs.length - 1], rfl, rfl, ha, List.getElem?_eq_getElem hv, k _ _ ?_ (by rw [List.length_dropLast]; omega)⟩
      rw [List.dropLast_eq_take, List.dropLast_eq_take, l2]
      exact Reps.take _ r
theorem mu_popAt : MuR .popAt rPopAt := by
  intro c g H a vs us ds es xs Q ha r l ru e k
  cases xs with
  | nil => simp [muD] at e
  | cons x xs =>
    cases xs with
    | cons _ _ => cases x <;> simp [muD] at e
    | nil =>
      cases x with
      | int i =>
        obtain ⟨u, _, rfl, r1, r2⟩ := ru
        cases r2; cases r1
        obtain ⟨j, hj, rfl⟩ := Option.map_eq_some_iff.mp (show (Pd.ixN ds.length i).map (fun k => ds.eraseIdx k) = some es from e)
        obtain ⟨h1, h2, h3, h4⟩ := L2.ixN_seq (show L2.ixN ds.length i = some j from hj)
        have l2 := Reps.length r
        have hv : j < vs.length := by omega
        have hsz : ds.length ≤ 16777216 := l
        refine ⟨a, vs, i, j, vs[j], rfl, rfl, ha, by omega, by omega, by rw [l2]; exact h1, List.getElem?_eq_getElem hv, k _ _ (Reps.eraseIdx j r) ?_⟩
        have := List.length_eraseIdx_le ds j
        omega
      | _ => simp [muD] at e
theorem Reps.reverse {c : Cn} {g : Gh} {H : Hp} : ∀ {ds : List D} {vs : List V}, Reps c g H vs ds → Reps c g H vs.reverse ds.reverse
  | [], _, h => by cases h; rfl
  | d :: ds, vs, h => by
    obtain ⟨v, r, rfl, h1, h2⟩ := h
    rw [List.reverse_cons, List.reverse_cons]
    exact Reps.append (Reps.reverse h2) ⟨v, [], rfl, h1, rfl⟩
theorem mu_reverse : MuR .reverse rReverse := by
  intro c g H a vs us ds es xs Q ha r l ru e k
  cases xs with
  | cons _ _ => simp [muD] at e
  | nil =>
    cases ru
    simp only [muD] at e; cases e
    exact ⟨a, vs, rfl, rfl, ha, k _ _ (Reps.reverse r) (by rw [List.length_reverse]; exact l)⟩
theorem mu_extend : MuR .extend rExtend := by
  intro c g H a vs us ds es xs Q ha r l ru e k
  cases xs with
  | nil => simp [muD] at e
  | cons x xs =>
    cases xs with
    | cons _ _ => cases x <;> simp [muD] at e
    | nil =>
      cases x with
      | lst zs =>
        obtain ⟨u, _, rfl, r1, r2⟩ := ru
        cases r2
        obtain ⟨b, ws, rfl, _, hb, r3, l3⟩ := r1
        by_cases hl : ds.length + zs.length ≤ sz
        · simp only [muD, if_pos hl] at e; cases e
          exact ⟨a, b, vs, ws, rfl, rfl, ha, hb, by rw [szL, Reps.length r, Reps.length r3]; exact hl, k _ _ (Reps.append r r3) (by rw [List.length_append]; exact hl)⟩
        · simp only [muD, if_neg hl] at e; cases e
      | _ => simp [muD] at e
def rInsert : V → List V → Hp → VK → Prop := fun x vs H Q => ∃ (l : Addr) (xs : List V) (i : Int) (y : V), x = .ref l ∧ vs = [.int i, y] ∧ H l = some (.lst xs) ∧ xs.length < sizeLine ∧ 0 ≤ i ∧ i < 2 ^ 63 ∧
    Q .non (upd H l (.lst (xs.take i.toNat ++ [y] ++ xs.drop i.toNat)))
theorem mu_insert : MuR .insert rInsert := by
  intro c g H a vs us ds es xs Q ha r l ru e k
  cases xs with
  | nil => simp [muD] at e
  | cons x xs =>
    cases xs with
    | nil => cases x <;> simp [muD] at e
    | cons y xs =>
      cases xs with
      | cons _ _ => cases x <;> simp [muD] at e
      | nil =>
        cases x with
        | int i =>
          obtain ⟨u, _, rfl, r1, w, _, rfl, r2, r3⟩ := ru
          cases r3; cases r1
          by_cases hl : ds.length < sz ∧ 0 ≤ i ∧ i ≤ ds.length
          · simp only [muD, if_pos hl] at e; cases e
            have hsz : ds.length ≤ 16777216 := l
            refine ⟨a, vs, i, w, rfl, rfl, ha, by rw [szL, Reps.length r]; exact hl.1, hl.2.1, by omega, k _ _ ?_ ?_⟩
            · rw [List.append_assoc]
              exact Reps.append (Reps.take _ r) ⟨w, vs.drop i.toNat, rfl, r2, Reps.drop _ r⟩
            · rw [List.length_append, List.length_cons, List.length_take, List.length_drop]; omega
          · simp only [muD, if_neg hl] at e; cases e
        | _ => simp [muD] at e
end
end Pd
set_option Elab.async false
set_option linter.all false
set_option maxRecDepth 100000
set_option autoImplicit false
/-! Pd: statements: items, fields, methods that change a list, loops. -/
namespace Pd
open PySem PySem.Spec PyProof.Rows L2 TL Bits

section
variable {X : Cx} {c : Cn} {en : En} {pos pos' apos cpos npos : Pos}
/-- an object's list is changed -/
theorem SR.setOb {g : Gh} {σ : L2.St} {H : Hp} {ρ : Env} {t : T} {n : Nat} {a : Addr} {o o' : Ob} {u : HO} (s : SR c en g σ H ρ t) (ha : g.ob[n]? = some a) (ho : t[n]? = some o) (h : ObR c g (upd H a u) a o') :
    Mo g H g (upd H a u) ∧ SR c en g σ (upd H a u) ρ (t.set n o') := by
  have hm : a ∈ g.ob := List.mem_of_getElem? ha
  have nf : ∀ b, g.fz b → b ≠ a := fun b hb z => s.st.nf a hm (z ▸ hb)
  have m : Mo g H g (upd H a u) := ⟨fun b hb => ⟨hb, upd_ne (nf b hb)⟩, List.prefix_refl _⟩
  have cellK : ∀ i, CellR c en g (upd H a u) σ[i]? (look ρ i) := fun i => by
    have q := s.cell i
    cases hl : look ρ i with
    | un => trivial
    | val d => rw [hl] at q; obtain ⟨v, h1, h2⟩ := q; exact ⟨v, h1, Rep.mono m d v h2⟩
    | own ds =>
      rw [hl] at q
      obtain ⟨b, vs, h1, h2, h3, h4, h5, h6, h7⟩ := q
      exact ⟨b, vs, h1, (upd_ne fun z => h6 (by rw [z]; exact hm)).trans h2, Reps.mono m ds vs h3, h4, h5, h6, h7⟩
    | loan ds =>
      rw [hl] at q
      obtain ⟨b, vs, h1, h2, h3, h4, h5, h6, h7⟩ := q
      exact ⟨b, vs, h1, (upd_ne fun z => h6 (by rw [z]; exact hm)).trans h2, Reps.mono m ds vs h3, h4, h5, h6, h7⟩
  refine ⟨m, ⟨⟨by rw [List.length_set]; exact s.st.len, s.st.nd, s.st.nf, fun b hb => by rw [upd_ne (nf b hb)]; exact s.st.tr b hb, fun i b ob h1 h2 => ?_⟩, ⟨s.ent.pre, s.ent.fzm, s.ent.fzn, s.ent.obn, fun b ob h1 h2 => ?_, fun b hb => ?_⟩, s.len, cellK, s.dis⟩⟩
  · by_cases hi : i = n
    · subst hi
      rw [ha] at h1; cases h1
      rw [List.getElem?_set_self (List.getElem?_eq_some_iff.mp ho).1] at h2
      cases h2
      exact h
    · rw [List.getElem?_set_ne (Ne.symm hi)] at h2
      have hb : b ≠ a := fun z => by
        subst z
        have q1 := (List.getElem?_eq_some_iff.mp h1)
        have q2 := (List.getElem?_eq_some_iff.mp ha)
        exact hi ((List.getElem_inj s.st.nd).mp (q1.2.trans q2.2.symm))
      exact (s.st.obs i b ob h1 h2).mono m (upd_ne hb)
  · have hb : b ≠ a := fun z => by
      subst z
      rcases s.ent.obn b hm with q | q
      · exact h2 q
      · rw [q] at h1; cases h1
    rw [upd_ne hb]; exact s.ent.keep b ob h1 h2
  · by_cases hba : b = a
    · subst hba; rw [upd_same]; simp
    · rw [upd_ne hba]; exact s.ent.tr b hb
/-! ### methods -/
theorem mut_core {m : Mu} {i : Nat} {r : V → List V → Hp → VK → Prop} {fs : Env → T → R (List D)} (is : List Nat) (hr : MuR m r) {W : Ends} {σ : L2.St} {H : Hp} (h : tS c en (fun ρ t => if mutOk (look (frzAll ρ is) i) t then bo (fs (frzAll ρ is) t) fun xs t => mutK (frzAll ρ is) t m i xs else .no) W σ H) :
    ∃ a : Addr, σ[i]? = some (some (.ref a)) ∧ (∃ vs, H a = some (.lst vs)) ∧ tAs c en fs σ H fun us H2 => r (.ref a) us H2 fun _ H1 => W.nx σ H1 := by
  obtain ⟨ρ, t, g, s, k⟩ := h
  obtain ⟨g0, s0, k⟩ := s.frz is k
  have k : outK c en g0 H W (if mutOk (look (frzAll ρ is) i) t then bo (fs (frzAll ρ is) t) fun xs t => mutK (frzAll ρ is) t m i xs else .no) := k
  have hmu : mutOk (look (frzAll ρ is) i) t = true := by
    cases hz : mutOk (look (frzAll ρ is) i) t with
    | true => rfl
    | false => rw [hz] at k; exact k.elim
  rw [if_pos hmu] at k
  have k := k.bo
  obtain ⟨xs, t1, e1, k1⟩ := run_ok k
  cases hl : look (frzAll ρ is) i with
  | own ds =>
    obtain ⟨a, vs, h1, h2, _⟩ := s0.own hl
    refine ⟨a, h1, ⟨vs, h2⟩, _, t, g0, s0, ?_⟩
    rw [e1]
    intro us g1 H1 st1 s1 ru
    have s2 := s0.step st1 s1
    obtain ⟨a', vs', h1', h2', r', l', no, ch⟩ := s2.own hl
    rw [h1] at h1'; cases h1'
    simp only [mutK, hl] at k1
    cases hm : muD m ds xs with
    | none => rw [hm] at k1; exact k1.elim
    | some es =>
      rw [hm] at k1
      refine hr c g1 H1 a vs' us ds es xs _ h2' r' l' ru hm fun y ws rw' lw => ?_
      obtain ⟨m1, s3⟩ := ch ws es rw' lw
      exact outK.nx k1 ((st1.mo s0.st).trans m1) s3
  | un => simp only [mutK, hl] at k1; exact k1.elim
  | val d =>
    cases d with
    | obj n =>
      simp only [mutK, hl] at k1
      cases ht : t1[n]? with
      | none => rw [ht] at k1; exact k1.elim
      | some ob =>
        cases ob with
        | lst ds =>
          simp only [ht] at k1
          have k1 : outK c en g0 H W (match muD m ds xs with
            | some ds => .nx (frzAll ρ is) (t1.set n (.lst ds))
            | none => .no) := by
            cases m <;> first | exact k1 | exact k1.elim
          cases hm : muD m ds xs with
          | none => rw [hm] at k1; exact k1.elim
          | some es =>
            rw [hm] at k1
            have q := s0.cell i
            rw [hl] at q
            obtain ⟨v, h1, a, rfl, ha⟩ := q
            have hlst : ∃ vs, H a = some (.lst vs) := by
              rw [hl] at hmu
              cases ht0 : t[n]? with
              | none => simp [mutOk, ht0] at hmu
              | some ob0 =>
                cases ob0 with
                | lst ds0 => obtain ⟨vs0, q0, _⟩ := s0.st.obs n a _ ha ht0; exact ⟨vs0, q0⟩
                | _ => simp [mutOk, ht0] at hmu
            refine ⟨a, h1, hlst, _, t, g0, s0, ?_⟩
            rw [e1]
            intro us g1 H1 st1 s1 ru
            have s2 := s0.step st1 s1
            have ha1 := pre_get st1.pre ha
            obtain ⟨vs', q', r', l'⟩ := s1.obs n a _ ha1 ht
            refine hr c g1 H1 a vs' us ds es xs _ q' r' l' ru hm fun y ws rw' lw => ?_
            obtain ⟨m1, s3⟩ := s2.setOb (u := .lst ws) (o' := .lst es) ha1 ht ⟨ws, upd_same, Reps.mono (mo_ob s1 ha1) _ _ rw', lw⟩
            exact outK.nx k1 ((st1.mo s0.st).trans m1) s3
        | _ => simp only [ht] at k1; exact k1.elim
    | _ => simp only [mutK, hl] at k1; exact k1.elim
  | loan _ => simp only [mutK, hl] at k1; exact k1.elim
theorem snd_mut {m : Mu} {i : Nat} {x name : PySem.Str} {id : String} {r : V → List V → Hp → VK → Prop} {e : Expr} {es : List Expr} {fs : Env → T → R (List D)} (is : List Nat) (hr : MuR m r) (slot : Slot "list" name id) (hty : typeOf (.builtin id) = pure (.type "method_descriptor")) (hm : MtR X id r)
    (hN : X.N[i]? = some x) (hv : Vis X.env.scope x) (hd : (x == ("__debug__" : PySem.Str)) = false) (hcd : (x == ("__classdict__" : PySem.Str)) = false) (ha : PA X (e :: es) (tAs c en fs))
    (hbase : attributeBase (.Name x npos) name X.env (eval (.Name x npos) X.env) = eval (.Name x npos) X.env)
    (hfew : ((backTo cpos (starEach (e :: es) X.env)).all (fun x => !x.1) && (backToKw cpos (keywordEach [] X.env)).all (fun x => x.1.isSome)
      && decide ((e :: es).length + ([] : List Keyword).length + (if ([] : List Keyword).isEmpty then 0 else 1) < 30)) = true)
    (hline : (apos.endLine == cpos.line) = true) (hs : starEach (e :: es) X.env = (false, eval e X.env) :: starEach es X.env) (hplain : (backTo cpos (starEach es X.env)).any (·.1) = false) (hsw : swapsWith (.Call (.Attribute (.Name x npos) name apos) (e :: es) [] cpos) none pos.line X.env = pure false) :
    PS X (.Expr (.Call (.Attribute (.Name x npos) name apos) (e :: es) [] cpos) pos) (tS c en fun ρ t => if mutOk (look (frzAll ρ is) i) t then bo (fs (frzAll ρ is) t) fun xs t => mutK (frzAll ρ is) t m i xs else .no) :=
  (ps_expr (pe_bm PySem.F.plainAttrs_list slot hty hm (pe_var hN hv hd hcd) ha hbase hfew hline hs hplain) hsw).imp fun W σ H h => by
  obtain ⟨a, h1, ⟨vs, h2⟩, q⟩ := mut_core is hr h
  exact ⟨.ref a, h1, .inl ⟨rfl, vs, SqL.of h2⟩, q⟩
theorem snd_mut0 {m : Mu} {i : Nat} {x name : PySem.Str} {id : String} {r : V → List V → Hp → VK → Prop} (is : List Nat) (hr : MuR m r) (slot : Slot "list" name id) (hty : typeOf (.builtin id) = pure (.type "method_descriptor")) (hm : MtR X id r)
    (hN : X.N[i]? = some x) (hv : Vis X.env.scope x) (hd : (x == ("__debug__" : PySem.Str)) = false) (hcd : (x == ("__classdict__" : PySem.Str)) = false)
    (hbase : attributeBase (.Name x npos) name X.env (eval (.Name x npos) X.env) = eval (.Name x npos) X.env)
    (hline : (apos.endLine == cpos.line) = true) (hsw : swapsWith (.Call (.Attribute (.Name x npos) name apos) [] [] cpos) none pos.line X.env = pure false) :
    PS X (.Expr (.Call (.Attribute (.Name x npos) name apos) [] [] cpos) pos) (tS c en fun ρ t => if mutOk (look (frzAll ρ is) i) t then bo (.ok [] t) fun xs t => mutK (frzAll ρ is) t m i xs else .no) :=
  (ps_expr (pe_bm0 PySem.F.plainAttrs_list slot hty hm (pe_var hN hv hd hcd) hbase hline) hsw).imp fun W σ H h => by
  obtain ⟨a, h1, ⟨vs, h2⟩, q⟩ := mut_core (fs := fun _ t => .ok [] t) is hr h
  refine ⟨.ref a, h1, .inl ⟨rfl, vs, SqL.of h2⟩, ?_⟩
  obtain ⟨ρ, t, g, s, k⟩ := q
  exact (show KA c g H t [] _ from k) [] g H Step.refl s.st rfl
theorem takes_never : Takes X (fun _ _ _ _ => False) := fun u s' ⟨a, B, sI, pins, σ, H, cls, d, e, I, nb, up, sky, na, os, ag, w⟩ => w.elim
theorem intsOf_len : ∀ {ds : List D} {ns : List Int}, intsOf ds = some ns → ds.length = ns.length
  | [], ns, e => by cases e; rfl
  | d :: ds, ns, e => by
    cases d with
    | int i =>
      obtain ⟨ms, e1, rfl⟩ := Option.map_eq_some_iff.mp (show (Pd.intsOf ds).map (i :: ·) = some ns from e)
      rw [List.length_cons, List.length_cons, intsOf_len e1]
    | _ => cases e
theorem snd_remove {i : Nat} {x : PySem.Str} {e : Expr} {fe : Env → T → R D} (is : List Nat) (hc : X.calm = true)
    (hN : X.N[i]? = some x) (hv : Vis X.env.scope x) (hd : (x == ("__debug__" : PySem.Str)) = false) (hcd : (x == ("__classdict__" : PySem.Str)) = false) (ha : PE X e (tE c en false fe))
    (hbase : attributeBase (.Name x npos) "remove" X.env (eval (.Name x npos) X.env) = eval (.Name x npos) X.env)
    (hfew : ((backTo cpos (starEach [e] X.env)).all (fun x => !x.1) && (backToKw cpos (keywordEach [] X.env)).all (fun x => x.1.isSome)
      && decide (([e] : List Expr).length + ([] : List Keyword).length + (if ([] : List Keyword).isEmpty then 0 else 1) < 30)) = true)
    (hline : (apos.endLine == cpos.line) = true) (hs : starEach [e] X.env = (false, eval e X.env) :: starEach [] X.env) (hplain : (backTo cpos (starEach [] X.env)).any (·.1) = false) (hsw : swapsWith (.Call (.Attribute (.Name x npos) "remove" apos) [e] [] cpos) none pos.line X.env = pure false) :
    PS X (.Expr (.Call (.Attribute (.Name x npos) "remove" apos) [e] [] cpos) pos) (tS c en fun ρ t => if mutOk (look (frzAll ρ is) i) t then bo (bnd (fe (frzAll ρ is) t) fun d t => .ok [d] t) fun xs t => mutK (frzAll ρ is) t .remove i xs else .no) :=
  (ps_expr (pe_remX hc takes_never (pe_var hN hv hd hcd) ha hbase hfew hline hs hplain) hsw).imp fun W σ H ⟨ρ, t, g, s, k⟩ => by
  obtain ⟨g0, s0, k⟩ := s.frz is k
  have k : outK c en g0 H W (if mutOk (look (frzAll ρ is) i) t then bo (bnd (fe (frzAll ρ is) t) fun d t => .ok [d] t) fun xs t => mutK (frzAll ρ is) t .remove i xs else .no) := k
  have hmu : mutOk (look (frzAll ρ is) i) t = true := by
    cases hz : mutOk (look (frzAll ρ is) i) t with
    | true => rfl
    | false => rw [hz] at k; exact k.elim
  rw [if_pos hmu] at k
  obtain ⟨y, t1, e1, k1⟩ := run_ok (run_bnd k.bo)
  have k1 : outK c en g0 H W (mutK (frzAll ρ is) t1 .remove i [y]) := k1
  cases hl : look (frzAll ρ is) i with
  | own ds =>
    obtain ⟨a, vs, h1, h2, _⟩ := s0.own hl
    refine ⟨.ref a, h1, .inl ⟨rfl, vs, SqL.of h2⟩, _, t, g0, s0, ?_⟩
    rw [e1]
    show KF false c g0 H t1 y _
    rw [KF.fls]
    intro v g1 H1 st1 s1 rv
    have s2 := s0.step st1 s1
    obtain ⟨a', vs', h1', h2', r', l', no, ch⟩ := s2.own hl
    rw [h1] at h1'; cases h1'
    simp only [mutK, hl] at k1
    cases y with
    | int n =>
      simp only [muD] at k1
      cases hi : intsOf ds with
      | none => simp only [hi, Option.bind_none] at k1; exact k1.elim
      | some ns =>
        simp only [hi, Option.bind_some] at k1
        have ev := Reps.intsOf r' hi
        by_cases hn : n ∈ ns
        · simp only [if_pos hn] at k1
          refine ⟨a, ns, n, rfl, rv, by rw [h2', ev], fun _ => ?_, fun z => absurd hn z⟩
          obtain ⟨m1, s3⟩ := ch ((ns.erase n).map V.int) ((ns.erase n).map D.int) (Reps.ints _) (by
            rw [List.length_map]
            have h1 := List.length_erase_le (a := n) (l := ns)
            have h2 := intsOf_len hi
            omega)
          exact outK.nx k1 ((st1.mo s0.st).trans m1) s3
        · simp only [if_neg hn] at k1; exact k1.elim
    | _ => simp only [muD] at k1; exact k1.elim
  | un => simp only [mutK, hl] at k1; exact k1.elim
  | val d =>
    cases d with
    | obj n =>
      simp only [mutK, hl] at k1
      cases ht : t1[n]? with
      | none => rw [ht] at k1; exact k1.elim
      | some ob => cases ob <;> (simp only [ht] at k1; exact k1.elim)
    | _ => simp only [mutK, hl] at k1; exact k1.elim
  | loan _ => simp only [mutK, hl] at k1; exact k1.elim

/-! ### op= -/
theorem snd_aug {i : Nat} {x : PySem.Str} {e : Expr} {o : Bo} {fe : Env → T → R D} (is : List Nat) (hN : X.N.Nodup) (hi : X.N[i]? = some x) (hx : Loc X.env.scope x) (hf : X.fn x = true ∨ X.env.scope.names.lookup x = some .local) (he : PE X e (tE c en false fe)) (ho : o = .add ∨ o = .sub) :
    PS X (.AugAssign (.Name x pos') (bop o) e pos) (tS c en fun ρ t => match look (frzAll ρ is) i with
    | .val (.int x) => bo (fe (frzAll ρ is) t) fun y t => augK (frzAll ρ is) t i o x y
    | _ => .no) := by
  have hp : PIp X (bop o) (ipI fun a b => if o = .add then a + b else a - b) := by
    rcases ho with rfl | rfl
    · exact ip_add
    · exact ip_sub
  refine (ps_aug hN hi hx he hp hf).imp fun W σ H ⟨ρ, t, g, s, k⟩ => ?_
  obtain ⟨g0, s0, k⟩ := s.frz is k
  have k : outK c en g0 H W (match look (frzAll ρ is) i with
    | .val (.int x) => bo (fe (frzAll ρ is) t) fun y t => augK (frzAll ρ is) t i o x y
    | _ => .no) := k
  cases hl : look (frzAll ρ is) i with
  | val d =>
    cases d with
    | int n =>
      simp only [hl] at k
      have q := s0.cell i
      rw [hl] at q
      obtain ⟨v, h1, h2⟩ := q
      cases h2
      refine ⟨.int n, h1, _, t, g0, s0, k.bo.mono fun y t1 k1 => ?_⟩
      rw [KF.fls]
      intro v g1 H1 st1 s1 rv
      have hil : i < (frzAll ρ is).length := by
        by_cases h : i < (frzAll ρ is).length
        · exact h
        · rw [look_out _ i (by omega)] at hl; cases hl
      cases y with
      | int m =>
        cases rv
        refine ⟨n, m, rfl, rfl, ?_⟩
        have s2 := s0.step st1 s1
        rcases ho with rfl | rfl
        · exact outK.nx k1 (st1.mo s0.st) (s2.store hil rfl)
        · exact outK.nx k1 (st1.mo s0.st) (s2.store hil rfl)
      | _ => exact k1.elim
    | _ => simp only [hl] at k; exact k.elim
  | un => simp only [hl] at k; exact k.elim
  | own _ => simp only [hl] at k; exact k.elim
  | loan _ => simp only [hl] at k; exact k.elim

/-! ### o[i] = e -/
/-- o[i] = v by a dict of the table -/
def rSetDc (c : Cn) : TSet := fun o i v H Q => ∃ (g : Gh) (t : T) (n : Nat) (a : Addr) (kb : Bool) (kvs : List (D × D)) (dk dz : D), o = .ref a ∧ StH c g H t ∧ g.ob[n]? = some a ∧ t[n]? = some (.dct kb kvs) ∧ Rep c g H i dk ∧ keyB kb dk = true ∧ kvs.length < sz ∧ Rep c g H v dz ∧ ∀ u, ObR c g (upd H a u) a (.dct kb (dput dk dz kvs)) → Q (upd H a u)
/-- o[i] = v by a dict or a list -/
def rSetA (c : Cn) : TSet := fun o i v H Q => rSetL o i v H Q ∨ rSetDc c o i v H Q
theorem set_any (hP : c.prog = X.prog) (hW : c.w = X.w) (hu : X.A.units + 64 < cLine) : PSet X (rSetA c) := by
  intro pins s σ H o i v ov iv u Q I ro ri rv h
  rcases h with h | ⟨g, t, n, a, kb, kvs, dk, dz, rfl, hs, ha, ht, hy, hk, hz, hv, q⟩
  · exact set_list pins s σ H o i v ov iv u Q I ro ri rv h
  · cases ro
    exact dct_set hP hW hu I hs ha ht hy ri hk hz rv hv q
theorem setX_core {g : Gh} {σ : L2.St} {H : Hp} {ρ : Env} {t : T} {x j d : D} {o i v : V} {W : Ends} (s : SR c en g σ H ρ t) (ro : RepP c g H o x) (ri : RepP c g H i j) (rv : Rep c g H v d) (k : outK c en g H W (setX ρ t x j d)) : rSetA c o i v H fun H3 => W.nx σ H3 := by
  cases x with
  | obj n =>
    simp only [setX] at k
    cases hs : setOb t n j d with
    | none => rw [hs] at k; exact k.elim
    | some t' =>
      rw [hs] at k
      simp only [Pd.setOb] at hs
      cases ht : t[n]? with
      | none => rw [ht] at hs; cases hs
      | some ob =>
        rw [ht] at hs
        cases ob with
        | lst xs =>
          obtain ⟨a, rfl, hb⟩ := (show Rep c g H o (.obj n) from ro)
          cases j with
          | int m =>
            obtain ⟨l, hl, rfl⟩ := Option.map_eq_some_iff.mp (show (Pd.ixN xs.length m).map (fun j => t.set n (.lst (xs.set j d))) = some t' from hs)
            cases ri
            obtain ⟨vs, h1, h2, h3⟩ := s.st.obs n a _ hb ht
            refine .inl ⟨a, vs, m, l, rfl, rfl, h1, by rw [Reps.length h2]; exact hl, ?_⟩
            have r' : Reps c g H (vs.set l v) (xs.set l d) := Reps.set l h2 rv
            have hm : a ∈ g.ob := List.mem_of_getElem? hb
            have mo : Mo g H g (upd H a (.lst (vs.set l v))) := ⟨fun b hb' => ⟨hb', upd_ne fun z => s.st.nf a hm (z ▸ hb')⟩, List.prefix_refl _⟩
            obtain ⟨m1, s1⟩ := s.setOb (u := .lst (vs.set l v)) (o' := .lst (xs.set l d)) hb ht ⟨_, upd_same, Reps.mono mo _ _ r', by rw [List.length_set]; exact h3⟩
            exact outK.nx k m1 s1
          | _ => cases hs
        | dct kb kvs =>
          obtain ⟨a, rfl, hb⟩ := (show Rep c g H o (.obj n) from ro)
          have hs : (if keyB kb j && decide (kvs.length < sz) then some (t.set n (.dct kb (dput j d kvs))) else none) = some t' := hs
          by_cases hc : (keyB kb j && decide (kvs.length < sz)) = true
          · rw [if_pos hc] at hs; cases hs
            simp only [Bool.and_eq_true, decide_eq_true_eq] at hc
            refine .inr ⟨g, t, n, a, kb, kvs, j, d, rfl, s.st, hb, ht, keyB_rep hc.1 ri, hc.1, hc.2, rv, fun u hu => ?_⟩
            obtain ⟨m1, s1⟩ := s.setOb hb ht hu
            exact outK.nx k m1 s1
          · rw [if_neg hc] at hs; cases hs
        | _ => cases hs
  | _ => exact k.elim
theorem setO_core {g : Gh} {σ : L2.St} {H : Hp} {ρ : Env} {t : T} {kk : Nat} {ds : List D} {j d : D} {i v : V} {a : Addr} {W : Ends} (s : SR c en g σ H ρ t) (hl : look ρ kk = .own ds) (ha : σ[kk]? = some (some (.ref a))) (ri : RepP c g H i j) (rv : Rep c g H v d) (k : outK c en g H W (setO ρ t kk ds j d)) : rSetA c (.ref a) i v H fun H3 => W.nx σ H3 := by
  cases j with
  | int m =>
    simp only [setO] at k
    cases hi : Pd.ixN ds.length m with
    | none => rw [hi] at k; exact k.elim
    | some l =>
      rw [hi] at k
      cases ri
      obtain ⟨a', vs, h1, h2, h3, h4, h5, ch⟩ := s.own hl
      rw [ha] at h1; cases h1
      obtain ⟨m1, s1⟩ := ch (vs.set l v) (ds.set l d) (Reps.set l h3 rv) (by rw [List.length_set]; exact h4)
      exact .inl ⟨a, vs, m, l, rfl, rfl, h2, by rw [Reps.length h3]; exact hi, outK.nx k m1 s1⟩
  | _ => exact k.elim
/-- x[i] = e, x a name -/
theorem snd_setIv (hP : c.prog = X.prog) (hW : c.w = X.w) (hu : X.A.units + 64 < cLine) {kk : Nat} {x : PySem.Str} {i e : Expr} {fi fe : Env → T → R D} (is : List Nat) (hN : X.N[kk]? = some x) (hv : Vis X.env.scope x) (hd : (x == ("__debug__" : PySem.Str)) = false) (hcd : (x == ("__classdict__" : PySem.Str)) = false) (hi : PE X i (tO c en fi)) (he : PE X e (tE c en false fe))
    (hasg : ∀ v, assign (.Subscript (.Name x npos) i pos') X.env v = (do
      let ov ← holding [v] (eval (.Name x npos) X.env)
      let iv ← holding [v, ov] (eval i X.env)
      standAt pos'
      holding [v, ov, iv] (setItem ov iv v)
      release [v, ov, iv] []))
    (hs : swapsWithSole [.Subscript (.Name x npos) i pos'] e pos.line X.env = pure false) (hw : swappedStores [.Subscript (.Name x npos) i pos'] e X.env = pure none)
    (h1 : (assignEach [.Subscript (.Name x npos) i pos'] X.env).map (·.2) = [assign (.Subscript (.Name x npos) i pos') X.env]) :
    PS X (.Assign [.Subscript (.Name x npos) i pos'] e pos) (tS c en fun ρ t => bo (fe (frzAll ρ is) t) fun d t => bo (ofO (peek (look (frzAll ρ is) kk)) t) fun x t => bo (fi (frzAll ρ is) t) fun j t => setK (frzAll ρ is) t (some kk) x j d) :=
  (ps_asg he (pg_sub (pe_var hN hv hd hcd) hi (set_any hP hW hu) hasg) hs hw h1).imp fun W σ H ⟨ρ, t, g, s, k⟩ => by
  obtain ⟨g0, s0, k⟩ := s.frz is k
  refine ⟨_, t, g0, s0, k.bo.mono fun d t1 k1 => ?_⟩
  rw [KF.fls]
  intro v g1 H1 st1 s1 rv
  obtain ⟨x, e1, k1⟩ := run_ofO k1.bo
  obtain ⟨j, t2, e2, k2⟩ := run_ok k1.bo
  have s2 := s0.step st1 s1
  have fin : ∀ {W' : V → V → V → Hp → (Hp → Prop) → Prop}, True := fun {_} => trivial
  cases hl : look (frzAll ρ is) kk with
  | own ds =>
    obtain ⟨a, vs, h1, _⟩ := s2.own hl
    refine ⟨.ref a, h1, _, t1, g1, s2, ?_⟩
    rw [e2]
    intro iv g2 H2 st2 s3 ri
    have k3 : outK c en g0 H W (setO (frzAll ρ is) t2 kk ds j d) := by
      have k2 := k2
      simp only [setK, hl] at k2; exact k2
    exact setO_core (s2.step st2 s3) hl h1 ri (Rep.mono (st2.mo s1) d v rv) (outK.mo ((st1.trans st2).mo s0.st) k3)
  | val y =>
    rw [hl] at e1; cases e1
    have q := s2.cell kk
    rw [hl] at q
    obtain ⟨ov, h1, ro⟩ := q
    refine ⟨ov, h1, _, t1, g1, s2, ?_⟩
    rw [e2]
    intro iv g2 H2 st2 s3 ri
    have k3 : outK c en g0 H W (setX (frzAll ρ is) t2 x j d) := by
      have k2 := k2
      simp only [setK, hl] at k2; exact k2
    exact setX_core (s2.step st2 s3) (RepP.step s1 st2 (Rep.peek s1 ro)) ri (Rep.mono (st2.mo s1) d v rv) (outK.mo ((st1.trans st2).mo s0.st) k3)
  | un => rw [hl] at e1; cases e1
  | loan ds =>
    rw [hl] at e1; cases e1
    have k3 : outK c en g0 H W (setX (frzAll ρ is) t2 (.lst ds) j d) := by
      have k2 := k2
      simp only [setK, hl] at k2; exact k2
    exact k3.elim
/-- o[i] = e -/
theorem snd_setI (hP : c.prog = X.prog) (hW : c.w = X.w) (hu : X.A.units + 64 < cLine) {o i e : Expr} {fo fi fe : Env → T → R D} (is : List Nat) (ho : PE X o (tO c en fo)) (hi : PE X i (tO c en fi)) (he : PE X e (tE c en false fe))
    (hasg : ∀ v, assign (.Subscript o i pos') X.env v = (do
      let ov ← holding [v] (eval o X.env)
      let iv ← holding [v, ov] (eval i X.env)
      standAt pos'
      holding [v, ov, iv] (setItem ov iv v)
      release [v, ov, iv] []))
    (hs : swapsWithSole [.Subscript o i pos'] e pos.line X.env = pure false) (hw : swappedStores [.Subscript o i pos'] e X.env = pure none)
    (h1 : (assignEach [.Subscript o i pos'] X.env).map (·.2) = [assign (.Subscript o i pos') X.env]) :
    PS X (.Assign [.Subscript o i pos'] e pos) (tS c en fun ρ t => bo (fe (frzAll ρ is) t) fun d t => bo (fo (frzAll ρ is) t) fun x t => bo (fi (frzAll ρ is) t) fun j t => setK (frzAll ρ is) t none x j d) :=
  (ps_asg he (pg_sub ho hi (set_any hP hW hu) hasg) hs hw h1).imp fun W σ H ⟨ρ, t, g, s, k⟩ => by
  obtain ⟨g0, s0, k⟩ := s.frz is k
  refine ⟨_, t, g0, s0, k.bo.mono fun d t1 k1 => ?_⟩
  rw [KF.fls]
  intro v g1 H1 st1 s1 rv
  have s2 := s0.step st1 s1
  refine ⟨_, t1, g1, s2, k1.bo.mono fun x t2 k2 ov g2 H2 st2 s3 ro => ⟨_, t2, g2, s2.step st2 s3, k2.bo.mono fun j t3 k3 iv g3 H3 st3 s4 ri => ?_⟩⟩
  exact setX_core ((s2.step st2 s3).step st3 s4) (RepP.step s3 st3 ro) ri (Rep.mono ((st2.trans st3).mo s1) d v rv) (outK.mo (((st1.trans st2).trans st3).mo s0.st) k3)

/-! ### o.f = e -/
theorem putF_names {c : Cn} {g : Gh} {H : Hp} (inj : ∀ i j s, c.fnm i = some s → c.fnm j = some s → i = j) {f : Nat} {n0 : PySem.Str} (hf : c.fnm f = some n0) {v : V} {d : D} (rv : Rep c g H v d) : ∀ {gs : List (PySem.Str × V)} {fs : List (Nat × D)}, gs.map (fun p => some p.1) = fs.map (fun p => c.fnm p.1) → Reps c g H (gs.map (·.2)) (fs.map (·.2)) →
    (putF n0 v gs).map (fun p => some p.1) = (fput f d fs).map (fun p => c.fnm p.1) ∧ Reps c g H ((putF n0 v gs).map (·.2)) ((fput f d fs).map (·.2))
  | [], [], _, _ => ⟨by show [some n0] = [c.fnm f]; rw [hf], v, [], rfl, rv, rfl⟩
  | [], _ :: _, h, _ => by simp at h
  | _ :: _, [], h, _ => by simp at h
  | (n, w) :: gs, (k, d') :: fs, h, r => by
    simp only [List.map_cons, List.cons.injEq] at h
    obtain ⟨w', ws, e1, r1, r2⟩ := r
    simp only [List.map_cons, List.cons.injEq] at e1
    obtain ⟨rfl, rfl⟩ := e1
    by_cases hk : f = k
    · subst hk
      have e2 : n = n0 := by
        have := h.1.trans hf
        simpa using this
      subst e2
      rw [show putF n v ((n, w) :: gs) = (n, v) :: gs from if_pos rfl, show fput f d ((f, d') :: fs) = (f, d) :: fs from if_pos rfl]
      refine ⟨by simp only [List.map_cons]; rw [h.1, h.2], v, gs.map (·.2), rfl, rv, r2⟩
    · have hn : n ≠ n0 := fun z => by
        subst z
        exact hk (inj _ _ _ hf h.1.symm)
      rw [show putF n0 v ((n, w) :: gs) = (n, w) :: putF n0 v gs from if_neg hn, show fput f d ((k, d') :: fs) = (k, d') :: fput f d fs from if_neg hk]
      obtain ⟨h3, h4⟩ := putF_names inj hf rv h.2 r2
      refine ⟨by simp only [List.map_cons]; rw [h.1, h3], w, _, rfl, r1, h4⟩
theorem snd_setF {o e : Expr} {f : Nat} {n0 : PySem.Str} {fo fe : Env → T → R D} (is : List Nat) (F : ClsF c) (hf : c.fnm f = some n0) (hK : c.K = X.K) (ho : PE X o (tE c en false fo)) (he : PE X e (tE c en false fe)) (hs : swapsWith e (some (.Attribute o n0 pos')) pos.line X.env = pure false) :
    PS X (.Assign [.Attribute o n0 pos'] e pos) (tS c en fun ρ t => bo (fe (frzAll ρ is) t) fun d t => bo (fo (frzAll ρ is) t) fun x t => setFK (frzAll ρ is) t x f d) := (ps_fld ho he hs).imp fun W σ H ⟨ρ, t, g, s, k⟩ => by
  obtain ⟨g0, s0, k⟩ := s.frz is k
  refine ⟨_, t, g0, s0, k.bo.mono fun d t1 k1 => ?_⟩
  rw [KF.fls]
  intro v g1 H1 st1 s1 rv
  have s2 := s0.step st1 s1
  refine ⟨_, t1, g1, s2, k1.bo.mono fun x t2 k2 => ?_⟩
  rw [KF.fls]
  intro ov g2 H2 st2 s3 ro
  have s4 := s2.step st2 s3
  cases x with
  | obj n =>
    simp only [setFK] at k2
    cases ht : t2[n]? with
    | none => rw [ht] at k2; exact k2.elim
    | some ob =>
      rw [ht] at k2
      cases ob with
      | ins kc fs =>
        by_cases hl : fs.length < 999
        · simp only [if_pos hl] at k2
          obtain ⟨p, rfl, hb, C, dx, gs, h1, h2, h3, h4⟩ := obj_at s3 ro ht
          have hm : p ∈ g2.ob := List.mem_of_getElem? hb
          have lg : gs.length = fs.length := by
            have := congrArg List.length h3
            simpa using this
          refine ⟨p, C, dx, gs, rfl, h2, hK ▸ F.cls kc C h1, hK ▸ F.no kc C f _ h1 hf, by omega, ?_⟩
          have mo : Mo g2 H2 g2 (upd H2 p (.ins C dx (putF n0 v gs))) := ⟨fun b hb' => ⟨hb', upd_ne fun z => s3.nf p hm (z ▸ hb')⟩, List.prefix_refl _⟩
          obtain ⟨n1, n2⟩ := putF_names F.inj hf (Rep.mono (st2.mo s1) d v rv) h3 h4
          obtain ⟨m1, s5⟩ := s4.setOb (u := .ins C dx (putF n0 v gs)) (o' := .ins kc (fput f d fs)) hb ht ⟨C, dx, _, h1, upd_same, n1, Reps.mono mo _ _ n2⟩
          exact outK.nx k2 (((st1.trans st2).mo s0.st).trans m1) s5
        · simp only [if_neg hl] at k2; exact k2.elim
      | _ => exact k2.elim
  | _ => exact k2.elim

/-! ### loops -/
theorem snd_for {tg iter : Expr} {body : List Stmt} {gt : Tg} {ckf : Env → List D → T → Bool} {fs : Env → T → R (List D)} {fb : Env → T → Out} (is fg : List Nat) (hp : PassesOwn (model X.prog X.w) X.A X.env X.xe) (hc : X.calm = true) (hi : PI X tg iter (tI false c en ckf fs)) (hg : PG X tg (gD c en gt)) (hb : PSs X body (tS c en fb))
    (hs : ∀ x, foldedSetIterable iter X.env x = pure x) : PS X (.For tg iter body [] pos) (tS c en fun ρ t => bo (fs (frzAll ρ is) t) fun xs t => forL (ckf (frzAll ρ is) xs) (forK gt fb) fg xs (frzAll ρ is) t) := (ps_for hp hc hi hg hb hs).imp fun W σ H ⟨ρ, t, g, s, k⟩ => by
  obtain ⟨g0, s0, k⟩ := s.frz is k
  refine ⟨_, t, g0, s0, k.bo.mono fun ds t1 k1 J g1 H1 st1 s1 wk => ?_⟩
  have s2 := s0.step st1 s1
  have k1 := outK.mo (st1.mo s0.st) k1
  refine ⟨fun i m σ' H' => m = ds.length - i ∧ i ≤ ds.length ∧ ∃ ρ' t' g', SR c en g' σ' H' ρ' t' ∧ Mo g1 H1 g' H' ∧ outK c en g1 H1 W (forL (ckf (frzAll ρ is) ds) (forK gt fb) fg (ds.drop i) ρ' t'), ⟨ds.length, rfl, Nat.zero_le _, _, t1, g1, s2, Mo.refl, k1⟩, ?_⟩
  rintro i m σ' H' ⟨rfl, hi, ρ', t', g', s', m', k'⟩
  have hck : ckf (frzAll ρ is) ds t' = true := by
    cases hq : ckf (frzAll ρ is) ds t' with
    | true => rfl
    | false =>
      cases hd : ds.drop i with
      | nil => rw [hd] at k'; simp only [forL, hq] at k'; exact k'.elim
      | cons _ _ => rw [hd] at k'; simp only [forL, hq] at k'; exact k'.elim
  by_cases hlt : i < ds.length
  · refine .inr ⟨wk.go g' H' t' i m' s'.st hck hlt, fun σ'' H'' => i + 1 ≤ ds.length ∧ ∃ ρ' t' g', SR c en g' σ'' H'' ρ' t' ∧ Mo g1 H1 g' H'' ∧ outK c en g1 H1 W (forL (ckf (frzAll ρ is) ds) (forK gt fb) fg (ds.drop (i + 1)) ρ' t'), fun σ'' H'' ⟨h1, h2⟩ => ⟨ds.length - (i + 1), by omega, rfl, h1, h2⟩, fun x H2 y => ?_⟩
    have hd : ds[i]? = some ds[i] := List.getElem?_eq_getElem hlt
    obtain ⟨g2, st2, s3, rx⟩ := wk.yld g' H' t' i x H2 _ m' s'.st hck hd y
    rw [List.drop_eq_getElem_cons hlt] at k'
    simp only [forL, forK, hck, if_true] at k'
    cases ha : asgT gt ds[i] ρ' with
    | none => rw [ha] at k'; exact k'.elim
    | some ρ2 =>
      rw [ha] at k'
      have k' : outK c en g1 H1 W (match fb ρ2 t' with
        | .nx ρ' t' => forL (ckf (frzAll ρ is) ds) (forK gt fb) fg (ds.drop (i + 1)) (unset ρ' fg) t'
        | .cont ρ' t' => forL (ckf (frzAll ρ is) ds) (forK gt fb) fg (ds.drop (i + 1)) (unset ρ' fg) t'
        | .brk ρ' t' => .nx (unset ρ' fg) t'
        | o => o) := k'
      have m2 : Mo g1 H1 g2 H2 := m'.trans (st2.mo s'.st)
      refine ⟨ρ', t', g2, _, ρ2, s'.step st2 s3, rx, ha, fun σ2 sσ _ _ => ⟨ρ2, t', g2, sσ, ?_⟩⟩
      cases ho : fb ρ2 t' with
      | nx ρ3 t3 =>
        rw [ho] at k'
        exact fun σ3 g3 H3 m3 s4 => ⟨hlt, _, t3, g3, s4.unset fg, m2.trans m3, k'⟩
      | cont ρ3 t3 =>
        rw [ho] at k'
        exact fun σ3 g3 H3 m3 s4 => ⟨hlt, _, t3, g3, s4.unset fg, m2.trans m3, k'⟩
      | brk ρ3 t3 =>
        rw [ho] at k'
        exact fun σ3 g3 H3 m3 s4 => outK.nx k' (m2.trans m3) (s4.unset fg)
      | ret d t3 => rw [ho] at k'; exact k'
      | ex _ _ _ => rw [ho] at k'; exact k'
      | no => rw [ho] at k'; exact k'
  · have e : i = ds.length := by omega
    subst e
    rw [List.drop_length] at k'
    simp only [forL, hck, if_true] at k'
    exact .inl ⟨wk.stop g' H' t' _ m' s'.st hck (Nat.le_refl _), outK.nx k' m' s'⟩
theorem snd_whl {e : Expr} {body : List Stmt} {fc : Env → T → R Bool} {fb : Env → T → Out} (n : Nat) (fz fg : List Nat) (hp : PassesOwn (model X.prog X.w) X.A X.env X.xe) (hc : PT X e (tT c en fc)) (hb : PSs X body (tS c en fb)) :
    PS X (.While e body [] pos) (tS c en fun ρ t => whlL fc fb fz fg n ρ t) := (ps_while hp hc hb).imp fun W σ H ⟨ρ, t, g, s, k⟩ => by
  refine ⟨fun m σ' H' => ∃ ρ' t' g', SR c en g' σ' H' ρ' t' ∧ Mo g H g' H' ∧ outK c en g H W (whlL fc fb fz fg m ρ' t'), ⟨n, ρ, t, g, s, Mo.refl, k⟩, ?_⟩
  rintro m σ1 H1 ⟨ρ1, t1, g1, s1, m1, k1⟩
  cases m with
  | zero => exact k1.elim
  | succ m =>
    simp only [whlL] at k1
    obtain ⟨g2, m2, s2⟩ := s1.freeze fz
    refine ⟨_, t1, g2, s2, k1.bo.mono fun b t2 k2 g3 H3 st3 s3 => ?_⟩
    have s4 := s2.step st3 s3
    have m4 : Mo g H g3 H3 := (m1.trans m2).trans (st3.mo s2.st)
    cases b with
    | false => exact outK.nx k2 m4 s4
    | true =>
      show ∃ N : L2.St → Hp → Prop, _
      refine ⟨fun σ' H' => ∃ ρ' t' g', SR c en g' σ' H' ρ' t' ∧ Mo g H g' H' ∧ outK c en g H W (whlL fc fb fz fg m ρ' t'), fun σ' H' h => ⟨m, Nat.lt_succ_self m, h⟩, _, t2, g3, s4, ?_⟩
      have k2 : outK c en g H W (match fb (frzAll ρ1 fz) t2 with
        | .nx ρ' t' => whlL fc fb fz fg m (unset ρ' fg) t'
        | .cont ρ' t' => whlL fc fb fz fg m (unset ρ' fg) t'
        | .brk ρ' t' => .nx (unset ρ' fg) t'
        | o => o) := k2
      cases ho : fb (frzAll ρ1 fz) t2 with
      | nx ρ3 t3 =>
        rw [ho] at k2
        exact fun σ3 g4 H4 m5 s5 => ⟨_, t3, g4, s5.unset fg, m4.trans m5, k2⟩
      | cont ρ3 t3 =>
        rw [ho] at k2
        exact fun σ3 g4 H4 m5 s5 => ⟨_, t3, g4, s5.unset fg, m4.trans m5, k2⟩
      | brk ρ3 t3 =>
        rw [ho] at k2
        exact fun σ3 g4 H4 m5 s5 => outK.nx k2 (m4.trans m5) (s5.unset fg)
      | ret d t3 => rw [ho] at k2; exact k2
      | ex _ _ _ => rw [ho] at k2; exact k2
      | no => rw [ho] at k2; exact k2
end
end Pd
set_option Elab.async false
set_option linter.all false
set_option maxRecDepth 100000
set_option autoImplicit false
/-! Pd: own syntax beside the text's. -/
namespace Pd
open PySem PySem.Spec PyProof.Rows L2 TL Bits

/-! ### names -/
def lEq : List Nat → List Nat → Bool
  | [], [] => true
  | a :: r, b :: s => match Nat.beq a b with
    | true => lEq r s
    | false => false
  | _, _ => false
theorem lEq_iff : ∀ (a b : List Nat), lEq a b = true ↔ a = b
  | [], [] => by simp [lEq]
  | [], _ :: _ => by simp [lEq]
  | _ :: _, [] => by simp [lEq]
  | a :: r, b :: s => by
    unfold lEq
    cases h : Nat.beq a b with
    | true =>
      have := Nat.eq_of_beq_eq_true h
      subst this
      simp [lEq_iff r s]
    | false =>
      have : a ≠ b := fun e => by subst e; rw [Nat.beq_refl] at h; cases h
      simp [this]
def sEq (a b : PySem.Str) : Bool := lEq a.cps.toList b.cps.toList
theorem sEq_iff {a b : PySem.Str} : sEq a b = true ↔ a = b := by
  unfold sEq
  rw [lEq_iff]
  constructor
  · intro h
    cases a; cases b
    congr 1
    exact Array.toList_inj.mp h
  · intro h; rw [h]
theorem sEq_no {a b : PySem.Str} (h : sEq a b = false) : (a == b) = false := by
  simp only [beq_eq_false_iff_ne, ne_eq]
  intro e
  rw [sEq_iff.mpr e] at h; cases h
def kOf : List (PySem.Str × NameKind) → PySem.Str → Option NameKind
  | [], _ => none
  | (n, k) :: r, x => match sEq x n with
    | true => some k
    | false => kOf r x
theorem kOf_eq : ∀ (l : List (PySem.Str × NameKind)) (x : PySem.Str), kOf l x = l.lookup x
  | [], _ => rfl
  | (n, k) :: r, x => by
    unfold kOf
    rw [List.lookup_cons]
    cases h : sEq x n with
    | true =>
      have := sEq_iff.mp h
      subst this
      simp
    | false =>
      rw [sEq_no h]
      exact kOf_eq r x
structure MC where
  N : List PySem.Str
  sc : Scope
  fn : PySem.Str → Bool
def MC.vis (M : MC) (x : PySem.Str) : Bool := match kOf M.sc.names x with
  | some .local => true
  | some .cell => true
  | some .free => true
  | _ => false
def MC.loc (M : MC) (x : PySem.Str) : Bool := match kOf M.sc.names x with
  | some .local => true
  | some .cell => M.fn x
  | _ => false
def MC.isLoc (M : MC) (x : PySem.Str) : Bool := match kOf M.sc.names x with
  | some .local => true
  | _ => false
def MC.glb (M : MC) (x : PySem.Str) : Bool := match kOf M.sc.names x with
  | some .globalImplicit => true
  | _ => false
def okN (x : PySem.Str) : Bool := !(sEq x (nm "__debug__")) && !(sEq x (nm "__classdict__"))
def MC.at (M : MC) (i : Nat) (x : PySem.Str) : Bool := match M.N[i]? with
  | some y => sEq y x
  | none => false
/-- a name of the frame -/
def MC.var (M : MC) (i : Nat) : Expr → Bool
  | .Name x _ => M.at i x && M.vis x && okN x
  | _ => false
structure Fits (M : MC) (X : Cx) : Prop where
  N : X.N = M.N
  sc : X.env.scope = M.sc
  fn : X.fn = M.fn
section
variable {M : MC} {X : Cx} {x : PySem.Str}
theorem Fits.vis (F : Fits M X) (h : M.vis x = true) : Vis X.env.scope x := by
  rw [F.sc]
  unfold MC.vis at h
  rw [kOf_eq] at h
  unfold Vis
  split at h <;> first | exact .inl (by assumption) | exact .inr (.inl (by assumption)) | exact .inr (.inr (by assumption)) | cases h
theorem Fits.loc (F : Fits M X) (h : M.loc x = true) : Loc X.env.scope x ∧ (X.fn x = true ∨ X.env.scope.names.lookup x = some .local) := by
  rw [F.sc, F.fn]
  unfold MC.loc at h
  rw [kOf_eq] at h
  unfold L2.Loc
  split at h <;> first | exact ⟨.inl (by assumption), .inr (by assumption)⟩ | exact ⟨.inr (by assumption), .inl h⟩ | cases h
theorem Fits.isLoc (F : Fits M X) (h : M.isLoc x = true) : X.env.scope.names.lookup x = some .local := by
  rw [F.sc]
  unfold MC.isLoc at h
  rw [kOf_eq] at h
  split at h <;> first | assumption | cases h
theorem Fits.glb (F : Fits M X) (h : M.glb x = true) : Gl X x := by
  unfold Gl
  show X.env.scope.names.lookup x = _
  rw [F.sc]
  unfold MC.glb at h
  rw [kOf_eq] at h
  split at h <;> first | assumption | cases h
theorem okN_iff (h : okN x = true) : (x == ("__debug__" : PySem.Str)) = false ∧ (x == ("__classdict__" : PySem.Str)) = false := by
  unfold okN at h
  simp only [Bool.and_eq_true, Bool.not_eq_true'] at h
  exact ⟨sEq_no h.1, sEq_no h.2⟩
theorem Fits.at (F : Fits M X) {i : Nat} (h : M.at i x = true) : X.N[i]? = some x := by
  rw [F.N]
  unfold MC.at at h
  split at h
  · rename_i y e; rw [e, sEq_iff.mp h]
  · cases h
end

/-! ### shapes -/
def noStar : Expr → Bool
  | .Starred _ _ => false
  | _ => true
def noStars : List Expr → Bool
  | [] => true
  | e :: r => noStar e && noStars r
def noSlice : Expr → Bool
  | .Slice _ _ _ _ => false
  | _ => true
def noSet : Expr → Bool
  | .Set _ _ _ => false
  | _ => true
def noComp : Expr → Bool
  | .ListComp _ _ _ _ => false
  | .SetComp _ _ _ _ => false
  | .DictComp _ _ _ _ _ => false
  | _ => true
/-- truth by value -/
def byVal : Expr → Bool
  | .Name _ _ => true
  | .Call _ _ _ _ => true
  | .Attribute _ _ _ => true
  | .Subscript _ _ _ => true
  | .BinOp _ _ _ _ => true
  | .Constant _ _ _ => true
  | _ => false
/-- the receiver of an attribute -/
def recv : Expr → Bool
  | .Name _ _ => true
  | .Call _ (_ :: _) _ _ => true
  | .Call _ [] (_ :: _) _ => true
  | .Attribute _ _ _ => true
  | .Subscript _ _ _ => true
  | .Constant _ _ _ => true
  | _ => false
section
variable {env : PySem.Env} {pos : Pos}
theorem star_cons {e : Expr} {es : List Expr} (h : noStar e = true) : starEach (e :: es) env = (false, eval e env) :: starEach es env := by
  cases e <;> first | rfl | cases h
theorem star_any : ∀ {es : List Expr}, noStars es = true → (backTo pos (starEach es env)).any (·.1) = false
  | [], _ => rfl
  | e :: es, h => by
    unfold noStars at h
    simp only [Bool.and_eq_true] at h
    rw [star_cons h.1]
    show (false || (backTo pos (starEach es env)).any (·.1)) = false
    rw [star_any h.2]; rfl
theorem star_all : ∀ {es : List Expr}, noStars es = true → (backTo pos (starEach es env)).all (fun x => !x.1) = true
  | [], _ => rfl
  | e :: es, h => by
    unfold noStars at h
    simp only [Bool.and_eq_true] at h
    rw [star_cons h.1]
    show (true && (backTo pos (starEach es env)).all (fun x => !x.1)) = true
    rw [star_all h.2]; rfl
theorem asg_cons {e : Expr} {es : List Expr} (h : noStar e = true) : assignEach (e :: es) env = (false, assign e env) :: assignEach es env := by
  cases e <;> first | rfl | cases h
theorem asg_len : ∀ {es : List Expr}, (assignEach es env).length = es.length
  | [] => rfl
  | e :: es => by
    cases e <;> (show (assignEach es env).length + 1 = es.length + 1; rw [asg_len])
theorem asg_idx : ∀ {es : List Expr}, noStars es = true → (assignEach es env).findIdx? (·.1) = none
  | [], _ => rfl
  | e :: es, h => by
    unfold noStars at h
    simp only [Bool.and_eq_true] at h
    rw [asg_cons h.1, List.findIdx?_cons]
    simp only [Bool.false_eq_true, if_false, asg_idx h.2, Option.map_none]
theorem recv_base {o : Expr} {a : PySem.Str} {w : Sem Value} (h : recv o = true) : attributeBase o a env w = w := by
  cases o with
  | Call f args kws p =>
    cases args with
    | cons _ _ => cases f <;> rfl
    | nil =>
      cases kws with
      | nil => cases h
      | cons _ _ => cases f <;> rfl
  | _ => first | rfl | cases h
theorem byVal_true {e : Expr} (h : byVal e = true) (whole : Sem Value) : isTrue e env whole = (do let v ← whole; standAt e.pos; holding [v] (truthy v)) := by
  cases e <;> first | rfl | cases h
theorem noSlice_ix {e : Expr} (h : noSlice e = true) : PlainIx e := by
  intro o i
  cases e <;> first | rfl | cases h
theorem noSet_marks {e : Expr} (h : noSet e = true) (op : CmpOp) : behindInMarks op e = false := by
  cases e <;> first | rfl | cases h
theorem noSet_fold {e : Expr} (h : noSet e = true) (x : Value) : foldedSetIterable e env x = pure x := by
  cases e <;> first | rfl | cases h
theorem noComp_swap {e : Expr} (h : noComp e = true) (t : Option Expr) (l : Nat) : swapsWith e t l env = pure false := by
  cases e <;> first | rfl | cases h
theorem few {es : List Expr} (h : noStars es = true) (l : es.length < 30) : ((backTo pos (starEach es env)).all (fun x => !x.1) && (backToKw pos (keywordEach [] env)).all (fun x => x.1.isSome)
      && decide (es.length + ([] : List Keyword).length + (if ([] : List Keyword).isEmpty then 0 else 1) < 30)) = true := by
  rw [star_all h]
  show (true && true && decide (es.length + 0 + 0 < 30)) = true
  simpa using l
theorem mform {es : List Expr} (h : noStars es = true) (l : es.length < 30) : methodCallForm (es.length + ([] : List Keyword).length) (backTo pos (starEach es env)) (backToKw pos (keywordEach [] env)) = true := by
  unfold methodCallForm
  rw [star_all h]
  show (true && true && decide (es.length + 0 + 0 < 30)) = true
  simpa using l
end

/-! ### constants -/
def okSB (s : List Nat) : Bool := decide (s.length ≤ sz) && s.all fun x => decide (x < 1114112)
def konB : D → Const → Bool
  | .non, .none => true
  | .bl a, .bool b => decide (a = b)
  | .int i, .int j => decide (i = j)
  | .str s, .str x => lEq s x.cps.toList && okSB s
  | _, _ => false
theorem okSB_iff {s : List Nat} (h : okSB s = true) : okS s := by
  unfold okSB at h
  simp only [Bool.and_eq_true, decide_eq_true_eq, List.all_eq_true] at h
  exact h
theorem snd_const {X : Cx} {c : Cn} {en : En} {d : D} {k : Const} {j : Nat} {pos : Pos} (h : konB d k = true) : PE X (.Constant k j pos) (tE c en false fun _ t => .ok d t) := by
  cases d with
  | non => cases k <;> first | exact snd_kon pe_non fun _ _ => rfl | cases h
  | bl a =>
    cases k with
    | bool b =>
      have e : a = b := of_decide_eq_true h
      subst e
      exact snd_kon pe_bl fun _ _ => rfl
    | _ => cases h
  | int a =>
    cases k with
    | int b =>
      have e : a = b := of_decide_eq_true h
      subst e
      exact snd_kon pe_int fun _ _ => rfl
    | _ => cases h
  | str s =>
    cases k with
    | str x =>
      simp only [konB, Bool.and_eq_true] at h
      have e := (lEq_iff _ _).mp h.1
      have e2 : V.str x = strV s := by
        unfold strV
        rw [e]
      exact snd_kon pe_str fun _ _ => ⟨e2, okSB_iff h.2⟩
    | _ => cases h
  | _ => cases k <;> cases h

/-! ### a chain as a test -/
theorem snd_chnT {X : Cx} {c : Cn} {en : En} {pos : Pos} {a b d : Expr} {fa fb fd : Env → T → R D} (hK : c.K = X.K) (hP : c.prog = X.prog) (hW : c.w = X.w) (hu : X.A.units + 64 < cLine) (o p : Co) (ha : PE X a (tO c en fa)) (hb : PE X b (tO c en fb)) (hd : PE X d (tO c en fd)) (hm : lastMarks [cop o, cop p] [b, d] = false) :
    PT X (.Compare a [cop o, cop p] [b, d] pos) (tT c en fun ρ t => bnd (bnd (fa ρ t) fun x t => bnd (fb ρ t) fun y t => bnd (ofO (cmpD t o x y) t) fun k t =>
    match k with
    | .bl true => bnd (fd ρ t) fun z t => ofO (cmpD t p y z) t
    | .bl false => .ok (.bl false) t
    | _ => .no) fun x t => ofO (truthD t x) t) := by
  refine (pt_chain (op_cmp hK hP hW hu o) (op_cmp hK hP hW hu p) ha hb hd hm).imp fun σ H Q h => ?_
  obtain ⟨ρ, t, g, s, r⟩ := h
  refine ⟨ρ, t, g, s, (run_bnd (run_bnd r)).mono fun x t1 r1 v1 g1 H1 st1 s1 rp1 => ⟨ρ, t1, g1, s.step st1 s1, (run_bnd r1).mono fun y t2 r2 v2 g2 H2 st2 s2 rp2 => ?_⟩⟩
  obtain ⟨k, e, r3⟩ := run_ofO (run_bnd r2)
  obtain ⟨bb, rfl⟩ := cmp_bl e
  refine ⟨g2, t2, x, y, _, s2, rp1.step s1 st2, rp2, e, fun v g3 H3 st3 s3 rp3 => ?_⟩
  cases rp3
  refine ⟨bb, rfl, ?_⟩
  have st := (st1.trans st2).trans st3
  cases bb with
  | true =>
    refine ⟨ρ, t2, g3, s.step st s3, (run_bnd (show run (bnd (fd ρ t2) fun z t => ofO (cmpD t p y z) t) _ from r3)).mono fun z t4 r4 v4 g4 H4 st4 s4 rp4 => ?_⟩
    obtain ⟨d', e', k⟩ := run_ofO r4
    obtain ⟨b', e2, k⟩ := run_ofO k
    refine ⟨g4, t4, y, z, d', s4, (rp2.step s2 st3).step s3 st4, rp4, e', fun v g5 H5 st5 s5 rp5 => ?_⟩
    obtain ⟨b2, rfl⟩ := cmp_bl e'
    cases truth_bl e2
    exact ⟨b', rp5, k g5 H5 ((st.trans st4).trans st5) s5⟩
  | false =>
    have k : run (ofO (truthD t2 (.bl false)) t2) fun b t' => KT c g H t' b Q := r3
    obtain ⟨b2, e2, k⟩ := run_ofO k
    cases truth_bl e2
    exact ⟨false, rfl, k g3 H3 st s3⟩
end Pd
set_option Elab.async false
set_option linter.all false
set_option maxRecDepth 100000
set_option autoImplicit false
/-! Pd: own syntax beside the text's: the check. -/
namespace Pd
open PySem PySem.Spec PyProof.Rows L2 TL Bits

/-! ### blocks -/
def relF (scope sc : Scope) : Scope :=
  { scope with names := scope.names.map fun p => match p.2 with
    | .free => (match sc.kind with
      | .function => (match kOf sc.names p.1 with
        | some .cell => (p.1, .cell)
        | _ => p)
      | _ => p)
    | _ => p }
theorem relF_eq (scope : Scope) (env : PySem.Env) : relF scope env.scope = relabel scope env := by
  unfold relF relabel
  congr 1
  apply List.map_congr_left
  rintro ⟨n, k⟩ _
  show _ = if (k == NameKind.free && env.scope.kind == ScopeKind.function && env.scope.names.lookup n == some NameKind.cell) = true then (n, NameKind.cell) else (n, k)
  dsimp only
  rw [kOf_eq]
  cases k <;> try rfl
  cases env.scope.kind <;> try rfl
  cases env.scope.names.lookup n with
  | none => rfl
  | some k => cases k <;> rfl
def celF (scope : Scope) (x : PySem.Str) : Bool := match kOf scope.names x with
  | some .cell => true
  | _ => false
theorem celF_eq (scope : Scope) : celF scope = fun x => scope.names.lookup x == some .cell := by
  funext x
  unfold celF
  rw [kOf_eq]
  cases scope.names.lookup x with
  | none => rfl
  | some k => cases k <;> rfl
def MC.blk (M : MC) (scope : Scope) : MC := ⟨M.N, relF scope M.sc, celF scope⟩
theorem Fits.blk {M : MC} {X : Cx} (F : Fits M X) (scope : Scope) (s : Shared) (H : Hp) (C : Addr) (cl : List (PySem.Str × Addr)) (fp : List Addr) : Fits (M.blk scope) (X.blk s H scope (compEnvC scope cl C X.env) fp) where
  N := F.N
  sc := by
    show relabel scope X.env = relF scope M.sc
    rw [← F.sc, relF_eq]
  fn := by
    show (fun x => scope.names.lookup x == some .cell) = celF scope
    rw [celF_eq]
def MC.own (M : MC) (own : List Nat) : List (PySem.Str × Nat) := own.map fun i => ((M.N[i]?).getD ⟨#[]⟩, i)
theorem own_snd (M : MC) (own : List Nat) : (M.own own).map (·.2) = own := by
  unfold MC.own
  rw [List.map_map]
  show own.map id = own
  rw [List.map_id]
def blkB (M : MC) (scope : Scope) (own : List Nat) : Bool :=
  (match scope.kind with
  | .function => true
  | _ => false) && (scope.names.all fun y => match kOf scope.names y.1 with
    | some k => decide (k = y.2)
    | none => false) && (own.all fun i => decide (i < M.N.length)) && scope.names.all fun y => match y.2 with
    | .free => (match kOf M.sc.names y.1 with
      | some .cell => true
      | some .free => true
      | _ => false)
    | .local => own.any (fun i => M.at i y.1) || M.N.all fun n => !sEq n y.1
    | .cell => own.any (fun i => M.at i y.1) || M.N.all fun n => !sEq n y.1
    | _ => true
theorem blkB_own {M : MC} {own : List Nat} {x : PySem.Str} (h : (own.any (fun i => M.at i x) || M.N.all fun n => !sEq n x) = true) : x ∈ (M.own own).map (·.1) ∨ x ∉ M.N := by
  rcases (Bool.or_eq_true _ _).mp h with h | h
  · obtain ⟨i, hi, e⟩ := List.any_eq_true.mp h
    refine .inl (List.mem_map.mpr ⟨((M.N[i]?).getD ⟨#[]⟩, i), List.mem_map.mpr ⟨i, hi, rfl⟩, ?_⟩)
    unfold MC.at at e
    split at e
    · rename_i y q; rw [q]; exact sEq_iff.mp e
    · cases e
  · refine .inr fun hm => ?_
    have q := List.all_eq_true.mp h x hm
    rw [show sEq x x = true from sEq_iff.mpr rfl] at q
    cases q
theorem blkB_ok {M : MC} {X : Cx} (F : Fits M X) {scope : Scope} {own : List Nat} (h : blkB M scope own = true) : BlkOk X.N X.env.scope scope (M.own own) := by
  rw [F.N, F.sc]
  unfold blkB at h
  simp only [Bool.and_eq_true, List.all_eq_true] at h
  obtain ⟨⟨⟨h1, h2⟩, h3⟩, h4⟩ := h
  refine ⟨?_, fun y hy => ?_, fun p hp => ?_, fun y hy e => ?_, fun y hy e => ?_⟩
  · split at h1
    · assumption
    · cases h1
  · have q := h2 y hy
    rw [kOf_eq] at q
    split at q
    · rename_i k e; rw [e, of_decide_eq_true q]
    · cases q
  · obtain ⟨i, hi, rfl⟩ := List.mem_map.mp hp
    have q := of_decide_eq_true (h3 i hi)
    show M.N[i]? = some ((M.N[i]?).getD _)
    rw [List.getElem?_eq_getElem q]; rfl
  · have q := h4 y hy
    simp only [e, kOf_eq] at q
    split at q <;> first | exact .inl (by assumption) | exact .inr (by assumption) | cases q
  · have q := h4 y hy
    rcases e with e | e
    · simp only [e] at q; exact blkB_own q
    · simp only [e] at q; exact blkB_own q

/-! ### the check -/
def tgSub (g : Tg) (own : List Nat) : Bool := (tgS g).all fun i => own.contains i
mutual
def mTg (M : MC) : Tg → Expr → Bool
  | .nm i, e => match e with
    | .Name x _ => M.at i x && M.loc x
    | _ => false
  | .tp gs, e => match e with
    | .Tuple es _ _ => mTgs M gs es
    | _ => false
def mTgs (M : MC) : Tgs → List Expr → Bool
  | .nil, es => es.isEmpty
  | .cons g r, es => match es with
    | e :: es => noStar e && mTg M g e && mTgs M r es
    | [] => false
end
def b1N : B1 → String
  | .len => "len" | .abs => "abs" | .int => "int" | .str => "str" | .sum => "sum" | .max => "max" | .min => "min" | .any => "any" | .all => "all" | .list => "list" | .tuple => "tuple" | .sorted => "sorted" | .lenset => "len" | .lrange => "list" | .trange => "tuple"
/-- the call within -/
def b1In : B1 → Option String
  | .lenset => some "set"
  | .lrange => some "range"
  | .trange => some "range"
  | _ => none
/-- a constant of the text -/
def sameD : D → D → Bool
  | .int i, .int j => decide (i = j)
  | .str s, .str x => lEq s x && okSB s
  | .bl a, .bl b => decide (a = b)
  | .non, .non => true
  | _, _ => false
def b2N : B2 → String
  | .max => "max" | .min => "min"
/-- a type's name (or two) -/
def mTy (M : MC) : Ty → Expr → Bool
  | k, .Name x _ => (match tyN k with
    | [n] => sEq x (nm n)
    | _ => false) && M.glb x
  | .row, .Tuple [.Name x _, .Name y _] _ _ => sEq x (nm "tuple") && sEq y (nm "list") && M.glb x && M.glb y
  | _, _ => false
def esLen : Es → Nat
  | .nil => 0
  | .cons _ r => esLen r + 1
def isFn (P : Prg) (f : Nat) (x : PySem.Str) : Bool := match P.fns[f]? with
  | some F => F.cls.isNone && sEq x (nm F.name) && okN x
  | none => false
def isMth (P : Prg) (c m : Nat) (x : PySem.Str) : Bool := match P.fns[m]? with
  | some F => decide (F.cls = some c) && sEq x (nm F.name)
  | none => false
def isCls (P : Prg) (c : Nat) (x : PySem.Str) : Bool := match P.cls[c]? with
  | some C => sEq x (nm C.name) && okN x
  | none => false
def isFld (P : Prg) (f : Nat) (x : PySem.Str) : Bool := match P.flds[f]? with
  | some s => sEq x (nm s)
  | none => false
def allSome : List (Option PySem.Str) → Option (List PySem.Str)
  | [] => some []
  | some x :: r => (allSome r).map (x :: ·)
  | none :: _ => none
def strB (l : List PySem.Str) : Bool := match l with
  | [] => true
  | x :: r => (r.all fun y => !sEq x y) && strB r
def natIn (k : Nat) : List Nat → Bool
  | [] => false
  | x :: r => Nat.beq k x || natIn k r
/-- the lacking parameters are those given by name -/
def pmB (N ks : List PySem.Str) (n : Nat) (pm : List Nat) : Bool := strB N && strB ks && decide (n + pm.length = N.length) && decide (ks.length = pm.length) && ((List.range pm.length).all fun k => natIn k pm) && (List.range pm.length).all fun i => match pm[i]? with
  | some k => (match N[n + i]?, ks[k]? with
    | some x, some y => sEq x y
    | _, _ => false)
  | none => false
/-- a test by value: a comparison by its own rule -/
def mVal : Expr → E → Bool
  | e, .cmp _ _ _ => true
  | e, .chn _ _ _ _ _ => true
  | e, _ => byVal e
def isYes : Tt → Bool
  | .yes => true
  | _ => false
/-- a display's keys -/
def mKeys : List D → List (Option Expr) → Bool
  | [], [] => true
  | d :: ds, k :: ks => (match k with
    | some (.Constant c _ _) => konB d c
    | _ => false) && mKeys ds ks
  | _, _ => false
section
variable (P : Prg)
mutual
def mE (M : MC) : E → Expr → Bool
  | .var i, e => M.var i e
  | .kon d, e => match e with
    | .Constant k _ _ => konB d k
    | _ => false
  | .glb x d, e => match e with
    | .Name y _ => sEq y (nm x) && M.glb y && okN y && P.cons.any fun p => decide (p.1 = x) && sameD d p.2
    | _ => false
  | .bin o a b, e => match e with
    | .BinOp l op r _ => decide (bop o = op) && mE M a l && mE M b r
    | _ => false
  | .neg a, e => match e with
    | .UnaryOp .USub x _ => mE M a x
    | _ => false
  | .cmp o a b, e => match e with
    | .Compare l [op] [r] _ => decide (cop o = op) && noSet r && mE M a l && mE M b r
    | _ => false
  | .chn o p a b c, e => match e with
    | .Compare l [op, oq] [r, s] _ => decide (cop o = op) && decide (cop p = oq) && noSet s && mE M a l && mE M b r && mE M c s
    | _ => false
  | .and es, e => match e with
    | .BoolOp .And xs _ => mEs M es xs
    | _ => false
  | .or es, e => match e with
    | .BoolOp .Or xs _ => mEs M es xs
    | _ => false
  | .not a, e => match e with
    | .UnaryOp .Not x _ => mE M a x
    | _ => false
  | .ife t a b, e => match e with
    | .IfExp c x y _ => mT M t c && mE M a x && mE M b y
    | _ => false
  | .call f as, e => match e with
    | .Call (.Name g _) xs [] _ => isFn P f g && M.glb g && mEs M as xs
    | _ => false
  | .callk f pm as ks, e => match e with
    | .Call (.Name g _) xs kws _ => isFn P f g && M.glb g && mEs M as xs && mKs M ks kws && (match P.fns[f]?, allSome (kwNames kws) with
      | some F, some ns => pmB ((F.N.take F.np).map nm) ns (esLen as) pm
      | _, _ => false)
    | _ => false
  | .mth c m o as, e => match e with
    | .Call (.Attribute ob a apos) xs [] pos => isMth P c m a && recv ob && decide (apos.endLine = pos.line) && decide (xs.length < 30) && mE M o ob && mEs M as xs
    | _ => false
  | .mk c as, e => match e with
    | .Call (.Name g _) (x :: xs) [] _ => isCls P c g && M.glb g && mEs M as (x :: xs)
    | _ => false
  | .b1 b a, e => match e with
    | .Call (.Name g _) [y] [] _ => sEq g (nm (b1N b)) && M.glb g && (match b1In b with
      | none => noStar y && mE M a y
      | some h => (match y with
        | .Call (.Name k _) [x] [] _ => sEq k (nm h) && M.glb k && noStar x && mE M a x
        | _ => false))
    | _ => false
  | .b2 b a c, e => match e with
    | .Call (.Name g _) [x, y] [] _ => sEq g (nm (b2N b)) && M.glb g && noStar x && noStar y && mE M a x && mE M c y
    | _ => false
  | .isi k a, e => match e with
    | .Call (.Name g _) [x, y] [] _ => sEq g (nm "isinstance") && M.glb g && noStar x && mTy M k y && mE M a x
    | _ => false
  | .ix a i, e => match e with
    | .Subscript x y _ => noSlice y && mE M a x && mE M i y
    | _ => false
  | .sl a lo hi, e => match e with
    | .Subscript x (.Slice l h none _) _ => mE M a x && mO M lo l && mO M hi h
    | _ => false
  | .lst es, e => match e with
    | .List xs _ => decide (esLen es ≤ 1000) && mEs M es xs
    | _ => false
  | .tup es, e => match e with
    | .Tuple xs _ _ => decide (esLen es ≤ 1000) && mEs M es xs
    | _ => false
  | .newL es, e => match e with
    | .List xs _ => decide (esLen es ≤ 1000) && mEs M es xs
    | _ => false
  | .newD _, e => match e with
    | .Dict [] [] _ => true
    | _ => false
  | .lobj a, e => match e with
    | .Call (.Name g _) [y] [] _ => sEq g (nm "list") && M.glb g && noStar y && mE M a y
    | _ => false
  | .dsp ks es, e => match e with
    | .Dict keys values _ => decide (keys.length ≤ 15) && !keys.isEmpty && ks.all kOk && ksB ks && mKeys ks keys && decide (keys.length = values.length) && mEs M es values
    | _ => false
  | .mkk k pm as ks, e => match e with
    | .Call (.Name g _) xs kws _ => isCls P k g && M.glb g && mEs M as xs && mKs M ks kws && (match (P.cls[k]?).bind (fun C => P.fns[C.init]?), allSome (kwNames kws) with
      | some F, some ns => pmB ((F.N.take F.np).map nm) ns (esLen as + 1) pm
      | _, _ => false)
    | _ => false
  | .dm m o as, e => match e with
    | .Call (.Attribute ob a apos) (x :: xs) [] pos => sEq a (nm (dmN m)) && recv ob && decide (apos.endLine = pos.line) && decide ((x :: xs).length < 30) && mE M o ob && mEs M as (x :: xs)
    | _ => false
  | .comp s g own c b, e => match e with
    | .ListComp elt [⟨tg, iter, ifs, 0⟩] scope _ => noSet iter && mSrc M s tg iter && blkB M scope own && tgSub g own && mTg (M.blk scope) g tg && (match ifs with
      | [] => isYes c
      | [e] => mT (M.blk scope) c e
      | _ => false) && mE (M.blk scope) b elt
    | _ => false
  | .join a, e => match e with
    | .Call (.Attribute (.Constant (.str x0) _ _) m apos) [x] [] pos => sEq x0 ⟨#[]⟩ && sEq m (nm "join") && noStar x && decide (apos.endLine = pos.line) && mE M a x
    | _ => false
  | .fld o f, e => match e with
    | .Attribute ob a _ => isFld P f a && recv ob && mE M o ob
    | _ => false
  | .never, _ => true
def mT (M : MC) : Tt → Expr → Bool
  | .yes, _ => false
  | .not u, e => match e with
    | .UnaryOp .Not x _ => mT M u x
    | _ => false
  | .and ts, e => match e with
    | .BoolOp .And xs _ => mTts M ts xs
    | _ => false
  | .or ts, e => match e with
    | .BoolOp .Or xs _ => mTts M ts xs
    | _ => false
  | .val a, e => mVal e a && mE M a e
def mTts (M : MC) : Tts → List Expr → Bool
  | .nil, es => es.isEmpty
  | .cons t r, es => match es with
    | e :: es => mT M t e && mTts M r es
    | [] => false
def mEs (M : MC) : Es → List Expr → Bool
  | .nil, es => es.isEmpty
  | .cons a r, es => match es with
    | e :: es => noStar e && mE M a e && mEs M r es
    | [] => false
def mKs (M : MC) : Es → List Keyword → Bool
  | .nil, es => es.isEmpty
  | .cons a r, es => match es with
    | ⟨_, e, _⟩ :: es => mE M a e && mKs M r es
    | [] => false
def mO (M : MC) : Es → Option Expr → Bool
  | .nil, o => o.isNone
  | .cons a r, o => match o, r with
    | some e, .nil => mE M a e
    | _, _ => false
def mSrc (M : MC) : Src → Expr → Expr → Bool
  | .seq a, _, e => mE M a e
  | .rng a, _, e => match e with
    | .Call (.Name g _) [x] [] _ => sEq g (nm "range") && M.glb g && noStar x && mE M a x
    | _ => false
  | .rng2 a b, _, e => match e with
    | .Call (.Name g _) [x, y] [] _ => sEq g (nm "range") && M.glb g && noStar x && noStar y && mE M a x && mE M b y
    | _ => false
  | .enm a, tg, e => match tg, e with
    | .Tuple _ _ _, .Call (.Name g _) [x] [] _ => sEq g (nm "enumerate") && M.glb g && noStar x && mE M a x
    | _, _ => false
  | .zip a b, tg, e => match tg, e with
    | .Tuple _ _ _, .Call (.Name g _) [x, y] [] _ => sEq g (nm "zip") && M.glb g && noStar x && noStar y && mE M a x && mE M b y
    | _, _ => false
end
end
end Pd
set_option Elab.async false
set_option linter.all false
set_option maxRecDepth 100000
set_option autoImplicit false
/-! Pd: what the check says: expressions. -/
namespace Pd
open PySem PySem.Spec PyProof.Rows L2 TL Bits

def bltNames : List String := ["len", "abs", "int", "str", "sum", "max", "min", "any", "all", "list", "tuple", "sorted", "isinstance", "range", "enumerate", "zip", "set", "bool", "reversed"]
structure XOk (P : Prg) (c : Cn) (lv : Nat) (cl : Calls) (X : Cx) : Prop where
  K : c.K = X.K
  prog : c.prog = X.prog
  w : c.w = X.w
  calm : X.calm = true
  nd : X.N.Nodup
  room : Room (lv + 1) X.A
  blt : ∀ x ∈ bltNames, X.mg (nm x) = none
  F : ClsF c
  mno : ∀ (i : Nat) (f : Fn), P.fns[i]? = some f → ∀ j, c.fnm j ≠ some (nm f.name)
  fn : ∀ (i : Nat) (f : Fn), P.fns[i]? = some f → FnAt c X.prog X.w X.mg X.base lv f (cl.fn i)
  ar : ∀ (i : Nat) (f : Fn) ds t d t', P.fns[i]? = some f → cl.fn i ds t = .ok d t' → ds.length = f.np
  cls : ∀ (k : Nat) (C : Cls), P.cls[k]? = some C → ClsAt c X.mg k C ∧ ∃ F, P.fns[C.init]? = some F ∧ F.cls = some k ∧ F.name = "__init__"
  cn : ∀ k as t, cl.cn k as t = mkC P cl.fn k as t
  fld : ∀ (i : Nat) (s : String), P.flds[i]? = some s → c.fnm i = some (nm s)
  con : ∀ (x : String) (d : D), (x, d) ∈ P.cons → ∃ v u, X.mg (nm x) = some u ∧ L2.RelV v u ∧ ∀ g H, Rep c g H v d
section
variable {P : Prg} {c : Cn} {lv : Nat} {cl : Calls}
theorem XOk.blk {X : Cx} (O : XOk P c lv cl X) (s : Shared) (H : Hp) (scope : Scope) (env : PySem.Env) (fp : List Addr) : XOk P c lv cl (X.blk s H scope env fp) :=
  ⟨O.K, O.prog, O.w, O.calm, O.nd, O.room, O.blt, O.F, O.mno, O.fn, O.ar, O.cls, O.cn, O.fld, O.con⟩
theorem XOk.un {X : Cx} (O : XOk P c lv cl X) : X.A.units + 64 < cLine := O.room.units
theorem XOk.r0 {X : Cx} (O : XOk P c lv cl X) : Room lv X.A := O.room.mono (Nat.le_succ _)
theorem XOk.blt' {X : Cx} (O : XOk P c lv cl X) {x : String} (h : bltNames.contains x = true) : X.mg (nm x) = none := O.blt x (by simpa using h)

theorem evs_len : ∀ (es : Es) (ρ : Env) (t : T) (xs : List D) (t' : T), evs cl es ρ t = .ok xs t' → xs.length = esLen es
  | .nil, ρ, t, xs, t', h => by cases h; rfl
  | .cons e r, ρ, t, xs, t', h => by
    simp only [evs] at h
    cases h1 : ev cl e ρ t with
    | ok d t1 =>
      rw [h1] at h
      simp only [bnd_ok] at h
      cases h2 : evs cl r ρ t1 with
      | ok ds t2 =>
        rw [h2] at h
        simp only [bnd_ok] at h
        cases h
        rw [List.length_cons, evs_len r _ _ _ _ h2]; rfl
      | ex _ _ _ => rw [h2] at h; cases h
      | no => rw [h2] at h; cases h
    | ex _ _ _ => rw [h1] at h; cases h
    | no => rw [h1] at h; cases h
theorem mEs_len {M : MC} : ∀ {es : Es} {xs : List Expr}, mEs P M es xs = true → xs.length = esLen es ∧ noStars xs = true
  | .nil, xs, h => by
    cases xs with
    | nil => exact ⟨rfl, rfl⟩
    | cons _ _ => cases h
  | .cons e r, xs, h => by
    cases xs with
    | nil => cases h
    | cons x xs =>
      simp only [mEs, Bool.and_eq_true] at h
      obtain ⟨h1, h2⟩ := mEs_len h.2
      exact ⟨by rw [List.length_cons, h1]; rfl, by unfold noStars; rw [h.1.1, h2]; rfl⟩
theorem mKs_len {M : MC} : ∀ {es : Es} {xs : List Keyword}, mKs P M es xs = true → xs.length = esLen es
  | .nil, xs, h => by
    cases xs with
    | nil => rfl
    | cons _ _ => cases h
  | .cons e r, xs, h => by
    cases xs with
    | nil => cases h
    | cons x xs =>
      obtain ⟨n, v, p⟩ := x
      simp only [mKs, Bool.and_eq_true] at h
      rw [List.length_cons, mKs_len h.2]; rfl
theorem allSome_eq : ∀ {l : List (Option PySem.Str)} {ns : List PySem.Str}, allSome l = some ns → l = ns.map some
  | [], ns, h => by cases h; rfl
  | none :: _, ns, h => by cases h
  | some x :: r, ns, h => by
    obtain ⟨ms, e, rfl⟩ := Option.map_eq_some_iff.mp (show (allSome r).map (x :: ·) = some ns from h)
    rw [allSome_eq e]; rfl
theorem strB_nodup : ∀ {l : List PySem.Str}, strB l = true → l.Nodup
  | [], _ => List.nodup_nil
  | x :: r, h => by
    unfold strB at h
    simp only [Bool.and_eq_true, List.all_eq_true] at h
    refine List.nodup_cons.mpr ⟨fun hm => ?_, strB_nodup h.2⟩
    have q := h.1 x hm
    rw [show sEq x x = true from sEq_iff.mpr rfl] at q
    cases q
theorem natIn_mem {k : Nat} : ∀ {l : List Nat}, natIn k l = true → k ∈ l
  | [], h => by cases h
  | x :: r, h => by
    unfold natIn at h
    rcases (Bool.or_eq_true _ _).mp h with h | h
    · rw [Nat.eq_of_beq_eq_true h]; exact List.mem_cons_self
    · exact List.mem_cons_of_mem _ (natIn_mem h)
theorem pmB_ok {N ks : List PySem.Str} {n : Nat} {pm : List Nat} (h : pmB N ks n pm = true) : PmOk N ks n pm := by
  unfold pmB at h
  simp only [Bool.and_eq_true, decide_eq_true_eq, List.all_eq_true, List.mem_range] at h
  obtain ⟨⟨⟨⟨⟨h1, h2⟩, h3⟩, h4⟩, h5⟩, h6⟩ := h
  refine ⟨strB_nodup h1, strB_nodup h2, h3, h4, fun k hk => natIn_mem (h5 k hk), fun i k hi => ?_⟩
  have q := h6 i (List.getElem?_eq_some_iff.mp hi).1
  rw [hi] at q
  dsimp only at q
  split at q
  · rename_i x y e1 e2
    exact ⟨x, e1, by rw [e2, sEq_iff.mp q]⟩
  · cases q
theorem isFn_at {X : Cx} (O : XOk P c lv cl X) {f : Nat} {x : PySem.Str} (h : isFn P f x = true) : ∃ F, P.fns[f]? = some F ∧ F.cls = none ∧ x = nm F.name ∧ (nm F.name == ("__debug__" : PySem.Str)) = false := by
  unfold isFn at h
  split at h
  · rename_i F e
    simp only [Bool.and_eq_true] at h
    have e2 := sEq_iff.mp h.1.2
    refine ⟨F, e, by simpa using h.1.1, e2, ?_⟩
    rw [← e2]; exact (okN_iff h.2).1
  · cases h
/-- an operand -/
theorem sO_of {M : MC} {X : Cx} {en : En} (Ft : Fits M X) {e : E} {pe : Expr} (h : mE P M e pe = true) (hE : PE X pe (tE c en (fresh e) (ev cl e))) : PE X pe (tO c en fun ρ t => opd e ρ t (ev cl e ρ t)) := by
  cases e with
  | var i =>
    cases pe with
    | Name x p =>
      have h : M.var i (.Name x p) = true := h
      simp only [MC.var, Bool.and_eq_true] at h
      exact snd_peek (Ft.at h.1.1) (Ft.vis h.1.2) (okN_iff h.2).1 (okN_iff h.2).2
    | _ => cases h
  | _ => exact hE.pk
theorem sOn_of {M : MC} {X : Cx} {en : En} (Ft : Fits M X) (pk : Bool) {e : E} {pe : Expr} (h : mE P M e pe = true) (hE : PE X pe (tE c en (fresh e) (ev cl e))) : PE X pe (tOn pk c en fun ρ t => opn pk e ρ t (ev cl e ρ t)) := by
  cases pk with
  | true => exact tOn_tO (sO_of Ft h hE)
  | false => exact tOn_tE hE.esc
/-- a test by value -/
theorem sV_of {M : MC} {X : Cx} {en : En} (O : XOk P c lv cl X) (Ft : Fits M X) {e : E} {pe : Expr} (hv : byVal pe = true) (h : mE P M e pe = true) (hE : PE X pe (tE c en (fresh e) (ev cl e))) : PT X pe (tT c en fun ρ t => bnd (opd e ρ t (ev cl e ρ t)) fun x t => ofO (truthD t x) t) :=
  snd_tru O.K (sO_of Ft h hE) (byVal_true hv)
end
end Pd
set_option Elab.async false
set_option linter.all false
set_option maxRecDepth 100000
set_option autoImplicit false
/-! Pd: what the check says: expressions. -/
namespace Pd
open PySem PySem.Spec PyProof.Rows L2 TL Bits

section
variable {P : Prg} {c : Cn} {lv : Nat} {cl : Calls} {en : En}
theorem sB1 {M : MC} {X : Cx} (O : XOk P c lv cl X) (Ft : Fits M X) {b : B1} {x : Expr} {g : PySem.Str} {p pos : Pos} {fa : Env → T → R D} (hb : b1In b = none) (hg : sEq g (nm (b1N b)) = true) (hgl : M.glb g = true) (hx : noStar x = true) (ha : PE X x (tO c en fa)) :
    PE X (.Call (.Name g p) [x] [] pos) (tE c en true fun ρ t => bnd (fa ρ t) fun x t => ofO (b1D t b x) t) := by
  have e := sEq_iff.mp hg
  subst e
  have G := Ft.glb hgl
  have ha' := pa_one ha (star_cons hx)
  cases b with
  | len => exact snd_b1 (pe_callB (b1_len O.K) G (O.blt' (by decide)) boot_len ha' (by decide +kernel) (by decide +kernel) (star_cons hx) rfl)
  | abs => exact snd_b1 (pe_callB b1_abs G (O.blt' (by decide)) boot_abs ha' (by decide +kernel) (by decide +kernel) (star_cons hx) rfl)
  | int => exact snd_b1 (pe_callTy b1_int G (O.blt' (by decide)) boot_int ha' (by decide +kernel) (by decide +kernel) (star_cons hx) rfl)
  | str => exact snd_b1 (pe_callTy b1_str G (O.blt' (by decide)) boot_str ha' (by decide +kernel) (by decide +kernel) (star_cons hx) rfl)
  | sum => exact snd_b1 (pe_callB (b1_sum O.K O.calm) G (O.blt' (by decide)) boot_sum ha' (by decide +kernel) (by decide +kernel) (star_cons hx) rfl)
  | max => exact snd_b1 (pe_callB (b1_max O.K O.calm) G (O.blt' (by decide)) boot_max ha' (by decide +kernel) (by decide +kernel) (star_cons hx) rfl)
  | min => exact snd_b1 (pe_callB (b1_min O.K O.calm) G (O.blt' (by decide)) boot_min ha' (by decide +kernel) (by decide +kernel) (star_cons hx) rfl)
  | any => exact snd_b1 (pe_callB (b1_any O.K O.calm) G (O.blt' (by decide)) boot_any ha' (by decide +kernel) (by decide +kernel) (star_cons hx) rfl)
  | all => exact snd_b1 (pe_callB (b1_all O.K O.calm) G (O.blt' (by decide)) boot_all ha' (by decide +kernel) (by decide +kernel) (star_cons hx) rfl)
  | list => exact snd_b1 (pe_callTy (b1_list O.K) G (O.blt' (by decide)) boot_list ha' (by decide +kernel) (by decide +kernel) (star_cons hx) rfl)
  | tuple => exact snd_b1 (pe_callTy (b1_tuple O.K) G (O.blt' (by decide)) boot_tuple ha' (by decide +kernel) (by decide +kernel) (star_cons hx) rfl)
  | sorted => exact snd_b1 (pe_callB (b1_sorted O.K) G (O.blt' (by decide)) boot_sorted ha' (by decide +kernel) (by decide +kernel) (star_cons hx) rfl)
  | _ => cases hb
theorem sB1In {M : MC} {X : Cx} (O : XOk P c lv cl X) (Ft : Fits M X) {b : B1} {x : Expr} {g h : PySem.Str} {k : String} {p p2 q pos : Pos} {fa : Env → T → R D} (hb : b1In b = some k) (hg : sEq g (nm (b1N b)) = true) (hgl : M.glb g = true) (hh : sEq h (nm k) = true) (hhl : M.glb h = true) (hx : noStar x = true) (ha : PE X x (tO c en fa)) :
    PE X (.Call (.Name g p) [.Call (.Name h p2) [x] [] q] [] pos) (tE c en true fun ρ t => bnd (fa ρ t) fun x t => ofO (b1D t b x) t) := by
  have e := sEq_iff.mp hg
  subst e
  have e := sEq_iff.mp hh
  subst e
  have G := Ft.glb hgl
  have G2 := Ft.glb hhl
  cases b with
  | lenset => cases hb; exact snd_lenset O.K O.calm G (O.blt' (by decide)) G2 (O.blt' (by decide)) ha (star_cons hx)
  | lrange => cases hb; exact snd_lrange O.calm G (O.blt' (by decide)) G2 (O.blt' (by decide)) ha (star_cons hx)
  | trange => cases hb; exact snd_trange O.calm G (O.blt' (by decide)) G2 (O.blt' (by decide)) ha (star_cons hx)
  | _ => cases hb
theorem sameD_eq {a b : D} (h : sameD a b = true) : a = b := by
  cases a <;> cases b <;> first | cases h | skip
  · rfl
  · rw [of_decide_eq_true h]
  · rw [of_decide_eq_true h]
  · simp only [sameD, Bool.and_eq_true] at h
    rw [(lEq_iff _ _).mp h.1]
theorem sGlb {M : MC} {X : Cx} (O : XOk P c lv cl X) (Ft : Fits M X) {x : String} {d : D} {pe : Expr} (h : mE P M (.glb x d) pe = true) : PE X pe (tE c en false (ev cl (.glb x d))) := by
  unfold mE at h
  split at h
  · simp only [Bool.and_eq_true] at h
    obtain ⟨⟨⟨h1, h2⟩, h3⟩, h4⟩ := h
    have e := sEq_iff.mp h1
    subst e
    obtain ⟨q, hq, e⟩ := List.any_eq_true.mp h4
    simp only [Bool.and_eq_true, decide_eq_true_eq] at e
    obtain ⟨e1, e2⟩ := e
    have e2 := sameD_eq e2
    have hq : (x, d) ∈ P.cons := by
      have : q = (x, d) := by rw [← e1, e2]
      rw [← this]; exact hq
    obtain ⟨v, u, m1, m2, m3⟩ := O.con x d hq
    exact snd_kon (pe_glob (Ft.glb h2) m1 m2 (okN_iff h3).1) m3
  · cases h
theorem sB2 {M : MC} {X : Cx} (O : XOk P c lv cl X) (Ft : Fits M X) {b : B2} {x y : Expr} {g : PySem.Str} {p pos : Pos} {fa fb : Env → T → R D} (hg : sEq g (nm (b2N b)) = true) (hgl : M.glb g = true) (hx : noStar x = true) (hy : noStar y = true) (ha : PE X x (tO c en fa)) (hb : PE X y (tO c en fb)) :
    PE X (.Call (.Name g p) [x, y] [] pos) (tE c en false fun ρ t => bnd (fa ρ t) fun x t => bnd (fb ρ t) fun y t => ofO (b2D b x y) t) := by
  have e := sEq_iff.mp hg
  subst e
  have G := Ft.glb hgl
  have ha' := pa_cons ha (pa_one hb (star_cons hy)) (star_cons hx)
  have hp : (backTo pos (starEach [y] X.env)).any (·.1) = false := star_any (by unfold noStars; rw [hy]; rfl)
  cases b with
  | max => exact snd_b2 (pe_callB (b2_max O.calm) G (O.blt' (by decide)) boot_max ha' (by decide +kernel) (by decide +kernel) (star_cons hx) hp)
  | min => exact snd_b2 (pe_callB (b2_min O.calm) G (O.blt' (by decide)) boot_min ha' (by decide +kernel) (by decide +kernel) (star_cons hx) hp)
theorem ty_name {M : MC} {X : Cx} (O : XOk P c lv cl X) (Ft : Fits M X) {n : String} {x : PySem.Str} {p : Pos} (hn : n = "int" ∨ n = "bool" ∨ n = "str" ∨ n = "tuple" ∨ n = "list") (hx : sEq x (nm n) = true) (hg : M.glb x = true) : PE X (.Name x p) (tC (.ty n)) := by
  have e := sEq_iff.mp hx
  subst e
  have G := Ft.glb hg
  rcases hn with rfl | rfl | rfl | rfl | rfl
  · exact pe_bltn G (O.blt' (by decide)) boot_int rfl (by decide +kernel) (by decide +kernel)
  · exact pe_bltn G (O.blt' (by decide)) boot_bool rfl (by decide +kernel) (by decide +kernel)
  · exact pe_bltn G (O.blt' (by decide)) boot_str rfl (by decide +kernel) (by decide +kernel)
  · exact pe_bltn G (O.blt' (by decide)) boot_tuple rfl (by decide +kernel) (by decide +kernel)
  · exact pe_bltn G (O.blt' (by decide)) boot_list rfl (by decide +kernel) (by decide +kernel)
theorem sIsi {M : MC} {X : Cx} (O : XOk P c lv cl X) (Ft : Fits M X) {k : Ty} {x y : Expr} {g : PySem.Str} {p pos : Pos} {fa : Env → T → R D} (hg : sEq g (nm "isinstance") = true) (hgl : M.glb g = true) (hx : noStar x = true) (hk : mTy M k y = true) (ha : PE X x (tO c en fa)) :
    PE X (.Call (.Name g p) [x, y] [] pos) (tE c en false fun ρ t => bnd (fa ρ t) fun x t => ofO ((isiD t k x).map .bl) t) := by
  have e := sEq_iff.mp hg
  subst e
  have G := Ft.glb hgl
  have one : ∀ {n : String}, tyN k = [n] → (n = "int" ∨ n = "bool" ∨ n = "str" ∨ n = "tuple" ∨ n = "list") → ∀ {z : PySem.Str} {q : Pos}, y = .Name z q → sEq z (nm n) = true → M.glb z = true → PE X (.Call (.Name (nm "isinstance") p) [x, y] [] pos) (tE c en false fun ρ t => bnd (fa ρ t) fun x t => ofO ((isiD t k x).map .bl) t) := fun {n} hn ho {z q} hy hz hzg => by
    subst hy
    exact snd_isi1 hn (pe_callB (op_isi O.K k) G (O.blt' (by decide)) boot_isinstance (pa_cons ha (pa_cons (ty_name O Ft ho hz hzg) pa_nil rfl) (star_cons hx)) (by decide +kernel) (by decide +kernel) (star_cons hx) rfl)
  have nameCase : ∀ {z : PySem.Str} {q : Pos}, y = .Name z q → PE X (.Call (.Name (nm "isinstance") p) [x, y] [] pos) (tE c en false fun ρ t => bnd (fa ρ t) fun x t => ofO ((isiD t k x).map .bl) t) := fun {z q} hy => by
    subst hy
    cases k with
    | int => simp only [mTy, tyN, Bool.and_eq_true] at hk; exact one rfl (by simp) rfl hk.1 hk.2
    | bool => simp only [mTy, tyN, Bool.and_eq_true] at hk; exact one rfl (by simp) rfl hk.1 hk.2
    | str => simp only [mTy, tyN, Bool.and_eq_true] at hk; exact one rfl (by simp) rfl hk.1 hk.2
    | tup => simp only [mTy, tyN, Bool.and_eq_true] at hk; exact one rfl (by simp) rfl hk.1 hk.2
    | lst => simp only [mTy, tyN, Bool.and_eq_true] at hk; exact one rfl (by simp) rfl hk.1 hk.2
    | row => simp [mTy, tyN] at hk
  unfold mTy at hk
  split at hk
  · exact nameCase rfl
  · rename_i z q z2 q2 _ _
    simp only [Bool.and_eq_true] at hk
    obtain ⟨⟨⟨h1, h2⟩, h3⟩, h4⟩ := hk
    exact snd_isiR (pe_callB (op_isi O.K .row) G (O.blt' (by decide)) boot_isinstance (pa_cons ha (pa_cons (pe_tup (pa_cons (ty_name O Ft (by simp) h1 h3) (pa_cons (ty_name O Ft (by simp) h2 h4) pa_nil rfl) rfl)) pa_nil rfl) (star_cons hx)) (by decide +kernel) (by decide +kernel) (star_cons hx) rfl)
  · cases hk
mutual
theorem sTg {X : Cx} {M : MC} (O : XOk P c lv cl X) (Ft : Fits M X) : ∀ (g : Tg) (e : Expr), mTg M g e = true → PG X e (gD c en g)
  | .nm i, e, h => by
    cases e with
    | Name x p =>
      simp only [mTg, Bool.and_eq_true] at h
      obtain ⟨l1, l2⟩ := Ft.loc h.2
      exact snd_gnm O.nd (Ft.at h.1) l1 l2
    | _ => simp [mTg] at h
  | .tp gs, e, h => by
    cases e with
    | Tuple es k p =>
      have h : mTgs M gs es = true := by simpa only [mTg] using h
      obtain ⟨h1, h2, h3⟩ := sTgs O Ft gs es h
      exact snd_gtp O.K O.calm h1 (by rw [asg_len, h2]) (asg_idx h3)
    | _ => simp [mTg] at h
theorem sTgs {X : Cx} {M : MC} (O : XOk P c lv cl X) (Ft : Fits M X) : ∀ (g : Tgs) (es : List Expr), mTgs M g es = true → PGs X es (gDs c en g) ∧ es.length = tgsN g ∧ noStars es = true
  | .nil, es, h => by
    cases es with
    | nil => exact ⟨snd_gnil, rfl, rfl⟩
    | cons _ _ => simp [mTgs] at h
  | .cons g r, es, h => by
    cases es with
    | nil => simp [mTgs] at h
    | cons e es =>
      simp only [mTgs, Bool.and_eq_true] at h
      obtain ⟨h1, h2, h3⟩ := sTgs O Ft r es h.2
      refine ⟨snd_gcons (sTg O Ft g e h.1.2) h1 ?_, by rw [List.length_cons, h2]; rfl, by unfold noStars; rw [h.1.1, h3]; rfl⟩
      rw [asg_cons h.1.1]; rfl
end
theorem mT_val {M : MC} {a : E} {pe : Expr} (h : mT P M (.val a) pe = true) : mVal pe a = true ∧ mE P M a pe = true := by
  simp only [mT, Bool.and_eq_true] at h
  exact h
theorem sIf_of {X : Cx} {M : MC} {t : Tt} {ifs : List Expr} (h : (match ifs with
      | [] => isYes t
      | [e] => mT P M t e
      | _ => false) = true) (hT : ∀ e, mT P M t e = true → PT X e (tT c en (evT cl t))) : PTs X ifs (tT c en (evT cl t)) := by
  split at h
  · cases t with
    | yes => exact ⟨fun pins s σ H Q I ⟨ρ, t, g, s', r⟩ => pts_nil.run pins s σ H Q I ((show KT c g H t true Q from r) g H Step.refl s'.st)⟩
    | _ => cases h
  · exact pts_one (hT _ h)
  · cases h
theorem sW0 {X : Cx} {pos : Pos} : PW X (.BoolOp .And [] pos) (tT c en (evTAnd cl .nil)) := ⟨fun w pins s σ H Q I ⟨ρ, t, g, s', r⟩ => wpAny_pure ⟨H, I, (show KT c g H t true Q from r) g H Step.refl s'.st⟩⟩
theorem sW1 {X : Cx} {pos : Pos} : PW X (.BoolOp .Or [] pos) (tT c en (evTOr cl .nil)) := ⟨fun w pins s σ H Q I ⟨ρ, t, g, s', r⟩ => wpAny_pure ⟨H, I, (show KT c g H t false Q from r) g H Step.refl s'.st⟩⟩
theorem mKeys_len : ∀ {ds : List D} {ks : List (Option Expr)}, mKeys ds ks = true → ks.length = ds.length ∧ ks.all (·.isSome) = true
  | [], [], _ => ⟨rfl, rfl⟩
  | [], _ :: _, h => by cases h
  | _ :: _, [], h => by cases h
  | d :: ds, k :: ks, h => by
    simp only [mKeys, Bool.and_eq_true] at h
    obtain ⟨h1, h2⟩ := mKeys_len h.2
    refine ⟨by rw [List.length_cons, List.length_cons, h1], ?_⟩
    rw [List.all_cons, h2]
    cases k with
    | none => cases h.1
    | some _ => rfl
theorem itemsS_eq {a : E} (h : ∀ i, a ≠ .var i) (t : T) (x : D) : itemsS a t x = items x := by
  cases x with
  | obj n =>
    cases a <;> first | rfl | exact absurd rfl (h _)
  | _ => rfl
theorem pe_key {X : Cx} {d : D} {k : Key} {cs : Const} {j : Nat} {pos : Pos} (h : konB d cs = true) (hk : keyA d = some k) : PE X (.Constant cs j pos) (tC (kV k)) := by
  cases d with
  | int i =>
    cases hk
    cases cs with
    | int z =>
      have e : i = z := of_decide_eq_true h
      subst e
      exact pe_int
    | _ => cases h
  | str s =>
    cases hk
    cases cs with
    | str z =>
      simp only [konB, Bool.and_eq_true] at h
      have e := (lEq_iff _ _).mp h.1
      subst e
      exact pe_str
    | _ => cases h
  | _ => cases hk
theorem kOk_key {d : D} {cs : Const} (h : konB d cs = true) (hk : kOk d = true) : ∃ k, keyA d = some k := by
  cases d <;> first | exact ⟨_, rfl⟩ | cases hk
mutual
theorem sE {X : Cx} {M : MC} (O : XOk P c lv cl X) (Ft : Fits M X) : ∀ (e : E) (pe : Expr), mE P M e pe = true → PE X pe (tE c en (fresh e) (ev cl e))
  | .var i, pe, h => by
    cases pe with
    | Name x p =>
      have h : M.var i (.Name x p) = true := h
      simp only [MC.var, Bool.and_eq_true] at h
      exact snd_var (Ft.at h.1.1) (Ft.vis h.1.2) (okN_iff h.2).1 (okN_iff h.2).2
    | _ => cases h
  | .kon d, pe, h => by
    cases pe with
    | Constant k j p => exact snd_const h
    | _ => cases h
  | .glb x d, pe, h => sGlb O Ft h
  | .bin o a b, pe, h => by
    cases pe with
    | BinOp l op r p =>
      simp only [mE, Bool.and_eq_true, decide_eq_true_eq] at h
      obtain ⟨⟨rfl, h1⟩, h2⟩ := h
      exact snd_bin O.K o (sO_of Ft h1 (sE O Ft a l h1)) (sO_of Ft h2 (sE O Ft b r h2))
    | _ => cases h
  | .neg a, pe, h => by
    cases pe with
    | UnaryOp op x p =>
      cases op with
      | USub =>
        have h : mE P M a x = true := h
        exact snd_neg (sO_of Ft h (sE O Ft a x h))
      | _ => cases h
    | _ => cases h
  | .cmp o a b, pe, h => by
    unfold mE at h
    split at h
    · simp only [Bool.and_eq_true, decide_eq_true_eq] at h
      obtain ⟨⟨⟨rfl, h0⟩, h1⟩, h2⟩ := h
      exact snd_cmp O.K O.prog O.w O.un o (sO_of Ft h1 (sE O Ft a _ h1)) (sO_of Ft h2 (sE O Ft b _ h2)) (noSet_marks h0 _)
    · cases h
  | .chn o p a b d, pe, h => by
    unfold mE at h
    split at h
    · simp only [Bool.and_eq_true, decide_eq_true_eq] at h
      obtain ⟨⟨⟨⟨⟨rfl, rfl⟩, h0⟩, h1⟩, h2⟩, h3⟩ := h
      exact snd_chn O.K O.prog O.w O.un o p (sO_of Ft h1 (sE O Ft a _ h1)) (sO_of Ft h2 (sE O Ft b _ h2)) (sO_of Ft h3 (sE O Ft d _ h3)) (noSet_marks h0 _)
    · cases h
  | .and es, pe, h => by
    unfold mE at h
    split at h
    · exact sAnd O Ft es _ h
    · cases h
  | .or es, pe, h => by
    unfold mE at h
    split at h
    · exact sOr O Ft es _ h
    · cases h
  | .not a, pe, h => by
    unfold mE at h
    split at h
    · exact snd_not O.K (sO_of Ft h (sE O Ft a _ h))
    · cases h
  | .ife t a b, pe, h => by
    unfold mE at h
    split at h
    · simp only [Bool.and_eq_true] at h
      obtain ⟨⟨h1, h2⟩, h3⟩ := h
      exact snd_ife (sT O Ft t _ h1) (sE O Ft a _ h2).esc (sE O Ft b _ h3).esc
    · cases h
  | .call f as, pe, h => by
    unfold mE at h
    split at h
    · rename_i g p xs pos
      simp only [Bool.and_eq_true] at h
      obtain ⟨⟨h1, h2⟩, h3⟩ := h
      obtain ⟨F, e1, e2, rfl, e4⟩ := isFn_at O h1
      have ha := sEs O Ft as xs h3
      cases xs with
      | nil =>
        cases as with
        | nil => exact snd_call0 O.K (O.fn f F e1) O.r0 e2 (Ft.glb h2) (fun ds t d t' => O.ar f F ds t d t' e1) e4
        | cons _ _ => cases h3
      | cons x xs =>
        have hs := (mEs_len h3).2
        unfold noStars at hs
        simp only [Bool.and_eq_true] at hs
        exact snd_call O.K (O.fn f F e1) O.r0 e2 (Ft.glb h2) (fun ds t d t' => O.ar f F ds t d t' e1) e4 ha (star_cons hs.1) (star_any hs.2)
    · cases h
  | .callk f pm as ks, pe, h => by
    unfold mE at h
    split at h
    · rename_i g p xs kws pos
      simp only [Bool.and_eq_true] at h
      obtain ⟨⟨⟨⟨h1, h2⟩, h3⟩, h4⟩, h5⟩ := h
      obtain ⟨F, e1, e2, rfl, e4⟩ := isFn_at O h1
      rw [e1] at h5
      cases hk : allSome (kwNames kws) with
      | none => rw [hk] at h5; cases h5
      | some ns =>
        rw [hk] at h5
        have hkn := allSome_eq hk
        have hpm := pmB_ok h5
        have hs := (mEs_len h3).2
        refine snd_callk (n := esLen as) (ks := ns) O.K (O.fn f F e1) O.r0 e2 (Ft.glb h2) (fun ds t d t' => O.ar f F ds t d t' e1) e4 (sEs O Ft as xs h3) (fun e r he => ?_) (fun he ρ t => ?_) (star_any hs) (sKs O Ft ks kws h4) hkn hpm (fun ρ t xs t' he => evs_len as ρ t xs t' he) (fun ρ t xs t' he => ?_)
        · rw [he] at hs
          unfold noStars at hs
          simp only [Bool.and_eq_true] at hs
          exact star_cons hs.1
        · subst he
          cases as with
          | nil => rfl
          | cons _ _ => cases h3
        · have l1 := evs_len ks ρ t xs t' he
          have l2 := mKs_len h4
          have l3 := congrArg List.length hkn
          unfold kwNames at l3
          rw [List.length_map, List.length_map] at l3
          omega
    · cases h
  | .mth k m o as, pe, h => by
    unfold mE at h
    split at h
    · rename_i ob a apos xs pos
      simp only [Bool.and_eq_true, decide_eq_true_eq] at h
      obtain ⟨⟨⟨⟨⟨h1, h2⟩, h3⟩, h4⟩, h5⟩, h6⟩ := h
      unfold isMth at h1
      split at h1
      · rename_i F e1
        simp only [Bool.and_eq_true, decide_eq_true_eq] at h1
        obtain ⟨e2, e3⟩ := h1
        have e3 := sEq_iff.mp e3
        subst e3
        have ho := (sE O Ft o ob h5).esc
        have ha := sEs O Ft as xs h6
        cases xs with
        | nil =>
          cases as with
          | nil => exact snd_mth0 O.F O.K (O.fn m F e1) O.r0 e2 (fun ds t d t' => O.ar m F ds t d t' e1) (O.mno m F e1) ho (recv_base h2) (by simpa using h3)
          | cons _ _ => cases h6
        | cons x xs =>
          have hss := (mEs_len h6).2
          have hs := hss
          unfold noStars at hs
          simp only [Bool.and_eq_true] at hs
          exact snd_mth O.F O.K (O.fn m F e1) O.r0 e2 (fun ds t d t' => O.ar m F ds t d t' e1) (O.mno m F e1) ho (recv_base h2) (by simpa using h3) ha (star_cons hs.1) (star_any hs.2) (mform hss h4)
      · cases h1
    · cases h
  | .mk k as, pe, h => by
    unfold mE at h
    split at h
    · rename_i g p x xs pos
      simp only [Bool.and_eq_true] at h
      obtain ⟨⟨h1, h2⟩, h3⟩ := h
      unfold isCls at h1
      split at h1
      · rename_i C e1
        simp only [Bool.and_eq_true] at h1
        obtain ⟨e2, e3⟩ := h1
        have e2 := sEq_iff.mp e2
        subst e2
        obtain ⟨B, F, f1, f2, f3⟩ := O.cls k C e1
        have ha := sEs O Ft as (x :: xs) h3
        have hs := (mEs_len h3).2
        unfold noStars at hs
        simp only [Bool.and_eq_true] at hs
        have q := snd_mk (p := p) (pos := pos) (fn := cl.fn) O.K (O.fn C.init F f1) B O.room f2 f3 (Ft.glb h2) (fun ds t d t' => O.ar C.init F ds t d t' f1) (okN_iff e3).1 ha (star_cons hs.1) (star_any hs.2)
        refine q.imp fun σ H Q h => ?_
        have e : (ev cl (.mk k as)) = fun ρ t => bnd (evs cl as ρ t) fun xs t => bnd (cl.fn C.init (.obj t.length :: xs) (t ++ [.ins k []])) fun d t' => match d with
          | .non => .ok (.obj t.length) t'
          | _ => .no := by
          funext ρ t
          show bnd (evs cl as ρ t) (fun xs t => cl.cn k xs t) = _
          refine congrArg (bnd (evs cl as ρ t)) ?_
          funext xs t
          rw [O.cn]
          unfold mkC
          rw [e1] <;> rfl
        rw [e] at h
        exact h
      · cases h1
    · cases h
  | .b1 b a, pe, h => by
    unfold mE at h
    split at h
    · rename_i g p y pos
      simp only [Bool.and_eq_true] at h
      obtain ⟨⟨h1, h2⟩, h3⟩ := h
      have q : PE X (.Call (.Name g p) [y] [] pos) (tE c en true (ev cl (.b1 b a))) := by
        cases hb : b1In b with
        | none =>
          rw [hb] at h3
          simp only [Bool.and_eq_true] at h3
          exact sB1 (en := en) (p := p) (pos := pos) O Ft hb h1 h2 h3.1 (sO_of Ft h3.2 (sE O Ft a _ h3.2))
        | some k =>
          rw [hb] at h3
          dsimp only at h3
          split at h3
          · simp only [Bool.and_eq_true] at h3
            obtain ⟨⟨⟨h4, h5⟩, h6⟩, h7⟩ := h3
            exact sB1In (en := en) O Ft hb h1 h2 h4 h5 h6 (sO_of Ft h7 (sE O Ft a _ h7))
          · cases h3
      cases hf : fresh (.b1 b a) with
      | true => exact q
      | false => exact q.esc
    · cases h
  | .b2 b a d, pe, h => by
    unfold mE at h
    split at h
    · simp only [Bool.and_eq_true] at h
      obtain ⟨⟨⟨⟨⟨h1, h2⟩, h3⟩, h4⟩, h5⟩, h6⟩ := h
      exact sB2 O Ft h1 h2 h3 h4 (sO_of Ft h5 (sE O Ft a _ h5)) (sO_of Ft h6 (sE O Ft d _ h6))
    · cases h
  | .isi k a, pe, h => by
    unfold mE at h
    split at h
    · simp only [Bool.and_eq_true] at h
      obtain ⟨⟨⟨⟨h1, h2⟩, h3⟩, h4⟩, h5⟩ := h
      exact sIsi O Ft h1 h2 h3 h4 (sO_of Ft h5 (sE O Ft a _ h5))
    · cases h
  | .ix a i, pe, h => by
    unfold mE at h
    split at h
    · simp only [Bool.and_eq_true] at h
      obtain ⟨⟨h1, h2⟩, h3⟩ := h
      exact snd_ix O.K O.prog O.w O.un (sO_of Ft h2 (sE O Ft a _ h2)) (sO_of Ft h3 (sE O Ft i _ h3)) (noSlice_ix h1)
    · cases h
  | .sl a lo hi, pe, h => by
    unfold mE at h
    split at h
    · simp only [Bool.and_eq_true] at h
      obtain ⟨⟨h1, h2⟩, h3⟩ := h
      exact snd_sl O.K (sO_of Ft h1 (sE O Ft a _ h1)) (sP O Ft lo _ h2) (sP O Ft hi _ h3)
    · cases h
  | .lst es, pe, h => by
    unfold mE at h
    split at h
    · simp only [Bool.and_eq_true, decide_eq_true_eq] at h
      exact snd_lst (sEs O Ft es _ h.2) fun ρ t xs t' he => by rw [evs_len es ρ t xs t' he]; unfold sz; omega
    · cases h
  | .tup es, pe, h => by
    unfold mE at h
    split at h
    · simp only [Bool.and_eq_true, decide_eq_true_eq] at h
      exact snd_tup (sEs O Ft es _ h.2) fun ρ t xs t' he => by rw [evs_len es ρ t xs t' he]; unfold sz; omega
    · cases h
  | .newL es, pe, h => by
    unfold mE at h
    split at h
    · simp only [Bool.and_eq_true, decide_eq_true_eq] at h
      exact snd_newL (sEs O Ft es _ h.2) fun ρ t xs t' he => by rw [evs_len es ρ t xs t' he]; unfold sz; omega
    · cases h
  | .newD k, pe, h => by
    unfold mE at h
    split at h
    · exact snd_newD O.prog O.w k
    · cases h
  | .lobj a, pe, h => by
    unfold mE at h
    split at h
    · rename_i g p y pos
      simp only [Bool.and_eq_true] at h
      obtain ⟨⟨⟨h1, h2⟩, h3⟩, h4⟩ := h
      have e := sEq_iff.mp h1
      subst e
      exact snd_lobj (pe_callTy (b1_list O.K) (Ft.glb h2) (O.blt' (by decide)) boot_list (pa_one (sO_of Ft h4 (sE O Ft a y h4)) (star_cons h3)) (by decide +kernel) (by decide +kernel) (star_cons h3) rfl)
    · cases h
  | .dsp ks es, pe, h => by
    unfold mE at h
    split at h
    · rename_i keys values pos
      simp only [Bool.and_eq_true, decide_eq_true_eq, Bool.not_eq_true'] at h
      obtain ⟨⟨⟨⟨⟨⟨h1, h2⟩, h3⟩, h4⟩, h5⟩, h6⟩, h7⟩ := h
      obtain ⟨l1, l2⟩ := mKeys_len h5
      have l3 := (mEs_len h7).1
      exact snd_dsp (sPs O Ft es values ks keys h7 h5 h6 (List.all_eq_true.mp h3)) (fun ρ t xs t' he => by rw [evs_len es ρ t xs t' he, ← l3, ← h6, l1]) h3 h4 l2 h6 (fun z => by rw [z] at h2; cases h2) h1 (by omega)
    · cases h
  | .mkk k pm as ks, pe, h => by
    unfold mE at h
    split at h
    · rename_i g p xs kws pos
      simp only [Bool.and_eq_true] at h
      obtain ⟨⟨⟨⟨h1, h2⟩, h3⟩, h4⟩, h5⟩ := h
      unfold isCls at h1
      split at h1
      · rename_i C e1
        simp only [Bool.and_eq_true] at h1
        obtain ⟨e2, e3⟩ := h1
        have e2 := sEq_iff.mp e2
        subst e2
        obtain ⟨B, F, f1, f2, f3⟩ := O.cls k C e1
        rw [e1] at h5
        have h5 : (match P.fns[C.init]?, allSome (kwNames kws) with
          | some F, some ns => pmB ((F.N.take F.np).map nm) ns (esLen as + 1) pm
          | _, _ => false) = true := h5
        rw [f1] at h5
        cases hk : allSome (kwNames kws) with
        | none => rw [hk] at h5; cases h5
        | some ns =>
          rw [hk] at h5
          have hkn := allSome_eq hk
          have hpm := pmB_ok h5
          have hs := (mEs_len h3).2
          have q := snd_mkk (p := p) (pos := pos) (fn := cl.fn) (n := esLen as) (ks := ns) O.K (O.fn C.init F f1) B O.room f2 f3 (Ft.glb h2) (fun ds t d t' => O.ar C.init F ds t d t' f1) (okN_iff e3).1 (sEs O Ft as xs h3) (fun e r he => by
              rw [he] at hs
              unfold noStars at hs
              simp only [Bool.and_eq_true] at hs
              exact star_cons hs.1) (fun he ρ t => by
              subst he
              cases as with
              | nil => rfl
              | cons _ _ => cases h3) (star_any hs) (sKs O Ft ks kws h4) hkn hpm (fun ρ t xs t' he => evs_len as ρ t xs t' he) (fun ρ t xs t' he => by
              have l1 := evs_len ks ρ t xs t' he
              have l2 := mKs_len h4
              have l3 : (kwNames kws).length = kws.length := List.length_map ..
              rw [hkn, List.length_map] at l3
              omega)
          refine q.imp fun σ H Q h => ?_
          have e : (ev cl (.mkk k pm as ks)) = fun ρ t => bnd (evs cl as ρ t) fun xs t => bnd (evs cl ks ρ t) fun ys t => bnd (cl.fn C.init (.obj t.length :: (xs ++ pm.map fun k => ys.getD k .non)) (t ++ [.ins k []])) fun d t' => match d with
            | .non => .ok (.obj t.length) t'
            | _ => .no := by
            funext ρ t
            show bnd (evs cl as ρ t) (fun xs t => bnd (evs cl ks ρ t) fun ys t => cl.cn k (xs ++ pm.map fun k => ys.getD k .non) t) = _
            refine congrArg (bnd (evs cl as ρ t)) ?_
            funext xs t
            refine congrArg (bnd (evs cl ks ρ t)) ?_
            funext ys t
            rw [O.cn]
            unfold mkC
            rw [e1] <;> rfl
          rw [e] at h
          exact h
      · cases h1
    · cases h
  | .dm m o as, pe, h => by
    unfold mE at h
    split at h
    · rename_i ob a apos x xs pos
      simp only [Bool.and_eq_true, decide_eq_true_eq] at h
      obtain ⟨⟨⟨⟨⟨h1, h2⟩, h3⟩, h4⟩, h5⟩, h6⟩ := h
      have e := sEq_iff.mp h1
      subst e
      have hs := (mEs_len h6).2
      have hs2 := hs
      unfold noStars at hs
      simp only [Bool.and_eq_true] at hs
      exact snd_dm O.prog O.w O.un (sE O Ft o ob h5).esc (sEs O Ft as (x :: xs) h6) (recv_base h2) (few hs2 h4) (by simpa using h3) (star_cons hs.1) (star_any hs.2)
    · cases h
  | .comp s g own t b, pe, h => by
    unfold mE at h
    split at h
    · rename_i elt tg iter ifs scope pos
      simp only [Bool.and_eq_true] at h
      obtain ⟨⟨⟨⟨⟨⟨h1, h2⟩, h3⟩, h4⟩, h5⟩, h6⟩, h7⟩ := h
      have q := snd_comp (pos := pos) (en := en) O.calm O.nd (sSrc O Ft true s tg iter h2) (blkB_ok Ft h3) (gt := g) (ft := evT cl t) (fe := ev cl b) (by
          intro i hi
          rw [own_snd]
          have := List.all_eq_true.mp h4 i hi
          simpa using this)
        (fun s' H C cl' fp => sTg (O.blk s' H scope _ fp) (Ft.blk scope s' H C cl' fp) g tg h5)
        (fun s' H C cl' fp => sIf_of h6 fun e he => sT (O.blk s' H scope _ fp) (Ft.blk scope s' H C cl' fp) t e he)
        (fun s' H C cl' fp => (sE (O.blk s' H scope _ fp) (Ft.blk scope s' H C cl' fp) b elt h7).esc) (noSet_fold h1)
      rw [own_snd] at q
      exact q
    · cases h
  | .join a, pe, h => by
    unfold mE at h
    split at h
    · simp only [Bool.and_eq_true, decide_eq_true_eq] at h
      obtain ⟨⟨⟨⟨h1, h2⟩, h3⟩, h4⟩, h5⟩ := h
      have e1 := sEq_iff.mp h1
      have e2 := sEq_iff.mp h2
      subst e2
      exact snd_join e1 O.K (sO_of Ft h5 (sE O Ft a _ h5)) (star_cons h3) (by simpa using h4)
    · cases h
  | .fld o f, pe, h => by
    unfold mE at h
    split at h
    · simp only [Bool.and_eq_true] at h
      obtain ⟨⟨h1, h2⟩, h3⟩ := h
      unfold isFld at h1
      split at h1
      · rename_i s e1
        have e2 := sEq_iff.mp h1
        subst e2
        have e3 := O.fld f s e1
        exact snd_fld O.F e3 O.K (sE O Ft o _ h3).esc (recv_base h2)
      · cases h1
    · cases h
  | .never, pe, h => ⟨fun pins s σ H Q I ⟨ρ, t, g, s', r⟩ => r.elim⟩
theorem sT {X : Cx} {M : MC} (O : XOk P c lv cl X) (Ft : Fits M X) : ∀ (e : Tt) (pe : Expr), mT P M e pe = true → PT X pe (tT c en (evT cl e))
  | .yes, pe, h => by cases h
  | .not u, pe, h => by
    unfold mT at h
    split at h
    · exact snd_tnot (sT O Ft u _ h)
    · cases h
  | .and ts, pe, h => by
    unfold mT at h
    split at h
    · exact (sTAnd O Ft ts _ h).pt
    · cases h
  | .or ts, pe, h => by
    unfold mT at h
    split at h
    · exact (sTOr O Ft ts _ h).pt
    · cases h
  | .val (.cmp o a b), pe, h => by
    have h := mT_val h
    have h := h.2
    unfold mE at h
    split at h
    · simp only [Bool.and_eq_true, decide_eq_true_eq] at h
      obtain ⟨⟨⟨rfl, h0⟩, h1⟩, h2⟩ := h
      exact snd_cmpT O.K O.prog O.w O.un o (sO_of Ft h1 (sE O Ft a _ h1)) (sO_of Ft h2 (sE O Ft b _ h2)) (noSet_marks h0 _)
    · cases h
  | .val (.chn o p a b d), pe, h => by
    have h := mT_val h
    have h := h.2
    unfold mE at h
    split at h
    · simp only [Bool.and_eq_true, decide_eq_true_eq] at h
      obtain ⟨⟨⟨⟨⟨rfl, rfl⟩, h0⟩, h1⟩, h2⟩, h3⟩ := h
      exact snd_chnT O.K O.prog O.w O.un o p (sO_of Ft h1 (sE O Ft a _ h1)) (sO_of Ft h2 (sE O Ft b _ h2)) (sO_of Ft h3 (sE O Ft d _ h3)) (noSet_marks h0 _)
    · cases h
  | .val (.glb x d), pe, h => sV_of O Ft (mT_val h).1 (mT_val h).2 (sE O Ft (.glb x d) pe (mT_val h).2)
  | .val (.var i), pe, h => sV_of O Ft (mT_val h).1 (mT_val h).2 (sE O Ft (.var i) pe (mT_val h).2)
  | .val (.kon d), pe, h => sV_of O Ft (mT_val h).1 (mT_val h).2 (sE O Ft (.kon d) pe (mT_val h).2)
  | .val (.bin o a b), pe, h => sV_of O Ft (mT_val h).1 (mT_val h).2 (sE O Ft (.bin o a b) pe (mT_val h).2)
  | .val (.neg a), pe, h => sV_of O Ft (mT_val h).1 (mT_val h).2 (sE O Ft (.neg a) pe (mT_val h).2)
  | .val (.and es), pe, h => sV_of O Ft (mT_val h).1 (mT_val h).2 (sE O Ft (.and es) pe (mT_val h).2)
  | .val (.or es), pe, h => sV_of O Ft (mT_val h).1 (mT_val h).2 (sE O Ft (.or es) pe (mT_val h).2)
  | .val (.not a), pe, h => sV_of O Ft (mT_val h).1 (mT_val h).2 (sE O Ft (.not a) pe (mT_val h).2)
  | .val (.ife t a b), pe, h => sV_of O Ft (mT_val h).1 (mT_val h).2 (sE O Ft (.ife t a b) pe (mT_val h).2)
  | .val (.call f as), pe, h => sV_of O Ft (mT_val h).1 (mT_val h).2 (sE O Ft (.call f as) pe (mT_val h).2)
  | .val (.callk f pm as ks), pe, h => sV_of O Ft (mT_val h).1 (mT_val h).2 (sE O Ft (.callk f pm as ks) pe (mT_val h).2)
  | .val (.mth k m o as), pe, h => sV_of O Ft (mT_val h).1 (mT_val h).2 (sE O Ft (.mth k m o as) pe (mT_val h).2)
  | .val (.mk k as), pe, h => sV_of O Ft (mT_val h).1 (mT_val h).2 (sE O Ft (.mk k as) pe (mT_val h).2)
  | .val (.b1 b a), pe, h => sV_of O Ft (mT_val h).1 (mT_val h).2 (sE O Ft (.b1 b a) pe (mT_val h).2)
  | .val (.b2 b a d), pe, h => sV_of O Ft (mT_val h).1 (mT_val h).2 (sE O Ft (.b2 b a d) pe (mT_val h).2)
  | .val (.isi k a), pe, h => sV_of O Ft (mT_val h).1 (mT_val h).2 (sE O Ft (.isi k a) pe (mT_val h).2)
  | .val (.ix a i), pe, h => sV_of O Ft (mT_val h).1 (mT_val h).2 (sE O Ft (.ix a i) pe (mT_val h).2)
  | .val (.sl a lo hi), pe, h => sV_of O Ft (mT_val h).1 (mT_val h).2 (sE O Ft (.sl a lo hi) pe (mT_val h).2)
  | .val (.lst es), pe, h => sV_of O Ft (mT_val h).1 (mT_val h).2 (sE O Ft (.lst es) pe (mT_val h).2)
  | .val (.tup es), pe, h => sV_of O Ft (mT_val h).1 (mT_val h).2 (sE O Ft (.tup es) pe (mT_val h).2)
  | .val (.newL es), pe, h => sV_of O Ft (mT_val h).1 (mT_val h).2 (sE O Ft (.newL es) pe (mT_val h).2)
  | .val (.newD k), pe, h => sV_of O Ft (mT_val h).1 (mT_val h).2 (sE O Ft (.newD k) pe (mT_val h).2)
  | .val (.lobj a), pe, h => sV_of O Ft (mT_val h).1 (mT_val h).2 (sE O Ft (.lobj a) pe (mT_val h).2)
  | .val (.dsp ks es), pe, h => sV_of O Ft (mT_val h).1 (mT_val h).2 (sE O Ft (.dsp ks es) pe (mT_val h).2)
  | .val (.mkk k pm as ks), pe, h => sV_of O Ft (mT_val h).1 (mT_val h).2 (sE O Ft (.mkk k pm as ks) pe (mT_val h).2)
  | .val (.dm m o as), pe, h => sV_of O Ft (mT_val h).1 (mT_val h).2 (sE O Ft (.dm m o as) pe (mT_val h).2)
  | .val (.comp s g own t b), pe, h => sV_of O Ft (mT_val h).1 (mT_val h).2 (sE O Ft (.comp s g own t b) pe (mT_val h).2)
  | .val (.join a), pe, h => sV_of O Ft (mT_val h).1 (mT_val h).2 (sE O Ft (.join a) pe (mT_val h).2)
  | .val (.fld o f), pe, h => sV_of O Ft (mT_val h).1 (mT_val h).2 (sE O Ft (.fld o f) pe (mT_val h).2)
  | .val (.never), pe, h => sV_of O Ft (mT_val h).1 (mT_val h).2 (sE O Ft (.never) pe (mT_val h).2)
theorem sTAnd {X : Cx} {M : MC} (O : XOk P c lv cl X) (Ft : Fits M X) {pos : Pos} : ∀ (ts : Tts) (es : List Expr), mTts P M ts es = true → PW X (.BoolOp .And es pos) (tT c en (evTAnd cl ts))
  | .nil, es, h => by
    cases es with
    | nil => exact sW0
    | cons _ _ => cases h
  | .cons u r, es, h => by
    cases es with
    | nil => cases h
    | cons e es =>
      simp only [mTts, Bool.and_eq_true] at h
      have q := sT O Ft u e h.1
      cases r with
      | nil =>
        cases es with
        | nil => exact snd_tand1 q
        | cons _ _ => cases h.2
      | cons u2 r2 =>
        cases es with
        | nil => cases h.2
        | cons e2 es2 => exact snd_tand q (sTAnd O Ft (.cons u2 r2) (e2 :: es2) h.2)
theorem sTOr {X : Cx} {M : MC} (O : XOk P c lv cl X) (Ft : Fits M X) {pos : Pos} : ∀ (ts : Tts) (es : List Expr), mTts P M ts es = true → PW X (.BoolOp .Or es pos) (tT c en (evTOr cl ts))
  | .nil, es, h => by
    cases es with
    | nil => exact sW1
    | cons _ _ => cases h
  | .cons u r, es, h => by
    cases es with
    | nil => cases h
    | cons e es =>
      simp only [mTts, Bool.and_eq_true] at h
      have q := sT O Ft u e h.1
      cases r with
      | nil =>
        cases es with
        | nil => exact snd_tor1 q
        | cons _ _ => cases h.2
      | cons u2 r2 =>
        cases es with
        | nil => cases h.2
        | cons e2 es2 => exact snd_tor q (sTOr O Ft (.cons u2 r2) (e2 :: es2) h.2)
theorem sAnd {X : Cx} {M : MC} (O : XOk P c lv cl X) (Ft : Fits M X) {pos : Pos} : ∀ (ts : Es) (es : List Expr), mEs P M ts es = true → PE X (.BoolOp .And es pos) (tE c en false (evAnd cl ts))
  | .nil, es, h => ⟨fun pins s σ H Q I ⟨ρ, t, g, s', r⟩ => r.elim⟩
  | .cons u r, es, h => by
    cases es with
    | nil => cases h
    | cons e es =>
      simp only [mEs, Bool.and_eq_true] at h
      have q := (sE O Ft u e h.1.2).esc
      cases r with
      | nil =>
        cases es with
        | nil => exact snd_and1 q
        | cons _ _ => cases h.2
      | cons u2 r2 =>
        cases es with
        | nil => cases h.2
        | cons e2 es2 => exact snd_and O.K q (sAnd O Ft (.cons u2 r2) (e2 :: es2) h.2)
theorem sOr {X : Cx} {M : MC} (O : XOk P c lv cl X) (Ft : Fits M X) {pos : Pos} : ∀ (ts : Es) (es : List Expr), mEs P M ts es = true → PE X (.BoolOp .Or es pos) (tE c en false (evOr cl ts))
  | .nil, es, h => ⟨fun pins s σ H Q I ⟨ρ, t, g, s', r⟩ => r.elim⟩
  | .cons u r, es, h => by
    cases es with
    | nil => cases h
    | cons e es =>
      simp only [mEs, Bool.and_eq_true] at h
      have q := (sE O Ft u e h.1.2).esc
      cases r with
      | nil =>
        cases es with
        | nil => exact snd_and1 q
        | cons _ _ => cases h.2
      | cons u2 r2 =>
        cases es with
        | nil => cases h.2
        | cons e2 es2 => exact snd_or O.K q (sOr O Ft (.cons u2 r2) (e2 :: es2) h.2)
theorem sEs {X : Cx} {M : MC} (O : XOk P c lv cl X) (Ft : Fits M X) : ∀ (ts : Es) (es : List Expr), mEs P M ts es = true → PA X es (tAs c en (evs cl ts))
  | .nil, es, h => by
    cases es with
    | nil => exact snd_nil
    | cons _ _ => cases h
  | .cons u r, es, h => by
    cases es with
    | nil => cases h
    | cons e es =>
      simp only [mEs, Bool.and_eq_true] at h
      exact snd_cons (sE O Ft u e h.1.2).esc (sEs O Ft r es h.2) (star_cons h.1.1)
theorem sKs {X : Cx} {M : MC} (O : XOk P c lv cl X) (Ft : Fits M X) : ∀ (ts : Es) (es : List Keyword), mKs P M ts es = true → PK X es (tAs c en (evs cl ts))
  | .nil, es, h => by
    cases es with
    | nil => exact snd_knil
    | cons _ _ => cases h
  | .cons u r, es, h => by
    cases es with
    | nil => cases h
    | cons e es =>
      obtain ⟨n, v, p⟩ := e
      simp only [mKs, Bool.and_eq_true] at h
      exact snd_kcons (sE O Ft u v h.1).esc (sKs O Ft r es h.2)
theorem sPs {X : Cx} {M : MC} (O : XOk P c lv cl X) (Ft : Fits M X) {pos : Pos} : ∀ (es : Es) (values : List Expr) (ks : List D) (keys : List (Option Expr)), mEs P M es values = true → mKeys ks keys = true → keys.length = values.length → (∀ d ∈ ks, kOk d = true) → PsOk X c en pos keys values ks (evs cl es)
  | .nil, values, ks, keys, h, hk, hl, hok => by
    cases values with
    | cons _ _ => cases h
    | nil =>
      cases keys with
      | cons _ _ => cases hl
      | nil =>
        cases ks with
        | cons _ _ => cases hk
        | nil => exact ⟨[], pps_nil, fun σ H Q ⟨ρ, t, g, s, r⟩ => (show KA c g H t [] _ from r) [] g H Step.refl s.st rfl [] rfl⟩
  | .cons u r, values, ks, keys, h, hk, hl, hok => by
    cases values with
    | nil => cases h
    | cons v vs =>
      cases keys with
      | nil => cases hl
      | cons k keys =>
        cases ks with
        | nil => cases hk
        | cons d ks =>
          simp only [mEs, Bool.and_eq_true] at h
          simp only [mKeys, Bool.and_eq_true] at hk
          cases k with
          | none => exact absurd hk.1 (by simp)
          | some ke =>
            obtain ⟨trs, h1, h2⟩ := sPs O Ft (pos := pos) r vs ks keys h.2 hk.2 (by simpa using hl) (fun d hd => hok d (List.mem_cons_of_mem _ hd))
            cases ke with
            | Constant cs j p =>
              have hkon : konB d cs = true := hk.1
              obtain ⟨a, ha⟩ := kOk_key hkon (hok d List.mem_cons_self)
              · refine ⟨(tC (kV a), tE c en false (ev cl u)) :: trs, pps_cons (pe_key hkon ha) (sE O Ft u v h.1.2).esc h1, fun σ H Q ⟨ρ, t, g, s, rr⟩ => ?_⟩
                show tE c en false (ev cl u) σ H _
                refine ⟨ρ, t, g, s, (run_bnd (show run (bnd (ev cl u ρ t) fun x t => bnd (evs cl r ρ t) fun xs t => .ok (x :: xs) t) _ from rr)).mono fun x t1 r1 => ?_⟩
                rw [KF.fls]
                intro v1 g1 H1 st1 s1 rp1
                refine h2 σ H1 _ ⟨ρ, t1, g1, s.step st1 s1, (run_bnd r1).mono fun xs t2 r2 us g2 H2 st2 s2 rp2 l el => ?_⟩
                exact (show KA c g H t2 (x :: xs) _ from r2) (v1 :: us) g2 H2 (st1.trans st2) s2 ⟨v1, us, rfl, Rep.mono (st2.mo s1) x v1 rp1, rp2⟩ (a :: l) (by simp only [keyVs, ha, el]; rfl)
            | _ => exact absurd hk.1 (by simp)
theorem sP {X : Cx} {M : MC} (O : XOk P c lv cl X) (Ft : Fits M X) : ∀ (ts : Es) (o : Option Expr), mO P M ts o = true → PO X o (tPa c en (evP cl ts))
  | .nil, o, h => by
    cases o with
    | none => exact snd_pnone
    | some _ => cases h
  | .cons u r, o, h => by
    unfold mO at h
    split at h
    · exact snd_psome (sE O Ft u _ h).esc
    · cases h
theorem sSrc {X : Cx} {M : MC} (O : XOk P c lv cl X) (Ft : Fits M X) (pk : Bool) : ∀ (s : Src) (tg iter : Expr), mSrc P M s tg iter = true → PI X tg iter (tI pk c en (fun ρ xs => ckS s ρ xs) (evSrc cl s pk))
  | .seq a, tg, iter, h => by
    have h' : mE P M a iter = true := h
    have hE : PE X iter (tOn pk c en fun ρ t => opn pk a ρ t (ev cl a ρ t)) := sOn_of (P := P) Ft pk h' (sE O Ft a iter h')
    by_cases hv : ∃ i, a = .var i
    · obtain ⟨i, rfl⟩ := hv
      exact snd_seqV O.K hE
    · have q := snd_seq (tg := tg) (ckf := fun ρ xs => ckS (.seq a) ρ xs) O.K hE
      have e : (evSrc cl (.seq a) pk) = fun ρ t => bnd (opn pk a ρ t (ev cl a ρ t)) fun x t => ofO (items x) t := by
        funext ρ t
        show bnd (opn pk a ρ t (ev cl a ρ t)) (fun x t => ofO (itemsS a t x) t) = _
        congr 1
        funext x t
        rw [itemsS_eq fun i z => hv ⟨i, z⟩]
      rw [e]
      exact q
  | .rng a, tg, iter, h => by
    unfold mSrc at h
    split at h
    · simp only [Bool.and_eq_true] at h
      obtain ⟨⟨⟨h1, h2⟩, h3⟩, h4⟩ := h
      have e := sEq_iff.mp h1
      subst e
      exact snd_rng (Ft.glb h2) (O.blt' (by decide)) (sOn_of Ft pk h4 (sE O Ft a _ h4)) (star_cons h3)
    · cases h
  | .rng2 a b, tg, iter, h => by
    unfold mSrc at h
    split at h
    · simp only [Bool.and_eq_true] at h
      obtain ⟨⟨⟨⟨⟨h1, h2⟩, h3⟩, h3'⟩, h4⟩, h5⟩ := h
      have e := sEq_iff.mp h1
      subst e
      exact snd_rng2 (Ft.glb h2) (O.blt' (by decide)) (sOn_of Ft pk h4 (sE O Ft a _ h4)) (sOn_of Ft pk h5 (sE O Ft b _ h5)) (star_cons h3) (star_cons h3')
    · cases h
  | .enm a, tg, iter, h => by
    unfold mSrc at h
    split at h
    · simp only [Bool.and_eq_true] at h
      obtain ⟨⟨⟨h1, h2⟩, h3⟩, h4⟩ := h
      have e := sEq_iff.mp h1
      subst e
      exact snd_enm O.K (Ft.glb h2) (O.blt' (by decide)) (sOn_of Ft pk h4 (sE O Ft a _ h4)) (star_cons h3)
    · cases h
  | .zip a b, tg, iter, h => by
    unfold mSrc at h
    split at h
    · simp only [Bool.and_eq_true] at h
      obtain ⟨⟨⟨⟨⟨h1, h2⟩, h3⟩, h3'⟩, h4⟩, h5⟩ := h
      have e := sEq_iff.mp h1
      subst e
      exact snd_zip O.K (Ft.glb h2) (O.blt' (by decide)) (sOn_of Ft pk h4 (sE O Ft a _ h4)) (sOn_of Ft pk h5 (sE O Ft b _ h5)) (star_cons h3) (star_cons h3') (star_any (by unfold noStars; rw [h3']; rfl))
    · cases h
end
end
end Pd
set_option Elab.async false
set_option linter.all false
set_option maxRecDepth 100000
set_option autoImplicit false
/-! Pd: what the check says: statements. -/
namespace Pd
open PySem PySem.Spec PyProof.Rows L2 TL Bits

def muN : Mu → String
  | .append => "append" | .insert => "insert" | .pop => "pop" | .popAt => "pop" | .remove => "remove" | .extend => "extend" | .reverse => "reverse"
def noTup : Expr → Bool
  | .Tuple _ _ _ => false
  | _ => true
/-- the comprehension's value goes to its name ahead of the block's end -/
def MC.swap (M : MC) (x : PySem.Str) (line : Nat) : Expr → Bool
  | .ListComp _ _ scope p => M.isLoc x && decide (line = p.line) && !(scope.names.any fun y => sEq y.1 x && (match y.2 with | .local => true | .cell => true | _ => false))
  | _ => false
def compN : Expr → Bool
  | .ListComp _ _ _ _ => true
  | e => noComp e
theorem swap_eq {M : MC} {X : Cx} (Ft : Fits M X) (hk : X.env.scope.kind = .function) {x : PySem.Str} {p : Pos} {l : Nat} {e : Expr} (h : compN e = true) : swapsWith e (some (.Name x p)) l X.env = pure (M.swap x p.line e) := by
  have gen : noComp e = true → swapsWith e (some (.Name x p)) l X.env = pure (M.swap x p.line e) := fun hn => by
    rw [noComp_swap hn]
    cases e <;> first | rfl | cases hn
  cases e with
  | ListComp elt gens scope q =>
    show (pure (X.env.blockKind == .function && X.env.kindOf x == some .local && p.line == q.line && !(scope.names.any fun (n, k) => n == x && (k == .local || k == .cell))) : Sem Bool) = _
    congr 1
    have h1 : (X.env.blockKind == ScopeKind.function) = true := by
      unfold Env.blockKind
      rw [hk]; rfl
    have h2 : (X.env.kindOf x == some NameKind.local) = M.isLoc x := by
      show (X.env.scope.names.lookup x == some NameKind.local) = _
      unfold MC.isLoc
      rw [Ft.sc, kOf_eq]
      cases M.sc.names.lookup x with
      | none => rfl
      | some k => cases k <;> rfl
    have h3 : (p.line == q.line) = decide (p.line = q.line) := by
      cases hd : decide (p.line = q.line) with
      | true => simpa using of_decide_eq_true hd
      | false => simpa using of_decide_eq_false hd
    have h4 : (scope.names.any fun (n, k) => n == x && (k == .local || k == .cell)) = scope.names.any fun y => sEq y.1 x && (match y.2 with | .local => true | .cell => true | _ => false) := by
      congr 1
      funext ⟨n, k⟩
      have : (n == x) = sEq n x := by
        cases hs : sEq n x with
        | true => simpa using sEq_iff.mp hs
        | false => exact sEq_no hs
      show (n == x && (k == .local || k == .cell)) = (sEq n x && _)
      rw [this]
      congr 1
      cases k <;> rfl
    rw [h1, h2, h3, h4, Bool.true_and]
    rfl
  | _ => exact gen h
section
variable (P : Prg)
mutual
def mS (M : MC) : S → Stmt → Bool
  | .asg g e, st => match st with
    | .Assign [tg] v pos => (match g, tg with
      | .nm i, .Name x p => M.at i x && M.loc x && compN v && mE P M e v
      | .tp gs, tg => noComp v && noTup v && mTg M (.tp gs) tg && mE P M e v
      | _, _ => false)
    | _ => false
  | .setI o i e, st => match st with
    | .Assign [.Subscript a b _] v _ => noComp v && noSlice b && mE P M o a && mE P M i b && mE P M e v
    | _ => false
  | .setF o f e, st => match st with
    | .Assign [.Attribute a x _] v _ => isFld P f x && noComp v && mE P M o a && mE P M e v
    | _ => false
  | .aug i o e, st => match st with
    | .AugAssign (.Name x _) op v _ => M.at i x && M.loc x && decide (bop o = op) && decide (o = .add ∨ o = .sub) && mE P M e v
    | _ => false
  | .mut m i es, st => match st with
    | .Expr (.Call (.Attribute (.Name x _) a ap) xs [] cp) _ => M.at i x && M.vis x && okN x && sEq a (nm (muN m)) && decide (ap.endLine = cp.line) && decide (xs.length < 30) && (match m with
      | .pop => xs.isEmpty
      | .reverse => xs.isEmpty
      | .remove => decide (xs.length = 1)
      | _ => !xs.isEmpty) && mEs P M es xs
    | _ => false
  | .ifs t a b, st => match st with
    | .If c x y _ => mT P M t c && mSs M a x && mSs M b y
    | _ => false
  | .for g s b _, st => match st with
    | .For tg iter body [] _ => noSet iter && mSrc P M s tg iter && mTg M g tg && mSs M b body
    | _ => false
  | .whl _ t b _, st => match st with
    | .While c body [] _ => mT P M t c && mSs M b body
    | _ => false
  | .ret e, st => match st with
    | .Return (some v) _ => mE P M e v
    | _ => false
  | .retn, st => match st with
    | .Return none _ => true
    | _ => false
  | .brk, st => match st with
    | .Break _ => true
    | _ => false
  | .cont, st => match st with
    | .Continue _ => true
    | _ => false
  | .exp e, st => match st with
    | .Expr v _ => noComp v && mE P M e v
    | _ => false
  | .rai _ _, _ => false
  | .fg _, _ => false
  | .pas, st => match st with
    | .Pass _ => true
    | .Expr (.Constant (.str _) _ _) _ => true
    | _ => false
  | .never, _ => true
def mSs (M : MC) : Ss → List Stmt → Bool
  | .nil, sts => sts.isEmpty
  | .cons s r, sts => match s with
    | .fg _ => mSs M r sts
    | s => (match sts with
      | st :: sts => mS M s st && mSs M r sts
      | [] => false)
end
end
section
variable {P : Prg} {c : Cn} {lv : Nat} {cl : Calls} {en : En}
theorem noComp_sole {env : PySem.Env} {e : Expr} (h : noComp e = true) (t : Expr) (l : Nat) : swapsWithSole [t] e l env = pure false := by
  show swapsWith e (some t) l env = _
  exact noComp_swap h _ _
theorem sub_asg {env : PySem.Env} {o i : Expr} {p : Pos} (h : noSlice i = true) (v : Value) : assign (.Subscript o i p) env v = (do
      let ov ← holding [v] (eval o env)
      let iv ← holding [v, ov] (eval i env)
      standAt p
      holding [v, ov, iv] (setItem ov iv v)
      release [v, ov, iv] []) := by
  cases i <;> first | rfl | cases h
theorem sMut {X : Cx} {M : MC} (O : XOk P c lv cl X) (Ft : Fits M X) {m : Mu} {i : Nat} {es : Es} {x a : PySem.Str} {xs : List Expr} {np ap cp pos : Pos} (h0 : M.at i x = true) (h1 : M.vis x = true) (h2 : okN x = true) (h3 : sEq a (nm (muN m)) = true) (h4 : ap.endLine = cp.line) (h5 : xs.length < 30)
    (h6 : (match m with
      | .pop => xs.isEmpty
      | .reverse => xs.isEmpty
      | .remove => decide (xs.length = 1)
      | _ => !xs.isEmpty) = true) (h7 : mEs P M es xs = true) : PS X (.Expr (.Call (.Attribute (.Name x np) a ap) xs [] cp) pos) (tS c en (exec cl (.mut m i es))) := by
  have e := sEq_iff.mp h3
  subst e
  have N := Ft.at h0
  have V := Ft.vis h1
  obtain ⟨d1, d2⟩ := okN_iff h2
  have hl : (ap.endLine == cp.line) = true := by simpa using h4
  have ha := sEs (en := en) O Ft es xs h7
  have hss := (mEs_len h7).2
  cases xs with
  | nil =>
    cases es with
    | cons _ _ => cases h7
    | nil =>
      cases m with
      | pop => exact snd_mut0 _ mu_pop PySem.F.slot_list_pop PySem.F.type_list_pop mt_pop N V d1 d2 rfl hl rfl
      | reverse => exact snd_mut0 _ mu_reverse PySem.F.slot_list_reverse PySem.F.type_list_reverse mt_reverse N V d1 d2 rfl hl rfl
      | remove => simp at h6
      | append => simp at h6
      | insert => simp at h6
      | popAt => simp at h6
      | extend => simp at h6
  | cons e r =>
    have hs := hss
    unfold noStars at hs
    simp only [Bool.and_eq_true] at hs
    cases m with
    | pop => simp at h6
    | reverse => simp at h6
    | append => exact snd_mut _ mu_append PySem.F.slot_list_append PySem.F.type_list_append mt_append N V d1 d2 ha rfl (few hss h5) hl (star_cons hs.1) (star_any hs.2) rfl
    | insert => exact snd_mut _ mu_insert PySem.F.slot_list_insert PySem.F.type_list_insert mt_insert N V d1 d2 ha rfl (few hss h5) hl (star_cons hs.1) (star_any hs.2) rfl
    | popAt => exact snd_mut _ mu_popAt PySem.F.slot_list_pop PySem.F.type_list_pop mt_popAt N V d1 d2 ha rfl (few hss h5) hl (star_cons hs.1) (star_any hs.2) rfl
    | extend => exact snd_mut _ mu_extend PySem.F.slot_list_extend PySem.F.type_list_extend mt_extend N V d1 d2 ha rfl (few hss h5) hl (star_cons hs.1) (star_any hs.2) rfl
    | remove =>
      cases r with
      | cons _ _ => simp at h6
      | nil =>
        cases es with
        | nil => cases h7
        | cons e1 r1 =>
          simp only [mEs, Bool.and_eq_true] at h7
          cases r1 with
          | cons _ _ => cases h7.2
          | nil => exact snd_remove _ O.calm N V d1 d2 (sE O Ft e1 e h7.1.2).esc rfl (few hss h5) hl (star_cons hs.1) rfl rfl
theorem sAsgN {X : Cx} {M : MC} (O : XOk P c lv cl X) (Ft : Fits M X) (hk : X.env.scope.kind = .function) {i : Nat} {e : E} {x : PySem.Str} {v : Expr} {p pos : Pos} (h0 : M.at i x = true) (h1 : M.loc x = true) (h2 : compN v = true) (h3 : mE P M e v = true) : PS X (.Assign [.Name x p] v pos) (tS c en (exec cl (.asg (.nm i) e))) := by
  have N := Ft.at h0
  obtain ⟨l1, l2⟩ := Ft.loc h1
  have sw := swap_eq (p := p) (l := pos.line) (x := x) Ft hk h2
  cases hs : M.swap x p.line v with
  | false =>
    rw [hs] at sw
    exact snd_asg (esc e) O.nd N l1 l2 (sE O Ft e v h3) sw
  | true =>
    rw [hs] at sw
    cases v with
    | ListComp elt gens scope q =>
      have hl : M.isLoc x = true := by
        simp only [MC.swap, Bool.and_eq_true] at hs
        exact hs.1.1
      cases e with
      | comp s g own t b =>
        unfold mE at h3
        split at h3
        · rename_i elt' tg iter ifs scope' pos' heq
          cases heq
          simp only [Bool.and_eq_true] at h3
          obtain ⟨⟨⟨⟨⟨⟨h4, h5⟩, h6⟩, h7⟩, h8⟩, h9⟩, h10⟩ := h3
          have q := snd_asgLc (pos := pos) (pos' := p) (p2 := q) (en := en) (esc (.comp s g own t b)) O.calm O.nd N (Ft.isLoc hl) sw (sSrc O Ft true s tg iter h5) (blkB_ok Ft h6) (gt := g) (ft := evT cl t) (fe := ev cl b) (by
              intro i hi
              rw [own_snd]
              have := List.all_eq_true.mp h7 i hi
              simpa using this)
            (fun s' H C cl' fp => sTg (O.blk s' H scope _ fp) (Ft.blk scope s' H C cl' fp) g tg h8)
            (fun s' H C cl' fp => sIf_of h9 fun e he => sT (O.blk s' H scope _ fp) (Ft.blk scope s' H C cl' fp) t e he)
            (fun s' H C cl' fp => (sE (O.blk s' H scope _ fp) (Ft.blk scope s' H C cl' fp) b elt h10).esc) (noSet_fold h4)
          rw [own_snd] at q
          exact q
        · cases h3
      | never => exact ⟨fun pins s σ H D I ⟨ρ, t, g, s', k⟩ => k.elim⟩
      | var i => cases h3
      | _ => exact absurd h3 (by simp [mE])
    | _ => cases hs
mutual
theorem sS {X : Cx} {M : MC} (O : XOk P c lv cl X) (Ft : Fits M X) (hk : X.env.scope.kind = .function) (hp : PassesOwn (model X.prog X.w) X.A X.env X.xe) : ∀ (s : S) (st : Stmt), mS P M s st = true → PS X st (tS c en (exec cl s))
  | .asg g e, st, h => by
    unfold mS at h
    split at h
    · rename_i tg v pos
      cases g with
      | nm i =>
        cases tg with
        | Name x p =>
          simp only [Bool.and_eq_true] at h
          obtain ⟨⟨⟨h0, h1⟩, h2⟩, h3⟩ := h
          exact sAsgN O Ft hk h0 h1 h2 h3
        | _ => cases h
      | tp gs =>
        cases tg with
        | Tuple es k p =>
          have h : (noComp v && noTup v && mTg M (.tp gs) (.Tuple es k p) && mE P M e v) = true := h
          simp only [Bool.and_eq_true] at h
          obtain ⟨⟨⟨h0, h1⟩, h2⟩, h3⟩ := h
          refine snd_asgT (esc e) (sE O Ft e v h3).esc (sTg O Ft (.tp gs) _ h2) (noComp_sole h0 _ _) ?_ rfl
          cases v <;> first | rfl | cases h1
        | _ =>
          exfalso
          have h := h
          simp [mTg] at h
    · cases h
  | .setI o i e, st, h => by
    unfold mS at h
    split at h
    · rename_i a b pp v pos
      simp only [Bool.and_eq_true] at h
      obtain ⟨⟨⟨⟨h0, h1⟩, h2⟩, h3⟩, h4⟩ := h
      have hi := sO_of (en := en) Ft h3 (sE O Ft i b h3)
      have he := (sE (en := en) O Ft e v h4).esc
      have gen : isVar o = none → PS X (.Assign [.Subscript a b pp] v pos) (tS c en (exec cl (.setI o i e))) := fun hv => by
        have q := snd_setI O.prog O.w O.un (pos := pos) (pos' := pp) (esc e ++ esO i) (sO_of (en := en) Ft h2 (sE O Ft o a h2)) hi he (sub_asg h1) (noComp_sole h0 _ _) rfl rfl
        refine q.imp fun W σ H h => ?_
        have e1 : exec cl (.setI o i e) = fun ρ t => bo (ev cl e (frzAll ρ (esc e ++ esO i)) t) fun d t => bo (opd o (frzAll ρ (esc e ++ esO i)) t (ev cl o (frzAll ρ (esc e ++ esO i)) t)) fun x t =>
          bo (opd i (frzAll ρ (esc e ++ esO i)) t (ev cl i (frzAll ρ (esc e ++ esO i)) t)) fun j t => setK (frzAll ρ (esc e ++ esO i)) t none x j d := by
          funext ρ t
          show (bo _ fun d t => bo _ fun x t => bo _ fun j t => setK _ t (isVar o) x j d) = _
          rw [hv]
        rw [e1] at h
        exact h
      cases o with
      | var k =>
        cases a with
        | Name x np =>
          have h2 : M.var k (.Name x np) = true := h2
          simp only [MC.var, Bool.and_eq_true] at h2
          exact snd_setIv O.prog O.w O.un (esc e ++ esO i) (Ft.at h2.1.1) (Ft.vis h2.1.2) (okN_iff h2.2).1 (okN_iff h2.2).2 hi he (sub_asg h1) (noComp_sole h0 _ _) rfl rfl
        | _ => cases h2
      | _ => exact gen rfl
    · cases h
  | .setF o f e, st, h => by
    unfold mS at h
    split at h
    · simp only [Bool.and_eq_true] at h
      obtain ⟨⟨⟨h0, h1⟩, h2⟩, h3⟩ := h
      unfold isFld at h0
      split at h0
      · rename_i s e1
        have e2 := sEq_iff.mp h0
        subst e2
        exact snd_setF (esc e) O.F (O.fld f s e1) O.K (sE O Ft o _ h2).esc (sE O Ft e _ h3).esc (noComp_swap h1 _ _)
      · cases h0
    · cases h
  | .aug i o e, st, h => by
    unfold mS at h
    split at h
    · simp only [Bool.and_eq_true, decide_eq_true_eq] at h
      obtain ⟨⟨⟨⟨h0, h1⟩, rfl⟩, h2⟩, h3⟩ := h
      obtain ⟨l1, l2⟩ := Ft.loc h1
      exact snd_aug (esc e) O.nd (Ft.at h0) l1 l2 (sE O Ft e _ h3).esc h2
    · cases h
  | .mut m i es, st, h => by
    unfold mS at h
    split at h
    · simp only [Bool.and_eq_true, decide_eq_true_eq] at h
      obtain ⟨⟨⟨⟨⟨⟨⟨h0, h1⟩, h2⟩, h3⟩, h4⟩, h5⟩, h6⟩, h7⟩ := h
      refine sMut O Ft h0 h1 h2 h3 h4 h5 ?_ h7
      cases m <;> exact h6
    · cases h
  | .ifs t a b, st, h => by
    unfold mS at h
    split at h
    · simp only [Bool.and_eq_true] at h
      obtain ⟨⟨h0, h1⟩, h2⟩ := h
      exact snd_if (esT t) (sT O Ft t _ h0) (sSs O Ft hk hp a _ h1) (sSs O Ft hk hp b _ h2)
    · cases h
  | .for g s b fg, st, h => by
    unfold mS at h
    split at h
    · simp only [Bool.and_eq_true] at h
      obtain ⟨⟨⟨h0, h1⟩, h2⟩, h3⟩ := h
      exact snd_for (escS s) fg hp O.calm (sSrc O Ft false s _ _ h1) (sTg O Ft g _ h2) (sSs O Ft hk hp b _ h3) (noSet_fold h0)
    · cases h
  | .whl n t b fg, st, h => by
    unfold mS at h
    split at h
    · simp only [Bool.and_eq_true] at h
      obtain ⟨h0, h1⟩ := h
      exact snd_whl n (esT t) fg hp (sT O Ft t _ h0) (sSs O Ft hk hp b _ h1)
    · cases h
  | .ret e, st, h => by
    unfold mS at h
    split at h
    · exact snd_ret (esc e) (sE O Ft e _ h).esc
    · cases h
  | .retn, st, h => by
    unfold mS at h
    split at h
    · exact snd_retn
    · cases h
  | .brk, st, h => by
    unfold mS at h
    split at h
    · exact snd_brk
    · cases h
  | .cont, st, h => by
    unfold mS at h
    split at h
    · exact snd_cont
    · cases h
  | .exp e, st, h => by
    unfold mS at h
    split at h
    · simp only [Bool.and_eq_true] at h
      exact snd_exp (esc e) (sE O Ft e _ h.2).esc (noComp_swap h.1 _ _)
    · cases h
  | .rai _ _, st, h => by cases h
  | .fg _, st, h => by cases h
  | .pas, st, h => by
    unfold mS at h
    split at h
    · exact snd_pass
    · exact snd_doc
    · cases h
  | .never, st, h => snd_snever
theorem sSs {X : Cx} {M : MC} (O : XOk P c lv cl X) (Ft : Fits M X) (hk : X.env.scope.kind = .function) (hp : PassesOwn (model X.prog X.w) X.A X.env X.xe) : ∀ (s : Ss) (sts : List Stmt), mSs P M s sts = true → PSs X sts (tS c en (execs cl s))
  | .nil, sts, h => by
    cases sts with
    | nil => exact snd_ssnil
    | cons _ _ => cases h
  | .cons s r, sts, h => by
    have gen : ∀ {st : Stmt} {sts : List Stmt}, (mS P M s st && mSs P M r sts) = true → PSs X (st :: sts) (tS c en (execs cl (.cons s r))) := fun h => by
      simp only [Bool.and_eq_true] at h
      exact snd_sscons (sS O Ft hk hp s _ h.1) (sSs O Ft hk hp r _ h.2)
    cases s with
    | fg is => exact snd_sfg is (sSs O Ft hk hp r sts h)
    | _ =>
      cases sts with
      | nil => cases h
      | cons st sts => exact gen h
end
end
end Pd
set_option Elab.async false
set_option linter.all false
set_option maxRecDepth 100000
set_option autoImplicit false
/-! Pd: the program: each def does what its own text computes. -/
namespace Pd
open PySem PySem.Spec PyProof.Rows L2 TL Bits
open He (eqO eqO_ok)

/-! ### what a def made for itself alone -/
section
variable {c : Cn} {g : Gh} {H : Hp}
def Gh.cut (g : Gh) (n : Nat) : Gh := ⟨g.ob.take n, g.fz⟩
mutual
theorem Rep.cut {n : Nat} : ∀ (d : D) (v : V), low n d = true → Rep c g H v d → Rep c (g.cut n) H v d
  | .non, _, _, h => h
  | .bl _, _, _, h => h
  | .int _, _, _, h => h
  | .str _, _, _, h => h
  | .scr _, _, _, h => h
  | .tup ds, v, l, h => by
    obtain ⟨a, vs, e, f, q, r, z⟩ := h
    exact ⟨a, vs, e, f, q, Reps.cut ds vs l r, z⟩
  | .lst ds, v, l, h => by
    obtain ⟨a, vs, e, f, q, r, z⟩ := h
    exact ⟨a, vs, e, f, q, Reps.cut ds vs l r, z⟩
  | .obj k, v, l, h => by
    obtain ⟨a, e, q⟩ := h
    have hk : k < n := by simpa [low] using l
    exact ⟨a, e, by show (g.ob.take n)[k]? = _; rw [List.getElem?_take_of_lt hk]; exact q⟩
theorem Reps.cut {n : Nat} : ∀ (ds : List D) (vs : List V), lows n ds = true → Reps c g H vs ds → Reps c (g.cut n) H vs ds
  | [], _, _, h => h
  | d :: ds, vs, l, h => by
    obtain ⟨v, r, e, h1, h2⟩ := h
    simp only [lows, Bool.and_eq_true] at l
    exact ⟨v, r, e, Rep.cut d v l.1 h1, Reps.cut ds r l.2 h2⟩
end
theorem DRel.cut {n : Nat} : ∀ {xs : List Ent} {kvs : List (D × D)}, (∀ p ∈ kvs, low n p.1 = true ∧ low n p.2 = true) → DRel c g H xs kvs → DRel c (g.cut n) H xs kvs
  | [], [], _, _ => trivial
  | (k, b, u) :: xs, (dk, dv) :: kvs, l, h => by
    obtain ⟨h1, h2, ⟨v, h3, h4⟩, h5⟩ := h
    have z := l (dk, dv) (by simp)
    exact ⟨h1, Rep.cut _ _ z.1 h2, ⟨v, h3, Rep.cut _ _ z.2 h4⟩, DRel.cut (fun p hp => l p (by simp [hp])) h5⟩
  | [], _ :: _, _, h => h.elim
  | _ :: _, [], _, h => h.elim
theorem KRel.cut {n : Nat} : ∀ {xs : List (Key × V)} {kvs : List (D × D)}, (∀ p ∈ kvs, low n p.1 = true ∧ low n p.2 = true) → KRel c g H xs kvs → KRel c (g.cut n) H xs kvs
  | [], [], _, _ => trivial
  | (k, v) :: xs, (dk, dv) :: kvs, l, h =>
    ⟨h.1, Rep.cut _ _ (l (dk, dv) (by simp)).1 h.2.1, Rep.cut _ _ (l (dk, dv) (by simp)).2 h.2.2.1, KRel.cut (fun p hp => l p (by simp [hp])) h.2.2.2⟩
  | [], _ :: _, _, h => h.elim
  | _ :: _, [], _, h => h.elim
theorem ObR.cut {n : Nat} {a : Addr} {o : Ob} (l : lowO n o = true) (h : ObR c g H a o) : ObR c (g.cut n) H a o := by
  cases o with
  | lst ds =>
    obtain ⟨vs, q, r, z⟩ := h
    exact ⟨vs, q, Reps.cut ds vs l r, z⟩
  | dct b kvs =>
    have l1 : (kvs.all fun p => low n p.1 && low n p.2) = true := l
    simp only [List.all_eq_true, Bool.and_eq_true] at l1
    cases b with
    | false =>
      obtain ⟨ks, q, z, r⟩ := h
      exact ⟨ks, q, z, KRel.cut l1 r⟩
    | true =>
      obtain ⟨xs, q, r⟩ := h
      exact ⟨xs, q, DRel.cut l1 r⟩
  | ins k fs =>
    obtain ⟨C, dx, gs, h1, h2, h3, h4⟩ := h
    have l : (fs.all fun p => low n p.2) = true := l
    refine ⟨C, dx, gs, h1, h2, h3, Reps.cut _ _ ?_ h4⟩
    clear h3 h4
    induction fs with
    | nil => rfl
    | cons p fs ih =>
      simp only [List.all_cons, Bool.and_eq_true] at l
      show (low n p.2 && lows n (fs.map (·.2))) = true
      rw [l.1, ih l.2 l.2]; rfl
/-- the objects beyond those at the entry are forgotten -/
theorem StH.cut {en : En} {t : T} {n : Nat} (s : StH c g H t) (st : Step en.g en.H g H) (hn : en.g.ob.length = n) (l : (t.take n).all (lowO n) = true) : Step en.g en.H (g.cut n) H ∧ StH c (g.cut n) H (t.take n) := by
  have hp : g.ob.take n = en.g.ob := by
    obtain ⟨r, e⟩ := st.pre
    rw [← e, ← hn, List.take_left']
    rfl
  refine ⟨⟨by show en.g.ob <+: g.ob.take n; rw [hp]; exact List.prefix_refl _, st.fzm, st.fzn, fun a h => ?_, st.keep, st.tr⟩, ⟨?_, s.nd.sublist (List.take_sublist _ _), fun a h => s.nf a (List.mem_of_mem_take h), s.tr, fun i a o h1 h2 => ?_⟩⟩
  · exact st.obn a (List.mem_of_mem_take h)
  · show (g.ob.take n).length = (t.take n).length
    rw [List.length_take, List.length_take, s.len]
  · have h1 : (g.ob.take n)[i]? = some a := h1
    have hi : i < n := by
      have := (List.getElem?_eq_some_iff.mp h1).1
      rw [List.length_take] at this
      omega
    rw [List.getElem?_take_of_lt hi] at h1
    have hm := List.mem_of_getElem? h2
    rw [List.getElem?_take_of_lt hi] at h2
    exact ObR.cut (List.all_eq_true.mp l o hm) (s.obs i a o h1 h2)
end
theorem sweep_K {c : Cn} {en : En} {g' : Gh} {H' : Hp} {t t' : T} {gc : Bool} {d : D} {v : V} {Q : VK} (hl : en.g.ob.length = t.length) (st : Step en.g en.H g' H') (s : StH c g' H' t') (r : Rep c g' H' v d)
    (h : run (sweep gc t.length d t') fun d t'' => KD c en.g en.H t'' d Q) : Q v H' := by
  unfold sweep at h
  cases gc with
  | false => exact (show KD c en.g en.H t' d Q from h) v g' H' st s r
  | true =>
    by_cases hc : (low t.length d && (t'.take t.length).all (lowO t.length)) = true
    · rw [if_pos rfl, if_pos hc] at h
      simp only [Bool.and_eq_true] at hc
      obtain ⟨st2, s2⟩ := StH.cut s st hl hc.2
      exact (show KD c en.g en.H (t'.take t.length) d Q from h) v _ H' st2 s2 (Rep.cut d v hc.1 r)
    · rw [if_pos rfl, if_neg hc] at h
      exact h.elim

/-! ### a table of its own -/
mutual
theorem Rep.anyOb {c : Cn} {g g' : Gh} {H : Hp} (hf : ∀ a, g.fz a → g'.fz a) : ∀ (d : D) (v : V), low 0 d = true → Rep c g H v d → Rep c g' H v d
  | .non, _, _, h => h
  | .bl _, _, _, h => h
  | .int _, _, _, h => h
  | .str _, _, _, h => h
  | .scr ns, _, _, h => by
    obtain ⟨a, e, l, q⟩ := h
    refine ⟨a, e, l, ?_⟩
    rcases q with ⟨f, q⟩ | q
    · exact .inl ⟨hf a f, q⟩
    · exact .inr q
  | .tup ds, v, l, h => by
    obtain ⟨a, vs, e, f, q, r, z⟩ := h
    exact ⟨a, vs, e, hf a f, q, Reps.anyOb hf ds vs l r, z⟩
  | .lst ds, v, l, h => by
    obtain ⟨a, vs, e, f, q, r, z⟩ := h
    exact ⟨a, vs, e, hf a f, q, Reps.anyOb hf ds vs l r, z⟩
  | .obj k, v, l, h => by simp [low] at l
theorem Reps.anyOb {c : Cn} {g g' : Gh} {H : Hp} (hf : ∀ a, g.fz a → g'.fz a) : ∀ (ds : List D) (vs : List V), lows 0 ds = true → Reps c g H vs ds → Reps c g' H vs ds
  | [], _, _, h => h
  | d :: ds, vs, l, h => by
    obtain ⟨v, r, e, h1, h2⟩ := h
    simp only [lows, Bool.and_eq_true] at l
    exact ⟨v, r, e, Rep.anyOb hf d v l.1 h1, Reps.anyOb hf ds r l.2 h2⟩
end
theorem StH.bare {c : Cn} {g : Gh} {H : Hp} {t : T} (s : StH c g H t) : StH c ⟨[], g.fz⟩ H [] :=
  ⟨rfl, List.nodup_nil, fun a ha => absurd ha (by simp), s.tr, fun i a o h1 _ => by simp at h1⟩
/-- back from a table of its own -/
theorem bare_back {c : Cn} {g g' : Gh} {H H' : Hp} {t : T} (s : StH c g H t) (st : Step ⟨[], g.fz⟩ H g' H') (tr : ∀ a, g'.fz a → H' a ≠ none) : Step g H ⟨g.ob, g'.fz⟩ H' ∧ StH c ⟨g.ob, g'.fz⟩ H' t := by
  have st' : Step g H ⟨g.ob, g'.fz⟩ H' := ⟨List.prefix_refl _, st.fzm, st.fzn, fun _ h => .inl h, fun a o h _ => st.keep a o h (by simp), st.tr⟩
  refine ⟨st', s.step st' rfl (fun a ha => ?_) tr⟩
  obtain ⟨o, e⟩ := not_none (s.there ha)
  rw [e]
  exact st.keep a o e (by simp)
theorem outF_K {c : Cn} {g g' : Gh} {H H' : Hp} {t : T} {d : D} {v : V} {Q : VK} (s : StH c g H t) (st : Step ⟨[], g.fz⟩ H g' H') (tr : ∀ a, g'.fz a → H' a ≠ none) (r : Rep c g' H' v d) (l : low 0 d = true) (k : KD c g H t d Q) : Q v H' := by
  obtain ⟨st', s'⟩ := bare_back s st tr
  exact k v _ H' st' s' (Rep.anyOb (g := g') (g' := ⟨g.ob, g'.fz⟩) (fun _ h => h) d v l r)

/-! ### the entry -/
theorem look_start : ∀ (ds : List D) (k i : Nat), look (ds.map .val ++ List.replicate k .un) i = match ds[i]? with
    | some d => .val d
    | none => .un
  | [], k, i => by
    show look (List.replicate k .un) i = _
    induction k generalizing i with
    | zero => rfl
    | succ k ih =>
      rw [List.replicate_succ]
      cases i with
      | zero => rfl
      | succ i => simpa [look] using ih i
  | d :: ds, k, 0 => rfl
  | d :: ds, k, i + 1 => by
    show look (ds.map .val ++ List.replicate k .un) i = _
    rw [look_start ds k i]
    simp
theorem SR.start {c : Cn} {g : Gh} {H : Hp} {t : T} {N : List PySem.Str} {n : Nat} {vs : List V} {ds : List D} (s : StH c g H t) (r : Reps c g H vs ds) (hN : N.length = n) (hl : ds.length ≤ n) : SR c ⟨g, H⟩ g (start N vs) H (ds.map .val ++ List.replicate (n - ds.length) .un) t where
  st := s
  ent := Step.refl
  len := by
    have := Reps.length r
    unfold L2.start
    rw [List.length_append, List.length_append, List.length_map, List.length_map, List.length_replicate, List.length_replicate]
    omega
  cell := fun i => by
    rw [look_start]
    cases e : ds[i]? with
    | none => trivial
    | some d =>
      obtain ⟨v, e1, q⟩ := Reps.get r e
      refine ⟨v, ?_, q⟩
      unfold L2.start
      rw [List.getElem?_append_left (by rw [List.length_map]; exact (List.getElem?_eq_some_iff.mp e1).1), List.getElem?_map, e1]
      rfl
  dis := fun i j a h1 h2 => by
    rw [look_start] at h1
    cases e : ds[i]? <;> (rw [e] at h1; cases h1)

/-! ### a def -/
def caOf (P : Prg) (K : PySem.W.Frag) (k : Nat) : Option Addr := (P.cls[k]?).bind fun C => match PySem.W.nsIn K mainGlobals (nm C.name) with
    | some (some (.ref a)) => some a
    | _ => none
def cnOf (prog : Program) (w : World) (P : Prg) (K : PySem.W.Frag) : Cn where
  K := K
  prog := prog
  w := w
  ca := caOf P K
  fnm := fun i => (P.flds[i]?).map nm
/-- where a def lies -/
def fnA (P : Prg) (K : PySem.W.Frag) (f : Fn) : Option Addr := match f.cls with
  | none => (match PySem.W.nsIn K mainGlobals (nm f.name) with
    | some (some (.ref a)) => some a
    | _ => none)
  | some k => (match caOf P K k with
    | some C => (match PySem.W.findIn K (.ref C) (nm f.name) with
      | some (some (.ref a)) => if PySem.W.isFn K (.ref a) then some a else none
      | _ => none)
    | none => none)
def scB (sc : Scope) (ps : List PySem.Str) : Bool := (match sc.kind with
  | .function => true
  | _ => false) && !sc.isCoroutine && !sc.isGenerator && (ps.all fun x => match kOf sc.names x with
    | some .local => true
    | some .cell => true
    | _ => false) && sc.names.all fun y => match y.2 with
    | .free => false
    | _ => true
def namesEq : List PySem.Str → List PySem.Str → Bool
  | [], [] => true
  | a :: r, b :: s => sEq a b && namesEq r s
  | _, _ => false
theorem namesEq_iff : ∀ {a b : List PySem.Str}, namesEq a b = true → a = b
  | [], [], _ => rfl
  | [], _ :: _, h => by cases h
  | _ :: _, [], h => by cases h
  | a :: r, b :: s, h => by
    simp only [namesEq, Bool.and_eq_true] at h
    rw [sEq_iff.mp h.1, namesEq_iff h.2]
def fdB (P : Prg) (K : PySem.W.Frag) (f : Fn) (fd : FuncData) : Bool :=
  match fd.body, fd.params, fd.defaults with
  | .stmts b, ⟨[], as, none, [], [], none, []⟩, .none => decide (fd.globals = mainGlobals) && fd.closure.isEmpty && decide (fd.builtins = builtinsNs) && PySem.W.codeIn K fd.code fd.qualname && scB fd.scope (as.map (·.arg)) &&
    namesEq (as.map (·.arg)) ((f.N.take f.np).map nm) && strB (f.N.map nm) && decide (f.np ≤ f.N.length) && mSs P ⟨f.N.map nm, fd.scope, fun _ => true⟩ f.body b
  | _, _, _ => false
def fnB (P : Prg) (K : PySem.W.Frag) (f : Fn) : Bool := match fnA P K f with
  | some a => (match K.lookup a with
    | some ⟨_, _, .func fd, _⟩ => PySem.W.keepIn K (.ref a) && fdB P K f fd
    | _ => false)
  | none => false
theorem fd_eq {fd : FuncData} {b : List Stmt} {as : List PySem.Arg} (h1 : fd.body = .stmts b) (h2 : fd.params = ⟨[], as, none, [], [], none, []⟩) (h3 : fd.defaults = .none) (h4 : fd.globals = mainGlobals) (h5 : fd.closure = []) (h6 : fd.builtins = builtinsNs) :
    fd = PySem.W.fnOf fd.name fd.qualname { posonlyargs := [], args := as, vararg := none, kwonlyargs := [], kw_defaults := [], kwarg := none, defaults := [] } b fd.scope .none fd.kwdefaults fd.doc fd.pyModule fd.annotations fd.code fd.closureTuple := by
  cases fd
  dsimp only at h1 h2 h3 h4 h5 h6
  subst h1 h2 h3 h4 h5 h6
  rfl
section
variable {P : Prg} {K : PySem.W.Frag} {c : Cn} {prog : Program} {w : World} {mg : PySem.Str → Option Value} {base : Heap} {lv : Nat} {cl : Calls}
theorem fnOk_of {f : Fn} {fd : FuncData} {a : Addr} {oc : Value} {od : Option Addr} {osl : Array (Option Value)} (hc : c.K = K) (lk : K.lookup a = some ⟨oc, od, .func fd, osl⟩) (h : fdB P K f fd = true)
    (O : ∀ X : Cx, X.prog = prog → X.w = w → X.K = K → X.mg = mg → X.base = base → X.calm = true → X.N.Nodup → Room (lv + 1) X.A → XOk P c lv cl X) :
    Plain fd ((f.N.take f.np).map nm) ∧ FnOk prog w K mg base CX0 (lv + 2) a fd ((f.N.take f.np).map nm) (spF c (runF cl f) f.np) := by
  unfold fdB at h
  split at h
  · rename_i b as e1 e2 e3
    simp only [Bool.and_eq_true, decide_eq_true_eq] at h
    obtain ⟨⟨⟨⟨⟨⟨⟨⟨h1, h2⟩, h3⟩, h4⟩, h5⟩, h6⟩, h7⟩, h8⟩, h9⟩ := h
    have h2 : fd.closure = [] := by simpa using h2
    have eps := namesEq_iff h6
    have nd := strB_nodup h7
    have efd := fd_eq e1 e2 e3 h1 h2 h3
    unfold scB at h5
    simp only [Bool.and_eq_true, Bool.not_eq_true', List.all_eq_true] at h5
    obtain ⟨⟨⟨⟨k1, k2⟩, k3⟩, k4⟩, k5⟩ := h5
    have kd : fd.scope.kind = .function := by
      split at k1
      · assumption
      · cases k1
    have pl : (f.N.take f.np).length = f.np := by rw [List.length_take]; omega
    have S : FnScope (f.N.map nm) ((f.N.take f.np).map nm) fd.scope := {
      kind := kd
      co := k2
      gen := k3
      nd := nd
      pre := by rw [List.length_map, pl, List.map_take]
      par := fun x hx => by
        have q := k4 x (by rw [eps]; exact hx)
        rw [kOf_eq] at q
        split at q <;> first | exact .inl (by assumption) | exact .inr (by assumption) | cases q
      nofree := fun y hy e => by
        have q := k5 y hy
        rw [e] at q
        cases q }
    refine ⟨⟨fd.name, fd.qualname, as, b, fd.scope, fd.kwdefaults, fd.doc, fd.pyModule, fd.code, fd.closureTuple, fd.annotations, efd, eps.symm, by rw [List.map_take]; exact nd.sublist (List.take_sublist _ _)⟩, ?_⟩
    have main : FnOk prog w K mg base CX0 (lv + 1 + 1) a (PySem.W.fnOf fd.name fd.qualname { posonlyargs := [], args := as, vararg := none, kwonlyargs := [], kw_defaults := [], kwarg := none, defaults := [] } b fd.scope .none fd.kwdefaults fd.doc fd.pyModule fd.annotations fd.code fd.closureTuple) ((f.N.take f.np).map nm) (spF c (runF cl f) f.np) := by
      refine fn_of (by rw [lk]; exact congrArg (fun z => some (⟨oc, od, .func z, osl⟩ : Obj)) efd) h4 S (fun vs H Q E ⟨g, t, ds, s, r, l, _⟩ => by rw [Reps.length r, l, List.length_map, pl]) fun A outer s H vs Q E hr ⟨g, t, ds, sH, rr, l, rn⟩ => ?_
      have OX := O (cxOf CX0 prog w K mg base (f.N.map nm) fd.qualname fd.scope a fd.code A outer s H E) rfl rfl rfl rfl rfl rfl nd hr
      have Ft : Fits ⟨f.N.map nm, fd.scope, fun _ => true⟩ (cxOf CX0 prog w K mg base (f.N.map nm) fd.qualname fd.scope a fd.code A outer s H E) := ⟨rfl, rfl, rfl⟩
      unfold runF at rn
      rw [if_pos l] at rn
      by_cases hgc : f.gc = 2
      · rw [hgc] at rn
        have rn : run (if lows 0 ds then outF t (execs cl f.body (ds.map .val ++ List.replicate (f.N.length - ds.length) .un) []) else .no) fun d t' => KD c g H t' d Q := rn
        by_cases hlow : lows 0 ds = true
        · rw [if_pos hlow] at rn
          refine ⟨tS c ⟨⟨[], g.fz⟩, H⟩ (execs cl f.body), sSs OX Ft kd (passes_of rfl) f.body b h9, _, [], ⟨[], g.fz⟩, SR.start (n := f.N.length) sH.bare (Reps.anyOb (g := g) (g' := ⟨[], g.fz⟩) (fun _ h => h) ds vs hlow rr) (List.length_map ..) (by omega), ?_⟩
          cases ho : execs cl f.body (ds.map .val ++ List.replicate (f.N.length - ds.length) .un) [] with
          | nx ρ t' =>
            rw [ho] at rn
            exact fun σ' g' H' m s' => outF_K (v := .non) (d := .non) sH s'.ent s'.st.tr rfl rfl rn
          | ret d t' =>
            rw [ho] at rn
            have rn : run (if low 0 d then R.ok d t else .no) fun d t' => KD c g H t' d Q := rn
            by_cases hd : low 0 d = true
            · rw [if_pos hd] at rn
              exact fun v g' H' st s' r' => outF_K sH st s'.tr r' hd rn
            · rw [if_neg hd] at rn; exact rn.elim
          | brk _ _ => rw [ho] at rn; exact rn.elim
          | cont _ _ => rw [ho] at rn; exact rn.elim
          | ex _ _ _ => rw [ho] at rn; exact rn.elim
          | no => rw [ho] at rn; exact rn.elim
        · rw [if_neg hlow] at rn; exact rn.elim
      · have rn : run (outR (f.gc == 1) t.length (execs cl f.body (ds.map .val ++ List.replicate (f.N.length - ds.length) .un) t)) fun d t' => KD c g H t' d Q := by
          cases hk : f.gc with
          | zero => rw [hk] at rn; exact rn
          | succ k =>
            cases k with
            | zero => rw [hk] at rn; exact rn
            | succ k =>
              cases k with
              | zero => exact absurd hk hgc
              | succ k => rw [hk] at rn; exact rn
        refine ⟨tS c ⟨g, H⟩ (execs cl f.body), sSs OX Ft kd (passes_of rfl) f.body b h9, _, t, g, SR.start (n := f.N.length) sH rr (List.length_map ..) (by omega), ?_⟩
        cases ho : execs cl f.body (ds.map .val ++ List.replicate (f.N.length - ds.length) .un) t with
        | nx ρ t' =>
          rw [ho] at rn
          exact fun σ' g' H' m s' => sweep_K (v := .non) (d := .non) (en := ⟨g, H⟩) sH.len s'.ent s'.st rfl rn
        | ret d t' =>
          rw [ho] at rn
          exact fun v g' H' st s' r' => sweep_K (en := ⟨g, H⟩) sH.len st s' r' rn
        | brk _ _ => rw [ho] at rn; exact rn.elim
        | cont _ _ => rw [ho] at rn; exact rn.elim
        | ex _ _ _ => rw [ho] at rn; exact rn.elim
        | no => rw [ho] at rn; exact rn.elim
    rw [← efd] at main
    exact main
  · cases h
theorem runF_len {f : Fn} {ds : List D} {t : T} {d : D} {t' : T} (h : runF cl f ds t = .ok d t') : ds.length = f.np := by
  unfold runF at h
  by_cases l : ds.length = f.np
  · exact l
  · rw [if_neg l] at h; cases h

/-! ### the program -/
def clsB (P : Prg) (K : PySem.W.Frag) (k : Nat) : Bool := match P.cls[k]?, caOf P K k with
  | some C, some a => PySem.W.plainGet K a Str.empty && PySem.W.hasDictIn K a && PySem.W.plainOver K a && eqO (PySem.W.findIn K (.ref a) "__setattr__") (some (some (.builtin "object.__setattr__"))) &&
    PySem.W.makesIn K a && PySem.W.keepIn K (.ref a) && (P.flds.all fun s => eqO (PySem.W.findIn K (.ref a) (nm s)) (some none)) && (match P.fns[C.init]? with
    | some F => decide (F.cls = some k) && decide (F.name = "__init__")
    | none => false)
  | _, _ => false
def conB (K : PySem.W.Frag) (x : String) (d : D) : Bool := match PySem.W.nsIn K mainGlobals (nm x), d with
  | some (some (.int j _)), .int i => decide (j = i)
  | some (some (.str y _)), .str s => lEq s y.cps.toList && okSB s
  | _, _ => false
def progB (P : Prg) (K : PySem.W.Frag) : Bool :=
  (P.fns.all fun f => fnB P K f) && ((List.range P.cls.length).all fun k => clsB P K k) && strB (P.flds.map nm) && (bltNames.all fun x => eqO (PySem.W.nsIn K mainGlobals (nm x)) (some none)) && (P.fns.all fun f => P.flds.all fun s => !sEq (nm s) (nm f.name)) && P.cons.all fun p => conB K p.1 p.2
end
theorem call_len {P : Prg} {n i : Nat} {f : Fn} {ds : List D} {t : T} {d : D} {t' : T} (e : P.fns[i]? = some f) (h : call P n i ds t = .ok d t') : ds.length = f.np := by
  cases n with
  | zero => cases h
  | succ n =>
    simp only [call, e] at h
    exact runF_len h
theorem prog_ok {P : Prg} {K : PySem.W.Frag} {prog : Program} {w : World} {mg : PySem.Str → Option Value} {h0 base : Heap} (h : progB P K = true) (KX : K.In h0) (G : h0.Ns mainGlobals mg) : ∀ (n i : Nat) (f : Fn), P.fns[i]? = some f → FnAt (cnOf prog w P K) prog w mg base (2 * n) f (call P n i) := by
  unfold progB at h
  simp only [Bool.and_eq_true, List.all_eq_true, List.mem_range, Bool.not_eq_true'] at h
  obtain ⟨⟨⟨⟨⟨h1, h2⟩, h3⟩, h4⟩, h5⟩, h6⟩ := h
  have fnd := strB_nodup h3
  have clsOk : ∀ (k : Nat) (a : Addr), caOf P K k = some a → ∃ C, P.cls[k]? = some C ∧ clsB P K k = true := fun k a e => by
    cases hc : P.cls[k]? with
    | none =>
      have : caOf P K k = none := by
        show (P.cls[k]?).bind _ = none
        rw [hc]; rfl
      rw [this] at e; cases e
    | some C => exact ⟨C, rfl, h2 k (List.getElem?_eq_some_iff.mp hc).1⟩
  have fldInj : ∀ i j s, (cnOf prog w P K).fnm i = some s → (cnOf prog w P K).fnm j = some s → i = j := fun i j s e1 e2 => by
    have e1 : (P.flds.map nm)[i]? = some s := by rw [List.getElem?_map]; exact e1
    have e2 : (P.flds.map nm)[j]? = some s := by rw [List.getElem?_map]; exact e2
    have q1 := List.getElem?_eq_some_iff.mp e1
    have q2 := List.getElem?_eq_some_iff.mp e2
    exact (List.getElem_inj fnd).mp (q1.2.trans q2.2.symm)
  have clsF : ClsF (cnOf prog w P K) := by
    refine ⟨fldInj, fun k a e => ?_, fun k a i s e ei => ?_⟩
    · have e : caOf P K k = some a := e
      obtain ⟨C, e1, q⟩ := clsOk k a e
      unfold clsB at q
      rw [e1, e] at q
      simp only [Bool.and_eq_true] at q
      exact ⟨q.1.1.1.1.1.1.1, q.1.1.1.1.1.1.2, q.1.1.1.1.1.2, eqO_ok q.1.1.1.1.2⟩
    · have e : caOf P K k = some a := e
      obtain ⟨C, e1, q⟩ := clsOk k a e
      unfold clsB at q
      rw [e1, e] at q
      simp only [Bool.and_eq_true, List.all_eq_true] at q
      obtain ⟨z, hz, rfl⟩ := Option.map_eq_some_iff.mp (show (P.flds[i]?).map nm = some s from ei)
      exact eqO_ok (q.1.2 z (List.mem_of_getElem? hz))
  have mno : ∀ (i : Nat) (f : Fn), P.fns[i]? = some f → ∀ j, (cnOf prog w P K).fnm j ≠ some (nm f.name) := fun i f e j ej => by
    obtain ⟨z, hz, q⟩ := Option.map_eq_some_iff.mp (show (P.flds[j]?).map nm = some (nm f.name) from ej)
    have := h5 f (List.mem_of_getElem? e) z (List.mem_of_getElem? hz)
    rw [q, show sEq (nm f.name) (nm f.name) = true from sEq_iff.mpr rfl] at this
    cases this
  have clsAt : ∀ (k : Nat) (C : Cls), P.cls[k]? = some C → ClsAt (cnOf prog w P K) mg k C ∧ ∃ F, P.fns[C.init]? = some F ∧ F.cls = some k ∧ F.name = "__init__" := fun k C e => by
    have q := h2 k (List.getElem?_eq_some_iff.mp e).1
    unfold clsB at q
    rw [e] at q
    cases hca : caOf P K k with
    | none => rw [hca] at q; cases q
    | some a =>
      rw [hca] at q
      simp only [Bool.and_eq_true] at q
      obtain ⟨⟨⟨⟨q0, q1⟩, q2⟩, q3⟩, q4⟩ := q
      have hns : PySem.W.nsIn K mainGlobals (nm C.name) = some (some (.ref a)) := by
        have z : (P.cls[k]?).bind (fun C => match PySem.W.nsIn K mainGlobals (nm C.name) with
          | some (some (.ref a)) => some a
          | _ => none) = some a := hca
        rw [e] at z
        simp only [Option.bind_some] at z
        split at z
        · rename_i a' e2; cases z; exact e2
        · cases z
      refine ⟨⟨a, hca, PySem.W.mg_of KX G hns, q1, q2⟩, ?_⟩
      split at q4
      · rename_i F eF
        simp only [Bool.and_eq_true, decide_eq_true_eq] at q4
        exact ⟨F, eF, q4.1, q4.2⟩
      · cases q4
  -- a def, given the promises of the level below
  have step : ∀ (lv : Nat) (cl : Calls) (f : Fn), f ∈ P.fns → (∀ X : Cx, X.prog = prog → X.w = w → X.K = K → X.mg = mg → X.base = base → X.calm = true → X.N.Nodup → Room (lv + 1) X.A → XOk P (cnOf prog w P K) lv cl X) → FnAt (cnOf prog w P K) prog w mg base (lv + 2) f (runF cl f) := fun lv cl f hf O => by
    have q := h1 f hf
    unfold fnB at q
    cases hA : fnA P K f with
    | none => rw [hA] at q; cases q
    | some a =>
      rw [hA] at q
      dsimp only at q
      split at q
      · rename_i oc od fd osl lk
        simp only [Bool.and_eq_true] at q
        obtain ⟨pl, ok⟩ := fnOk_of (c := cnOf prog w P K) rfl lk q.2 O
        refine ⟨a, fd, _, ok, q.1, pl, rfl, ⟨oc, od, osl, lk⟩, ?_⟩
        unfold fnA at hA
        cases hc : f.cls with
        | none =>
          rw [hc] at hA
          dsimp only at hA ⊢
          split at hA
          · rename_i a' e2; cases hA; exact PySem.W.mg_of KX G e2
          · cases hA
        | some k =>
          rw [hc] at hA
          dsimp only at hA ⊢
          split at hA
          · rename_i C eC
            split at hA
            · rename_i a' e2
              by_cases hfn : PySem.W.isFn K (.ref a') = true
              · rw [if_pos hfn] at hA; cases hA
                exact ⟨C, eC, e2, hfn, q.1⟩
              · rw [if_neg hfn] at hA; cases hA
            · cases hA
          · cases hA
      · cases q
  have ofO : ∀ (lv : Nat) (cl : Calls), (∀ k as t, cl.cn k as t = mkC P cl.fn k as t) → (∀ (i : Nat) (f : Fn) ds t d t', P.fns[i]? = some f → cl.fn i ds t = .ok d t' → ds.length = f.np) → (∀ (i : Nat) (f : Fn), P.fns[i]? = some f → FnAt (cnOf prog w P K) prog w mg base lv f (cl.fn i)) →
      ∀ X : Cx, X.prog = prog → X.w = w → X.K = K → X.mg = mg → X.base = base → X.calm = true → X.N.Nodup → Room (lv + 1) X.A → XOk P (cnOf prog w P K) lv cl X := fun lv cl hcn har hfn X e1 e2 e3 e4 e5 e6 e7 e8 => by
    subst e1 e2 e4 e5
    exact ⟨e3.symm, rfl, rfl, e6, e7, e8, fun x hx => PySem.W.mg_none_of KX G (eqO_ok (h4 x hx)), clsF, mno, hfn, har, clsAt, hcn, fun i s e => by show (P.flds[i]?).map nm = _; rw [e]; rfl, fun x d hx => by
      have q := h6 (x, d) hx
      unfold conB at q
      split at q
      · rename_i j tk i e1 e2
        have e2 : d = .int i := e2
        have := of_decide_eq_true q
        subst this
        subst e2
        exact ⟨.int j, _, PySem.W.mg_of KX G e1, ⟨_, rfl⟩, fun _ _ => rfl⟩
      · rename_i y tk s e1 e0
        have e0 : d = .str s := e0
        subst e0
        simp only [Bool.and_eq_true] at q
        have e2 := (lEq_iff _ _).mp q.1
        have e3 : V.str y = strV s := by
          unfold strV
          rw [e2]
        exact ⟨.str y, _, PySem.W.mg_of KX G e1, ⟨_, rfl⟩, fun _ _ => ⟨e3, okSB_iff q.2⟩⟩
      · cases q⟩
  intro n
  induction n with
  | zero =>
    intro i f e
    -- nothing is promised
    have q := h1 f (List.mem_of_getElem? e)
    have z := step 0 ⟨fun _ _ _ => .no, fun k as t => mkC P (fun _ _ _ => .no) k as t⟩ f (List.mem_of_getElem? e)
    unfold fnB at q
    cases hA : fnA P K f with
    | none => rw [hA] at q; cases q
    | some a =>
      rw [hA] at q
      dsimp only at q
      split at q
      · rename_i oc od fd osl lk
        simp only [Bool.and_eq_true] at q
        have pl : Plain fd ((f.N.take f.np).map nm) := by
          have q2 := q.2
          unfold fdB at q2
          split at q2
          · rename_i b as e1 e2 e3
            simp only [Bool.and_eq_true, decide_eq_true_eq] at q2
            obtain ⟨⟨⟨⟨⟨⟨⟨⟨g1, g2⟩, g3⟩, g4⟩, g5⟩, g6⟩, g7⟩, g8⟩, g9⟩ := q2
            have g2 : fd.closure = [] := by simpa using g2
            exact ⟨fd.name, fd.qualname, as, b, fd.scope, fd.kwdefaults, fd.doc, fd.pyModule, fd.code, fd.closureTuple, fd.annotations, fd_eq e1 e2 e3 g1 g2 g3, (namesEq_iff g6).symm, by rw [List.map_take]; exact (strB_nodup g7).sublist (List.take_sublist _ _)⟩
          · cases q2
        have ok : FnOk prog w K mg base CX0 0 a fd ((f.N.take f.np).map nm) (spF (cnOf prog w P K) (call P 0 i) f.np) :=
          ⟨fun vs H Q E ⟨g, t, ds, s, r, l, rn⟩ => rn.elim, fun A outer s H args us vs Q E _ _ _ _ ⟨g, t, ds, s', r, l, rn⟩ => rn.elim⟩
        refine ⟨a, fd, _, ok, q.1, pl, rfl, ⟨oc, od, osl, lk⟩, ?_⟩
        unfold fnA at hA
        cases hc : f.cls with
        | none =>
          rw [hc] at hA
          dsimp only at hA ⊢
          split at hA
          · rename_i a' e2; cases hA; exact PySem.W.mg_of KX G e2
          · cases hA
        | some k =>
          rw [hc] at hA
          dsimp only at hA ⊢
          split at hA
          · rename_i C eC
            split at hA
            · rename_i a' e2
              by_cases hfn : PySem.W.isFn K (.ref a') = true
              · rw [if_pos hfn] at hA; cases hA
                exact ⟨C, eC, e2, hfn, q.1⟩
              · rw [if_neg hfn] at hA; cases hA
            · cases hA
          · cases hA
      · cases q
  | succ n ih =>
    intro i f e
    have z := step (2 * n) ⟨fun j as t => call P n j as t, fun c as t => mkC P (fun j as t => call P n j as t) c as t⟩ f (List.mem_of_getElem? e)
      (ofO (2 * n) _ (fun _ _ _ => rfl) (fun j f' ds t d t' e' h' => call_len e' h') fun j f' e' => ih j f' e')
    have e2 : call P (n + 1) i = runF ⟨fun j as t => call P n j as t, fun c as t => mkC P (fun j as t => call P n j as t) c as t⟩ f := by
      funext as t
      simp only [call, e]
    rw [e2]
    exact z
/-- the law's own promise -/
theorem law_ok {P : Prg} {K : PySem.W.Frag} {prog : Program} {w : World} {mg : PySem.Str → Option Value} {h0 : Heap} {fa : Addr} {n i : Nat} {f : Fn} {x : String} (h : progB P K = true) (KX : K.In h0) (G : h0.Ns mainGlobals mg) (e : P.fns[i]? = some f) (hN : f.N.take f.np = [x]) (hnp : f.np = 1) (hc : f.cls = none) (hm : mg (nm f.name) = some (.ref fa))
    {sp : Sp} (hsp : ∀ vs H Q E, sp vs H Q E → ∃ (a : Addr) (ns : List Int), vs = [.ref a] ∧ L2.SqL K H a (ns.map V.int) ∧ ns.length ≤ 1000 ∧ (∃ t', call P n i [.scr ns] [] = .ok (.bl true) t') ∧ ∀ H', Q (.bl true) H') :
    ∃ fd : FuncData, (∀ (s : Shared) (u : Value), BindsTo s fd ⟨[u], []⟩ [(nm x, u)]) ∧ ∀ base : Heap, K.In base → base.Ns mainGlobals mg → FnOk prog w K mg base CX0 (2 * n) fa fd [nm x] sp := by
  obtain ⟨a0, fd0, ps0, ok0, _, pl0, hps0, ⟨oc0, od0, osl0, lk0⟩, hm0⟩ := (prog_ok (prog := prog) (w := w) (base := h0) h KX G n i f e).ex
  rw [hc] at hm0
  rw [hm] at hm0
  cases hm0
  have eps : ps0 = [nm x] := by rw [hps0, hN]; rfl
  subst eps
  refine ⟨fd0, fun s u => ?_, fun base KB GB => ?_⟩
  · obtain ⟨name, qual, as, body, scope, kV, doc, pm, cdv, ct, an, rfl, hp, nd⟩ := pl0
    have q := bind_kw (name := name) (qual := qual) (ps := as) (body := body) (scope := scope) (kV := kV) (doc := doc) (pm := pm) (cdv := cdv) (ct := ct) (an := an) [u] [] [] ⟨by rw [← hp]; exact nd, List.nodup_nil, fun k hk => absurd hk (by simp), fun k hk => ?_⟩ (by
      have := congrArg List.length hp
      rw [List.length_map] at this
      rw [← this]; exact Nat.le_refl _) rfl
    · refine .of_eq ?_
      rw [← hp] at q
      rw [putIn_pm (pm := []) Value.none ⟨nd, List.nodup_nil, rfl, rfl, fun k hk => absurd hk (by simp), fun i k hk => absurd hk (by simp)⟩] at q
      exact q
    · rw [← hp] at hk; simp at hk
  · obtain ⟨a1, fd1, ps1, ok1, _, pl1, hps1, ⟨oc1, od1, osl1, lk1⟩, hm1⟩ := (prog_ok (prog := prog) (w := w) (base := base) h KX G n i f e).ex
    rw [hc] at hm1
    rw [hm] at hm1
    cases hm1
    have eps1 : ps1 = [nm x] := by rw [hps1, hN]; rfl
    subst eps1
    rw [lk0] at lk1
    cases lk1
    refine ok1.imp fun vs H Q E hs => ?_
    obtain ⟨a, ns, rfl, hq, hl, ⟨t', ec⟩, q⟩ := hsp vs H Q E hs
    refine ⟨⟨[], fun b => b = a ∧ ∃ o, H a = some o ∧ L2.Rd H a (.lst (ns.map V.int))⟩, [], [.scr ns], ⟨rfl, List.nodup_nil, fun b hb => absurd hb (by simp), fun b ⟨e1, o, e2, _⟩ => by rw [e1, e2]; simp, fun j b o h1 h2 => by simp at h2⟩, ⟨.ref a, [], rfl, ⟨a, rfl, hl, ?_⟩, rfl⟩, ?_, ?_⟩
    · rcases hq with hq | hq
      · refine .inl ⟨⟨rfl, ?_⟩, hq⟩
        rcases id hq with z | ⟨o, z⟩
        · exact ⟨_, z, hq⟩
        · exact ⟨_, z, hq⟩
      · exact .inr hq
    · exact hnp.symm
    · rw [ec]
      intro v g' H' st s' r
      cases r
      exact q H'
end Pd
set_option linter.all false
set_option autoImplicit false
/-! Pd: the evaluator's equations, but for comprehensions and loops. -/
namespace Pd
variable (cl : Calls)
theorem ev_var (i : Nat) (ρ : Env) (t : T) : ev cl (.var i) ρ t = (ofO (valOf (look ρ i)) t) := rfl
theorem ev_kon (d : D) (ρ : Env) (t : T) : ev cl (.kon d) ρ t = (.ok d t) := rfl
theorem ev_glb (z0 : String) (d : D) (ρ : Env) (t : T) : ev cl (.glb z0 d) ρ t = (.ok d t) := rfl
theorem ev_bin (o : Bo) (a : E) (b : E) (ρ : Env) (t : T) : ev cl (.bin o a b) ρ t = (bnd (opd a ρ t (ev cl a ρ t)) fun x t => bnd (opd b ρ t (ev cl b ρ t)) fun y t => ofO (binD o x y) t) := rfl
theorem ev_neg (a : E) (ρ : Env) (t : T) : ev cl (.neg a) ρ t = (bnd (opd a ρ t (ev cl a ρ t)) fun x t => match x with
    | .int i => .ok (.int (-i)) t
    | _ => .no) := rfl
theorem ev_cmp (o : Co) (a : E) (b : E) (ρ : Env) (t : T) : ev cl (.cmp o a b) ρ t = (bnd (opd a ρ t (ev cl a ρ t)) fun x t => bnd (opd b ρ t (ev cl b ρ t)) fun y t => ofO (cmpD t o x y) t) := rfl
theorem ev_chn (o : Co) (p : Co) (a : E) (b : E) (c : E) (ρ : Env) (t : T) : ev cl (.chn o p a b c) ρ t = (bnd (opd a ρ t (ev cl a ρ t)) fun x t => bnd (opd b ρ t (ev cl b ρ t)) fun y t => bnd (ofO (cmpD t o x y) t) fun k t =>
    match k with
    | .bl true => bnd (opd c ρ t (ev cl c ρ t)) fun z t => ofO (cmpD t p y z) t
    | .bl false => .ok (.bl false) t
    | _ => .no) := rfl
theorem ev_and (es : Es) (ρ : Env) (t : T) : ev cl (.and es) ρ t = (evAnd cl es ρ t) := rfl
theorem ev_or (es : Es) (ρ : Env) (t : T) : ev cl (.or es) ρ t = (evOr cl es ρ t) := rfl
theorem ev_not (a : E) (ρ : Env) (t : T) : ev cl (.not a) ρ t = (bnd (opd a ρ t (ev cl a ρ t)) fun x t => bnd (ofO (truthD t x) t) fun k t => .ok (.bl (!k)) t) := rfl
theorem ev_ife (c : Tt) (a : E) (b : E) (ρ : Env) (t : T) : ev cl (.ife c a b) ρ t = (bnd (evT cl c ρ t) fun k t => if k then ev cl a ρ t else ev cl b ρ t) := rfl
theorem ev_call (f : Nat) (as : Es) (ρ : Env) (t : T) : ev cl (.call f as) ρ t = (bnd (evs cl as ρ t) fun xs t => cl.fn f xs t) := rfl
theorem ev_callk (f : Nat) (pm : List Nat) (as : Es) (ks : Es) (ρ : Env) (t : T) : ev cl (.callk f pm as ks) ρ t = (bnd (evs cl as ρ t) fun xs t => bnd (evs cl ks ρ t) fun ys t => cl.fn f (xs ++ pm.map fun k => ys.getD k .non) t) := rfl
theorem ev_mth (c : Nat) (m : Nat) (o : E) (as : Es) (ρ : Env) (t : T) : ev cl (.mth c m o as) ρ t = (bnd (ev cl o ρ t) fun x t => if isIns t c x then bnd (evs cl as ρ t) fun xs t => cl.fn m (x :: xs) t else .no) := rfl
theorem ev_mk (c : Nat) (as : Es) (ρ : Env) (t : T) : ev cl (.mk c as) ρ t = (bnd (evs cl as ρ t) fun xs t => cl.cn c xs t) := rfl
theorem ev_b1 (b : B1) (a : E) (ρ : Env) (t : T) : ev cl (.b1 b a) ρ t = (bnd (opd a ρ t (ev cl a ρ t)) fun x t => ofO (b1D t b x) t) := rfl
theorem ev_b2 (b : B2) (a : E) (c : E) (ρ : Env) (t : T) : ev cl (.b2 b a c) ρ t = (bnd (opd a ρ t (ev cl a ρ t)) fun x t => bnd (opd c ρ t (ev cl c ρ t)) fun y t => ofO (b2D b x y) t) := rfl
theorem ev_isi (k : Ty) (a : E) (ρ : Env) (t : T) : ev cl (.isi k a) ρ t = (bnd (opd a ρ t (ev cl a ρ t)) fun x t => ofO ((isiD t k x).map .bl) t) := rfl
theorem ev_ix (a : E) (i : E) (ρ : Env) (t : T) : ev cl (.ix a i) ρ t = (bnd (opd a ρ t (ev cl a ρ t)) fun x t => bnd (opd i ρ t (ev cl i ρ t)) fun y t => ofO (ixD t x y) t) := rfl
theorem ev_sl (a : E) (lo : Es) (hi : Es) (ρ : Env) (t : T) : ev cl (.sl a lo hi) ρ t = (bnd (opd a ρ t (ev cl a ρ t)) fun x t => bnd (evP cl lo ρ t) fun l t => bnd (evP cl hi ρ t) fun h t => ofO (cutD l h x) t) := rfl
theorem ev_lst (es : Es) (ρ : Env) (t : T) : ev cl (.lst es) ρ t = (bnd (evs cl es ρ t) fun xs t => .ok (.lst xs) t) := rfl
theorem ev_tup (es : Es) (ρ : Env) (t : T) : ev cl (.tup es) ρ t = (bnd (evs cl es ρ t) fun xs t => .ok (.tup xs) t) := rfl
theorem ev_newL (es : Es) (ρ : Env) (t : T) : ev cl (.newL es) ρ t = (bnd (evs cl es ρ t) fun xs t => .ok (.obj t.length) (t ++ [.lst xs])) := rfl
theorem ev_newD (k : Bool) (ρ : Env) (t : T) : ev cl (.newD k) ρ t = (.ok (.obj t.length) (t ++ [.dct k []])) := rfl
theorem ev_lobj (a : E) (ρ : Env) (t : T) : ev cl (.lobj a) ρ t = (bnd (opd a ρ t (ev cl a ρ t)) fun x t => match b1D t .list x with
    | some (.lst xs) => .ok (.obj t.length) (t ++ [.lst xs])
    | _ => .no) := rfl
theorem ev_dsp (ks : List D) (es : Es) (ρ : Env) (t : T) : ev cl (.dsp ks es) ρ t = (bnd (evs cl es ρ t) fun xs t => .ok (.obj t.length) (t ++ [.dct false (ks.zip xs)])) := rfl
theorem ev_mkk (c : Nat) (pm : List Nat) (as : Es) (ks : Es) (ρ : Env) (t : T) : ev cl (.mkk c pm as ks) ρ t = (bnd (evs cl as ρ t) fun xs t => bnd (evs cl ks ρ t) fun ys t => cl.cn c (xs ++ pm.map fun k => ys.getD k .non) t) := rfl
theorem ev_dm (m : Dm) (o : E) (as : Es) (ρ : Env) (t : T) : ev cl (.dm m o as) ρ t = (bnd (ev cl o ρ t) fun x t => if isDct t x then bnd (evs cl as ρ t) fun ys t => okP (dmD t m x ys) else .no) := rfl
theorem ev_join (a : E) (ρ : Env) (t : T) : ev cl (.join a) ρ t = (bnd (opd a ρ t (ev cl a ρ t)) fun x t => match seqs x with
    | some xs => ofO ((strsOf xs).bind fun ss => if ss.flatten.length ≤ sz then some (.str ss.flatten) else none) t
    | none => .no) := rfl
theorem ev_fld (o : E) (f : Nat) (ρ : Env) (t : T) : ev cl (.fld o f) ρ t = (bnd (ev cl o ρ t) fun x t => ofO (fldD t f x) t) := rfl
theorem exec_asg (g : Tg) (e : E) (ρ : Env) (t : T) : exec cl (.asg g e) ρ t = (bo (ev cl e (frzAll ρ (esc e)) t) fun d t => asgK (fresh e) g (frzAll ρ (esc e)) d t) := rfl
theorem exec_setI (o : E) (i : E) (e : E) (ρ : Env) (t : T) : exec cl (.setI o i e) ρ t = (bo (ev cl e (frzAll ρ (esc e ++ esO i)) t) fun d t => bo (opd o (frzAll ρ (esc e ++ esO i)) t (ev cl o (frzAll ρ (esc e ++ esO i)) t)) fun x t =>
    bo (opd i (frzAll ρ (esc e ++ esO i)) t (ev cl i (frzAll ρ (esc e ++ esO i)) t)) fun j t => setK (frzAll ρ (esc e ++ esO i)) t (isVar o) x j d) := rfl
theorem exec_setF (o : E) (f : Nat) (e : E) (ρ : Env) (t : T) : exec cl (.setF o f e) ρ t = (bo (ev cl e (frzAll ρ (esc e)) t) fun d t => bo (ev cl o (frzAll ρ (esc e)) t) fun x t => setFK (frzAll ρ (esc e)) t x f d) := rfl
theorem exec_aug (i : Nat) (o : Bo) (e : E) (ρ : Env) (t : T) : exec cl (.aug i o e) ρ t = (match look (frzAll ρ (esc e)) i with
    | .val (.int x) => bo (ev cl e (frzAll ρ (esc e)) t) fun y t => augK (frzAll ρ (esc e)) t i o x y
    | _ => .no) := rfl
theorem exec_mut (m : Mu) (i : Nat) (es : Es) (ρ : Env) (t : T) : exec cl (.mut m i es) ρ t = (if mutOk (look (frzAll ρ (escs es)) i) t then bo (evs cl es (frzAll ρ (escs es)) t) fun xs t => mutK (frzAll ρ (escs es)) t m i xs else .no) := rfl
theorem exec_ifs (c : Tt) (a : Ss) (b : Ss) (ρ : Env) (t : T) : exec cl (.ifs c a b) ρ t = (bo (evT cl c (frzAll ρ (esT c)) t) fun k t => if k then execs cl a (frzAll ρ (esT c)) t else execs cl b (frzAll ρ (esT c)) t) := rfl
theorem exec_ret (e : E) (ρ : Env) (t : T) : exec cl (.ret e) ρ t = (bo (ev cl e (frzAll ρ (esc e)) t) fun d t => .ret d t) := rfl
theorem exec_retn  (ρ : Env) (t : T) : exec cl (.retn ) ρ t = (.ret .non t) := rfl
theorem exec_brk  (ρ : Env) (t : T) : exec cl (.brk ) ρ t = (.brk ρ t) := rfl
theorem exec_cont  (ρ : Env) (t : T) : exec cl (.cont ) ρ t = (.cont ρ t) := rfl
theorem exec_exp (e : E) (ρ : Env) (t : T) : exec cl (.exp e) ρ t = (bo (ev cl e (frzAll ρ (esc e)) t) fun _ t => .nx (frzAll ρ (esc e)) t) := rfl
theorem exec_rai (c : Nat) (es : Es) (ρ : Env) (t : T) : exec cl (.rai c es) ρ t = (bo (evs cl es (frzAll ρ (escs es)) t) fun xs t => .ex c xs t) := rfl
theorem exec_fg (is : List Nat) (ρ : Env) (t : T) : exec cl (.fg is) ρ t = (.nx (unset ρ is) t) := rfl
theorem exec_pas  (ρ : Env) (t : T) : exec cl (.pas ) ρ t = (.nx ρ t) := rfl
/-- one turn of a comprehension -/
def turnC (g : Tg) (own : List Nat) (c : Tt) (e : E) (ρ : Env) (x : D) (t : T) : R (Option D) :=
  match asgT g x (unset ρ own) with
  | none => .no
  | some ρ => bnd (evT cl c ρ t) fun k t => if k then bnd (ev cl e ρ t) fun d t => .ok (some d) t else .ok none t
theorem ev_comp (s : Src) (g : Tg) (own : List Nat) (c : Tt) (e : E) (ρ : Env) (t : T) : ev cl (.comp s g own c e) ρ t = bnd (evSrc cl s true ρ t) fun xs t => bnd (compL (ckS s ρ xs) (turnC cl g own c e ρ) xs t) fun ds t => .ok (.lst ds) t := rfl
theorem exec_for (g : Tg) (s : Src) (b : Ss) (fg : List Nat) (ρ : Env) (t : T) : exec cl (.for g s b fg) ρ t = bo (evSrc cl s false (frzAll ρ (escS s)) t) fun xs t => forL (ckS s (frzAll ρ (escS s)) xs) (forK g fun ρ t => execs cl b ρ t) fg xs (frzAll ρ (escS s)) t := rfl
end Pd
set_option linter.all false
set_option autoImplicit false
namespace Pd
theorem atI_nat {α : Type} (xs : List α) (i : Nat) : atI xs (i : Int) = xs[i]? := by
  unfold atI ixN
  by_cases h : i < xs.length
  · simp [h]
  · simp [h]
theorem atI_0 {α : Type} (a : α) (r : List α) : atI (a :: r) 0 = some a := atI_nat (a :: r) 0
theorem atI_1 {α : Type} (a b : α) (r : List α) : atI (a :: b :: r) 1 = some b := atI_nat (a :: b :: r) 1
theorem atI_2 {α : Type} (a b c : α) (r : List α) : atI (a :: b :: c :: r) 2 = some c := atI_nat (a :: b :: c :: r) 2
theorem atI_3 {α : Type} (a b c d : α) (r : List α) : atI (a :: b :: c :: d :: r) 3 = some d := atI_nat (a :: b :: c :: d :: r) 3
theorem atI_4 {α : Type} (a b c d e : α) (r : List α) : atI (a :: b :: c :: d :: e :: r) 4 = some e := atI_nat (a :: b :: c :: d :: e :: r) 4
theorem atI_map {α β : Type} (f : α → β) (xs : List α) (i : Int) : atI (xs.map f) i = (atI xs i).map f := by
  unfold atI
  rw [List.length_map]
  cases ixN xs.length i with
  | none => rfl
  | some j => simp
def hd : Ss → S
  | .cons a _ => a
  | .nil => .pas
def tl : Ss → Ss
  | .cons _ r => r
  | .nil => .nil
theorem bits_lt (x : Int) (k : Nat) (hk : 0 < k) (h : x.natAbs < 2 ^ k) : bits x < k := by
  unfold bits
  by_cases h0 : x.natAbs = 0
  · rw [h0]; simpa using hk
  · exact (Nat.log2_lt h0).mpr h
theorem compL_pure (ck : T → Bool) (f : D → T → R (Option D)) (g : D → Option D) (t : T) (hc : ck t = true) : ∀ xs : List D, (∀ x ∈ xs, f x t = .ok (g x) t) → compL ck f xs t = .ok (xs.filterMap g) t
  | [], _ => by simp [compL, hc]
  | x :: xs, h => by
    have ih := compL_pure ck f g t hc xs fun y hy => h y (List.mem_cons_of_mem _ hy)
    simp only [compL, h x List.mem_cons_self, bnd_ok, ih, hc, if_true]
    cases hx : g x <;> simp [List.filterMap_cons, hx]
theorem ev_comp_pure {cl : Calls} {s : Src} {g : Tg} {own : List Nat} {c : Tt} {e : E} {ρ : Env} {t t' : T} {xs : List D} (gf : D → Option D) (h1 : evSrc cl s true ρ t = .ok xs t') (h2 : ∀ x ∈ xs, turnC cl g own c e ρ x t' = .ok (gf x) t') (hc : ckS s ρ xs t' = true := by rfl) : ev cl (.comp s g own c e) ρ t = .ok (.lst (xs.filterMap gf)) t' := by
  rw [ev_comp, h1]
  simp only [bnd_ok]
  rw [compL_pure _ _ gf t' hc xs h2]
  rfl
end Pd
set_option linter.all false
set_option autoImplicit false
/-! points: lots, masks, needs: no program in sight -/
namespace Pt

def cAt (w : List Nat) (k : Nat) : Nat := (w[k]?).getD 0
def wAt (ws : List (List Nat)) (q : Nat) : List Nat := (ws[q]?).getD []
/-- program q has a one at p -/
def bit (ws : List (List Nat)) (p q : Nat) : Bool := cAt (wAt ws q) p == 49
def up (ws : List (List Nat)) (p : Nat) (l : List Nat) : List Nat := l.filter fun q => bit ws p q
def lo (ws : List (List Nat)) (p : Nat) (l : List Nat) : List Nat := l.filter fun q => !bit ws p q
/-- words of one length, of the signs 0 and 1 -/
structure Wd (ws : List (List Nat)) (pl : Nat) : Prop where
  len : ∀ w ∈ ws, w.length = pl
  bit : ∀ w ∈ ws, ∀ x ∈ w, x = 48 ∨ x = 49
theorem wAt_mem {ws : List (List Nat)} {q : Nat} (h : q < ws.length) : wAt ws q ∈ ws := by
  unfold wAt; rw [List.getElem?_eq_getElem h]; exact List.getElem_mem h
theorem cAt_or {ws : List (List Nat)} {pl p q : Nat} (hw : Wd ws pl) (hq : q < ws.length) (hp : p < pl) : cAt (wAt ws q) p = 48 ∨ cAt (wAt ws q) p = 49 := by
  refine hw.bit _ (wAt_mem hq) _ ?_
  unfold cAt
  have hlt : p < (wAt ws q).length := by rw [hw.len _ (wAt_mem hq)]; exact hp
  rw [List.getElem?_eq_getElem hlt]
  exact List.getElem_mem hlt
theorem up_lo_len (ws : List (List Nat)) (p : Nat) : ∀ l : List Nat, (up ws p l).length + (lo ws p l).length = l.length
  | [] => rfl
  | q :: l => by
    have ih := up_lo_len ws p l
    unfold up lo at ih ⊢
    rw [List.filter_cons, List.filter_cons]
    cases bit ws p q <;> simp <;> omega
theorem up_sub {ws : List (List Nat)} {p q : Nat} {l : List Nat} (h : q ∈ up ws p l) : q ∈ l := (List.mem_filter.mp h).1
theorem lo_sub {ws : List (List Nat)} {p q : Nat} {l : List Nat} (h : q ∈ lo ws p l) : q ∈ l := (List.mem_filter.mp h).1
/-- the point p parts the lot -/
def Parts (ws : List (List Nat)) (p : Nat) (l : List Nat) : Prop := lo ws p l ≠ [] ∧ up ws p l ≠ []
instance (ws : List (List Nat)) (p : Nat) (l : List Nat) : Decidable (Parts ws p l) := inferInstanceAs (Decidable (_ ∧ _))
theorem Parts.lt {ws : List (List Nat)} {p : Nat} {l : List Nat} (h : Parts ws p l) : (lo ws p l).length < l.length ∧ (up ws p l).length < l.length := by
  have e := up_lo_len ws p l
  have h1 := List.length_pos_iff.mpr h.1
  have h2 := List.length_pos_iff.mpr h.2
  omega

/-! ### the need -/
def mx (a b : Int) : Int := if b > a then b else a
def mn (a b : Int) : Int := if b < a then b else a
/-- what a point adds -/
def addN (f : List Nat → Int) (ws : List (List Nat)) (l : List Nat) (p : Nat) : List Int :=
  if Parts ws p l then [mx (f (lo ws p l)) (f (up ws p l)), 1 + mn (f (lo ws p l)) (f (up ws p l))] else []
def maxL : List Int → Int
  | [] => 0
  | [x] => x
  | x :: r => if x < maxL r then maxL r else x
theorem maxL_cons (x y : Int) (r : List Int) : maxL (x :: y :: r) = if x < maxL (y :: r) then maxL (y :: r) else x := rfl
theorem lt_maxL (v : Int) : ∀ l : List Int, l ≠ [] → (v < maxL l ↔ ∃ x ∈ l, v < x)
  | [], h => absurd rfl h
  | [x], _ => by simp [maxL]
  | x :: y :: r, _ => by
    have ih := lt_maxL v (y :: r) (by simp)
    have ih2 := lt_maxL x (y :: r) (by simp)
    rw [maxL_cons]
    by_cases hx : x < maxL (y :: r)
    · rw [if_pos hx, ih]
      constructor
      · rintro ⟨z, hz, hv⟩; exact ⟨z, List.mem_cons_of_mem _ hz, hv⟩
      · rintro ⟨z, hz, hv⟩
        rcases List.mem_cons.mp hz with rfl | hz
        · obtain ⟨w, hw, hl⟩ := ih2.mp hx; exact ⟨w, hw, by omega⟩
        · exact ⟨z, hz, hv⟩
    · rw [if_neg hx]
      constructor
      · intro hv; exact ⟨x, List.mem_cons_self, hv⟩
      · rintro ⟨z, hz, hv⟩
        rcases List.mem_cons.mp hz with rfl | hz
        · exact hv
        · have := ih.mpr ⟨z, hz, hv⟩; omega
def needS (ws : List (List Nat)) (B : Nat → Int) (pl : Nat) : Nat → List Nat → Int
  | 0, _ => 0
  | s + 1, l => maxL (l.map (fun q => - B q) ++ (List.range pl).flatMap (addN (needS ws B pl s) ws l))
theorem flatMap_congr' {α β : Type} {f g : α → List β} : ∀ {l : List α}, (∀ x ∈ l, f x = g x) → l.flatMap f = l.flatMap g
  | [], _ => rfl
  | x :: l, h => by
    rw [List.flatMap_cons, List.flatMap_cons, h x List.mem_cons_self, flatMap_congr' fun y hy => h y (List.mem_cons_of_mem _ hy)]
theorem needS_stable (ws : List (List Nat)) (B : Nat → Int) (pl : Nat) : ∀ (s t : Nat) (l : List Nat), l.length ≤ s → l.length ≤ t → l ≠ [] → needS ws B pl s l = needS ws B pl t l := by
  intro s
  induction s with
  | zero => intro t l h _ hl; exact absurd (List.length_eq_zero_iff.mp (by omega)) hl
  | succ s ih =>
    intro t l h1 h2 hl
    cases t with
    | zero => exact absurd (List.length_eq_zero_iff.mp (by omega)) hl
    | succ t =>
      unfold needS
      congr 2
      refine flatMap_congr' fun p _ => ?_
      unfold addN
      by_cases hp : Parts ws p l
      · have := hp.lt
        rw [if_pos hp, if_pos hp, ih t _ (by omega) (by omega) hp.1, ih t _ (by omega) (by omega) hp.2]
      · rw [if_neg hp, if_neg hp]
def Need (ws : List (List Nat)) (B : Nat → Int) (pl : Nat) (l : List Nat) : Int := needS ws B pl l.length l
theorem Need_eq (ws : List (List Nat)) (B : Nat → Int) (pl : Nat) (l : List Nat) (hl : l ≠ []) :
    Need ws B pl l = maxL (l.map (fun q => - B q) ++ (List.range pl).flatMap (addN (Need ws B pl) ws l)) := by
  have hp := List.length_pos_iff.mpr hl
  unfold Need
  obtain ⟨s, hs⟩ : ∃ s, l.length = s + 1 := ⟨l.length - 1, by omega⟩
  rw [hs, needS]
  congr 2
  refine flatMap_congr' fun p _ => ?_
  unfold addN
  by_cases hp : Parts ws p l
  · have := hp.lt
    rw [if_pos hp, if_pos hp, needS_stable ws B pl s _ _ (by omega) (Nat.le_refl _) hp.1, needS_stable ws B pl s _ _ (by omega) (Nat.le_refl _) hp.2]
  · rw [if_neg hp, if_neg hp]
theorem lt_mx (v a b : Int) : v < mx a b ↔ v < a ∨ v < b := by unfold mx; split <;> omega
theorem lt_mn (v a b : Int) : v < mn a b ↔ v < a ∧ v < b := by unfold mn; split <;> omega
/-- v is below the need -/
theorem lt_Need (ws : List (List Nat)) (B : Nat → Int) (pl : Nat) (l : List Nat) (hl : l ≠ []) (v : Int) :
    v < Need ws B pl l ↔ (∃ q ∈ l, v < - B q) ∨ ∃ p, p < pl ∧ Parts ws p l ∧ (v < Need ws B pl (lo ws p l) ∨ v < Need ws B pl (up ws p l) ∨ (v - 1 < Need ws B pl (lo ws p l) ∧ v - 1 < Need ws B pl (up ws p l))) := by
  rw [Need_eq ws B pl l hl, lt_maxL _ _ (by cases l <;> simp at hl ⊢)]
  constructor
  · rintro ⟨x, hx, hv⟩
    rcases List.mem_append.mp hx with hx | hx
    · obtain ⟨q, hq, rfl⟩ := List.mem_map.mp hx
      exact .inl ⟨q, hq, hv⟩
    · obtain ⟨p, hp, hx⟩ := List.mem_flatMap.mp hx
      unfold addN at hx
      by_cases hpp : Parts ws p l
      · rw [if_pos hpp] at hx
        refine .inr ⟨p, List.mem_range.mp hp, hpp, ?_⟩
        rcases List.mem_cons.mp hx with rfl | hx
        · rw [lt_mx] at hv; omega
        · rw [List.mem_singleton.mp hx] at hv
          have := (lt_mn (v - 1) (Need ws B pl (lo ws p l)) (Need ws B pl (up ws p l))).mp (by omega)
          omega
      · rw [if_neg hpp] at hx; simp at hx
  · rintro (⟨q, hq, hv⟩ | ⟨p, hp, hpp, h⟩)
    · exact ⟨_, List.mem_append_left _ (List.mem_map.mpr ⟨q, hq, rfl⟩), hv⟩
    · by_cases h1 : v < mx (Need ws B pl (lo ws p l)) (Need ws B pl (up ws p l))
      · exact ⟨_, List.mem_append_right _ (List.mem_flatMap.mpr ⟨p, List.mem_range.mpr hp, by unfold addN; rw [if_pos hpp]; exact List.mem_cons_self⟩), h1⟩
      · rw [lt_mx] at h1
        refine ⟨1 + mn (Need ws B pl (lo ws p l)) (Need ws B pl (up ws p l)), List.mem_append_right _ (List.mem_flatMap.mpr ⟨p, List.mem_range.mpr hp, by unfold addN; rw [if_pos hpp]; exact List.mem_cons_of_mem _ List.mem_cons_self⟩), ?_⟩
        have := (lt_mn (v - 1) (Need ws B pl (lo ws p l)) (Need ws B pl (up ws p l))).mpr (by omega)
        omega
/-- induction on lots -/
theorem lot_ind {C : List Nat → Prop} (h : ∀ l, (∀ k, k.length < l.length → C k) → C l) (l : List Nat) : C l := by
  have : ∀ n (l : List Nat), l.length < n → C l := by
    intro n
    induction n with
    | zero => intro l hl; omega
    | succ n ih => intro l hl; exact h l fun k hk => ih k (by omega)
  exact this (l.length + 1) l (by omega)
theorem Need_ge (ws : List (List Nat)) (B : Nat → Int) (pl : Nat) (l : List Nat) {q : Nat} (hq : q ∈ l) : - B q ≤ Need ws B pl l := by
  have hl : l ≠ [] := by rintro rfl; simp at hq
  have := (lt_Need ws B pl l hl (- B q - 1)).mpr (.inl ⟨q, hq, by omega⟩)
  omega
/-- at most one for each program but one above the least budget -/
theorem Need_le (ws : List (List Nat)) (B : Nat → Int) (pl : Nat) (b : Int) (l : List Nat) : l ≠ [] → (∀ q ∈ l, b ≤ B q) → Need ws B pl l ≤ (l.length : Int) - 1 - b := by
  refine lot_ind (C := fun l => l ≠ [] → (∀ q ∈ l, b ≤ B q) → Need ws B pl l ≤ (l.length : Int) - 1 - b) (fun l ih hl hb => ?_) l
  apply Classical.byContradiction
  intro hc
  have hlen := List.length_pos_iff.mpr hl
  rcases (lt_Need ws B pl l hl ((l.length : Int) - 1 - b)).mp (by omega) with ⟨q, hq, hv⟩ | ⟨p, hp, hpp, h⟩
  · have := hb q hq; omega
  · have hs := hpp.lt
    have e := up_lo_len ws p l
    have h1 := ih (lo ws p l) hs.1 hpp.1 fun q hq => hb q (lo_sub hq)
    have h2 := ih (up ws p l) hs.2 hpp.2 fun q hq => hb q (up_sub hq)
    have z1 := List.length_pos_iff.mpr hpp.1
    have z2 := List.length_pos_iff.mpr hpp.2
    omega
/-- budgets raised alike -/
theorem Need_shift (ws : List (List Nat)) (B C : Nat → Int) (pl : Nat) (k : Int) (l : List Nat) : l ≠ [] → (∀ q ∈ l, C q = B q + k) → Need ws C pl l = Need ws B pl l - k := by
  refine lot_ind (C := fun l => l ≠ [] → (∀ q ∈ l, C q = B q + k) → Need ws C pl l = Need ws B pl l - k) (fun l ih hl hb => ?_) l
  have key : ∀ v : Int, v < Need ws C pl l ↔ v + k < Need ws B pl l := fun v => by
    rw [lt_Need ws C pl l hl, lt_Need ws B pl l hl]
    constructor
    · rintro (⟨q, hq, hv⟩ | ⟨p, hp, hpp, h⟩)
      · exact .inl ⟨q, hq, by rw [hb q hq] at hv; omega⟩
      · refine .inr ⟨p, hp, hpp, ?_⟩
        rw [ih _ hpp.lt.1 hpp.1 fun q hq => hb q (lo_sub hq), ih _ hpp.lt.2 hpp.2 fun q hq => hb q (up_sub hq)] at h
        omega
    · rintro (⟨q, hq, hv⟩ | ⟨p, hp, hpp, h⟩)
      · exact .inl ⟨q, hq, by rw [hb q hq]; omega⟩
      · refine .inr ⟨p, hp, hpp, ?_⟩
        rw [ih _ hpp.lt.1 hpp.1 fun q hq => hb q (lo_sub hq), ih _ hpp.lt.2 hpp.2 fun q hq => hb q (up_sub hq)]
        omega
  have h1 := (key (Need ws C pl l - 1)).mp (by omega)
  have h2 := fun h => (key (Need ws C pl l)).mpr h
  apply Classical.byContradiction
  intro hne
  have h3 := h2 (by omega)
  omega
/-- budgets cut at M: the need is that of the uncut ones, or below size - 1 - M -/
theorem Need_cut (ws : List (List Nat)) (B C : Nat → Int) (pl : Nat) (M : Int) (l : List Nat) : l ≠ [] → (∀ q ∈ l, C q = B q ∨ C q = M) → ∀ v, v < Need ws C pl l → v < Need ws B pl l ∨ v < (l.length : Int) - 1 - M := by
  refine lot_ind (C := fun l => l ≠ [] → (∀ q ∈ l, C q = B q ∨ C q = M) → ∀ v, v < Need ws C pl l → v < Need ws B pl l ∨ v < (l.length : Int) - 1 - M) (fun l ih hl hb v hv => ?_) l
  have hlen := List.length_pos_iff.mpr hl
  rcases (lt_Need ws C pl l hl v).mp hv with ⟨q, hq, hv⟩ | ⟨p, hp, hpp, h⟩
  · rcases hb q hq with e | e
    · left; exact (lt_Need ws B pl l hl v).mpr (.inl ⟨q, hq, by omega⟩)
    · right; omega
  · have e := up_lo_len ws p l
    have z1 := List.length_pos_iff.mpr hpp.1
    have z2 := List.length_pos_iff.mpr hpp.2
    have i1 := ih _ hpp.lt.1 hpp.1 (fun q hq => hb q (lo_sub hq))
    have i2 := ih _ hpp.lt.2 hpp.2 (fun q hq => hb q (up_sub hq))
    by_cases hr : v < (l.length : Int) - 1 - M
    · exact .inr hr
    · left
      refine (lt_Need ws B pl l hl v).mpr (.inr ⟨p, hp, hpp, ?_⟩)
      rcases h with h | h | ⟨h1, h2⟩
      · rcases i1 v h with z | z
        · exact .inl z
        · omega
      · rcases i2 v h with z | z
        · exact .inr (.inl z)
        · omega
      · have q1 := i1 (v - 1) h1
        have q2 := i2 (v - 1) h2
        refine .inr (.inr ⟨?_, ?_⟩) <;> omega

/-! ### masks -/
def mkP (P : Nat → Bool) : Nat → Nat
  | 0 => 0
  | m + 1 => mkP P m + (if P m then 2 ^ m else 0)
theorem mkP_lt (P : Nat → Bool) : ∀ m, mkP P m < 2 ^ m
  | 0 => by simp [mkP]
  | m + 1 => by
    have := mkP_lt P m
    rw [mkP, Nat.pow_succ]
    split <;> omega
theorem mkP_bit (P : Nat → Bool) : ∀ m q, (mkP P m).testBit q = (decide (q < m) && P q)
  | 0, q => by simp [mkP]
  | m + 1, q => by
    have ih := mkP_bit P m q
    have hl := mkP_lt P m
    rw [mkP]
    by_cases hP : P m = true
    · rw [if_pos hP, Nat.add_comm]
      by_cases hq : q = m
      · subst hq
        rw [Nat.testBit_two_pow_add_eq, ih]; simp [hP]
      · by_cases hlt : q < m
        · rw [Nat.testBit_two_pow_add_gt hlt, ih]
          simp [hlt, Nat.lt_succ_of_lt hlt]
        · have h1 : m < q := by omega
          have : 2 ^ m + mkP P m < 2 ^ q := by
            have : 2 ^ (m + 1) ≤ 2 ^ q := Nat.pow_le_pow_right (by omega) (by omega)
            rw [Nat.pow_succ] at this; omega
          rw [Nat.testBit_lt_two_pow this]
          have : ¬ q < m + 1 := by omega
          simp [this]
    · rw [if_neg hP, Nat.add_zero, ih]
      by_cases hq : q = m
      · subst hq; simp [hP]
      · by_cases hlt : q < m
        · simp [hlt, Nat.lt_succ_of_lt hlt]
        · have : ¬ q < m + 1 := by omega
          simp [hlt, this]
/-- the mask of a lot -/
def mk (m : Nat) (l : List Nat) : Nat := mkP (fun q => l.contains q) m
theorem mk_bit (m : Nat) (l : List Nat) (q : Nat) (h : ∀ q ∈ l, q < m) : (mk m l).testBit q = l.contains q := by
  unfold mk
  rw [mkP_bit]
  by_cases hq : q < m
  · simp [hq]
  · have : l.contains q = false := by
      rw [Bool.eq_false_iff]; intro z
      exact hq (h q (List.contains_iff_mem.mp z))
    rw [this]; simp
theorem contains_filter (l : List Nat) (P : Nat → Bool) (q : Nat) : (l.filter P).contains q = (l.contains q && P q) := by
  rw [Bool.eq_iff_iff, List.contains_iff_mem, List.mem_filter, Bool.and_eq_true, List.contains_iff_mem]
theorem mk_and (ws : List (List Nat)) (m p : Nat) (l : List Nat) (h : ∀ q ∈ l, q < m) : mk m l &&& mk m (up ws p (List.range m)) = mk m (up ws p l) := by
  apply Nat.eq_of_testBit_eq
  intro q
  rw [Nat.testBit_and, mk_bit m l q h, mk_bit m _ q (fun z hz => List.mem_range.mp (up_sub hz)), mk_bit m _ q (fun z hz => h z (up_sub hz))]
  unfold up
  rw [contains_filter, contains_filter]
  by_cases hq : q ∈ l
  · have := h q hq
    simp [hq, this]
  · simp [hq]
theorem mkP_split (P R : Nat → Bool) : ∀ m, mkP (fun q => P q && R q) m + mkP (fun q => P q && !R q) m = mkP P m
  | 0 => rfl
  | m + 1 => by
    have ih := mkP_split P R m
    simp only [mkP]
    by_cases h1 : P m = true <;> by_cases h2 : R m = true <;> simp [h1, h2] <;> omega
theorem mk_split (ws : List (List Nat)) (m p : Nat) (l : List Nat) : mk m (up ws p l) + mk m (lo ws p l) = mk m l := by
  have e := mkP_split (fun q => l.contains q) (fun q => bit ws p q) m
  unfold mk up lo
  rw [← e]
  congr 1
  · congr 1; funext q; rw [contains_filter]
  · congr 1; funext q; rw [contains_filter]
theorem mk_zero {m : Nat} {l : List Nat} (h : ∀ q ∈ l, q < m) : mk m l = 0 ↔ l = [] := by
  constructor
  · intro e
    cases l with
    | nil => rfl
    | cons q l =>
      have := mk_bit m (q :: l) q h
      rw [e] at this; simp at this
  · rintro rfl
    apply Nat.eq_of_testBit_eq
    intro q
    rw [mk_bit m [] q (by simp)]; simp
/-- lots that are parts of the whole, in order -/
def Lot (m : Nat) (l : List Nat) : Prop := l.Sublist (List.range m)
theorem Lot.lt {m : Nat} {l : List Nat} (h : Lot m l) : ∀ q ∈ l, q < m := fun q hq => List.mem_range.mp (h.subset hq)
theorem Lot.up {m : Nat} {l : List Nat} (h : Lot m l) (ws : List (List Nat)) (p : Nat) : Lot m (up ws p l) := List.filter_sublist.trans h
theorem Lot.lo {m : Nat} {l : List Nat} (h : Lot m l) (ws : List (List Nat)) (p : Nat) : Lot m (lo ws p l) := List.filter_sublist.trans h
theorem sub_filter {R l : List Nat} (h : l.Sublist R) : R.Nodup → R.filter (fun q => l.contains q) = l := by
  induction h with
  | slnil => intro _; rfl
  | @cons l1 l2 a h ih =>
    intro nd
    rw [List.nodup_cons] at nd
    have : l1.contains a = false := by
      rw [Bool.eq_false_iff]; intro z
      exact nd.1 (h.subset (List.contains_iff_mem.mp z))
    rw [List.filter_cons, this]
    exact ih nd.2
  | @cons_cons l1 l2 a h ih =>
    intro nd
    rw [List.nodup_cons] at nd
    have e : l2.filter (fun q => (a :: l1).contains q) = l2.filter (fun q => l1.contains q) := by
      apply List.filter_congr
      intro q hq
      have : q ≠ a := fun z => nd.1 (z ▸ hq)
      simp [this]
    rw [List.filter_cons]
    have : (a :: l1).contains a = true := by simp
    rw [this, if_pos rfl, e, ih nd.2]
theorem mk_inj {m : Nat} {l k : List Nat} (hl : Lot m l) (hk : Lot m k) (h : mk m l = mk m k) : l = k := by
  have e : ∀ q, l.contains q = k.contains q := fun q => by rw [← mk_bit m l q hl.lt, ← mk_bit m k q hk.lt, h]
  rw [← sub_filter hl List.nodup_range, ← sub_filter hk List.nodup_range]
  apply List.filter_congr
  intro q _
  exact e q
theorem Lot.len {m : Nat} {l : List Nat} (h : Lot m l) : l.length ≤ m := by
  have := h.length_le
  rwa [List.length_range] at this
theorem Lot.all (m : Nat) : Lot m (List.range m) := List.Sublist.refl _
/-- no more than n different numbers below n -/
theorem nodup_lt : ∀ (n : Nat) (l : List Nat), l.Nodup → (∀ x ∈ l, x < n) → l.length ≤ n
  | 0, l, _, h => by
    cases l with
    | nil => simp
    | cons a _ => exact absurd (h a List.mem_cons_self) (by omega)
  | n + 1, l, nd, h => by
    have h1 : (l.filter (fun x => x != n)).length ≤ n := by
      refine nodup_lt n _ (nd.sublist List.filter_sublist) fun x hx => ?_
      obtain ⟨a, b⟩ := List.mem_filter.mp hx
      have := h x a
      have : x ≠ n := by simpa using b
      omega
    have h2 : l.length ≤ (l.filter (fun x => x != n)).length + 1 := by
      clear h h1
      induction l with
      | nil => simp
      | cons a l ih =>
        rw [List.nodup_cons] at nd
        rw [List.filter_cons]
        by_cases ha : a = n
        · subst ha
          have e : l.filter (fun x => x != a) = l := by
            apply List.filter_eq_self.mpr
            intro x hx
            have : x ≠ a := fun z => nd.1 (z ▸ hx)
            simpa using this
          simp [e]
        · have : (a != n) = true := by simpa using ha
          rw [this, if_pos rfl]
          have := ih nd.2
          simp only [List.length_cons]; omega
    omega
end Pt
set_option linter.all false
set_option autoImplicit false
/-! points: data, no program in sight -/
namespace Pt
open Pd

abbrev DN (q : Nat) : D := .int (q : Int)
abbrev LN (l : List Nat) : List D := l.map DN
theorem len_LN (l : List Nat) : (LN l).length = l.length := List.length_map ..
theorem range0_LN (n : Nat) : range0 (n : Int) = LN (List.range n) := by simp [range0, LN, DN]
theorem atI_W (ws : List (List Nat)) (q : Nat) (h : q < ws.length) : atI (ws.map D.str) (q : Int) = some (.str (wAt ws q)) := by
  unfold wAt
  rw [atI_map, atI_nat, List.getElem?_eq_getElem h]; rfl
theorem atI_w (w : List Nat) (q : Nat) (h : q < w.length) : atI w (q : Int) = some (cAt w q) := by
  unfold cAt
  rw [atI_nat, List.getElem?_eq_getElem h]; rfl
def iAt (B : List Int) (q : Nat) : Int := (B[q]?).getD 0
theorem atI_B (B : List Int) (q : Nat) (h : q < B.length) : atI (B.map D.int) (q : Int) = some (.int (iAt B q)) := by
  unfold iAt
  rw [atI_map, atI_nat, List.getElem?_eq_getElem h]; rfl
theorem iAt_mem {B : List Int} {q : Nat} (h : q < B.length) : iAt B q ∈ B := by
  unfold iAt; rw [List.getElem?_eq_getElem h]; exact List.getElem_mem h
theorem fm_map {α : Type} (e : α → D) (gf : D → Option D) (h : α → Option D) : ∀ l : List α, (∀ q ∈ l, gf (e q) = h q) → (l.map e).filterMap gf = l.filterMap h
  | [], _ => rfl
  | q :: l, hq => by
    have ih := fm_map e gf h l fun z hz => hq z (List.mem_cons_of_mem _ hz)
    rw [List.map_cons, List.filterMap_cons, List.filterMap_cons, hq q List.mem_cons_self, ih]
theorem fm_filter (p : Nat → Bool) (gf : D → Option D) (l : List Nat) (h : ∀ q ∈ l, gf (DN q) = if p q then some (DN q) else none) : (LN l).filterMap gf = LN (l.filter p) := by
  rw [fm_map DN gf (fun q => if p q then some (DN q) else none) l h]
  clear h
  induction l with
  | nil => rfl
  | cons q l ih =>
    rw [List.filterMap_cons, List.filter_cons]
    cases p q <;> simp [ih]
theorem fm_all {α : Type} (e : α → D) (f : α → D) (gf : D → Option D) (l : List α) (h : ∀ q ∈ l, gf (e q) = some (f q)) : (l.map e).filterMap gf = l.map f := by
  rw [fm_map e gf (fun q => some (f q)) l h]
  clear h
  induction l with
  | nil => rfl
  | cons q l ih => rw [List.filterMap_cons, List.map_cons, ih]
theorem eqvs_LN : ∀ a b : List Nat, eqvs (LN a) (LN b) = decide (a = b)
  | [], [] => rfl
  | [], _ :: _ => rfl
  | _ :: _, [] => rfl
  | x :: a, y :: b => by
    have ih := eqvs_LN a b
    show (((x : Int) == (y : Int)) && eqvs (LN a) (LN b)) = _
    rw [ih]
    by_cases h : x = y
    · subst h; simp
    · have : ((x : Int) == (y : Int)) = false := by simp; omega
      simp [this, h]
theorem eqv_TN (a b : List Nat) : eqv (.tup (LN a)) (.tup (LN b)) = decide (a = b) := eqvs_LN a b
theorem nkBs_LN (k : Nat) : ∀ l : List Nat, nkBs k (LN l) = true
  | [] => by simp [nkBs]
  | q :: l => by
    show (nkB k (DN q) && nkBs k (LN l)) = true
    rw [nkBs_LN k l]; cases k <;> rfl
theorem keyB_TN (l : List Nat) : keyB true (.tup (LN l)) = true := by
  show nkB 8 (.tup (LN l)) = true
  simp only [nkB]; exact nkBs_LN 7 l
theorem all_flat (l : List Nat) : (LN l).all flat = true := by
  rw [LN, List.all_map, List.all_eq_true]
  intro x _; rfl
theorem any_eqvI (l : List Nat) (q : Int) : ((LN l).any fun y => eqv y (.int q)) = decide (0 ≤ q ∧ q.toNat ∈ l) := by
  induction l with
  | nil => simp
  | cons a l ih =>
    rw [LN, List.map_cons, List.any_cons]
    have ih : ((l.map DN).any fun y => eqv y (.int q)) = decide (0 ≤ q ∧ q.toNat ∈ l) := ih
    rw [ih]
    show (((a : Int) == q) || decide (0 ≤ q ∧ q.toNat ∈ l)) = decide (0 ≤ q ∧ q.toNat ∈ a :: l)
    by_cases h : (a : Int) = q
    · have h1 : 0 ≤ q := by omega
      have h2 : q.toNat = a := by omega
      simp [h, h1, h2]
    · have h2 : ((a : Int) == q) = false := by simp [h]
      by_cases h0 : 0 ≤ q
      · have h3 : ¬ q.toNat = a := by omega
        simp [h2, h0, h3]
      · simp [h2, h0]
theorem inD_TN (l : List Nat) (q : Nat) : inD (.int q) (.tup (LN l)) = some (decide (q ∈ l)) := by
  show (if flat (.int q) && (LN l).all flat then some ((LN l).any fun y => eqv y (.int q)) else none) = _
  rw [all_flat, any_eqvI]; simp [flat]
theorem inD_TNI (l : List Nat) (q : Int) : inD (.int q) (.tup (LN l)) = some (decide (0 ≤ q ∧ q.toNat ∈ l)) := by
  show (if flat (.int q) && (LN l).all flat then some ((LN l).any fun y => eqv y (.int q)) else none) = _
  rw [all_flat, any_eqvI]; rfl

/-! ### dicts -/
section
variable {α β : Type} [DecidableEq α] (enc : α → D) (dv : β → D)
def kget (a : α) : List (α × β) → Option β
  | [] => none
  | p :: r => if p.1 = a then some p.2 else kget a r
def encK (M : List (α × β)) : List (D × D) := M.map fun p => (enc p.1, dv p.2)
variable {enc dv}
theorem dget_enc (he : ∀ a b, eqv (enc a) (enc b) = decide (a = b)) (a : α) : ∀ M : List (α × β), dget (enc a) (encK enc dv M) = (kget a M).map dv
  | [] => rfl
  | p :: M => by
    have ih := dget_enc he a M
    show (if eqv (enc p.1) (enc a) then some (dv p.2) else dget (enc a) (encK enc dv M)) = _
    have e : kget a (p :: M) = if p.1 = a then some p.2 else kget a M := rfl
    rw [he, ih, e]
    by_cases h : p.1 = a <;> simp [h]
theorem dput_enc (he : ∀ a b, eqv (enc a) (enc b) = decide (a = b)) (a : α) (b : β) : ∀ M : List (α × β), kget a M = none → dput (enc a) (dv b) (encK enc dv M) = encK enc dv (M ++ [(a, b)])
  | [], _ => rfl
  | p :: M, h => by
    unfold kget at h
    by_cases hp : p.1 = a
    · rw [if_pos hp] at h; cases h
    · rw [if_neg hp] at h
      have ih := dput_enc he a b M h
      show (if eqv (enc p.1) (enc a) then _ else (enc p.1, dv p.2) :: dput (enc a) (dv b) (encK enc dv M)) = _
      rw [he, ih]
      simp [hp, encK]
theorem kget_none {a : α} : ∀ {M : List (α × β)}, kget a M = none → a ∉ M.map (·.1)
  | [], _ => by simp
  | p :: M, h => by
    unfold kget at h
    by_cases hp : p.1 = a
    · rw [if_pos hp] at h; cases h
    · rw [if_neg hp] at h
      rw [List.map_cons, List.mem_cons]
      rintro (z | z)
      · exact hp z.symm
      · exact kget_none h z
theorem kget_mem {a : α} {b : β} : ∀ {M : List (α × β)}, kget a M = some b → (a, b) ∈ M
  | [], h => by cases h
  | p :: M, h => by
    unfold kget at h
    by_cases hp : p.1 = a
    · rw [if_pos hp] at h; cases h; subst hp; exact List.mem_cons_self
    · rw [if_neg hp] at h; exact List.mem_cons_of_mem _ (kget_mem h)
theorem encK_len (M : List (α × β)) : (encK enc dv M).length = M.length := List.length_map ..
theorem keys_snoc {a : α} {b : β} {M : List (α × β)} (nd : (M.map (·.1)).Nodup) (h : kget a M = none) : ((M ++ [(a, b)]).map (·.1)).Nodup := by
  rw [List.map_append]
  refine List.nodup_append.mpr ⟨nd, by simp, fun x hx y hy e => ?_⟩
  have hy : y = a := List.mem_singleton.mp hy
  exact kget_none h (by rw [← hy, ← e]; exact hx)
end
theorem maxI_eq : ∀ l : List Int, l ≠ [] → maxI l = some (maxL l)
  | [], h => absurd rfl h
  | [x], _ => rfl
  | x :: y :: r, _ => by
    have ih := maxI_eq (y :: r) (by simp)
    show (maxI (y :: r)).map _ = _
    rw [ih]; rfl
theorem intsOf_map : ∀ l : List Int, intsOf (l.map D.int) = some l
  | [] => rfl
  | x :: l => by
    show (intsOf (l.map D.int)).map (x :: ·) = _
    rw [intsOf_map l]; rfl

/-! ### turns with a state -/
theorem compL_state {ck : T → Bool} {f : D → T → R (Option D)} (I : Nat → T → Prop) (P : D → Prop) (hck : ∀ i t, I i t → ck t = true) : ∀ (xs : List D) (i : Nat) (t : T), I i t →
    (∀ k x t, xs[k]? = some x → I (i + k) t → ∃ d t', f x t = .ok (some d) t' ∧ I (i + k + 1) t' ∧ P d) →
    ∃ ds t', compL ck f xs t = .ok ds t' ∧ ds.length = xs.length ∧ I (i + xs.length) t' ∧ ∀ d ∈ ds, P d
  | [], i, t, h, _ => ⟨[], t, by simp [compL, hck i t h], rfl, h, by simp⟩
  | x :: xs, i, t, h, hs => by
    obtain ⟨d, t1, e1, h1, p1⟩ := hs 0 x t rfl h
    obtain ⟨ds, t2, e2, l2, h2, p2⟩ := compL_state I P hck xs (i + 1) t1 h1 fun k y t hy hI => by
      have := hs (k + 1) y t (by simpa using hy) (by rw [show i + (k + 1) = i + 1 + k by omega]; exact hI)
      rw [show i + (k + 1) + 1 = i + 1 + k + 1 by omega] at this
      exact this
    refine ⟨d :: ds, t2, ?_, by simp [l2], by rw [List.length_cons, show i + (xs.length + 1) = i + 1 + xs.length by omega]; exact h2, fun z hz => ?_⟩
    · simp only [compL, hck i t h, if_true, e1, bnd_ok, e2]
    · rcases List.mem_cons.mp hz with rfl | hz
      · exact p1
      · exact p2 z hz
/-- a for whose body runs on to the end -/
theorem forL_inv {ck : T → Bool} {f : D → Env → T → Out} {fg : List Nat} (I : Nat → Env → T → Prop) (hck : ∀ i ρ t, I i ρ t → ck t = true) : ∀ (xs : List D) (i : Nat) (ρ : Env) (t : T), I i ρ t →
    (∀ k x ρ t, xs[k]? = some x → I (i + k) ρ t → ∃ ρ' t', (f x ρ t = .nx ρ' t' ∨ f x ρ t = .cont ρ' t') ∧ I (i + k + 1) (unset ρ' fg) t') →
    ∃ ρ' t', forL ck f fg xs ρ t = .nx ρ' t' ∧ I (i + xs.length) ρ' t'
  | [], i, ρ, t, h, _ => ⟨ρ, t, by simp [forL, hck i ρ t h], h⟩
  | x :: xs, i, ρ, t, h, hs => by
    obtain ⟨ρ1, t1, e1, h1⟩ := hs 0 x ρ t rfl h
    obtain ⟨ρ2, t2, e2, h2⟩ := forL_inv I hck xs (i + 1) (unset ρ1 fg) t1 h1 fun k y ρ t hy hI => by
      have := hs (k + 1) y ρ t (by simpa using hy) (by rw [show i + (k + 1) = i + 1 + k by omega]; exact hI)
      rw [show i + (k + 1) + 1 = i + 1 + k + 1 by omega] at this
      exact this
    refine ⟨ρ2, t2, ?_, by rw [List.length_cons, show i + (xs.length + 1) = i + 1 + xs.length by omega]; exact h2⟩
    rcases e1 with e1 | e1 <;> simp only [forL, hck i ρ t h, if_true, e1, e2]
/-- a for that may end by a return: J k tells what the return holds -/
theorem forL_ret {ck : T → Bool} {f : D → Env → T → Out} {fg : List Nat} (I : Nat → Env → T → Prop) (Q : Nat → D → T → Prop) (hck : ∀ i ρ t, I i ρ t → ck t = true) : ∀ (xs : List D) (i : Nat) (ρ : Env) (t : T), I i ρ t →
    (∀ k x ρ t, xs[k]? = some x → I (i + k) ρ t → (∃ ρ' t', (f x ρ t = .nx ρ' t' ∨ f x ρ t = .cont ρ' t') ∧ I (i + k + 1) (unset ρ' fg) t') ∨ ∃ d t', f x ρ t = .ret d t' ∧ Q (i + k) d t') →
    (∃ ρ' t', forL ck f fg xs ρ t = .nx ρ' t' ∧ I (i + xs.length) ρ' t') ∨ ∃ d t' k, forL ck f fg xs ρ t = .ret d t' ∧ k < xs.length ∧ Q (i + k) d t'
  | [], i, ρ, t, h, _ => .inl ⟨ρ, t, by simp [forL, hck i ρ t h], h⟩
  | x :: xs, i, ρ, t, h, hs => by
    rcases hs 0 x ρ t rfl h with ⟨ρ1, t1, e1, h1⟩ | ⟨d, t1, e1, h1⟩
    · have hrec := forL_ret I Q hck xs (i + 1) (unset ρ1 fg) t1 h1 fun k y ρ t hy hI => by
        have := hs (k + 1) y ρ t (by simpa using hy) (by rw [show i + (k + 1) = i + 1 + k by omega]; exact hI)
        rw [show i + (k + 1) + 1 = i + 1 + k + 1 by omega, show i + (k + 1) = i + 1 + k by omega] at this
        exact this
      have e0 : forL ck f fg (x :: xs) ρ t = forL ck f fg xs (unset ρ1 fg) t1 := by
        rcases e1 with e1 | e1 <;> simp only [forL, hck i ρ t h, if_true, e1]
      rcases hrec with ⟨ρ2, t2, e2, h2⟩ | ⟨d, t2, k, e2, hk, h2⟩
      · exact .inl ⟨ρ2, t2, e0.trans e2, by rw [List.length_cons, show i + (xs.length + 1) = i + 1 + xs.length by omega]; exact h2⟩
      · exact .inr ⟨d, t2, k + 1, e0.trans e2, by simp; omega, by rw [show i + (k + 1) = i + 1 + k by omega]; exact h2⟩
    · exact .inr ⟨d, t1, 0, by simp only [forL, hck i ρ t h, if_true, e1], by simp, h1⟩
theorem cut_take {α : Type} (xs : List α) (k : Nat) (h : k ≤ xs.length) : cut xs none (some (k : Int)) = xs.take k := by
  unfold cut sIx
  have h1 : ¬ (k : Int) < 0 := by omega
  have h2 : min k xs.length = k := by omega
  simp [h1, h2]
theorem cut_drop {α : Type} (xs : List α) (k : Nat) (h : k ≤ xs.length) : cut xs (some (k : Int)) none = xs.drop k := by
  unfold cut sIx
  have h1 : ¬ (k : Int) < 0 := by omega
  have h2 : min k xs.length = k := by omega
  simp only [h1, if_false, Int.toNat_natCast, h2]
  rw [List.take_of_length_le]
  rw [List.length_drop]
  exact Nat.le_refl _
end Pt
set_option linter.all false
set_option autoImplicit false
/-! running: small helps, words of numbers -/
namespace Pd
def bodyOf : S → Ss
  | .for _ _ b _ => b
  | _ => .nil
def retE : S → E
  | .ret e => e
  | _ => .never
theorem execs_step {cl : Calls} {s : S} {r : Ss} {ρ ρ' : Env} {t t' : T} (h : exec cl s ρ t = .nx ρ' t') : execs cl (.cons s r) ρ t = execs cl r ρ' t' := by
  show thenK (exec cl s ρ t) (fun ρ t => execs cl r ρ t) = _
  rw [h]; rfl
theorem execs_end {cl : Calls} {s : S} {r : Ss} {ρ : Env} {t t' : T} {d : D} (h : exec cl s ρ t = .ret d t') : execs cl (.cons s r) ρ t = .ret d t' := by
  show thenK (exec cl s ρ t) (fun ρ t => execs cl r ρ t) = _
  rw [h]; rfl
theorem exec_forOf {cl : Calls} {g : Tg} {s : Src} {b : Ss} {fg : List Nat} {ρ : Env} {t t1 : T} {xs : List D} {o : Out} (h1 : evSrc cl s false (frzAll ρ (escS s)) t = .ok xs t1) (h2 : forL (ckS s (frzAll ρ (escS s)) xs) (forK g fun ρ t => execs cl b ρ t) fg xs (frzAll ρ (escS s)) t1 = o) : exec cl (.for g s b fg) ρ t = o := by
  rw [exec_for, h1]; exact h2
theorem ev_comp_map {cl : Calls} {s : Src} {g : Tg} {own : List Nat} {c : Tt} {e : E} {ρ : Env} {t t' : T} {xs : List D} (h : D → D) (h1 : evSrc cl s true ρ t = .ok xs t') (h2 : ∀ x ∈ xs, turnC cl g own c e ρ x t' = .ok (some (h x)) t') (hc : ckS s ρ xs t' = true := by rfl) : ev cl (.comp s g own c e) ρ t = .ok (.lst (xs.map h)) t' := by
  rw [ev_comp_pure (fun x => some (h x)) h1 h2 hc]
  congr 2
  rw [List.filterMap_eq_map']
theorem ev_compOf {cl : Calls} {s : Src} {g : Tg} {own : List Nat} {c : Tt} {e : E} {ρ : Env} {t t1 t' : T} {xs ds : List D} (h1 : evSrc cl s true ρ t = .ok xs t1) (h2 : compL (ckS s ρ xs) (turnC cl g own c e ρ) xs t1 = .ok ds t') : ev cl (.comp s g own c e) ρ t = .ok (.lst ds) t' := by
  rw [ev_comp, h1]
  simp only [bnd_ok]
  rw [h2]; rfl
theorem strsOf_map : ∀ l : List (List Nat), strsOf (l.map D.str) = some l
  | [] => rfl
  | x :: l => by
    show (strsOf (l.map D.str)).map (x :: ·) = _
    rw [strsOf_map l]; rfl
theorem boolsOf_map : ∀ l : List Bool, boolsOf (l.map D.bl) = some l
  | [] => rfl
  | x :: l => by
    show (boolsOf (l.map D.bl)).map (x :: ·) = _
    rw [boolsOf_map l]; rfl
theorem flatten_one {α : Type} (f : Nat → α) : ∀ l : List Nat, (l.map fun k => [f k]).flatten = l.map f
  | [] => rfl
  | a :: l => by rw [List.map_cons, List.flatten_cons, flatten_one f l]; rfl
end Pd
namespace Pt
open Pd
/-- a number's word -/
def wordN (pl x : Nat) : List Nat := (List.range pl).map fun k => 48 + x / 2 ^ (pl - 1 - k) % 2
theorem wordN_len (pl x : Nat) : (wordN pl x).length = pl := by unfold wordN; rw [List.length_map, List.length_range]
theorem wordN_bit (pl x : Nat) : ∀ y ∈ wordN pl x, y = 48 ∨ y = 49 := by
  intro y hy
  obtain ⟨k, _, rfl⟩ := List.mem_map.mp hy
  omega
theorem words_wd (pl : Nat) (nums : List Nat) : Wd (nums.map (wordN pl)) pl :=
  ⟨fun w hw => by obtain ⟨x, _, rfl⟩ := List.mem_map.mp hw; exact wordN_len pl x, fun w hw => by obtain ⟨x, _, rfl⟩ := List.mem_map.mp hw; exact wordN_bit pl x⟩
/-- comprehensions over numbers -/
theorem comp_LN {cl : Calls} {s : Src} {g : Tg} {own : List Nat} {c : Tt} {e : E} {ρ : Env} {t t' : T} (l : List Nat) (f : Nat → D) (h1 : evSrc cl s true ρ t = .ok (LN l) t') (h2 : ∀ q ∈ l, turnC cl g own c e ρ (DN q) t' = .ok (some (f q)) t') (hc : ckS s ρ (LN l) t' = true := by rfl) : ev cl (.comp s g own c e) ρ t = .ok (.lst (l.map f)) t' := by
  have e0 : l.map f = (LN l).map (fun d => match d with
    | .int k => f k.toNat
    | d => d) := by
    rw [LN, List.map_map]
    apply List.map_congr_left
    intro k _
    simp
  rw [e0]
  refine ev_comp_map _ h1 (fun d hd => ?_) hc
  obtain ⟨k, hk, rfl⟩ := List.mem_map.mp hd
  have := h2 k hk
  simpa [DN] using this
/-- .. that keep some -/
theorem comp_filter {cl : Calls} {s : Src} {g : Tg} {own : List Nat} {c : Tt} {e : E} {ρ : Env} {t t' : T} (l : List Nat) (p : Nat → Bool) (f : Nat → D) (h1 : evSrc cl s true ρ t = .ok (LN l) t') (h2 : ∀ q ∈ l, turnC cl g own c e ρ (DN q) t' = .ok (if p q then some (f q) else none) t') (hc : ckS s ρ (LN l) t' = true := by rfl) : ev cl (.comp s g own c e) ρ t = .ok (.lst ((l.filter p).map f)) t' := by
  have e0 : (l.filter p).map f = (LN l).filterMap (fun d => match d with
    | .int k => if p k.toNat then some (f k.toNat) else none
    | d => none) := by
    rw [fm_map DN _ (fun q => if p q then some (f q) else none) l (fun q _ => by simp [DN])]
    clear h1 h2 hc
    induction l with
    | nil => rfl
    | cons q l ih =>
      rw [List.filterMap_cons, List.filter_cons]
      cases p q <;> simp [ih]
  rw [e0]
  refine ev_comp_pure _ h1 (fun d hd => ?_) hc
  obtain ⟨k, hk, rfl⟩ := List.mem_map.mp hd
  have := h2 k hk
  simpa [DN] using this
/-- comprehensions over coded things -/
theorem comp_enc {α : Type} {cl : Calls} {s : Src} {g : Tg} {own : List Nat} {c : Tt} {e : E} {ρ : Env} {t t' : T} (l : List α) (enc f : α → D) (h1 : evSrc cl s true ρ t = .ok (l.map enc) t') (h2 : ∀ q ∈ l, turnC cl g own c e ρ (enc q) t' = .ok (some (f q)) t') (hc : ckS s ρ (l.map enc) t' = true := by rfl) : ev cl (.comp s g own c e) ρ t = .ok (.lst (l.map f)) t' := by
  have : compL (ckS s ρ (l.map enc)) (turnC cl g own c e ρ) (l.map enc) t' = .ok (l.map f) t' := by
    have gen : ∀ (ck : T → Bool) (l : List α), ck t' = true → (∀ q ∈ l, turnC cl g own c e ρ (enc q) t' = .ok (some (f q)) t') → compL ck (turnC cl g own c e ρ) (l.map enc) t' = .ok (l.map f) t' := by
      intro ck l hc h2
      induction l with
      | nil => simp [compL, hc]
      | cons q l ih =>
        have h3 := ih fun z hz => h2 z (List.mem_cons_of_mem _ hz)
        simp only [List.map_cons, compL, hc, if_true, h2 q List.mem_cons_self, bnd_ok, h3]
    exact gen _ l hc h2
  exact ev_compOf h1 this
end Pt
set_option linter.all false
set_option autoImplicit false
/-! handed lists, truth of many -/
namespace Pd
mutual
theorem dEq_refl : ∀ d : D, dEq d d = true
  | .non => rfl
  | .bl b => by simp [dEq]
  | .int i => by simp [dEq]
  | .str s => by simp [dEq]
  | .tup xs => by simp only [dEq]; exact dEqs_refl xs
  | .lst xs => by simp only [dEq]; exact dEqs_refl xs
  | .scr xs => by simp [dEq]
  | .obj n => by simp [dEq]
theorem dEqs_refl : ∀ xs : List D, dEqs xs xs = true
  | [] => rfl
  | x :: xs => by simp only [dEqs, dEq_refl x, dEqs_refl xs, Bool.and_self]
end
/-- handed: a tuple, a list, a list of the table -/
def Hd (vs : List D) (x : D) (t : T) : Prop := x = .tup vs ∨ x = .lst vs ∨ ∃ k, x = .obj k ∧ t[k]? = some (.lst vs)
section
variable {vs : List D} {x : D} {t : T} (h : Hd vs x t)
include h
theorem Hd.row : isiD t .row x = some true := by
  rcases h with rfl | rfl | ⟨k, rfl, e⟩
  · rfl
  · rfl
  · simp [isiD, e, isiO]
theorem Hd.len : lenD t x = some vs.length := by
  rcases h with rfl | rfl | ⟨k, rfl, e⟩
  · rfl
  · rfl
  · simp [lenD, e]
theorem Hd.items (i : Nat) : itemsS (.var i) t x = some vs := by
  rcases h with rfl | rfl | ⟨k, rfl, e⟩
  · rfl
  · rfl
  · simp [itemsS, e]
theorem Hd.ix (i : Int) : ixD t x (.int i) = atI vs i := by
  rcases h with rfl | rfl | ⟨k, rfl, e⟩
  · rfl
  · rfl
  · simp [ixD, e]
theorem Hd.list : b1D t .list x = some (.lst vs) := by
  rcases h with rfl | rfl | ⟨k, rfl, e⟩
  · rfl
  · rfl
  · simp [b1D, e]
theorem Hd.tuple : b1D t .tuple x = some (.tup vs) := by
  rcases h with rfl | rfl | ⟨k, rfl, e⟩
  · rfl
  · rfl
  · simp [b1D, e]
theorem Hd.ck : ckC (.val x) vs t = true := by
  rcases h with rfl | rfl | ⟨k, rfl, e⟩
  · rfl
  · rfl
  · simp [ckC, ckO, e, dEqs_refl]
end
theorem bools_rep {α : Type} (l : List α) : boolsOf (l.map fun _ => .bl true) = some (l.map fun _ => true) := by
  have e : l.map (fun _ => D.bl true) = (l.map fun _ => true).map D.bl := by rw [List.map_map]; rfl
  rw [e, boolsOf_map]
/-- the table but for the objects of S stays; it may grow -/
def Fr (S : Nat → Prop) (t t' : T) : Prop := t.length ≤ t'.length ∧ ∀ i, i < t.length → ¬ S i → t'[i]? = t[i]?
theorem Fr.refl (S : Nat → Prop) (t : T) : Fr S t t := ⟨Nat.le_refl _, fun _ _ _ => rfl⟩
theorem Fr.trans {S : Nat → Prop} {t u v : T} (a : Fr S t u) (b : Fr S u v) : Fr S t v :=
  ⟨Nat.le_trans a.1 b.1, fun i hi hs => (b.2 i (Nat.lt_of_lt_of_le hi a.1) hs).trans (a.2 i hi hs)⟩
theorem Fr.mono {S R : Nat → Prop} {t u : T} (a : Fr S t u) (h : ∀ i, S i → R i) : Fr R t u := ⟨a.1, fun i hi hr => a.2 i hi fun z => hr (h i z)⟩
theorem Fr.get {S : Nat → Prop} {t u : T} (a : Fr S t u) {i : Nat} {o : Ob} (h : t[i]? = some o) (hs : ¬ S i) : u[i]? = some o := by
  rw [a.2 i (List.getElem?_eq_some_iff.mp h).1 hs]; exact h
theorem Fr.set {S : Nat → Prop} (t : T) (k : Nat) (o : Ob) (h : S k) : Fr S t (t.set k o) := by
  refine ⟨by simp, fun i hi hs => ?_⟩
  rw [List.getElem?_set]
  have : k ≠ i := fun z => hs (z ▸ h)
  rw [if_neg this]
theorem Fr.app (S : Nat → Prop) (t : T) (os : List Ob) : Fr S t (t ++ os) := ⟨by simp, fun i hi _ => by rw [List.getElem?_append_left hi]⟩
theorem Hd.fr {S : Nat → Prop} {vs : List D} {x : D} {t u : T} (h : Hd vs x t) (a : Fr S t u) (hs : ∀ k, x = .obj k → ¬ S k) : Hd vs x u := by
  rcases h with rfl | rfl | ⟨k, rfl, e⟩
  · exact .inl rfl
  · exact .inr (.inl rfl)
  · exact .inr (.inr ⟨k, rfl, a.get e (hs k rfl)⟩)
end Pd
set_option linter.all false
set_option autoImplicit false
/-! trees of points -/
namespace Pt
open Pd
inductive Tr where
  | leaf (q : Nat)
  | node (p : Nat) (a b : Tr)
def Tr.enc : Tr → D
  | .leaf q => .int q
  | .node p a b => .tup [.int p, a.enc, b.enc]
def Win (ws : List (List Nat)) (B : Nat → Int) (pl : Nat) : Tr → List Nat → Int → Prop
  | .leaf q, l, e => q ∈ l ∧ B q < e
  | .node p a b, l, e => p < pl ∧ Parts ws p l ∧ Win ws B pl a (lo ws p l) (e + 1) ∧ Win ws B pl b (up ws p l) (e + 1)
theorem lo_mono {ws : List (List Nat)} {p : Nat} {l k : List Nat} (h : ∀ q ∈ l, q ∈ k) : ∀ q ∈ lo ws p l, q ∈ lo ws p k := fun q hq => by
  obtain ⟨a, b⟩ := List.mem_filter.mp hq
  exact List.mem_filter.mpr ⟨h q a, b⟩
theorem up_mono {ws : List (List Nat)} {p : Nat} {l k : List Nat} (h : ∀ q ∈ l, q ∈ k) : ∀ q ∈ up ws p l, q ∈ up ws p k := fun q hq => by
  obtain ⟨a, b⟩ := List.mem_filter.mp hq
  exact List.mem_filter.mpr ⟨h q a, b⟩
theorem ne_mono {l k : List Nat} (h : ∀ q ∈ l, q ∈ k) (hl : l ≠ []) : k ≠ [] := by
  rintro rfl
  cases l with
  | nil => exact hl rfl
  | cons a l => exact absurd (h a List.mem_cons_self) (by simp)
theorem Win.mono {ws : List (List Nat)} {B : Nat → Int} {pl : Nat} : ∀ (tr : Tr) {l k : List Nat} {e : Int}, (∀ q ∈ l, q ∈ k) → Win ws B pl tr l e → Win ws B pl tr k e
  | .leaf q, _, _, _, h, w => ⟨h q w.1, w.2⟩
  | .node p a b, _, _, _, h, ⟨h1, h2, h3, h4⟩ => ⟨h1, ⟨ne_mono (lo_mono h) h2.1, ne_mono (up_mono h) h2.2⟩, Win.mono a (lo_mono h) h3, Win.mono b (up_mono h) h4⟩
/-- does the tree hold -/
def hold (ws : List (List Nat)) (B : Nat → Int) : Tr → List Nat → Int → Bool
  | .leaf q, l, e => decide (q ∈ l) && decide (B q < e)
  | .node p a b, l, e => hold ws B a (lo ws p l) (e + 1) && hold ws B b (up ws p l) (e + 1)
/-- its numbers are good -/
def Tr.wf (pl m : Nat) : Tr → Prop
  | .leaf q => q < m
  | .node p a b => p < pl ∧ a.wf pl m ∧ b.wf pl m
theorem Win.hold {ws : List (List Nat)} {B : Nat → Int} {pl : Nat} : ∀ (tr : Tr) {l : List Nat} {e : Int}, Win ws B pl tr l e → hold ws B tr l e = true
  | .leaf q, _, _, w => by
    show (decide _ && decide _) = true
    simp only [Bool.and_eq_true, decide_eq_true_eq]; exact w
  | .node p a b, _, _, ⟨_, _, h3, h4⟩ => by
    show (Pt.hold ws B a _ _ && Pt.hold ws B b _ _) = true
    rw [Win.hold a h3, Win.hold b h4]; rfl
theorem Win.wf {ws : List (List Nat)} {B : Nat → Int} {pl m : Nat} : ∀ (tr : Tr) {l : List Nat} {e : Int}, (∀ q ∈ l, q < m) → Win ws B pl tr l e → tr.wf pl m
  | .leaf q, _, _, h, w => h q w.1
  | .node p a b, _, _, h, ⟨h1, _, h3, h4⟩ => ⟨h1, Win.wf a (fun q hq => h q (lo_sub hq)) h3, Win.wf b (fun q hq => h q (up_sub hq)) h4⟩
theorem hold_ne {ws : List (List Nat)} {B : Nat → Int} : ∀ (tr : Tr) {l : List Nat} {e : Int}, hold ws B tr l e = true → l ≠ []
  | .leaf q, l, e, h => by
    rintro rfl
    have h : (decide (q ∈ []) && decide (B q < e)) = true := h
    simp at h
  | .node p a b, l, e, h => by
    have h : (hold ws B a _ _ && hold ws B b _ _) = true := h
    rw [Bool.and_eq_true] at h
    have := hold_ne a h.1
    rintro rfl
    exact this rfl
/-- a tree that holds shows a need -/
theorem hold_need {ws : List (List Nat)} {B : Nat → Int} {pl m : Nat} : ∀ (tr : Tr) {l : List Nat} {e : Int}, tr.wf pl m → hold ws B tr l e = true → 0 < Need ws B pl l + e
  | .leaf q, l, e, _, h => by
    have h : (decide (q ∈ l) && decide (B q < e)) = true := h
    rw [Bool.and_eq_true, decide_eq_true_eq, decide_eq_true_eq] at h
    have := Need_ge ws B pl l h.1
    omega
  | .node p a b, l, e, w, h => by
    have h0 := hold_ne _ h
    have h : (hold ws B a _ _ && hold ws B b _ _) = true := h
    rw [Bool.and_eq_true] at h
    have h1 := hold_need a w.2.1 h.1
    have h2 := hold_need b w.2.2 h.2
    have := (lt_Need ws B pl l h0 (-e)).mpr (.inr ⟨p, w.1, ⟨hold_ne a h.1, hold_ne b h.2⟩, .inr (.inr ⟨by omega, by omega⟩)⟩)
    omega
def Tr.dep : Tr → Nat
  | .leaf _ => 0
  | .node _ a b => a.dep + b.dep + 1
theorem Win.dep {ws : List (List Nat)} {B : Nat → Int} {pl : Nat} : ∀ (tr : Tr) {l : List Nat} {e : Int}, Win ws B pl tr l e → tr.dep < l.length
  | .leaf q, l, _, w => List.length_pos_of_mem w.1
  | .node p a b, l, _, ⟨_, _, h3, h4⟩ => by
    have h5 := Win.dep a h3
    have h6 := Win.dep b h4
    have := up_lo_len ws p l
    show a.dep + b.dep + 1 < _
    omega
theorem mkP_congr {P Q : Nat → Bool} : ∀ m, (∀ q, q < m → P q = Q q) → mkP P m = mkP Q m
  | 0, _ => rfl
  | m + 1, h => by
    rw [mkP, mkP, mkP_congr m fun q hq => h q (by omega), h m (by omega)]
theorem sum_mkP (P : Nat → Bool) : ∀ m, ((((List.range m).filter P).map fun q => ((2 ^ q : Nat) : Int))).sum = ((mkP P m : Nat) : Int)
  | 0 => rfl
  | m + 1 => by
    rw [List.range_succ, List.filter_append, List.map_append, List.sum_append, sum_mkP P m, mkP]
    cases h : P m <;> simp [h]
theorem mk_up_all (ws : List (List Nat)) (m p : Nat) : mk m (up ws p (List.range m)) = mkP (fun q => bit ws p q) m := by
  unfold mk
  refine mkP_congr m fun q hq => ?_
  unfold up
  rw [contains_filter]
  have : (List.range m).contains q = true := List.contains_iff_mem.mpr (List.mem_range.mpr hq)
  rw [this]; rfl
theorem mk_all : ∀ m, mk m (List.range m) = 2 ^ m - 1 := by
  intro m
  have : mk m (List.range m) = mkP (fun _ => true) m := by
    unfold mk
    exact mkP_congr m fun q hq => List.contains_iff_mem.mpr (List.mem_range.mpr hq)
  rw [this]
  clear this
  induction m with
  | zero => rfl
  | succ m ih =>
    have := Nat.two_pow_pos m
    rw [mkP, ih, Nat.pow_succ]; simp; omega
end Pt
namespace K85
open Pd
/-- 0: law; 0=script 1=pool 2=sizes 3=rows 4=budgets 5=others 6=lacking 7=need 8=enough 9=first 10=worlds 11=games 12=world 13=turn 14=game 15=k 16=b 17=row -/
def b0 : Ss := (ss [(.asg (.nm 1) (.call 1 (es [(.var 0)]))), (.asg (.nm 2) (.lst (es [(.kon (.int 6)), (.kon (.int 5))]))), (.ifs (.val (.cmp .eq (.call 2 (es [(.var 1), (.kon (.int 9))])) (.kon (.int 0)))) (ss [(.asg (.nm 2) (.lst (es [(.kon (.int 9)), (.kon (.int 7))])))]) (ss [])), (.asg (.nm 3) (.call 3 (es [(.var 1), (.ix (.var 2) (.kon (.int 0))), (.ix (.var 2) (.kon (.int 1)))]))), (.asg (.nm 4) (.call 4 (es [(.var 1), (.b1 .len (.var 3))]))), (.asg (.nm 5) (.call 5 (es [(.var 3)]))), (.asg (.nm 6) (.call 4 (es [(.var 1), (.b1 .len (.var 5))]))), (.ifs (.val (.cmp .lt (.call 6 (es [(.var 5), (.var 6)])) (.kon (.int 1)))) (ss [(.asg (.nm 6) (.comp (.seq (.var 5)) (.nm 17) [17] .yes (.kon (.int 0))))]) (ss [])), (.asg (.nm 7) (.call 6 (es [(.var 5), (.var 6)]))), (.asg (.nm 8) (.comp (.seq (.var 6)) (.nm 16) [16] .yes (.b2 .min (.kon (.int 10)) (.bin .add (.var 16) (.var 7))))), (.asg (.nm 6) (.comp (.seq (.var 6)) (.nm 16) [16] .yes (.b2 .min (.kon (.int 10)) (.bin .sub (.bin .add (.var 16) (.var 7)) (.kon (.int 1)))))), (.asg (.nm 9) (.call 6 (es [(.var 3), (.var 4)]))), (.asg (.nm 10) (.lst (es [(.lst (es [(.var 3), (.var 4), (.comp (.seq (.var 4)) (.nm 16) [16] .yes (.b2 .min (.kon (.int 10)) (.bin .add (.var 16) (.b2 .max (.kon (.int 0)) (.var 9))))), (.var 9)]))]))), (.asg (.nm 10) (.bin .add (.var 10) (.lst (es [(.lst (es [(.var 5), (.var 6), (.var 8), (.call 6 (es [(.var 5), (.var 6)]))]))])))), (.asg (.nm 10) (.bin .add (.var 10) (.lst (es [(.lst (es [(.var 5), (.var 8), (.var 8), (.call 6 (es [(.var 5), (.var 8)]))]))])))), (.asg (.nm 11) (.lst (es []))), (.for (.nm 12) (.seq (.var 10)) (ss [(.asg (.nm 14) (.call 7 (es [(.var 1), (.ix (.var 12) (.kon (.int 0))), (.ix (.var 12) (.kon (.int 1)))]))), (.ifs (.val (.cmp .isN (.var 14) (.kon .non))) (ss [(.ret (.kon (.bl false)))]) (ss [])), (.mut .append 11 (es [(.var 14)]))]) [12, 14]), (.for (.nm 13) (.rng (.kon (.int 2))) (ss [(.for (.nm 15) (.rng (.kon (.int 3))) (ss [(.asg (.nm 12) (.ix (.var 10) (.var 15))), (.ifs (.not (.val (.call 8 (es [(.var 1), (.ix (.var 11) (.var 15)), (.ix (.var 12) (.kon (.int 0))), (.ix (.var 12) (.kon (.int 1))), (.ix (.var 12) (.kon (.int 2))), (.ix (.var 12) (.kon (.int 3)))])))) (ss [(.ret (.kon (.bl false)))]) (ss []))]) [12, 15])]) [12, 13, 15]), (.ret (.call 9 (es [])))])
def f0 : Fn := ⟨"law", none, ["script", "pool", "sizes", "rows", "budgets", "others", "lacking", "need", "enough", "first", "worlds", "games", "world", "turn", "game", "k", "b", "row"], 1, b0, 0⟩
/-- 1: _law_pool; 0=script 1=cell -/
def b1 : Ss := (ss [(.ret (.dsp [(.str [99, 101, 108, 108, 115]), (.str [97, 116]), (.str [98, 105, 103]), (.str [115, 116, 97, 116, 101]), (.str [99, 111, 117, 110, 116])] (es [(.comp (.seq (.var 0)) (.nm 1) [1] .yes (.b1 .abs (.b1 .int (.var 1)))), (.kon (.int 0)), (.kon (.int 0)), (.kon (.int 271828182845904)), (.kon (.int 0))])))])
def f1 : Fn := ⟨"_law_pool", none, ["script", "cell"], 1, b1, 0⟩
/-- 2: _law_take; 0=pool 1=many 2=cell 3=mixed 4=digit -/
def b2 : Ss := (ss [(.ifs (.val (.cmp .gt (.ix (.var 0) (.kon (.str [98, 105, 103]))) (.kon (.int 0)))) (ss [(.asg (.nm 4) (.bin .mod (.b1 .int (.ix (.var 0) (.kon (.str [98, 105, 103])))) (.var 1))), (.setI (.var 0) (.kon (.str [98, 105, 103])) (.bin .fdiv (.ix (.var 0) (.kon (.str [98, 105, 103]))) (.var 1))), (.ret (.var 4))]) (ss [])), (.fg [4]), (.asg (.nm 2) (.kon (.int 0))), (.ifs (.val (.cmp .lt (.ix (.var 0) (.kon (.str [97, 116]))) (.b1 .len (.ix (.var 0) (.kon (.str [99, 101, 108, 108, 115])))))) (ss [(.asg (.nm 2) (.ix (.ix (.var 0) (.kon (.str [99, 101, 108, 108, 115]))) (.ix (.var 0) (.kon (.str [97, 116]))))), (.setI (.var 0) (.kon (.str [97, 116])) (.bin .add (.ix (.var 0) (.kon (.str [97, 116]))) (.kon (.int 1))))]) (ss [])), (.ifs (.val (.cmp .ge (.var 2) (.bin .pow (.kon (.int 10)) (.kon (.int 18))))) (ss [(.setI (.var 0) (.kon (.str [98, 105, 103])) (.bin .fdiv (.var 2) (.var 1))), (.ret (.bin .mod (.b1 .int (.var 2)) (.var 1)))]) (ss [])), (.setI (.var 0) (.kon (.str [99, 111, 117, 110, 116])) (.bin .add (.ix (.var 0) (.kon (.str [99, 111, 117, 110, 116]))) (.kon (.int 1)))), (.asg (.nm 3) (.bin .mod (.b1 .int (.bin .add (.bin .add (.ix (.var 0) (.kon (.str [115, 116, 97, 116, 101]))) (.bin .mul (.var 2) (.kon (.int 314159265359)))) (.bin .mul (.ix (.var 0) (.kon (.str [99, 111, 117, 110, 116]))) (.kon (.int 141421356237))))) (.kon (.int 1000000000000037)))), (.asg (.nm 3) (.bin .mod (.b1 .int (.bin .add (.bin .add (.bin .mul (.var 3) (.var 3)) (.bin .mul (.kon (.int 17)) (.var 3))) (.kon (.int 90007)))) (.kon (.int 1000000000000037)))), (.asg (.nm 3) (.bin .mod (.b1 .int (.bin .add (.bin .add (.bin .mul (.var 3) (.var 3)) (.bin .mul (.kon (.int 3)) (.var 3))) (.kon (.int 12289)))) (.kon (.int 1000000000000037)))), (.setI (.var 0) (.kon (.str [115, 116, 97, 116, 101])) (.var 3)), (.ret (.bin .mod (.b1 .int (.bin .fdiv (.var 3) (.kon (.int 1000003)))) (.var 1)))])
def f2 : Fn := ⟨"_law_take", none, ["pool", "many", "cell", "mixed", "digit"], 2, b2, 0⟩
/-- 3: _law_rows; 0=pool 1=programs 2=points 3=many 4=length 5=kind 6=first 7=numbers 8=k 9=number -/
def b3 : Ss := (ss [(.asg (.nm 3) (.bin .add (.kon (.int 1)) (.call 2 (es [(.var 0), (.var 1)])))), (.asg (.nm 4) (.bin .add (.kon (.int 1)) (.call 2 (es [(.var 0), (.var 2)])))), (.ifs (.val (.cmp .eq (.call 2 (es [(.var 0), (.kon (.int 12))])) (.kon (.int 0)))) (ss [(.asg (.nm 4) (.kon (.int 0)))]) (ss [])), (.asg (.nm 5) (.call 2 (es [(.var 0), (.kon (.int 8))]))), (.asg (.nm 6) (.call 2 (es [(.var 0), (.bin .shl (.kon (.int 1)) (.var 4))]))), (.asg (.nm 7) (.lst (es []))), (.for (.nm 8) (.rng (.var 3)) (ss [(.ifs (.val (.cmp .eq (.var 5) (.kon (.int 0)))) (ss [(.mut .append 7 (es [(.bin .bxor (.var 6) (.bin .sub (.bin .shl (.kon (.int 1)) (.bin .mod (.b1 .int (.var 8)) (.bin .add (.var 4) (.kon (.int 1))))) (.kon (.int 1))))]))]) (ss [(.ifs (.val (.cmp .eq (.var 5) (.kon (.int 1)))) (ss [(.mut .append 7 (es [(.bin .bxor (.var 6) (.bin .mod (.b1 .int (.var 8)) (.bin .shl (.kon (.int 1)) (.var 4))))]))]) (ss [(.ifs (.and (ts [(.val (.cmp .eq (.var 5) (.kon (.int 2)))), (.val (.cmp .gt (.var 8) (.kon (.int 0)))), (.val (.cmp .gt (.var 4) (.kon (.int 0))))])) (ss [(.mut .append 7 (es [(.bin .bxor (.ix (.var 7) (.call 2 (es [(.var 0), (.var 8)]))) (.bin .shl (.kon (.int 1)) (.call 2 (es [(.var 0), (.var 4)]))))]))]) (ss [(.ifs (.and (ts [(.val (.cmp .gt (.var 8) (.kon (.int 0)))), (.val (.cmp .eq (.call 2 (es [(.var 0), (.kon (.int 6))])) (.kon (.int 0))))])) (ss [(.mut .append 7 (es [(.ix (.var 7) (.call 2 (es [(.var 0), (.var 8)])))]))]) (ss [(.mut .append 7 (es [(.call 2 (es [(.var 0), (.bin .shl (.kon (.int 1)) (.var 4))]))]))]))]))]))]))]) [8]), (.ret (.comp (.seq (.var 7)) (.nm 9) [9] .yes (.call 10 (es [(.var 9), (.var 4)]))))])
def f3 : Fn := ⟨"_law_rows", none, ["pool", "programs", "points", "many", "length", "kind", "first", "numbers", "k", "number"], 3, b3, 0⟩
/-- 4: _law_budgets; 0=pool 1=many 2=top 3=k -/
def b4 : Ss := (ss [(.asg (.nm 2) (.ix (.lst (es [(.kon (.int 1)), (.kon (.int 2)), (.kon (.int 3)), (.kon (.int 4)), (.kon (.int 11))])) (.call 2 (es [(.var 0), (.kon (.int 5))])))), (.ret (.comp (.rng (.var 1)) (.nm 3) [3] .yes (.call 2 (es [(.var 0), (.var 2)]))))])
def f4 : Fn := ⟨"_law_budgets", none, ["pool", "many", "top", "k"], 2, b4, 0⟩
/-- 5: _law_unlike; 0=rows 1=other 2=sign -/
def b5 : Ss := (ss [(.ifs (.val (.cmp .eq (.b1 .len (.ix (.var 0) (.kon (.int 0)))) (.kon (.int 0)))) (ss [(.ret (.lst (es [(.kon (.str [48])), (.kon (.str [49])), (.kon (.str [49]))])))]) (ss [])), (.asg (.nm 1) (.join (.comp (.seq (.ix (.var 0) (.kon (.int 0)))) (.nm 2) [2] .yes (.ix (.kon (.str [49, 48])) (.b1 .int (.var 2)))))), (.ret (.bin .add (.sl (.var 0) .nil (es [(.b2 .max (.kon (.int 1)) (.bin .sub (.b1 .len (.var 0)) (.kon (.int 1))))])) (.lst (es [(.var 1)]))))])
def f5 : Fn := ⟨"_law_unlike", none, ["rows", "other", "sign"], 1, b5, 0⟩
/-- 6: _law_need; 0=rows 1=budgets 2=ones 3=kept 4=more -/
def b6 : Ss := (ss [(.asg (.nm 2) (.call 11 (es [(.var 0)]))), (.asg (.nm 3) (.newD true)), (.for (.nm 4) (.rng (.kon (.int 24))) (ss [(.ifs (.not (.val (.call 12 (es [(.bin .sub (.bin .shl (.kon (.int 1)) (.b1 .len (.var 0))) (.kon (.int 1))), (.bin .sub (.kon (.int 10)) (.var 4)), (.var 2), (.var 1), (.var 3)])))) (ss [(.ret (.bin .sub (.var 4) (.kon (.int 10))))]) (ss []))]) [4]), (.ret (.kon (.int 14)))])
def f6 : Fn := ⟨"_law_need", none, ["rows", "budgets", "ones", "kept", "more"], 2, b6, 2⟩
/-- 7: _law_begun; 0=pool 1=rows 2=budgets 3=first 4=second 5=game -/
def b7 : Ss := (ss [(.asg (.nm 3) (.call 13 (es [(.var 0), (.var 1)]))), (.asg (.nm 4) (.call 13 (es [(.var 0), (.var 2)]))), (.asg (.nm 5) (.mk 0 (es [(.var 3), (.var 4)]))), (.ifs (.or (ts [(.not (.val (.call 15 (es [(.b1 .list (.var 3)), (.var 1)])))), (.not (.val (.call 15 (es [(.b1 .list (.var 4)), (.var 2)]))))])) (ss [(.ret (.kon .non))]) (ss [])), (.ifs (.val (.isi .lst (.var 3))) (ss [(.mut .insert 3 (es [(.kon (.int 0)), (.ix (.var 3) (.bin .sub (.b1 .len (.var 3)) (.kon (.int 1))))]))]) (ss [])), (.ifs (.val (.isi .lst (.var 4))) (ss [(.mut .insert 4 (es [(.kon (.int 0)), (.kon (.int 9))]))]) (ss [])), (.ret (.var 5))])
def f7 : Fn := ⟨"_law_begun", none, ["pool", "rows", "budgets", "first", "second", "game"], 3, b7, 0⟩
/-- 8: _law_as_due; 0=pool 1=game 2=rows 3=budgets 4=raised 5=need 6=tree 7=first 8=second -/
def b8 : Ss := (ss [(.asg (.nm 6) (.mth 0 16 (.var 1) (es []))), (.ifs (.not (.val (.call 15 (es [(.mth 0 17 (.var 1) (es [])), (.cmp .le (.var 5) (.kon (.int 0)))])))) (ss [(.ret (.kon (.bl false)))]) (ss [])), (.ifs (.val (.cmp .le (.var 5) (.kon (.int 0)))) (ss [(.ret (.cmp .isN (.var 6) (.kon .non)))]) (ss [])), (.ifs (.or (ts [(.not (.val (.isi .tup (.var 6)))), (.not (.val (.call 18 (es [(.var 6), (.var 2), (.var 3), (.lst (es []))]))))])) (ss [(.ret (.kon (.bl false)))]) (ss [])), (.ifs (.val (.cmp .notN (.call 19 (es [(.call 13 (es [(.var 0), (.var 2)])), (.call 13 (es [(.var 0), (.var 3)])), (.var 6)])) (.kon (.bl true)))) (ss [(.ret (.kon (.bl false)))]) (ss [])), (.asg (.nm 7) (.call 13 (es [(.var 0), (.var 2)]))), (.asg (.nm 8) (.call 13 (es [(.var 0), (.var 4)]))), (.ifs (.val (.cmp .notN (.call 19 (es [(.var 7), (.var 8), (.var 6)])) (.kon (.bl false)))) (ss [(.ret (.kon (.bl false)))]) (ss [])), (.ret (.and (es [(.call 15 (es [(.b1 .list (.var 7)), (.var 2)])), (.call 15 (es [(.b1 .list (.var 8)), (.var 4)]))])))])
def f8 : Fn := ⟨"_law_as_due", none, ["pool", "game", "rows", "budgets", "raised", "need", "tree", "first", "second"], 6, b8, 0⟩
/-- 9: _law_scene; 0=cube 1=tree 2=ladder 3=told 4=row -/
def b9 : Ss := (ss [(.asg (.nm 0) (.lst (es [(.kon (.str [48, 48, 48])), (.kon (.str [48, 48, 49])), (.kon (.str [48, 49, 48])), (.kon (.str [48, 49, 49])), (.kon (.str [49, 48, 48])), (.kon (.str [49, 48, 49])), (.kon (.str [49, 49, 48])), (.kon (.str [49, 49, 49]))]))), (.asg (.nm 1) (.mth 0 16 (.mk 0 (es [(.b1 .tuple (.var 0)), (.comp (.seq (.var 0)) (.nm 4) [4] .yes (.kon (.int 2)))])) (es []))), (.ifs (.or (ts [(.not (.val (.isi .tup (.var 1)))), (.not (.val (.call 18 (es [(.var 1), (.var 0), (.comp (.seq (.var 0)) (.nm 4) [4] .yes (.kon (.int 2))), (.lst (es []))]))))])) (ss [(.ret (.kon (.bl false)))]) (ss [])), (.ifs (.val (.cmp .notN (.mth 0 16 (.mk 0 (es [(.b1 .list (.var 0)), (.lst (es [(.kon (.int 2)), (.kon (.int 2)), (.kon (.int 2)), (.kon (.int 2)), (.kon (.int 2)), (.kon (.int 2)), (.kon (.int 2)), (.kon (.int 3))]))])) (es [])) (.kon .non))) (ss [(.ret (.kon (.bl false)))]) (ss [])), (.asg (.nm 2) (.tup (es [(.kon (.str [48, 48, 48])), (.kon (.str [48, 48, 49])), (.kon (.str [48, 49, 49])), (.kon (.str [49, 49, 49]))]))), (.ifs (.not (.val (.call 18 (es [(.mth 0 16 (.mk 0 (es [(.var 2), (.tup (es [(.kon (.int 1)), (.kon (.int 1)), (.kon (.int 1)), (.kon (.int 1))]))])) (es [])), (.var 2), (.tup (es [(.kon (.int 1)), (.kon (.int 1)), (.kon (.int 1)), (.kon (.int 1))])), (.lst (es []))])))) (ss [(.ret (.kon (.bl false)))]) (ss [])), (.ifs (.or (ts [(.val (.cmp .notN (.mth 0 16 (.mk 0 (es [(.var 2), (.tup (es [(.kon (.int 1)), (.kon (.int 2)), (.kon (.int 1)), (.kon (.int 1))]))])) (es [])) (.kon .non))), (.val (.cmp .notN (.mth 0 16 (.mk 0 (es [(.tup (es [(.kon (.str []))])), (.tup (es [(.kon (.int 0))]))])) (es [])) (.kon .non)))])) (ss [(.ret (.kon (.bl false)))]) (ss [])), (.asg (.nm 3) (.lst (es [(.callk 19 [2, 1, 0] (es []) (es [(.tup (es [(.kon (.int 0)), (.kon (.int 0)), (.kon (.int 1))])), (.lst (es [(.kon (.int 0)), (.kon (.int 0))])), (.tup (es [(.kon (.str [48])), (.kon (.str [49]))]))]))]))), (.asg (.nm 3) (.bin .add (.var 3) (.lst (es [(.call 19 (es [(.tup (es [(.kon (.str [48])), (.kon (.str [49]))])), (.tup (es [(.kon (.int 0)), (.kon (.int 1))])), (.tup (es [(.kon (.int 0)), (.kon (.int 0)), (.kon (.int 1))]))])), (.mth 0 16 (.mkk 0 [1, 0] (es []) (es [(.tup (es [(.kon (.int 0)), (.kon (.int 0))])), (.lst (es [(.kon (.str [48])), (.kon (.str [49]))]))])) (es []))])))), (.ret (.call 15 (es [(.var 3), (.lst (es [(.kon (.bl true)), (.kon (.bl false)), (.tup (es [(.kon (.int 0)), (.kon (.int 0)), (.kon (.int 1))]))]))])))])
def f9 : Fn := ⟨"_law_scene", none, ["cube", "tree", "ladder", "told", "row"], 0, b9, 2⟩
/-- 10: _law_word; 0=number 1=length 2=k -/
def b10 : Ss := (ss [(.ret (.join (.comp (.rng (.var 1)) (.nm 2) [2] .yes (.ix (.kon (.str [48, 49])) (.bin .band (.bin .shr (.var 0) (.bin .sub (.bin .sub (.var 1) (.kon (.int 1))) (.var 2))) (.kon (.int 1)))))))])
def f10 : Fn := ⟨"_law_word", none, ["number", "length", "k"], 2, b10, 0⟩
/-- 11: _law_masks; 0=rows 1=p 2=q -/
def b11 : Ss := (ss [(.ret (.comp (.rng (.b1 .len (.ix (.var 0) (.kon (.int 0))))) (.nm 1) [1] .yes (.b1 .sum (.comp (.rng (.b1 .len (.var 0))) (.nm 2) [2] (.val (.cmp .eq (.ix (.ix (.var 0) (.var 2)) (.var 1)) (.kon (.str [49])))) (.bin .shl (.kon (.int 1)) (.var 2))))))])
def f11 : Fn := ⟨"_law_masks", none, ["rows", "p", "q"], 1, b11, 0⟩
/-- 12: _law_is_lost; 0=mask 1=errors 2=ones 3=budgets 4=kept 5=key 6=lost 7=one 8=upper 9=lower 10=q -/
def b12 : Ss := (ss [(.asg (.nm 5) (.tup (es [(.var 0), (.var 1)]))), (.ifs (.val (.cmp .isin (.var 5) (.var 4))) (ss [(.ret (.ix (.var 4) (.var 5)))]) (ss [])), (.asg (.nm 6) (.cmp .lt (.b1 .min (.comp (.rng (.b1 .len (.var 3))) (.nm 10) [10] (.val (.cmp .eq (.bin .band (.bin .shr (.var 0) (.var 10)) (.kon (.int 1))) (.kon (.int 1)))) (.ix (.var 3) (.var 10)))) (.var 1))), (.for (.nm 7) (.seq (.var 2)) (ss [(.asg (.nm 8) (.bin .band (.var 0) (.var 7))), (.asg (.nm 9) (.bin .sub (.var 0) (.var 8))), (.ifs (.or (ts [(.val (.var 6)), (.val (.cmp .eq (.var 8) (.kon (.int 0)))), (.val (.cmp .eq (.var 9) (.kon (.int 0))))])) (ss [.cont]) (ss [])), (.ifs (.or (ts [(.val (.call 12 (es [(.var 9), (.var 1), (.var 2), (.var 3), (.var 4)]))), (.val (.call 12 (es [(.var 8), (.var 1), (.var 2), (.var 3), (.var 4)])))])) (ss [(.asg (.nm 6) (.kon (.bl true)))]) (ss [(.ifs (.val (.call 12 (es [(.var 9), (.bin .add (.var 1) (.kon (.int 1))), (.var 2), (.var 3), (.var 4)]))) (ss [(.asg (.nm 6) (.call 12 (es [(.var 8), (.bin .add (.var 1) (.kon (.int 1))), (.var 2), (.var 3), (.var 4)])))]) (ss []))]))]) [7, 8, 9]), (.setI (.var 4) (.var 5) (.var 6)), (.ret (.var 6))])
def f12 : Fn := ⟨"_law_is_lost", none, ["mask", "errors", "ones", "budgets", "kept", "key", "lost", "one", "upper", "lower", "q"], 5, b12, 0⟩
/-- 13: _law_handed; 0=pool 1=values -/
def b13 : Ss := (ss [(.ifs (.val (.cmp .eq (.call 2 (es [(.var 0), (.kon (.int 2))])) (.kon (.int 0)))) (ss [(.ret (.b1 .tuple (.var 1)))]) (ss [])), (.ret (.lobj (.var 1)))])
def f13 : Fn := ⟨"_law_handed", none, ["pool", "values"], 2, b13, 0⟩
/-- 14: PointGame.__init__; 0=self 1=rows 2=budgets -/
def b14 : Ss := (ss [(.exp (.call 20 (es [(.var 1), (.var 2)]))), (.setF (.var 0) 0 (.b1 .tuple (.var 1))), (.setF (.var 0) 1 (.b1 .tuple (.var 2))), (.setF (.var 0) 2 (.newD true))])
def f14 : Fn := ⟨"__init__", (some 0), ["self", "rows", "budgets"], 3, b14, 0⟩
/-- 15: _law_alike; 0=one 1=other 2=k -/
def b15 : Ss := (ss [(.ifs (.val (.cmp .isN (.var 1) (.kon .non))) (ss [(.ret (.cmp .isN (.var 0) (.kon .non)))]) (ss [])), (.ifs (.val (.cmp .isN (.var 1) (.kon (.bl true)))) (ss [(.ret (.cmp .isN (.var 0) (.kon (.bl true))))]) (ss [])), (.ifs (.val (.cmp .isN (.var 1) (.kon (.bl false)))) (ss [(.ret (.cmp .isN (.var 0) (.kon (.bl false))))]) (ss [])), (.ifs (.val (.isi .int (.var 1))) (ss [(.ret (.and (es [(.call 21 (es [(.var 0)])), (.cmp .eq (.var 0) (.var 1))])))]) (ss [])), (.ifs (.val (.isi .str (.var 1))) (ss [(.ret (.and (es [(.isi .str (.var 0)), (.cmp .eq (.var 0) (.var 1))])))]) (ss [])), (.ifs (.or (ts [(.val (.cmp .ne (.isi .lst (.var 0)) (.isi .lst (.var 1)))), (.val (.cmp .ne (.isi .tup (.var 0)) (.isi .tup (.var 1))))])) (ss [(.ret (.kon (.bl false)))]) (ss [])), (.ret (.and (es [(.cmp .eq (.b1 .len (.var 0)) (.b1 .len (.var 1))), (.b1 .all (.comp (.rng (.b1 .len (.var 1))) (.nm 2) [2] .yes (.call 15 (es [(.ix (.var 0) (.var 2)), (.ix (.var 1) (.var 2))]))))])))])
def f15 : Fn := ⟨"_law_alike", none, ["one", "other", "k"], 2, b15, 0⟩
/-- 16: PointGame.tree; 0=self -/
def b16 : Ss := (ss [(.ret (.ife (.val (.mth 0 17 (.var 0) (es []))) (.kon .non) (.mth 0 22 (.var 0) (es [(.mth 0 23 (.var 0) (es [])), (.kon (.int 0))]))))])
def f16 : Fn := ⟨"tree", (some 0), ["self"], 1, b16, 0⟩
/-- 17: PointGame.is_kept; 0=self -/
def b17 : Ss := (ss [(.ret (.cmp .le (.mth 0 24 (.var 0) (es [])) (.kon (.int 0))))])
def f17 : Fn := ⟨"is_kept", (some 0), ["self"], 1, b17, 0⟩
/-- 18: _law_breaks; 0=tree 1=rows 2=budgets 3=ways 4=way -/
def b18 : Ss := (ss [(.ifs (.val (.cmp .gt (.b1 .len (.var 3)) (.kon (.int 12)))) (ss [(.ret (.kon (.bl false)))]) (ss [])), (.ifs (.val (.isi .tup (.var 0))) (ss [(.ifs (.or (ts [(.val (.cmp .ne (.b1 .len (.var 0)) (.kon (.int 3)))), (.not (.val (.call 21 (es [(.ix (.var 0) (.kon (.int 0)))])))), (.val (.cmp .lt (.ix (.var 0) (.kon (.int 0))) (.kon (.int 0)))), (.val (.cmp .ge (.ix (.var 0) (.kon (.int 0))) (.b1 .len (.ix (.var 1) (.kon (.int 0))))))])) (ss [(.ret (.kon (.bl false)))]) (ss [])), (.ifs (.not (.val (.call 18 (es [(.ix (.var 0) (.kon (.int 1))), (.var 1), (.var 2), (.bin .add (.var 3) (.lst (es [(.lst (es [(.ix (.var 0) (.kon (.int 0))), (.kon (.str [48]))]))])))])))) (ss [(.ret (.kon (.bl false)))]) (ss [])), (.ret (.call 18 (es [(.ix (.var 0) (.kon (.int 2))), (.var 1), (.var 2), (.bin .add (.var 3) (.lst (es [(.lst (es [(.ix (.var 0) (.kon (.int 0))), (.kon (.str [49]))]))])))])))]) (ss [])), (.ifs (.or (ts [(.not (.val (.call 21 (es [(.var 0)])))), (.val (.cmp .lt (.var 0) (.kon (.int 0)))), (.val (.cmp .ge (.var 0) (.b1 .len (.var 1))))])) (ss [(.ret (.kon (.bl false)))]) (ss [])), (.ret (.and (es [(.cmp .gt (.b1 .len (.var 3)) (.ix (.var 2) (.var 0))), (.b1 .all (.comp (.seq (.var 3)) (.nm 4) [4] .yes (.cmp .eq (.ix (.ix (.var 1) (.var 0)) (.ix (.var 4) (.kon (.int 0)))) (.ix (.var 4) (.kon (.int 1))))))])))])
def f18 : Fn := ⟨"_law_breaks", none, ["tree", "rows", "budgets", "ways", "way"], 4, b18, 0⟩
/-- 19: judge_point_tree; 0=rows 1=budgets 2=tree 3=game -/
def b19 : Ss := (ss [(.asg (.nm 3) (.mk 0 (es [(.var 0), (.var 1)]))), (.ret (.call 25 (es [(.var 3), (.var 2), (.mth 0 23 (.var 3) (es [])), (.kon (.int 0))])))])
def f19 : Fn := ⟨"judge_point_tree", none, ["rows", "budgets", "tree", "game"], 3, b19, 0⟩
/-- 20: check_rows; 0=rows 1=budgets -/
def b20 : Ss := (ss [(.ifs (.not (.val (.call 26 (es [(.var 0)])))) (ss [.never]) (ss [])), (.ifs (.or (ts [(.not (.val (.call 27 (es [(.var 1)])))), (.val (.cmp .ne (.b1 .len (.var 1)) (.b1 .len (.var 0))))])) (ss [.never]) (ss []))])
def f20 : Fn := ⟨"check_rows", none, ["rows", "budgets"], 2, b20, 0⟩
/-- 21: _law_is_integer; 0=value -/
def b21 : Ss := (ss [(.ret (.and (es [(.isi .int (.var 0)), (.not (.isi .bool (.var 0)))])))])
def f21 : Fn := ⟨"_law_is_integer", none, ["value"], 1, b21, 0⟩
/-- 22: PointGame.tree_of; 0=self 1=lot 2=errors 3=program 4=point 5=lower 6=upper 7=_ 8=part -/
def b22 : Ss := (ss [(.for (.nm 3) (.seq (.var 1)) (ss [(.ifs (.val (.cmp .lt (.ix (.fld (.var 0) 1) (.var 3)) (.var 2))) (ss [(.ret (.var 3))]) (ss []))]) [3]), (.for (.tp (gs [(.nm 4), (.nm 5), (.nm 6)])) (.seq (.mth 0 28 (.var 0) (es [(.var 1)]))) (ss [(.ifs (.val (.cmp .gt (.bin .add (.bin .add (.b2 .min (.mth 0 29 (.var 0) (es [(.var 5)])) (.mth 0 29 (.var 0) (es [(.var 6)]))) (.var 2)) (.kon (.int 1))) (.kon (.int 0)))) (ss [(.ret (.tup (es [(.var 4), (.mth 0 22 (.var 0) (es [(.var 5), (.bin .add (.var 2) (.kon (.int 1)))])), (.mth 0 22 (.var 0) (es [(.var 6), (.bin .add (.var 2) (.kon (.int 1)))]))])))]) (ss []))]) [4, 5, 6]), (.for (.tp (gs [(.nm 7), (.nm 5), (.nm 6)])) (.seq (.mth 0 28 (.var 0) (es [(.var 1)]))) (ss [(.for (.nm 8) (.seq (.tup (es [(.var 5), (.var 6)]))) (ss [(.ifs (.val (.cmp .gt (.bin .add (.mth 0 29 (.var 0) (es [(.var 8)])) (.var 2)) (.kon (.int 0)))) (ss [(.ret (.mth 0 22 (.var 0) (es [(.var 8), (.var 2)])))]) (ss []))]) [8])]) [5, 6, 7, 8]), (.ret (.ix (.var 1) (.kon (.int 0))))])
def f22 : Fn := ⟨"tree_of", (some 0), ["self", "lot", "errors", "program", "point", "lower", "upper", "_", "part"], 3, b22, 0⟩
/-- 23: PointGame.all_programs; 0=self -/
def b23 : Ss := (ss [(.ret (.b1 .trange (.b1 .len (.fld (.var 0) 0))))])
def f23 : Fn := ⟨"all_programs", (some 0), ["self"], 1, b23, 0⟩
/-- 24: PointGame.need; 0=self -/
def b24 : Ss := (ss [(.ret (.mth 0 29 (.var 0) (es [(.mth 0 23 (.var 0) (es []))])))])
def f24 : Fn := ⟨"need", (some 0), ["self"], 1, b24, 0⟩
/-- 25: tree_holds; 0=game 1=tree 2=lot 3=knots 4=lower 5=upper -/
def b25 : Ss := (ss [(.ifs (.val (.call 30 (es [(.var 1)]))) (ss [(.ret (.and (es [(.cmp .isin (.var 1) (.var 2)), (.cmp .gt (.var 3) (.ix (.fld (.var 0) 1) (.var 1)))])))]) (ss [])), (.ifs (.not (.val (.call 31 (es [(.var 1), (.b1 .len (.ix (.fld (.var 0) 0) (.kon (.int 0))))])))) (ss [(.ret (.kon (.bl false)))]) (ss [])), (.asg (.tp (gs [(.nm 4), (.nm 5)])) (.mth 0 32 (.var 0) (es [(.var 2), (.ix (.var 1) (.kon (.int 0)))]))), (.ret (.and (es [(.call 25 (es [(.var 0), (.ix (.var 1) (.kon (.int 1))), (.var 4), (.bin .add (.var 3) (.kon (.int 1)))])), (.call 25 (es [(.var 0), (.ix (.var 1) (.kon (.int 2))), (.var 5), (.bin .add (.var 3) (.kon (.int 1)))]))])))])
def f25 : Fn := ⟨"tree_holds", none, ["game", "tree", "lot", "knots", "lower", "upper"], 4, b25, 0⟩
/-- 26: are_rows; 0=value 1=word -/
def b26 : Ss := (ss [(.ifs (.or (ts [(.not (.val (.call 33 (es [(.var 0)])))), (.val (.cmp .eq (.b1 .len (.var 0)) (.kon (.int 0)))), (.not (.val (.b1 .all (.comp (.seq (.var 0)) (.nm 1) [1] .yes (.call 34 (es [(.var 1)]))))))])) (ss [(.ret (.kon (.bl false)))]) (ss [])), (.ret (.b1 .all (.comp (.seq (.var 0)) (.nm 1) [1] .yes (.cmp .eq (.b1 .len (.var 1)) (.b1 .len (.ix (.var 0) (.kon (.int 0))))))))])
def f26 : Fn := ⟨"are_rows", none, ["value", "word"], 1, b26, 0⟩
/-- 27: are_budgets; 0=value 1=budget -/
def b27 : Ss := (ss [(.ret (.and (es [(.call 33 (es [(.var 0)])), (.b1 .all (.comp (.seq (.var 0)) (.nm 1) [1] .yes (.call 35 (es [(.var 1)]))))])))])
def f27 : Fn := ⟨"are_budgets", none, ["value", "budget"], 1, b27, 0⟩
/-- 28: PointGame.parted; 0=self 1=lot 2=found 3=point 4=lower 5=upper -/
def b28 : Ss := (ss [(.asg (.nm 2) (.lst (es []))), (.for (.nm 3) (.rng (.b1 .len (.ix (.fld (.var 0) 0) (.kon (.int 0))))) (ss [(.asg (.tp (gs [(.nm 4), (.nm 5)])) (.mth 0 32 (.var 0) (es [(.var 1), (.var 3)]))), (.ifs (.and (ts [(.val (.cmp .gt (.b1 .len (.var 4)) (.kon (.int 0)))), (.val (.cmp .gt (.b1 .len (.var 5)) (.kon (.int 0))))])) (ss [(.mut .append 2 (es [(.tup (es [(.var 3), (.var 4), (.var 5)]))]))]) (ss []))]) [3, 4, 5]), (.ret (.var 2))])
def f28 : Fn := ⟨"parted", (some 0), ["self", "lot", "found", "point", "lower", "upper"], 2, b28, 0⟩
/-- 29: PointGame.least; 0=self 1=lot 2=needs 3=_ 4=lower 5=upper 6=both 7=program -/
def b29 : Ss := (ss [(.ifs (.val (.cmp .notin (.var 1) (.fld (.var 0) 2))) (ss [(.asg (.nm 2) (.comp (.seq (.var 1)) (.nm 7) [7] .yes (.neg (.ix (.fld (.var 0) 1) (.var 7))))), (.for (.tp (gs [(.nm 3), (.nm 4), (.nm 5)])) (.seq (.mth 0 28 (.var 0) (es [(.var 1)]))) (ss [(.asg (.nm 6) (.lst (es [(.mth 0 29 (.var 0) (es [(.var 4)])), (.mth 0 29 (.var 0) (es [(.var 5)]))]))), (.mut .extend 2 (es [(.lst (es [(.b1 .max (.var 6)), (.bin .add (.kon (.int 1)) (.b1 .min (.var 6)))]))]))]) [3, 4, 5, 6]), (.setI (.fld (.var 0) 2) (.var 1) (.b1 .max (.var 2)))]) (ss [])), (.fg [2, 3, 4, 5, 6]), (.ret (.ix (.fld (.var 0) 2) (.var 1)))])
def f29 : Fn := ⟨"least", (some 0), ["self", "lot", "needs", "_", "lower", "upper", "both", "program"], 2, b29, 0⟩
/-- 30: is_integer; 0=value -/
def b30 : Ss := (ss [(.ret (.and (es [(.isi .int (.var 0)), (.not (.isi .bool (.var 0)))])))])
def f30 : Fn := ⟨"is_integer", none, ["value"], 1, b30, 0⟩
/-- 31: is_knot; 0=tree 1=points -/
def b31 : Ss := (ss [(.ret (.and (es [(.isi .tup (.var 0)), (.cmp .eq (.b1 .len (.var 0)) (.kon (.int 3))), (.call 36 (es [(.ix (.var 0) (.kon (.int 0))), (.kon (.int 0)), (.bin .sub (.var 1) (.kon (.int 1)))]))])))])
def f31 : Fn := ⟨"is_knot", none, ["tree", "points"], 2, b31, 0⟩
/-- 32: PointGame.parts; 0=self 1=lot 2=point 3=lower 4=program -/
def b32 : Ss := (ss [(.asg (.nm 3) (.b1 .tuple (.comp (.seq (.var 1)) (.nm 4) [4] (.val (.cmp .eq (.ix (.ix (.fld (.var 0) 0) (.var 4)) (.var 2)) (.kon (.str [48])))) (.var 4)))), (.ret (.tup (es [(.var 3), (.b1 .tuple (.comp (.seq (.var 1)) (.nm 4) [4] (.val (.cmp .notin (.var 4) (.var 3))) (.var 4)))])))])
def f32 : Fn := ⟨"parts", (some 0), ["self", "lot", "point", "lower", "program"], 3, b32, 0⟩
/-- 33: is_row; 0=value -/
def b33 : Ss := (ss [(.ret (.isi .row (.var 0)))])
def f33 : Fn := ⟨"is_row", none, ["value"], 1, b33, 0⟩
/-- 34: is_word; 0=value 1=character -/
def b34 : Ss := (ss [(.ret (.and (es [(.isi .str (.var 0)), (.b1 .all (.comp (.seq (.var 0)) (.nm 1) [1] .yes (.cmp .isin (.var 1) (.kon (.str [48, 49])))))])))])
def f34 : Fn := ⟨"is_word", none, ["value", "character"], 1, b34, 0⟩
/-- 35: is_number; 0=value -/
def b35 : Ss := (ss [(.ret (.and (es [(.call 30 (es [(.var 0)])), (.cmp .ge (.var 0) (.kon (.int 0)))])))])
def f35 : Fn := ⟨"is_number", none, ["value"], 1, b35, 0⟩
/-- 36: is_between; 0=value 1=least 2=most -/
def b36 : Ss := (ss [(.ret (.and (es [(.call 30 (es [(.var 0)])), (.chn .le .le (.var 1) (.var 0) (.var 2))])))])
def f36 : Fn := ⟨"is_between", none, ["value", "least", "most"], 3, b36, 0⟩
def prg : Prg := ⟨[f0, f1, f2, f3, f4, f5, f6, f7, f8, f9, f10, f11, f12, f13, f14, f15, f16, f17, f18, f19, f20, f21, f22, f23, f24, f25, f26, f27, f28, f29, f30, f31, f32, f33, f34, f35, f36], [⟨"PointGame", 14⟩], ["rows", "budgets", "known"], []⟩
end K85
set_option maxRecDepth 100000
set_option linter.all false
set_option autoImplicit false
/-! the pool -/
namespace K85
open Pd Pt
abbrev cls' (n : Nat) : Calls := ⟨fun j as t => call prg n j as t, fun c as t => mkC prg (fun j as t => call prg n j as t) c as t⟩
theorem cS (i : Nat) (f : Fn) (h : prg.fns[i]? = some f) (n : Nat) (as : List D) (t : T) : call prg (n + 1) i as t = runF (cls' n) f as t := by
  simp only [call, h]
structure Pool where
  cells : List Int
  i : Int
  big : Int
  st : Int
  ct : Int
def Pool.ob (p : Pool) : Ob := .dct false [(.str [99, 101, 108, 108, 115], .lst (p.cells.map .int)), (.str [97, 116], .int p.i), (.str [98, 105, 103], .int p.big), (.str [115, 116, 97, 116, 101], .int p.st), (.str [99, 111, 117, 110, 116], .int p.ct)]
structure Ok (p : Pool) (b : Int) : Prop where
  cells : ∀ c ∈ p.cells, 0 ≤ c
  i : 0 ≤ p.i
  big : 0 ≤ p.big
  st : 0 ≤ p.st ∧ p.st < 1000000000000037
  ct : 0 ≤ p.ct ∧ p.ct ≤ b
theorem Ok.mono {p : Pool} {b c : Int} (o : Ok p b) (h : b ≤ c) : Ok p c := ⟨o.cells, o.i, o.big, o.st, o.ct.1, by have := o.ct.2; omega⟩
theorem pow18 : (10 : Int) ^ 18 = 1000000000000000000 := rfl
theorem bits60 (x : Int) (h0 : 0 ≤ x) (h : x < 1152921504606846976) : bits x < 60 := bits_lt x 60 (by omega) (by omega)
/-- the count goes up, the state is mixed -/
theorem take_tail (n : Nat) (p : Pool) (b m cell : Int) (r : T) (x4 : Cell) (h : 1 ≤ m) (hm : m < 100000) (o : Ok p b) (hb : b < 1000000) (hc : 0 ≤ cell) (hc2 : cell < 1000000000000000000) :
    ∃ v p', execs (cls' n) (tl (tl (tl (tl (tl b2))))) [.val (.obj 0), .val (.int m), .val (.int cell), .un, x4] (p.ob :: r) = .ret (.int v) (Pool.ob p' :: r) ∧ Ok p' (b + 1) ∧ 0 ≤ v ∧ v < m := by
  obtain ⟨oc, oi, ob, ⟨os1, os2⟩, ot1, ot2⟩ := o
  have h4 : 0 < m := by omega
  have hbm : bits m < 9000 := Nat.lt_trans (bits_lt m 17 (by omega) (by omega)) (by omega)
  have e1 : bits cell + bits 314159265359 < 1000000 := by
    have := bits60 cell hc (by omega)
    have h6 : bits 314159265359 < 60 := bits60 _ (by decide) (by decide)
    omega
  have e2 : bits (p.ct + 1) + bits 141421356237 < 1000000 := by
    have := bits60 (p.ct + 1) (by omega) (by omega)
    have h6 : bits 141421356237 < 60 := bits60 _ (by decide) (by decide)
    omega
  have g1 : 0 ≤ (p.st + cell * 314159265359 + (p.ct + 1) * 141421356237) % 1000000000000037 := Int.emod_nonneg _ (by omega)
  have g2 : (p.st + cell * 314159265359 + (p.ct + 1) * 141421356237) % 1000000000000037 < 1000000000000037 := Int.emod_lt_of_pos _ (by omega)
  generalize hx1 : (p.st + cell * 314159265359 + (p.ct + 1) * 141421356237) % 1000000000000037 = x1 at g1 g2
  have e3 : bits x1 + bits x1 < 1000000 := by
    have := bits60 x1 g1 (by omega)
    omega
  have e4 : bits 17 + bits x1 < 1000000 := by
    have := bits60 x1 g1 (by omega)
    have h6 : bits 17 < 60 := bits60 _ (by decide) (by decide)
    omega
  have g3 : 0 ≤ (x1 * x1 + 17 * x1 + 90007) % 1000000000000037 := Int.emod_nonneg _ (by omega)
  have g4 : (x1 * x1 + 17 * x1 + 90007) % 1000000000000037 < 1000000000000037 := Int.emod_lt_of_pos _ (by omega)
  generalize hx2 : (x1 * x1 + 17 * x1 + 90007) % 1000000000000037 = x2 at g3 g4
  have e5 : bits x2 + bits x2 < 1000000 := by
    have := bits60 x2 g3 (by omega)
    omega
  have e6 : bits 3 + bits x2 < 1000000 := by
    have := bits60 x2 g3 (by omega)
    have h6 : bits 3 < 60 := bits60 _ (by decide) (by decide)
    omega
  have g5 : 0 ≤ (x2 * x2 + 3 * x2 + 12289) % 1000000000000037 := Int.emod_nonneg _ (by omega)
  have g6 : (x2 * x2 + 3 * x2 + 12289) % 1000000000000037 < 1000000000000037 := Int.emod_lt_of_pos _ (by omega)
  generalize hx3 : (x2 * x2 + 3 * x2 + 12289) % 1000000000000037 = x3 at g5 g6
  have h32 : bits 1000003 < 9000 := Nat.lt_trans (bits60 1000003 (by decide) (by decide)) (by omega)
  refine ⟨x3 / 1000003 % m, ⟨p.cells, p.i, p.big, x3, p.ct + 1⟩, ?_, ⟨oc, oi, ob, ⟨g5, g6⟩, by show 0 ≤ p.ct + 1; omega, by show p.ct + 1 ≤ b + 1; omega⟩, Int.emod_nonneg _ (by omega), Int.emod_lt_of_pos _ h4⟩
  simp [runF, ss, es, ts, gs, execs, ev_var, ev_kon, ev_glb, ev_bin, ev_neg, ev_cmp, ev_chn, ev_and, ev_or, ev_not, ev_ife, ev_call, ev_callk, ev_mth, ev_mk, ev_mkk, ev_b1, ev_b2, ev_isi, ev_ix, ev_sl, ev_lst, ev_tup, ev_newL, ev_newD, ev_lobj, ev_dsp, ev_dm, ev_join, ev_fld, exec_asg, exec_setI, exec_setF, exec_aug, exec_mut, exec_ifs, exec_ret, exec_retn, exec_brk, exec_cont, exec_exp, exec_rai, exec_fg, exec_pas, evT, evs, evTAnd, evTOr, evAnd, evOr, evP, evSrc, bo, bnd, frzAll, esT, esTs, esO, esc, escs, esS, escS, opd, opn, look, peek, ofO, cmpD, truthD, thenK, sweep, outR, outF, fresh, asgK, asgT, asgTs, put, binD, b1D, b2D, ixD, ixN, atI_0, atI_1, atI_2, atI_3, atI_4, eqv, eqvs, shp, shps, setK, setX, setO, setOb, isVar, unset, cellOf, frz, valOf, forL, forK, isiD, isiO, items, itemsS, seqs, lenD, fldD, isIns, isNon, isB, inT, mutOk, mutK, muD, ckS, ckC, okP, isDct, dctOf, Pd.getD, augK, setFK, fput, okP, dmD, low, lows, tl, b2, Pool.ob, keyB, dget, dput, sz, h4, e1, e2, e3, e4, e5, e6, hx1, hx2, hx3, h32]
theorem take (n : Nat) (p : Pool) (b m : Int) (r : T) (h : 1 ≤ m) (hm : m < 100000) (o : Ok p b) (hb : b < 1000000) :
    ∃ v p', call prg (n + 1) 2 [.obj 0, .int m] (p.ob :: r) = .ok (.int v) (Pool.ob p' :: r) ∧ Ok p' (b + 1) ∧ 0 ≤ v ∧ v < m := by
  have h4 : 0 < m := by omega
  have hbm : bits m < 9000 := Nat.lt_trans (bits_lt m 17 (by omega) (by omega)) (by omega)
  rw [cS 2 f2 rfl]
  have e0 : ∀ t : T, runF (cls' n) f2 [.obj 0, .int m] t = match execs (cls' n) b2 [.val (.obj 0), .val (.int m), .un, .un, .un] t with
    | .nx _ t' => sweep false t.length .non t'
    | .ret d t' => sweep false t.length d t'
    | .ex c as t' => .ex c as t'
    | _ => .no := fun t => rfl
  by_cases h2 : 0 < p.big
  · refine ⟨p.big % m, ⟨p.cells, p.i, p.big / m, p.st, p.ct⟩, ?_, ⟨o.cells, o.i, Int.ediv_nonneg o.big (by omega), o.st, o.ct.1, by have := o.ct.2; show p.ct ≤ b + 1; omega⟩, Int.emod_nonneg _ (by omega), Int.emod_lt_of_pos _ h4⟩
    simp [runF, ss, es, ts, gs, execs, ev_var, ev_kon, ev_glb, ev_bin, ev_neg, ev_cmp, ev_chn, ev_and, ev_or, ev_not, ev_ife, ev_call, ev_callk, ev_mth, ev_mk, ev_mkk, ev_b1, ev_b2, ev_isi, ev_ix, ev_sl, ev_lst, ev_tup, ev_newL, ev_newD, ev_lobj, ev_dsp, ev_dm, ev_join, ev_fld, exec_asg, exec_setI, exec_setF, exec_aug, exec_mut, exec_ifs, exec_ret, exec_retn, exec_brk, exec_cont, exec_exp, exec_rai, exec_fg, exec_pas, evT, evs, evTAnd, evTOr, evAnd, evOr, evP, evSrc, bo, bnd, frzAll, esT, esTs, esO, esc, escs, esS, escS, opd, opn, look, peek, ofO, cmpD, truthD, thenK, sweep, outR, outF, fresh, asgK, asgT, asgTs, put, binD, b1D, b2D, ixD, ixN, atI_0, atI_1, atI_2, atI_3, atI_4, eqv, eqvs, shp, shps, setK, setX, setO, setOb, isVar, unset, cellOf, frz, valOf, forL, forK, isiD, isiO, items, itemsS, seqs, lenD, fldD, isIns, isNon, isB, inT, mutOk, mutK, muD, ckS, ckC, okP, isDct, dctOf, Pd.getD, augK, setFK, fput, okP, dmD, low, lows, f2, b2, Pool.ob, keyB, dget, dput, sz, h2, h4, hbm]
  · -- the rest behind the first five statements
    have fin : ∀ (q : Pool) (cell : Int), Ok q b → 0 ≤ cell → cell < 1000000000000000000 → execs (cls' n) b2 [.val (.obj 0), .val (.int m), .un, .un, .un] (p.ob :: r) = execs (cls' n) (tl (tl (tl (tl (tl b2))))) [.val (.obj 0), .val (.int m), .val (.int cell), .un, .un] (q.ob :: r) →
        ∃ v p', runF (cls' n) f2 [.obj 0, .int m] (p.ob :: r) = .ok (.int v) (Pool.ob p' :: r) ∧ Ok p' (b + 1) ∧ 0 ≤ v ∧ v < m := fun q cell oq c0 c1 e => by
      obtain ⟨v, p', e1, o', r1, r2⟩ := take_tail n q b m cell r .un h hm oq hb c0 c1
      exact ⟨v, p', by rw [e0, e, e1]; rfl, o', r1, r2⟩
    have ec : execs (cls' n) b2 [.val (.obj 0), .val (.int m), .un, .un, .un] (p.ob :: r) = thenK (exec (cls' n) (hd b2) [.val (.obj 0), .val (.int m), .un, .un, .un] (p.ob :: r)) fun ρ t => thenK (exec (cls' n) (hd (tl b2)) ρ t) fun ρ t => thenK (exec (cls' n) (hd (tl (tl b2))) ρ t) fun ρ t => thenK (exec (cls' n) (hd (tl (tl (tl b2)))) ρ t) fun ρ t => thenK (exec (cls' n) (hd (tl (tl (tl (tl b2))))) ρ t) fun ρ t => execs (cls' n) (tl (tl (tl (tl (tl b2))))) ρ t := rfl
    by_cases h3 : p.i < p.cells.length
    · obtain ⟨k, hk⟩ := Int.eq_ofNat_of_zero_le o.i
      have hkl : k < p.cells.length := by omega
      have hcell : atI (p.cells.map D.int) p.i = some (.int p.cells[k]) := by
        rw [hk, atI_map, atI_nat, List.getElem?_eq_getElem hkl]; rfl
      have hpos : 0 ≤ p.cells[k] := o.cells _ (List.getElem_mem hkl)
      generalize p.cells[k] = cell at hcell hpos
      have oi := o.i
      by_cases hc : 1000000000000000000 ≤ cell
      · refine ⟨cell % m, ⟨p.cells, p.i + 1, cell / m, p.st, p.ct⟩, ?_, ⟨o.cells, by show 0 ≤ p.i + 1; omega, Int.ediv_nonneg hpos (by omega), o.st, o.ct.1, by have := o.ct.2; show p.ct ≤ b + 1; omega⟩, Int.emod_nonneg _ (by omega), Int.emod_lt_of_pos _ h4⟩
        simp [runF, ss, es, ts, gs, execs, ev_var, ev_kon, ev_glb, ev_bin, ev_neg, ev_cmp, ev_chn, ev_and, ev_or, ev_not, ev_ife, ev_call, ev_callk, ev_mth, ev_mk, ev_mkk, ev_b1, ev_b2, ev_isi, ev_ix, ev_sl, ev_lst, ev_tup, ev_newL, ev_newD, ev_lobj, ev_dsp, ev_dm, ev_join, ev_fld, exec_asg, exec_setI, exec_setF, exec_aug, exec_mut, exec_ifs, exec_ret, exec_retn, exec_brk, exec_cont, exec_exp, exec_rai, exec_fg, exec_pas, evT, evs, evTAnd, evTOr, evAnd, evOr, evP, evSrc, bo, bnd, frzAll, esT, esTs, esO, esc, escs, esS, escS, opd, opn, look, peek, ofO, cmpD, truthD, thenK, sweep, outR, outF, fresh, asgK, asgT, asgTs, put, binD, b1D, b2D, ixD, ixN, atI_0, atI_1, atI_2, atI_3, atI_4, eqv, eqvs, shp, shps, setK, setX, setO, setOb, isVar, unset, cellOf, frz, valOf, forL, forK, isiD, isiO, items, itemsS, seqs, lenD, fldD, isIns, isNon, isB, inT, mutOk, mutK, muD, ckS, ckC, okP, isDct, dctOf, Pd.getD, augK, setFK, fput, okP, dmD, low, lows, f2, b2, Pool.ob, keyB, dget, dput, sz, h2, h3, h4, hbm, hcell, pow18, hc]
      · refine fin ⟨p.cells, p.i + 1, p.big, p.st, p.ct⟩ cell ⟨o.cells, by show 0 ≤ p.i + 1; omega, o.big, o.st, o.ct⟩ hpos (by omega) ?_
        rw [ec]
        generalize tl (tl (tl (tl (tl b2)))) = rest
        simp [runF, ss, es, ts, gs, execs, ev_var, ev_kon, ev_glb, ev_bin, ev_neg, ev_cmp, ev_chn, ev_and, ev_or, ev_not, ev_ife, ev_call, ev_callk, ev_mth, ev_mk, ev_mkk, ev_b1, ev_b2, ev_isi, ev_ix, ev_sl, ev_lst, ev_tup, ev_newL, ev_newD, ev_lobj, ev_dsp, ev_dm, ev_join, ev_fld, exec_asg, exec_setI, exec_setF, exec_aug, exec_mut, exec_ifs, exec_ret, exec_retn, exec_brk, exec_cont, exec_exp, exec_rai, exec_fg, exec_pas, evT, evs, evTAnd, evTOr, evAnd, evOr, evP, evSrc, bo, bnd, frzAll, esT, esTs, esO, esc, escs, esS, escS, opd, opn, look, peek, ofO, cmpD, truthD, thenK, sweep, outR, outF, fresh, asgK, asgT, asgTs, put, binD, b1D, b2D, ixD, ixN, atI_0, atI_1, atI_2, atI_3, atI_4, eqv, eqvs, shp, shps, setK, setX, setO, setOb, isVar, unset, cellOf, frz, valOf, forL, forK, isiD, isiO, items, itemsS, seqs, lenD, fldD, isIns, isNon, isB, inT, mutOk, mutK, muD, ckS, ckC, okP, isDct, dctOf, Pd.getD, augK, setFK, fput, okP, dmD, low, lows, hd, tl, b2, Pool.ob, keyB, dget, dput, sz, h2, h3, h4, hbm, hcell, pow18, hc]
    · refine fin p 0 o (Int.le_refl _) (by omega) ?_
      rw [ec]
      generalize tl (tl (tl (tl (tl b2)))) = rest
      simp [runF, ss, es, ts, gs, execs, ev_var, ev_kon, ev_glb, ev_bin, ev_neg, ev_cmp, ev_chn, ev_and, ev_or, ev_not, ev_ife, ev_call, ev_callk, ev_mth, ev_mk, ev_mkk, ev_b1, ev_b2, ev_isi, ev_ix, ev_sl, ev_lst, ev_tup, ev_newL, ev_newD, ev_lobj, ev_dsp, ev_dm, ev_join, ev_fld, exec_asg, exec_setI, exec_setF, exec_aug, exec_mut, exec_ifs, exec_ret, exec_retn, exec_brk, exec_cont, exec_exp, exec_rai, exec_fg, exec_pas, evT, evs, evTAnd, evTOr, evAnd, evOr, evP, evSrc, bo, bnd, frzAll, esT, esTs, esO, esc, escs, esS, escS, opd, opn, look, peek, ofO, cmpD, truthD, thenK, sweep, outR, outF, fresh, asgK, asgT, asgTs, put, binD, b1D, b2D, ixD, ixN, atI_0, atI_1, atI_2, atI_3, atI_4, eqv, eqvs, shp, shps, setK, setX, setO, setOb, isVar, unset, cellOf, frz, valOf, forL, forK, isiD, isiO, items, itemsS, seqs, lenD, fldD, isIns, isNon, isB, inT, mutOk, mutK, muD, ckS, ckC, okP, isDct, dctOf, Pd.getD, augK, setFK, fput, okP, dmD, low, lows, hd, tl, b2, Pool.ob, keyB, dget, dput, sz, h2, h3, pow18]
end K85
set_option maxRecDepth 100000
set_option linter.all false
set_option autoImplicit false
/-! words, rows, budgets -/
namespace K85
open Pd Pt
theorem word (n pl x : Nat) (t : T) (hpl : pl ≤ 1000) : call prg (n + 1) 10 [.int x, .int pl] t = .ok (.str (wordN pl x)) t := by
  rw [cS 10 f10 rfl]
  have hr := range0_LN pl
  have e : ev (cls' n) (.comp (.rng (.var 1)) (.nm 2) [2] .yes (.ix (.kon (.str [48, 49])) (.bin .band (.bin .shr (.var 0) (.bin .sub (.bin .sub (.var 1) (.kon (.int 1))) (.var 2))) (.kon (.int 1))))) [.val (.int x), .val (.int pl), .un] t = .ok (.lst ((List.range pl).map fun k => D.str [48 + x / 2 ^ (pl - 1 - k) % 2])) t := by
    refine comp_LN _ _ ?_ fun k hk => ?_
    · have h1 : (pl : Int) ≤ 1000000 := by omega
      have h2 : -1000000 ≤ (pl : Int) := by omega
      simp [runF, ss, es, ts, gs, execs, ev_var, ev_kon, ev_glb, ev_bin, ev_neg, ev_cmp, ev_chn, ev_and, ev_or, ev_not, ev_ife, ev_call, ev_callk, ev_mth, ev_mk, ev_mkk, ev_b1, ev_b2, ev_isi, ev_ix, ev_sl, ev_lst, ev_tup, ev_newL, ev_newD, ev_lobj, ev_dsp, ev_dm, ev_join, ev_fld, exec_asg, exec_setI, exec_setF, exec_aug, exec_mut, exec_ifs, exec_ret, exec_retn, exec_brk, exec_cont, exec_exp, exec_rai, exec_fg, exec_pas, evT, evs, evTAnd, evTOr, evAnd, evOr, evP, evSrc, bo, bnd, frzAll, esT, esTs, esO, esc, escs, esS, escS, opd, opn, look, peek, ofO, cmpD, truthD, thenK, sweep, outR, outF, fresh, asgK, asgT, asgTs, put, binD, b1D, b2D, ixD, ixN, atI_0, atI_1, atI_2, atI_3, atI_4, eqv, eqvs, shp, shps, setK, setX, setO, setOb, isVar, unset, cellOf, frz, valOf, forL, forK, isiD, isiO, items, itemsS, seqs, lenD, fldD, isIns, isNon, isB, inT, mutOk, mutK, muD, ckS, ckC, okP, isDct, dctOf, Pd.getD, augK, setFK, fput, okP, dmD, low, lows, h1, h2, hr]
    · have hk : k < pl := List.mem_range.mp hk
      obtain ⟨m, e2, e5⟩ : ∃ m : Nat, (pl : Int) - 1 - k = (m : Int) ∧ pl - 1 - k = m := ⟨pl - 1 - k, by omega, rfl⟩
      have e3 : (x : Int) / 2 ^ m = ((x / 2 ^ m : Nat) : Int) := by
        rw [Int.natCast_ediv, Int.natCast_pow]; rfl
      generalize hy : x / 2 ^ m = y at e3
      have e4 : atI [48, 49] ((y % 2 : Nat) : Int) = some (48 + y % 2) := by
        rw [atI_nat]
        have : y % 2 = 0 ∨ y % 2 = 1 := by omega
        rcases this with h | h <;> rw [h] <;> rfl
      have e7 : y &&& 1 = y % 2 := Nat.and_one_is_mod y
      generalize hz : y % 2 = z at e4 e7
      simp [turnC, runF, ss, es, ts, gs, execs, ev_var, ev_kon, ev_glb, ev_bin, ev_neg, ev_cmp, ev_chn, ev_and, ev_or, ev_not, ev_ife, ev_call, ev_callk, ev_mth, ev_mk, ev_mkk, ev_b1, ev_b2, ev_isi, ev_ix, ev_sl, ev_lst, ev_tup, ev_newL, ev_newD, ev_lobj, ev_dsp, ev_dm, ev_join, ev_fld, exec_asg, exec_setI, exec_setF, exec_aug, exec_mut, exec_ifs, exec_ret, exec_retn, exec_brk, exec_cont, exec_exp, exec_rai, exec_fg, exec_pas, evT, evs, evTAnd, evTOr, evAnd, evOr, evP, evSrc, bo, bnd, frzAll, esT, esTs, esO, esc, escs, esS, escS, opd, opn, look, peek, ofO, cmpD, truthD, thenK, sweep, outR, outF, fresh, asgK, asgT, asgTs, put, binD, b1D, b2D, ixD, ixN, atI_0, atI_1, atI_2, atI_3, atI_4, eqv, eqvs, shp, shps, setK, setX, setO, setOb, isVar, unset, cellOf, frz, valOf, forL, forK, isiD, isiO, items, itemsS, seqs, lenD, fldD, isIns, isNon, isB, inT, mutOk, mutK, muD, ckS, ckC, okP, isDct, dctOf, Pd.getD, augK, setFK, fput, okP, dmD, low, lows, e2, e3, e4, e5, e7, hy, hz, DN]
  have hs := strsOf_map ((List.range pl).map fun k => [48 + x / 2 ^ (pl - 1 - k) % 2])
  rw [List.map_map] at hs
  have hf := flatten_one (fun k => 48 + x / 2 ^ (pl - 1 - k) % 2) (List.range pl)
  have hl : ((List.range pl).map fun k => 48 + x / 2 ^ (pl - 1 - k) % 2).length ≤ sz := by
    rw [List.length_map, List.length_range]; unfold sz; omega
  have e1 : ((List.range pl).map (D.str ∘ fun k => [48 + x / 2 ^ (pl - 1 - k) % 2])) = (List.range pl).map fun k => D.str [48 + x / 2 ^ (pl - 1 - k) % 2] := rfl
  rw [e1] at hs
  generalize ((List.range pl).map fun k => [48 + x / 2 ^ (pl - 1 - k) % 2]) = zz at hs hf
  generalize ((List.range pl).map fun k => D.str [48 + x / 2 ^ (pl - 1 - k) % 2]) = zs at e hs
  have hl2 : zz.flatten.length ≤ sz := by rw [hf]; exact hl
  have hl3 : (zz.map List.length).sum ≤ sz := by rw [← List.length_flatten]; exact hl2
  simp [runF, ss, es, ts, gs, execs, ev_var, ev_kon, ev_glb, ev_bin, ev_neg, ev_cmp, ev_chn, ev_and, ev_or, ev_not, ev_ife, ev_call, ev_callk, ev_mth, ev_mk, ev_mkk, ev_b1, ev_b2, ev_isi, ev_ix, ev_sl, ev_lst, ev_tup, ev_newL, ev_newD, ev_lobj, ev_dsp, ev_dm, ev_join, ev_fld, exec_asg, exec_setI, exec_setF, exec_aug, exec_mut, exec_ifs, exec_ret, exec_retn, exec_brk, exec_cont, exec_exp, exec_rai, exec_fg, exec_pas, evT, evs, evTAnd, evTOr, evAnd, evOr, evP, evSrc, bo, bnd, frzAll, esT, esTs, esO, esc, escs, esS, escS, opd, opn, look, peek, ofO, cmpD, truthD, thenK, sweep, outR, outF, fresh, asgK, asgT, asgTs, put, binD, b1D, b2D, ixD, ixN, atI_0, atI_1, atI_2, atI_3, atI_4, eqv, eqvs, shp, shps, setK, setX, setO, setOb, isVar, unset, cellOf, frz, valOf, forL, forK, isiD, isiO, items, itemsS, seqs, lenD, fldD, isIns, isNon, isB, inT, mutOk, mutK, muD, ckS, ckC, okP, isDct, dctOf, Pd.getD, augK, setFK, fput, okP, dmD, low, lows, f10, b10, e, hs, hf, hl3, wordN]

/-! ### rows -/
def rLoop : S := hd (tl (tl (tl (tl (tl (tl b3))))))
def rBody : Ss := bodyOf rLoop
def rRet : S := hd (tl (tl (tl (tl (tl (tl (tl b3)))))))
theorem rLoop_eq : rLoop = .for (.nm 8) (.rng (.var 3)) rBody [8] := rfl
theorem p2 (x : Nat) : (2 : Int) ^ x = ((2 ^ x : Nat) : Int) := by rw [Int.natCast_pow]; rfl
theorem rTurn (n pl k : Nat) (pr pt many kind : Int) (first : Nat) (nums : List Nat) (p : Pool) (b : Int) (r : T) (hpl : pl ≤ 8) (hk : k ≤ 9) (hl : nums.length = k) (hb : b < 900000) (o : Ok p (b + 3 * k)) :
    ∃ x p', execs (cls' (n + 1)) rBody [.val (.obj 0), .val (.int pr), .val (.int pt), .val (.int many), .val (.int pl), .val (.int kind), .val (.int first), .own (LN nums), .val (DN k), .un] (p.ob :: r) = .nx [.val (.obj 0), .val (.int pr), .val (.int pt), .val (.int many), .val (.int pl), .val (.int kind), .val (.int first), .own (LN (nums ++ [x])), .val (DN k), .un] (Pool.ob p' :: r) ∧ Ok p' (b + 3 * (k + 1 : Nat)) := by
  have hl2 : nums.length < sz := by rw [hl]; unfold sz; omega
  have hpl3 : (pl : Int) ≤ 1000000 := by omega
  have hpw : (2 : Int) ^ pl < 100000 := by
    have h1 : (2 : Nat) ^ pl ≤ 2 ^ 8 := Nat.pow_le_pow_right (by omega) hpl
    rw [p2]; omega
  have hpw1 : (1 : Int) ≤ 2 ^ pl := by
    have := Nat.two_pow_pos pl
    rw [p2]; omega
  have hpw0 : (0 : Int) < 2 ^ pl := by omega
  by_cases k0 : kind = 0
  · subst k0
    obtain ⟨y, hy, hy2⟩ : ∃ y : Nat, (k : Int) % ((pl : Int) + 1) = (y : Int) ∧ y ≤ 1000000 := ⟨k % (pl + 1), by rw [Int.natCast_emod]; rfl, by have := Nat.mod_lt k (show 0 < pl + 1 by omega); omega⟩
    have h3 : (0 : Int) < (pl : Int) + 1 := by omega
    have h4 : (y : Int) ≤ 1000000 := by omega
    obtain ⟨z, hz⟩ : ∃ z : Nat, (2 : Int) ^ y - 1 = (z : Int) := ⟨2 ^ y - 1, by have := Nat.two_pow_pos y; rw [p2]; omega⟩
    refine ⟨first ^^^ z, p, ?_, o.mono (by omega)⟩
    simp [runF, ss, es, ts, gs, execs, ev_var, ev_kon, ev_glb, ev_bin, ev_neg, ev_cmp, ev_chn, ev_and, ev_or, ev_not, ev_ife, ev_call, ev_callk, ev_mth, ev_mk, ev_mkk, ev_b1, ev_b2, ev_isi, ev_ix, ev_sl, ev_lst, ev_tup, ev_newL, ev_newD, ev_lobj, ev_dsp, ev_dm, ev_join, ev_fld, exec_asg, exec_setI, exec_setF, exec_aug, exec_mut, exec_ifs, exec_ret, exec_retn, exec_brk, exec_cont, exec_exp, exec_rai, exec_fg, exec_pas, evT, evs, evTAnd, evTOr, evAnd, evOr, evP, evSrc, bo, bnd, frzAll, esT, esTs, esO, esc, escs, esS, escS, opd, opn, look, peek, ofO, cmpD, truthD, thenK, sweep, outR, outF, fresh, asgK, asgT, asgTs, put, binD, b1D, b2D, ixD, ixN, atI_0, atI_1, atI_2, atI_3, atI_4, eqv, eqvs, shp, shps, setK, setX, setO, setOb, isVar, unset, cellOf, frz, valOf, forL, forK, isiD, isiO, items, itemsS, seqs, lenD, fldD, isIns, isNon, isB, inT, mutOk, mutK, muD, ckS, ckC, okP, isDct, dctOf, Pd.getD, augK, setFK, fput, okP, dmD, low, lows, rBody, rLoop, bodyOf, hd, tl, b3, mutK, muD, hl2, DN, hy, hz, h3, h4]
  by_cases k1 : kind = 1
  · subst k1
    obtain ⟨y, hy⟩ : ∃ y : Nat, (k : Int) % (2 : Int) ^ pl = (y : Int) := ⟨k % 2 ^ pl, by rw [Int.natCast_emod, p2]⟩
    refine ⟨first ^^^ y, p, ?_, o.mono (by omega)⟩
    simp [runF, ss, es, ts, gs, execs, ev_var, ev_kon, ev_glb, ev_bin, ev_neg, ev_cmp, ev_chn, ev_and, ev_or, ev_not, ev_ife, ev_call, ev_callk, ev_mth, ev_mk, ev_mkk, ev_b1, ev_b2, ev_isi, ev_ix, ev_sl, ev_lst, ev_tup, ev_newL, ev_newD, ev_lobj, ev_dsp, ev_dm, ev_join, ev_fld, exec_asg, exec_setI, exec_setF, exec_aug, exec_mut, exec_ifs, exec_ret, exec_retn, exec_brk, exec_cont, exec_exp, exec_rai, exec_fg, exec_pas, evT, evs, evTAnd, evTOr, evAnd, evOr, evP, evSrc, bo, bnd, frzAll, esT, esTs, esO, esc, escs, esS, escS, opd, opn, look, peek, ofO, cmpD, truthD, thenK, sweep, outR, outF, fresh, asgK, asgT, asgTs, put, binD, b1D, b2D, ixD, ixN, atI_0, atI_1, atI_2, atI_3, atI_4, eqv, eqvs, shp, shps, setK, setX, setO, setOb, isVar, unset, cellOf, frz, valOf, forL, forK, isiD, isiO, items, itemsS, seqs, lenD, fldD, isIns, isNon, isB, inT, mutOk, mutK, muD, ckS, ckC, okP, isDct, dctOf, Pd.getD, augK, setFK, fput, okP, dmD, low, lows, rBody, rLoop, bodyOf, hd, tl, b3, mutK, muD, hl2, DN, hy, hpl3, hpw0]
  by_cases k2 : kind = 2 ∧ 0 < k ∧ 0 < pl
  · obtain ⟨rfl, kk, pp⟩ := k2
    obtain ⟨v, p1, e1, o1, v0, v1⟩ := take n p (b + 3 * k) (k : Int) r (by omega) (by omega) o (by omega)
    obtain ⟨i, rfl⟩ := Int.eq_ofNat_of_zero_le v0
    obtain ⟨w, p2', e2, o2, w0, w1⟩ := take n p1 (b + 3 * k + 1) (pl : Int) r (by omega) (by omega) o1 (by omega)
    obtain ⟨j, rfl⟩ := Int.eq_ofNat_of_zero_le w0
    have hi : i < nums.length := by omega
    have a1 : atI (LN nums) (i : Int) = some (DN nums[i]) := by
      rw [atI_map, atI_nat, List.getElem?_eq_getElem hi]; rfl
    generalize nums[i] = z at a1
    have hj : (j : Int) ≤ 1000000 := by omega
    have hj5 : ((2 : Int) ^ j).toNat = 2 ^ j := by rw [p2]; rfl
    have hj4 : (0 : Int) ≤ 2 ^ j := by rw [p2]; omega
    refine ⟨z ^^^ 2 ^ j, p2', ?_, o2.mono (by omega)⟩
    simp only [DN] at a1
    simp [runF, ss, es, ts, gs, execs, ev_var, ev_kon, ev_glb, ev_bin, ev_neg, ev_cmp, ev_chn, ev_and, ev_or, ev_not, ev_ife, ev_call, ev_callk, ev_mth, ev_mk, ev_mkk, ev_b1, ev_b2, ev_isi, ev_ix, ev_sl, ev_lst, ev_tup, ev_newL, ev_newD, ev_lobj, ev_dsp, ev_dm, ev_join, ev_fld, exec_asg, exec_setI, exec_setF, exec_aug, exec_mut, exec_ifs, exec_ret, exec_retn, exec_brk, exec_cont, exec_exp, exec_rai, exec_fg, exec_pas, evT, evs, evTAnd, evTOr, evAnd, evOr, evP, evSrc, bo, bnd, frzAll, esT, esTs, esO, esc, escs, esS, escS, opd, opn, look, peek, ofO, cmpD, truthD, thenK, sweep, outR, outF, fresh, asgK, asgT, asgTs, put, binD, b1D, b2D, ixD, ixN, atI_0, atI_1, atI_2, atI_3, atI_4, eqv, eqvs, shp, shps, setK, setX, setO, setOb, isVar, unset, cellOf, frz, valOf, forL, forK, isiD, isiO, items, itemsS, seqs, lenD, fldD, isIns, isNon, isB, inT, mutOk, mutK, muD, ckS, ckC, okP, isDct, dctOf, Pd.getD, augK, setFK, fput, okP, dmD, low, lows, rBody, rLoop, bodyOf, hd, tl, b3, mutK, muD, hl2, DN, kk, pp, e1, e2, a1, hj, hj4, hj5]
  · have kt : (if kind = 2 then (if (0 : Int) < k then decide ((0 : Int) < pl) else false) else false) = false := by
      by_cases z1 : kind = 2 <;> by_cases z2 : 0 < k <;> by_cases z3 : 0 < pl <;> simp_all
    have body : ∀ ρ t, execs (cls' (n + 1)) rBody ρ t = execs (cls' (n + 1)) rBody ρ t := fun _ _ => rfl
    by_cases hk0 : 0 < k
    · obtain ⟨v, p1, e1, o1, v0, v1⟩ := take n p (b + 3 * k) 6 r (by omega) (by omega) o (by omega)
      by_cases hv : v = 0
      · subst hv
        obtain ⟨w, p2', e2, o2, w0, w1⟩ := take n p1 (b + 3 * k + 1) (k : Int) r (by omega) (by omega) o1 (by omega)
        obtain ⟨i, rfl⟩ := Int.eq_ofNat_of_zero_le w0
        have hi : i < nums.length := by omega
        have a1 : atI (LN nums) (i : Int) = some (DN nums[i]) := by
          rw [atI_map, atI_nat, List.getElem?_eq_getElem hi]; rfl
        generalize nums[i] = z at a1
        refine ⟨z, p2', ?_, o2.mono (by omega)⟩
        simp only [DN] at a1
        by_cases z1 : kind = 2
        · have z3 : pl = 0 := by omega
          subst z1; subst z3
          simp [runF, ss, es, ts, gs, execs, ev_var, ev_kon, ev_glb, ev_bin, ev_neg, ev_cmp, ev_chn, ev_and, ev_or, ev_not, ev_ife, ev_call, ev_callk, ev_mth, ev_mk, ev_mkk, ev_b1, ev_b2, ev_isi, ev_ix, ev_sl, ev_lst, ev_tup, ev_newL, ev_newD, ev_lobj, ev_dsp, ev_dm, ev_join, ev_fld, exec_asg, exec_setI, exec_setF, exec_aug, exec_mut, exec_ifs, exec_ret, exec_retn, exec_brk, exec_cont, exec_exp, exec_rai, exec_fg, exec_pas, evT, evs, evTAnd, evTOr, evAnd, evOr, evP, evSrc, bo, bnd, frzAll, esT, esTs, esO, esc, escs, esS, escS, opd, opn, look, peek, ofO, cmpD, truthD, thenK, sweep, outR, outF, fresh, asgK, asgT, asgTs, put, binD, b1D, b2D, ixD, ixN, atI_0, atI_1, atI_2, atI_3, atI_4, eqv, eqvs, shp, shps, setK, setX, setO, setOb, isVar, unset, cellOf, frz, valOf, forL, forK, isiD, isiO, items, itemsS, seqs, lenD, fldD, isIns, isNon, isB, inT, mutOk, mutK, muD, ckS, ckC, okP, isDct, dctOf, Pd.getD, augK, setFK, fput, okP, dmD, low, lows, rBody, rLoop, bodyOf, hd, tl, b3, mutK, muD, hl2, DN, hk0, e1, e2, a1]
        · simp [runF, ss, es, ts, gs, execs, ev_var, ev_kon, ev_glb, ev_bin, ev_neg, ev_cmp, ev_chn, ev_and, ev_or, ev_not, ev_ife, ev_call, ev_callk, ev_mth, ev_mk, ev_mkk, ev_b1, ev_b2, ev_isi, ev_ix, ev_sl, ev_lst, ev_tup, ev_newL, ev_newD, ev_lobj, ev_dsp, ev_dm, ev_join, ev_fld, exec_asg, exec_setI, exec_setF, exec_aug, exec_mut, exec_ifs, exec_ret, exec_retn, exec_brk, exec_cont, exec_exp, exec_rai, exec_fg, exec_pas, evT, evs, evTAnd, evTOr, evAnd, evOr, evP, evSrc, bo, bnd, frzAll, esT, esTs, esO, esc, escs, esS, escS, opd, opn, look, peek, ofO, cmpD, truthD, thenK, sweep, outR, outF, fresh, asgK, asgT, asgTs, put, binD, b1D, b2D, ixD, ixN, atI_0, atI_1, atI_2, atI_3, atI_4, eqv, eqvs, shp, shps, setK, setX, setO, setOb, isVar, unset, cellOf, frz, valOf, forL, forK, isiD, isiO, items, itemsS, seqs, lenD, fldD, isIns, isNon, isB, inT, mutOk, mutK, muD, ckS, ckC, okP, isDct, dctOf, Pd.getD, augK, setFK, fput, okP, dmD, low, lows, rBody, rLoop, bodyOf, hd, tl, b3, mutK, muD, hl2, DN, hk0, e1, e2, a1, k0, k1, z1]
      · obtain ⟨w, p2', e2, o2, w0, w1⟩ := take n p1 (b + 3 * k + 1) (2 ^ pl) r hpw1 hpw o1 (by omega)
        obtain ⟨i, rfl⟩ := Int.eq_ofNat_of_zero_le w0
        refine ⟨i, p2', ?_, o2.mono (by omega)⟩
        by_cases z1 : kind = 2
        · have z3 : pl = 0 := by omega
          subst z1; subst z3
          simp at e2
          simp [runF, ss, es, ts, gs, execs, ev_var, ev_kon, ev_glb, ev_bin, ev_neg, ev_cmp, ev_chn, ev_and, ev_or, ev_not, ev_ife, ev_call, ev_callk, ev_mth, ev_mk, ev_mkk, ev_b1, ev_b2, ev_isi, ev_ix, ev_sl, ev_lst, ev_tup, ev_newL, ev_newD, ev_lobj, ev_dsp, ev_dm, ev_join, ev_fld, exec_asg, exec_setI, exec_setF, exec_aug, exec_mut, exec_ifs, exec_ret, exec_retn, exec_brk, exec_cont, exec_exp, exec_rai, exec_fg, exec_pas, evT, evs, evTAnd, evTOr, evAnd, evOr, evP, evSrc, bo, bnd, frzAll, esT, esTs, esO, esc, escs, esS, escS, opd, opn, look, peek, ofO, cmpD, truthD, thenK, sweep, outR, outF, fresh, asgK, asgT, asgTs, put, binD, b1D, b2D, ixD, ixN, atI_0, atI_1, atI_2, atI_3, atI_4, eqv, eqvs, shp, shps, setK, setX, setO, setOb, isVar, unset, cellOf, frz, valOf, forL, forK, isiD, isiO, items, itemsS, seqs, lenD, fldD, isIns, isNon, isB, inT, mutOk, mutK, muD, ckS, ckC, okP, isDct, dctOf, Pd.getD, augK, setFK, fput, okP, dmD, low, lows, rBody, rLoop, bodyOf, hd, tl, b3, mutK, muD, hl2, DN, hk0, e1, e2, hv]
        · simp [runF, ss, es, ts, gs, execs, ev_var, ev_kon, ev_glb, ev_bin, ev_neg, ev_cmp, ev_chn, ev_and, ev_or, ev_not, ev_ife, ev_call, ev_callk, ev_mth, ev_mk, ev_mkk, ev_b1, ev_b2, ev_isi, ev_ix, ev_sl, ev_lst, ev_tup, ev_newL, ev_newD, ev_lobj, ev_dsp, ev_dm, ev_join, ev_fld, exec_asg, exec_setI, exec_setF, exec_aug, exec_mut, exec_ifs, exec_ret, exec_retn, exec_brk, exec_cont, exec_exp, exec_rai, exec_fg, exec_pas, evT, evs, evTAnd, evTOr, evAnd, evOr, evP, evSrc, bo, bnd, frzAll, esT, esTs, esO, esc, escs, esS, escS, opd, opn, look, peek, ofO, cmpD, truthD, thenK, sweep, outR, outF, fresh, asgK, asgT, asgTs, put, binD, b1D, b2D, ixD, ixN, atI_0, atI_1, atI_2, atI_3, atI_4, eqv, eqvs, shp, shps, setK, setX, setO, setOb, isVar, unset, cellOf, frz, valOf, forL, forK, isiD, isiO, items, itemsS, seqs, lenD, fldD, isIns, isNon, isB, inT, mutOk, mutK, muD, ckS, ckC, okP, isDct, dctOf, Pd.getD, augK, setFK, fput, okP, dmD, low, lows, rBody, rLoop, bodyOf, hd, tl, b3, mutK, muD, hl2, DN, hk0, e1, e2, hv, k0, k1, z1, hpl3]
    · have hk1 : k = 0 := by omega
      subst hk1
      obtain ⟨w, p2', e2, o2, w0, w1⟩ := take n p (b + 3 * (0 : Nat)) (2 ^ pl) r hpw1 hpw o (by omega)
      obtain ⟨i, rfl⟩ := Int.eq_ofNat_of_zero_le w0
      refine ⟨i, p2', ?_, o2.mono (by omega)⟩
      by_cases z1 : kind = 2
      · subst z1
        simp [runF, ss, es, ts, gs, execs, ev_var, ev_kon, ev_glb, ev_bin, ev_neg, ev_cmp, ev_chn, ev_and, ev_or, ev_not, ev_ife, ev_call, ev_callk, ev_mth, ev_mk, ev_mkk, ev_b1, ev_b2, ev_isi, ev_ix, ev_sl, ev_lst, ev_tup, ev_newL, ev_newD, ev_lobj, ev_dsp, ev_dm, ev_join, ev_fld, exec_asg, exec_setI, exec_setF, exec_aug, exec_mut, exec_ifs, exec_ret, exec_retn, exec_brk, exec_cont, exec_exp, exec_rai, exec_fg, exec_pas, evT, evs, evTAnd, evTOr, evAnd, evOr, evP, evSrc, bo, bnd, frzAll, esT, esTs, esO, esc, escs, esS, escS, opd, opn, look, peek, ofO, cmpD, truthD, thenK, sweep, outR, outF, fresh, asgK, asgT, asgTs, put, binD, b1D, b2D, ixD, ixN, atI_0, atI_1, atI_2, atI_3, atI_4, eqv, eqvs, shp, shps, setK, setX, setO, setOb, isVar, unset, cellOf, frz, valOf, forL, forK, isiD, isiO, items, itemsS, seqs, lenD, fldD, isIns, isNon, isB, inT, mutOk, mutK, muD, ckS, ckC, okP, isDct, dctOf, Pd.getD, augK, setFK, fput, okP, dmD, low, lows, rBody, rLoop, bodyOf, hd, tl, b3, mutK, muD, hl2, DN, e2, hpl3]
      · simp [runF, ss, es, ts, gs, execs, ev_var, ev_kon, ev_glb, ev_bin, ev_neg, ev_cmp, ev_chn, ev_and, ev_or, ev_not, ev_ife, ev_call, ev_callk, ev_mth, ev_mk, ev_mkk, ev_b1, ev_b2, ev_isi, ev_ix, ev_sl, ev_lst, ev_tup, ev_newL, ev_newD, ev_lobj, ev_dsp, ev_dm, ev_join, ev_fld, exec_asg, exec_setI, exec_setF, exec_aug, exec_mut, exec_ifs, exec_ret, exec_retn, exec_brk, exec_cont, exec_exp, exec_rai, exec_fg, exec_pas, evT, evs, evTAnd, evTOr, evAnd, evOr, evP, evSrc, bo, bnd, frzAll, esT, esTs, esO, esc, escs, esS, escS, opd, opn, look, peek, ofO, cmpD, truthD, thenK, sweep, outR, outF, fresh, asgK, asgT, asgTs, put, binD, b1D, b2D, ixD, ixN, atI_0, atI_1, atI_2, atI_3, atI_4, eqv, eqvs, shp, shps, setK, setX, setO, setOb, isVar, unset, cellOf, frz, valOf, forL, forK, isiD, isiO, items, itemsS, seqs, lenD, fldD, isIns, isNon, isB, inT, mutOk, mutK, muD, ckS, ckC, okP, isDct, dctOf, Pd.getD, augK, setFK, fput, okP, dmD, low, lows, rBody, rLoop, bodyOf, hd, tl, b3, mutK, muD, hl2, DN, e2, k0, k1, z1, hpl3]

theorem idx_range {n i : Nat} {x : D} (h : (LN (List.range n))[i]? = some x) : i < n ∧ x = DN i := by
  rw [LN, List.getElem?_map] at h
  obtain ⟨k, hk, rfl⟩ := Option.map_eq_some_iff.mp h
  obtain ⟨hk3, hk4⟩ := List.getElem?_eq_some_iff.mp hk
  rw [List.length_range] at hk3
  exact ⟨hk3, by rw [← hk4]; simp⟩
theorem rLoopOk (n pl many : Nat) (pr pt kind : Int) (first : Nat) (p : Pool) (b : Int) (r : T) (hpl : pl ≤ 8) (hm : many ≤ 9) (hb : b < 900000) (o : Ok p b) :
    ∃ nums p', exec (cls' (n + 1)) rLoop [.val (.obj 0), .val (.int pr), .val (.int pt), .val (.int many), .val (.int pl), .val (.int kind), .val (.int first), .own [], .un, .un] (p.ob :: r) = .nx [.val (.obj 0), .val (.int pr), .val (.int pt), .val (.int many), .val (.int pl), .val (.int kind), .val (.int first), .own (LN nums), .un, .un] (Pool.ob p' :: r) ∧ nums.length = many ∧ Ok p' (b + 27) := by
  have hr := range0_LN many
  have h1 : (many : Int) ≤ 1000000 := by omega
  have h2 : (-1000000 : Int) ≤ many := by omega
  obtain ⟨ρ', t', e2, nums, p', rfl, rfl, hl, o'⟩ := forL_inv (ck := fun _ => true) (f := forK (.nm 8) fun ρ t => execs (cls' (n + 1)) rBody ρ t) (fg := [8])
    (fun i ρ t => ∃ nums p', ρ = [.val (.obj 0), .val (.int pr), .val (.int pt), .val (.int many), .val (.int pl), .val (.int kind), .val (.int first), .own (LN nums), .un, .un] ∧ t = Pool.ob p' :: r ∧ nums.length = i ∧ Ok p' (b + 3 * i)) (fun _ _ _ _ => rfl)
    (LN (List.range many)) 0 [.val (.obj 0), .val (.int pr), .val (.int pt), .val (.int many), .val (.int pl), .val (.int kind), .val (.int first), .own [], .un, .un] (p.ob :: r) ⟨[], p, rfl, rfl, rfl, by simpa using o⟩ (fun i x ρ t hx hI => by
      obtain ⟨nums, p', rfl, rfl, hl, o'⟩ := hI
      rw [Nat.zero_add] at hl o' ⊢
      obtain ⟨hi, rfl⟩ := idx_range hx
      obtain ⟨x, p'', e, o''⟩ := rTurn n pl i pr pt many kind first nums p' b r hpl (by omega) hl hb o'
      exact ⟨_, _, .inl e, nums ++ [x], p'', rfl, rfl, by simp [hl], o''⟩)
  rw [len_LN, List.length_range, Nat.zero_add] at hl o'
  refine ⟨nums, p', ?_, hl, o'.mono (by omega)⟩
  rw [rLoop_eq]
  exact exec_forOf (xs := LN (List.range many)) (t1 := p.ob :: r) (by simp [runF, ss, es, ts, gs, execs, ev_var, ev_kon, ev_glb, ev_bin, ev_neg, ev_cmp, ev_chn, ev_and, ev_or, ev_not, ev_ife, ev_call, ev_callk, ev_mth, ev_mk, ev_mkk, ev_b1, ev_b2, ev_isi, ev_ix, ev_sl, ev_lst, ev_tup, ev_newL, ev_newD, ev_lobj, ev_dsp, ev_dm, ev_join, ev_fld, exec_asg, exec_setI, exec_setF, exec_aug, exec_mut, exec_ifs, exec_ret, exec_retn, exec_brk, exec_cont, exec_exp, exec_rai, exec_fg, exec_pas, evT, evs, evTAnd, evTOr, evAnd, evOr, evP, evSrc, bo, bnd, frzAll, esT, esTs, esO, esc, escs, esS, escS, opd, opn, look, peek, ofO, cmpD, truthD, thenK, sweep, outR, outF, fresh, asgK, asgT, asgTs, put, binD, b1D, b2D, ixD, ixN, atI_0, atI_1, atI_2, atI_3, atI_4, eqv, eqvs, shp, shps, setK, setX, setO, setOb, isVar, unset, cellOf, frz, valOf, forL, forK, isiD, isiO, items, itemsS, seqs, lenD, fldD, isIns, isNon, isB, inT, mutOk, mutK, muD, ckS, ckC, okP, isDct, dctOf, Pd.getD, augK, setFK, fput, okP, dmD, low, lows, h1, h2, hr]) e2
theorem rows (n : Nat) (pr pt : Int) (p : Pool) (b : Int) (r : T) (h1 : 1 ≤ pr) (h2 : pr ≤ 9) (h3 : 1 ≤ pt) (h4 : pt ≤ 7) (hb : b < 800000) (o : Ok p b) :
    ∃ ws pl p', call prg (n + 2) 3 [.obj 0, .int pr, .int pt] (p.ob :: r) = .ok (.lst (ws.map .str)) (Pool.ob p' :: r) ∧ Wd ws pl ∧ 1 ≤ ws.length ∧ (ws.length : Int) ≤ pr ∧ (pl : Int) ≤ pt ∧ Ok p' (b + 32) := by
  obtain ⟨v1, p1, e1, o1, a1, b1⟩ := take n p b pr r h1 (by omega) o (by omega)
  obtain ⟨v2, p2', e2, o2, a2, b2⟩ := take n p1 (b + 1) pt r h3 (by omega) o1 (by omega)
  obtain ⟨v3, p3, e3, o3, a3, b3'⟩ := take n p2' (b + 1 + 1) 12 r (by omega) (by omega) o2 (by omega)
  obtain ⟨v4, p4, e4, o4, a4, b4⟩ := take n p3 (b + 1 + 1 + 1) 8 r (by omega) (by omega) o3 (by omega)
  obtain ⟨pl, hpl, hpl2⟩ : ∃ pl : Nat, (if v3 = 0 then 0 else 1 + v2) = (pl : Int) ∧ (pl : Int) ≤ pt := by
    by_cases h : v3 = 0
    · exact ⟨0, by simp [h], by omega⟩
    · refine ⟨(1 + v2).toNat, ?_, ?_⟩
      · rw [if_neg h]; omega
      · omega
  have hpw : (2 : Int) ^ pl < 100000 := by
    have h1 : (2 : Nat) ^ pl ≤ 2 ^ 7 := Nat.pow_le_pow_right (by omega) (by omega)
    rw [p2]; omega
  have hpw1 : (1 : Int) ≤ 2 ^ pl := by
    have := Nat.two_pow_pos pl
    rw [p2]; omega
  obtain ⟨v5, p5, e5, o5, a5, b5⟩ := take n p4 (b + 1 + 1 + 1 + 1) (2 ^ pl) r hpw1 hpw o4 (by omega)
  obtain ⟨first, rfl⟩ := Int.eq_ofNat_of_zero_le a5
  obtain ⟨m, rfl⟩ := Int.eq_ofNat_of_zero_le a1
  obtain ⟨nums, p6, e6, hl, o6⟩ := rLoopOk n pl (1 + m) pr pt v4 first p5 (b + 1 + 1 + 1 + 1 + 1) r (by omega) (by omega) (by omega) o5
  have hpl3 : (pl : Int) ≤ 1000000 := by omega
  have e7 : ev (cls' (n + 1)) (retE rRet) [.val (.obj 0), .val (.int pr), .val (.int pt), .val (.int (1 + m : Nat)), .val (.int pl), .val (.int v4), .val (.int first), .own (LN nums), .un, .un] (Pool.ob p6 :: r) = .ok (.lst (nums.map fun q => .str (wordN pl q))) (Pool.ob p6 :: r) := by
    refine comp_LN _ _ (by simp [runF, ss, es, ts, gs, execs, ev_var, ev_kon, ev_glb, ev_bin, ev_neg, ev_cmp, ev_chn, ev_and, ev_or, ev_not, ev_ife, ev_call, ev_callk, ev_mth, ev_mk, ev_mkk, ev_b1, ev_b2, ev_isi, ev_ix, ev_sl, ev_lst, ev_tup, ev_newL, ev_newD, ev_lobj, ev_dsp, ev_dm, ev_join, ev_fld, exec_asg, exec_setI, exec_setF, exec_aug, exec_mut, exec_ifs, exec_ret, exec_retn, exec_brk, exec_cont, exec_exp, exec_rai, exec_fg, exec_pas, evT, evs, evTAnd, evTOr, evAnd, evOr, evP, evSrc, bo, bnd, frzAll, esT, esTs, esO, esc, escs, esS, escS, opd, opn, look, peek, ofO, cmpD, truthD, thenK, sweep, outR, outF, fresh, asgK, asgT, asgTs, put, binD, b1D, b2D, ixD, ixN, atI_0, atI_1, atI_2, atI_3, atI_4, eqv, eqvs, shp, shps, setK, setX, setO, setOb, isVar, unset, cellOf, frz, valOf, forL, forK, isiD, isiO, items, itemsS, seqs, lenD, fldD, isIns, isNon, isB, inT, mutOk, mutK, muD, ckS, ckC, okP, isDct, dctOf, Pd.getD, augK, setFK, fput, okP, dmD, low, lows]) fun q _ => ?_
    have i1 := word n pl q (Pool.ob p6 :: r) (by omega)
    simp [turnC, runF, ss, es, ts, gs, execs, ev_var, ev_kon, ev_glb, ev_bin, ev_neg, ev_cmp, ev_chn, ev_and, ev_or, ev_not, ev_ife, ev_call, ev_callk, ev_mth, ev_mk, ev_mkk, ev_b1, ev_b2, ev_isi, ev_ix, ev_sl, ev_lst, ev_tup, ev_newL, ev_newD, ev_lobj, ev_dsp, ev_dm, ev_join, ev_fld, exec_asg, exec_setI, exec_setF, exec_aug, exec_mut, exec_ifs, exec_ret, exec_retn, exec_brk, exec_cont, exec_exp, exec_rai, exec_fg, exec_pas, evT, evs, evTAnd, evTOr, evAnd, evOr, evP, evSrc, bo, bnd, frzAll, esT, esTs, esO, esc, escs, esS, escS, opd, opn, look, peek, ofO, cmpD, truthD, thenK, sweep, outR, outF, fresh, asgK, asgT, asgTs, put, binD, b1D, b2D, ixD, ixN, atI_0, atI_1, atI_2, atI_3, atI_4, eqv, eqvs, shp, shps, setK, setX, setO, setOb, isVar, unset, cellOf, frz, valOf, forL, forK, isiD, isiO, items, itemsS, seqs, lenD, fldD, isIns, isNon, isB, inT, mutOk, mutK, muD, ckS, ckC, okP, isDct, dctOf, Pd.getD, augK, setFK, fput, okP, dmD, low, lows, i1, DN]
  refine ⟨nums.map (wordN pl), pl, p6, ?_, words_wd pl nums, by rw [List.length_map]; omega, by rw [List.length_map]; omega, hpl2, o6.mono (by omega)⟩
  rw [cS 3 f3 rfl]
  have e0 : runF (cls' (n + 1)) f3 [.obj 0, .int pr, .int pt] (p.ob :: r) = match execs (cls' (n + 1)) b3 [.val (.obj 0), .val (.int pr), .val (.int pt), .un, .un, .un, .un, .un, .un, .un] (p.ob :: r) with
    | .nx _ t' => .ok .non t'
    | .ret d t' => .ok d t'
    | .ex c as t' => .ex c as t'
    | _ => .no := rfl
  have hb : b3 = .cons (hd b3) (.cons (hd (tl b3)) (.cons (hd (tl (tl b3))) (.cons (hd (tl (tl (tl b3)))) (.cons (hd (tl (tl (tl (tl b3))))) (.cons (hd (tl (tl (tl (tl (tl b3)))))) (.cons rLoop (.cons rRet .nil))))))) := rfl
  have hres : execs (cls' (n + 1)) b3 [.val (.obj 0), .val (.int pr), .val (.int pt), .un, .un, .un, .un, .un, .un, .un] (p.ob :: r) = .ret (.lst (nums.map fun q => .str (wordN pl q))) (Pool.ob p6 :: r) := by
    rw [hb]
    rw [execs_step (ρ' := [.val (.obj 0), .val (.int pr), .val (.int pt), .val (.int (1 + m : Nat)), .un, .un, .un, .un, .un, .un]) (t' := Pool.ob p1 :: r) (by simp [runF, ss, es, ts, gs, execs, ev_var, ev_kon, ev_glb, ev_bin, ev_neg, ev_cmp, ev_chn, ev_and, ev_or, ev_not, ev_ife, ev_call, ev_callk, ev_mth, ev_mk, ev_mkk, ev_b1, ev_b2, ev_isi, ev_ix, ev_sl, ev_lst, ev_tup, ev_newL, ev_newD, ev_lobj, ev_dsp, ev_dm, ev_join, ev_fld, exec_asg, exec_setI, exec_setF, exec_aug, exec_mut, exec_ifs, exec_ret, exec_retn, exec_brk, exec_cont, exec_exp, exec_rai, exec_fg, exec_pas, evT, evs, evTAnd, evTOr, evAnd, evOr, evP, evSrc, bo, bnd, frzAll, esT, esTs, esO, esc, escs, esS, escS, opd, opn, look, peek, ofO, cmpD, truthD, thenK, sweep, outR, outF, fresh, asgK, asgT, asgTs, put, binD, b1D, b2D, ixD, ixN, atI_0, atI_1, atI_2, atI_3, atI_4, eqv, eqvs, shp, shps, setK, setX, setO, setOb, isVar, unset, cellOf, frz, valOf, forL, forK, isiD, isiO, items, itemsS, seqs, lenD, fldD, isIns, isNon, isB, inT, mutOk, mutK, muD, ckS, ckC, okP, isDct, dctOf, Pd.getD, augK, setFK, fput, okP, dmD, low, lows, hd, tl, b3, e1])]
    rw [execs_step (ρ' := [.val (.obj 0), .val (.int pr), .val (.int pt), .val (.int (1 + m : Nat)), .val (.int (1 + v2)), .un, .un, .un, .un, .un]) (t' := Pool.ob p2' :: r) (by simp [runF, ss, es, ts, gs, execs, ev_var, ev_kon, ev_glb, ev_bin, ev_neg, ev_cmp, ev_chn, ev_and, ev_or, ev_not, ev_ife, ev_call, ev_callk, ev_mth, ev_mk, ev_mkk, ev_b1, ev_b2, ev_isi, ev_ix, ev_sl, ev_lst, ev_tup, ev_newL, ev_newD, ev_lobj, ev_dsp, ev_dm, ev_join, ev_fld, exec_asg, exec_setI, exec_setF, exec_aug, exec_mut, exec_ifs, exec_ret, exec_retn, exec_brk, exec_cont, exec_exp, exec_rai, exec_fg, exec_pas, evT, evs, evTAnd, evTOr, evAnd, evOr, evP, evSrc, bo, bnd, frzAll, esT, esTs, esO, esc, escs, esS, escS, opd, opn, look, peek, ofO, cmpD, truthD, thenK, sweep, outR, outF, fresh, asgK, asgT, asgTs, put, binD, b1D, b2D, ixD, ixN, atI_0, atI_1, atI_2, atI_3, atI_4, eqv, eqvs, shp, shps, setK, setX, setO, setOb, isVar, unset, cellOf, frz, valOf, forL, forK, isiD, isiO, items, itemsS, seqs, lenD, fldD, isIns, isNon, isB, inT, mutOk, mutK, muD, ckS, ckC, okP, isDct, dctOf, Pd.getD, augK, setFK, fput, okP, dmD, low, lows, hd, tl, b3, e2])]
    rw [execs_step (ρ' := [.val (.obj 0), .val (.int pr), .val (.int pt), .val (.int (1 + m : Nat)), .val (.int pl), .un, .un, .un, .un, .un]) (t' := Pool.ob p3 :: r) (by
      rw [← hpl]
      by_cases h : v3 = 0 <;> simp [runF, ss, es, ts, gs, execs, ev_var, ev_kon, ev_glb, ev_bin, ev_neg, ev_cmp, ev_chn, ev_and, ev_or, ev_not, ev_ife, ev_call, ev_callk, ev_mth, ev_mk, ev_mkk, ev_b1, ev_b2, ev_isi, ev_ix, ev_sl, ev_lst, ev_tup, ev_newL, ev_newD, ev_lobj, ev_dsp, ev_dm, ev_join, ev_fld, exec_asg, exec_setI, exec_setF, exec_aug, exec_mut, exec_ifs, exec_ret, exec_retn, exec_brk, exec_cont, exec_exp, exec_rai, exec_fg, exec_pas, evT, evs, evTAnd, evTOr, evAnd, evOr, evP, evSrc, bo, bnd, frzAll, esT, esTs, esO, esc, escs, esS, escS, opd, opn, look, peek, ofO, cmpD, truthD, thenK, sweep, outR, outF, fresh, asgK, asgT, asgTs, put, binD, b1D, b2D, ixD, ixN, atI_0, atI_1, atI_2, atI_3, atI_4, eqv, eqvs, shp, shps, setK, setX, setO, setOb, isVar, unset, cellOf, frz, valOf, forL, forK, isiD, isiO, items, itemsS, seqs, lenD, fldD, isIns, isNon, isB, inT, mutOk, mutK, muD, ckS, ckC, okP, isDct, dctOf, Pd.getD, augK, setFK, fput, okP, dmD, low, lows, hd, tl, b3, e3, h])]
    rw [execs_step (ρ' := [.val (.obj 0), .val (.int pr), .val (.int pt), .val (.int (1 + m : Nat)), .val (.int pl), .val (.int v4), .un, .un, .un, .un]) (t' := Pool.ob p4 :: r) (by simp [runF, ss, es, ts, gs, execs, ev_var, ev_kon, ev_glb, ev_bin, ev_neg, ev_cmp, ev_chn, ev_and, ev_or, ev_not, ev_ife, ev_call, ev_callk, ev_mth, ev_mk, ev_mkk, ev_b1, ev_b2, ev_isi, ev_ix, ev_sl, ev_lst, ev_tup, ev_newL, ev_newD, ev_lobj, ev_dsp, ev_dm, ev_join, ev_fld, exec_asg, exec_setI, exec_setF, exec_aug, exec_mut, exec_ifs, exec_ret, exec_retn, exec_brk, exec_cont, exec_exp, exec_rai, exec_fg, exec_pas, evT, evs, evTAnd, evTOr, evAnd, evOr, evP, evSrc, bo, bnd, frzAll, esT, esTs, esO, esc, escs, esS, escS, opd, opn, look, peek, ofO, cmpD, truthD, thenK, sweep, outR, outF, fresh, asgK, asgT, asgTs, put, binD, b1D, b2D, ixD, ixN, atI_0, atI_1, atI_2, atI_3, atI_4, eqv, eqvs, shp, shps, setK, setX, setO, setOb, isVar, unset, cellOf, frz, valOf, forL, forK, isiD, isiO, items, itemsS, seqs, lenD, fldD, isIns, isNon, isB, inT, mutOk, mutK, muD, ckS, ckC, okP, isDct, dctOf, Pd.getD, augK, setFK, fput, okP, dmD, low, lows, hd, tl, b3, e4])]
    rw [execs_step (ρ' := [.val (.obj 0), .val (.int pr), .val (.int pt), .val (.int (1 + m : Nat)), .val (.int pl), .val (.int v4), .val (.int first), .un, .un, .un]) (t' := Pool.ob p5 :: r) (by simp [runF, ss, es, ts, gs, execs, ev_var, ev_kon, ev_glb, ev_bin, ev_neg, ev_cmp, ev_chn, ev_and, ev_or, ev_not, ev_ife, ev_call, ev_callk, ev_mth, ev_mk, ev_mkk, ev_b1, ev_b2, ev_isi, ev_ix, ev_sl, ev_lst, ev_tup, ev_newL, ev_newD, ev_lobj, ev_dsp, ev_dm, ev_join, ev_fld, exec_asg, exec_setI, exec_setF, exec_aug, exec_mut, exec_ifs, exec_ret, exec_retn, exec_brk, exec_cont, exec_exp, exec_rai, exec_fg, exec_pas, evT, evs, evTAnd, evTOr, evAnd, evOr, evP, evSrc, bo, bnd, frzAll, esT, esTs, esO, esc, escs, esS, escS, opd, opn, look, peek, ofO, cmpD, truthD, thenK, sweep, outR, outF, fresh, asgK, asgT, asgTs, put, binD, b1D, b2D, ixD, ixN, atI_0, atI_1, atI_2, atI_3, atI_4, eqv, eqvs, shp, shps, setK, setX, setO, setOb, isVar, unset, cellOf, frz, valOf, forL, forK, isiD, isiO, items, itemsS, seqs, lenD, fldD, isIns, isNon, isB, inT, mutOk, mutK, muD, ckS, ckC, okP, isDct, dctOf, Pd.getD, augK, setFK, fput, okP, dmD, low, lows, hd, tl, b3, e5, hpl3])]
    rw [execs_step (s := hd (tl (tl (tl (tl (tl b3)))))) (ρ' := [.val (.obj 0), .val (.int pr), .val (.int pt), .val (.int (1 + m : Nat)), .val (.int pl), .val (.int v4), .val (.int first), .own [], .un, .un]) (t' := Pool.ob p5 :: r) (by simp [runF, ss, es, ts, gs, execs, ev_var, ev_kon, ev_glb, ev_bin, ev_neg, ev_cmp, ev_chn, ev_and, ev_or, ev_not, ev_ife, ev_call, ev_callk, ev_mth, ev_mk, ev_mkk, ev_b1, ev_b2, ev_isi, ev_ix, ev_sl, ev_lst, ev_tup, ev_newL, ev_newD, ev_lobj, ev_dsp, ev_dm, ev_join, ev_fld, exec_asg, exec_setI, exec_setF, exec_aug, exec_mut, exec_ifs, exec_ret, exec_retn, exec_brk, exec_cont, exec_exp, exec_rai, exec_fg, exec_pas, evT, evs, evTAnd, evTOr, evAnd, evOr, evP, evSrc, bo, bnd, frzAll, esT, esTs, esO, esc, escs, esS, escS, opd, opn, look, peek, ofO, cmpD, truthD, thenK, sweep, outR, outF, fresh, asgK, asgT, asgTs, put, binD, b1D, b2D, ixD, ixN, atI_0, atI_1, atI_2, atI_3, atI_4, eqv, eqvs, shp, shps, setK, setX, setO, setOb, isVar, unset, cellOf, frz, valOf, forL, forK, isiD, isiO, items, itemsS, seqs, lenD, fldD, isIns, isNon, isB, inT, mutOk, mutK, muD, ckS, ckC, okP, isDct, dctOf, Pd.getD, augK, setFK, fput, okP, dmD, low, lows, hd, tl, b3])]
    rw [execs_step e6]
    refine execs_end ?_
    show exec (cls' (n + 1)) (.ret (retE rRet)) _ _ = _
    rw [exec_ret]
    have : ∀ ρ : Env, frzAll ρ (esc (retE rRet)) = frzAll ρ [4] := fun _ => rfl
    rw [this]
    have : frzAll [.val (.obj 0), .val (.int pr), .val (.int pt), .val (.int (1 + m : Nat)), .val (.int pl), .val (.int v4), .val (.int first), .own (LN nums), .un, .un] [4] = [.val (.obj 0), .val (.int pr), .val (.int pt), .val (.int (1 + m : Nat)), .val (.int pl), .val (.int v4), .val (.int first), .own (LN nums), .un, .un] := rfl
    rw [this, e7]; rfl
  rw [e0, hres]
  rw [List.map_map]; rfl

/-! ### budgets -/
theorem budgets (n : Nat) (many : Nat) (p : Pool) (b : Int) (r : T) (h : many ≤ 20) (hb : b < 800000) (o : Ok p b) :
    ∃ (B : List Int) (p' : Pool), call prg (n + 2) 4 [.obj 0, .int many] (p.ob :: r) = .ok (.lst (B.map .int)) (Pool.ob p' :: r) ∧ B.length = many ∧ (∀ x ∈ B, 0 ≤ x ∧ x ≤ 10) ∧ Ok p' (b + 21) := by
  obtain ⟨v1, p1, e1, o1, a1, b1⟩ := take n p b 5 r (by omega) (by omega) o (by omega)
  have hr := range0_LN many
  have h1 : (many : Int) ≤ 1000000 := by omega
  have h2 : (-1000000 : Int) ≤ many := by omega
  have ht : ∃ top : Int, atI [D.int 1, .int 2, .int 3, .int 4, .int 11] v1 = some (.int top) ∧ 1 ≤ top ∧ top ≤ 11 := by
    have : v1 = 0 ∨ v1 = 1 ∨ v1 = 2 ∨ v1 = 3 ∨ v1 = 4 := by omega
    rcases this with rfl | rfl | rfl | rfl | rfl
    · exact ⟨1, rfl, by omega, by omega⟩
    · exact ⟨2, rfl, by omega, by omega⟩
    · exact ⟨3, rfl, by omega, by omega⟩
    · exact ⟨4, rfl, by omega, by omega⟩
    · exact ⟨11, rfl, by omega, by omega⟩
  obtain ⟨top, et, t1, t2⟩ := ht
  obtain ⟨ds, t', e2, l2, ⟨p', rfl, o'⟩, hP⟩ := compL_state (ck := fun _ => true) (f := turnC (cls' (n + 1)) (.nm 3) [3] .yes (.call 2 (es [(.var 0), (.var 2)])) [.val (.obj 0), .val (.int many), .val (.int top), .un])
    (fun i t => ∃ p' : Pool, t = p'.ob :: r ∧ Ok p' (b + 1 + i)) (fun d => ∃ x : Int, d = .int x ∧ 0 ≤ x ∧ x ≤ 10) (fun _ _ _ => rfl) (LN (List.range many)) 0 (p1.ob :: r) ⟨p1, rfl, o1.mono (by omega)⟩ (fun k x t hx hI => by
      obtain ⟨p', rfl, o'⟩ := hI
      obtain ⟨hk, rfl⟩ := idx_range hx
      obtain ⟨v, p'', e, o'', a, b'⟩ := take n p' (b + 1 + ((0 + k : Nat) : Int)) top r t1 (by omega) o' (by omega)
      exact ⟨.int v, p''.ob :: r, by simp [turnC, runF, ss, es, ts, gs, execs, ev_var, ev_kon, ev_glb, ev_bin, ev_neg, ev_cmp, ev_chn, ev_and, ev_or, ev_not, ev_ife, ev_call, ev_callk, ev_mth, ev_mk, ev_mkk, ev_b1, ev_b2, ev_isi, ev_ix, ev_sl, ev_lst, ev_tup, ev_newL, ev_newD, ev_lobj, ev_dsp, ev_dm, ev_join, ev_fld, exec_asg, exec_setI, exec_setF, exec_aug, exec_mut, exec_ifs, exec_ret, exec_retn, exec_brk, exec_cont, exec_exp, exec_rai, exec_fg, exec_pas, evT, evs, evTAnd, evTOr, evAnd, evOr, evP, evSrc, bo, bnd, frzAll, esT, esTs, esO, esc, escs, esS, escS, opd, opn, look, peek, ofO, cmpD, truthD, thenK, sweep, outR, outF, fresh, asgK, asgT, asgTs, put, binD, b1D, b2D, ixD, ixN, atI_0, atI_1, atI_2, atI_3, atI_4, eqv, eqvs, shp, shps, setK, setX, setO, setOb, isVar, unset, cellOf, frz, valOf, forL, forK, isiD, isiO, items, itemsS, seqs, lenD, fldD, isIns, isNon, isB, inT, mutOk, mutK, muD, ckS, ckC, okP, isDct, dctOf, Pd.getD, augK, setFK, fput, okP, dmD, low, lows, e], ⟨p'', rfl, o''.mono (by omega)⟩, v, rfl, a, by omega⟩)
  have hB : ∃ B : List Int, ds = B.map .int ∧ ∀ x ∈ B, 0 ≤ x ∧ x ≤ 10 := by
    clear e2 l2
    induction ds with
    | nil => exact ⟨[], rfl, by simp⟩
    | cons d ds ih =>
      obtain ⟨x, rfl, hx⟩ := hP d List.mem_cons_self
      obtain ⟨B, rfl, hB⟩ := ih fun y hy => hP y (List.mem_cons_of_mem _ hy)
      exact ⟨x :: B, rfl, fun y hy => by
        rcases List.mem_cons.mp hy with rfl | hy
        · exact hx
        · exact hB y hy⟩
  obtain ⟨B, rfl, hB⟩ := hB
  rw [len_LN, List.length_range, List.length_map] at l2
  rw [len_LN, List.length_range] at o'
  refine ⟨B, p', ?_, l2, hB, o'.mono (by omega)⟩
  have e3 : ev (cls' (n + 1)) (.comp (.rng (.var 1)) (.nm 3) [3] .yes (.call 2 (es [(.var 0), (.var 2)]))) [.val (.obj 0), .val (.int many), .val (.int top), .un] (p1.ob :: r) = .ok (.lst (B.map .int)) (p'.ob :: r) :=
    ev_compOf (xs := LN (List.range many)) (t1 := p1.ob :: r) (by simp [runF, ss, es, ts, gs, execs, ev_var, ev_kon, ev_glb, ev_bin, ev_neg, ev_cmp, ev_chn, ev_and, ev_or, ev_not, ev_ife, ev_call, ev_callk, ev_mth, ev_mk, ev_mkk, ev_b1, ev_b2, ev_isi, ev_ix, ev_sl, ev_lst, ev_tup, ev_newL, ev_newD, ev_lobj, ev_dsp, ev_dm, ev_join, ev_fld, exec_asg, exec_setI, exec_setF, exec_aug, exec_mut, exec_ifs, exec_ret, exec_retn, exec_brk, exec_cont, exec_exp, exec_rai, exec_fg, exec_pas, evT, evs, evTAnd, evTOr, evAnd, evOr, evP, evSrc, bo, bnd, frzAll, esT, esTs, esO, esc, escs, esS, escS, opd, opn, look, peek, ofO, cmpD, truthD, thenK, sweep, outR, outF, fresh, asgK, asgT, asgTs, put, binD, b1D, b2D, ixD, ixN, atI_0, atI_1, atI_2, atI_3, atI_4, eqv, eqvs, shp, shps, setK, setX, setO, setOb, isVar, unset, cellOf, frz, valOf, forL, forK, isiD, isiO, items, itemsS, seqs, lenD, fldD, isIns, isNon, isB, inT, mutOk, mutK, muD, ckS, ckC, okP, isDct, dctOf, Pd.getD, augK, setFK, fput, okP, dmD, low, lows, h1, h2, hr]) e2
  simp only [es] at e3
  rw [cS 4 f4 rfl]
  simp [runF, ss, es, ts, gs, execs, ev_var, ev_kon, ev_glb, ev_bin, ev_neg, ev_cmp, ev_chn, ev_and, ev_or, ev_not, ev_ife, ev_call, ev_callk, ev_mth, ev_mk, ev_mkk, ev_b1, ev_b2, ev_isi, ev_ix, ev_sl, ev_lst, ev_tup, ev_newL, ev_newD, ev_lobj, ev_dsp, ev_dm, ev_join, ev_fld, exec_asg, exec_setI, exec_setF, exec_aug, exec_mut, exec_ifs, exec_ret, exec_retn, exec_brk, exec_cont, exec_exp, exec_rai, exec_fg, exec_pas, evT, evs, evTAnd, evTOr, evAnd, evOr, evP, evSrc, bo, bnd, frzAll, esT, esTs, esO, esc, escs, esS, escS, opd, opn, look, peek, ofO, cmpD, truthD, thenK, sweep, outR, outF, fresh, asgK, asgT, asgTs, put, binD, b1D, b2D, ixD, ixN, atI_0, atI_1, atI_2, atI_3, atI_4, eqv, eqvs, shp, shps, setK, setX, setO, setOb, isVar, unset, cellOf, frz, valOf, forL, forK, isiD, isiO, items, itemsS, seqs, lenD, fldD, isIns, isNon, isB, inT, mutOk, mutK, muD, ckS, ckC, okP, isDct, dctOf, Pd.getD, augK, setFK, fput, okP, dmD, low, lows, f4, b4, e1, et, e3]
end K85
set_option maxRecDepth 100000
set_option linter.all false
set_option autoImplicit false
/-! the checks of rows and budgets -/
namespace K85
open Pd Pt
theorem c_integer (n : Nat) (i : Int) (t : T) : call prg (n + 1) 30 [.int i] t = .ok (.bl true) t := by
  rw [cS 30 f30 rfl]
  simp [runF, ss, es, ts, gs, execs, ev_var, ev_kon, ev_glb, ev_bin, ev_neg, ev_cmp, ev_chn, ev_and, ev_or, ev_not, ev_ife, ev_call, ev_callk, ev_mth, ev_mk, ev_mkk, ev_b1, ev_b2, ev_isi, ev_ix, ev_sl, ev_lst, ev_tup, ev_newL, ev_newD, ev_lobj, ev_dsp, ev_dm, ev_join, ev_fld, exec_asg, exec_setI, exec_setF, exec_aug, exec_mut, exec_ifs, exec_ret, exec_retn, exec_brk, exec_cont, exec_exp, exec_rai, exec_fg, exec_pas, evT, evs, evTAnd, evTOr, evAnd, evOr, evP, evSrc, bo, bnd, frzAll, esT, esTs, esO, esc, escs, esS, escS, opd, opn, look, peek, ofO, cmpD, truthD, thenK, sweep, outR, outF, fresh, asgK, asgT, asgTs, put, binD, b1D, b2D, ixD, ixN, atI_0, atI_1, atI_2, atI_3, atI_4, eqv, eqvs, shp, shps, setK, setX, setO, setOb, isVar, unset, cellOf, frz, valOf, forL, forK, isiD, isiO, items, itemsS, seqs, lenD, fldD, isIns, isNon, isB, inT, mutOk, mutK, muD, ckS, ckC, okP, isDct, dctOf, Pd.getD, augK, setFK, fput, okP, dmD, low, lows, f30, b30]
theorem c_integerT (n : Nat) (xs : List D) (t : T) : call prg (n + 1) 30 [.tup xs] t = .ok (.bl false) t := by
  rw [cS 30 f30 rfl]
  simp [runF, ss, es, ts, gs, execs, ev_var, ev_kon, ev_glb, ev_bin, ev_neg, ev_cmp, ev_chn, ev_and, ev_or, ev_not, ev_ife, ev_call, ev_callk, ev_mth, ev_mk, ev_mkk, ev_b1, ev_b2, ev_isi, ev_ix, ev_sl, ev_lst, ev_tup, ev_newL, ev_newD, ev_lobj, ev_dsp, ev_dm, ev_join, ev_fld, exec_asg, exec_setI, exec_setF, exec_aug, exec_mut, exec_ifs, exec_ret, exec_retn, exec_brk, exec_cont, exec_exp, exec_rai, exec_fg, exec_pas, evT, evs, evTAnd, evTOr, evAnd, evOr, evP, evSrc, bo, bnd, frzAll, esT, esTs, esO, esc, escs, esS, escS, opd, opn, look, peek, ofO, cmpD, truthD, thenK, sweep, outR, outF, fresh, asgK, asgT, asgTs, put, binD, b1D, b2D, ixD, ixN, atI_0, atI_1, atI_2, atI_3, atI_4, eqv, eqvs, shp, shps, setK, setX, setO, setOb, isVar, unset, cellOf, frz, valOf, forL, forK, isiD, isiO, items, itemsS, seqs, lenD, fldD, isIns, isNon, isB, inT, mutOk, mutK, muD, ckS, ckC, okP, isDct, dctOf, Pd.getD, augK, setFK, fput, okP, dmD, low, lows, f30, b30]
theorem c_lawinteger (n : Nat) (i : Int) (t : T) : call prg (n + 1) 21 [.int i] t = .ok (.bl true) t := by
  rw [cS 21 f21 rfl]
  simp [runF, ss, es, ts, gs, execs, ev_var, ev_kon, ev_glb, ev_bin, ev_neg, ev_cmp, ev_chn, ev_and, ev_or, ev_not, ev_ife, ev_call, ev_callk, ev_mth, ev_mk, ev_mkk, ev_b1, ev_b2, ev_isi, ev_ix, ev_sl, ev_lst, ev_tup, ev_newL, ev_newD, ev_lobj, ev_dsp, ev_dm, ev_join, ev_fld, exec_asg, exec_setI, exec_setF, exec_aug, exec_mut, exec_ifs, exec_ret, exec_retn, exec_brk, exec_cont, exec_exp, exec_rai, exec_fg, exec_pas, evT, evs, evTAnd, evTOr, evAnd, evOr, evP, evSrc, bo, bnd, frzAll, esT, esTs, esO, esc, escs, esS, escS, opd, opn, look, peek, ofO, cmpD, truthD, thenK, sweep, outR, outF, fresh, asgK, asgT, asgTs, put, binD, b1D, b2D, ixD, ixN, atI_0, atI_1, atI_2, atI_3, atI_4, eqv, eqvs, shp, shps, setK, setX, setO, setOb, isVar, unset, cellOf, frz, valOf, forL, forK, isiD, isiO, items, itemsS, seqs, lenD, fldD, isIns, isNon, isB, inT, mutOk, mutK, muD, ckS, ckC, okP, isDct, dctOf, Pd.getD, augK, setFK, fput, okP, dmD, low, lows, f21, b21]
theorem c_number (n : Nat) (i : Int) (t : T) (h : 0 ≤ i) : call prg (n + 2) 35 [.int i] t = .ok (.bl true) t := by
  rw [cS 35 f35 rfl]
  have i1 := c_integer n i t
  simp [runF, ss, es, ts, gs, execs, ev_var, ev_kon, ev_glb, ev_bin, ev_neg, ev_cmp, ev_chn, ev_and, ev_or, ev_not, ev_ife, ev_call, ev_callk, ev_mth, ev_mk, ev_mkk, ev_b1, ev_b2, ev_isi, ev_ix, ev_sl, ev_lst, ev_tup, ev_newL, ev_newD, ev_lobj, ev_dsp, ev_dm, ev_join, ev_fld, exec_asg, exec_setI, exec_setF, exec_aug, exec_mut, exec_ifs, exec_ret, exec_retn, exec_brk, exec_cont, exec_exp, exec_rai, exec_fg, exec_pas, evT, evs, evTAnd, evTOr, evAnd, evOr, evP, evSrc, bo, bnd, frzAll, esT, esTs, esO, esc, escs, esS, escS, opd, opn, look, peek, ofO, cmpD, truthD, thenK, sweep, outR, outF, fresh, asgK, asgT, asgTs, put, binD, b1D, b2D, ixD, ixN, atI_0, atI_1, atI_2, atI_3, atI_4, eqv, eqvs, shp, shps, setK, setX, setO, setOb, isVar, unset, cellOf, frz, valOf, forL, forK, isiD, isiO, items, itemsS, seqs, lenD, fldD, isIns, isNon, isB, inT, mutOk, mutK, muD, ckS, ckC, okP, isDct, dctOf, Pd.getD, augK, setFK, fput, okP, dmD, low, lows, f35, b35, i1, h]
theorem c_between (n : Nat) (v a b : Int) (t : T) : call prg (n + 2) 36 [.int v, .int a, .int b] t = .ok (.bl (decide (a ≤ v ∧ v ≤ b))) t := by
  rw [cS 36 f36 rfl]
  have i1 := c_integer n v t
  by_cases h1 : a ≤ v <;> by_cases h2 : v ≤ b <;> simp [runF, ss, es, ts, gs, execs, ev_var, ev_kon, ev_glb, ev_bin, ev_neg, ev_cmp, ev_chn, ev_and, ev_or, ev_not, ev_ife, ev_call, ev_callk, ev_mth, ev_mk, ev_mkk, ev_b1, ev_b2, ev_isi, ev_ix, ev_sl, ev_lst, ev_tup, ev_newL, ev_newD, ev_lobj, ev_dsp, ev_dm, ev_join, ev_fld, exec_asg, exec_setI, exec_setF, exec_aug, exec_mut, exec_ifs, exec_ret, exec_retn, exec_brk, exec_cont, exec_exp, exec_rai, exec_fg, exec_pas, evT, evs, evTAnd, evTOr, evAnd, evOr, evP, evSrc, bo, bnd, frzAll, esT, esTs, esO, esc, escs, esS, escS, opd, opn, look, peek, ofO, cmpD, truthD, thenK, sweep, outR, outF, fresh, asgK, asgT, asgTs, put, binD, b1D, b2D, ixD, ixN, atI_0, atI_1, atI_2, atI_3, atI_4, eqv, eqvs, shp, shps, setK, setX, setO, setOb, isVar, unset, cellOf, frz, valOf, forL, forK, isiD, isiO, items, itemsS, seqs, lenD, fldD, isIns, isNon, isB, inT, mutOk, mutK, muD, ckS, ckC, okP, isDct, dctOf, Pd.getD, augK, setFK, fput, okP, dmD, low, lows, f36, b36, i1, h1, h2]
theorem c_row (n : Nat) {vs : List D} {x : D} {t : T} (h : Hd vs x t) : call prg (n + 1) 33 [x] t = .ok (.bl true) t := by
  rw [cS 33 f33 rfl]
  have h1 := h.row
  simp [runF, ss, es, ts, gs, execs, f33, b33, exec_ret, ev_isi, opd, look, peek, frzAll, esc, esO, h1, bo, bnd, thenK, sweep, outR]
theorem c_word (n : Nat) (w : List Nat) (t : T) (h : ∀ x ∈ w, x = 48 ∨ x = 49) : call prg (n + 1) 34 [.str w] t = .ok (.bl true) t := by
  rw [cS 34 f34 rfl]
  have e : ev (cls' n) (.comp (.seq (.var 0)) (.nm 1) [1] .yes (.cmp .isin (.var 1) (.kon (.str [48, 49])))) [.val (.str w), .un] t = .ok (.lst (w.map fun _ => .bl true)) t := by
    refine comp_enc w (fun c => D.str [c]) _ (by simp [runF, ss, es, ts, gs, execs, ev_var, ev_kon, ev_glb, ev_bin, ev_neg, ev_cmp, ev_chn, ev_and, ev_or, ev_not, ev_ife, ev_call, ev_callk, ev_mth, ev_mk, ev_mkk, ev_b1, ev_b2, ev_isi, ev_ix, ev_sl, ev_lst, ev_tup, ev_newL, ev_newD, ev_lobj, ev_dsp, ev_dm, ev_join, ev_fld, exec_asg, exec_setI, exec_setF, exec_aug, exec_mut, exec_ifs, exec_ret, exec_retn, exec_brk, exec_cont, exec_exp, exec_rai, exec_fg, exec_pas, evT, evs, evTAnd, evTOr, evAnd, evOr, evP, evSrc, bo, bnd, frzAll, esT, esTs, esO, esc, escs, esS, escS, opd, opn, look, peek, ofO, cmpD, truthD, thenK, sweep, outR, outF, fresh, asgK, asgT, asgTs, put, binD, b1D, b2D, ixD, ixN, atI_0, atI_1, atI_2, atI_3, atI_4, eqv, eqvs, shp, shps, setK, setX, setO, setOb, isVar, unset, cellOf, frz, valOf, forL, forK, isiD, isiO, items, itemsS, seqs, lenD, fldD, isIns, isNon, isB, inT, mutOk, mutK, muD, ckS, ckC, okP, isDct, dctOf, Pd.getD, augK, setFK, fput, okP, dmD, low, lows]) fun c hc => ?_
    have h1 : c = 48 ∨ c = 49 := h c hc
    rcases h1 with rfl | rfl <;> simp [turnC, runF, ss, es, ts, gs, execs, ev_var, ev_kon, ev_glb, ev_bin, ev_neg, ev_cmp, ev_chn, ev_and, ev_or, ev_not, ev_ife, ev_call, ev_callk, ev_mth, ev_mk, ev_mkk, ev_b1, ev_b2, ev_isi, ev_ix, ev_sl, ev_lst, ev_tup, ev_newL, ev_newD, ev_lobj, ev_dsp, ev_dm, ev_join, ev_fld, exec_asg, exec_setI, exec_setF, exec_aug, exec_mut, exec_ifs, exec_ret, exec_retn, exec_brk, exec_cont, exec_exp, exec_rai, exec_fg, exec_pas, evT, evs, evTAnd, evTOr, evAnd, evOr, evP, evSrc, bo, bnd, frzAll, esT, esTs, esO, esc, escs, esS, escS, opd, opn, look, peek, ofO, cmpD, truthD, thenK, sweep, outR, outF, fresh, asgK, asgT, asgTs, put, binD, b1D, b2D, ixD, ixN, atI_0, atI_1, atI_2, atI_3, atI_4, eqv, eqvs, shp, shps, setK, setX, setO, setOb, isVar, unset, cellOf, frz, valOf, forL, forK, isiD, isiO, items, itemsS, seqs, lenD, fldD, isIns, isNon, isB, inT, mutOk, mutK, muD, ckS, ckC, okP, isDct, dctOf, Pd.getD, augK, setFK, fput, okP, dmD, low, lows, inD]
  have a := bools_rep w
  simp [runF, ss, es, ts, gs, execs, ev_var, ev_kon, ev_glb, ev_bin, ev_neg, ev_cmp, ev_chn, ev_and, ev_or, ev_not, ev_ife, ev_call, ev_callk, ev_mth, ev_mk, ev_mkk, ev_b1, ev_b2, ev_isi, ev_ix, ev_sl, ev_lst, ev_tup, ev_newL, ev_newD, ev_lobj, ev_dsp, ev_dm, ev_join, ev_fld, exec_asg, exec_setI, exec_setF, exec_aug, exec_mut, exec_ifs, exec_ret, exec_retn, exec_brk, exec_cont, exec_exp, exec_rai, exec_fg, exec_pas, evT, evs, evTAnd, evTOr, evAnd, evOr, evP, evSrc, bo, bnd, frzAll, esT, esTs, esO, esc, escs, esS, escS, opd, opn, look, peek, ofO, cmpD, truthD, thenK, sweep, outR, outF, fresh, asgK, asgT, asgTs, put, binD, b1D, b2D, ixD, ixN, atI_0, atI_1, atI_2, atI_3, atI_4, eqv, eqvs, shp, shps, setK, setX, setO, setOb, isVar, unset, cellOf, frz, valOf, forL, forK, isiD, isiO, items, itemsS, seqs, lenD, fldD, isIns, isNon, isB, inT, mutOk, mutK, muD, ckS, ckC, okP, isDct, dctOf, Pd.getD, augK, setFK, fput, okP, dmD, low, lows, f34, b34, e, a]
theorem c_areRows (n : Nat) {ws : List (List Nat)} {pl : Nat} {x : D} {t : T} (hw : Wd ws pl) (h0 : 1 ≤ ws.length) (h : Hd (ws.map .str) x t) : call prg (n + 2) 26 [x] t = .ok (.bl true) t := by
  rw [cS 26 f26 rfl]
  have e : ev (cls' (n + 1)) (.comp (.seq (.var 0)) (.nm 1) [1] .yes (.call 34 (es [(.var 1)]))) [.val x, .un] t = .ok (.lst (ws.map fun _ => .bl true)) t := by
    refine comp_enc ws D.str _ ?_ (fun w hw' => ?_) h.ck
    · have := h.items 0
      simp [evSrc, opn, opd, look, peek, this, bnd, ofO]
    · have := c_word n w t (hw.bit w hw')
      simp [turnC, runF, ss, es, ts, gs, execs, ev_var, ev_kon, ev_glb, ev_bin, ev_neg, ev_cmp, ev_chn, ev_and, ev_or, ev_not, ev_ife, ev_call, ev_callk, ev_mth, ev_mk, ev_mkk, ev_b1, ev_b2, ev_isi, ev_ix, ev_sl, ev_lst, ev_tup, ev_newL, ev_newD, ev_lobj, ev_dsp, ev_dm, ev_join, ev_fld, exec_asg, exec_setI, exec_setF, exec_aug, exec_mut, exec_ifs, exec_ret, exec_retn, exec_brk, exec_cont, exec_exp, exec_rai, exec_fg, exec_pas, evT, evs, evTAnd, evTOr, evAnd, evOr, evP, evSrc, bo, bnd, frzAll, esT, esTs, esO, esc, escs, esS, escS, opd, opn, look, peek, ofO, cmpD, truthD, thenK, sweep, outR, outF, fresh, asgK, asgT, asgTs, put, binD, b1D, b2D, ixD, ixN, atI_0, atI_1, atI_2, atI_3, atI_4, eqv, eqvs, shp, shps, setK, setX, setO, setOb, isVar, unset, cellOf, frz, valOf, forL, forK, isiD, isiO, items, itemsS, seqs, lenD, fldD, isIns, isNon, isB, inT, mutOk, mutK, muD, ckS, ckC, okP, isDct, dctOf, Pd.getD, augK, setFK, fput, okP, dmD, low, lows, this]
  have e2 : ev (cls' (n + 1)) (.comp (.seq (.var 0)) (.nm 1) [1] .yes (.cmp .eq (.b1 .len (.var 1)) (.b1 .len (.ix (.var 0) (.kon (.int 0)))))) [.val x, .un] t = .ok (.lst (ws.map fun _ => .bl true)) t := by
    refine comp_enc ws D.str _ ?_ (fun w hw' => ?_) h.ck
    · have := h.items 0
      simp [evSrc, opn, opd, look, peek, this, bnd, ofO]
    · have h1 := h.ix 0
      have h2 := atI_W ws 0 (by omega)
      have h2 : atI (ws.map D.str) 0 = some (.str (wAt ws 0)) := h2
      rw [h2] at h1
      have l1 := hw.len w hw'
      have l2 := hw.len _ (wAt_mem (ws := ws) (q := 0) (by omega))
      have h3 : ∀ s : List Nat, lenD t (.str s) = some s.length := fun _ => rfl
      simp [turnC, runF, ss, es, evT, asgT, unset, put, ev_cmp, ev_b1, ev_ix, ev_kon, opd, look, peek, h1, bnd, ofO, b1D, h3, cmpD, shp, eqv, l1, l2]
  have a := bools_rep ws
  have h1 := c_row n h
  have h2 := h.len
  rw [List.length_map] at h2
  have h3 : ws ≠ [] := by rintro rfl; simp at h0
  simp only [es] at e
  rcases h with rfl | rfl | ⟨k, rfl, e0⟩
  · simp [runF, ss, es, ts, gs, execs, ev_var, ev_kon, ev_glb, ev_bin, ev_neg, ev_cmp, ev_chn, ev_and, ev_or, ev_not, ev_ife, ev_call, ev_callk, ev_mth, ev_mk, ev_mkk, ev_b1, ev_b2, ev_isi, ev_ix, ev_sl, ev_lst, ev_tup, ev_newL, ev_newD, ev_lobj, ev_dsp, ev_dm, ev_join, ev_fld, exec_asg, exec_setI, exec_setF, exec_aug, exec_mut, exec_ifs, exec_ret, exec_retn, exec_brk, exec_cont, exec_exp, exec_rai, exec_fg, exec_pas, evT, evs, evTAnd, evTOr, evAnd, evOr, evP, evSrc, bo, bnd, frzAll, esT, esTs, esO, esc, escs, esS, escS, opd, opn, look, peek, ofO, cmpD, truthD, thenK, sweep, outR, outF, fresh, asgK, asgT, asgTs, put, binD, b1D, b2D, ixD, ixN, atI_0, atI_1, atI_2, atI_3, atI_4, eqv, eqvs, shp, shps, setK, setX, setO, setOb, isVar, unset, cellOf, frz, valOf, forL, forK, isiD, isiO, items, itemsS, seqs, lenD, fldD, isIns, isNon, isB, inT, mutOk, mutK, muD, ckS, ckC, okP, isDct, dctOf, Pd.getD, augK, setFK, fput, okP, dmD, low, lows, f26, b26, e, e2, h1, h3, a]
  · simp [runF, ss, es, ts, gs, execs, ev_var, ev_kon, ev_glb, ev_bin, ev_neg, ev_cmp, ev_chn, ev_and, ev_or, ev_not, ev_ife, ev_call, ev_callk, ev_mth, ev_mk, ev_mkk, ev_b1, ev_b2, ev_isi, ev_ix, ev_sl, ev_lst, ev_tup, ev_newL, ev_newD, ev_lobj, ev_dsp, ev_dm, ev_join, ev_fld, exec_asg, exec_setI, exec_setF, exec_aug, exec_mut, exec_ifs, exec_ret, exec_retn, exec_brk, exec_cont, exec_exp, exec_rai, exec_fg, exec_pas, evT, evs, evTAnd, evTOr, evAnd, evOr, evP, evSrc, bo, bnd, frzAll, esT, esTs, esO, esc, escs, esS, escS, opd, opn, look, peek, ofO, cmpD, truthD, thenK, sweep, outR, outF, fresh, asgK, asgT, asgTs, put, binD, b1D, b2D, ixD, ixN, atI_0, atI_1, atI_2, atI_3, atI_4, eqv, eqvs, shp, shps, setK, setX, setO, setOb, isVar, unset, cellOf, frz, valOf, forL, forK, isiD, isiO, items, itemsS, seqs, lenD, fldD, isIns, isNon, isB, inT, mutOk, mutK, muD, ckS, ckC, okP, isDct, dctOf, Pd.getD, augK, setFK, fput, okP, dmD, low, lows, f26, b26, e, e2, h1, h3, a]
  · simp [runF, ss, es, ts, gs, execs, ev_var, ev_kon, ev_glb, ev_bin, ev_neg, ev_cmp, ev_chn, ev_and, ev_or, ev_not, ev_ife, ev_call, ev_callk, ev_mth, ev_mk, ev_mkk, ev_b1, ev_b2, ev_isi, ev_ix, ev_sl, ev_lst, ev_tup, ev_newL, ev_newD, ev_lobj, ev_dsp, ev_dm, ev_join, ev_fld, exec_asg, exec_setI, exec_setF, exec_aug, exec_mut, exec_ifs, exec_ret, exec_retn, exec_brk, exec_cont, exec_exp, exec_rai, exec_fg, exec_pas, evT, evs, evTAnd, evTOr, evAnd, evOr, evP, evSrc, bo, bnd, frzAll, esT, esTs, esO, esc, escs, esS, escS, opd, opn, look, peek, ofO, cmpD, truthD, thenK, sweep, outR, outF, fresh, asgK, asgT, asgTs, put, binD, b1D, b2D, ixD, ixN, atI_0, atI_1, atI_2, atI_3, atI_4, eqv, eqvs, shp, shps, setK, setX, setO, setOb, isVar, unset, cellOf, frz, valOf, forL, forK, isiD, isiO, items, itemsS, seqs, lenD, fldD, isIns, isNon, isB, inT, mutOk, mutK, muD, ckS, ckC, okP, isDct, dctOf, Pd.getD, augK, setFK, fput, okP, dmD, low, lows, f26, b26, e, e2, h1, h3, a, e0]
theorem c_areBudgets (n : Nat) {B : List Int} {x : D} {t : T} (hB : ∀ b ∈ B, 0 ≤ b) (h : Hd (B.map .int) x t) : call prg (n + 3) 27 [x] t = .ok (.bl true) t := by
  rw [cS 27 f27 rfl]
  have e : ev (cls' (n + 2)) (.comp (.seq (.var 0)) (.nm 1) [1] .yes (.call 35 (es [(.var 1)]))) [.val x, .un] t = .ok (.lst (B.map fun _ => .bl true)) t := by
    refine comp_enc B D.int _ ?_ (fun w hw' => ?_) h.ck
    · have := h.items 0
      simp [evSrc, opn, opd, look, peek, this, bnd, ofO]
    · have := c_number n w t (hB w hw')
      simp [turnC, runF, ss, es, ts, gs, execs, ev_var, ev_kon, ev_glb, ev_bin, ev_neg, ev_cmp, ev_chn, ev_and, ev_or, ev_not, ev_ife, ev_call, ev_callk, ev_mth, ev_mk, ev_mkk, ev_b1, ev_b2, ev_isi, ev_ix, ev_sl, ev_lst, ev_tup, ev_newL, ev_newD, ev_lobj, ev_dsp, ev_dm, ev_join, ev_fld, exec_asg, exec_setI, exec_setF, exec_aug, exec_mut, exec_ifs, exec_ret, exec_retn, exec_brk, exec_cont, exec_exp, exec_rai, exec_fg, exec_pas, evT, evs, evTAnd, evTOr, evAnd, evOr, evP, evSrc, bo, bnd, frzAll, esT, esTs, esO, esc, escs, esS, escS, opd, opn, look, peek, ofO, cmpD, truthD, thenK, sweep, outR, outF, fresh, asgK, asgT, asgTs, put, binD, b1D, b2D, ixD, ixN, atI_0, atI_1, atI_2, atI_3, atI_4, eqv, eqvs, shp, shps, setK, setX, setO, setOb, isVar, unset, cellOf, frz, valOf, forL, forK, isiD, isiO, items, itemsS, seqs, lenD, fldD, isIns, isNon, isB, inT, mutOk, mutK, muD, ckS, ckC, okP, isDct, dctOf, Pd.getD, augK, setFK, fput, okP, dmD, low, lows, this]
  have a := bools_rep B
  have h1 := c_row (n + 1) h
  simp only [es] at e
  simp [runF, ss, es, ts, gs, execs, ev_var, ev_kon, ev_glb, ev_bin, ev_neg, ev_cmp, ev_chn, ev_and, ev_or, ev_not, ev_ife, ev_call, ev_callk, ev_mth, ev_mk, ev_mkk, ev_b1, ev_b2, ev_isi, ev_ix, ev_sl, ev_lst, ev_tup, ev_newL, ev_newD, ev_lobj, ev_dsp, ev_dm, ev_join, ev_fld, exec_asg, exec_setI, exec_setF, exec_aug, exec_mut, exec_ifs, exec_ret, exec_retn, exec_brk, exec_cont, exec_exp, exec_rai, exec_fg, exec_pas, evT, evs, evTAnd, evTOr, evAnd, evOr, evP, evSrc, bo, bnd, frzAll, esT, esTs, esO, esc, escs, esS, escS, opd, opn, look, peek, ofO, cmpD, truthD, thenK, sweep, outR, outF, fresh, asgK, asgT, asgTs, put, binD, b1D, b2D, ixD, ixN, atI_0, atI_1, atI_2, atI_3, atI_4, eqv, eqvs, shp, shps, setK, setX, setO, setOb, isVar, unset, cellOf, frz, valOf, forL, forK, isiD, isiO, items, itemsS, seqs, lenD, fldD, isIns, isNon, isB, inT, mutOk, mutK, muD, ckS, ckC, okP, isDct, dctOf, Pd.getD, augK, setFK, fput, okP, dmD, low, lows, f27, b27, e, h1, a]
theorem c_check (n : Nat) {ws : List (List Nat)} {pl : Nat} {B : List Int} {x y : D} {t : T} (hw : Wd ws pl) (h0 : 1 ≤ ws.length) (h : Hd (ws.map .str) x t) (hB : ∀ b ∈ B, 0 ≤ b) (hl : B.length = ws.length) (h' : Hd (B.map .int) y t) : call prg (n + 4) 20 [x, y] t = .ok .non t := by
  rw [cS 20 f20 rfl]
  have i1 := c_areRows (n + 1) hw h0 h
  have i2 := c_areBudgets n hB h'
  have l1 := h.len
  have l2 := h'.len
  rw [List.length_map] at l1 l2
  rcases h with rfl | rfl | ⟨k, rfl, e0⟩ <;> rcases h' with rfl | rfl | ⟨k', rfl, e1⟩
  · simp [runF, ss, es, ts, gs, execs, ev_var, ev_kon, ev_glb, ev_bin, ev_neg, ev_cmp, ev_chn, ev_and, ev_or, ev_not, ev_ife, ev_call, ev_callk, ev_mth, ev_mk, ev_mkk, ev_b1, ev_b2, ev_isi, ev_ix, ev_sl, ev_lst, ev_tup, ev_newL, ev_newD, ev_lobj, ev_dsp, ev_dm, ev_join, ev_fld, exec_asg, exec_setI, exec_setF, exec_aug, exec_mut, exec_ifs, exec_ret, exec_retn, exec_brk, exec_cont, exec_exp, exec_rai, exec_fg, exec_pas, evT, evs, evTAnd, evTOr, evAnd, evOr, evP, evSrc, bo, bnd, frzAll, esT, esTs, esO, esc, escs, esS, escS, opd, opn, look, peek, ofO, cmpD, truthD, thenK, sweep, outR, outF, fresh, asgK, asgT, asgTs, put, binD, b1D, b2D, ixD, ixN, atI_0, atI_1, atI_2, atI_3, atI_4, eqv, eqvs, shp, shps, setK, setX, setO, setOb, isVar, unset, cellOf, frz, valOf, forL, forK, isiD, isiO, items, itemsS, seqs, lenD, fldD, isIns, isNon, isB, inT, mutOk, mutK, muD, ckS, ckC, okP, isDct, dctOf, Pd.getD, augK, setFK, fput, okP, dmD, low, lows, f20, b20, i1, i2, hl]
  · simp [runF, ss, es, ts, gs, execs, ev_var, ev_kon, ev_glb, ev_bin, ev_neg, ev_cmp, ev_chn, ev_and, ev_or, ev_not, ev_ife, ev_call, ev_callk, ev_mth, ev_mk, ev_mkk, ev_b1, ev_b2, ev_isi, ev_ix, ev_sl, ev_lst, ev_tup, ev_newL, ev_newD, ev_lobj, ev_dsp, ev_dm, ev_join, ev_fld, exec_asg, exec_setI, exec_setF, exec_aug, exec_mut, exec_ifs, exec_ret, exec_retn, exec_brk, exec_cont, exec_exp, exec_rai, exec_fg, exec_pas, evT, evs, evTAnd, evTOr, evAnd, evOr, evP, evSrc, bo, bnd, frzAll, esT, esTs, esO, esc, escs, esS, escS, opd, opn, look, peek, ofO, cmpD, truthD, thenK, sweep, outR, outF, fresh, asgK, asgT, asgTs, put, binD, b1D, b2D, ixD, ixN, atI_0, atI_1, atI_2, atI_3, atI_4, eqv, eqvs, shp, shps, setK, setX, setO, setOb, isVar, unset, cellOf, frz, valOf, forL, forK, isiD, isiO, items, itemsS, seqs, lenD, fldD, isIns, isNon, isB, inT, mutOk, mutK, muD, ckS, ckC, okP, isDct, dctOf, Pd.getD, augK, setFK, fput, okP, dmD, low, lows, f20, b20, i1, i2, hl]
  · simp [runF, ss, es, ts, gs, execs, ev_var, ev_kon, ev_glb, ev_bin, ev_neg, ev_cmp, ev_chn, ev_and, ev_or, ev_not, ev_ife, ev_call, ev_callk, ev_mth, ev_mk, ev_mkk, ev_b1, ev_b2, ev_isi, ev_ix, ev_sl, ev_lst, ev_tup, ev_newL, ev_newD, ev_lobj, ev_dsp, ev_dm, ev_join, ev_fld, exec_asg, exec_setI, exec_setF, exec_aug, exec_mut, exec_ifs, exec_ret, exec_retn, exec_brk, exec_cont, exec_exp, exec_rai, exec_fg, exec_pas, evT, evs, evTAnd, evTOr, evAnd, evOr, evP, evSrc, bo, bnd, frzAll, esT, esTs, esO, esc, escs, esS, escS, opd, opn, look, peek, ofO, cmpD, truthD, thenK, sweep, outR, outF, fresh, asgK, asgT, asgTs, put, binD, b1D, b2D, ixD, ixN, atI_0, atI_1, atI_2, atI_3, atI_4, eqv, eqvs, shp, shps, setK, setX, setO, setOb, isVar, unset, cellOf, frz, valOf, forL, forK, isiD, isiO, items, itemsS, seqs, lenD, fldD, isIns, isNon, isB, inT, mutOk, mutK, muD, ckS, ckC, okP, isDct, dctOf, Pd.getD, augK, setFK, fput, okP, dmD, low, lows, f20, b20, i1, i2, hl, e1]
  · simp [runF, ss, es, ts, gs, execs, ev_var, ev_kon, ev_glb, ev_bin, ev_neg, ev_cmp, ev_chn, ev_and, ev_or, ev_not, ev_ife, ev_call, ev_callk, ev_mth, ev_mk, ev_mkk, ev_b1, ev_b2, ev_isi, ev_ix, ev_sl, ev_lst, ev_tup, ev_newL, ev_newD, ev_lobj, ev_dsp, ev_dm, ev_join, ev_fld, exec_asg, exec_setI, exec_setF, exec_aug, exec_mut, exec_ifs, exec_ret, exec_retn, exec_brk, exec_cont, exec_exp, exec_rai, exec_fg, exec_pas, evT, evs, evTAnd, evTOr, evAnd, evOr, evP, evSrc, bo, bnd, frzAll, esT, esTs, esO, esc, escs, esS, escS, opd, opn, look, peek, ofO, cmpD, truthD, thenK, sweep, outR, outF, fresh, asgK, asgT, asgTs, put, binD, b1D, b2D, ixD, ixN, atI_0, atI_1, atI_2, atI_3, atI_4, eqv, eqvs, shp, shps, setK, setX, setO, setOb, isVar, unset, cellOf, frz, valOf, forL, forK, isiD, isiO, items, itemsS, seqs, lenD, fldD, isIns, isNon, isB, inT, mutOk, mutK, muD, ckS, ckC, okP, isDct, dctOf, Pd.getD, augK, setFK, fput, okP, dmD, low, lows, f20, b20, i1, i2, hl]
  · simp [runF, ss, es, ts, gs, execs, ev_var, ev_kon, ev_glb, ev_bin, ev_neg, ev_cmp, ev_chn, ev_and, ev_or, ev_not, ev_ife, ev_call, ev_callk, ev_mth, ev_mk, ev_mkk, ev_b1, ev_b2, ev_isi, ev_ix, ev_sl, ev_lst, ev_tup, ev_newL, ev_newD, ev_lobj, ev_dsp, ev_dm, ev_join, ev_fld, exec_asg, exec_setI, exec_setF, exec_aug, exec_mut, exec_ifs, exec_ret, exec_retn, exec_brk, exec_cont, exec_exp, exec_rai, exec_fg, exec_pas, evT, evs, evTAnd, evTOr, evAnd, evOr, evP, evSrc, bo, bnd, frzAll, esT, esTs, esO, esc, escs, esS, escS, opd, opn, look, peek, ofO, cmpD, truthD, thenK, sweep, outR, outF, fresh, asgK, asgT, asgTs, put, binD, b1D, b2D, ixD, ixN, atI_0, atI_1, atI_2, atI_3, atI_4, eqv, eqvs, shp, shps, setK, setX, setO, setOb, isVar, unset, cellOf, frz, valOf, forL, forK, isiD, isiO, items, itemsS, seqs, lenD, fldD, isIns, isNon, isB, inT, mutOk, mutK, muD, ckS, ckC, okP, isDct, dctOf, Pd.getD, augK, setFK, fput, okP, dmD, low, lows, f20, b20, i1, i2, hl]
  · simp [runF, ss, es, ts, gs, execs, ev_var, ev_kon, ev_glb, ev_bin, ev_neg, ev_cmp, ev_chn, ev_and, ev_or, ev_not, ev_ife, ev_call, ev_callk, ev_mth, ev_mk, ev_mkk, ev_b1, ev_b2, ev_isi, ev_ix, ev_sl, ev_lst, ev_tup, ev_newL, ev_newD, ev_lobj, ev_dsp, ev_dm, ev_join, ev_fld, exec_asg, exec_setI, exec_setF, exec_aug, exec_mut, exec_ifs, exec_ret, exec_retn, exec_brk, exec_cont, exec_exp, exec_rai, exec_fg, exec_pas, evT, evs, evTAnd, evTOr, evAnd, evOr, evP, evSrc, bo, bnd, frzAll, esT, esTs, esO, esc, escs, esS, escS, opd, opn, look, peek, ofO, cmpD, truthD, thenK, sweep, outR, outF, fresh, asgK, asgT, asgTs, put, binD, b1D, b2D, ixD, ixN, atI_0, atI_1, atI_2, atI_3, atI_4, eqv, eqvs, shp, shps, setK, setX, setO, setOb, isVar, unset, cellOf, frz, valOf, forL, forK, isiD, isiO, items, itemsS, seqs, lenD, fldD, isIns, isNon, isB, inT, mutOk, mutK, muD, ckS, ckC, okP, isDct, dctOf, Pd.getD, augK, setFK, fput, okP, dmD, low, lows, f20, b20, i1, i2, hl, e1]
  · simp [runF, ss, es, ts, gs, execs, ev_var, ev_kon, ev_glb, ev_bin, ev_neg, ev_cmp, ev_chn, ev_and, ev_or, ev_not, ev_ife, ev_call, ev_callk, ev_mth, ev_mk, ev_mkk, ev_b1, ev_b2, ev_isi, ev_ix, ev_sl, ev_lst, ev_tup, ev_newL, ev_newD, ev_lobj, ev_dsp, ev_dm, ev_join, ev_fld, exec_asg, exec_setI, exec_setF, exec_aug, exec_mut, exec_ifs, exec_ret, exec_retn, exec_brk, exec_cont, exec_exp, exec_rai, exec_fg, exec_pas, evT, evs, evTAnd, evTOr, evAnd, evOr, evP, evSrc, bo, bnd, frzAll, esT, esTs, esO, esc, escs, esS, escS, opd, opn, look, peek, ofO, cmpD, truthD, thenK, sweep, outR, outF, fresh, asgK, asgT, asgTs, put, binD, b1D, b2D, ixD, ixN, atI_0, atI_1, atI_2, atI_3, atI_4, eqv, eqvs, shp, shps, setK, setX, setO, setOb, isVar, unset, cellOf, frz, valOf, forL, forK, isiD, isiO, items, itemsS, seqs, lenD, fldD, isIns, isNon, isB, inT, mutOk, mutK, muD, ckS, ckC, okP, isDct, dctOf, Pd.getD, augK, setFK, fput, okP, dmD, low, lows, f20, b20, i1, i2, hl, e0]
  · simp [runF, ss, es, ts, gs, execs, ev_var, ev_kon, ev_glb, ev_bin, ev_neg, ev_cmp, ev_chn, ev_and, ev_or, ev_not, ev_ife, ev_call, ev_callk, ev_mth, ev_mk, ev_mkk, ev_b1, ev_b2, ev_isi, ev_ix, ev_sl, ev_lst, ev_tup, ev_newL, ev_newD, ev_lobj, ev_dsp, ev_dm, ev_join, ev_fld, exec_asg, exec_setI, exec_setF, exec_aug, exec_mut, exec_ifs, exec_ret, exec_retn, exec_brk, exec_cont, exec_exp, exec_rai, exec_fg, exec_pas, evT, evs, evTAnd, evTOr, evAnd, evOr, evP, evSrc, bo, bnd, frzAll, esT, esTs, esO, esc, escs, esS, escS, opd, opn, look, peek, ofO, cmpD, truthD, thenK, sweep, outR, outF, fresh, asgK, asgT, asgTs, put, binD, b1D, b2D, ixD, ixN, atI_0, atI_1, atI_2, atI_3, atI_4, eqv, eqvs, shp, shps, setK, setX, setO, setOb, isVar, unset, cellOf, frz, valOf, forL, forK, isiD, isiO, items, itemsS, seqs, lenD, fldD, isIns, isNon, isB, inT, mutOk, mutK, muD, ckS, ckC, okP, isDct, dctOf, Pd.getD, augK, setFK, fput, okP, dmD, low, lows, f20, b20, i1, i2, hl, e0]
  · simp [runF, ss, es, ts, gs, execs, ev_var, ev_kon, ev_glb, ev_bin, ev_neg, ev_cmp, ev_chn, ev_and, ev_or, ev_not, ev_ife, ev_call, ev_callk, ev_mth, ev_mk, ev_mkk, ev_b1, ev_b2, ev_isi, ev_ix, ev_sl, ev_lst, ev_tup, ev_newL, ev_newD, ev_lobj, ev_dsp, ev_dm, ev_join, ev_fld, exec_asg, exec_setI, exec_setF, exec_aug, exec_mut, exec_ifs, exec_ret, exec_retn, exec_brk, exec_cont, exec_exp, exec_rai, exec_fg, exec_pas, evT, evs, evTAnd, evTOr, evAnd, evOr, evP, evSrc, bo, bnd, frzAll, esT, esTs, esO, esc, escs, esS, escS, opd, opn, look, peek, ofO, cmpD, truthD, thenK, sweep, outR, outF, fresh, asgK, asgT, asgTs, put, binD, b1D, b2D, ixD, ixN, atI_0, atI_1, atI_2, atI_3, atI_4, eqv, eqvs, shp, shps, setK, setX, setO, setOb, isVar, unset, cellOf, frz, valOf, forL, forK, isiD, isiO, items, itemsS, seqs, lenD, fldD, isIns, isNon, isB, inT, mutOk, mutK, muD, ckS, ckC, okP, isDct, dctOf, Pd.getD, augK, setFK, fput, okP, dmD, low, lows, f20, b20, i1, i2, hl, e0, e1]
/-- the game object; its dict -/
abbrev gObj (ws : List (List Nat)) (B : List Int) (k : Nat) : Ob := .ins 0 [(0, .tup (ws.map .str)), (1, .tup (B.map .int)), (2, .obj k)]
theorem c_init (n : Nat) {ws : List (List Nat)} {pl : Nat} {B : List Int} {x y : D} {t : T} (hw : Wd ws pl) (h0 : 1 ≤ ws.length) (h : Hd (ws.map .str) x t) (hB : ∀ b ∈ B, 0 ≤ b) (hl : B.length = ws.length) (h' : Hd (B.map .int) y t) : mkC prg (fun j as t => call prg (n + 5) j as t) 0 [x, y] t = .ok (.obj t.length) (t ++ [gObj ws B (t.length + 1), .dct true []]) := by
  have hf := Fr.app (fun _ => False) t [.ins 0 []]
  have h1 := h.fr hf fun _ _ z => z
  have h2 := h'.fr hf fun _ _ z => z
  have hf2 := Fr.app (fun _ => False) t [.ins 0 [(0, .tup (ws.map .str))]]
  have h3 := h'.fr hf2 fun _ _ z => z
  have i1 := c_check n hw h0 h1 hB hl h2
  have gl : ∀ fs, (t ++ [Ob.ins 0 fs])[t.length]? = some (.ins 0 fs) := fun fs => by simp
  have sl : ∀ fs gs, (t ++ [Ob.ins 0 fs]).set t.length (.ins 0 gs) = t ++ [Ob.ins 0 gs] := fun fs gs => by
    rw [List.set_append_right _ _ (Nat.le_refl _)]; simp
  have g2 : ∀ fs, (t ++ [Ob.ins 0 fs, .dct true []])[t.length]? = some (.ins 0 fs) := fun fs => by simp
  have s2 : ∀ fs gs, (t ++ [Ob.ins 0 fs, .dct true []]).set t.length (.ins 0 gs) = t ++ [Ob.ins 0 gs, .dct true []] := fun fs gs => by
    rw [List.set_append_right _ _ (Nat.le_refl _)]; simp
  have hk : call prg (n + 5) 14 [.obj t.length, x, y] (t ++ [.ins 0 []]) = .ok .non (t ++ [gObj ws B (t.length + 1), .dct true []]) := by
    rw [cS 14 f14 rfl]
    have e0 : runF (cls' (n + 4)) f14 [.obj t.length, x, y] (t ++ [.ins 0 []]) = match execs (cls' (n + 4)) b14 [.val (.obj t.length), .val x, .val y] (t ++ [.ins 0 []]) with
      | .nx _ t' => .ok .non t'
      | .ret d t' => .ok d t'
      | .ex c as t' => .ex c as t'
      | _ => .no := rfl
    rw [e0]
    have hb : b14 = .cons (hd b14) (.cons (hd (tl b14)) (.cons (hd (tl (tl b14))) (.cons (hd (tl (tl (tl b14)))) .nil))) := rfl
    have ρ0 := [Cell.val (.obj t.length), .val x, .val y]
    have s1 : exec (cls' (n + 4)) (hd b14) [.val (.obj t.length), .val x, .val y] (t ++ [.ins 0 []]) = .nx [.val (.obj t.length), .val x, .val y] (t ++ [.ins 0 []]) := by
      have f0 : ∀ c d : Cell, frzAll [Cell.val (.obj t.length), .val x, .val y] [1, 2] = [.val (.obj t.length), .val x, .val y] := fun _ _ => rfl
      simp [hd, b14, ss, es, exec_exp, ev_call, evs, ev_var, look, valOf, bnd, ofO, esc, escs, put, frz, frzAll, i1, bo]
    have s2' : exec (cls' (n + 4)) (hd (tl b14)) [.val (.obj t.length), .val x, .val y] (t ++ [.ins 0 []]) = .nx [.val (.obj t.length), .val x, .val y] (t ++ [.ins 0 [(0, .tup (ws.map .str))]]) := by
      rcases h1 with rfl | rfl | ⟨k, rfl, e⟩
      · simp [runF, ss, es, ts, gs, execs, ev_var, ev_kon, ev_glb, ev_bin, ev_neg, ev_cmp, ev_chn, ev_and, ev_or, ev_not, ev_ife, ev_call, ev_callk, ev_mth, ev_mk, ev_mkk, ev_b1, ev_b2, ev_isi, ev_ix, ev_sl, ev_lst, ev_tup, ev_newL, ev_newD, ev_lobj, ev_dsp, ev_dm, ev_join, ev_fld, exec_asg, exec_setI, exec_setF, exec_aug, exec_mut, exec_ifs, exec_ret, exec_retn, exec_brk, exec_cont, exec_exp, exec_rai, exec_fg, exec_pas, evT, evs, evTAnd, evTOr, evAnd, evOr, evP, evSrc, bo, bnd, frzAll, esT, esTs, esO, esc, escs, esS, escS, opd, opn, look, peek, ofO, cmpD, truthD, thenK, sweep, outR, outF, fresh, asgK, asgT, asgTs, put, binD, b1D, b2D, ixD, ixN, atI_0, atI_1, atI_2, atI_3, atI_4, eqv, eqvs, shp, shps, setK, setX, setO, setOb, isVar, unset, cellOf, frz, valOf, forL, forK, isiD, isiO, items, itemsS, seqs, lenD, fldD, isIns, isNon, isB, inT, mutOk, mutK, muD, ckS, ckC, okP, isDct, dctOf, Pd.getD, augK, setFK, fput, okP, dmD, low, lows, hd, tl, b14, gl, sl]
      · simp [runF, ss, es, ts, gs, execs, ev_var, ev_kon, ev_glb, ev_bin, ev_neg, ev_cmp, ev_chn, ev_and, ev_or, ev_not, ev_ife, ev_call, ev_callk, ev_mth, ev_mk, ev_mkk, ev_b1, ev_b2, ev_isi, ev_ix, ev_sl, ev_lst, ev_tup, ev_newL, ev_newD, ev_lobj, ev_dsp, ev_dm, ev_join, ev_fld, exec_asg, exec_setI, exec_setF, exec_aug, exec_mut, exec_ifs, exec_ret, exec_retn, exec_brk, exec_cont, exec_exp, exec_rai, exec_fg, exec_pas, evT, evs, evTAnd, evTOr, evAnd, evOr, evP, evSrc, bo, bnd, frzAll, esT, esTs, esO, esc, escs, esS, escS, opd, opn, look, peek, ofO, cmpD, truthD, thenK, sweep, outR, outF, fresh, asgK, asgT, asgTs, put, binD, b1D, b2D, ixD, ixN, atI_0, atI_1, atI_2, atI_3, atI_4, eqv, eqvs, shp, shps, setK, setX, setO, setOb, isVar, unset, cellOf, frz, valOf, forL, forK, isiD, isiO, items, itemsS, seqs, lenD, fldD, isIns, isNon, isB, inT, mutOk, mutK, muD, ckS, ckC, okP, isDct, dctOf, Pd.getD, augK, setFK, fput, okP, dmD, low, lows, hd, tl, b14, gl, sl]
      · simp only [runF, ss, es, ts, gs, execs, ev_var, ev_kon, ev_glb, ev_bin, ev_neg, ev_cmp, ev_chn, ev_and, ev_or, ev_not, ev_ife, ev_call, ev_callk, ev_mth, ev_mk, ev_mkk, ev_b1, ev_b2, ev_isi, ev_ix, ev_sl, ev_lst, ev_tup, ev_newL, ev_newD, ev_lobj, ev_dsp, ev_dm, ev_join, ev_fld, exec_asg, exec_setI, exec_setF, exec_aug, exec_mut, exec_ifs, exec_ret, exec_retn, exec_brk, exec_cont, exec_exp, exec_rai, exec_fg, exec_pas, evT, evs, evTAnd, evTOr, evAnd, evOr, evP, evSrc, bo, bnd, frzAll, esT, esTs, esO, esc, escs, esS, escS, opd, opn, look, peek, ofO, cmpD, truthD, thenK, sweep, outR, outF, fresh, asgK, asgT, asgTs, put, binD, b1D, b2D, ixD, ixN, atI_0, atI_1, atI_2, atI_3, atI_4, eqv, eqvs, shp, shps, setK, setX, setO, setOb, isVar, unset, cellOf, frz, valOf, forL, forK, isiD, isiO, items, itemsS, seqs, lenD, fldD, isIns, isNon, isB, inT, mutOk, mutK, muD, ckS, ckC, okP, isDct, dctOf, Pd.getD, augK, setFK, fput, okP, dmD, low, lows, hd, tl, b14, gl, sl, e]
        simp [gl, sl, fput]
    have s3' : exec (cls' (n + 4)) (hd (tl (tl b14))) [.val (.obj t.length), .val x, .val y] (t ++ [.ins 0 [(0, .tup (ws.map .str))]]) = .nx [.val (.obj t.length), .val x, .val y] (t ++ [.ins 0 [(0, .tup (ws.map .str)), (1, .tup (B.map .int))]]) := by
      rcases h3 with rfl | rfl | ⟨k, rfl, e⟩
      · simp [runF, ss, es, ts, gs, execs, ev_var, ev_kon, ev_glb, ev_bin, ev_neg, ev_cmp, ev_chn, ev_and, ev_or, ev_not, ev_ife, ev_call, ev_callk, ev_mth, ev_mk, ev_mkk, ev_b1, ev_b2, ev_isi, ev_ix, ev_sl, ev_lst, ev_tup, ev_newL, ev_newD, ev_lobj, ev_dsp, ev_dm, ev_join, ev_fld, exec_asg, exec_setI, exec_setF, exec_aug, exec_mut, exec_ifs, exec_ret, exec_retn, exec_brk, exec_cont, exec_exp, exec_rai, exec_fg, exec_pas, evT, evs, evTAnd, evTOr, evAnd, evOr, evP, evSrc, bo, bnd, frzAll, esT, esTs, esO, esc, escs, esS, escS, opd, opn, look, peek, ofO, cmpD, truthD, thenK, sweep, outR, outF, fresh, asgK, asgT, asgTs, put, binD, b1D, b2D, ixD, ixN, atI_0, atI_1, atI_2, atI_3, atI_4, eqv, eqvs, shp, shps, setK, setX, setO, setOb, isVar, unset, cellOf, frz, valOf, forL, forK, isiD, isiO, items, itemsS, seqs, lenD, fldD, isIns, isNon, isB, inT, mutOk, mutK, muD, ckS, ckC, okP, isDct, dctOf, Pd.getD, augK, setFK, fput, okP, dmD, low, lows, hd, tl, b14, gl, sl]
      · simp [runF, ss, es, ts, gs, execs, ev_var, ev_kon, ev_glb, ev_bin, ev_neg, ev_cmp, ev_chn, ev_and, ev_or, ev_not, ev_ife, ev_call, ev_callk, ev_mth, ev_mk, ev_mkk, ev_b1, ev_b2, ev_isi, ev_ix, ev_sl, ev_lst, ev_tup, ev_newL, ev_newD, ev_lobj, ev_dsp, ev_dm, ev_join, ev_fld, exec_asg, exec_setI, exec_setF, exec_aug, exec_mut, exec_ifs, exec_ret, exec_retn, exec_brk, exec_cont, exec_exp, exec_rai, exec_fg, exec_pas, evT, evs, evTAnd, evTOr, evAnd, evOr, evP, evSrc, bo, bnd, frzAll, esT, esTs, esO, esc, escs, esS, escS, opd, opn, look, peek, ofO, cmpD, truthD, thenK, sweep, outR, outF, fresh, asgK, asgT, asgTs, put, binD, b1D, b2D, ixD, ixN, atI_0, atI_1, atI_2, atI_3, atI_4, eqv, eqvs, shp, shps, setK, setX, setO, setOb, isVar, unset, cellOf, frz, valOf, forL, forK, isiD, isiO, items, itemsS, seqs, lenD, fldD, isIns, isNon, isB, inT, mutOk, mutK, muD, ckS, ckC, okP, isDct, dctOf, Pd.getD, augK, setFK, fput, okP, dmD, low, lows, hd, tl, b14, gl, sl]
      · simp only [runF, ss, es, ts, gs, execs, ev_var, ev_kon, ev_glb, ev_bin, ev_neg, ev_cmp, ev_chn, ev_and, ev_or, ev_not, ev_ife, ev_call, ev_callk, ev_mth, ev_mk, ev_mkk, ev_b1, ev_b2, ev_isi, ev_ix, ev_sl, ev_lst, ev_tup, ev_newL, ev_newD, ev_lobj, ev_dsp, ev_dm, ev_join, ev_fld, exec_asg, exec_setI, exec_setF, exec_aug, exec_mut, exec_ifs, exec_ret, exec_retn, exec_brk, exec_cont, exec_exp, exec_rai, exec_fg, exec_pas, evT, evs, evTAnd, evTOr, evAnd, evOr, evP, evSrc, bo, bnd, frzAll, esT, esTs, esO, esc, escs, esS, escS, opd, opn, look, peek, ofO, cmpD, truthD, thenK, sweep, outR, outF, fresh, asgK, asgT, asgTs, put, binD, b1D, b2D, ixD, ixN, atI_0, atI_1, atI_2, atI_3, atI_4, eqv, eqvs, shp, shps, setK, setX, setO, setOb, isVar, unset, cellOf, frz, valOf, forL, forK, isiD, isiO, items, itemsS, seqs, lenD, fldD, isIns, isNon, isB, inT, mutOk, mutK, muD, ckS, ckC, okP, isDct, dctOf, Pd.getD, augK, setFK, fput, okP, dmD, low, lows, hd, tl, b14, gl, sl, e]
        simp [gl, sl, fput]
    have s4' : exec (cls' (n + 4)) (hd (tl (tl (tl b14)))) [.val (.obj t.length), .val x, .val y] (t ++ [.ins 0 [(0, .tup (ws.map .str)), (1, .tup (B.map .int))]]) = .nx [.val (.obj t.length), .val x, .val y] (t ++ [gObj ws B (t.length + 1), .dct true []]) := by
      simp [runF, ss, es, ts, gs, execs, ev_var, ev_kon, ev_glb, ev_bin, ev_neg, ev_cmp, ev_chn, ev_and, ev_or, ev_not, ev_ife, ev_call, ev_callk, ev_mth, ev_mk, ev_mkk, ev_b1, ev_b2, ev_isi, ev_ix, ev_sl, ev_lst, ev_tup, ev_newL, ev_newD, ev_lobj, ev_dsp, ev_dm, ev_join, ev_fld, exec_asg, exec_setI, exec_setF, exec_aug, exec_mut, exec_ifs, exec_ret, exec_retn, exec_brk, exec_cont, exec_exp, exec_rai, exec_fg, exec_pas, evT, evs, evTAnd, evTOr, evAnd, evOr, evP, evSrc, bo, bnd, frzAll, esT, esTs, esO, esc, escs, esS, escS, opd, opn, look, peek, ofO, cmpD, truthD, thenK, sweep, outR, outF, fresh, asgK, asgT, asgTs, put, binD, b1D, b2D, ixD, ixN, atI_0, atI_1, atI_2, atI_3, atI_4, eqv, eqvs, shp, shps, setK, setX, setO, setOb, isVar, unset, cellOf, frz, valOf, forL, forK, isiD, isiO, items, itemsS, seqs, lenD, fldD, isIns, isNon, isB, inT, mutOk, mutK, muD, ckS, ckC, okP, isDct, dctOf, Pd.getD, augK, setFK, fput, okP, dmD, low, lows, hd, tl, b14, g2, s2]
    rw [hb, execs_step s1, execs_step s2', execs_step s3', execs_step s4']; rfl
  unfold mkC
  have : prg.cls[0]? = some ⟨"PointGame", 14⟩ := rfl
  rw [this]
  simp only [hk, bnd_ok]
end K85
set_option maxRecDepth 100000
set_option linter.all false
set_option autoImplicit false
/-! the game's methods -/
namespace K85
open Pd Pt
abbrev TN (l : List Nat) : D := .tup (LN l)
def thenOf : S → Ss
  | .ifs _ a _ => a
  | _ => .nil
theorem filter_notin (ws : List (List Nat)) (p : Nat) (l : List Nat) : l.filter (fun q => !decide (q ∈ lo ws p l)) = up ws p l := by
  apply List.filter_congr
  intro q hq
  have : q ∈ lo ws p l ↔ (!bit ws p q) = true := by
    unfold lo; rw [List.mem_filter]; exact ⟨fun h => h.2, fun h => ⟨hq, h⟩⟩
  cases hb : bit ws p q <;> simp [this, hb]
theorem c_parts (n : Nat) {g k pl : Nat} {ws : List (List Nat)} {B : List Int} {t : T} (hg : t[g]? = some (gObj ws B k)) (hw : Wd ws pl) (l : List Nat) (hl : Lot ws.length l) (p : Nat) (hp : p < pl) : call prg (n + 1) 32 [.obj g, TN l, .int p] t = .ok (.tup [TN (lo ws p l), TN (up ws p l)]) t := by
  rw [cS 32 f32 rfl]
  have e : ev (cls' n) (.comp (.seq (.var 1)) (.nm 4) [4] (.val (.cmp .eq (.ix (.ix (.fld (.var 0) 0) (.var 4)) (.var 2)) (.kon (.str [48])))) (.var 4)) [.val (.obj g), .val (TN l), .val (.int p), .un, .un] t = .ok (.lst (LN (lo ws p l))) t := by
    refine comp_filter l (fun q => !bit ws p q) DN (by simp [runF, ss, es, ts, gs, execs, ev_var, ev_kon, ev_glb, ev_bin, ev_neg, ev_cmp, ev_chn, ev_and, ev_or, ev_not, ev_ife, ev_call, ev_callk, ev_mth, ev_mk, ev_mkk, ev_b1, ev_b2, ev_isi, ev_ix, ev_sl, ev_lst, ev_tup, ev_newL, ev_newD, ev_lobj, ev_dsp, ev_dm, ev_join, ev_fld, exec_asg, exec_setI, exec_setF, exec_aug, exec_mut, exec_ifs, exec_ret, exec_retn, exec_brk, exec_cont, exec_exp, exec_rai, exec_fg, exec_pas, evT, evs, evTAnd, evTOr, evAnd, evOr, evP, evSrc, bo, bnd, frzAll, esT, esTs, esO, esc, escs, esS, escS, opd, opn, look, peek, ofO, cmpD, truthD, thenK, sweep, outR, outF, fresh, asgK, asgT, asgTs, put, binD, b1D, b2D, ixD, ixN, atI_0, atI_1, atI_2, atI_3, atI_4, eqv, eqvs, shp, shps, setK, setX, setO, setOb, isVar, unset, cellOf, frz, valOf, forL, forK, isiD, isiO, items, itemsS, seqs, lenD, fldD, isIns, isNon, isB, inT, mutOk, mutK, muD, ckS, ckC, okP, isDct, dctOf, Pd.getD, augK, setFK, fput, okP, dmD, low, lows]) fun q hq => ?_
    have hq' := hl.lt q hq
    have a1 := atI_W ws q hq'
    have a2 := atI_w (wAt ws q) p (by rw [hw.len _ (wAt_mem hq')]; exact hp)
    have a3 := cAt_or hw hq' hp
    unfold bit
    generalize cAt (wAt ws q) p = c at a2 a3
    rcases a3 with rfl | rfl <;> simp [turnC, runF, ss, es, ts, gs, execs, ev_var, ev_kon, ev_glb, ev_bin, ev_neg, ev_cmp, ev_chn, ev_and, ev_or, ev_not, ev_ife, ev_call, ev_callk, ev_mth, ev_mk, ev_mkk, ev_b1, ev_b2, ev_isi, ev_ix, ev_sl, ev_lst, ev_tup, ev_newL, ev_newD, ev_lobj, ev_dsp, ev_dm, ev_join, ev_fld, exec_asg, exec_setI, exec_setF, exec_aug, exec_mut, exec_ifs, exec_ret, exec_retn, exec_brk, exec_cont, exec_exp, exec_rai, exec_fg, exec_pas, evT, evs, evTAnd, evTOr, evAnd, evOr, evP, evSrc, bo, bnd, frzAll, esT, esTs, esO, esc, escs, esS, escS, opd, opn, look, peek, ofO, cmpD, truthD, thenK, sweep, outR, outF, fresh, asgK, asgT, asgTs, put, binD, b1D, b2D, ixD, ixN, atI_0, atI_1, atI_2, atI_3, atI_4, eqv, eqvs, shp, shps, setK, setX, setO, setOb, isVar, unset, cellOf, frz, valOf, forL, forK, isiD, isiO, items, itemsS, seqs, lenD, fldD, isIns, isNon, isB, inT, mutOk, mutK, muD, ckS, ckC, okP, isDct, dctOf, Pd.getD, augK, setFK, fput, okP, dmD, low, lows, hg, a1, a2, DN]
  have e2 : ev (cls' n) (.comp (.seq (.var 1)) (.nm 4) [4] (.val (.cmp .notin (.var 4) (.var 3))) (.var 4)) [.val (.obj g), .val (TN l), .val (.int p), .val (TN (lo ws p l)), .un] t = .ok (.lst (LN (up ws p l))) t := by
    rw [← filter_notin]
    refine comp_filter l (fun q => !decide (q ∈ lo ws p l)) DN (by simp [runF, ss, es, ts, gs, execs, ev_var, ev_kon, ev_glb, ev_bin, ev_neg, ev_cmp, ev_chn, ev_and, ev_or, ev_not, ev_ife, ev_call, ev_callk, ev_mth, ev_mk, ev_mkk, ev_b1, ev_b2, ev_isi, ev_ix, ev_sl, ev_lst, ev_tup, ev_newL, ev_newD, ev_lobj, ev_dsp, ev_dm, ev_join, ev_fld, exec_asg, exec_setI, exec_setF, exec_aug, exec_mut, exec_ifs, exec_ret, exec_retn, exec_brk, exec_cont, exec_exp, exec_rai, exec_fg, exec_pas, evT, evs, evTAnd, evTOr, evAnd, evOr, evP, evSrc, bo, bnd, frzAll, esT, esTs, esO, esc, escs, esS, escS, opd, opn, look, peek, ofO, cmpD, truthD, thenK, sweep, outR, outF, fresh, asgK, asgT, asgTs, put, binD, b1D, b2D, ixD, ixN, atI_0, atI_1, atI_2, atI_3, atI_4, eqv, eqvs, shp, shps, setK, setX, setO, setOb, isVar, unset, cellOf, frz, valOf, forL, forK, isiD, isiO, items, itemsS, seqs, lenD, fldD, isIns, isNon, isB, inT, mutOk, mutK, muD, ckS, ckC, okP, isDct, dctOf, Pd.getD, augK, setFK, fput, okP, dmD, low, lows]) fun q hq => ?_
    have h1 := inD_TN (lo ws p l) q
    by_cases h2 : q ∈ lo ws p l <;> simp [turnC, runF, ss, es, ts, gs, execs, ev_var, ev_kon, ev_glb, ev_bin, ev_neg, ev_cmp, ev_chn, ev_and, ev_or, ev_not, ev_ife, ev_call, ev_callk, ev_mth, ev_mk, ev_mkk, ev_b1, ev_b2, ev_isi, ev_ix, ev_sl, ev_lst, ev_tup, ev_newL, ev_newD, ev_lobj, ev_dsp, ev_dm, ev_join, ev_fld, exec_asg, exec_setI, exec_setF, exec_aug, exec_mut, exec_ifs, exec_ret, exec_retn, exec_brk, exec_cont, exec_exp, exec_rai, exec_fg, exec_pas, evT, evs, evTAnd, evTOr, evAnd, evOr, evP, evSrc, bo, bnd, frzAll, esT, esTs, esO, esc, escs, esS, escS, opd, opn, look, peek, ofO, cmpD, truthD, thenK, sweep, outR, outF, fresh, asgK, asgT, asgTs, put, binD, b1D, b2D, ixD, ixN, atI_0, atI_1, atI_2, atI_3, atI_4, eqv, eqvs, shp, shps, setK, setX, setO, setOb, isVar, unset, cellOf, frz, valOf, forL, forK, isiD, isiO, items, itemsS, seqs, lenD, fldD, isIns, isNon, isB, inT, mutOk, mutK, muD, ckS, ckC, okP, isDct, dctOf, Pd.getD, augK, setFK, fput, okP, dmD, low, lows, h1, h2, DN]
  simp [runF, ss, es, ts, gs, execs, ev_var, ev_kon, ev_glb, ev_bin, ev_neg, ev_cmp, ev_chn, ev_and, ev_or, ev_not, ev_ife, ev_call, ev_callk, ev_mth, ev_mk, ev_mkk, ev_b1, ev_b2, ev_isi, ev_ix, ev_sl, ev_lst, ev_tup, ev_newL, ev_newD, ev_lobj, ev_dsp, ev_dm, ev_join, ev_fld, exec_asg, exec_setI, exec_setF, exec_aug, exec_mut, exec_ifs, exec_ret, exec_retn, exec_brk, exec_cont, exec_exp, exec_rai, exec_fg, exec_pas, evT, evs, evTAnd, evTOr, evAnd, evOr, evP, evSrc, bo, bnd, frzAll, esT, esTs, esO, esc, escs, esS, escS, opd, opn, look, peek, ofO, cmpD, truthD, thenK, sweep, outR, outF, fresh, asgK, asgT, asgTs, put, binD, b1D, b2D, ixD, ixN, atI_0, atI_1, atI_2, atI_3, atI_4, eqv, eqvs, shp, shps, setK, setX, setO, setOb, isVar, unset, cellOf, frz, valOf, forL, forK, isiD, isiO, items, itemsS, seqs, lenD, fldD, isIns, isNon, isB, inT, mutOk, mutK, muD, ckS, ckC, okP, isDct, dctOf, Pd.getD, augK, setFK, fput, okP, dmD, low, lows, f32, b32, e, e2]
/-- the points that part the lot -/
def fnd (ws : List (List Nat)) (n : Nat) (l : List Nat) : List Nat := (List.range n).filter fun p => decide (Parts ws p l)
def encP (ws : List (List Nat)) (l : List Nat) (p : Nat) : D := .tup [.int p, TN (lo ws p l), TN (up ws p l)]
theorem fnd_succ (ws : List (List Nat)) (n : Nat) (l : List Nat) : fnd ws (n + 1) l = fnd ws n l ++ if Parts ws n l then [n] else [] := by
  unfold fnd
  rw [List.range_succ, List.filter_append]
  congr 1
  by_cases h : Parts ws n l <;> simp [h]
theorem fnd_mem {ws : List (List Nat)} {n p : Nat} {l : List Nat} : p ∈ fnd ws n l ↔ p < n ∧ Parts ws p l := by
  unfold fnd; rw [List.mem_filter, List.mem_range]; simp
theorem fnd_len (ws : List (List Nat)) (n : Nat) (l : List Nat) : (fnd ws n l).length ≤ n := by
  have := List.length_filter_le (fun p => decide (Parts ws p l)) (List.range n)
  rw [List.length_range] at this
  exact this
def pLoop : S := hd (tl b28)
theorem pLoop_eq : pLoop = .for (.nm 3) (.rng (.b1 .len (.ix (.fld (.var 0) 0) (.kon (.int 0))))) (bodyOf pLoop) [3, 4, 5] := rfl
theorem c_parted (n : Nat) {g k pl : Nat} {ws : List (List Nat)} {B : List Int} {t : T} (hg : t[g]? = some (gObj ws B k)) (hw : Wd ws pl) (hpl : pl ≤ 1000) (h0 : 1 ≤ ws.length) (l : List Nat) (hl : Lot ws.length l) : call prg (n + 2) 28 [.obj g, TN l] t = .ok (.lst ((fnd ws pl l).map (encP ws l))) t := by
  rw [cS 28 f28 rfl]
  have hr := range0_LN pl
  have h1 : (pl : Int) ≤ 1000000 := by omega
  have h2 : (-1000000 : Int) ≤ pl := by omega
  obtain ⟨ρ', t', e2, rfl, rfl⟩ := forL_inv (ck := fun _ => true) (f := forK (.nm 3) fun ρ t => execs (cls' (n + 1)) (bodyOf pLoop) ρ t) (fg := [3, 4, 5])
    (fun i ρ t' => ρ = [.val (.obj g), .val (TN l), .own ((fnd ws i l).map (encP ws l)), .un, .un, .un] ∧ t' = t) (fun _ _ _ _ => rfl)
    (LN (List.range pl)) 0 [.val (.obj g), .val (TN l), .own [], .un, .un, .un] t ⟨rfl, rfl⟩ (fun i x ρ t' hx hI => by
      obtain ⟨rfl, rfl⟩ := hI
      rw [Nat.zero_add] at *
      obtain ⟨hi, rfl⟩ := idx_range hx
      have i1 := c_parts n hg hw l hl i hi
      have hz : ((fnd ws i l).map (encP ws l)).length < sz := by
        rw [List.length_map]
        have := fnd_len ws i l
        unfold sz; omega
      rw [fnd_succ]
      generalize fnd ws i l = F at hz
      by_cases hp : Parts ws i l
      · refine ⟨_, _, .inl (?_ : _ = Out.nx [.val (.obj g), .val (TN l), .own ((F ++ [i]).map (encP ws l)), .val (.int i), .val (TN (lo ws i l)), .val (TN (up ws i l))] t'), ?_, rfl⟩
        · have h3 := List.length_pos_iff.mpr hp.1
          have h4 := List.length_pos_iff.mpr hp.2
          generalize hlo : lo ws i l = a at i1 h3
          generalize hup : up ws i l = b at i1 h4
          rw [List.length_map] at hz
          simp [runF, ss, es, ts, gs, execs, ev_var, ev_kon, ev_glb, ev_bin, ev_neg, ev_cmp, ev_chn, ev_and, ev_or, ev_not, ev_ife, ev_call, ev_callk, ev_mth, ev_mk, ev_mkk, ev_b1, ev_b2, ev_isi, ev_ix, ev_sl, ev_lst, ev_tup, ev_newL, ev_newD, ev_lobj, ev_dsp, ev_dm, ev_join, ev_fld, exec_asg, exec_setI, exec_setF, exec_aug, exec_mut, exec_ifs, exec_ret, exec_retn, exec_brk, exec_cont, exec_exp, exec_rai, exec_fg, exec_pas, evT, evs, evTAnd, evTOr, evAnd, evOr, evP, evSrc, bo, bnd, frzAll, esT, esTs, esO, esc, escs, esS, escS, opd, opn, look, peek, ofO, cmpD, truthD, thenK, sweep, outR, outF, fresh, asgK, asgT, asgTs, put, binD, b1D, b2D, ixD, ixN, atI_0, atI_1, atI_2, atI_3, atI_4, eqv, eqvs, shp, shps, setK, setX, setO, setOb, isVar, unset, cellOf, frz, valOf, forL, forK, isiD, isiO, items, itemsS, seqs, lenD, fldD, isIns, isNon, isB, inT, mutOk, mutK, muD, ckS, ckC, okP, isDct, dctOf, Pd.getD, augK, setFK, fput, okP, dmD, low, lows, pLoop, bodyOf, hd, tl, b28, hg, i1, DN, h3, h4, hz, encP, hlo, hup]
        · rw [if_pos hp]; rfl
      · have h3 : ¬ (0 < (lo ws i l).length ∧ 0 < (up ws i l).length) := fun z => hp ⟨List.length_pos_iff.mp z.1, List.length_pos_iff.mp z.2⟩
        refine ⟨_, _, .inl (?_ : _ = Out.nx [.val (.obj g), .val (TN l), .own (F.map (encP ws l)), .val (.int i), .val (TN (lo ws i l)), .val (TN (up ws i l))] t'), ?_, rfl⟩
        · generalize lo ws i l = a at i1 h3
          generalize up ws i l = b at i1 h3
          by_cases h4 : 0 < a.length
          · have h5 : b.length = 0 := by omega
            simp [runF, ss, es, ts, gs, execs, ev_var, ev_kon, ev_glb, ev_bin, ev_neg, ev_cmp, ev_chn, ev_and, ev_or, ev_not, ev_ife, ev_call, ev_callk, ev_mth, ev_mk, ev_mkk, ev_b1, ev_b2, ev_isi, ev_ix, ev_sl, ev_lst, ev_tup, ev_newL, ev_newD, ev_lobj, ev_dsp, ev_dm, ev_join, ev_fld, exec_asg, exec_setI, exec_setF, exec_aug, exec_mut, exec_ifs, exec_ret, exec_retn, exec_brk, exec_cont, exec_exp, exec_rai, exec_fg, exec_pas, evT, evs, evTAnd, evTOr, evAnd, evOr, evP, evSrc, bo, bnd, frzAll, esT, esTs, esO, esc, escs, esS, escS, opd, opn, look, peek, ofO, cmpD, truthD, thenK, sweep, outR, outF, fresh, asgK, asgT, asgTs, put, binD, b1D, b2D, ixD, ixN, atI_0, atI_1, atI_2, atI_3, atI_4, eqv, eqvs, shp, shps, setK, setX, setO, setOb, isVar, unset, cellOf, frz, valOf, forL, forK, isiD, isiO, items, itemsS, seqs, lenD, fldD, isIns, isNon, isB, inT, mutOk, mutK, muD, ckS, ckC, okP, isDct, dctOf, Pd.getD, augK, setFK, fput, okP, dmD, low, lows, pLoop, bodyOf, hd, tl, b28, hg, i1, DN, h4, h5]
          · have h5 : a.length = 0 := by omega
            simp [runF, ss, es, ts, gs, execs, ev_var, ev_kon, ev_glb, ev_bin, ev_neg, ev_cmp, ev_chn, ev_and, ev_or, ev_not, ev_ife, ev_call, ev_callk, ev_mth, ev_mk, ev_mkk, ev_b1, ev_b2, ev_isi, ev_ix, ev_sl, ev_lst, ev_tup, ev_newL, ev_newD, ev_lobj, ev_dsp, ev_dm, ev_join, ev_fld, exec_asg, exec_setI, exec_setF, exec_aug, exec_mut, exec_ifs, exec_ret, exec_retn, exec_brk, exec_cont, exec_exp, exec_rai, exec_fg, exec_pas, evT, evs, evTAnd, evTOr, evAnd, evOr, evP, evSrc, bo, bnd, frzAll, esT, esTs, esO, esc, escs, esS, escS, opd, opn, look, peek, ofO, cmpD, truthD, thenK, sweep, outR, outF, fresh, asgK, asgT, asgTs, put, binD, b1D, b2D, ixD, ixN, atI_0, atI_1, atI_2, atI_3, atI_4, eqv, eqvs, shp, shps, setK, setX, setO, setOb, isVar, unset, cellOf, frz, valOf, forL, forK, isiD, isiO, items, itemsS, seqs, lenD, fldD, isIns, isNon, isB, inT, mutOk, mutK, muD, ckS, ckC, okP, isDct, dctOf, Pd.getD, augK, setFK, fput, okP, dmD, low, lows, pLoop, bodyOf, hd, tl, b28, hg, i1, DN, h5]
        · rw [if_neg hp, List.append_nil]; rfl)
  rw [len_LN, List.length_range, Nat.zero_add] at e2
  have e3 : exec (cls' (n + 1)) pLoop [.val (.obj g), .val (TN l), .own [], .un, .un, .un] t' = .nx [.val (.obj g), .val (TN l), .own ((fnd ws pl l).map (encP ws l)), .un, .un, .un] t' := by
    rw [pLoop_eq]
    refine exec_forOf (xs := LN (List.range pl)) (t1 := t') ?_ e2
    have a1 := atI_W ws 0 (by omega)
    have a1 : atI (ws.map D.str) 0 = some (.str (wAt ws 0)) := a1
    have a2 := hw.len _ (wAt_mem (ws := ws) (q := 0) (by omega))
    simp [runF, ss, es, ts, gs, execs, ev_var, ev_kon, ev_glb, ev_bin, ev_neg, ev_cmp, ev_chn, ev_and, ev_or, ev_not, ev_ife, ev_call, ev_callk, ev_mth, ev_mk, ev_mkk, ev_b1, ev_b2, ev_isi, ev_ix, ev_sl, ev_lst, ev_tup, ev_newL, ev_newD, ev_lobj, ev_dsp, ev_dm, ev_join, ev_fld, exec_asg, exec_setI, exec_setF, exec_aug, exec_mut, exec_ifs, exec_ret, exec_retn, exec_brk, exec_cont, exec_exp, exec_rai, exec_fg, exec_pas, evT, evs, evTAnd, evTOr, evAnd, evOr, evP, evSrc, bo, bnd, frzAll, esT, esTs, esO, esc, escs, esS, escS, opd, opn, look, peek, ofO, cmpD, truthD, thenK, sweep, outR, outF, fresh, asgK, asgT, asgTs, put, binD, b1D, b2D, ixD, ixN, atI_0, atI_1, atI_2, atI_3, atI_4, eqv, eqvs, shp, shps, setK, setX, setO, setOb, isVar, unset, cellOf, frz, valOf, forL, forK, isiD, isiO, items, itemsS, seqs, lenD, fldD, isIns, isNon, isB, inT, mutOk, mutK, muD, ckS, ckC, okP, isDct, dctOf, Pd.getD, augK, setFK, fput, okP, dmD, low, lows, hg, a1, a2, h1, h2, hr]
  have hb : b28 = .cons (hd b28) (.cons pLoop (.cons (hd (tl (tl b28))) .nil)) := rfl
  have e0 : runF (cls' (n + 1)) f28 [.obj g, TN l] t' = match execs (cls' (n + 1)) b28 [.val (.obj g), .val (TN l), .un, .un, .un, .un] t' with
    | .nx _ t' => .ok .non t'
    | .ret d t' => .ok d t'
    | .ex c as t' => .ex c as t'
    | _ => .no := rfl
  rw [e0, hb, execs_step (ρ' := [.val (.obj g), .val (TN l), .own [], .un, .un, .un]) (t' := t') (by simp [runF, ss, es, ts, gs, execs, ev_var, ev_kon, ev_glb, ev_bin, ev_neg, ev_cmp, ev_chn, ev_and, ev_or, ev_not, ev_ife, ev_call, ev_callk, ev_mth, ev_mk, ev_mkk, ev_b1, ev_b2, ev_isi, ev_ix, ev_sl, ev_lst, ev_tup, ev_newL, ev_newD, ev_lobj, ev_dsp, ev_dm, ev_join, ev_fld, exec_asg, exec_setI, exec_setF, exec_aug, exec_mut, exec_ifs, exec_ret, exec_retn, exec_brk, exec_cont, exec_exp, exec_rai, exec_fg, exec_pas, evT, evs, evTAnd, evTOr, evAnd, evOr, evP, evSrc, bo, bnd, frzAll, esT, esTs, esO, esc, escs, esS, escS, opd, opn, look, peek, ofO, cmpD, truthD, thenK, sweep, outR, outF, fresh, asgK, asgT, asgTs, put, binD, b1D, b2D, ixD, ixN, atI_0, atI_1, atI_2, atI_3, atI_4, eqv, eqvs, shp, shps, setK, setX, setO, setOb, isVar, unset, cellOf, frz, valOf, forL, forK, isiD, isiO, items, itemsS, seqs, lenD, fldD, isIns, isNon, isB, inT, mutOk, mutK, muD, ckS, ckC, okP, isDct, dctOf, Pd.getD, augK, setFK, fput, okP, dmD, low, lows, hd, b28]), execs_step e3]
  simp [runF, ss, es, ts, gs, execs, ev_var, ev_kon, ev_glb, ev_bin, ev_neg, ev_cmp, ev_chn, ev_and, ev_or, ev_not, ev_ife, ev_call, ev_callk, ev_mth, ev_mk, ev_mkk, ev_b1, ev_b2, ev_isi, ev_ix, ev_sl, ev_lst, ev_tup, ev_newL, ev_newD, ev_lobj, ev_dsp, ev_dm, ev_join, ev_fld, exec_asg, exec_setI, exec_setF, exec_aug, exec_mut, exec_ifs, exec_ret, exec_retn, exec_brk, exec_cont, exec_exp, exec_rai, exec_fg, exec_pas, evT, evs, evTAnd, evTOr, evAnd, evOr, evP, evSrc, bo, bnd, frzAll, esT, esTs, esO, esc, escs, esS, escS, opd, opn, look, peek, ofO, cmpD, truthD, thenK, sweep, outR, outF, fresh, asgK, asgT, asgTs, put, binD, b1D, b2D, ixD, ixN, atI_0, atI_1, atI_2, atI_3, atI_4, eqv, eqvs, shp, shps, setK, setX, setO, setOb, isVar, unset, cellOf, frz, valOf, forL, forK, isiD, isiO, items, itemsS, seqs, lenD, fldD, isIns, isNon, isB, inT, mutOk, mutK, muD, ckS, ckC, okP, isDct, dctOf, Pd.getD, augK, setFK, fput, okP, dmD, low, lows, hd, tl, b28]
end K85
set_option maxRecDepth 100000
set_option linter.all false
set_option autoImplicit false
/-! least -/
namespace K85
open Pd Pt
structure GS (g k : Nat) (ws : List (List Nat)) (B : List Int) (t : T) : Prop where
  ob : t[g]? = some (gObj ws B k)
  ne : g ≠ k
  lt : k < t.length
abbrev encM (M : List (List Nat × Int)) : List (D × D) := encK TN D.int M
def tM (t : T) (k : Nat) (M : List (List Nat × Int)) : T := t.set k (.dct true (encM M))
section
variable {g k : Nat} {ws : List (List Nat)} {B : List Int} {t : T} (G : GS g k ws B t)
include G
theorem GS.g1 (M : List (List Nat × Int)) : (tM t k M)[g]? = some (gObj ws B k) := by
  unfold tM; rw [List.getElem?_set_ne (Ne.symm G.ne)]; exact G.ob
theorem GS.g2 (M : List (List Nat × Int)) : (tM t k M)[k]? = some (.dct true (encM M)) := by
  unfold tM; rw [List.getElem?_set_self G.lt]
theorem GS.up (M : List (List Nat × Int)) : GS g k ws B (tM t k M) := ⟨G.g1 M, G.ne, by unfold tM; rw [List.length_set]; exact G.lt⟩
end
theorem tM_set (t : T) (k : Nat) (M N : List (List Nat × Int)) : (tM t k M).set k (.dct true (encM N)) = tM t k N := by
  unfold tM; rw [List.set_set]
theorem tM_set2 (t : T) (k : Nat) (M N : List (List Nat × Int)) : tM (tM t k M) k N = tM t k N := tM_set t k M N
theorem tM_self {t : T} {k : Nat} {M : List (List Nat × Int)} (h : t[k]? = some (.dct true (encM M))) : tM t k M = t := by
  unfold tM
  obtain ⟨h1, h2⟩ := List.getElem?_eq_some_iff.mp h
  rw [← h2, List.set_getElem_self]
/-- what is known is true -/
structure Mm (ws : List (List Nat)) (B : List Int) (pl : Nat) (M : List (List Nat × Int)) : Prop where
  nd : (M.map (·.1)).Nodup
  ok : ∀ p ∈ M, Lot ws.length p.1 ∧ p.1 ≠ [] ∧ p.2 = Need ws (iAt B) pl p.1
theorem Mm.nil (ws : List (List Nat)) (B : List Int) (pl : Nat) : Mm ws B pl [] := ⟨List.nodup_nil, fun _ h => by cases h⟩
theorem Mm.len {ws : List (List Nat)} {B : List Int} {pl : Nat} {M : List (List Nat × Int)} (h : Mm ws B pl M) : M.length ≤ 2 ^ ws.length := by
  have := nodup_lt (2 ^ ws.length) ((M.map (·.1)).map (Pt.mk ws.length)) (by
    rw [List.nodup_iff_pairwise_ne, List.pairwise_map]
    refine List.Pairwise.imp_of_mem (fun {a b} ha hb hab e => ?_) (List.nodup_iff_pairwise_ne.mp h.nd)
    obtain ⟨p, hp, rfl⟩ := List.mem_map.mp ha
    obtain ⟨q, hq, rfl⟩ := List.mem_map.mp hb
    exact hab (mk_inj (h.ok p hp).1 (h.ok q hq).1 e)) (fun x hx => by
    obtain ⟨l, _, rfl⟩ := List.mem_map.mp hx
    exact mkP_lt _ _)
  rwa [List.length_map, List.length_map] at this
theorem kget_snoc {a : List Nat} {b : Int} : ∀ {M : List (List Nat × Int)}, kget a M = none → kget a (M ++ [(a, b)]) = some b
  | [], _ => by simp [kget]
  | p :: M, h => by
    unfold kget at h
    by_cases hp : p.1 = a
    · rw [if_pos hp] at h; cases h
    · rw [if_neg hp] at h
      show (if p.1 = a then some p.2 else kget a (M ++ [(a, b)])) = _
      rw [if_neg hp, kget_snoc h]
theorem kget_snoc_ne {a c : List Nat} {b : Int} (hn : c ≠ a) : ∀ {M : List (List Nat × Int)}, kget a (M ++ [(c, b)]) = kget a M
  | [] => by simp [kget, hn]
  | p :: M => by
    show (if p.1 = a then some p.2 else kget a (M ++ [(c, b)])) = if p.1 = a then some p.2 else kget a M
    rw [kget_snoc_ne hn]
/-- what the parting points add -/
def adds (f : List Nat → Int) (ws : List (List Nat)) (l : List Nat) (p : Nat) : List Int := [mx (f (lo ws p l)) (f (up ws p l)), 1 + mn (f (lo ws p l)) (f (up ws p l))]
theorem adds_fnd (f : List Nat → Int) (ws : List (List Nat)) (l : List Nat) : ∀ n, (List.range n).flatMap (addN f ws l) = (fnd ws n l).flatMap (adds f ws l)
  | 0 => rfl
  | n + 1 => by
    rw [List.range_succ, fnd_succ, List.flatMap_append, List.flatMap_append, adds_fnd f ws l n]
    congr 1
    unfold addN adds
    by_cases h : Parts ws n l <;> simp [h]
def lIf : S := hd b29
def lFor : S := hd (tl (thenOf lIf))
theorem lFor_eq : lFor = .for (.tp (gs [(.nm 3), (.nm 4), (.nm 5)])) (.seq (.mth 0 28 (.var 0) (es [(.var 1)]))) (bodyOf lFor) [3, 4, 5, 6] := rfl
theorem lIf_eq : lIf = .ifs (.val (.cmp .notin (.var 1) (.fld (.var 0) 2))) (.cons (hd (thenOf lIf)) (.cons lFor (.cons (hd (tl (tl (thenOf lIf)))) .nil))) .nil := rfl
theorem isInsG {g k : Nat} {ws : List (List Nat)} {B : List Int} {t : T} (h : t[g]? = some (gObj ws B k)) : isIns t 0 (.obj g) = true := by
  simp [isIns, h]
theorem c_least (n : Nat) {g k pl : Nat} {ws : List (List Nat)} {B : List Int} {t : T} (G : GS g k ws B t) (hw : Wd ws pl) (hpl : pl ≤ 1000) (h0 : 1 ≤ ws.length) (h9 : ws.length ≤ 16) (hB : B.length = ws.length) : ∀ (s : Nat) (l : List Nat) (M : List (List Nat × Int)), l.length ≤ s → l ≠ [] → Lot ws.length l → Mm ws B pl M →
    ∃ M', call prg (n + s + 3) 29 [.obj g, TN l] (tM t k M) = .ok (.int (Need ws (iAt B) pl l)) (tM t k M') ∧ Mm ws B pl M' ∧ ∀ a : List Nat, l.length < a.length → kget a M' = kget a M := by
  intro s
  induction s with
  | zero => intro l M h1 h2; exact absurd (List.length_eq_zero_iff.mp (by omega)) h2
  | succ s ih =>
    intro l M h1 h2 hl hM
    have hN : n + (s + 1) + 3 = (n + s + 3) + 1 := by omega
    rw [hN, cS 29 f29 rfl]
    have e0 : runF (cls' (n + s + 3)) f29 [.obj g, TN l] (tM t k M) = match execs (cls' (n + s + 3)) b29 [.val (.obj g), .val (TN l), .un, .un, .un, .un, .un, .un] (tM t k M) with
      | .nx _ t' => .ok .non t'
      | .ret d t' => .ok d t'
      | .ex c as t' => .ex c as t'
      | _ => .no := rfl
    have g1 := G.g1
    have g2 := G.g2
    have he := eqv_TN
    have hk : keyB true (TN l) = true := keyB_TN l
    cases hm : kget l M with
    | some v =>
      have hv := (hM.ok _ (kget_mem hm)).2.2
      have hd1 : dget (TN l) (encM M) = some (.int v) := by rw [dget_enc he, hm]; rfl
      refine ⟨M, ?_, hM, fun _ _ => rfl⟩
      rw [← hv]
      have g1 := g1 M
      have g2 := g2 M
      generalize hT : TN l = d at hk hd1 e0
      rw [e0]
      simp [runF, ss, es, ts, execs, b29, exec_ifs, exec_ret, exec_fg, evT, ev_cmp, ev_fld, ev_var, ev_ix, valOf, look, peek, opd, fldD, frzAll, esc, esO, esT, escs, put, frz, bnd, bo, ofO, g1, g2, cmpD, inT, Pd.getD, dctOf, hk, hd1, truthD, thenK, unset, ixD, List.lookup]
    | none =>
      -- the needs
      have s1 : ∀ t', t'[g]? = some (gObj ws B k) → exec (cls' (n + s + 3)) (hd (thenOf lIf)) [.val (.obj g), .val (TN l), .un, .un, .un, .un, .un, .un] t' = .nx [.val (.obj g), .val (TN l), .own ((l.map fun q => - iAt B q).map .int), .un, .un, .un, .un, .un] t' := fun t' hg => by
        have e : ev (cls' (n + s + 3)) (.comp (.seq (.var 1)) (.nm 7) [7] .yes (.neg (.ix (.fld (.var 0) 1) (.var 7)))) [.val (.obj g), .val (TN l), .un, .un, .un, .un, .un, .un] t' = .ok (.lst ((l.map fun q => - iAt B q).map .int)) t' := by
          rw [List.map_map]
          refine comp_LN l _ (by simp [runF, ss, es, ts, gs, execs, ev_var, ev_kon, ev_glb, ev_bin, ev_neg, ev_cmp, ev_chn, ev_and, ev_or, ev_not, ev_ife, ev_call, ev_callk, ev_mth, ev_mk, ev_mkk, ev_b1, ev_b2, ev_isi, ev_ix, ev_sl, ev_lst, ev_tup, ev_newL, ev_newD, ev_lobj, ev_dsp, ev_dm, ev_join, ev_fld, exec_asg, exec_setI, exec_setF, exec_aug, exec_mut, exec_ifs, exec_ret, exec_retn, exec_brk, exec_cont, exec_exp, exec_rai, exec_fg, exec_pas, evT, evs, evTAnd, evTOr, evAnd, evOr, evP, evSrc, bo, bnd, frzAll, esT, esTs, esO, esc, escs, esS, escS, opd, opn, look, peek, ofO, cmpD, truthD, thenK, sweep, outR, outF, fresh, asgK, asgT, asgTs, put, binD, b1D, b2D, ixD, ixN, atI_0, atI_1, atI_2, atI_3, atI_4, eqv, eqvs, shp, shps, setK, setX, setO, setOb, isVar, unset, cellOf, frz, valOf, forL, forK, isiD, isiO, items, itemsS, seqs, lenD, fldD, isIns, isNon, isB, inT, mutOk, mutK, muD, ckS, ckC, okP, isDct, dctOf, Pd.getD, augK, setFK, fput, okP, dmD, low, lows, List.lookup]) fun q hq => ?_
          have a1 := atI_B B q (by rw [hB]; exact hl.lt q hq)
          simp [turnC, runF, ss, es, ts, gs, execs, ev_var, ev_kon, ev_glb, ev_bin, ev_neg, ev_cmp, ev_chn, ev_and, ev_or, ev_not, ev_ife, ev_call, ev_callk, ev_mth, ev_mk, ev_mkk, ev_b1, ev_b2, ev_isi, ev_ix, ev_sl, ev_lst, ev_tup, ev_newL, ev_newD, ev_lobj, ev_dsp, ev_dm, ev_join, ev_fld, exec_asg, exec_setI, exec_setF, exec_aug, exec_mut, exec_ifs, exec_ret, exec_retn, exec_brk, exec_cont, exec_exp, exec_rai, exec_fg, exec_pas, evT, evs, evTAnd, evTOr, evAnd, evOr, evP, evSrc, bo, bnd, frzAll, esT, esTs, esO, esc, escs, esS, escS, opd, opn, look, peek, ofO, cmpD, truthD, thenK, sweep, outR, outF, fresh, asgK, asgT, asgTs, put, binD, b1D, b2D, ixD, ixN, atI_0, atI_1, atI_2, atI_3, atI_4, eqv, eqvs, shp, shps, setK, setX, setO, setOb, isVar, unset, cellOf, frz, valOf, forL, forK, isiD, isiO, items, itemsS, seqs, lenD, fldD, isIns, isNon, isB, inT, mutOk, mutK, muD, ckS, ckC, okP, isDct, dctOf, Pd.getD, augK, setFK, fput, okP, dmD, low, lows, List.lookup, hg, a1, DN]
        generalize ((l.map fun q => - iAt B q).map D.int) = z at e
        simp [runF, ss, es, ts, gs, execs, ev_var, ev_kon, ev_glb, ev_bin, ev_neg, ev_cmp, ev_chn, ev_and, ev_or, ev_not, ev_ife, ev_call, ev_callk, ev_mth, ev_mk, ev_mkk, ev_b1, ev_b2, ev_isi, ev_ix, ev_sl, ev_lst, ev_tup, ev_newL, ev_newD, ev_lobj, ev_dsp, ev_dm, ev_join, ev_fld, exec_asg, exec_setI, exec_setF, exec_aug, exec_mut, exec_ifs, exec_ret, exec_retn, exec_brk, exec_cont, exec_exp, exec_rai, exec_fg, exec_pas, evT, evs, evTAnd, evTOr, evAnd, evOr, evP, evSrc, bo, bnd, frzAll, esT, esTs, esO, esc, escs, esS, escS, opd, opn, look, peek, ofO, cmpD, truthD, thenK, sweep, outR, outF, fresh, asgK, asgT, asgTs, put, binD, b1D, b2D, ixD, ixN, atI_0, atI_1, atI_2, atI_3, atI_4, eqv, eqvs, shp, shps, setK, setX, setO, setOb, isVar, unset, cellOf, frz, valOf, forL, forK, isiD, isiO, items, itemsS, seqs, lenD, fldD, isIns, isNon, isB, inT, mutOk, mutK, muD, ckS, ckC, okP, isDct, dctOf, Pd.getD, augK, setFK, fput, okP, dmD, low, lows, List.lookup, hd, tl, thenOf, lIf, b29, e]
      have hF := fun q (hq : q ∈ fnd ws pl l) => (fnd_mem.mp hq)
      obtain ⟨ρ', t', e2, M', rfl, rfl, hM', hfr⟩ := forL_inv (ck := fun _ => true) (f := forK (.tp (gs [(.nm 3), (.nm 4), (.nm 5)])) fun ρ t => execs (cls' (n + s + 3)) (bodyOf lFor) ρ t) (fg := [3, 4, 5, 6])
        (fun i ρ t' => ∃ M', ρ = [.val (.obj g), .val (TN l), .own (((l.map fun q => - iAt B q) ++ ((fnd ws pl l).take i).flatMap (adds (Need ws (iAt B) pl) ws l)).map .int), .un, .un, .un, .un, .un] ∧ t' = tM t k M' ∧ Mm ws B pl M' ∧ ∀ a : List Nat, l.length ≤ a.length → kget a M' = kget a M) (fun _ _ _ _ => rfl)
        ((fnd ws pl l).map (encP ws l)) 0 [.val (.obj g), .val (TN l), .own ((l.map fun q => - iAt B q).map .int), .un, .un, .un, .un, .un] (tM t k M) ⟨M, by simp, rfl, hM, fun _ _ => rfl⟩ (fun i x ρ t' hx hI => by
          obtain ⟨M1, rfl, rfl, hM1, hfr⟩ := hI
          rw [Nat.zero_add] at *
          rw [List.getElem?_map] at hx
          obtain ⟨p, hp, rfl⟩ := Option.map_eq_some_iff.mp hx
          have hpm := hF p (List.mem_of_getElem? hp)
          have hlt := hpm.2.lt
          obtain ⟨M2, i1, hM2, hf2⟩ := ih (lo ws p l) M1 (by omega) hpm.2.1 (hl.lo ws p) hM1
          obtain ⟨M3, i2, hM3, hf3⟩ := ih (up ws p l) M2 (by omega) hpm.2.2 (hl.up ws p) hM2
          refine ⟨_, _, .inl (?_ : _ = Out.nx [.val (.obj g), .val (TN l), .own ((((l.map fun q => - iAt B q) ++ ((fnd ws pl l).take i).flatMap (adds (Need ws (iAt B) pl) ws l)).map .int) ++ (adds (Need ws (iAt B) pl) ws l p).map .int), .val (.int p), .val (TN (lo ws p l)), .val (TN (up ws p l)), .own [.int (Need ws (iAt B) pl (lo ws p l)), .int (Need ws (iAt B) pl (up ws p l))], .un] (tM t k M3)), M3, ?_, rfl, hM3, fun a ha => ?_⟩
          · have hz : (((l.map fun q => - iAt B q) ++ ((fnd ws pl l).take i).flatMap (adds (Need ws (iAt B) pl) ws l)).map D.int).length + 2 ≤ sz := by
              have q1 := hl.len
              have q2 := fnd_len ws pl l
              have q3 : (((fnd ws pl l).take i).flatMap (adds (Need ws (iAt B) pl) ws l)).length ≤ 2 * ((fnd ws pl l).take i).length := by
                generalize (fnd ws pl l).take i = F
                induction F with
                | nil => simp
                | cons z F ih =>
                  rw [List.flatMap_cons, List.length_append, List.length_cons]
                  have : (adds (Need ws (iAt B) pl) ws l z).length = 2 := rfl
                  omega
              have q4 : ((fnd ws pl l).take i).length ≤ (fnd ws pl l).length := List.length_take_le' _ _
              rw [List.length_map, List.length_append, List.length_map]
              unfold sz; omega
            generalize (((l.map fun q => - iAt B q) ++ ((fnd ws pl l).take i).flatMap (adds (Need ws (iAt B) pl) ws l)).map D.int) = z at hz
            have g3 := g1 M1
            have g4 := g1 M2
            have j1 := isInsG g3
            have j2 := isInsG g4
            unfold adds encP
            generalize Need ws (iAt B) pl (lo ws p l) = v1 at i1
            generalize Need ws (iAt B) pl (up ws p l) = v2 at i2
            generalize lo ws p l = a at i1
            generalize up ws p l = b at i2
            simp only [isIns] at j1 j2
            simp [runF, ss, es, ts, gs, execs, ev_var, ev_kon, ev_glb, ev_bin, ev_neg, ev_cmp, ev_chn, ev_and, ev_or, ev_not, ev_ife, ev_call, ev_callk, ev_mth, ev_mk, ev_mkk, ev_b1, ev_b2, ev_isi, ev_ix, ev_sl, ev_lst, ev_tup, ev_newL, ev_newD, ev_lobj, ev_dsp, ev_dm, ev_join, ev_fld, exec_asg, exec_setI, exec_setF, exec_aug, exec_mut, exec_ifs, exec_ret, exec_retn, exec_brk, exec_cont, exec_exp, exec_rai, exec_fg, exec_pas, evT, evs, evTAnd, evTOr, evAnd, evOr, evP, evSrc, bo, bnd, frzAll, esT, esTs, esO, esc, escs, esS, escS, opd, opn, look, peek, ofO, cmpD, truthD, thenK, sweep, outR, outF, fresh, asgK, asgT, asgTs, put, binD, b1D, b2D, ixD, ixN, atI_0, atI_1, atI_2, atI_3, atI_4, eqv, eqvs, shp, shps, setK, setX, setO, setOb, isVar, unset, cellOf, frz, valOf, forL, forK, isiD, isiO, items, itemsS, seqs, lenD, fldD, isIns, isNon, isB, inT, mutOk, mutK, muD, ckS, ckC, okP, isDct, dctOf, Pd.getD, augK, setFK, fput, okP, dmD, low, lows, List.lookup, lFor, lIf, thenOf, bodyOf, hd, tl, b29, g3, g4, i1, i2, intsOf, maxI, minI, mutK, muD, hz, mx, mn]
          · rw [List.take_add_one, hp]
            simp [unset, put]
          · rw [hf3 a (by omega), hf2 a (by omega)]; exact hfr a ha)
      rw [List.length_map, Nat.zero_add, List.take_length] at e2
      have hx : maxL ((l.map fun q => - iAt B q) ++ (fnd ws pl l).flatMap (adds (Need ws (iAt B) pl) ws l)) = Need ws (iAt B) pl l := by
        rw [Need_eq ws (iAt B) pl l h2, adds_fnd]
      have hne : (l.map fun q => - iAt B q) ++ (fnd ws pl l).flatMap (adds (Need ws (iAt B) pl) ws l) ≠ [] := by
        cases l with
        | nil => exact absurd rfl h2
        | cons a l => simp
      have hmx := maxI_eq _ hne
      rw [hx] at hmx
      have hio := intsOf_map ((l.map fun q => - iAt B q) ++ (fnd ws pl l).flatMap (adds (Need ws (iAt B) pl) ws l))
      have hm' : kget l M' = none := by rw [hfr l (Nat.le_refl _), hm]
      have s2 : exec (cls' (n + s + 3)) lFor [.val (.obj g), .val (TN l), .own ((l.map fun q => - iAt B q).map .int), .un, .un, .un, .un, .un] (tM t k M) = .nx [.val (.obj g), .val (TN l), .own (((l.map fun q => - iAt B q) ++ (fnd ws pl l).flatMap (adds (Need ws (iAt B) pl) ws l)).map .int), .un, .un, .un, .un, .un] (tM t k M') := by
        rw [lFor_eq]
        refine exec_forOf (xs := (fnd ws pl l).map (encP ws l)) (t1 := tM t k M) ?_ e2
        have g3 := g1 M
        have i3 := c_parted (n + s + 1) g3 hw hpl h0 l hl
        generalize (fnd ws pl l).map (encP ws l) = z at i3
        have i3 : call prg (n + s + 3) 28 [.obj g, TN l] (tM t k M) = .ok (.lst z) (tM t k M) := i3
        generalize TN l = d at i3
        simp [runF, ss, es, ts, gs, execs, ev_var, ev_kon, ev_glb, ev_bin, ev_neg, ev_cmp, ev_chn, ev_and, ev_or, ev_not, ev_ife, ev_call, ev_callk, ev_mth, ev_mk, ev_mkk, ev_b1, ev_b2, ev_isi, ev_ix, ev_sl, ev_lst, ev_tup, ev_newL, ev_newD, ev_lobj, ev_dsp, ev_dm, ev_join, ev_fld, exec_asg, exec_setI, exec_setF, exec_aug, exec_mut, exec_ifs, exec_ret, exec_retn, exec_brk, exec_cont, exec_exp, exec_rai, exec_fg, exec_pas, evT, evs, evTAnd, evTOr, evAnd, evOr, evP, evSrc, bo, bnd, frzAll, esT, esTs, esO, esc, escs, esS, escS, opd, opn, look, peek, ofO, cmpD, truthD, thenK, sweep, outR, outF, fresh, asgK, asgT, asgTs, put, binD, b1D, b2D, ixD, ixN, atI_0, atI_1, atI_2, atI_3, atI_4, eqv, eqvs, shp, shps, setK, setX, setO, setOb, isVar, unset, cellOf, frz, valOf, forL, forK, isiD, isiO, items, itemsS, seqs, lenD, fldD, isIns, isNon, isB, inT, mutOk, mutK, muD, ckS, ckC, okP, isDct, dctOf, Pd.getD, augK, setFK, fput, okP, dmD, low, lows, List.lookup, g3, i3]
      generalize (l.map fun q => - iAt B q) ++ (fnd ws pl l).flatMap (adds (Need ws (iAt B) pl) ws l) = zs at e2 hmx hio s2
      refine ⟨M' ++ [(l, Need ws (iAt B) pl l)], ?_, ⟨keys_snoc hM'.nd hm', fun p hp => ?_⟩, fun a ha => ?_⟩
      · have hput : dput (TN l) (.int (Need ws (iAt B) pl l)) (encM M') = encM (M' ++ [(l, Need ws (iAt B) pl l)]) := dput_enc (enc := TN) (dv := D.int) he l (Need ws (iAt B) pl l) M' hm'
        have hml := hM'.len
        have hml2 : (encM M').length < sz := by
          rw [encK_len]
          have : 2 ^ ws.length ≤ 2 ^ 16 := Nat.pow_le_pow_right (by omega) h9
          unfold sz; omega
        have s3 : exec (cls' (n + s + 3)) (hd (tl (tl (thenOf lIf)))) [.val (.obj g), .val (TN l), .own (zs.map .int), .un, .un, .un, .un, .un] (tM t k M') = .nx [.val (.obj g), .val (TN l), .own (zs.map .int), .un, .un, .un, .un, .un] (tM t k (M' ++ [(l, Need ws (iAt B) pl l)])) := by
          have g3 := g1 M'
          have g4 := g2 M'
          have g5 := tM_set t k M' (M' ++ [(l, Need ws (iAt B) pl l)])
          rw [← hput] at g5
          generalize Need ws (iAt B) pl l = v at g5 hmx ⊢
          generalize tM t k (M' ++ [(l, v)]) = t9 at g5
          generalize encM M' = kv at g4 g5 hml2
          generalize tM t k M' = t8 at g3 g4 g5
          generalize TN l = d at hk g5
          simp [runF, ss, es, ts, gs, execs, ev_var, ev_kon, ev_glb, ev_bin, ev_neg, ev_cmp, ev_chn, ev_and, ev_or, ev_not, ev_ife, ev_call, ev_callk, ev_mth, ev_mk, ev_mkk, ev_b1, ev_b2, ev_isi, ev_ix, ev_sl, ev_lst, ev_tup, ev_newL, ev_newD, ev_lobj, ev_dsp, ev_dm, ev_join, ev_fld, exec_asg, exec_setI, exec_setF, exec_aug, exec_mut, exec_ifs, exec_ret, exec_retn, exec_brk, exec_cont, exec_exp, exec_rai, exec_fg, exec_pas, evT, evs, evTAnd, evTOr, evAnd, evOr, evP, evSrc, bo, bnd, frzAll, esT, esTs, esO, esc, escs, esS, escS, opd, opn, look, peek, ofO, cmpD, truthD, thenK, sweep, outR, outF, fresh, asgK, asgT, asgTs, put, binD, b1D, b2D, ixD, ixN, atI_0, atI_1, atI_2, atI_3, atI_4, eqv, eqvs, shp, shps, setK, setX, setO, setOb, isVar, unset, cellOf, frz, valOf, forL, forK, isiD, isiO, items, itemsS, seqs, lenD, fldD, isIns, isNon, isB, inT, mutOk, mutK, muD, ckS, ckC, okP, isDct, dctOf, Pd.getD, augK, setFK, fput, okP, dmD, low, lows, List.lookup, hd, tl, thenOf, lIf, b29, g3, g4, g5, hio, hmx, hk, hml2]
        have hb : b29 = .cons lIf (tl b29) := rfl
        have s4 : exec (cls' (n + s + 3)) lIf [.val (.obj g), .val (TN l), .un, .un, .un, .un, .un, .un] (tM t k M) = .nx [.val (.obj g), .val (TN l), .own (zs.map .int), .un, .un, .un, .un, .un] (tM t k (M' ++ [(l, Need ws (iAt B) pl l)])) := by
          have g3 := g1 M
          have g4 := g2 M
          have hd1 : dget (TN l) (encM M) = none := by rw [dget_enc he, hm]; rfl
          have c1 : evT (cls' (n + s + 3)) (.val (.cmp .notin (.var 1) (.fld (.var 0) 2))) [.val (.obj g), .val (TN l), .un, .un, .un, .un, .un, .un] (tM t k M) = .ok true (tM t k M) := by
            generalize encM M = kv at g4 hd1
            generalize TN l = d at hk hd1
            simp [runF, ss, es, ts, gs, execs, ev_var, ev_kon, ev_glb, ev_bin, ev_neg, ev_cmp, ev_chn, ev_and, ev_or, ev_not, ev_ife, ev_call, ev_callk, ev_mth, ev_mk, ev_mkk, ev_b1, ev_b2, ev_isi, ev_ix, ev_sl, ev_lst, ev_tup, ev_newL, ev_newD, ev_lobj, ev_dsp, ev_dm, ev_join, ev_fld, exec_asg, exec_setI, exec_setF, exec_aug, exec_mut, exec_ifs, exec_ret, exec_retn, exec_brk, exec_cont, exec_exp, exec_rai, exec_fg, exec_pas, evT, evs, evTAnd, evTOr, evAnd, evOr, evP, evSrc, bo, bnd, frzAll, esT, esTs, esO, esc, escs, esS, escS, opd, opn, look, peek, ofO, cmpD, truthD, thenK, sweep, outR, outF, fresh, asgK, asgT, asgTs, put, binD, b1D, b2D, ixD, ixN, atI_0, atI_1, atI_2, atI_3, atI_4, eqv, eqvs, shp, shps, setK, setX, setO, setOb, isVar, unset, cellOf, frz, valOf, forL, forK, isiD, isiO, items, itemsS, seqs, lenD, fldD, isIns, isNon, isB, inT, mutOk, mutK, muD, ckS, ckC, okP, isDct, dctOf, Pd.getD, augK, setFK, fput, okP, dmD, low, lows, List.lookup, g3, g4, hk, hd1, fldD]
          rw [lIf_eq, exec_ifs]
          have : frzAll [.val (.obj g), .val (TN l), .un, .un, .un, .un, .un, .un] (esT (.val (.cmp .notin (.var 1) (.fld (.var 0) 2)))) = [Cell.val (.obj g), .val (TN l), .un, .un, .un, .un, .un, .un] := rfl
          rw [this, c1]
          simp only [bo_ok, if_true]
          rw [execs_step (s1 _ g3), execs_step s2, execs_step s3]; rfl
        rw [e0, hb, execs_step s4]
        have g3 := g1 (M' ++ [(l, Need ws (iAt B) pl l)])
        have g4 := g2 (M' ++ [(l, Need ws (iAt B) pl l)])
        have hd1 : dget (TN l) (encM (M' ++ [(l, Need ws (iAt B) pl l)])) = some (.int (Need ws (iAt B) pl l)) := by rw [dget_enc he, kget_snoc hm']; rfl
        generalize encM (M' ++ [(l, Need ws (iAt B) pl l)]) = kv at g4 hd1
        generalize tM t k (M' ++ [(l, Need ws (iAt B) pl l)]) = t8 at g3 g4
        generalize TN l = d at hk hd1
        simp [runF, ss, es, ts, gs, execs, ev_var, ev_kon, ev_glb, ev_bin, ev_neg, ev_cmp, ev_chn, ev_and, ev_or, ev_not, ev_ife, ev_call, ev_callk, ev_mth, ev_mk, ev_mkk, ev_b1, ev_b2, ev_isi, ev_ix, ev_sl, ev_lst, ev_tup, ev_newL, ev_newD, ev_lobj, ev_dsp, ev_dm, ev_join, ev_fld, exec_asg, exec_setI, exec_setF, exec_aug, exec_mut, exec_ifs, exec_ret, exec_retn, exec_brk, exec_cont, exec_exp, exec_rai, exec_fg, exec_pas, evT, evs, evTAnd, evTOr, evAnd, evOr, evP, evSrc, bo, bnd, frzAll, esT, esTs, esO, esc, escs, esS, escS, opd, opn, look, peek, ofO, cmpD, truthD, thenK, sweep, outR, outF, fresh, asgK, asgT, asgTs, put, binD, b1D, b2D, ixD, ixN, atI_0, atI_1, atI_2, atI_3, atI_4, eqv, eqvs, shp, shps, setK, setX, setO, setOb, isVar, unset, cellOf, frz, valOf, forL, forK, isiD, isiO, items, itemsS, seqs, lenD, fldD, isIns, isNon, isB, inT, mutOk, mutK, muD, ckS, ckC, okP, isDct, dctOf, Pd.getD, augK, setFK, fput, okP, dmD, low, lows, List.lookup, tl, b29, g3, g4, hk, hd1]
      · rcases List.mem_append.mp hp with hp | hp
        · exact hM'.ok p hp
        · rw [List.mem_singleton.mp hp]; exact ⟨hl, h2, rfl⟩
      · rw [kget_snoc_ne (fun e => by rw [e] at ha; omega)]
        exact hfr a (by omega)
end K85
set_option maxRecDepth 100000
set_option linter.all false
set_option autoImplicit false
/-! trees -/
namespace K85
open Pd Pt
/-- a good game in the table -/
structure Gm (g k : Nat) (ws : List (List Nat)) (B : List Int) (pl : Nat) (t : T) : Prop extends GS g k ws B t where
  kn : ∃ M, t[k]? = some (.dct true (encM M)) ∧ Mm ws B pl M
  wd : Wd ws pl
  pl : pl ≤ 1000
  one : 1 ≤ ws.length
  top : ws.length ≤ 16
  len : B.length = ws.length
  pos : ∀ b ∈ B, 0 ≤ b
/-- but for object k the table stays -/
def St (k : Nat) (t t' : T) : Prop := t'.length = t.length ∧ ∀ i, i ≠ k → t'[i]? = t[i]?
theorem St.refl (k : Nat) (t : T) : St k t t := ⟨rfl, fun _ _ => rfl⟩
theorem St.trans {k : Nat} {t u v : T} (a : St k t u) (b : St k u v) : St k t v := ⟨b.1.trans a.1, fun i h => (b.2 i h).trans (a.2 i h)⟩
section
variable {g k pl : Nat} {ws : List (List Nat)} {B : List Int}
theorem gLeast (n : Nat) {t : T} (G : Gm g k ws B pl t) (l : List Nat) (h : l ≠ []) (hl : Lot ws.length l) :
    ∃ t', call prg (n + 19) 29 [.obj g, TN l] t = .ok (.int (Need ws (iAt B) pl l)) t' ∧ Gm g k ws B pl t' ∧ St k t t' := by
  obtain ⟨M, hk, hM⟩ := G.kn
  obtain ⟨M', e, hM', _⟩ := c_least n G.toGS G.wd G.pl G.one G.top G.len 16 l M (Nat.le_trans hl.len G.top) h hl hM
  rw [tM_self hk] at e
  refine ⟨tM t k M', e, ⟨G.toGS.up M', ⟨M', G.toGS.g2 M', hM'⟩, G.wd, G.pl, G.one, G.top, G.len, G.pos⟩, by unfold tM; rw [List.length_set], fun i hi => ?_⟩
  unfold tM
  rw [List.getElem?_set_ne (Ne.symm hi)]
theorem c_all (n : Nat) {t : T} (G : Gm g k ws B pl t) : call prg (n + 1) 23 [.obj g] t = .ok (TN (List.range ws.length)) t := by
  rw [cS 23 f23 rfl]
  have h1 := G.ob
  have h2 := G.top
  have h3 : (-1000000 : Int) ≤ (ws.length : Int) := by omega
  have h4 : (ws.length : Int) ≤ 1000000 := by omega
  have hr := range0_LN ws.length
  simp [runF, ss, es, ts, gs, execs, ev_var, ev_kon, ev_glb, ev_bin, ev_neg, ev_cmp, ev_chn, ev_and, ev_or, ev_not, ev_ife, ev_call, ev_callk, ev_mth, ev_mk, ev_mkk, ev_b1, ev_b2, ev_isi, ev_ix, ev_sl, ev_lst, ev_tup, ev_newL, ev_newD, ev_lobj, ev_dsp, ev_dm, ev_join, ev_fld, exec_asg, exec_setI, exec_setF, exec_aug, exec_mut, exec_ifs, exec_ret, exec_retn, exec_brk, exec_cont, exec_exp, exec_rai, exec_fg, exec_pas, evT, evs, evTAnd, evTOr, evAnd, evOr, evP, evSrc, bo, bnd, frzAll, esT, esTs, esO, esc, escs, esS, escS, opd, opn, look, peek, ofO, cmpD, truthD, thenK, sweep, outR, outF, fresh, asgK, asgT, asgTs, put, binD, b1D, b2D, ixD, ixN, atI_0, atI_1, atI_2, atI_3, atI_4, eqv, eqvs, shp, shps, setK, setX, setO, setOb, isVar, unset, cellOf, frz, valOf, forL, forK, isiD, isiO, items, itemsS, seqs, lenD, fldD, isIns, isNon, isB, inT, mutOk, mutK, muD, ckS, ckC, okP, isDct, dctOf, Pd.getD, augK, setFK, fput, okP, dmD, low, lows, List.lookup, f23, b23, h1, h3, h4, hr]
theorem range_ne {n : Nat} (h : 1 ≤ n) : List.range n ≠ [] := by
  intro z
  have := congrArg List.length z
  rw [List.length_range] at this
  simp at this; omega
theorem c_need (n : Nat) {t : T} (G : Gm g k ws B pl t) : ∃ t', call prg (n + 20) 24 [.obj g] t = .ok (.int (Need ws (iAt B) pl (List.range ws.length))) t' ∧ Gm g k ws B pl t' ∧ St k t t' := by
  obtain ⟨t', e, G', s⟩ := gLeast n G _ (range_ne G.one) (Lot.all _)
  refine ⟨t', ?_, G', s⟩
  rw [cS 24 f24 rfl]
  have h1 := G.ob
  have e2 := c_all (n + 18) G
  generalize TN (List.range ws.length) = d at e e2
  have e2 : call prg (n + 19) 23 [.obj g] t = .ok d t := e2
  simp [runF, ss, es, ts, gs, execs, ev_var, ev_kon, ev_glb, ev_bin, ev_neg, ev_cmp, ev_chn, ev_and, ev_or, ev_not, ev_ife, ev_call, ev_callk, ev_mth, ev_mk, ev_mkk, ev_b1, ev_b2, ev_isi, ev_ix, ev_sl, ev_lst, ev_tup, ev_newL, ev_newD, ev_lobj, ev_dsp, ev_dm, ev_join, ev_fld, exec_asg, exec_setI, exec_setF, exec_aug, exec_mut, exec_ifs, exec_ret, exec_retn, exec_brk, exec_cont, exec_exp, exec_rai, exec_fg, exec_pas, evT, evs, evTAnd, evTOr, evAnd, evOr, evP, evSrc, bo, bnd, frzAll, esT, esTs, esO, esc, escs, esS, escS, opd, opn, look, peek, ofO, cmpD, truthD, thenK, sweep, outR, outF, fresh, asgK, asgT, asgTs, put, binD, b1D, b2D, ixD, ixN, atI_0, atI_1, atI_2, atI_3, atI_4, eqv, eqvs, shp, shps, setK, setX, setO, setOb, isVar, unset, cellOf, frz, valOf, forL, forK, isiD, isiO, items, itemsS, seqs, lenD, fldD, isIns, isNon, isB, inT, mutOk, mutK, muD, ckS, ckC, okP, isDct, dctOf, Pd.getD, augK, setFK, fput, okP, dmD, low, lows, List.lookup, f24, b24, h1, e, e2]
theorem c_isKept (n : Nat) {t : T} (G : Gm g k ws B pl t) : ∃ t', call prg (n + 21) 17 [.obj g] t = .ok (.bl (decide (Need ws (iAt B) pl (List.range ws.length) ≤ 0))) t' ∧ Gm g k ws B pl t' ∧ St k t t' := by
  obtain ⟨t', e, G', s⟩ := c_need n G
  refine ⟨t', ?_, G', s⟩
  rw [cS 17 f17 rfl]
  have h1 := G.ob
  simp [runF, ss, es, ts, gs, execs, ev_var, ev_kon, ev_glb, ev_bin, ev_neg, ev_cmp, ev_chn, ev_and, ev_or, ev_not, ev_ife, ev_call, ev_callk, ev_mth, ev_mk, ev_mkk, ev_b1, ev_b2, ev_isi, ev_ix, ev_sl, ev_lst, ev_tup, ev_newL, ev_newD, ev_lobj, ev_dsp, ev_dm, ev_join, ev_fld, exec_asg, exec_setI, exec_setF, exec_aug, exec_mut, exec_ifs, exec_ret, exec_retn, exec_brk, exec_cont, exec_exp, exec_rai, exec_fg, exec_pas, evT, evs, evTAnd, evTOr, evAnd, evOr, evP, evSrc, bo, bnd, frzAll, esT, esTs, esO, esc, escs, esS, escS, opd, opn, look, peek, ofO, cmpD, truthD, thenK, sweep, outR, outF, fresh, asgK, asgT, asgTs, put, binD, b1D, b2D, ixD, ixN, atI_0, atI_1, atI_2, atI_3, atI_4, eqv, eqvs, shp, shps, setK, setX, setO, setOb, isVar, unset, cellOf, frz, valOf, forL, forK, isiD, isiO, items, itemsS, seqs, lenD, fldD, isIns, isNon, isB, inT, mutOk, mutK, muD, ckS, ckC, okP, isDct, dctOf, Pd.getD, augK, setFK, fput, okP, dmD, low, lows, List.lookup, f17, b17, h1, e]
end
def tL1 : S := hd b22
def tL2 : S := hd (tl b22)
def tL3 : S := hd (tl (tl b22))
theorem tL1_eq : tL1 = .for (.nm 3) (.seq (.var 1)) (bodyOf tL1) [3] := rfl
theorem tL2_eq : tL2 = .for (.tp (gs [(.nm 4), (.nm 5), (.nm 6)])) (.seq (.mth 0 28 (.var 0) (es [(.var 1)]))) (bodyOf tL2) [4, 5, 6] := rfl
theorem tL3_eq : tL3 = .for (.tp (gs [(.nm 7), (.nm 5), (.nm 6)])) (.seq (.mth 0 28 (.var 0) (es [(.var 1)]))) (bodyOf tL3) [5, 6, 7, 8] := rfl
theorem take_succ_mem {α : Type} {xs : List α} {i : Nat} {x y : α} (h : xs[i]? = some x) (hy : y ∈ xs.take (i + 1)) : y ∈ xs.take i ∨ y = x := by
  rw [List.take_add_one, h] at hy
  rcases List.mem_append.mp hy with h | h
  · exact .inl h
  · exact .inr (by simpa using h)
theorem c_treeOf (n : Nat) {g k pl : Nat} {ws : List (List Nat)} {B : List Int} : ∀ (s : Nat) (l : List Nat) (e : Int) (t : T), Gm g k ws B pl t → l.length ≤ s → l ≠ [] → Lot ws.length l → 0 < Need ws (iAt B) pl l + e →
    ∃ tr t', call prg (n + s + 20) 22 [.obj g, TN l, .int e] t = .ok tr.enc t' ∧ Win ws (iAt B) pl tr l e ∧ Gm g k ws B pl t' ∧ St k t t' := by
  intro s
  induction s with
  | zero => intro l e t _ h1 h2; exact absurd (List.length_eq_zero_iff.mp (by omega)) h2
  | succ s ih =>
    intro l e t G h1 h2 hl hn
    have hN : n + (s + 1) + 20 = (n + s + 20) + 1 := by omega
    rw [hN, cS 22 f22 rfl]
    have e0 : ∀ t : T, runF (cls' (n + s + 20)) f22 [.obj g, TN l, .int e] t = match execs (cls' (n + s + 20)) b22 [.val (.obj g), .val (TN l), .val (.int e), .un, .un, .un, .un, .un, .un] t with
      | .nx _ t' => .ok .non t'
      | .ret d t' => .ok d t'
      | .ex c as t' => .ex c as t'
      | _ => .no := fun _ => rfl
    rw [e0]
    have hb : b22 = .cons tL1 (.cons tL2 (.cons tL3 (tl (tl (tl b22))))) := rfl
    rw [hb]
    -- first loop
    have L1 := forL_ret (ck := fun _ => true) (f := forK (.nm 3) fun ρ t => execs (cls' (n + s + 20)) (bodyOf tL1) ρ t) (fg := [3])
      (fun i ρ t' => ρ = [.val (.obj g), .val (TN l), .val (.int e), .un, .un, .un, .un, .un, .un] ∧ t' = t ∧ ∀ q ∈ l.take i, ¬ iAt B q < e)
      (fun _ d t' => ∃ q, q ∈ l ∧ d = .int q ∧ iAt B q < e ∧ t' = t) (fun _ _ _ _ => rfl) (LN l) 0 [.val (.obj g), .val (TN l), .val (.int e), .un, .un, .un, .un, .un, .un] t ⟨rfl, rfl, by simp⟩ (fun i x ρ t' hx hI => by
        obtain ⟨rfl, rfl, hI⟩ := hI
        rw [Nat.zero_add] at *
        rw [LN, List.getElem?_map] at hx
        obtain ⟨q, hq, rfl⟩ := Option.map_eq_some_iff.mp hx
        have hql := List.mem_of_getElem? hq
        have a1 := atI_B B q (by rw [G.len]; exact hl.lt q hql)
        have hg := G.ob
        by_cases hlt : iAt B q < e
        · refine .inr ⟨.int q, t', ?_, q, hql, rfl, hlt, rfl⟩
          simp [runF, ss, es, ts, gs, execs, ev_var, ev_kon, ev_glb, ev_bin, ev_neg, ev_cmp, ev_chn, ev_and, ev_or, ev_not, ev_ife, ev_call, ev_callk, ev_mth, ev_mk, ev_mkk, ev_b1, ev_b2, ev_isi, ev_ix, ev_sl, ev_lst, ev_tup, ev_newL, ev_newD, ev_lobj, ev_dsp, ev_dm, ev_join, ev_fld, exec_asg, exec_setI, exec_setF, exec_aug, exec_mut, exec_ifs, exec_ret, exec_retn, exec_brk, exec_cont, exec_exp, exec_rai, exec_fg, exec_pas, evT, evs, evTAnd, evTOr, evAnd, evOr, evP, evSrc, bo, bnd, frzAll, esT, esTs, esO, esc, escs, esS, escS, opd, opn, look, peek, ofO, cmpD, truthD, thenK, sweep, outR, outF, fresh, asgK, asgT, asgTs, put, binD, b1D, b2D, ixD, ixN, atI_0, atI_1, atI_2, atI_3, atI_4, eqv, eqvs, shp, shps, setK, setX, setO, setOb, isVar, unset, cellOf, frz, valOf, forL, forK, isiD, isiO, items, itemsS, seqs, lenD, fldD, isIns, isNon, isB, inT, mutOk, mutK, muD, ckS, ckC, okP, isDct, dctOf, Pd.getD, augK, setFK, fput, okP, dmD, low, lows, List.lookup, tL1, bodyOf, hd, b22, hg, a1, hlt, DN]
        · refine .inl ⟨_, _, .inl (?_ : _ = Out.nx [.val (.obj g), .val (TN l), .val (.int e), .val (.int q), .un, .un, .un, .un, .un] t'), rfl, rfl, fun z hz => ?_⟩
          · simp [runF, ss, es, ts, gs, execs, ev_var, ev_kon, ev_glb, ev_bin, ev_neg, ev_cmp, ev_chn, ev_and, ev_or, ev_not, ev_ife, ev_call, ev_callk, ev_mth, ev_mk, ev_mkk, ev_b1, ev_b2, ev_isi, ev_ix, ev_sl, ev_lst, ev_tup, ev_newL, ev_newD, ev_lobj, ev_dsp, ev_dm, ev_join, ev_fld, exec_asg, exec_setI, exec_setF, exec_aug, exec_mut, exec_ifs, exec_ret, exec_retn, exec_brk, exec_cont, exec_exp, exec_rai, exec_fg, exec_pas, evT, evs, evTAnd, evTOr, evAnd, evOr, evP, evSrc, bo, bnd, frzAll, esT, esTs, esO, esc, escs, esS, escS, opd, opn, look, peek, ofO, cmpD, truthD, thenK, sweep, outR, outF, fresh, asgK, asgT, asgTs, put, binD, b1D, b2D, ixD, ixN, atI_0, atI_1, atI_2, atI_3, atI_4, eqv, eqvs, shp, shps, setK, setX, setO, setOb, isVar, unset, cellOf, frz, valOf, forL, forK, isiD, isiO, items, itemsS, seqs, lenD, fldD, isIns, isNon, isB, inT, mutOk, mutK, muD, ckS, ckC, okP, isDct, dctOf, Pd.getD, augK, setFK, fput, okP, dmD, low, lows, List.lookup, tL1, bodyOf, hd, b22, hg, a1, hlt, DN]
          · rcases take_succ_mem hq hz with hz | rfl
            · exact hI z hz
            · exact hlt)
    have src1 : evSrc (cls' (n + s + 20)) (.seq (.var 1)) false (frzAll [.val (.obj g), .val (TN l), .val (.int e), .un, .un, .un, .un, .un, .un] (escS (.seq (.var 1)))) t = .ok (LN l) t := by simp [runF, ss, es, ts, gs, execs, ev_var, ev_kon, ev_glb, ev_bin, ev_neg, ev_cmp, ev_chn, ev_and, ev_or, ev_not, ev_ife, ev_call, ev_callk, ev_mth, ev_mk, ev_mkk, ev_b1, ev_b2, ev_isi, ev_ix, ev_sl, ev_lst, ev_tup, ev_newL, ev_newD, ev_lobj, ev_dsp, ev_dm, ev_join, ev_fld, exec_asg, exec_setI, exec_setF, exec_aug, exec_mut, exec_ifs, exec_ret, exec_retn, exec_brk, exec_cont, exec_exp, exec_rai, exec_fg, exec_pas, evT, evs, evTAnd, evTOr, evAnd, evOr, evP, evSrc, bo, bnd, frzAll, esT, esTs, esO, esc, escs, esS, escS, opd, opn, look, peek, ofO, cmpD, truthD, thenK, sweep, outR, outF, fresh, asgK, asgT, asgTs, put, binD, b1D, b2D, ixD, ixN, atI_0, atI_1, atI_2, atI_3, atI_4, eqv, eqvs, shp, shps, setK, setX, setO, setOb, isVar, unset, cellOf, frz, valOf, forL, forK, isiD, isiO, items, itemsS, seqs, lenD, fldD, isIns, isNon, isB, inT, mutOk, mutK, muD, ckS, ckC, okP, isDct, dctOf, Pd.getD, augK, setFK, fput, okP, dmD, low, lows, List.lookup]
    rcases L1 with ⟨ρ', t', e2, rfl, rfl, hI1⟩ | ⟨d, t', i, e2, hi, q, hq, rfl, hlt, rfl⟩
    rotate_left
    · have x1 : exec (cls' (n + s + 20)) tL1 [.val (.obj g), .val (TN l), .val (.int e), .un, .un, .un, .un, .un, .un] t' = .ret (.int q) t' := by
        rw [tL1_eq]; exact exec_forOf src1 e2
      rw [execs_end x1]
      exact ⟨.leaf q, t', rfl, ⟨hq, hlt⟩, G, St.refl k t'⟩
    have x1 : exec (cls' (n + s + 20)) tL1 [.val (.obj g), .val (TN l), .val (.int e), .un, .un, .un, .un, .un, .un] t' = .nx [.val (.obj g), .val (TN l), .val (.int e), .un, .un, .un, .un, .un, .un] t' := by
      rw [tL1_eq]; exact exec_forOf src1 e2
    rw [execs_step x1]
    rw [len_LN, Nat.zero_add, List.take_length] at hI1
    have hF := fun q (hq : q ∈ fnd ws pl l) => (fnd_mem.mp hq)
    have srcP : ∀ u, Gm g k ws B pl u → evSrc (cls' (n + s + 20)) (.seq (.mth 0 28 (.var 0) (es [(.var 1)]))) false (frzAll [.val (.obj g), .val (TN l), .val (.int e), .un, .un, .un, .un, .un, .un] (escS (.seq (.mth 0 28 (.var 0) (es [(.var 1)]))))) u = .ok ((fnd ws pl l).map (encP ws l)) u := fun u Gu => by
      have g3 := Gu.ob
      have i3 := c_parted (n + s + 18) g3 Gu.wd Gu.pl Gu.one l hl
      have i3 : call prg (n + s + 20) 28 [.obj g, TN l] u = .ok (.lst ((fnd ws pl l).map (encP ws l))) u := i3
      generalize (fnd ws pl l).map (encP ws l) = z at i3
      generalize TN l = d at i3
      simp [runF, ss, es, ts, gs, execs, ev_var, ev_kon, ev_glb, ev_bin, ev_neg, ev_cmp, ev_chn, ev_and, ev_or, ev_not, ev_ife, ev_call, ev_callk, ev_mth, ev_mk, ev_mkk, ev_b1, ev_b2, ev_isi, ev_ix, ev_sl, ev_lst, ev_tup, ev_newL, ev_newD, ev_lobj, ev_dsp, ev_dm, ev_join, ev_fld, exec_asg, exec_setI, exec_setF, exec_aug, exec_mut, exec_ifs, exec_ret, exec_retn, exec_brk, exec_cont, exec_exp, exec_rai, exec_fg, exec_pas, evT, evs, evTAnd, evTOr, evAnd, evOr, evP, evSrc, bo, bnd, frzAll, esT, esTs, esO, esc, escs, esS, escS, opd, opn, look, peek, ofO, cmpD, truthD, thenK, sweep, outR, outF, fresh, asgK, asgT, asgTs, put, binD, b1D, b2D, ixD, ixN, atI_0, atI_1, atI_2, atI_3, atI_4, eqv, eqvs, shp, shps, setK, setX, setO, setOb, isVar, unset, cellOf, frz, valOf, forL, forK, isiD, isiO, items, itemsS, seqs, lenD, fldD, isIns, isNon, isB, inT, mutOk, mutK, muD, ckS, ckC, okP, isDct, dctOf, Pd.getD, augK, setFK, fput, okP, dmD, low, lows, List.lookup, g3, i3]
    -- second loop
    have L2 := forL_ret (ck := fun _ => true) (f := forK (.tp (gs [(.nm 4), (.nm 5), (.nm 6)])) fun ρ t => execs (cls' (n + s + 20)) (bodyOf tL2) ρ t) (fg := [4, 5, 6])
      (fun i ρ u => ρ = [.val (.obj g), .val (TN l), .val (.int e), .un, .un, .un, .un, .un, .un] ∧ Gm g k ws B pl u ∧ St k t' u ∧ ∀ p ∈ (fnd ws pl l).take i, ¬ (-e - 1 < Need ws (iAt B) pl (lo ws p l) ∧ -e - 1 < Need ws (iAt B) pl (up ws p l)))
      (fun _ d u => ∃ tr, d = Tr.enc tr ∧ Win ws (iAt B) pl tr l e ∧ Gm g k ws B pl u ∧ St k t' u) (fun _ _ _ _ => rfl) ((fnd ws pl l).map (encP ws l)) 0 [.val (.obj g), .val (TN l), .val (.int e), .un, .un, .un, .un, .un, .un] t' ⟨rfl, G, St.refl k t', by simp⟩ (fun i x ρ u hx hI => by
        obtain ⟨rfl, Gu, su, hI⟩ := hI
        rw [Nat.zero_add] at *
        rw [List.getElem?_map] at hx
        obtain ⟨p, hp, rfl⟩ := Option.map_eq_some_iff.mp hx
        have hpm := hF p (List.mem_of_getElem? hp)
        have hlt := hpm.2.lt
        obtain ⟨u1, i1, G1, s1⟩ := gLeast (n + s + 1) Gu (lo ws p l) hpm.2.1 (hl.lo ws p)
        obtain ⟨u2, i2, G2, s2⟩ := gLeast (n + s + 1) G1 (up ws p l) hpm.2.2 (hl.up ws p)
        have q1 := isInsG Gu.ob
        have q2 := isInsG G1.ob
        have q3 := isInsG G2.ob
        simp only [isIns] at q1 q2 q3
        have i1 : call prg (n + s + 20) 29 [.obj g, TN (lo ws p l)] u = .ok (.int (Need ws (iAt B) pl (lo ws p l))) u1 := i1
        have i2 : call prg (n + s + 20) 29 [.obj g, TN (up ws p l)] u1 = .ok (.int (Need ws (iAt B) pl (up ws p l))) u2 := i2
        by_cases hw : -e - 1 < Need ws (iAt B) pl (lo ws p l) ∧ -e - 1 < Need ws (iAt B) pl (up ws p l)
        · obtain ⟨tr1, u3, i4, w1, G3, s3⟩ := ih (lo ws p l) (e + 1) u2 G2 (by omega) hpm.2.1 (hl.lo ws p) (by omega)
          obtain ⟨tr2, u4, i5, w2, G4, s4⟩ := ih (up ws p l) (e + 1) u3 G3 (by omega) hpm.2.2 (hl.up ws p) (by omega)
          have q4 := isInsG G3.ob
          simp only [isIns] at q4
          refine .inr ⟨(Tr.node p tr1 tr2).enc, u4, ?_, .node p tr1 tr2, rfl, ⟨hpm.1, hpm.2, w1, w2⟩, G4, su.trans (s1.trans (s2.trans (s3.trans s4)))⟩
          unfold encP Tr.enc
          generalize Need ws (iAt B) pl (lo ws p l) = v1 at i1 hw
          generalize Need ws (iAt B) pl (up ws p l) = v2 at i2 hw
          generalize lo ws p l = a at i1 i4
          generalize up ws p l = b at i2 i5
          have hc : 0 < (if v2 < v1 then v2 else v1) + e + 1 := by split <;> omega
          simp [runF, ss, es, ts, gs, execs, ev_var, ev_kon, ev_glb, ev_bin, ev_neg, ev_cmp, ev_chn, ev_and, ev_or, ev_not, ev_ife, ev_call, ev_callk, ev_mth, ev_mk, ev_mkk, ev_b1, ev_b2, ev_isi, ev_ix, ev_sl, ev_lst, ev_tup, ev_newL, ev_newD, ev_lobj, ev_dsp, ev_dm, ev_join, ev_fld, exec_asg, exec_setI, exec_setF, exec_aug, exec_mut, exec_ifs, exec_ret, exec_retn, exec_brk, exec_cont, exec_exp, exec_rai, exec_fg, exec_pas, evT, evs, evTAnd, evTOr, evAnd, evOr, evP, evSrc, bo, bnd, frzAll, esT, esTs, esO, esc, escs, esS, escS, opd, opn, look, peek, ofO, cmpD, truthD, thenK, sweep, outR, outF, fresh, asgK, asgT, asgTs, put, binD, b1D, b2D, ixD, ixN, atI_0, atI_1, atI_2, atI_3, atI_4, eqv, eqvs, shp, shps, setK, setX, setO, setOb, isVar, unset, cellOf, frz, valOf, forL, forK, isiD, isiO, items, itemsS, seqs, lenD, fldD, isIns, isNon, isB, inT, mutOk, mutK, muD, ckS, ckC, okP, isDct, dctOf, Pd.getD, augK, setFK, fput, okP, dmD, low, lows, List.lookup, tL2, bodyOf, hd, tl, b22, q1, q2, q3, q4, i1, i2, i4, i5, hc]
        · refine .inl ⟨_, _, .inl (?_ : _ = Out.nx [.val (.obj g), .val (TN l), .val (.int e), .un, .val (.int p), .val (TN (lo ws p l)), .val (TN (up ws p l)), .un, .un] u2), rfl, G2, su.trans (s1.trans s2), fun z hz => ?_⟩
          · unfold encP
            generalize Need ws (iAt B) pl (lo ws p l) = v1 at i1 hw
            generalize Need ws (iAt B) pl (up ws p l) = v2 at i2 hw
            generalize lo ws p l = a at i1
            generalize up ws p l = b at i2
            have hc : ¬ 0 < (if v2 < v1 then v2 else v1) + e + 1 := by split <;> omega
            simp [runF, ss, es, ts, gs, execs, ev_var, ev_kon, ev_glb, ev_bin, ev_neg, ev_cmp, ev_chn, ev_and, ev_or, ev_not, ev_ife, ev_call, ev_callk, ev_mth, ev_mk, ev_mkk, ev_b1, ev_b2, ev_isi, ev_ix, ev_sl, ev_lst, ev_tup, ev_newL, ev_newD, ev_lobj, ev_dsp, ev_dm, ev_join, ev_fld, exec_asg, exec_setI, exec_setF, exec_aug, exec_mut, exec_ifs, exec_ret, exec_retn, exec_brk, exec_cont, exec_exp, exec_rai, exec_fg, exec_pas, evT, evs, evTAnd, evTOr, evAnd, evOr, evP, evSrc, bo, bnd, frzAll, esT, esTs, esO, esc, escs, esS, escS, opd, opn, look, peek, ofO, cmpD, truthD, thenK, sweep, outR, outF, fresh, asgK, asgT, asgTs, put, binD, b1D, b2D, ixD, ixN, atI_0, atI_1, atI_2, atI_3, atI_4, eqv, eqvs, shp, shps, setK, setX, setO, setOb, isVar, unset, cellOf, frz, valOf, forL, forK, isiD, isiO, items, itemsS, seqs, lenD, fldD, isIns, isNon, isB, inT, mutOk, mutK, muD, ckS, ckC, okP, isDct, dctOf, Pd.getD, augK, setFK, fput, okP, dmD, low, lows, List.lookup, tL2, bodyOf, hd, tl, b22, q1, q2, i1, i2, hc]
          · rcases take_succ_mem hp hz with hz | rfl
            · exact hI z hz
            · exact hw)
    rcases L2 with ⟨ρ', u, e3, rfl, Gu, su, hI2⟩ | ⟨d, u, i, e3, hi, tr, rfl, w, Gu, su⟩
    rotate_left
    · have x2 : exec (cls' (n + s + 20)) tL2 [.val (.obj g), .val (TN l), .val (.int e), .un, .un, .un, .un, .un, .un] t' = .ret tr.enc u := by
        rw [tL2_eq]; exact exec_forOf (srcP t' G) e3
      rw [execs_end x2]
      exact ⟨tr, u, rfl, w, Gu, su⟩
    have x2 : exec (cls' (n + s + 20)) tL2 [.val (.obj g), .val (TN l), .val (.int e), .un, .un, .un, .un, .un, .un] t' = .nx [.val (.obj g), .val (TN l), .val (.int e), .un, .un, .un, .un, .un, .un] u := by
      rw [tL2_eq]; exact exec_forOf (srcP t' G) e3
    rw [execs_step x2]
    rw [List.length_map, Nat.zero_add, List.take_length] at hI2
    -- third loop
    have L3 := forL_ret (ck := fun _ => true) (f := forK (.tp (gs [(.nm 7), (.nm 5), (.nm 6)])) fun ρ t => execs (cls' (n + s + 20)) (bodyOf tL3) ρ t) (fg := [5, 6, 7, 8])
      (fun i ρ v => ρ = [.val (.obj g), .val (TN l), .val (.int e), .un, .un, .un, .un, .un, .un] ∧ Gm g k ws B pl v ∧ St k t' v ∧ ∀ p ∈ (fnd ws pl l).take i, ¬ (-e < Need ws (iAt B) pl (lo ws p l) ∨ -e < Need ws (iAt B) pl (up ws p l)))
      (fun _ d v => ∃ tr, d = Tr.enc tr ∧ Win ws (iAt B) pl tr l e ∧ Gm g k ws B pl v ∧ St k t' v) (fun _ _ _ _ => rfl) ((fnd ws pl l).map (encP ws l)) 0 [.val (.obj g), .val (TN l), .val (.int e), .un, .un, .un, .un, .un, .un] u ⟨rfl, Gu, su, by simp⟩ (fun i x ρ v hx hI => by
        obtain ⟨rfl, Gv, sv, hI⟩ := hI
        rw [Nat.zero_add] at *
        rw [List.getElem?_map] at hx
        obtain ⟨p, hp, rfl⟩ := Option.map_eq_some_iff.mp hx
        have hpm := hF p (List.mem_of_getElem? hp)
        have hlt := hpm.2.lt
        obtain ⟨u1, i1, G1, s1⟩ := gLeast (n + s + 1) Gv (lo ws p l) hpm.2.1 (hl.lo ws p)
        have q1 := isInsG Gv.ob
        have q2 := isInsG G1.ob
        simp only [isIns] at q1 q2
        have i1 : call prg (n + s + 20) 29 [.obj g, TN (lo ws p l)] v = .ok (.int (Need ws (iAt B) pl (lo ws p l))) u1 := i1
        by_cases hw1 : -e < Need ws (iAt B) pl (lo ws p l)
        · obtain ⟨tr1, u3, i4, w1, G3, s3⟩ := ih (lo ws p l) e u1 G1 (by omega) hpm.2.1 (hl.lo ws p) (by omega)
          refine .inr ⟨tr1.enc, u3, ?_, tr1, rfl, w1.mono tr1 (fun q hq => lo_sub hq), G3, sv.trans (s1.trans s3)⟩
          unfold encP
          generalize Need ws (iAt B) pl (lo ws p l) = v1 at i1 hw1
          generalize lo ws p l = a at i1 i4
          have hc : 0 < v1 + e := by omega
          simp [runF, ss, es, ts, gs, execs, ev_var, ev_kon, ev_glb, ev_bin, ev_neg, ev_cmp, ev_chn, ev_and, ev_or, ev_not, ev_ife, ev_call, ev_callk, ev_mth, ev_mk, ev_mkk, ev_b1, ev_b2, ev_isi, ev_ix, ev_sl, ev_lst, ev_tup, ev_newL, ev_newD, ev_lobj, ev_dsp, ev_dm, ev_join, ev_fld, exec_asg, exec_setI, exec_setF, exec_aug, exec_mut, exec_ifs, exec_ret, exec_retn, exec_brk, exec_cont, exec_exp, exec_rai, exec_fg, exec_pas, evT, evs, evTAnd, evTOr, evAnd, evOr, evP, evSrc, bo, bnd, frzAll, esT, esTs, esO, esc, escs, esS, escS, opd, opn, look, peek, ofO, cmpD, truthD, thenK, sweep, outR, outF, fresh, asgK, asgT, asgTs, put, binD, b1D, b2D, ixD, ixN, atI_0, atI_1, atI_2, atI_3, atI_4, eqv, eqvs, shp, shps, setK, setX, setO, setOb, isVar, unset, cellOf, frz, valOf, forL, forK, isiD, isiO, items, itemsS, seqs, lenD, fldD, isIns, isNon, isB, inT, mutOk, mutK, muD, ckS, ckC, okP, isDct, dctOf, Pd.getD, augK, setFK, fput, okP, dmD, low, lows, List.lookup, exec_for, tL3, bodyOf, hd, tl, b22, q1, q2, i1, i4, hc]
        obtain ⟨u2, i2, G2, s2⟩ := gLeast (n + s + 1) G1 (up ws p l) hpm.2.2 (hl.up ws p)
        have q3 := isInsG G2.ob
        simp only [isIns] at q3
        have i2 : call prg (n + s + 20) 29 [.obj g, TN (up ws p l)] u1 = .ok (.int (Need ws (iAt B) pl (up ws p l))) u2 := i2
        by_cases hw2 : -e < Need ws (iAt B) pl (up ws p l)
        · obtain ⟨tr1, u3, i4, w1, G3, s3⟩ := ih (up ws p l) e u2 G2 (by omega) hpm.2.2 (hl.up ws p) (by omega)
          refine .inr ⟨tr1.enc, u3, ?_, tr1, rfl, w1.mono tr1 (fun q hq => up_sub hq), G3, sv.trans (s1.trans (s2.trans s3))⟩
          unfold encP
          generalize Need ws (iAt B) pl (lo ws p l) = v1 at i1 hw1
          generalize Need ws (iAt B) pl (up ws p l) = v2 at i2 hw2
          generalize lo ws p l = a at i1
          generalize up ws p l = b at i2 i4
          have hc : ¬ 0 < v1 + e := by omega
          have hc2 : 0 < v2 + e := by omega
          simp [runF, ss, es, ts, gs, execs, ev_var, ev_kon, ev_glb, ev_bin, ev_neg, ev_cmp, ev_chn, ev_and, ev_or, ev_not, ev_ife, ev_call, ev_callk, ev_mth, ev_mk, ev_mkk, ev_b1, ev_b2, ev_isi, ev_ix, ev_sl, ev_lst, ev_tup, ev_newL, ev_newD, ev_lobj, ev_dsp, ev_dm, ev_join, ev_fld, exec_asg, exec_setI, exec_setF, exec_aug, exec_mut, exec_ifs, exec_ret, exec_retn, exec_brk, exec_cont, exec_exp, exec_rai, exec_fg, exec_pas, evT, evs, evTAnd, evTOr, evAnd, evOr, evP, evSrc, bo, bnd, frzAll, esT, esTs, esO, esc, escs, esS, escS, opd, opn, look, peek, ofO, cmpD, truthD, thenK, sweep, outR, outF, fresh, asgK, asgT, asgTs, put, binD, b1D, b2D, ixD, ixN, atI_0, atI_1, atI_2, atI_3, atI_4, eqv, eqvs, shp, shps, setK, setX, setO, setOb, isVar, unset, cellOf, frz, valOf, forL, forK, isiD, isiO, items, itemsS, seqs, lenD, fldD, isIns, isNon, isB, inT, mutOk, mutK, muD, ckS, ckC, okP, isDct, dctOf, Pd.getD, augK, setFK, fput, okP, dmD, low, lows, List.lookup, exec_for, tL3, bodyOf, hd, tl, b22, q1, q2, q3, i1, i2, i4, hc, hc2]
        · refine .inl ⟨_, _, .inl (?_ : _ = Out.nx [.val (.obj g), .val (TN l), .val (.int e), .un, .un, .val (TN (lo ws p l)), .val (TN (up ws p l)), .val (.int p), .un] u2), rfl, G2, sv.trans (s1.trans s2), fun z hz => ?_⟩
          · unfold encP
            generalize Need ws (iAt B) pl (lo ws p l) = v1 at i1 hw1
            generalize Need ws (iAt B) pl (up ws p l) = v2 at i2 hw2
            generalize lo ws p l = a at i1
            generalize up ws p l = b at i2
            have hc : ¬ 0 < v1 + e := by omega
            have hc2 : ¬ 0 < v2 + e := by omega
            simp [runF, ss, es, ts, gs, execs, ev_var, ev_kon, ev_glb, ev_bin, ev_neg, ev_cmp, ev_chn, ev_and, ev_or, ev_not, ev_ife, ev_call, ev_callk, ev_mth, ev_mk, ev_mkk, ev_b1, ev_b2, ev_isi, ev_ix, ev_sl, ev_lst, ev_tup, ev_newL, ev_newD, ev_lobj, ev_dsp, ev_dm, ev_join, ev_fld, exec_asg, exec_setI, exec_setF, exec_aug, exec_mut, exec_ifs, exec_ret, exec_retn, exec_brk, exec_cont, exec_exp, exec_rai, exec_fg, exec_pas, evT, evs, evTAnd, evTOr, evAnd, evOr, evP, evSrc, bo, bnd, frzAll, esT, esTs, esO, esc, escs, esS, escS, opd, opn, look, peek, ofO, cmpD, truthD, thenK, sweep, outR, outF, fresh, asgK, asgT, asgTs, put, binD, b1D, b2D, ixD, ixN, atI_0, atI_1, atI_2, atI_3, atI_4, eqv, eqvs, shp, shps, setK, setX, setO, setOb, isVar, unset, cellOf, frz, valOf, forL, forK, isiD, isiO, items, itemsS, seqs, lenD, fldD, isIns, isNon, isB, inT, mutOk, mutK, muD, ckS, ckC, okP, isDct, dctOf, Pd.getD, augK, setFK, fput, okP, dmD, low, lows, List.lookup, exec_for, tL3, bodyOf, hd, tl, b22, q1, q2, i1, i2, hc, hc2]
          · rcases take_succ_mem hp hz with hz | rfl
            · exact hI z hz
            · exact fun z => z.elim hw1 hw2)
    rcases L3 with ⟨ρ', v, e4, rfl, Gv, sv, hI3⟩ | ⟨d, v, i, e4, hi, tr, rfl, w, Gv, sv⟩
    rotate_left
    · have x3 : exec (cls' (n + s + 20)) tL3 [.val (.obj g), .val (TN l), .val (.int e), .un, .un, .un, .un, .un, .un] u = .ret tr.enc v := by
        rw [tL3_eq]; exact exec_forOf (srcP u Gu) e4
      rw [execs_end x3]
      exact ⟨tr, v, rfl, w, Gv, sv⟩
    rw [List.length_map, Nat.zero_add, List.take_length] at hI3
    exfalso
    rcases (lt_Need ws (iAt B) pl l h2 (-e)).mp (by omega) with ⟨q, hq, hv⟩ | ⟨p, hp, hpp, h⟩
    · exact hI1 q hq (by omega)
    · have hpf := fnd_mem.mpr ⟨hp, hpp⟩
      have z2 := hI2 p hpf
      have z3 := hI3 p hpf
      omega
end K85
set_option maxRecDepth 100000
set_option linter.all false
set_option autoImplicit false
/-! tree, judge, alike, masks -/
namespace K85
open Pd Pt
section
variable {g k pl : Nat} {ws : List (List Nat)} {B : List Int}
theorem c_tree (n : Nat) {t : T} (G : Gm g k ws B pl t) : ∃ d t', call prg (n + 37) 16 [.obj g] t = .ok d t' ∧ Gm g k ws B pl t' ∧ St k t t' ∧ (Need ws (iAt B) pl (List.range ws.length) ≤ 0 → d = .non) ∧ (0 < Need ws (iAt B) pl (List.range ws.length) → ∃ tr, d = Tr.enc tr ∧ Win ws (iAt B) pl tr (List.range ws.length) 0) := by
  obtain ⟨t1, e1, G1, s1⟩ := c_isKept (n + 15) G
  have q1 := isInsG G.ob
  have q2 := isInsG G1.ob
  simp only [isIns] at q1 q2
  have e1 : call prg (n + 36) 17 [.obj g] t = .ok (.bl (decide (Need ws (iAt B) pl (List.range ws.length) ≤ 0))) t1 := e1
  rw [cS 16 f16 rfl]
  by_cases h : Need ws (iAt B) pl (List.range ws.length) ≤ 0
  · refine ⟨.non, t1, ?_, G1, s1, fun _ => rfl, fun z => by omega⟩
    simp only [h, decide_true] at e1
    simp [runF, ss, es, ts, gs, execs, ev_var, ev_kon, ev_glb, ev_bin, ev_neg, ev_cmp, ev_chn, ev_and, ev_or, ev_not, ev_ife, ev_call, ev_callk, ev_mth, ev_mk, ev_mkk, ev_b1, ev_b2, ev_isi, ev_ix, ev_sl, ev_lst, ev_tup, ev_newL, ev_newD, ev_lobj, ev_dsp, ev_dm, ev_join, ev_fld, exec_asg, exec_setI, exec_setF, exec_aug, exec_mut, exec_ifs, exec_ret, exec_retn, exec_brk, exec_cont, exec_exp, exec_rai, exec_fg, exec_pas, evT, evs, evTAnd, evTOr, evAnd, evOr, evP, evSrc, bo, bnd, frzAll, esT, esTs, esO, esc, escs, esS, escS, opd, opn, look, peek, ofO, cmpD, truthD, thenK, sweep, outR, outF, fresh, asgK, asgT, asgTs, put, binD, b1D, b2D, ixD, ixN, atI_0, atI_1, atI_2, atI_3, atI_4, eqv, eqvs, shp, shps, setK, setX, setO, setOb, isVar, unset, cellOf, frz, valOf, forL, forK, isiD, isiO, items, itemsS, seqs, lenD, fldD, isIns, isNon, isB, inT, mutOk, mutK, muD, ckS, ckC, okP, isDct, dctOf, Pd.getD, augK, setFK, fput, okP, dmD, low, lows, List.lookup, f16, b16, q1, e1]
  · have e2 := c_all (n + 35) G1
    obtain ⟨tr, t2, e3, w, G2, s2⟩ := c_treeOf n 16 (List.range ws.length) 0 t1 G1 (by rw [List.length_range]; exact G.top) (range_ne G.one) (Lot.all _) (by omega)
    refine ⟨tr.enc, t2, ?_, G2, s1.trans s2, fun z => absurd z h, fun _ => ⟨tr, rfl, w⟩⟩
    simp only [h, decide_false] at e1
    have e3 : call prg (n + 36) 22 [.obj g, TN (List.range ws.length), .int 0] t1 = .ok tr.enc t2 := e3
    have e2 : call prg (n + 36) 23 [.obj g] t1 = .ok (TN (List.range ws.length)) t1 := e2
    generalize TN (List.range ws.length) = d at e2 e3
    simp [runF, ss, es, ts, gs, execs, ev_var, ev_kon, ev_glb, ev_bin, ev_neg, ev_cmp, ev_chn, ev_and, ev_or, ev_not, ev_ife, ev_call, ev_callk, ev_mth, ev_mk, ev_mkk, ev_b1, ev_b2, ev_isi, ev_ix, ev_sl, ev_lst, ev_tup, ev_newL, ev_newD, ev_lobj, ev_dsp, ev_dm, ev_join, ev_fld, exec_asg, exec_setI, exec_setF, exec_aug, exec_mut, exec_ifs, exec_ret, exec_retn, exec_brk, exec_cont, exec_exp, exec_rai, exec_fg, exec_pas, evT, evs, evTAnd, evTOr, evAnd, evOr, evP, evSrc, bo, bnd, frzAll, esT, esTs, esO, esc, escs, esS, escS, opd, opn, look, peek, ofO, cmpD, truthD, thenK, sweep, outR, outF, fresh, asgK, asgT, asgTs, put, binD, b1D, b2D, ixD, ixN, atI_0, atI_1, atI_2, atI_3, atI_4, eqv, eqvs, shp, shps, setK, setX, setO, setOb, isVar, unset, cellOf, frz, valOf, forL, forK, isiD, isiO, items, itemsS, seqs, lenD, fldD, isIns, isNon, isB, inT, mutOk, mutK, muD, ckS, ckC, okP, isDct, dctOf, Pd.getD, augK, setFK, fput, okP, dmD, low, lows, List.lookup, f16, b16, q1, q2, e1, e2, e3]
theorem c_knot (n p : Nat) (a b : D) (t : T) (hp : p < pl) : call prg (n + 3) 31 [.tup [.int p, a, b], .int pl] t = .ok (.bl true) t := by
  rw [cS 31 f31 rfl]
  have e := c_between n p 0 ((pl : Int) - 1) t
  have h1 : ((0 : Int) ≤ p ∧ (p : Int) ≤ (pl : Int) - 1) = True := by simp only [eq_iff_iff, iff_true]; omega
  rw [decide_eq_true (by omega)] at e
  simp [runF, ss, es, ts, gs, execs, ev_var, ev_kon, ev_glb, ev_bin, ev_neg, ev_cmp, ev_chn, ev_and, ev_or, ev_not, ev_ife, ev_call, ev_callk, ev_mth, ev_mk, ev_mkk, ev_b1, ev_b2, ev_isi, ev_ix, ev_sl, ev_lst, ev_tup, ev_newL, ev_newD, ev_lobj, ev_dsp, ev_dm, ev_join, ev_fld, exec_asg, exec_setI, exec_setF, exec_aug, exec_mut, exec_ifs, exec_ret, exec_retn, exec_brk, exec_cont, exec_exp, exec_rai, exec_fg, exec_pas, evT, evs, evTAnd, evTOr, evAnd, evOr, evP, evSrc, bo, bnd, frzAll, esT, esTs, esO, esc, escs, esS, escS, opd, opn, look, peek, ofO, cmpD, truthD, thenK, sweep, outR, outF, fresh, asgK, asgT, asgTs, put, binD, b1D, b2D, ixD, ixN, atI_0, atI_1, atI_2, atI_3, atI_4, eqv, eqvs, shp, shps, setK, setX, setO, setOb, isVar, unset, cellOf, frz, valOf, forL, forK, isiD, isiO, items, itemsS, seqs, lenD, fldD, isIns, isNon, isB, inT, mutOk, mutK, muD, ckS, ckC, okP, isDct, dctOf, Pd.getD, augK, setFK, fput, okP, dmD, low, lows, List.lookup, f31, b31, e]
theorem c_holds (n : Nat) {t : T} (hg : t[g]? = some (gObj ws B k)) (hw : Wd ws pl) (h1 : 1 ≤ ws.length) (hB : B.length = ws.length) : ∀ (tr : Tr) (d : Nat), tr.dep ≤ d → tr.wf pl ws.length → ∀ (l : List Nat) (e : Int), Lot ws.length l → call prg (n + d + 4) 25 [.obj g, tr.enc, TN l, .int e] t = .ok (.bl (hold ws (iAt B) tr l e)) t := by
  intro tr
  induction tr with
  | leaf q =>
    intro d _ hq l e hl
    rw [cS 25 f25 rfl]
    have i1 := c_integer (n + d + 2) q t
    have i1 : call prg (n + d + 3) 30 [.int q] t = .ok (.bl true) t := i1
    have i2 := inD_TN l q
    have a1 := atI_B B q (by rw [hB]; exact hq)
    unfold hold Tr.enc
    generalize iAt B q = v at a1
    by_cases h2 : q ∈ l
    · simp [runF, ss, es, ts, gs, execs, ev_var, ev_kon, ev_glb, ev_bin, ev_neg, ev_cmp, ev_chn, ev_and, ev_or, ev_not, ev_ife, ev_call, ev_callk, ev_mth, ev_mk, ev_mkk, ev_b1, ev_b2, ev_isi, ev_ix, ev_sl, ev_lst, ev_tup, ev_newL, ev_newD, ev_lobj, ev_dsp, ev_dm, ev_join, ev_fld, exec_asg, exec_setI, exec_setF, exec_aug, exec_mut, exec_ifs, exec_ret, exec_retn, exec_brk, exec_cont, exec_exp, exec_rai, exec_fg, exec_pas, evT, evs, evTAnd, evTOr, evAnd, evOr, evP, evSrc, bo, bnd, frzAll, esT, esTs, esO, esc, escs, esS, escS, opd, opn, look, peek, ofO, cmpD, truthD, thenK, sweep, outR, outF, fresh, asgK, asgT, asgTs, put, binD, b1D, b2D, ixD, ixN, atI_0, atI_1, atI_2, atI_3, atI_4, eqv, eqvs, shp, shps, setK, setX, setO, setOb, isVar, unset, cellOf, frz, valOf, forL, forK, isiD, isiO, items, itemsS, seqs, lenD, fldD, isIns, isNon, isB, inT, mutOk, mutK, muD, ckS, ckC, okP, isDct, dctOf, Pd.getD, augK, setFK, fput, okP, dmD, low, lows, List.lookup, f25, b25, i1, i2, h2, hg, a1]
    · simp [runF, ss, es, ts, gs, execs, ev_var, ev_kon, ev_glb, ev_bin, ev_neg, ev_cmp, ev_chn, ev_and, ev_or, ev_not, ev_ife, ev_call, ev_callk, ev_mth, ev_mk, ev_mkk, ev_b1, ev_b2, ev_isi, ev_ix, ev_sl, ev_lst, ev_tup, ev_newL, ev_newD, ev_lobj, ev_dsp, ev_dm, ev_join, ev_fld, exec_asg, exec_setI, exec_setF, exec_aug, exec_mut, exec_ifs, exec_ret, exec_retn, exec_brk, exec_cont, exec_exp, exec_rai, exec_fg, exec_pas, evT, evs, evTAnd, evTOr, evAnd, evOr, evP, evSrc, bo, bnd, frzAll, esT, esTs, esO, esc, escs, esS, escS, opd, opn, look, peek, ofO, cmpD, truthD, thenK, sweep, outR, outF, fresh, asgK, asgT, asgTs, put, binD, b1D, b2D, ixD, ixN, atI_0, atI_1, atI_2, atI_3, atI_4, eqv, eqvs, shp, shps, setK, setX, setO, setOb, isVar, unset, cellOf, frz, valOf, forL, forK, isiD, isiO, items, itemsS, seqs, lenD, fldD, isIns, isNon, isB, inT, mutOk, mutK, muD, ckS, ckC, okP, isDct, dctOf, Pd.getD, augK, setFK, fput, okP, dmD, low, lows, List.lookup, f25, b25, i1, i2, h2]
  | node p a b iha ihb =>
    intro d hd hwf l e hl
    have hd : a.dep + b.dep + 1 ≤ d := hd
    obtain ⟨c, rfl⟩ : ∃ c, d = c + 1 := ⟨d - 1, by omega⟩
    rw [show n + (c + 1) + 4 = (n + c + 4) + 1 by omega, cS 25 f25 rfl]
    have i1 : call prg (n + c + 4) 30 [.tup [.int p, a.enc, b.enc]] t = .ok (.bl false) t := c_integerT (n + c + 3) [.int p, a.enc, b.enc] t
    have i2 : call prg (n + c + 4) 31 [.tup [.int p, a.enc, b.enc], .int pl] t = .ok (.bl true) t := c_knot (n + c + 1) p a.enc b.enc t hwf.1
    have i3 : call prg (n + c + 4) 32 [.obj g, TN l, .int p] t = .ok (.tup [TN (lo ws p l), TN (up ws p l)]) t := c_parts (n + c + 3) hg hw l hl p hwf.1
    have i4 := iha c (by omega) hwf.2.1 (lo ws p l) (e + 1) (hl.lo ws p)
    have i5 := ihb c (by omega) hwf.2.2 (up ws p l) (e + 1) (hl.up ws p)
    have a1 := atI_W ws 0 (by omega)
    have a1 : atI (ws.map D.str) 0 = some (.str (wAt ws 0)) := a1
    have a2 := hw.len _ (wAt_mem (ws := ws) (q := 0) (by omega))
    unfold hold Tr.enc
    generalize hold ws (iAt B) a (lo ws p l) (e + 1) = r1 at i4
    generalize hold ws (iAt B) b (up ws p l) (e + 1) = r2 at i5
    generalize a.enc = da at i1 i2 i4
    generalize b.enc = db at i1 i2 i5
    generalize TN (lo ws p l) = x1 at i3 i4
    generalize TN (up ws p l) = x2 at i3 i5
    generalize TN l = x0 at i3
    cases r1
    · simp [runF, ss, es, ts, gs, execs, ev_var, ev_kon, ev_glb, ev_bin, ev_neg, ev_cmp, ev_chn, ev_and, ev_or, ev_not, ev_ife, ev_call, ev_callk, ev_mth, ev_mk, ev_mkk, ev_b1, ev_b2, ev_isi, ev_ix, ev_sl, ev_lst, ev_tup, ev_newL, ev_newD, ev_lobj, ev_dsp, ev_dm, ev_join, ev_fld, exec_asg, exec_setI, exec_setF, exec_aug, exec_mut, exec_ifs, exec_ret, exec_retn, exec_brk, exec_cont, exec_exp, exec_rai, exec_fg, exec_pas, evT, evs, evTAnd, evTOr, evAnd, evOr, evP, evSrc, bo, bnd, frzAll, esT, esTs, esO, esc, escs, esS, escS, opd, opn, look, peek, ofO, cmpD, truthD, thenK, sweep, outR, outF, fresh, asgK, asgT, asgTs, put, binD, b1D, b2D, ixD, ixN, atI_0, atI_1, atI_2, atI_3, atI_4, eqv, eqvs, shp, shps, setK, setX, setO, setOb, isVar, unset, cellOf, frz, valOf, forL, forK, isiD, isiO, items, itemsS, seqs, lenD, fldD, isIns, isNon, isB, inT, mutOk, mutK, muD, ckS, ckC, okP, isDct, dctOf, Pd.getD, augK, setFK, fput, okP, dmD, low, lows, List.lookup, f25, b25, i1, i2, i3, i4, hg, a1, a2]
    · simp [runF, ss, es, ts, gs, execs, ev_var, ev_kon, ev_glb, ev_bin, ev_neg, ev_cmp, ev_chn, ev_and, ev_or, ev_not, ev_ife, ev_call, ev_callk, ev_mth, ev_mk, ev_mkk, ev_b1, ev_b2, ev_isi, ev_ix, ev_sl, ev_lst, ev_tup, ev_newL, ev_newD, ev_lobj, ev_dsp, ev_dm, ev_join, ev_fld, exec_asg, exec_setI, exec_setF, exec_aug, exec_mut, exec_ifs, exec_ret, exec_retn, exec_brk, exec_cont, exec_exp, exec_rai, exec_fg, exec_pas, evT, evs, evTAnd, evTOr, evAnd, evOr, evP, evSrc, bo, bnd, frzAll, esT, esTs, esO, esc, escs, esS, escS, opd, opn, look, peek, ofO, cmpD, truthD, thenK, sweep, outR, outF, fresh, asgK, asgT, asgTs, put, binD, b1D, b2D, ixD, ixN, atI_0, atI_1, atI_2, atI_3, atI_4, eqv, eqvs, shp, shps, setK, setX, setO, setOb, isVar, unset, cellOf, frz, valOf, forL, forK, isiD, isiO, items, itemsS, seqs, lenD, fldD, isIns, isNon, isB, inT, mutOk, mutK, muD, ckS, ckC, okP, isDct, dctOf, Pd.getD, augK, setFK, fput, okP, dmD, low, lows, List.lookup, f25, b25, i1, i2, i3, i4, i5, hg, a1, a2]
theorem c_judge (n : Nat) {t : T} {x y : D} (hw : Wd ws pl) (h1 : 1 ≤ ws.length) (h9 : ws.length ≤ 16) (hx : Hd (ws.map .str) x t) (hP : ∀ b ∈ B, 0 ≤ b) (hB : B.length = ws.length) (hy : Hd (B.map .int) y t) (tr : Tr) (hd : tr.dep ≤ 16) (hwf : tr.wf pl ws.length) : ∃ t', call prg (n + 26) 19 [x, y, tr.enc] t = .ok (.bl (hold ws (iAt B) tr (List.range ws.length) 0)) t' ∧ Fr (fun _ => False) t t' := by
  have i1 := c_init (n + 20) hw h1 hx hP hB hy
  refine ⟨_, ?_, Fr.app _ t [gObj ws B (t.length + 1), .dct true []]⟩
  have hg : (t ++ [gObj ws B (t.length + 1), .dct true []])[t.length]? = some (gObj ws B (t.length + 1)) := by simp
  have i3 := c_holds (n + 5) hg hw h1 hB tr 16 hd hwf (List.range ws.length) 0 (Lot.all _)
  have i3 : call prg (n + 25) 25 [.obj t.length, tr.enc, TN (List.range ws.length), .int 0] (t ++ [gObj ws B (t.length + 1), .dct true []]) = .ok (.bl (hold ws (iAt B) tr (List.range ws.length) 0)) (t ++ [gObj ws B (t.length + 1), .dct true []]) := i3
  have i1 : mkC prg (fun j as t => call prg (n + 25) j as t) 0 [x, y] t = .ok (.obj t.length) (t ++ [gObj ws B (t.length + 1), .dct true []]) := i1
  have i2 : call prg (n + 25) 23 [.obj t.length] (t ++ [gObj ws B (t.length + 1), .dct true []]) = .ok (TN (List.range ws.length)) (t ++ [gObj ws B (t.length + 1), .dct true []]) := by
    rw [cS 23 f23 rfl]
    have h3 : (-1000000 : Int) ≤ (ws.length : Int) := by omega
    have h4 : (ws.length : Int) ≤ 1000000 := by omega
    have hr := range0_LN ws.length
    generalize t ++ [gObj ws B (t.length + 1), .dct true []] = u at hg
    simp [runF, ss, es, ts, gs, execs, ev_var, ev_kon, ev_glb, ev_bin, ev_neg, ev_cmp, ev_chn, ev_and, ev_or, ev_not, ev_ife, ev_call, ev_callk, ev_mth, ev_mk, ev_mkk, ev_b1, ev_b2, ev_isi, ev_ix, ev_sl, ev_lst, ev_tup, ev_newL, ev_newD, ev_lobj, ev_dsp, ev_dm, ev_join, ev_fld, exec_asg, exec_setI, exec_setF, exec_aug, exec_mut, exec_ifs, exec_ret, exec_retn, exec_brk, exec_cont, exec_exp, exec_rai, exec_fg, exec_pas, evT, evs, evTAnd, evTOr, evAnd, evOr, evP, evSrc, bo, bnd, frzAll, esT, esTs, esO, esc, escs, esS, escS, opd, opn, look, peek, ofO, cmpD, truthD, thenK, sweep, outR, outF, fresh, asgK, asgT, asgTs, put, binD, b1D, b2D, ixD, ixN, atI_0, atI_1, atI_2, atI_3, atI_4, eqv, eqvs, shp, shps, setK, setX, setO, setOb, isVar, unset, cellOf, frz, valOf, forL, forK, isiD, isiO, items, itemsS, seqs, lenD, fldD, isIns, isNon, isB, inT, mutOk, mutK, muD, ckS, ckC, okP, isDct, dctOf, Pd.getD, augK, setFK, fput, okP, dmD, low, lows, List.lookup, f23, b23, hg, h3, h4, hr]
  have q := isInsG hg
  simp only [isIns] at q
  rw [cS 19 f19 rfl]
  generalize hold ws (iAt B) tr (List.range ws.length) 0 = r at i3
  generalize t ++ [gObj ws B (t.length + 1), .dct true []] = u at *
  generalize TN (List.range ws.length) = l at *
  generalize tr.enc = d at i3
  simp [runF, ss, es, ts, gs, execs, ev_var, ev_kon, ev_glb, ev_bin, ev_neg, ev_cmp, ev_chn, ev_and, ev_or, ev_not, ev_ife, ev_call, ev_callk, ev_mth, ev_mk, ev_mkk, ev_b1, ev_b2, ev_isi, ev_ix, ev_sl, ev_lst, ev_tup, ev_newL, ev_newD, ev_lobj, ev_dsp, ev_dm, ev_join, ev_fld, exec_asg, exec_setI, exec_setF, exec_aug, exec_mut, exec_ifs, exec_ret, exec_retn, exec_brk, exec_cont, exec_exp, exec_rai, exec_fg, exec_pas, evT, evs, evTAnd, evTOr, evAnd, evOr, evP, evSrc, bo, bnd, frzAll, esT, esTs, esO, esc, escs, esS, escS, opd, opn, look, peek, ofO, cmpD, truthD, thenK, sweep, outR, outF, fresh, asgK, asgT, asgTs, put, binD, b1D, b2D, ixD, ixN, atI_0, atI_1, atI_2, atI_3, atI_4, eqv, eqvs, shp, shps, setK, setX, setO, setOb, isVar, unset, cellOf, frz, valOf, forL, forK, isiD, isiO, items, itemsS, seqs, lenD, fldD, isIns, isNon, isB, inT, mutOk, mutK, muD, ckS, ckC, okP, isDct, dctOf, Pd.getD, augK, setFK, fput, okP, dmD, low, lows, List.lookup, f19, b19, i1, i2, i3, q]
end
theorem alike_bl (n : Nat) (b : Bool) (t : T) : call prg (n + 1) 15 [.bl b, .bl b] t = .ok (.bl true) t := by
  rw [cS 15 f15 rfl]
  cases b <;> simp [runF, ss, es, ts, gs, execs, ev_var, ev_kon, ev_glb, ev_bin, ev_neg, ev_cmp, ev_chn, ev_and, ev_or, ev_not, ev_ife, ev_call, ev_callk, ev_mth, ev_mk, ev_mkk, ev_b1, ev_b2, ev_isi, ev_ix, ev_sl, ev_lst, ev_tup, ev_newL, ev_newD, ev_lobj, ev_dsp, ev_dm, ev_join, ev_fld, exec_asg, exec_setI, exec_setF, exec_aug, exec_mut, exec_ifs, exec_ret, exec_retn, exec_brk, exec_cont, exec_exp, exec_rai, exec_fg, exec_pas, evT, evs, evTAnd, evTOr, evAnd, evOr, evP, evSrc, bo, bnd, frzAll, esT, esTs, esO, esc, escs, esS, escS, opd, opn, look, peek, ofO, cmpD, truthD, thenK, sweep, outR, outF, fresh, asgK, asgT, asgTs, put, binD, b1D, b2D, ixD, ixN, atI_0, atI_1, atI_2, atI_3, atI_4, eqv, eqvs, shp, shps, setK, setX, setO, setOb, isVar, unset, cellOf, frz, valOf, forL, forK, isiD, isiO, items, itemsS, seqs, lenD, fldD, isIns, isNon, isB, inT, mutOk, mutK, muD, ckS, ckC, okP, isDct, dctOf, Pd.getD, augK, setFK, fput, okP, dmD, low, lows, List.lookup, f15, b15]
theorem alike_int (n : Nat) (i : Int) (t : T) : call prg (n + 2) 15 [.int i, .int i] t = .ok (.bl true) t := by
  rw [cS 15 f15 rfl]
  have := c_lawinteger n i t
  simp [runF, ss, es, ts, gs, execs, ev_var, ev_kon, ev_glb, ev_bin, ev_neg, ev_cmp, ev_chn, ev_and, ev_or, ev_not, ev_ife, ev_call, ev_callk, ev_mth, ev_mk, ev_mkk, ev_b1, ev_b2, ev_isi, ev_ix, ev_sl, ev_lst, ev_tup, ev_newL, ev_newD, ev_lobj, ev_dsp, ev_dm, ev_join, ev_fld, exec_asg, exec_setI, exec_setF, exec_aug, exec_mut, exec_ifs, exec_ret, exec_retn, exec_brk, exec_cont, exec_exp, exec_rai, exec_fg, exec_pas, evT, evs, evTAnd, evTOr, evAnd, evOr, evP, evSrc, bo, bnd, frzAll, esT, esTs, esO, esc, escs, esS, escS, opd, opn, look, peek, ofO, cmpD, truthD, thenK, sweep, outR, outF, fresh, asgK, asgT, asgTs, put, binD, b1D, b2D, ixD, ixN, atI_0, atI_1, atI_2, atI_3, atI_4, eqv, eqvs, shp, shps, setK, setX, setO, setOb, isVar, unset, cellOf, frz, valOf, forL, forK, isiD, isiO, items, itemsS, seqs, lenD, fldD, isIns, isNon, isB, inT, mutOk, mutK, muD, ckS, ckC, okP, isDct, dctOf, Pd.getD, augK, setFK, fput, okP, dmD, low, lows, List.lookup, f15, b15, this]
theorem alike_str (n : Nat) (w : List Nat) (t : T) : call prg (n + 2) 15 [.str w, .str w] t = .ok (.bl true) t := by
  rw [cS 15 f15 rfl]
  simp [runF, ss, es, ts, gs, execs, ev_var, ev_kon, ev_glb, ev_bin, ev_neg, ev_cmp, ev_chn, ev_and, ev_or, ev_not, ev_ife, ev_call, ev_callk, ev_mth, ev_mk, ev_mkk, ev_b1, ev_b2, ev_isi, ev_ix, ev_sl, ev_lst, ev_tup, ev_newL, ev_newD, ev_lobj, ev_dsp, ev_dm, ev_join, ev_fld, exec_asg, exec_setI, exec_setF, exec_aug, exec_mut, exec_ifs, exec_ret, exec_retn, exec_brk, exec_cont, exec_exp, exec_rai, exec_fg, exec_pas, evT, evs, evTAnd, evTOr, evAnd, evOr, evP, evSrc, bo, bnd, frzAll, esT, esTs, esO, esc, escs, esS, escS, opd, opn, look, peek, ofO, cmpD, truthD, thenK, sweep, outR, outF, fresh, asgK, asgT, asgTs, put, binD, b1D, b2D, ixD, ixN, atI_0, atI_1, atI_2, atI_3, atI_4, eqv, eqvs, shp, shps, setK, setX, setO, setOb, isVar, unset, cellOf, frz, valOf, forL, forK, isiD, isiO, items, itemsS, seqs, lenD, fldD, isIns, isNon, isB, inT, mutOk, mutK, muD, ckS, ckC, okP, isDct, dctOf, Pd.getD, augK, setFK, fput, okP, dmD, low, lows, List.lookup, f15, b15]
theorem alike_lst (n : Nat) (xs : List D) (t : T) (hl : xs.length ≤ 1000) (h : ∀ x ∈ xs, call prg (n + 2) 15 [x, x] t = .ok (.bl true) t) : call prg (n + 3) 15 [.lst xs, .lst xs] t = .ok (.bl true) t := by
  rw [cS 15 f15 rfl]
  have hr := range0_LN xs.length
  have h3 : (-1000000 : Int) ≤ (xs.length : Int) := by omega
  have h4 : (xs.length : Int) ≤ 1000000 := by omega
  have e : ev (cls' (n + 2)) (.comp (.rng (.b1 .len (.var 1))) (.nm 2) [2] .yes (.call 15 (es [(.ix (.var 0) (.var 2)), (.ix (.var 1) (.var 2))]))) [.val (.lst xs), .val (.lst xs), .un] t = .ok (.lst ((List.range xs.length).map fun _ => .bl true)) t := by
    refine comp_LN _ _ (by simp [runF, ss, es, ts, gs, execs, ev_var, ev_kon, ev_glb, ev_bin, ev_neg, ev_cmp, ev_chn, ev_and, ev_or, ev_not, ev_ife, ev_call, ev_callk, ev_mth, ev_mk, ev_mkk, ev_b1, ev_b2, ev_isi, ev_ix, ev_sl, ev_lst, ev_tup, ev_newL, ev_newD, ev_lobj, ev_dsp, ev_dm, ev_join, ev_fld, exec_asg, exec_setI, exec_setF, exec_aug, exec_mut, exec_ifs, exec_ret, exec_retn, exec_brk, exec_cont, exec_exp, exec_rai, exec_fg, exec_pas, evT, evs, evTAnd, evTOr, evAnd, evOr, evP, evSrc, bo, bnd, frzAll, esT, esTs, esO, esc, escs, esS, escS, opd, opn, look, peek, ofO, cmpD, truthD, thenK, sweep, outR, outF, fresh, asgK, asgT, asgTs, put, binD, b1D, b2D, ixD, ixN, atI_0, atI_1, atI_2, atI_3, atI_4, eqv, eqvs, shp, shps, setK, setX, setO, setOb, isVar, unset, cellOf, frz, valOf, forL, forK, isiD, isiO, items, itemsS, seqs, lenD, fldD, isIns, isNon, isB, inT, mutOk, mutK, muD, ckS, ckC, okP, isDct, dctOf, Pd.getD, augK, setFK, fput, okP, dmD, low, lows, List.lookup, h3, h4, hr]) fun q hq => ?_
    have hq := List.mem_range.mp hq
    have a1 : atI xs (q : Int) = some xs[q] := by rw [atI_nat, List.getElem?_eq_getElem hq]
    have i1 := h _ (List.getElem_mem hq)
    generalize xs[q] = x at a1 i1
    simp [turnC, runF, ss, es, ts, gs, execs, ev_var, ev_kon, ev_glb, ev_bin, ev_neg, ev_cmp, ev_chn, ev_and, ev_or, ev_not, ev_ife, ev_call, ev_callk, ev_mth, ev_mk, ev_mkk, ev_b1, ev_b2, ev_isi, ev_ix, ev_sl, ev_lst, ev_tup, ev_newL, ev_newD, ev_lobj, ev_dsp, ev_dm, ev_join, ev_fld, exec_asg, exec_setI, exec_setF, exec_aug, exec_mut, exec_ifs, exec_ret, exec_retn, exec_brk, exec_cont, exec_exp, exec_rai, exec_fg, exec_pas, evT, evs, evTAnd, evTOr, evAnd, evOr, evP, evSrc, bo, bnd, frzAll, esT, esTs, esO, esc, escs, esS, escS, opd, opn, look, peek, ofO, cmpD, truthD, thenK, sweep, outR, outF, fresh, asgK, asgT, asgTs, put, binD, b1D, b2D, ixD, ixN, atI_0, atI_1, atI_2, atI_3, atI_4, eqv, eqvs, shp, shps, setK, setX, setO, setOb, isVar, unset, cellOf, frz, valOf, forL, forK, isiD, isiO, items, itemsS, seqs, lenD, fldD, isIns, isNon, isB, inT, mutOk, mutK, muD, ckS, ckC, okP, isDct, dctOf, Pd.getD, augK, setFK, fput, okP, dmD, low, lows, List.lookup, DN, a1, i1]
  have a := bools_rep (List.range xs.length)
  simp only [es] at e
  simp [runF, ss, es, ts, gs, execs, ev_var, ev_kon, ev_glb, ev_bin, ev_neg, ev_cmp, ev_chn, ev_and, ev_or, ev_not, ev_ife, ev_call, ev_callk, ev_mth, ev_mk, ev_mkk, ev_b1, ev_b2, ev_isi, ev_ix, ev_sl, ev_lst, ev_tup, ev_newL, ev_newD, ev_lobj, ev_dsp, ev_dm, ev_join, ev_fld, exec_asg, exec_setI, exec_setF, exec_aug, exec_mut, exec_ifs, exec_ret, exec_retn, exec_brk, exec_cont, exec_exp, exec_rai, exec_fg, exec_pas, evT, evs, evTAnd, evTOr, evAnd, evOr, evP, evSrc, bo, bnd, frzAll, esT, esTs, esO, esc, escs, esS, escS, opd, opn, look, peek, ofO, cmpD, truthD, thenK, sweep, outR, outF, fresh, asgK, asgT, asgTs, put, binD, b1D, b2D, ixD, ixN, atI_0, atI_1, atI_2, atI_3, atI_4, eqv, eqvs, shp, shps, setK, setX, setO, setOb, isVar, unset, cellOf, frz, valOf, forL, forK, isiD, isiO, items, itemsS, seqs, lenD, fldD, isIns, isNon, isB, inT, mutOk, mutK, muD, ckS, ckC, okP, isDct, dctOf, Pd.getD, augK, setFK, fput, okP, dmD, low, lows, List.lookup, f15, b15, e, a]
theorem alike_strs (n : Nat) (ws : List (List Nat)) (t : T) (h : ws.length ≤ 1000) : call prg (n + 3) 15 [.lst (ws.map .str), .lst (ws.map .str)] t = .ok (.bl true) t :=
  alike_lst n _ t (by rw [List.length_map]; exact h) fun x hx => by
    obtain ⟨w, _, rfl⟩ := List.mem_map.mp hx
    exact alike_str n w t
theorem alike_ints (n : Nat) (B : List Int) (t : T) (h : B.length ≤ 1000) : call prg (n + 3) 15 [.lst (B.map .int), .lst (B.map .int)] t = .ok (.bl true) t :=
  alike_lst n _ t (by rw [List.length_map]; exact h) fun x hx => by
    obtain ⟨w, _, rfl⟩ := List.mem_map.mp hx
    exact alike_int n w t
theorem c_masks (n : Nat) {pl : Nat} {ws : List (List Nat)} (t : T) (hw : Wd ws pl) (h1 : 1 ≤ ws.length) (h9 : ws.length ≤ 16) (hpl : pl ≤ 1000) : call prg (n + 1) 11 [.lst (ws.map .str)] t = .ok (.lst ((List.range pl).map fun p => .int (Pt.mk ws.length (up ws p (List.range ws.length)) : Nat))) t := by
  rw [cS 11 f11 rfl]
  have hr := range0_LN pl
  have hr2 := range0_LN ws.length
  have h3 : (-1000000 : Int) ≤ (ws.length : Int) := by omega
  have h4 : (ws.length : Int) ≤ 1000000 := by omega
  have h5 : (-1000000 : Int) ≤ (pl : Int) := by omega
  have h6 : (pl : Int) ≤ 1000000 := by omega
  have a1 := atI_W ws 0 (by omega)
  have a1 : atI (ws.map D.str) 0 = some (.str (wAt ws 0)) := a1
  have a2 := hw.len _ (wAt_mem (ws := ws) (q := 0) (by omega))
  have e : ev (cls' n) (retE (hd b11)) [.val (.lst (ws.map .str)), .un, .un] t = .ok (.lst ((List.range pl).map fun p => .int (Pt.mk ws.length (up ws p (List.range ws.length)) : Nat))) t := by
    refine comp_LN _ _ (by simp [runF, ss, es, ts, gs, execs, ev_var, ev_kon, ev_glb, ev_bin, ev_neg, ev_cmp, ev_chn, ev_and, ev_or, ev_not, ev_ife, ev_call, ev_callk, ev_mth, ev_mk, ev_mkk, ev_b1, ev_b2, ev_isi, ev_ix, ev_sl, ev_lst, ev_tup, ev_newL, ev_newD, ev_lobj, ev_dsp, ev_dm, ev_join, ev_fld, exec_asg, exec_setI, exec_setF, exec_aug, exec_mut, exec_ifs, exec_ret, exec_retn, exec_brk, exec_cont, exec_exp, exec_rai, exec_fg, exec_pas, evT, evs, evTAnd, evTOr, evAnd, evOr, evP, evSrc, bo, bnd, frzAll, esT, esTs, esO, esc, escs, esS, escS, opd, opn, look, peek, ofO, cmpD, truthD, thenK, sweep, outR, outF, fresh, asgK, asgT, asgTs, put, binD, b1D, b2D, ixD, ixN, atI_0, atI_1, atI_2, atI_3, atI_4, eqv, eqvs, shp, shps, setK, setX, setO, setOb, isVar, unset, cellOf, frz, valOf, forL, forK, isiD, isiO, items, itemsS, seqs, lenD, fldD, isIns, isNon, isB, inT, mutOk, mutK, muD, ckS, ckC, okP, isDct, dctOf, Pd.getD, augK, setFK, fput, okP, dmD, low, lows, List.lookup, a1, a2, h5, h6, hr]) fun p hp => ?_
    have hp := List.mem_range.mp hp
    have e2 : ev (cls' n) (.comp (.rng (.b1 .len (.var 0))) (.nm 2) [2] (.val (.cmp .eq (.ix (.ix (.var 0) (.var 2)) (.var 1)) (.kon (.str [49])))) (.bin .shl (.kon (.int 1)) (.var 2))) [.val (.lst (ws.map .str)), .val (.int p), .un] t = .ok (.lst ((((List.range ws.length).filter fun q => bit ws p q).map fun q => ((2 ^ q : Nat) : Int)).map .int)) t := by
      rw [List.map_map]
      refine comp_filter _ _ _ (by simp [runF, ss, es, ts, gs, execs, ev_var, ev_kon, ev_glb, ev_bin, ev_neg, ev_cmp, ev_chn, ev_and, ev_or, ev_not, ev_ife, ev_call, ev_callk, ev_mth, ev_mk, ev_mkk, ev_b1, ev_b2, ev_isi, ev_ix, ev_sl, ev_lst, ev_tup, ev_newL, ev_newD, ev_lobj, ev_dsp, ev_dm, ev_join, ev_fld, exec_asg, exec_setI, exec_setF, exec_aug, exec_mut, exec_ifs, exec_ret, exec_retn, exec_brk, exec_cont, exec_exp, exec_rai, exec_fg, exec_pas, evT, evs, evTAnd, evTOr, evAnd, evOr, evP, evSrc, bo, bnd, frzAll, esT, esTs, esO, esc, escs, esS, escS, opd, opn, look, peek, ofO, cmpD, truthD, thenK, sweep, outR, outF, fresh, asgK, asgT, asgTs, put, binD, b1D, b2D, ixD, ixN, atI_0, atI_1, atI_2, atI_3, atI_4, eqv, eqvs, shp, shps, setK, setX, setO, setOb, isVar, unset, cellOf, frz, valOf, forL, forK, isiD, isiO, items, itemsS, seqs, lenD, fldD, isIns, isNon, isB, inT, mutOk, mutK, muD, ckS, ckC, okP, isDct, dctOf, Pd.getD, augK, setFK, fput, okP, dmD, low, lows, List.lookup, h3, h4, hr2]) fun q hq => ?_
      have hq := List.mem_range.mp hq
      have b1 := atI_W ws q hq
      have b2 := atI_w (wAt ws q) p (by rw [hw.len _ (wAt_mem hq)]; exact hp)
      have b3 := cAt_or hw hq hp
      have b4 : (q : Int) ≤ 1000000 := by omega
      unfold bit
      generalize cAt (wAt ws q) p = c at b2 b3
      rcases b3 with rfl | rfl <;> simp [turnC, runF, ss, es, ts, gs, execs, ev_var, ev_kon, ev_glb, ev_bin, ev_neg, ev_cmp, ev_chn, ev_and, ev_or, ev_not, ev_ife, ev_call, ev_callk, ev_mth, ev_mk, ev_mkk, ev_b1, ev_b2, ev_isi, ev_ix, ev_sl, ev_lst, ev_tup, ev_newL, ev_newD, ev_lobj, ev_dsp, ev_dm, ev_join, ev_fld, exec_asg, exec_setI, exec_setF, exec_aug, exec_mut, exec_ifs, exec_ret, exec_retn, exec_brk, exec_cont, exec_exp, exec_rai, exec_fg, exec_pas, evT, evs, evTAnd, evTOr, evAnd, evOr, evP, evSrc, bo, bnd, frzAll, esT, esTs, esO, esc, escs, esS, escS, opd, opn, look, peek, ofO, cmpD, truthD, thenK, sweep, outR, outF, fresh, asgK, asgT, asgTs, put, binD, b1D, b2D, ixD, ixN, atI_0, atI_1, atI_2, atI_3, atI_4, eqv, eqvs, shp, shps, setK, setX, setO, setOb, isVar, unset, cellOf, frz, valOf, forL, forK, isiD, isiO, items, itemsS, seqs, lenD, fldD, isIns, isNon, isB, inT, mutOk, mutK, muD, ckS, ckC, okP, isDct, dctOf, Pd.getD, augK, setFK, fput, okP, dmD, low, lows, List.lookup, b1, b2, DN, b4]
    have e3 := intsOf_map (((List.range ws.length).filter fun q => bit ws p q).map fun q => ((2 ^ q : Nat) : Int))
    have e4 := sum_mkP (fun q => bit ws p q) ws.length
    rw [← mk_up_all ws ws.length p] at e4
    generalize ((List.range ws.length).filter fun q => bit ws p q).map (fun q => ((2 ^ q : Nat) : Int)) = zs at e2 e3 e4
    generalize zs.map D.int = ds at e2 e3
    simp [turnC, runF, ss, es, ts, gs, execs, ev_var, ev_kon, ev_glb, ev_bin, ev_neg, ev_cmp, ev_chn, ev_and, ev_or, ev_not, ev_ife, ev_call, ev_callk, ev_mth, ev_mk, ev_mkk, ev_b1, ev_b2, ev_isi, ev_ix, ev_sl, ev_lst, ev_tup, ev_newL, ev_newD, ev_lobj, ev_dsp, ev_dm, ev_join, ev_fld, exec_asg, exec_setI, exec_setF, exec_aug, exec_mut, exec_ifs, exec_ret, exec_retn, exec_brk, exec_cont, exec_exp, exec_rai, exec_fg, exec_pas, evT, evs, evTAnd, evTOr, evAnd, evOr, evP, evSrc, bo, bnd, frzAll, esT, esTs, esO, esc, escs, esS, escS, opd, opn, look, peek, ofO, cmpD, truthD, thenK, sweep, outR, outF, fresh, asgK, asgT, asgTs, put, binD, b1D, b2D, ixD, ixN, atI_0, atI_1, atI_2, atI_3, atI_4, eqv, eqvs, shp, shps, setK, setX, setO, setOb, isVar, unset, cellOf, frz, valOf, forL, forK, isiD, isiO, items, itemsS, seqs, lenD, fldD, isIns, isNon, isB, inT, mutOk, mutK, muD, ckS, ckC, okP, isDct, dctOf, Pd.getD, augK, setFK, fput, okP, dmD, low, lows, List.lookup, DN, e2, e3, e4]
  have hb : b11 = .cons (.ret (retE (hd b11))) .nil := rfl
  have e0 : runF (cls' n) f11 [.lst (ws.map .str)] t = match execs (cls' n) b11 [.val (.lst (ws.map .str)), .un, .un] t with
    | .nx _ t' => .ok .non t'
    | .ret d t' => .ok d t'
    | .ex c as t' => .ex c as t'
    | _ => .no := rfl
  rw [e0, hb, execs_end (d := .lst ((List.range pl).map fun p => .int (Pt.mk ws.length (up ws p (List.range ws.length)) : Nat))) (t' := t)]
  rw [exec_ret]
  have : frzAll [.val (.lst (ws.map .str)), .un, .un] (esc (retE (hd b11))) = [.val (.lst (ws.map .str)), .un, .un] := rfl
  rw [this, e]; rfl
end K85
set_option maxRecDepth 100000
set_option linter.all false
set_option autoImplicit false
/-! what is lost; the need -/
namespace K85
open Pd Pt
abbrev encY (a : Nat × Int) : D := .tup [.int a.1, .int a.2]
abbrev encL (M : List ((Nat × Int) × Bool)) : List (D × D) := encK encY D.bl M
abbrev tL (M : List ((Nat × Int) × Bool)) : T := [.dct true (encL M)]
theorem encY_eqv (a b : Nat × Int) : eqv (encY a) (encY b) = decide (a = b) := by
  obtain ⟨a1, a2⟩ := a
  obtain ⟨b1, b2⟩ := b
  show (((a1 : Int) == (b1 : Int)) && (((a2 : Int) == b2) && true)) = _
  by_cases h1 : a1 = b1
  · subst h1
    by_cases h2 : a2 = b2 <;> simp [h2]
  · have : ((a1 : Int) == (b1 : Int)) = false := by simp; omega
    rw [this]; simp [h1]
theorem encY_key (a : Nat × Int) : keyB true (encY a) = true := rfl
structure Lm (ws : List (List Nat)) (B : List Int) (pl : Nat) (M : List ((Nat × Int) × Bool)) : Prop where
  nd : (M.map (·.1)).Nodup
  ok : ∀ p ∈ M, ∃ l, Lot ws.length l ∧ l ≠ [] ∧ p.1.1 = Pt.mk ws.length l ∧ p.2 = decide (0 < Need ws (iAt B) pl l + p.1.2) ∧ -20 ≤ p.1.2 ∧ p.1.2 ≤ 30
theorem Lm.nil (ws : List (List Nat)) (B : List Int) (pl : Nat) : Lm ws B pl [] := ⟨List.nodup_nil, fun _ h => by cases h⟩
theorem Lm.len {ws : List (List Nat)} {B : List Int} {pl : Nat} {M : List ((Nat × Int) × Bool)} (h : Lm ws B pl M) (h9 : ws.length ≤ 16) : (encL M).length < sz := by
  have h16 : 2 ^ ws.length ≤ 2 ^ 16 := Nat.pow_le_pow_right (by omega) h9
  have := nodup_lt (65536 * 64) ((M.map (·.1)).map fun a => a.1 * 64 + (a.2 + 20).toNat) (by
    rw [List.nodup_iff_pairwise_ne, List.pairwise_map]
    refine List.Pairwise.imp_of_mem (fun {a b} ha hb hab e => ?_) (List.nodup_iff_pairwise_ne.mp h.nd)
    obtain ⟨p, hp, rfl⟩ := List.mem_map.mp ha
    obtain ⟨q, hq, rfl⟩ := List.mem_map.mp hb
    obtain ⟨_, _, _, _, _, i1, i2⟩ := h.ok p hp
    obtain ⟨_, _, _, _, _, j1, j2⟩ := h.ok q hq
    refine hab (Prod.ext ?_ ?_) <;> omega) (fun x hx => by
    obtain ⟨a, ha, rfl⟩ := List.mem_map.mp hx
    obtain ⟨p, hp, rfl⟩ := List.mem_map.mp ha
    obtain ⟨l, _, _, e, _, i1, i2⟩ := h.ok p hp
    have : p.1.1 < 2 ^ ws.length := by rw [e]; exact mkP_lt _ _
    omega)
  rw [List.length_map, List.length_map] at this
  rw [encK_len]
  unfold sz; omega
theorem kgL_snoc {a : Nat × Int} {b : Bool} : ∀ {M : List ((Nat × Int) × Bool)}, kget a M = none → kget a (M ++ [(a, b)]) = some b
  | [], _ => by simp [kget]
  | p :: M, h => by
    unfold kget at h
    by_cases hp : p.1 = a
    · rw [if_pos hp] at h; cases h
    · rw [if_neg hp] at h
      show (if p.1 = a then some p.2 else kget a (M ++ [(a, b)])) = _
      rw [if_neg hp, kgL_snoc h]
theorem kgL_snoc_ne {a c : Nat × Int} {b : Bool} (hn : c ≠ a) : ∀ {M : List ((Nat × Int) × Bool)}, kget a (M ++ [(c, b)]) = kget a M
  | [] => by simp [kget, hn]
  | p :: M => by
    show (if p.1 = a then some p.2 else kget a (M ++ [(c, b)])) = if p.1 = a then some p.2 else kget a M
    rw [kgL_snoc_ne hn]
theorem minI_lt : ∀ l : List Int, l ≠ [] → ∃ v, minI l = some v ∧ ∀ e, v < e ↔ ∃ x ∈ l, x < e
  | [], h => absurd rfl h
  | [x], _ => ⟨x, rfl, fun e => by simp⟩
  | x :: y :: r, _ => by
    obtain ⟨v, hv, h⟩ := minI_lt (y :: r) (by simp)
    refine ⟨if v < x then v else x, by show (minI (y :: r)).map _ = _; rw [hv]; rfl, fun e => ?_⟩
    have h := h e
    constructor
    · intro z
      by_cases hx : v < x
      · rw [if_pos hx] at z
        obtain ⟨w, hw, hl⟩ := h.mp z
        exact ⟨w, List.mem_cons_of_mem _ hw, hl⟩
      · rw [if_neg hx] at z; exact ⟨x, List.mem_cons_self, z⟩
    · rintro ⟨w, hw, hl⟩
      rcases List.mem_cons.mp hw with rfl | hw
      · split <;> omega
      · have := h.mpr ⟨w, hw, hl⟩
        split <;> omega
/-- lost by the points below i -/
def LP (ws : List (List Nat)) (B : List Int) (pl : Nat) (l : List Nat) (e : Int) (i : Nat) : Prop :=
  (∃ q ∈ l, iAt B q < e) ∨ ∃ p, p < i ∧ Parts ws p l ∧ (0 < Need ws (iAt B) pl (lo ws p l) + e ∨ 0 < Need ws (iAt B) pl (up ws p l) + e ∨ (0 < Need ws (iAt B) pl (lo ws p l) + (e + 1) ∧ 0 < Need ws (iAt B) pl (up ws p l) + (e + 1)))
theorem LP_all {ws : List (List Nat)} {B : List Int} {pl : Nat} {l : List Nat} {e : Int} (hl : l ≠ []) : LP ws B pl l e pl ↔ 0 < Need ws (iAt B) pl l + e := by
  have h := lt_Need ws (iAt B) pl l hl (-e)
  unfold LP
  constructor
  · intro z
    have := h.mpr (by
      rcases z with ⟨q, hq, z⟩ | ⟨p, hp, hpp, z⟩
      · exact .inl ⟨q, hq, by omega⟩
      · exact .inr ⟨p, hp, hpp, by omega⟩)
    omega
  · intro z
    rcases h.mp (by omega) with ⟨q, hq, z⟩ | ⟨p, hp, hpp, z⟩
    · exact .inl ⟨q, hq, by omega⟩
    · exact .inr ⟨p, hp, hpp, by omega⟩
theorem LP_succ {ws : List (List Nat)} {B : List Int} {pl : Nat} {l : List Nat} {e : Int} {i : Nat} : LP ws B pl l e (i + 1) ↔ LP ws B pl l e i ∨ (Parts ws i l ∧ (0 < Need ws (iAt B) pl (lo ws i l) + e ∨ 0 < Need ws (iAt B) pl (up ws i l) + e ∨ (0 < Need ws (iAt B) pl (lo ws i l) + (e + 1) ∧ 0 < Need ws (iAt B) pl (up ws i l) + (e + 1)))) := by
  unfold LP
  constructor
  · rintro (z | ⟨p, hp, hpp, z⟩)
    · exact .inl (.inl z)
    · by_cases h : p = i
      · subst h; exact .inr ⟨hpp, z⟩
      · exact .inl (.inr ⟨p, by omega, hpp, z⟩)
  · rintro ((z | ⟨p, hp, hpp, z⟩) | ⟨hpp, z⟩)
    · exact .inl z
    · exact .inr ⟨p, by omega, hpp, z⟩
    · exact .inr ⟨i, by omega, hpp, z⟩
def onesD (ws : List (List Nat)) (pl : Nat) : List D := (List.range pl).map fun p => D.int (Pt.mk ws.length (up ws p (List.range ws.length)) : Nat)
def oFor : S := hd (tl (tl (tl b12)))
theorem oFor_eq : oFor = .for (.nm 7) (.seq (.var 2)) (bodyOf oFor) [7, 8, 9] := rfl
theorem c_lost (n : Nat) {pl : Nat} {ws : List (List Nat)} {B : List Int} (h9 : ws.length ≤ 16) (hB : B.length = ws.length) (bd : D) (hbd : bd = .lst (B.map .int)) : ∀ (s : Nat) (l : List Nat) (e : Int) (M : List ((Nat × Int) × Bool)), l.length ≤ s → l ≠ [] → Lot ws.length l → -20 ≤ e → e + l.length ≤ 30 → Lm ws B pl M →
    ∃ M', call prg (n + s + 1) 12 [.int (Pt.mk ws.length l : Nat), .int e, .lst (onesD ws pl), bd, .obj 0] (tL M) = .ok (.bl (decide (0 < Need ws (iAt B) pl l + e))) (tL M') ∧ Lm ws B pl M' ∧ ∀ a : List Nat, Lot ws.length a → l.length < a.length → ∀ e' : Int, kget (Pt.mk ws.length a, e') M' = kget (Pt.mk ws.length a, e') M := by
  intro s
  induction s with
  | zero => intro l e M h1 h2; exact absurd (List.length_eq_zero_iff.mp (by omega)) h2
  | succ s ih =>
    intro l e M h1 h2 hl he1 he2 hM
    have hlp := List.length_pos_iff.mpr h2
    rw [show n + (s + 1) + 1 = (n + s + 1) + 1 by omega, cS 12 f12 rfl]
    have e0 : ∀ t : T, runF (cls' (n + s + 1)) f12 [.int (Pt.mk ws.length l : Nat), .int e, .lst (onesD ws pl), bd, .obj 0] t = match execs (cls' (n + s + 1)) b12 [.val (.int (Pt.mk ws.length l : Nat)), .val (.int e), .val (.lst (onesD ws pl)), .val bd, .val (.obj 0), .un, .un, .un, .un, .un, .un] t with
      | .nx _ t' => .ok .non t'
      | .ret d t' => .ok d t'
      | .ex c as t' => .ex c as t'
      | _ => .no := fun _ => rfl
    rw [e0]
    have hk := encY_key (Pt.mk ws.length l, e)
    have hb : b12 = .cons (hd b12) (.cons (hd (tl b12)) (.cons (hd (tl (tl b12))) (.cons oFor (tl (tl (tl (tl b12))))))) := rfl
    have x1 : ∀ t, exec (cls' (n + s + 1)) (hd b12) [.val (.int (Pt.mk ws.length l : Nat)), .val (.int e), .val (.lst (onesD ws pl)), .val bd, .val (.obj 0), .un, .un, .un, .un, .un, .un] t = .nx [.val (.int (Pt.mk ws.length l : Nat)), .val (.int e), .val (.lst (onesD ws pl)), .val bd, .val (.obj 0), .val (encY (Pt.mk ws.length l, e)), .un, .un, .un, .un, .un] t := fun t => by
      simp [runF, ss, es, ts, gs, execs, ev_var, ev_kon, ev_glb, ev_bin, ev_neg, ev_cmp, ev_chn, ev_and, ev_or, ev_not, ev_ife, ev_call, ev_callk, ev_mth, ev_mk, ev_mkk, ev_b1, ev_b2, ev_isi, ev_ix, ev_sl, ev_lst, ev_tup, ev_newL, ev_newD, ev_lobj, ev_dsp, ev_dm, ev_join, ev_fld, exec_asg, exec_setI, exec_setF, exec_aug, exec_mut, exec_ifs, exec_ret, exec_retn, exec_brk, exec_cont, exec_exp, exec_rai, exec_fg, exec_pas, evT, evs, evTAnd, evTOr, evAnd, evOr, evP, evSrc, bo, bnd, frzAll, esT, esTs, esO, esc, escs, esS, escS, opd, opn, look, peek, ofO, cmpD, truthD, thenK, sweep, outR, outF, fresh, asgK, asgT, asgTs, put, binD, b1D, b2D, ixD, ixN, atI_0, atI_1, atI_2, atI_3, atI_4, eqv, eqvs, shp, shps, setK, setX, setO, setOb, isVar, unset, cellOf, frz, valOf, forL, forK, isiD, isiO, items, itemsS, seqs, lenD, fldD, isIns, isNon, isB, inT, mutOk, mutK, muD, ckS, ckC, okP, isDct, dctOf, Pd.getD, augK, setFK, fput, okP, dmD, low, lows, List.lookup, hd, b12]
    rw [hb, execs_step (x1 _)]
    cases hm : kget (Pt.mk ws.length l, e) M with
    | some v =>
      have hd1 : dget (encY (Pt.mk ws.length l, e)) (encL M) = some (.bl v) := by rw [dget_enc encY_eqv, hm]; rfl
      obtain ⟨l2, hl2, _, q1, q2, _⟩ := hM.ok _ (kget_mem hm)
      have q1 : l = l2 := mk_inj hl hl2 q1
      subst q1
      refine ⟨M, ?_, hM, fun _ _ _ _ => rfl⟩
      rw [← q2]
      generalize encY (Pt.mk ws.length l, e) = d at hd1 hk
      rw [execs_end (d := .bl v) (t' := tL M)]
      simp [runF, ss, es, ts, gs, execs, ev_var, ev_kon, ev_glb, ev_bin, ev_neg, ev_cmp, ev_chn, ev_and, ev_or, ev_not, ev_ife, ev_call, ev_callk, ev_mth, ev_mk, ev_mkk, ev_b1, ev_b2, ev_isi, ev_ix, ev_sl, ev_lst, ev_tup, ev_newL, ev_newD, ev_lobj, ev_dsp, ev_dm, ev_join, ev_fld, exec_asg, exec_setI, exec_setF, exec_aug, exec_mut, exec_ifs, exec_ret, exec_retn, exec_brk, exec_cont, exec_exp, exec_rai, exec_fg, exec_pas, evT, evs, evTAnd, evTOr, evAnd, evOr, evP, evSrc, bo, bnd, frzAll, esT, esTs, esO, esc, escs, esS, escS, opd, opn, look, peek, ofO, cmpD, truthD, thenK, sweep, outR, outF, fresh, asgK, asgT, asgTs, put, binD, b1D, b2D, ixD, ixN, atI_0, atI_1, atI_2, atI_3, atI_4, eqv, eqvs, shp, shps, setK, setX, setO, setOb, isVar, unset, cellOf, frz, valOf, forL, forK, isiD, isiO, items, itemsS, seqs, lenD, fldD, isIns, isNon, isB, inT, mutOk, mutK, muD, ckS, ckC, okP, isDct, dctOf, Pd.getD, augK, setFK, fput, okP, dmD, low, lows, List.lookup, tL, hd, tl, b12, hk, hd1]
    | none =>
      have hd1 : dget (encY (Pt.mk ws.length l, e)) (encL M) = none := by rw [dget_enc encY_eqv, hm]; rfl
      have x2 : exec (cls' (n + s + 1)) (hd (tl b12)) [.val (.int (Pt.mk ws.length l : Nat)), .val (.int e), .val (.lst (onesD ws pl)), .val bd, .val (.obj 0), .val (encY (Pt.mk ws.length l, e)), .un, .un, .un, .un, .un] (tL M) = .nx [.val (.int (Pt.mk ws.length l : Nat)), .val (.int e), .val (.lst (onesD ws pl)), .val bd, .val (.obj 0), .val (encY (Pt.mk ws.length l, e)), .un, .un, .un, .un, .un] (tL M) := by
        generalize encY (Pt.mk ws.length l, e) = d at hd1 hk
        simp [runF, ss, es, ts, gs, execs, ev_var, ev_kon, ev_glb, ev_bin, ev_neg, ev_cmp, ev_chn, ev_and, ev_or, ev_not, ev_ife, ev_call, ev_callk, ev_mth, ev_mk, ev_mkk, ev_b1, ev_b2, ev_isi, ev_ix, ev_sl, ev_lst, ev_tup, ev_newL, ev_newD, ev_lobj, ev_dsp, ev_dm, ev_join, ev_fld, exec_asg, exec_setI, exec_setF, exec_aug, exec_mut, exec_ifs, exec_ret, exec_retn, exec_brk, exec_cont, exec_exp, exec_rai, exec_fg, exec_pas, evT, evs, evTAnd, evTOr, evAnd, evOr, evP, evSrc, bo, bnd, frzAll, esT, esTs, esO, esc, escs, esS, escS, opd, opn, look, peek, ofO, cmpD, truthD, thenK, sweep, outR, outF, fresh, asgK, asgT, asgTs, put, binD, b1D, b2D, ixD, ixN, atI_0, atI_1, atI_2, atI_3, atI_4, eqv, eqvs, shp, shps, setK, setX, setO, setOb, isVar, unset, cellOf, frz, valOf, forL, forK, isiD, isiO, items, itemsS, seqs, lenD, fldD, isIns, isNon, isB, inT, mutOk, mutK, muD, ckS, ckC, okP, isDct, dctOf, Pd.getD, augK, setFK, fput, okP, dmD, low, lows, List.lookup, tL, hd, tl, b12, hk, hd1]
      rw [execs_step x2]
      -- the least budget
      have x3 : ∃ b0 : Bool, (b0 = true ↔ LP ws B pl l e 0) ∧ exec (cls' (n + s + 1)) (hd (tl (tl b12))) [.val (.int (Pt.mk ws.length l : Nat)), .val (.int e), .val (.lst (onesD ws pl)), .val bd, .val (.obj 0), .val (encY (Pt.mk ws.length l, e)), .un, .un, .un, .un, .un] (tL M) = .nx [.val (.int (Pt.mk ws.length l : Nat)), .val (.int e), .val (.lst (onesD ws pl)), .val bd, .val (.obj 0), .val (encY (Pt.mk ws.length l, e)), .val (.bl b0), .un, .un, .un, .un] (tL M) := by
        have e2 : ev (cls' (n + s + 1)) (.comp (.rng (.b1 .len (.var 3))) (.nm 10) [10] (.val (.cmp .eq (.bin .band (.bin .shr (.var 0) (.var 10)) (.kon (.int 1))) (.kon (.int 1)))) (.ix (.var 3) (.var 10))) [.val (.int (Pt.mk ws.length l : Nat)), .val (.int e), .val (.lst (onesD ws pl)), .val bd, .val (.obj 0), .val (encY (Pt.mk ws.length l, e)), .un, .un, .un, .un, .un] (tL M) = .ok (.lst ((l.map (iAt B)).map .int)) (tL M) := by
          have hr := range0_LN ws.length
          have h3 : (-1000000 : Int) ≤ (ws.length : Int) := by omega
          have h4 : (ws.length : Int) ≤ 1000000 := by omega
          have hf := sub_filter hl List.nodup_range
          have : (l.map (iAt B)).map D.int = ((List.range ws.length).filter fun q => l.contains q).map fun q => D.int (iAt B q) := by rw [hf, List.map_map]; rfl
          rw [this]
          generalize hones : onesD ws pl = on
          generalize encY (Pt.mk ws.length l, e) = d
          generalize tL M = t
          refine comp_filter _ _ _ (by simp [runF, ss, es, ts, gs, execs, ev_var, ev_kon, ev_glb, ev_bin, ev_neg, ev_cmp, ev_chn, ev_and, ev_or, ev_not, ev_ife, ev_call, ev_callk, ev_mth, ev_mk, ev_mkk, ev_b1, ev_b2, ev_isi, ev_ix, ev_sl, ev_lst, ev_tup, ev_newL, ev_newD, ev_lobj, ev_dsp, ev_dm, ev_join, ev_fld, exec_asg, exec_setI, exec_setF, exec_aug, exec_mut, exec_ifs, exec_ret, exec_retn, exec_brk, exec_cont, exec_exp, exec_rai, exec_fg, exec_pas, evT, evs, evTAnd, evTOr, evAnd, evOr, evP, evSrc, bo, bnd, frzAll, esT, esTs, esO, esc, escs, esS, escS, opd, opn, look, peek, ofO, cmpD, truthD, thenK, sweep, outR, outF, fresh, asgK, asgT, asgTs, put, binD, b1D, b2D, ixD, ixN, atI_0, atI_1, atI_2, atI_3, atI_4, eqv, eqvs, shp, shps, setK, setX, setO, setOb, isVar, unset, cellOf, frz, valOf, forL, forK, isiD, isiO, items, itemsS, seqs, lenD, fldD, isIns, isNon, isB, inT, mutOk, mutK, muD, ckS, ckC, okP, isDct, dctOf, Pd.getD, augK, setFK, fput, okP, dmD, low, lows, List.lookup, hbd, hB, h3, h4, hr]) fun q hq => ?_
          have hq := List.mem_range.mp hq
          have a1 := atI_B B q (by rw [hB]; exact hq)
          have tb := mk_bit ws.length l q hl.lt
          generalize Pt.mk ws.length l = x at tb
          have e3 : (x : Int) / 2 ^ q = ((x / 2 ^ q : Nat) : Int) := by
            rw [Int.natCast_ediv, Int.natCast_pow]; rfl
          rw [Nat.testBit_eq_decide_div_mod_eq] at tb
          generalize x / 2 ^ q = y at e3 tb
          have e7 : y &&& 1 = y % 2 := Nat.and_one_is_mod y
          have e8 : y % 2 = 0 ∨ y % 2 = 1 := by omega
          generalize y % 2 = z at e7 tb e8
          generalize iAt B q = v at a1
          rw [← tb]
          rcases e8 with rfl | rfl <;> simp [turnC, runF, ss, es, ts, gs, execs, ev_var, ev_kon, ev_glb, ev_bin, ev_neg, ev_cmp, ev_chn, ev_and, ev_or, ev_not, ev_ife, ev_call, ev_callk, ev_mth, ev_mk, ev_mkk, ev_b1, ev_b2, ev_isi, ev_ix, ev_sl, ev_lst, ev_tup, ev_newL, ev_newD, ev_lobj, ev_dsp, ev_dm, ev_join, ev_fld, exec_asg, exec_setI, exec_setF, exec_aug, exec_mut, exec_ifs, exec_ret, exec_retn, exec_brk, exec_cont, exec_exp, exec_rai, exec_fg, exec_pas, evT, evs, evTAnd, evTOr, evAnd, evOr, evP, evSrc, bo, bnd, frzAll, esT, esTs, esO, esc, escs, esS, escS, opd, opn, look, peek, ofO, cmpD, truthD, thenK, sweep, outR, outF, fresh, asgK, asgT, asgTs, put, binD, b1D, b2D, ixD, ixN, atI_0, atI_1, atI_2, atI_3, atI_4, eqv, eqvs, shp, shps, setK, setX, setO, setOb, isVar, unset, cellOf, frz, valOf, forL, forK, isiD, isiO, items, itemsS, seqs, lenD, fldD, isIns, isNon, isB, inT, mutOk, mutK, muD, ckS, ckC, okP, isDct, dctOf, Pd.getD, augK, setFK, fput, okP, dmD, low, lows, List.lookup, DN, e3, e7, a1, hbd]
        obtain ⟨v, hv, hlt⟩ := minI_lt (l.map (iAt B)) (by cases l with | nil => exact absurd rfl h2 | cons a l => simp)
        have hio := intsOf_map (l.map (iAt B))
        refine ⟨decide (v < e), ?_, ?_⟩
        · rw [decide_eq_true_eq, hlt]
          unfold LP
          constructor
          · rintro ⟨x, hx, z⟩
            obtain ⟨q, hq, rfl⟩ := List.mem_map.mp hx
            exact .inl ⟨q, hq, z⟩
          · rintro (⟨q, hq, z⟩ | ⟨p, hp, _⟩)
            · exact ⟨_, List.mem_map.mpr ⟨q, hq, rfl⟩, z⟩
            · omega
        · generalize l.map (iAt B) = zs at e2 hv hio
          generalize zs.map D.int = ds at e2 hio
          generalize encY (Pt.mk ws.length l, e) = d at *
          simp [runF, ss, es, ts, gs, execs, ev_var, ev_kon, ev_glb, ev_bin, ev_neg, ev_cmp, ev_chn, ev_and, ev_or, ev_not, ev_ife, ev_call, ev_callk, ev_mth, ev_mk, ev_mkk, ev_b1, ev_b2, ev_isi, ev_ix, ev_sl, ev_lst, ev_tup, ev_newL, ev_newD, ev_lobj, ev_dsp, ev_dm, ev_join, ev_fld, exec_asg, exec_setI, exec_setF, exec_aug, exec_mut, exec_ifs, exec_ret, exec_retn, exec_brk, exec_cont, exec_exp, exec_rai, exec_fg, exec_pas, evT, evs, evTAnd, evTOr, evAnd, evOr, evP, evSrc, bo, bnd, frzAll, esT, esTs, esO, esc, escs, esS, escS, opd, opn, look, peek, ofO, cmpD, truthD, thenK, sweep, outR, outF, fresh, asgK, asgT, asgTs, put, binD, b1D, b2D, ixD, ixN, atI_0, atI_1, atI_2, atI_3, atI_4, eqv, eqvs, shp, shps, setK, setX, setO, setOb, isVar, unset, cellOf, frz, valOf, forL, forK, isiD, isiO, items, itemsS, seqs, lenD, fldD, isIns, isNon, isB, inT, mutOk, mutK, muD, ckS, ckC, okP, isDct, dctOf, Pd.getD, augK, setFK, fput, okP, dmD, low, lows, List.lookup, hd, tl, b12, e2, hio, hv]
      obtain ⟨b0, hb0, x3⟩ := x3
      rw [execs_step x3]
      obtain ⟨ρ', t', e2, b', M', rfl, rfl, hb', hM', hfr⟩ := forL_inv (ck := fun _ => true) (f := forK (.nm 7) fun ρ t => execs (cls' (n + s + 1)) (bodyOf oFor) ρ t) (fg := [7, 8, 9])
        (fun i ρ t' => ∃ (b' : Bool) (M' : List ((Nat × Int) × Bool)), ρ = [.val (.int (Pt.mk ws.length l : Nat)), .val (.int e), .val (.lst (onesD ws pl)), .val bd, .val (.obj 0), .val (encY (Pt.mk ws.length l, e)), .val (.bl b'), .un, .un, .un, .un] ∧ t' = tL M' ∧ (b' = true ↔ LP ws B pl l e i) ∧ Lm ws B pl M' ∧ ∀ a : List Nat, Lot ws.length a → l.length ≤ a.length → ∀ e' : Int, kget (Pt.mk ws.length a, e') M' = kget (Pt.mk ws.length a, e') M) (fun _ _ _ _ => rfl)
        (onesD ws pl) 0 [.val (.int (Pt.mk ws.length l : Nat)), .val (.int e), .val (.lst (onesD ws pl)), .val bd, .val (.obj 0), .val (encY (Pt.mk ws.length l, e)), .val (.bl b0), .un, .un, .un, .un] (tL M) ⟨b0, M, rfl, rfl, hb0, hM, fun _ _ _ _ => rfl⟩ (fun i x ρ t' hx hI => by
          obtain ⟨b', M1, rfl, rfl, hb', hM1, hfr⟩ := hI
          rw [Nat.zero_add] at *
          unfold onesD at hx
          rw [List.getElem?_map] at hx
          obtain ⟨p, hp, rfl⟩ := Option.map_eq_some_iff.mp hx
          obtain ⟨hp2, hp3⟩ := List.getElem?_eq_some_iff.mp hp
          rw [List.length_range] at hp2
          have hpi : i = p := by simpa using hp3
          subst hpi
          clear hp hp3 hx
          have hand := mk_and ws ws.length i l hl.lt
          have hspl := mk_split ws ws.length i l
          have hz1 := mk_zero (m := ws.length) (l := up ws i l) (fun q hq => hl.lt q (up_sub hq))
          have hz2 := mk_zero (m := ws.length) (l := lo ws i l) (fun q hq => hl.lt q (lo_sub hq))
          have hLS := LP_succ (ws := ws) (B := B) (pl := pl) (l := l) (e := e) (i := i)
          have hsub : ((Pt.mk ws.length l : Nat) : Int) - ((Pt.mk ws.length (up ws i l) : Nat) : Int) = ((Pt.mk ws.length (lo ws i l) : Nat) : Int) := by omega
          generalize hones : onesD ws pl = on at ih
          -- what is common to the cases where it goes on at once
          have skip : (b' = true ∨ ¬ Parts ws i l) → ∃ ρ' t', (forK (.nm 7) (fun ρ t => execs (cls' (n + s + 1)) (bodyOf oFor) ρ t) (.int (Pt.mk ws.length (up ws i (List.range ws.length)) : Nat)) [.val (.int (Pt.mk ws.length l : Nat)), .val (.int e), .val (.lst on), .val bd, .val (.obj 0), .val (encY (Pt.mk ws.length l, e)), .val (.bl b'), .un, .un, .un, .un] (tL M1) = .nx ρ' t' ∨ forK (.nm 7) (fun ρ t => execs (cls' (n + s + 1)) (bodyOf oFor) ρ t) (.int (Pt.mk ws.length (up ws i (List.range ws.length)) : Nat)) [.val (.int (Pt.mk ws.length l : Nat)), .val (.int e), .val (.lst on), .val bd, .val (.obj 0), .val (encY (Pt.mk ws.length l, e)), .val (.bl b'), .un, .un, .un, .un] (tL M1) = .cont ρ' t') ∧ ∃ b'' M', unset ρ' [7, 8, 9] = [.val (.int (Pt.mk ws.length l : Nat)), .val (.int e), .val (.lst on), .val bd, .val (.obj 0), .val (encY (Pt.mk ws.length l, e)), .val (.bl b''), .un, .un, .un, .un] ∧ t' = tL M' ∧ (b'' = true ↔ LP ws B pl l e (i + 1)) ∧ Lm ws B pl M' ∧ ∀ a : List Nat, Lot ws.length a → l.length ≤ a.length → ∀ e' : Int, kget (Pt.mk ws.length a, e') M' = kget (Pt.mk ws.length a, e') M := by
            intro hs
            refine ⟨_, _, .inr (?_ : _ = Out.cont [.val (.int (Pt.mk ws.length l : Nat)), .val (.int e), .val (.lst on), .val bd, .val (.obj 0), .val (encY (Pt.mk ws.length l, e)), .val (.bl b'), .val (.int (Pt.mk ws.length (up ws i (List.range ws.length)) : Nat)), .val (.int (Pt.mk ws.length (up ws i l) : Nat)), .val (.int (Pt.mk ws.length (lo ws i l) : Nat)), .un] (tL M1)), b', M1, rfl, rfl, ?_, hM1, hfr⟩
            · have hs' : b' = true ∨ Pt.mk ws.length (up ws i l) = 0 ∨ Pt.mk ws.length (lo ws i l) = 0 := by
                rcases hs with z | z
                · exact .inl z
                · by_cases h1 : up ws i l = []
                  · exact .inr (.inl (hz1.mpr h1))
                  · by_cases h2 : lo ws i l = []
                    · exact .inr (.inr (hz2.mpr h2))
                    · exact absurd ⟨h2, h1⟩ z
              generalize encY (Pt.mk ws.length l, e) = d
              generalize Pt.mk ws.length (up ws i (List.range ws.length)) = y1 at hand
              generalize Pt.mk ws.length (up ws i l) = y2 at *
              generalize Pt.mk ws.length (lo ws i l) = y3 at *
              generalize Pt.mk ws.length l = y4 at *
              rcases hs' with rfl | rfl | rfl
              · simp [runF, ss, es, ts, gs, execs, ev_var, ev_kon, ev_glb, ev_bin, ev_neg, ev_cmp, ev_chn, ev_and, ev_or, ev_not, ev_ife, ev_call, ev_callk, ev_mth, ev_mk, ev_mkk, ev_b1, ev_b2, ev_isi, ev_ix, ev_sl, ev_lst, ev_tup, ev_newL, ev_newD, ev_lobj, ev_dsp, ev_dm, ev_join, ev_fld, exec_asg, exec_setI, exec_setF, exec_aug, exec_mut, exec_ifs, exec_ret, exec_retn, exec_brk, exec_cont, exec_exp, exec_rai, exec_fg, exec_pas, evT, evs, evTAnd, evTOr, evAnd, evOr, evP, evSrc, bo, bnd, frzAll, esT, esTs, esO, esc, escs, esS, escS, opd, opn, look, peek, ofO, cmpD, truthD, thenK, sweep, outR, outF, fresh, asgK, asgT, asgTs, put, binD, b1D, b2D, ixD, ixN, atI_0, atI_1, atI_2, atI_3, atI_4, eqv, eqvs, shp, shps, setK, setX, setO, setOb, isVar, unset, cellOf, frz, valOf, forL, forK, isiD, isiO, items, itemsS, seqs, lenD, fldD, isIns, isNon, isB, inT, mutOk, mutK, muD, ckS, ckC, okP, isDct, dctOf, Pd.getD, augK, setFK, fput, okP, dmD, low, lows, List.lookup, oFor, bodyOf, hd, tl, b12, hand, hsub]
              · have h43 : y3 = y4 := by omega
                subst h43
                cases b' <;> simp [runF, ss, es, ts, gs, execs, ev_var, ev_kon, ev_glb, ev_bin, ev_neg, ev_cmp, ev_chn, ev_and, ev_or, ev_not, ev_ife, ev_call, ev_callk, ev_mth, ev_mk, ev_mkk, ev_b1, ev_b2, ev_isi, ev_ix, ev_sl, ev_lst, ev_tup, ev_newL, ev_newD, ev_lobj, ev_dsp, ev_dm, ev_join, ev_fld, exec_asg, exec_setI, exec_setF, exec_aug, exec_mut, exec_ifs, exec_ret, exec_retn, exec_brk, exec_cont, exec_exp, exec_rai, exec_fg, exec_pas, evT, evs, evTAnd, evTOr, evAnd, evOr, evP, evSrc, bo, bnd, frzAll, esT, esTs, esO, esc, escs, esS, escS, opd, opn, look, peek, ofO, cmpD, truthD, thenK, sweep, outR, outF, fresh, asgK, asgT, asgTs, put, binD, b1D, b2D, ixD, ixN, atI_0, atI_1, atI_2, atI_3, atI_4, eqv, eqvs, shp, shps, setK, setX, setO, setOb, isVar, unset, cellOf, frz, valOf, forL, forK, isiD, isiO, items, itemsS, seqs, lenD, fldD, isIns, isNon, isB, inT, mutOk, mutK, muD, ckS, ckC, okP, isDct, dctOf, Pd.getD, augK, setFK, fput, okP, dmD, low, lows, List.lookup, oFor, bodyOf, hd, tl, b12, hand, hsub]
              · have h43 : y2 = y4 := by omega
                subst h43
                cases b' <;> by_cases hx2 : y2 = 0 <;> simp [runF, ss, es, ts, gs, execs, ev_var, ev_kon, ev_glb, ev_bin, ev_neg, ev_cmp, ev_chn, ev_and, ev_or, ev_not, ev_ife, ev_call, ev_callk, ev_mth, ev_mk, ev_mkk, ev_b1, ev_b2, ev_isi, ev_ix, ev_sl, ev_lst, ev_tup, ev_newL, ev_newD, ev_lobj, ev_dsp, ev_dm, ev_join, ev_fld, exec_asg, exec_setI, exec_setF, exec_aug, exec_mut, exec_ifs, exec_ret, exec_retn, exec_brk, exec_cont, exec_exp, exec_rai, exec_fg, exec_pas, evT, evs, evTAnd, evTOr, evAnd, evOr, evP, evSrc, bo, bnd, frzAll, esT, esTs, esO, esc, escs, esS, escS, opd, opn, look, peek, ofO, cmpD, truthD, thenK, sweep, outR, outF, fresh, asgK, asgT, asgTs, put, binD, b1D, b2D, ixD, ixN, atI_0, atI_1, atI_2, atI_3, atI_4, eqv, eqvs, shp, shps, setK, setX, setO, setOb, isVar, unset, cellOf, frz, valOf, forL, forK, isiD, isiO, items, itemsS, seqs, lenD, fldD, isIns, isNon, isB, inT, mutOk, mutK, muD, ckS, ckC, okP, isDct, dctOf, Pd.getD, augK, setFK, fput, okP, dmD, low, lows, List.lookup, oFor, bodyOf, hd, tl, b12, hand, hsub, hx2]
            · rw [hLS, hb']
              rcases hs with z | z
              · exact ⟨fun h => .inl h, fun _ => hb'.mp z⟩
              · exact ⟨fun h => .inl h, fun h => h.elim id fun h => absurd h.1 z⟩
          by_cases hbt : b' = true
          · exact skip (.inl hbt)
          by_cases hpt : Parts ws i l
          rotate_left
          · exact skip (.inr hpt)
          clear skip
          have hbf : b' = false := by simpa using hbt
          subst hbf
          have hlt := hpt.lt
          have hn1 : Pt.mk ws.length (up ws i l) ≠ 0 := fun z => hpt.2 (hz1.mp z)
          have hn2 : Pt.mk ws.length (lo ws i l) ≠ 0 := fun z => hpt.1 (hz2.mp z)
          obtain ⟨M2, i1, hM2, hf2⟩ := ih (lo ws i l) e M1 (by omega) hpt.1 (hl.lo ws i) he1 (by omega) hM1
          have fin : ∀ (b'' : Bool) (M' : List ((Nat × Int) × Bool)), forK (.nm 7) (fun ρ t => execs (cls' (n + s + 1)) (bodyOf oFor) ρ t) (.int (Pt.mk ws.length (up ws i (List.range ws.length)) : Nat)) [.val (.int (Pt.mk ws.length l : Nat)), .val (.int e), .val (.lst on), .val bd, .val (.obj 0), .val (encY (Pt.mk ws.length l, e)), .val (.bl false), .un, .un, .un, .un] (tL M1) = .nx [.val (.int (Pt.mk ws.length l : Nat)), .val (.int e), .val (.lst on), .val bd, .val (.obj 0), .val (encY (Pt.mk ws.length l, e)), .val (.bl b''), .val (.int (Pt.mk ws.length (up ws i (List.range ws.length)) : Nat)), .val (.int (Pt.mk ws.length (up ws i l) : Nat)), .val (.int (Pt.mk ws.length (lo ws i l) : Nat)), .un] (tL M') →
              (b'' = true ↔ (0 < Need ws (iAt B) pl (lo ws i l) + e ∨ 0 < Need ws (iAt B) pl (up ws i l) + e ∨ (0 < Need ws (iAt B) pl (lo ws i l) + (e + 1) ∧ 0 < Need ws (iAt B) pl (up ws i l) + (e + 1)))) → Lm ws B pl M' → (∀ a : List Nat, Lot ws.length a → l.length ≤ a.length → ∀ e' : Int, kget (Pt.mk ws.length a, e') M' = kget (Pt.mk ws.length a, e') M1) →
              ∃ ρ' t', (forK (.nm 7) (fun ρ t => execs (cls' (n + s + 1)) (bodyOf oFor) ρ t) (.int (Pt.mk ws.length (up ws i (List.range ws.length)) : Nat)) [.val (.int (Pt.mk ws.length l : Nat)), .val (.int e), .val (.lst on), .val bd, .val (.obj 0), .val (encY (Pt.mk ws.length l, e)), .val (.bl false), .un, .un, .un, .un] (tL M1) = .nx ρ' t' ∨ forK (.nm 7) (fun ρ t => execs (cls' (n + s + 1)) (bodyOf oFor) ρ t) (.int (Pt.mk ws.length (up ws i (List.range ws.length)) : Nat)) [.val (.int (Pt.mk ws.length l : Nat)), .val (.int e), .val (.lst on), .val bd, .val (.obj 0), .val (encY (Pt.mk ws.length l, e)), .val (.bl false), .un, .un, .un, .un] (tL M1) = .cont ρ' t') ∧ ∃ b'' M', unset ρ' [7, 8, 9] = [.val (.int (Pt.mk ws.length l : Nat)), .val (.int e), .val (.lst on), .val bd, .val (.obj 0), .val (encY (Pt.mk ws.length l, e)), .val (.bl b''), .un, .un, .un, .un] ∧ t' = tL M' ∧ (b'' = true ↔ LP ws B pl l e (i + 1)) ∧ Lm ws B pl M' ∧ ∀ a : List Nat, Lot ws.length a → l.length ≤ a.length → ∀ e' : Int, kget (Pt.mk ws.length a, e') M' = kget (Pt.mk ws.length a, e') M := fun b'' M' x hb'' hm hf => by
            refine ⟨_, _, .inl x, b'', M', rfl, rfl, ?_, hm, fun a ha hla e' => (hf a ha hla e').trans (hfr a ha hla e')⟩
            rw [hLS, ← hb', hb'']
            constructor
            · exact fun h => .inr ⟨hpt, h⟩
            · rintro (h | h)
              · cases h
              · exact h.2
          by_cases c1 : 0 < Need ws (iAt B) pl (lo ws i l) + e
          · refine fin true M2 ?_ ⟨fun _ => .inl c1, fun _ => rfl⟩ hM2 (fun a ha hla e' => hf2 a ha (by omega) e')
            rw [decide_eq_true c1] at i1
            clear fin
            generalize encY (Pt.mk ws.length l, e) = d
            generalize Pt.mk ws.length (up ws i (List.range ws.length)) = y1 at hand
            generalize Pt.mk ws.length (up ws i l) = y2 at *
            generalize Pt.mk ws.length (lo ws i l) = y3 at *
            generalize Pt.mk ws.length l = y4 at *
            simp [runF, ss, es, ts, gs, execs, ev_var, ev_kon, ev_glb, ev_bin, ev_neg, ev_cmp, ev_chn, ev_and, ev_or, ev_not, ev_ife, ev_call, ev_callk, ev_mth, ev_mk, ev_mkk, ev_b1, ev_b2, ev_isi, ev_ix, ev_sl, ev_lst, ev_tup, ev_newL, ev_newD, ev_lobj, ev_dsp, ev_dm, ev_join, ev_fld, exec_asg, exec_setI, exec_setF, exec_aug, exec_mut, exec_ifs, exec_ret, exec_retn, exec_brk, exec_cont, exec_exp, exec_rai, exec_fg, exec_pas, evT, evs, evTAnd, evTOr, evAnd, evOr, evP, evSrc, bo, bnd, frzAll, esT, esTs, esO, esc, escs, esS, escS, opd, opn, look, peek, ofO, cmpD, truthD, thenK, sweep, outR, outF, fresh, asgK, asgT, asgTs, put, binD, b1D, b2D, ixD, ixN, atI_0, atI_1, atI_2, atI_3, atI_4, eqv, eqvs, shp, shps, setK, setX, setO, setOb, isVar, unset, cellOf, frz, valOf, forL, forK, isiD, isiO, items, itemsS, seqs, lenD, fldD, isIns, isNon, isB, inT, mutOk, mutK, muD, ckS, ckC, okP, isDct, dctOf, Pd.getD, augK, setFK, fput, okP, dmD, low, lows, List.lookup, oFor, bodyOf, hd, tl, b12, hand, hsub, hn1, hn2, i1]
          obtain ⟨M3, i2, hM3, hf3⟩ := ih (up ws i l) e M2 (by omega) hpt.2 (hl.up ws i) he1 (by omega) hM2
          by_cases c2 : 0 < Need ws (iAt B) pl (up ws i l) + e
          · refine fin true M3 ?_ ⟨fun _ => .inr (.inl c2), fun _ => rfl⟩ hM3 (fun a ha hla e' => (hf3 a ha (by omega) e').trans (hf2 a ha (by omega) e'))
            rw [decide_eq_false c1] at i1
            rw [decide_eq_true c2] at i2
            clear fin
            generalize encY (Pt.mk ws.length l, e) = d
            generalize Pt.mk ws.length (up ws i (List.range ws.length)) = y1 at hand
            generalize Pt.mk ws.length (up ws i l) = y2 at *
            generalize Pt.mk ws.length (lo ws i l) = y3 at *
            generalize Pt.mk ws.length l = y4 at *
            simp [runF, ss, es, ts, gs, execs, ev_var, ev_kon, ev_glb, ev_bin, ev_neg, ev_cmp, ev_chn, ev_and, ev_or, ev_not, ev_ife, ev_call, ev_callk, ev_mth, ev_mk, ev_mkk, ev_b1, ev_b2, ev_isi, ev_ix, ev_sl, ev_lst, ev_tup, ev_newL, ev_newD, ev_lobj, ev_dsp, ev_dm, ev_join, ev_fld, exec_asg, exec_setI, exec_setF, exec_aug, exec_mut, exec_ifs, exec_ret, exec_retn, exec_brk, exec_cont, exec_exp, exec_rai, exec_fg, exec_pas, evT, evs, evTAnd, evTOr, evAnd, evOr, evP, evSrc, bo, bnd, frzAll, esT, esTs, esO, esc, escs, esS, escS, opd, opn, look, peek, ofO, cmpD, truthD, thenK, sweep, outR, outF, fresh, asgK, asgT, asgTs, put, binD, b1D, b2D, ixD, ixN, atI_0, atI_1, atI_2, atI_3, atI_4, eqv, eqvs, shp, shps, setK, setX, setO, setOb, isVar, unset, cellOf, frz, valOf, forL, forK, isiD, isiO, items, itemsS, seqs, lenD, fldD, isIns, isNon, isB, inT, mutOk, mutK, muD, ckS, ckC, okP, isDct, dctOf, Pd.getD, augK, setFK, fput, okP, dmD, low, lows, List.lookup, oFor, bodyOf, hd, tl, b12, hand, hsub, hn1, hn2, i1, i2]
          obtain ⟨M4, i3, hM4, hf4⟩ := ih (lo ws i l) (e + 1) M3 (by omega) hpt.1 (hl.lo ws i) (by omega) (by omega) hM3
          by_cases c3 : 0 < Need ws (iAt B) pl (lo ws i l) + (e + 1)
          · obtain ⟨M5, i4, hM5, hf5⟩ := ih (up ws i l) (e + 1) M4 (by omega) hpt.2 (hl.up ws i) (by omega) (by omega) hM4
            refine fin (decide (0 < Need ws (iAt B) pl (up ws i l) + (e + 1))) M5 ?_ ?_ hM5 (fun a ha hla e' => (hf5 a ha (by omega) e').trans ((hf4 a ha (by omega) e').trans ((hf3 a ha (by omega) e').trans (hf2 a ha (by omega) e'))))
            · rw [decide_eq_false c1] at i1
              rw [decide_eq_false c2] at i2
              rw [decide_eq_true c3] at i3
              clear fin
              generalize decide (0 < Need ws (iAt B) pl (up ws i l) + (e + 1)) = r4 at i4
              generalize encY (Pt.mk ws.length l, e) = d
              generalize Pt.mk ws.length (up ws i (List.range ws.length)) = y1 at hand
              generalize Pt.mk ws.length (up ws i l) = y2 at *
              generalize Pt.mk ws.length (lo ws i l) = y3 at *
              generalize Pt.mk ws.length l = y4 at *
              simp [runF, ss, es, ts, gs, execs, ev_var, ev_kon, ev_glb, ev_bin, ev_neg, ev_cmp, ev_chn, ev_and, ev_or, ev_not, ev_ife, ev_call, ev_callk, ev_mth, ev_mk, ev_mkk, ev_b1, ev_b2, ev_isi, ev_ix, ev_sl, ev_lst, ev_tup, ev_newL, ev_newD, ev_lobj, ev_dsp, ev_dm, ev_join, ev_fld, exec_asg, exec_setI, exec_setF, exec_aug, exec_mut, exec_ifs, exec_ret, exec_retn, exec_brk, exec_cont, exec_exp, exec_rai, exec_fg, exec_pas, evT, evs, evTAnd, evTOr, evAnd, evOr, evP, evSrc, bo, bnd, frzAll, esT, esTs, esO, esc, escs, esS, escS, opd, opn, look, peek, ofO, cmpD, truthD, thenK, sweep, outR, outF, fresh, asgK, asgT, asgTs, put, binD, b1D, b2D, ixD, ixN, atI_0, atI_1, atI_2, atI_3, atI_4, eqv, eqvs, shp, shps, setK, setX, setO, setOb, isVar, unset, cellOf, frz, valOf, forL, forK, isiD, isiO, items, itemsS, seqs, lenD, fldD, isIns, isNon, isB, inT, mutOk, mutK, muD, ckS, ckC, okP, isDct, dctOf, Pd.getD, augK, setFK, fput, okP, dmD, low, lows, List.lookup, oFor, bodyOf, hd, tl, b12, hand, hsub, hn1, hn2, i1, i2, i3, i4]
            · rw [decide_eq_true_eq]
              exact ⟨fun h => .inr (.inr ⟨c3, h⟩), fun h => h.elim (fun z => absurd z c1) fun h => h.elim (fun z => absurd z c2) fun z => z.2⟩
          · refine fin false M4 ?_ ⟨(fun h => by cases h), fun h => h.elim (fun z => absurd z c1) fun h => h.elim (fun z => absurd z c2) fun z => absurd z.1 c3⟩ hM4 (fun a ha hla e' => (hf4 a ha (by omega) e').trans ((hf3 a ha (by omega) e').trans (hf2 a ha (by omega) e')))
            rw [decide_eq_false c1] at i1
            rw [decide_eq_false c2] at i2
            rw [decide_eq_false c3] at i3
            clear fin
            generalize encY (Pt.mk ws.length l, e) = d
            generalize Pt.mk ws.length (up ws i (List.range ws.length)) = y1 at hand
            generalize Pt.mk ws.length (up ws i l) = y2 at *
            generalize Pt.mk ws.length (lo ws i l) = y3 at *
            generalize Pt.mk ws.length l = y4 at *
            simp [runF, ss, es, ts, gs, execs, ev_var, ev_kon, ev_glb, ev_bin, ev_neg, ev_cmp, ev_chn, ev_and, ev_or, ev_not, ev_ife, ev_call, ev_callk, ev_mth, ev_mk, ev_mkk, ev_b1, ev_b2, ev_isi, ev_ix, ev_sl, ev_lst, ev_tup, ev_newL, ev_newD, ev_lobj, ev_dsp, ev_dm, ev_join, ev_fld, exec_asg, exec_setI, exec_setF, exec_aug, exec_mut, exec_ifs, exec_ret, exec_retn, exec_brk, exec_cont, exec_exp, exec_rai, exec_fg, exec_pas, evT, evs, evTAnd, evTOr, evAnd, evOr, evP, evSrc, bo, bnd, frzAll, esT, esTs, esO, esc, escs, esS, escS, opd, opn, look, peek, ofO, cmpD, truthD, thenK, sweep, outR, outF, fresh, asgK, asgT, asgTs, put, binD, b1D, b2D, ixD, ixN, atI_0, atI_1, atI_2, atI_3, atI_4, eqv, eqvs, shp, shps, setK, setX, setO, setOb, isVar, unset, cellOf, frz, valOf, forL, forK, isiD, isiO, items, itemsS, seqs, lenD, fldD, isIns, isNon, isB, inT, mutOk, mutK, muD, ckS, ckC, okP, isDct, dctOf, Pd.getD, augK, setFK, fput, okP, dmD, low, lows, List.lookup, oFor, bodyOf, hd, tl, b12, hand, hsub, hn1, hn2, i1, i2, i3])
      have hol : (onesD ws pl).length = pl := by unfold onesD; rw [List.length_map, List.length_range]
      rw [hol, Nat.zero_add, LP_all h2] at hb'
      have hbb : b' = decide (0 < Need ws (iAt B) pl l + e) := by
        by_cases z : 0 < Need ws (iAt B) pl l + e
        · rw [decide_eq_true z]; exact hb'.mpr z
        · rw [decide_eq_false z]
          cases b' with
          | false => rfl
          | true => exact absurd (hb'.mp rfl) z
      subst hbb
      have x4 : exec (cls' (n + s + 1)) oFor [.val (.int (Pt.mk ws.length l : Nat)), .val (.int e), .val (.lst (onesD ws pl)), .val bd, .val (.obj 0), .val (encY (Pt.mk ws.length l, e)), .val (.bl b0), .un, .un, .un, .un] (tL M) = .nx [.val (.int (Pt.mk ws.length l : Nat)), .val (.int e), .val (.lst (onesD ws pl)), .val bd, .val (.obj 0), .val (encY (Pt.mk ws.length l, e)), .val (.bl (decide (0 < Need ws (iAt B) pl l + e))), .un, .un, .un, .un] (tL M') := by
        rw [oFor_eq]
        exact exec_forOf (xs := onesD ws pl) (t1 := tL M) (by simp [runF, ss, es, ts, gs, execs, ev_var, ev_kon, ev_glb, ev_bin, ev_neg, ev_cmp, ev_chn, ev_and, ev_or, ev_not, ev_ife, ev_call, ev_callk, ev_mth, ev_mk, ev_mkk, ev_b1, ev_b2, ev_isi, ev_ix, ev_sl, ev_lst, ev_tup, ev_newL, ev_newD, ev_lobj, ev_dsp, ev_dm, ev_join, ev_fld, exec_asg, exec_setI, exec_setF, exec_aug, exec_mut, exec_ifs, exec_ret, exec_retn, exec_brk, exec_cont, exec_exp, exec_rai, exec_fg, exec_pas, evT, evs, evTAnd, evTOr, evAnd, evOr, evP, evSrc, bo, bnd, frzAll, esT, esTs, esO, esc, escs, esS, escS, opd, opn, look, peek, ofO, cmpD, truthD, thenK, sweep, outR, outF, fresh, asgK, asgT, asgTs, put, binD, b1D, b2D, ixD, ixN, atI_0, atI_1, atI_2, atI_3, atI_4, eqv, eqvs, shp, shps, setK, setX, setO, setOb, isVar, unset, cellOf, frz, valOf, forL, forK, isiD, isiO, items, itemsS, seqs, lenD, fldD, isIns, isNon, isB, inT, mutOk, mutK, muD, ckS, ckC, okP, isDct, dctOf, Pd.getD, augK, setFK, fput, okP, dmD, low, lows, List.lookup]) e2
      rw [execs_step x4]
      have hm' : kget (Pt.mk ws.length l, e) M' = none := by rw [hfr l hl (Nat.le_refl _) e, hm]
      refine ⟨M' ++ [((Pt.mk ws.length l, e), decide (0 < Need ws (iAt B) pl l + e))], ?_, ⟨keys_snoc hM'.nd hm', fun p hp => ?_⟩, fun a ha hla e' => ?_⟩
      · have hput : dput (encY (Pt.mk ws.length l, e)) (.bl (decide (0 < Need ws (iAt B) pl l + e))) (encL M') = encL (M' ++ [((Pt.mk ws.length l, e), decide (0 < Need ws (iAt B) pl l + e))]) := dput_enc (enc := encY) (dv := D.bl) encY_eqv (Pt.mk ws.length l, e) (decide (0 < Need ws (iAt B) pl l + e)) M' hm'
        have hml := hM'.len h9
        have ht : tL (M' ++ [((Pt.mk ws.length l, e), decide (0 < Need ws (iAt B) pl l + e))]) = [.dct true (encL (M' ++ [((Pt.mk ws.length l, e), decide (0 < Need ws (iAt B) pl l + e))]))] := rfl
        rw [ht]
        have ht : tL M' = [.dct true (encL M')] := rfl
        rw [ht]
        generalize encL (M' ++ [((Pt.mk ws.length l, e), decide (0 < Need ws (iAt B) pl l + e))]) = kv2 at hput
        generalize encL M' = kv at hput hml
        generalize decide (0 < Need ws (iAt B) pl l + e) = b at hput
        generalize encY (Pt.mk ws.length l, e) = d at hput hk
        simp [runF, ss, es, ts, gs, execs, ev_var, ev_kon, ev_glb, ev_bin, ev_neg, ev_cmp, ev_chn, ev_and, ev_or, ev_not, ev_ife, ev_call, ev_callk, ev_mth, ev_mk, ev_mkk, ev_b1, ev_b2, ev_isi, ev_ix, ev_sl, ev_lst, ev_tup, ev_newL, ev_newD, ev_lobj, ev_dsp, ev_dm, ev_join, ev_fld, exec_asg, exec_setI, exec_setF, exec_aug, exec_mut, exec_ifs, exec_ret, exec_retn, exec_brk, exec_cont, exec_exp, exec_rai, exec_fg, exec_pas, evT, evs, evTAnd, evTOr, evAnd, evOr, evP, evSrc, bo, bnd, frzAll, esT, esTs, esO, esc, escs, esS, escS, opd, opn, look, peek, ofO, cmpD, truthD, thenK, sweep, outR, outF, fresh, asgK, asgT, asgTs, put, binD, b1D, b2D, ixD, ixN, atI_0, atI_1, atI_2, atI_3, atI_4, eqv, eqvs, shp, shps, setK, setX, setO, setOb, isVar, unset, cellOf, frz, valOf, forL, forK, isiD, isiO, items, itemsS, seqs, lenD, fldD, isIns, isNon, isB, inT, mutOk, mutK, muD, ckS, ckC, okP, isDct, dctOf, Pd.getD, augK, setFK, fput, okP, dmD, low, lows, List.lookup, tl, b12, hk, hput, hml]
      · rcases List.mem_append.mp hp with hp | hp
        · exact hM'.ok p hp
        · rw [List.mem_singleton.mp hp]; exact ⟨l, hl, h2, rfl, rfl, by show -20 ≤ e; omega, by show e ≤ 30; omega⟩
      · rw [kgL_snoc_ne (fun z => by
          have := mk_inj hl ha (congrArg Prod.fst z)
          rw [this] at hla; omega)]
        exact hfr a ha (by omega) e'
end K85
set_option maxRecDepth 100000
set_option linter.all false
set_option autoImplicit false
/-! the need by the law, breaks, unlike, handed -/
namespace K85
open Pd Pt
theorem lows_str (ws : List (List Nat)) : lows 0 (ws.map .str) = true := by
  induction ws with
  | nil => rfl
  | cons w ws ih => rw [List.map_cons, lows, ih]; rfl
theorem lows_int (B : List Int) : lows 0 (B.map .int) = true := by
  induction B with
  | nil => rfl
  | cons w ws ih => rw [List.map_cons, lows, ih]; rfl
def nFor : S := hd (tl (tl b6))
theorem nFor_eq : nFor = .for (.nm 4) (.rng (.kon (.int 24))) (bodyOf nFor) [4] := rfl
theorem c_lneed (n : Nat) {pl : Nat} {ws : List (List Nat)} {B : List Int} (t : T) (hw : Wd ws pl) (h1 : 1 ≤ ws.length) (h9 : ws.length ≤ 10) (hpl : pl ≤ 1000) (hB : B.length = ws.length) (hP : ∀ b ∈ B, 0 ≤ b ∧ b ≤ 10) : call prg (n + 18) 6 [.lst (ws.map .str), .lst (B.map .int)] t = .ok (.int (Need ws (iAt B) pl (List.range ws.length))) t := by
  have hne := range_ne h1
  have lo0 : -10 ≤ Need ws (iAt B) pl (List.range ws.length) := by
    have := Need_ge ws (iAt B) pl (List.range ws.length) (q := 0) (List.mem_range.mpr (by omega))
    have := (hP _ (iAt_mem (B := B) (q := 0) (by omega))).2
    omega
  have hi0 : Need ws (iAt B) pl (List.range ws.length) ≤ 13 := by
    have := Need_le ws (iAt B) pl 0 (List.range ws.length) hne (fun q hq => (hP _ (iAt_mem (by rw [hB]; exact List.mem_range.mp hq))).1)
    rw [List.length_range] at this
    omega
  rw [cS 6 f6 rfl]
  have e0 : runF (cls' (n + 17)) f6 [.lst (ws.map .str), .lst (B.map .int)] t = if lows 0 [.lst (ws.map .str), .lst (B.map .int)] then outF t (execs (cls' (n + 17)) b6 [.val (.lst (ws.map .str)), .val (.lst (B.map .int)), .un, .un, .un] []) else .no := rfl
  have hlow : lows 0 [.lst (ws.map .str), .lst (B.map .int)] = true := by
    simp only [lows, low, lows_str, lows_int, Bool.and_self]
  rw [e0, hlow, if_pos rfl]
  have hb : b6 = .cons (hd b6) (.cons (hd (tl b6)) (.cons nFor (tl (tl (tl b6))))) := rfl
  have i1 : call prg (n + 17) 11 [.lst (ws.map .str)] [] = .ok (.lst (onesD ws pl)) [] := c_masks (n + 16) [] hw h1 (by omega) hpl
  have x1 : exec (cls' (n + 17)) (hd b6) [.val (.lst (ws.map .str)), .val (.lst (B.map .int)), .un, .un, .un] [] = .nx [.val (.lst (ws.map .str)), .val (.lst (B.map .int)), .val (.lst (onesD ws pl)), .un, .un] [] := by
    simp [runF, ss, es, ts, gs, execs, ev_var, ev_kon, ev_glb, ev_bin, ev_neg, ev_cmp, ev_chn, ev_and, ev_or, ev_not, ev_ife, ev_call, ev_callk, ev_mth, ev_mk, ev_mkk, ev_b1, ev_b2, ev_isi, ev_ix, ev_sl, ev_lst, ev_tup, ev_newL, ev_newD, ev_lobj, ev_dsp, ev_dm, ev_join, ev_fld, exec_asg, exec_setI, exec_setF, exec_aug, exec_mut, exec_ifs, exec_ret, exec_retn, exec_brk, exec_cont, exec_exp, exec_rai, exec_fg, exec_pas, evT, evs, evTAnd, evTOr, evAnd, evOr, evP, evSrc, bo, bnd, frzAll, esT, esTs, esO, esc, escs, esS, escS, opd, opn, look, peek, ofO, cmpD, truthD, thenK, sweep, outR, outF, fresh, asgK, asgT, asgTs, put, binD, b1D, b2D, ixD, ixN, atI_0, atI_1, atI_2, atI_3, atI_4, eqv, eqvs, shp, shps, setK, setX, setO, setOb, isVar, unset, cellOf, frz, valOf, forL, forK, isiD, isiO, items, itemsS, seqs, lenD, fldD, isIns, isNon, isB, inT, mutOk, mutK, muD, ckS, ckC, okP, isDct, dctOf, Pd.getD, augK, setFK, fput, okP, dmD, low, lows, List.lookup, hd, b6, i1]
  have x2 : exec (cls' (n + 17)) (hd (tl b6)) [.val (.lst (ws.map .str)), .val (.lst (B.map .int)), .val (.lst (onesD ws pl)), .un, .un] [] = .nx [.val (.lst (ws.map .str)), .val (.lst (B.map .int)), .val (.lst (onesD ws pl)), .val (.obj 0), .un] (tL []) := by
    simp [runF, ss, es, ts, gs, execs, ev_var, ev_kon, ev_glb, ev_bin, ev_neg, ev_cmp, ev_chn, ev_and, ev_or, ev_not, ev_ife, ev_call, ev_callk, ev_mth, ev_mk, ev_mkk, ev_b1, ev_b2, ev_isi, ev_ix, ev_sl, ev_lst, ev_tup, ev_newL, ev_newD, ev_lobj, ev_dsp, ev_dm, ev_join, ev_fld, exec_asg, exec_setI, exec_setF, exec_aug, exec_mut, exec_ifs, exec_ret, exec_retn, exec_brk, exec_cont, exec_exp, exec_rai, exec_fg, exec_pas, evT, evs, evTAnd, evTOr, evAnd, evOr, evP, evSrc, bo, bnd, frzAll, esT, esTs, esO, esc, escs, esS, escS, opd, opn, look, peek, ofO, cmpD, truthD, thenK, sweep, outR, outF, fresh, asgK, asgT, asgTs, put, binD, b1D, b2D, ixD, ixN, atI_0, atI_1, atI_2, atI_3, atI_4, eqv, eqvs, shp, shps, setK, setX, setO, setOb, isVar, unset, cellOf, frz, valOf, forL, forK, isiD, isiO, items, itemsS, seqs, lenD, fldD, isIns, isNon, isB, inT, mutOk, mutK, muD, ckS, ckC, okP, isDct, dctOf, Pd.getD, augK, setFK, fput, okP, dmD, low, lows, List.lookup, hd, tl, b6, tL, encK]
  rw [hb, execs_step x1, execs_step x2]
  have hpow : (2 : Int) ^ ws.length - 1 = ((Pt.mk ws.length (List.range ws.length) : Nat) : Int) := by
    have := Nat.two_pow_pos ws.length
    rw [mk_all, p2]; omega
  have L := forL_ret (ck := fun _ => true) (f := forK (.nm 4) fun ρ t => execs (cls' (n + 17)) (bodyOf nFor) ρ t) (fg := [4])
    (fun i ρ t' => ∃ M, ρ = [.val (.lst (ws.map .str)), .val (.lst (B.map .int)), .val (.lst (onesD ws pl)), .val (.obj 0), .un] ∧ t' = tL M ∧ Lm ws B pl M ∧ (i : Int) - 10 ≤ Need ws (iAt B) pl (List.range ws.length))
    (fun i d _ => d = .int (Need ws (iAt B) pl (List.range ws.length))) (fun _ _ _ _ => rfl) (LN (List.range 24)) 0 [.val (.lst (ws.map .str)), .val (.lst (B.map .int)), .val (.lst (onesD ws pl)), .val (.obj 0), .un] (tL []) ⟨[], rfl, rfl, Lm.nil ws B pl, by omega⟩ (fun i x ρ t' hx hI => by
      obtain ⟨M, rfl, rfl, hM, hi⟩ := hI
      rw [Nat.zero_add] at *
      obtain ⟨hi2, rfl⟩ := idx_range hx
      obtain ⟨M', e, hM', _⟩ := c_lost n (by omega) hB (.lst (B.map .int)) rfl 16 (List.range ws.length) (10 - (i : Int)) M (by rw [List.length_range]; omega) hne (Lot.all _) (by omega) (by rw [List.length_range]; omega) hM
      have e : call prg (n + 17) 12 [.int (Pt.mk ws.length (List.range ws.length) : Nat), .int (10 - (i : Int)), .lst (onesD ws pl), .lst (B.map .int), .obj 0] (tL M) = .ok (.bl (decide (0 < Need ws (iAt B) pl (List.range ws.length) + (10 - (i : Int))))) (tL M') := e
      have h4 : (ws.length : Int) ≤ 1000000 := by omega
      by_cases hc : 0 < Need ws (iAt B) pl (List.range ws.length) + (10 - (i : Int))
      · rw [decide_eq_true hc] at e
        refine .inl ⟨_, _, .inl (?_ : _ = Out.nx [.val (.lst (ws.map .str)), .val (.lst (B.map .int)), .val (.lst (onesD ws pl)), .val (.obj 0), .val (.int i)] (tL M')), M', rfl, rfl, hM', by omega⟩
        generalize onesD ws pl = on at e
        generalize B.map D.int = bd at e
        simp [runF, ss, es, ts, gs, execs, ev_var, ev_kon, ev_glb, ev_bin, ev_neg, ev_cmp, ev_chn, ev_and, ev_or, ev_not, ev_ife, ev_call, ev_callk, ev_mth, ev_mk, ev_mkk, ev_b1, ev_b2, ev_isi, ev_ix, ev_sl, ev_lst, ev_tup, ev_newL, ev_newD, ev_lobj, ev_dsp, ev_dm, ev_join, ev_fld, exec_asg, exec_setI, exec_setF, exec_aug, exec_mut, exec_ifs, exec_ret, exec_retn, exec_brk, exec_cont, exec_exp, exec_rai, exec_fg, exec_pas, evT, evs, evTAnd, evTOr, evAnd, evOr, evP, evSrc, bo, bnd, frzAll, esT, esTs, esO, esc, escs, esS, escS, opd, opn, look, peek, ofO, cmpD, truthD, thenK, sweep, outR, outF, fresh, asgK, asgT, asgTs, put, binD, b1D, b2D, ixD, ixN, atI_0, atI_1, atI_2, atI_3, atI_4, eqv, eqvs, shp, shps, setK, setX, setO, setOb, isVar, unset, cellOf, frz, valOf, forL, forK, isiD, isiO, items, itemsS, seqs, lenD, fldD, isIns, isNon, isB, inT, mutOk, mutK, muD, ckS, ckC, okP, isDct, dctOf, Pd.getD, augK, setFK, fput, okP, dmD, low, lows, List.lookup, nFor, bodyOf, hd, tl, b6, DN, hpow, h4, e]
      · rw [decide_eq_false hc] at e
        refine .inr ⟨_, _, (?_ : _ = Out.ret (.int ((i : Int) - 10)) (tL M')), by congr 1; omega⟩
        generalize onesD ws pl = on at e
        generalize B.map D.int = bd at e
        simp [runF, ss, es, ts, gs, execs, ev_var, ev_kon, ev_glb, ev_bin, ev_neg, ev_cmp, ev_chn, ev_and, ev_or, ev_not, ev_ife, ev_call, ev_callk, ev_mth, ev_mk, ev_mkk, ev_b1, ev_b2, ev_isi, ev_ix, ev_sl, ev_lst, ev_tup, ev_newL, ev_newD, ev_lobj, ev_dsp, ev_dm, ev_join, ev_fld, exec_asg, exec_setI, exec_setF, exec_aug, exec_mut, exec_ifs, exec_ret, exec_retn, exec_brk, exec_cont, exec_exp, exec_rai, exec_fg, exec_pas, evT, evs, evTAnd, evTOr, evAnd, evOr, evP, evSrc, bo, bnd, frzAll, esT, esTs, esO, esc, escs, esS, escS, opd, opn, look, peek, ofO, cmpD, truthD, thenK, sweep, outR, outF, fresh, asgK, asgT, asgTs, put, binD, b1D, b2D, ixD, ixN, atI_0, atI_1, atI_2, atI_3, atI_4, eqv, eqvs, shp, shps, setK, setX, setO, setOb, isVar, unset, cellOf, frz, valOf, forL, forK, isiD, isiO, items, itemsS, seqs, lenD, fldD, isIns, isNon, isB, inT, mutOk, mutK, muD, ckS, ckC, okP, isDct, dctOf, Pd.getD, augK, setFK, fput, okP, dmD, low, lows, List.lookup, nFor, bodyOf, hd, tl, b6, DN, hpow, h4, e])
  rcases L with ⟨ρ', t', _, M, _, _, _, hI⟩ | ⟨d, t', i, e2, hi, rfl⟩
  · rw [len_LN, List.length_range] at hI; omega
  · have x3 : exec (cls' (n + 17)) nFor [.val (.lst (ws.map .str)), .val (.lst (B.map .int)), .val (.lst (onesD ws pl)), .val (.obj 0), .un] (tL []) = .ret (.int (Need ws (iAt B) pl (List.range ws.length))) t' := by
      rw [nFor_eq]
      have hr : range0 24 = LN (List.range 24) := range0_LN 24
      exact exec_forOf (xs := LN (List.range 24)) (t1 := tL []) (by simp [runF, ss, es, ts, gs, execs, ev_var, ev_kon, ev_glb, ev_bin, ev_neg, ev_cmp, ev_chn, ev_and, ev_or, ev_not, ev_ife, ev_call, ev_callk, ev_mth, ev_mk, ev_mkk, ev_b1, ev_b2, ev_isi, ev_ix, ev_sl, ev_lst, ev_tup, ev_newL, ev_newD, ev_lobj, ev_dsp, ev_dm, ev_join, ev_fld, exec_asg, exec_setI, exec_setF, exec_aug, exec_mut, exec_ifs, exec_ret, exec_retn, exec_brk, exec_cont, exec_exp, exec_rai, exec_fg, exec_pas, evT, evs, evTAnd, evTOr, evAnd, evOr, evP, evSrc, bo, bnd, frzAll, esT, esTs, esO, esc, escs, esS, escS, opd, opn, look, peek, ofO, cmpD, truthD, thenK, sweep, outR, outF, fresh, asgK, asgT, asgTs, put, binD, b1D, b2D, ixD, ixN, atI_0, atI_1, atI_2, atI_3, atI_4, eqv, eqvs, shp, shps, setK, setX, setO, setOb, isVar, unset, cellOf, frz, valOf, forL, forK, isiD, isiO, items, itemsS, seqs, lenD, fldD, isIns, isNon, isB, inT, mutOk, mutK, muD, ckS, ckC, okP, isDct, dctOf, Pd.getD, augK, setFK, fput, okP, dmD, low, lows, List.lookup, hr]) e2
    rw [execs_end x3]
    rfl

/-! ### breaks -/
def encW (a : Nat × Bool) : D := .lst [.int a.1, .str [if a.2 then 49 else 48]]
theorem c_breaksG (n : Nat) {pl : Nat} {ws : List (List Nat)} {B : List Int} (t : T) (hw : Wd ws pl) (h1 : 1 ≤ ws.length) (hB : B.length = ws.length) (rD bD : D) (hrD : rD = .lst (ws.map .str) ∨ rD = .tup (ws.map .str)) (hbD : bD = .lst (B.map .int) ∨ bD = .tup (B.map .int)) : ∀ (tr : Tr) (d : Nat) (W : List (Nat × Bool)) (l : List Nat), tr.dep ≤ d → Win ws (iAt B) pl tr l (W.length : Int) → Lot ws.length l → (∀ a ∈ W, a.1 < pl ∧ ∀ q ∈ l, bit ws a.1 q = a.2) → W.length + l.length ≤ 13 →
    call prg (n + d + 2) 18 [tr.enc, rD, bD, .lst (W.map encW)] t = .ok (.bl true) t := by
  rcases hrD with rfl | rfl <;> rcases hbD with rfl | rfl
  · intro tr
    induction tr with
    | leaf q =>
      intro d W l _ hwin hl hW h13
      obtain ⟨hq, hlt⟩ := hwin
      have hqm := hl.lt q hq
      have hlp := List.length_pos_of_mem hq
      rw [cS 18 f18 rfl]
      have i1 : call prg (n + d + 1) 21 [.int q] t = .ok (.bl true) t := c_lawinteger (n + d) q t
      have a1 := atI_B B q (by rw [hB]; exact hqm)
      have e : ev (cls' (n + d + 1)) (.comp (.seq (.var 3)) (.nm 4) [4] .yes (.cmp .eq (.ix (.ix (.var 1) (.var 0)) (.ix (.var 4) (.kon (.int 0)))) (.ix (.var 4) (.kon (.int 1))))) [.val (.int q), .val (.lst (ws.map .str)), .val (.lst (B.map .int)), .val (.lst (W.map encW)), .un] t = .ok (.lst (W.map fun _ => .bl true)) t := by
        refine comp_enc W encW _ (by simp [runF, ss, es, ts, gs, execs, ev_var, ev_kon, ev_glb, ev_bin, ev_neg, ev_cmp, ev_chn, ev_and, ev_or, ev_not, ev_ife, ev_call, ev_callk, ev_mth, ev_mk, ev_mkk, ev_b1, ev_b2, ev_isi, ev_ix, ev_sl, ev_lst, ev_tup, ev_newL, ev_newD, ev_lobj, ev_dsp, ev_dm, ev_join, ev_fld, exec_asg, exec_setI, exec_setF, exec_aug, exec_mut, exec_ifs, exec_ret, exec_retn, exec_brk, exec_cont, exec_exp, exec_rai, exec_fg, exec_pas, evT, evs, evTAnd, evTOr, evAnd, evOr, evP, evSrc, bo, bnd, frzAll, esT, esTs, esO, esc, escs, esS, escS, opd, opn, look, peek, ofO, cmpD, truthD, thenK, sweep, outR, outF, fresh, asgK, asgT, asgTs, put, binD, b1D, b2D, ixD, ixN, atI_0, atI_1, atI_2, atI_3, atI_4, eqv, eqvs, shp, shps, setK, setX, setO, setOb, isVar, unset, cellOf, frz, valOf, forL, forK, isiD, isiO, items, itemsS, seqs, lenD, fldD, isIns, isNon, isB, inT, mutOk, mutK, muD, ckS, ckC, okP, isDct, dctOf, Pd.getD, augK, setFK, fput, okP, dmD, low, lows, List.lookup]) fun a ha => ?_
        have b1 := atI_W ws q hqm
        obtain ⟨ha1, ha2⟩ := hW a ha
        have ha2 := ha2 q hq
        have b2 := atI_w (wAt ws q) a.1 (by rw [hw.len _ (wAt_mem hqm)]; exact ha1)
        have b3 := cAt_or hw hqm ha1
        unfold encW
        unfold bit at ha2
        rw [← ha2]
        generalize cAt (wAt ws q) a.1 = c at b2 b3
        rcases b3 with rfl | rfl <;> simp [turnC, runF, ss, es, ts, gs, execs, ev_var, ev_kon, ev_glb, ev_bin, ev_neg, ev_cmp, ev_chn, ev_and, ev_or, ev_not, ev_ife, ev_call, ev_callk, ev_mth, ev_mk, ev_mkk, ev_b1, ev_b2, ev_isi, ev_ix, ev_sl, ev_lst, ev_tup, ev_newL, ev_newD, ev_lobj, ev_dsp, ev_dm, ev_join, ev_fld, exec_asg, exec_setI, exec_setF, exec_aug, exec_mut, exec_ifs, exec_ret, exec_retn, exec_brk, exec_cont, exec_exp, exec_rai, exec_fg, exec_pas, evT, evs, evTAnd, evTOr, evAnd, evOr, evP, evSrc, bo, bnd, frzAll, esT, esTs, esO, esc, escs, esS, escS, opd, opn, look, peek, ofO, cmpD, truthD, thenK, sweep, outR, outF, fresh, asgK, asgT, asgTs, put, binD, b1D, b2D, ixD, ixN, atI_0, atI_1, atI_2, atI_3, atI_4, eqv, eqvs, shp, shps, setK, setX, setO, setOb, isVar, unset, cellOf, frz, valOf, forL, forK, isiD, isiO, items, itemsS, seqs, lenD, fldD, isIns, isNon, isB, inT, mutOk, mutK, muD, ckS, ckC, okP, isDct, dctOf, Pd.getD, augK, setFK, fput, okP, dmD, low, lows, List.lookup, b1, b2]
      have a := bools_rep W
      have h3 : ¬ (12 : Int) < (W.length : Int) := by omega
      unfold Tr.enc
      generalize iAt B q = v at a1 hlt
      have h5 : ¬ (q : Int) < 0 := by omega
      have h6 : ¬ ws.length ≤ q := by omega
      simp [runF, ss, es, ts, gs, execs, ev_var, ev_kon, ev_glb, ev_bin, ev_neg, ev_cmp, ev_chn, ev_and, ev_or, ev_not, ev_ife, ev_call, ev_callk, ev_mth, ev_mk, ev_mkk, ev_b1, ev_b2, ev_isi, ev_ix, ev_sl, ev_lst, ev_tup, ev_newL, ev_newD, ev_lobj, ev_dsp, ev_dm, ev_join, ev_fld, exec_asg, exec_setI, exec_setF, exec_aug, exec_mut, exec_ifs, exec_ret, exec_retn, exec_brk, exec_cont, exec_exp, exec_rai, exec_fg, exec_pas, evT, evs, evTAnd, evTOr, evAnd, evOr, evP, evSrc, bo, bnd, frzAll, esT, esTs, esO, esc, escs, esS, escS, opd, opn, look, peek, ofO, cmpD, truthD, thenK, sweep, outR, outF, fresh, asgK, asgT, asgTs, put, binD, b1D, b2D, ixD, ixN, atI_0, atI_1, atI_2, atI_3, atI_4, eqv, eqvs, shp, shps, setK, setX, setO, setOb, isVar, unset, cellOf, frz, valOf, forL, forK, isiD, isiO, items, itemsS, seqs, lenD, fldD, isIns, isNon, isB, inT, mutOk, mutK, muD, ckS, ckC, okP, isDct, dctOf, Pd.getD, augK, setFK, fput, okP, dmD, low, lows, List.lookup, f18, b18, i1, a1, e, a, h3, hlt, h5, h6]
    | node p x y ihx ihy =>
      intro d W l hd hwin hl hW h13
      obtain ⟨hp, hpp, w1, w2⟩ := hwin
      have hd : x.dep + y.dep + 1 ≤ d := hd
      obtain ⟨c, rfl⟩ : ∃ c, d = c + 1 := ⟨d - 1, by omega⟩
      have hlt := hpp.lt
      have hlen := up_lo_len ws p l
      have z1 := List.length_pos_iff.mpr hpp.1
      have z2 := List.length_pos_iff.mpr hpp.2
      rw [show n + (c + 1) + 2 = (n + c + 2) + 1 by omega, cS 18 f18 rfl]
      have i1 : call prg (n + c + 2) 21 [.int p] t = .ok (.bl true) t := c_lawinteger (n + c + 1) p t
      have i2 := ihx c (W ++ [(p, false)]) (lo ws p l) (by omega) (by rw [List.length_append]; exact w1) (hl.lo ws p) (fun a ha => by
        rcases List.mem_append.mp ha with ha | ha
        · exact ⟨(hW a ha).1, fun q hq => (hW a ha).2 q (lo_sub hq)⟩
        · rw [List.mem_singleton.mp ha]
          exact ⟨hp, fun q hq => by simpa using (List.mem_filter.mp hq).2⟩) (by rw [List.length_append]; simp; omega)
      have i3 := ihy c (W ++ [(p, true)]) (up ws p l) (by omega) (by rw [List.length_append]; exact w2) (hl.up ws p) (fun a ha => by
        rcases List.mem_append.mp ha with ha | ha
        · exact ⟨(hW a ha).1, fun q hq => (hW a ha).2 q (up_sub hq)⟩
        · rw [List.mem_singleton.mp ha]
          exact ⟨hp, fun q hq => (List.mem_filter.mp hq).2⟩) (by rw [List.length_append]; simp; omega)
      rw [List.map_append] at i2 i3
      have i2 : call prg (n + c + 2) 18 [x.enc, .lst (ws.map .str), .lst (B.map .int), .lst (W.map encW ++ [.lst [.int p, .str [48]]])] t = .ok (.bl true) t := i2
      have i3 : call prg (n + c + 2) 18 [y.enc, .lst (ws.map .str), .lst (B.map .int), .lst (W.map encW ++ [.lst [.int p, .str [49]]])] t = .ok (.bl true) t := i3
      have h3 : ¬ (12 : Int) < (W.length : Int) := by omega
      have h4 : (W.map encW).length + 1 ≤ sz := by rw [List.length_map]; unfold sz; omega
      have h5 : (W.map encW).length = W.length := List.length_map ..
      generalize W.map encW = we at i2 i3 h4 h5
      have a1 := atI_W ws 0 (by omega)
      have a1 : atI (ws.map D.str) 0 = some (.str (wAt ws 0)) := a1
      have a2 := hw.len _ (wAt_mem (ws := ws) (q := 0) (by omega))
      have h6 : ¬ pl ≤ p := by omega
      unfold Tr.enc
      generalize x.enc = dx at i2
      generalize y.enc = dy at i3
      rw [← h5] at h3
      have h7 : ¬ (p : Int) < 0 := by omega
      simp [runF, ss, es, ts, gs, execs, ev_var, ev_kon, ev_glb, ev_bin, ev_neg, ev_cmp, ev_chn, ev_and, ev_or, ev_not, ev_ife, ev_call, ev_callk, ev_mth, ev_mk, ev_mkk, ev_b1, ev_b2, ev_isi, ev_ix, ev_sl, ev_lst, ev_tup, ev_newL, ev_newD, ev_lobj, ev_dsp, ev_dm, ev_join, ev_fld, exec_asg, exec_setI, exec_setF, exec_aug, exec_mut, exec_ifs, exec_ret, exec_retn, exec_brk, exec_cont, exec_exp, exec_rai, exec_fg, exec_pas, evT, evs, evTAnd, evTOr, evAnd, evOr, evP, evSrc, bo, bnd, frzAll, esT, esTs, esO, esc, escs, esS, escS, opd, opn, look, peek, ofO, cmpD, truthD, thenK, sweep, outR, outF, fresh, asgK, asgT, asgTs, put, binD, b1D, b2D, ixD, ixN, atI_0, atI_1, atI_2, atI_3, atI_4, eqv, eqvs, shp, shps, setK, setX, setO, setOb, isVar, unset, cellOf, frz, valOf, forL, forK, isiD, isiO, items, itemsS, seqs, lenD, fldD, isIns, isNon, isB, inT, mutOk, mutK, muD, ckS, ckC, okP, isDct, dctOf, Pd.getD, augK, setFK, fput, okP, dmD, low, lows, List.lookup, f18, b18, i1, i2, i3, h3, h4, a1, a2, h6, h7]
  · intro tr
    induction tr with
    | leaf q =>
      intro d W l _ hwin hl hW h13
      obtain ⟨hq, hlt⟩ := hwin
      have hqm := hl.lt q hq
      have hlp := List.length_pos_of_mem hq
      rw [cS 18 f18 rfl]
      have i1 : call prg (n + d + 1) 21 [.int q] t = .ok (.bl true) t := c_lawinteger (n + d) q t
      have a1 := atI_B B q (by rw [hB]; exact hqm)
      have e : ev (cls' (n + d + 1)) (.comp (.seq (.var 3)) (.nm 4) [4] .yes (.cmp .eq (.ix (.ix (.var 1) (.var 0)) (.ix (.var 4) (.kon (.int 0)))) (.ix (.var 4) (.kon (.int 1))))) [.val (.int q), .val (.lst (ws.map .str)), .val (.tup (B.map .int)), .val (.lst (W.map encW)), .un] t = .ok (.lst (W.map fun _ => .bl true)) t := by
        refine comp_enc W encW _ (by simp [runF, ss, es, ts, gs, execs, ev_var, ev_kon, ev_glb, ev_bin, ev_neg, ev_cmp, ev_chn, ev_and, ev_or, ev_not, ev_ife, ev_call, ev_callk, ev_mth, ev_mk, ev_mkk, ev_b1, ev_b2, ev_isi, ev_ix, ev_sl, ev_lst, ev_tup, ev_newL, ev_newD, ev_lobj, ev_dsp, ev_dm, ev_join, ev_fld, exec_asg, exec_setI, exec_setF, exec_aug, exec_mut, exec_ifs, exec_ret, exec_retn, exec_brk, exec_cont, exec_exp, exec_rai, exec_fg, exec_pas, evT, evs, evTAnd, evTOr, evAnd, evOr, evP, evSrc, bo, bnd, frzAll, esT, esTs, esO, esc, escs, esS, escS, opd, opn, look, peek, ofO, cmpD, truthD, thenK, sweep, outR, outF, fresh, asgK, asgT, asgTs, put, binD, b1D, b2D, ixD, ixN, atI_0, atI_1, atI_2, atI_3, atI_4, eqv, eqvs, shp, shps, setK, setX, setO, setOb, isVar, unset, cellOf, frz, valOf, forL, forK, isiD, isiO, items, itemsS, seqs, lenD, fldD, isIns, isNon, isB, inT, mutOk, mutK, muD, ckS, ckC, okP, isDct, dctOf, Pd.getD, augK, setFK, fput, okP, dmD, low, lows, List.lookup]) fun a ha => ?_
        have b1 := atI_W ws q hqm
        obtain ⟨ha1, ha2⟩ := hW a ha
        have ha2 := ha2 q hq
        have b2 := atI_w (wAt ws q) a.1 (by rw [hw.len _ (wAt_mem hqm)]; exact ha1)
        have b3 := cAt_or hw hqm ha1
        unfold encW
        unfold bit at ha2
        rw [← ha2]
        generalize cAt (wAt ws q) a.1 = c at b2 b3
        rcases b3 with rfl | rfl <;> simp [turnC, runF, ss, es, ts, gs, execs, ev_var, ev_kon, ev_glb, ev_bin, ev_neg, ev_cmp, ev_chn, ev_and, ev_or, ev_not, ev_ife, ev_call, ev_callk, ev_mth, ev_mk, ev_mkk, ev_b1, ev_b2, ev_isi, ev_ix, ev_sl, ev_lst, ev_tup, ev_newL, ev_newD, ev_lobj, ev_dsp, ev_dm, ev_join, ev_fld, exec_asg, exec_setI, exec_setF, exec_aug, exec_mut, exec_ifs, exec_ret, exec_retn, exec_brk, exec_cont, exec_exp, exec_rai, exec_fg, exec_pas, evT, evs, evTAnd, evTOr, evAnd, evOr, evP, evSrc, bo, bnd, frzAll, esT, esTs, esO, esc, escs, esS, escS, opd, opn, look, peek, ofO, cmpD, truthD, thenK, sweep, outR, outF, fresh, asgK, asgT, asgTs, put, binD, b1D, b2D, ixD, ixN, atI_0, atI_1, atI_2, atI_3, atI_4, eqv, eqvs, shp, shps, setK, setX, setO, setOb, isVar, unset, cellOf, frz, valOf, forL, forK, isiD, isiO, items, itemsS, seqs, lenD, fldD, isIns, isNon, isB, inT, mutOk, mutK, muD, ckS, ckC, okP, isDct, dctOf, Pd.getD, augK, setFK, fput, okP, dmD, low, lows, List.lookup, b1, b2]
      have a := bools_rep W
      have h3 : ¬ (12 : Int) < (W.length : Int) := by omega
      unfold Tr.enc
      generalize iAt B q = v at a1 hlt
      have h5 : ¬ (q : Int) < 0 := by omega
      have h6 : ¬ ws.length ≤ q := by omega
      simp [runF, ss, es, ts, gs, execs, ev_var, ev_kon, ev_glb, ev_bin, ev_neg, ev_cmp, ev_chn, ev_and, ev_or, ev_not, ev_ife, ev_call, ev_callk, ev_mth, ev_mk, ev_mkk, ev_b1, ev_b2, ev_isi, ev_ix, ev_sl, ev_lst, ev_tup, ev_newL, ev_newD, ev_lobj, ev_dsp, ev_dm, ev_join, ev_fld, exec_asg, exec_setI, exec_setF, exec_aug, exec_mut, exec_ifs, exec_ret, exec_retn, exec_brk, exec_cont, exec_exp, exec_rai, exec_fg, exec_pas, evT, evs, evTAnd, evTOr, evAnd, evOr, evP, evSrc, bo, bnd, frzAll, esT, esTs, esO, esc, escs, esS, escS, opd, opn, look, peek, ofO, cmpD, truthD, thenK, sweep, outR, outF, fresh, asgK, asgT, asgTs, put, binD, b1D, b2D, ixD, ixN, atI_0, atI_1, atI_2, atI_3, atI_4, eqv, eqvs, shp, shps, setK, setX, setO, setOb, isVar, unset, cellOf, frz, valOf, forL, forK, isiD, isiO, items, itemsS, seqs, lenD, fldD, isIns, isNon, isB, inT, mutOk, mutK, muD, ckS, ckC, okP, isDct, dctOf, Pd.getD, augK, setFK, fput, okP, dmD, low, lows, List.lookup, f18, b18, i1, a1, e, a, h3, hlt, h5, h6]
    | node p x y ihx ihy =>
      intro d W l hd hwin hl hW h13
      obtain ⟨hp, hpp, w1, w2⟩ := hwin
      have hd : x.dep + y.dep + 1 ≤ d := hd
      obtain ⟨c, rfl⟩ : ∃ c, d = c + 1 := ⟨d - 1, by omega⟩
      have hlt := hpp.lt
      have hlen := up_lo_len ws p l
      have z1 := List.length_pos_iff.mpr hpp.1
      have z2 := List.length_pos_iff.mpr hpp.2
      rw [show n + (c + 1) + 2 = (n + c + 2) + 1 by omega, cS 18 f18 rfl]
      have i1 : call prg (n + c + 2) 21 [.int p] t = .ok (.bl true) t := c_lawinteger (n + c + 1) p t
      have i2 := ihx c (W ++ [(p, false)]) (lo ws p l) (by omega) (by rw [List.length_append]; exact w1) (hl.lo ws p) (fun a ha => by
        rcases List.mem_append.mp ha with ha | ha
        · exact ⟨(hW a ha).1, fun q hq => (hW a ha).2 q (lo_sub hq)⟩
        · rw [List.mem_singleton.mp ha]
          exact ⟨hp, fun q hq => by simpa using (List.mem_filter.mp hq).2⟩) (by rw [List.length_append]; simp; omega)
      have i3 := ihy c (W ++ [(p, true)]) (up ws p l) (by omega) (by rw [List.length_append]; exact w2) (hl.up ws p) (fun a ha => by
        rcases List.mem_append.mp ha with ha | ha
        · exact ⟨(hW a ha).1, fun q hq => (hW a ha).2 q (up_sub hq)⟩
        · rw [List.mem_singleton.mp ha]
          exact ⟨hp, fun q hq => (List.mem_filter.mp hq).2⟩) (by rw [List.length_append]; simp; omega)
      rw [List.map_append] at i2 i3
      have i2 : call prg (n + c + 2) 18 [x.enc, .lst (ws.map .str), .tup (B.map .int), .lst (W.map encW ++ [.lst [.int p, .str [48]]])] t = .ok (.bl true) t := i2
      have i3 : call prg (n + c + 2) 18 [y.enc, .lst (ws.map .str), .tup (B.map .int), .lst (W.map encW ++ [.lst [.int p, .str [49]]])] t = .ok (.bl true) t := i3
      have h3 : ¬ (12 : Int) < (W.length : Int) := by omega
      have h4 : (W.map encW).length + 1 ≤ sz := by rw [List.length_map]; unfold sz; omega
      have h5 : (W.map encW).length = W.length := List.length_map ..
      generalize W.map encW = we at i2 i3 h4 h5
      have a1 := atI_W ws 0 (by omega)
      have a1 : atI (ws.map D.str) 0 = some (.str (wAt ws 0)) := a1
      have a2 := hw.len _ (wAt_mem (ws := ws) (q := 0) (by omega))
      have h6 : ¬ pl ≤ p := by omega
      unfold Tr.enc
      generalize x.enc = dx at i2
      generalize y.enc = dy at i3
      rw [← h5] at h3
      have h7 : ¬ (p : Int) < 0 := by omega
      simp [runF, ss, es, ts, gs, execs, ev_var, ev_kon, ev_glb, ev_bin, ev_neg, ev_cmp, ev_chn, ev_and, ev_or, ev_not, ev_ife, ev_call, ev_callk, ev_mth, ev_mk, ev_mkk, ev_b1, ev_b2, ev_isi, ev_ix, ev_sl, ev_lst, ev_tup, ev_newL, ev_newD, ev_lobj, ev_dsp, ev_dm, ev_join, ev_fld, exec_asg, exec_setI, exec_setF, exec_aug, exec_mut, exec_ifs, exec_ret, exec_retn, exec_brk, exec_cont, exec_exp, exec_rai, exec_fg, exec_pas, evT, evs, evTAnd, evTOr, evAnd, evOr, evP, evSrc, bo, bnd, frzAll, esT, esTs, esO, esc, escs, esS, escS, opd, opn, look, peek, ofO, cmpD, truthD, thenK, sweep, outR, outF, fresh, asgK, asgT, asgTs, put, binD, b1D, b2D, ixD, ixN, atI_0, atI_1, atI_2, atI_3, atI_4, eqv, eqvs, shp, shps, setK, setX, setO, setOb, isVar, unset, cellOf, frz, valOf, forL, forK, isiD, isiO, items, itemsS, seqs, lenD, fldD, isIns, isNon, isB, inT, mutOk, mutK, muD, ckS, ckC, okP, isDct, dctOf, Pd.getD, augK, setFK, fput, okP, dmD, low, lows, List.lookup, f18, b18, i1, i2, i3, h3, h4, a1, a2, h6, h7]
  · intro tr
    induction tr with
    | leaf q =>
      intro d W l _ hwin hl hW h13
      obtain ⟨hq, hlt⟩ := hwin
      have hqm := hl.lt q hq
      have hlp := List.length_pos_of_mem hq
      rw [cS 18 f18 rfl]
      have i1 : call prg (n + d + 1) 21 [.int q] t = .ok (.bl true) t := c_lawinteger (n + d) q t
      have a1 := atI_B B q (by rw [hB]; exact hqm)
      have e : ev (cls' (n + d + 1)) (.comp (.seq (.var 3)) (.nm 4) [4] .yes (.cmp .eq (.ix (.ix (.var 1) (.var 0)) (.ix (.var 4) (.kon (.int 0)))) (.ix (.var 4) (.kon (.int 1))))) [.val (.int q), .val (.tup (ws.map .str)), .val (.lst (B.map .int)), .val (.lst (W.map encW)), .un] t = .ok (.lst (W.map fun _ => .bl true)) t := by
        refine comp_enc W encW _ (by simp [runF, ss, es, ts, gs, execs, ev_var, ev_kon, ev_glb, ev_bin, ev_neg, ev_cmp, ev_chn, ev_and, ev_or, ev_not, ev_ife, ev_call, ev_callk, ev_mth, ev_mk, ev_mkk, ev_b1, ev_b2, ev_isi, ev_ix, ev_sl, ev_lst, ev_tup, ev_newL, ev_newD, ev_lobj, ev_dsp, ev_dm, ev_join, ev_fld, exec_asg, exec_setI, exec_setF, exec_aug, exec_mut, exec_ifs, exec_ret, exec_retn, exec_brk, exec_cont, exec_exp, exec_rai, exec_fg, exec_pas, evT, evs, evTAnd, evTOr, evAnd, evOr, evP, evSrc, bo, bnd, frzAll, esT, esTs, esO, esc, escs, esS, escS, opd, opn, look, peek, ofO, cmpD, truthD, thenK, sweep, outR, outF, fresh, asgK, asgT, asgTs, put, binD, b1D, b2D, ixD, ixN, atI_0, atI_1, atI_2, atI_3, atI_4, eqv, eqvs, shp, shps, setK, setX, setO, setOb, isVar, unset, cellOf, frz, valOf, forL, forK, isiD, isiO, items, itemsS, seqs, lenD, fldD, isIns, isNon, isB, inT, mutOk, mutK, muD, ckS, ckC, okP, isDct, dctOf, Pd.getD, augK, setFK, fput, okP, dmD, low, lows, List.lookup]) fun a ha => ?_
        have b1 := atI_W ws q hqm
        obtain ⟨ha1, ha2⟩ := hW a ha
        have ha2 := ha2 q hq
        have b2 := atI_w (wAt ws q) a.1 (by rw [hw.len _ (wAt_mem hqm)]; exact ha1)
        have b3 := cAt_or hw hqm ha1
        unfold encW
        unfold bit at ha2
        rw [← ha2]
        generalize cAt (wAt ws q) a.1 = c at b2 b3
        rcases b3 with rfl | rfl <;> simp [turnC, runF, ss, es, ts, gs, execs, ev_var, ev_kon, ev_glb, ev_bin, ev_neg, ev_cmp, ev_chn, ev_and, ev_or, ev_not, ev_ife, ev_call, ev_callk, ev_mth, ev_mk, ev_mkk, ev_b1, ev_b2, ev_isi, ev_ix, ev_sl, ev_lst, ev_tup, ev_newL, ev_newD, ev_lobj, ev_dsp, ev_dm, ev_join, ev_fld, exec_asg, exec_setI, exec_setF, exec_aug, exec_mut, exec_ifs, exec_ret, exec_retn, exec_brk, exec_cont, exec_exp, exec_rai, exec_fg, exec_pas, evT, evs, evTAnd, evTOr, evAnd, evOr, evP, evSrc, bo, bnd, frzAll, esT, esTs, esO, esc, escs, esS, escS, opd, opn, look, peek, ofO, cmpD, truthD, thenK, sweep, outR, outF, fresh, asgK, asgT, asgTs, put, binD, b1D, b2D, ixD, ixN, atI_0, atI_1, atI_2, atI_3, atI_4, eqv, eqvs, shp, shps, setK, setX, setO, setOb, isVar, unset, cellOf, frz, valOf, forL, forK, isiD, isiO, items, itemsS, seqs, lenD, fldD, isIns, isNon, isB, inT, mutOk, mutK, muD, ckS, ckC, okP, isDct, dctOf, Pd.getD, augK, setFK, fput, okP, dmD, low, lows, List.lookup, b1, b2]
      have a := bools_rep W
      have h3 : ¬ (12 : Int) < (W.length : Int) := by omega
      unfold Tr.enc
      generalize iAt B q = v at a1 hlt
      have h5 : ¬ (q : Int) < 0 := by omega
      have h6 : ¬ ws.length ≤ q := by omega
      simp [runF, ss, es, ts, gs, execs, ev_var, ev_kon, ev_glb, ev_bin, ev_neg, ev_cmp, ev_chn, ev_and, ev_or, ev_not, ev_ife, ev_call, ev_callk, ev_mth, ev_mk, ev_mkk, ev_b1, ev_b2, ev_isi, ev_ix, ev_sl, ev_lst, ev_tup, ev_newL, ev_newD, ev_lobj, ev_dsp, ev_dm, ev_join, ev_fld, exec_asg, exec_setI, exec_setF, exec_aug, exec_mut, exec_ifs, exec_ret, exec_retn, exec_brk, exec_cont, exec_exp, exec_rai, exec_fg, exec_pas, evT, evs, evTAnd, evTOr, evAnd, evOr, evP, evSrc, bo, bnd, frzAll, esT, esTs, esO, esc, escs, esS, escS, opd, opn, look, peek, ofO, cmpD, truthD, thenK, sweep, outR, outF, fresh, asgK, asgT, asgTs, put, binD, b1D, b2D, ixD, ixN, atI_0, atI_1, atI_2, atI_3, atI_4, eqv, eqvs, shp, shps, setK, setX, setO, setOb, isVar, unset, cellOf, frz, valOf, forL, forK, isiD, isiO, items, itemsS, seqs, lenD, fldD, isIns, isNon, isB, inT, mutOk, mutK, muD, ckS, ckC, okP, isDct, dctOf, Pd.getD, augK, setFK, fput, okP, dmD, low, lows, List.lookup, f18, b18, i1, a1, e, a, h3, hlt, h5, h6]
    | node p x y ihx ihy =>
      intro d W l hd hwin hl hW h13
      obtain ⟨hp, hpp, w1, w2⟩ := hwin
      have hd : x.dep + y.dep + 1 ≤ d := hd
      obtain ⟨c, rfl⟩ : ∃ c, d = c + 1 := ⟨d - 1, by omega⟩
      have hlt := hpp.lt
      have hlen := up_lo_len ws p l
      have z1 := List.length_pos_iff.mpr hpp.1
      have z2 := List.length_pos_iff.mpr hpp.2
      rw [show n + (c + 1) + 2 = (n + c + 2) + 1 by omega, cS 18 f18 rfl]
      have i1 : call prg (n + c + 2) 21 [.int p] t = .ok (.bl true) t := c_lawinteger (n + c + 1) p t
      have i2 := ihx c (W ++ [(p, false)]) (lo ws p l) (by omega) (by rw [List.length_append]; exact w1) (hl.lo ws p) (fun a ha => by
        rcases List.mem_append.mp ha with ha | ha
        · exact ⟨(hW a ha).1, fun q hq => (hW a ha).2 q (lo_sub hq)⟩
        · rw [List.mem_singleton.mp ha]
          exact ⟨hp, fun q hq => by simpa using (List.mem_filter.mp hq).2⟩) (by rw [List.length_append]; simp; omega)
      have i3 := ihy c (W ++ [(p, true)]) (up ws p l) (by omega) (by rw [List.length_append]; exact w2) (hl.up ws p) (fun a ha => by
        rcases List.mem_append.mp ha with ha | ha
        · exact ⟨(hW a ha).1, fun q hq => (hW a ha).2 q (up_sub hq)⟩
        · rw [List.mem_singleton.mp ha]
          exact ⟨hp, fun q hq => (List.mem_filter.mp hq).2⟩) (by rw [List.length_append]; simp; omega)
      rw [List.map_append] at i2 i3
      have i2 : call prg (n + c + 2) 18 [x.enc, .tup (ws.map .str), .lst (B.map .int), .lst (W.map encW ++ [.lst [.int p, .str [48]]])] t = .ok (.bl true) t := i2
      have i3 : call prg (n + c + 2) 18 [y.enc, .tup (ws.map .str), .lst (B.map .int), .lst (W.map encW ++ [.lst [.int p, .str [49]]])] t = .ok (.bl true) t := i3
      have h3 : ¬ (12 : Int) < (W.length : Int) := by omega
      have h4 : (W.map encW).length + 1 ≤ sz := by rw [List.length_map]; unfold sz; omega
      have h5 : (W.map encW).length = W.length := List.length_map ..
      generalize W.map encW = we at i2 i3 h4 h5
      have a1 := atI_W ws 0 (by omega)
      have a1 : atI (ws.map D.str) 0 = some (.str (wAt ws 0)) := a1
      have a2 := hw.len _ (wAt_mem (ws := ws) (q := 0) (by omega))
      have h6 : ¬ pl ≤ p := by omega
      unfold Tr.enc
      generalize x.enc = dx at i2
      generalize y.enc = dy at i3
      rw [← h5] at h3
      have h7 : ¬ (p : Int) < 0 := by omega
      simp [runF, ss, es, ts, gs, execs, ev_var, ev_kon, ev_glb, ev_bin, ev_neg, ev_cmp, ev_chn, ev_and, ev_or, ev_not, ev_ife, ev_call, ev_callk, ev_mth, ev_mk, ev_mkk, ev_b1, ev_b2, ev_isi, ev_ix, ev_sl, ev_lst, ev_tup, ev_newL, ev_newD, ev_lobj, ev_dsp, ev_dm, ev_join, ev_fld, exec_asg, exec_setI, exec_setF, exec_aug, exec_mut, exec_ifs, exec_ret, exec_retn, exec_brk, exec_cont, exec_exp, exec_rai, exec_fg, exec_pas, evT, evs, evTAnd, evTOr, evAnd, evOr, evP, evSrc, bo, bnd, frzAll, esT, esTs, esO, esc, escs, esS, escS, opd, opn, look, peek, ofO, cmpD, truthD, thenK, sweep, outR, outF, fresh, asgK, asgT, asgTs, put, binD, b1D, b2D, ixD, ixN, atI_0, atI_1, atI_2, atI_3, atI_4, eqv, eqvs, shp, shps, setK, setX, setO, setOb, isVar, unset, cellOf, frz, valOf, forL, forK, isiD, isiO, items, itemsS, seqs, lenD, fldD, isIns, isNon, isB, inT, mutOk, mutK, muD, ckS, ckC, okP, isDct, dctOf, Pd.getD, augK, setFK, fput, okP, dmD, low, lows, List.lookup, f18, b18, i1, i2, i3, h3, h4, a1, a2, h6, h7]
  · intro tr
    induction tr with
    | leaf q =>
      intro d W l _ hwin hl hW h13
      obtain ⟨hq, hlt⟩ := hwin
      have hqm := hl.lt q hq
      have hlp := List.length_pos_of_mem hq
      rw [cS 18 f18 rfl]
      have i1 : call prg (n + d + 1) 21 [.int q] t = .ok (.bl true) t := c_lawinteger (n + d) q t
      have a1 := atI_B B q (by rw [hB]; exact hqm)
      have e : ev (cls' (n + d + 1)) (.comp (.seq (.var 3)) (.nm 4) [4] .yes (.cmp .eq (.ix (.ix (.var 1) (.var 0)) (.ix (.var 4) (.kon (.int 0)))) (.ix (.var 4) (.kon (.int 1))))) [.val (.int q), .val (.tup (ws.map .str)), .val (.tup (B.map .int)), .val (.lst (W.map encW)), .un] t = .ok (.lst (W.map fun _ => .bl true)) t := by
        refine comp_enc W encW _ (by simp [runF, ss, es, ts, gs, execs, ev_var, ev_kon, ev_glb, ev_bin, ev_neg, ev_cmp, ev_chn, ev_and, ev_or, ev_not, ev_ife, ev_call, ev_callk, ev_mth, ev_mk, ev_mkk, ev_b1, ev_b2, ev_isi, ev_ix, ev_sl, ev_lst, ev_tup, ev_newL, ev_newD, ev_lobj, ev_dsp, ev_dm, ev_join, ev_fld, exec_asg, exec_setI, exec_setF, exec_aug, exec_mut, exec_ifs, exec_ret, exec_retn, exec_brk, exec_cont, exec_exp, exec_rai, exec_fg, exec_pas, evT, evs, evTAnd, evTOr, evAnd, evOr, evP, evSrc, bo, bnd, frzAll, esT, esTs, esO, esc, escs, esS, escS, opd, opn, look, peek, ofO, cmpD, truthD, thenK, sweep, outR, outF, fresh, asgK, asgT, asgTs, put, binD, b1D, b2D, ixD, ixN, atI_0, atI_1, atI_2, atI_3, atI_4, eqv, eqvs, shp, shps, setK, setX, setO, setOb, isVar, unset, cellOf, frz, valOf, forL, forK, isiD, isiO, items, itemsS, seqs, lenD, fldD, isIns, isNon, isB, inT, mutOk, mutK, muD, ckS, ckC, okP, isDct, dctOf, Pd.getD, augK, setFK, fput, okP, dmD, low, lows, List.lookup]) fun a ha => ?_
        have b1 := atI_W ws q hqm
        obtain ⟨ha1, ha2⟩ := hW a ha
        have ha2 := ha2 q hq
        have b2 := atI_w (wAt ws q) a.1 (by rw [hw.len _ (wAt_mem hqm)]; exact ha1)
        have b3 := cAt_or hw hqm ha1
        unfold encW
        unfold bit at ha2
        rw [← ha2]
        generalize cAt (wAt ws q) a.1 = c at b2 b3
        rcases b3 with rfl | rfl <;> simp [turnC, runF, ss, es, ts, gs, execs, ev_var, ev_kon, ev_glb, ev_bin, ev_neg, ev_cmp, ev_chn, ev_and, ev_or, ev_not, ev_ife, ev_call, ev_callk, ev_mth, ev_mk, ev_mkk, ev_b1, ev_b2, ev_isi, ev_ix, ev_sl, ev_lst, ev_tup, ev_newL, ev_newD, ev_lobj, ev_dsp, ev_dm, ev_join, ev_fld, exec_asg, exec_setI, exec_setF, exec_aug, exec_mut, exec_ifs, exec_ret, exec_retn, exec_brk, exec_cont, exec_exp, exec_rai, exec_fg, exec_pas, evT, evs, evTAnd, evTOr, evAnd, evOr, evP, evSrc, bo, bnd, frzAll, esT, esTs, esO, esc, escs, esS, escS, opd, opn, look, peek, ofO, cmpD, truthD, thenK, sweep, outR, outF, fresh, asgK, asgT, asgTs, put, binD, b1D, b2D, ixD, ixN, atI_0, atI_1, atI_2, atI_3, atI_4, eqv, eqvs, shp, shps, setK, setX, setO, setOb, isVar, unset, cellOf, frz, valOf, forL, forK, isiD, isiO, items, itemsS, seqs, lenD, fldD, isIns, isNon, isB, inT, mutOk, mutK, muD, ckS, ckC, okP, isDct, dctOf, Pd.getD, augK, setFK, fput, okP, dmD, low, lows, List.lookup, b1, b2]
      have a := bools_rep W
      have h3 : ¬ (12 : Int) < (W.length : Int) := by omega
      unfold Tr.enc
      generalize iAt B q = v at a1 hlt
      have h5 : ¬ (q : Int) < 0 := by omega
      have h6 : ¬ ws.length ≤ q := by omega
      simp [runF, ss, es, ts, gs, execs, ev_var, ev_kon, ev_glb, ev_bin, ev_neg, ev_cmp, ev_chn, ev_and, ev_or, ev_not, ev_ife, ev_call, ev_callk, ev_mth, ev_mk, ev_mkk, ev_b1, ev_b2, ev_isi, ev_ix, ev_sl, ev_lst, ev_tup, ev_newL, ev_newD, ev_lobj, ev_dsp, ev_dm, ev_join, ev_fld, exec_asg, exec_setI, exec_setF, exec_aug, exec_mut, exec_ifs, exec_ret, exec_retn, exec_brk, exec_cont, exec_exp, exec_rai, exec_fg, exec_pas, evT, evs, evTAnd, evTOr, evAnd, evOr, evP, evSrc, bo, bnd, frzAll, esT, esTs, esO, esc, escs, esS, escS, opd, opn, look, peek, ofO, cmpD, truthD, thenK, sweep, outR, outF, fresh, asgK, asgT, asgTs, put, binD, b1D, b2D, ixD, ixN, atI_0, atI_1, atI_2, atI_3, atI_4, eqv, eqvs, shp, shps, setK, setX, setO, setOb, isVar, unset, cellOf, frz, valOf, forL, forK, isiD, isiO, items, itemsS, seqs, lenD, fldD, isIns, isNon, isB, inT, mutOk, mutK, muD, ckS, ckC, okP, isDct, dctOf, Pd.getD, augK, setFK, fput, okP, dmD, low, lows, List.lookup, f18, b18, i1, a1, e, a, h3, hlt, h5, h6]
    | node p x y ihx ihy =>
      intro d W l hd hwin hl hW h13
      obtain ⟨hp, hpp, w1, w2⟩ := hwin
      have hd : x.dep + y.dep + 1 ≤ d := hd
      obtain ⟨c, rfl⟩ : ∃ c, d = c + 1 := ⟨d - 1, by omega⟩
      have hlt := hpp.lt
      have hlen := up_lo_len ws p l
      have z1 := List.length_pos_iff.mpr hpp.1
      have z2 := List.length_pos_iff.mpr hpp.2
      rw [show n + (c + 1) + 2 = (n + c + 2) + 1 by omega, cS 18 f18 rfl]
      have i1 : call prg (n + c + 2) 21 [.int p] t = .ok (.bl true) t := c_lawinteger (n + c + 1) p t
      have i2 := ihx c (W ++ [(p, false)]) (lo ws p l) (by omega) (by rw [List.length_append]; exact w1) (hl.lo ws p) (fun a ha => by
        rcases List.mem_append.mp ha with ha | ha
        · exact ⟨(hW a ha).1, fun q hq => (hW a ha).2 q (lo_sub hq)⟩
        · rw [List.mem_singleton.mp ha]
          exact ⟨hp, fun q hq => by simpa using (List.mem_filter.mp hq).2⟩) (by rw [List.length_append]; simp; omega)
      have i3 := ihy c (W ++ [(p, true)]) (up ws p l) (by omega) (by rw [List.length_append]; exact w2) (hl.up ws p) (fun a ha => by
        rcases List.mem_append.mp ha with ha | ha
        · exact ⟨(hW a ha).1, fun q hq => (hW a ha).2 q (up_sub hq)⟩
        · rw [List.mem_singleton.mp ha]
          exact ⟨hp, fun q hq => (List.mem_filter.mp hq).2⟩) (by rw [List.length_append]; simp; omega)
      rw [List.map_append] at i2 i3
      have i2 : call prg (n + c + 2) 18 [x.enc, .tup (ws.map .str), .tup (B.map .int), .lst (W.map encW ++ [.lst [.int p, .str [48]]])] t = .ok (.bl true) t := i2
      have i3 : call prg (n + c + 2) 18 [y.enc, .tup (ws.map .str), .tup (B.map .int), .lst (W.map encW ++ [.lst [.int p, .str [49]]])] t = .ok (.bl true) t := i3
      have h3 : ¬ (12 : Int) < (W.length : Int) := by omega
      have h4 : (W.map encW).length + 1 ≤ sz := by rw [List.length_map]; unfold sz; omega
      have h5 : (W.map encW).length = W.length := List.length_map ..
      generalize W.map encW = we at i2 i3 h4 h5
      have a1 := atI_W ws 0 (by omega)
      have a1 : atI (ws.map D.str) 0 = some (.str (wAt ws 0)) := a1
      have a2 := hw.len _ (wAt_mem (ws := ws) (q := 0) (by omega))
      have h6 : ¬ pl ≤ p := by omega
      unfold Tr.enc
      generalize x.enc = dx at i2
      generalize y.enc = dy at i3
      rw [← h5] at h3
      have h7 : ¬ (p : Int) < 0 := by omega
      simp [runF, ss, es, ts, gs, execs, ev_var, ev_kon, ev_glb, ev_bin, ev_neg, ev_cmp, ev_chn, ev_and, ev_or, ev_not, ev_ife, ev_call, ev_callk, ev_mth, ev_mk, ev_mkk, ev_b1, ev_b2, ev_isi, ev_ix, ev_sl, ev_lst, ev_tup, ev_newL, ev_newD, ev_lobj, ev_dsp, ev_dm, ev_join, ev_fld, exec_asg, exec_setI, exec_setF, exec_aug, exec_mut, exec_ifs, exec_ret, exec_retn, exec_brk, exec_cont, exec_exp, exec_rai, exec_fg, exec_pas, evT, evs, evTAnd, evTOr, evAnd, evOr, evP, evSrc, bo, bnd, frzAll, esT, esTs, esO, esc, escs, esS, escS, opd, opn, look, peek, ofO, cmpD, truthD, thenK, sweep, outR, outF, fresh, asgK, asgT, asgTs, put, binD, b1D, b2D, ixD, ixN, atI_0, atI_1, atI_2, atI_3, atI_4, eqv, eqvs, shp, shps, setK, setX, setO, setOb, isVar, unset, cellOf, frz, valOf, forL, forK, isiD, isiO, items, itemsS, seqs, lenD, fldD, isIns, isNon, isB, inT, mutOk, mutK, muD, ckS, ckC, okP, isDct, dctOf, Pd.getD, augK, setFK, fput, okP, dmD, low, lows, List.lookup, f18, b18, i1, i2, i3, h3, h4, a1, a2, h6, h7]
theorem c_breaks (n : Nat) {pl : Nat} {ws : List (List Nat)} {B : List Int} (t : T) (hw : Wd ws pl) (h1 : 1 ≤ ws.length) (hB : B.length = ws.length) (tr : Tr) (d : Nat) (W : List (Nat × Bool)) (l : List Nat) (hd : tr.dep ≤ d) (hwin : Win ws (iAt B) pl tr l (W.length : Int)) (hl : Lot ws.length l) (hW : ∀ a ∈ W, a.1 < pl ∧ ∀ q ∈ l, bit ws a.1 q = a.2) (h13 : W.length + l.length ≤ 13) :
    call prg (n + d + 2) 18 [tr.enc, .lst (ws.map .str), .lst (B.map .int), .lst (W.map encW)] t = .ok (.bl true) t :=
  c_breaksG n t hw h1 hB _ _ (.inl rfl) (.inl rfl) tr d W l hd hwin hl hW h13

/-! ### other rows -/
theorem c_unlike (n : Nat) {pl : Nat} {ws : List (List Nat)} (t : T) (hw : Wd ws pl) (h1 : 1 ≤ ws.length) (h9 : ws.length ≤ 9) (hpl : pl ≤ 1000) : ∃ (vs : List (List Nat)) (pl' : Nat), call prg (n + 1) 5 [.lst (ws.map .str)] t = .ok (.lst (vs.map .str)) t ∧ Wd vs pl' ∧ 1 ≤ vs.length ∧ vs.length ≤ 10 ∧ pl' ≤ 1000 ∧ ∃ p, p < pl' ∧ Parts vs p (List.range vs.length) := by
  rw [cS 5 f5 rfl]
  have a1 := atI_W ws 0 (by omega)
  have a1 : atI (ws.map D.str) 0 = some (.str (wAt ws 0)) := a1
  have a2 := hw.len _ (wAt_mem (ws := ws) (q := 0) (by omega))
  have a3 := hw.bit _ (wAt_mem (ws := ws) (q := 0) (by omega))
  by_cases h0 : pl = 0
  · refine ⟨[[48], [49], [49]], 1, ?_, ⟨by decide, by decide⟩, by decide, by decide, by decide, 0, by decide, by decide⟩
    subst h0
    simp [runF, ss, es, ts, gs, execs, ev_var, ev_kon, ev_glb, ev_bin, ev_neg, ev_cmp, ev_chn, ev_and, ev_or, ev_not, ev_ife, ev_call, ev_callk, ev_mth, ev_mk, ev_mkk, ev_b1, ev_b2, ev_isi, ev_ix, ev_sl, ev_lst, ev_tup, ev_newL, ev_newD, ev_lobj, ev_dsp, ev_dm, ev_join, ev_fld, exec_asg, exec_setI, exec_setF, exec_aug, exec_mut, exec_ifs, exec_ret, exec_retn, exec_brk, exec_cont, exec_exp, exec_rai, exec_fg, exec_pas, evT, evs, evTAnd, evTOr, evAnd, evOr, evP, evSrc, bo, bnd, frzAll, esT, esTs, esO, esc, escs, esS, escS, opd, opn, look, peek, ofO, cmpD, truthD, thenK, sweep, outR, outF, fresh, asgK, asgT, asgTs, put, binD, b1D, b2D, ixD, ixN, atI_0, atI_1, atI_2, atI_3, atI_4, eqv, eqvs, shp, shps, setK, setX, setO, setOb, isVar, unset, cellOf, frz, valOf, forL, forK, isiD, isiO, items, itemsS, seqs, lenD, fldD, isIns, isNon, isB, inT, mutOk, mutK, muD, ckS, ckC, okP, isDct, dctOf, Pd.getD, augK, setFK, fput, okP, dmD, low, lows, List.lookup, f5, b5, a1, a2]
  · have e : ev (cls' n) (.comp (.seq (.ix (.var 0) (.kon (.int 0)))) (.nm 2) [2] .yes (.ix (.kon (.str [49, 48])) (.b1 .int (.var 2)))) [.val (.lst (ws.map .str)), .un, .un] t = .ok (.lst ((wAt ws 0).map fun c => .str [97 - c])) t := by
      refine comp_enc (wAt ws 0) (fun c => D.str [c]) _ (by simp [runF, ss, es, ts, gs, execs, ev_var, ev_kon, ev_glb, ev_bin, ev_neg, ev_cmp, ev_chn, ev_and, ev_or, ev_not, ev_ife, ev_call, ev_callk, ev_mth, ev_mk, ev_mkk, ev_b1, ev_b2, ev_isi, ev_ix, ev_sl, ev_lst, ev_tup, ev_newL, ev_newD, ev_lobj, ev_dsp, ev_dm, ev_join, ev_fld, exec_asg, exec_setI, exec_setF, exec_aug, exec_mut, exec_ifs, exec_ret, exec_retn, exec_brk, exec_cont, exec_exp, exec_rai, exec_fg, exec_pas, evT, evs, evTAnd, evTOr, evAnd, evOr, evP, evSrc, bo, bnd, frzAll, esT, esTs, esO, esc, escs, esS, escS, opd, opn, look, peek, ofO, cmpD, truthD, thenK, sweep, outR, outF, fresh, asgK, asgT, asgTs, put, binD, b1D, b2D, ixD, ixN, atI_0, atI_1, atI_2, atI_3, atI_4, eqv, eqvs, shp, shps, setK, setX, setO, setOb, isVar, unset, cellOf, frz, valOf, forL, forK, isiD, isiO, items, itemsS, seqs, lenD, fldD, isIns, isNon, isB, inT, mutOk, mutK, muD, ckS, ckC, okP, isDct, dctOf, Pd.getD, augK, setFK, fput, okP, dmD, low, lows, List.lookup, a1]) fun c hc => ?_
      rcases a3 c hc with rfl | rfl <;> simp [turnC, runF, ss, es, ts, gs, execs, ev_var, ev_kon, ev_glb, ev_bin, ev_neg, ev_cmp, ev_chn, ev_and, ev_or, ev_not, ev_ife, ev_call, ev_callk, ev_mth, ev_mk, ev_mkk, ev_b1, ev_b2, ev_isi, ev_ix, ev_sl, ev_lst, ev_tup, ev_newL, ev_newD, ev_lobj, ev_dsp, ev_dm, ev_join, ev_fld, exec_asg, exec_setI, exec_setF, exec_aug, exec_mut, exec_ifs, exec_ret, exec_retn, exec_brk, exec_cont, exec_exp, exec_rai, exec_fg, exec_pas, evT, evs, evTAnd, evTOr, evAnd, evOr, evP, evSrc, bo, bnd, frzAll, esT, esTs, esO, esc, escs, esS, escS, opd, opn, look, peek, ofO, cmpD, truthD, thenK, sweep, outR, outF, fresh, asgK, asgT, asgTs, put, binD, b1D, b2D, ixD, ixN, atI_0, atI_1, atI_2, atI_3, atI_4, eqv, eqvs, shp, shps, setK, setX, setO, setOb, isVar, unset, cellOf, frz, valOf, forL, forK, isiD, isiO, items, itemsS, seqs, lenD, fldD, isIns, isNon, isB, inT, mutOk, mutK, muD, ckS, ckC, okP, isDct, dctOf, Pd.getD, augK, setFK, fput, okP, dmD, low, lows, List.lookup]
    have hs := strsOf_map ((wAt ws 0).map fun c => [97 - c])
    rw [List.map_map] at hs
    have hs : strsOf ((wAt ws 0).map fun c => D.str [97 - c]) = some ((wAt ws 0).map fun c => [97 - c]) := hs
    have hf := flatten_one (fun c => 97 - c) (wAt ws 0)
    have hz : ((wAt ws 0).map fun c => 97 - c).length ≤ sz := by rw [List.length_map, a2]; unfold sz; omega
    obtain ⟨j, hj, hj1, hj2⟩ : ∃ j : Nat, (if (ws.length : Int) - 1 > 1 then (ws.length : Int) - 1 else 1) = (j : Int) ∧ 1 ≤ j ∧ j ≤ ws.length := by
      by_cases h : (ws.length : Int) - 1 > 1
      · exact ⟨ws.length - 1, by rw [if_pos h]; omega, by omega, by omega⟩
      · exact ⟨1, by rw [if_neg h]; rfl, by omega, by omega⟩
    have hc := cut_take (ws.map D.str) j (by rw [List.length_map]; exact hj2)
    have hl1 : ((ws.map D.str).take j).length = j := by rw [List.length_take, List.length_map]; omega
    have hl2 : (ws.take j).length = j := by rw [List.length_take]; omega
    refine ⟨ws.take j ++ [(wAt ws 0).map fun c => 97 - c], pl, ?_, ⟨fun w hw' => ?_, fun w hw' => ?_⟩, by rw [List.length_append]; simp, by rw [List.length_append, hl2]; simp; omega, hpl, 0, by omega, ?_⟩
    · rw [List.map_append, List.map_take]
      have hz2 : j + 1 ≤ sz := by unfold sz; omega
      generalize hT : (ws.map D.str).take j = T1 at hc hl1
      generalize (wAt ws 0).map (fun c => D.str [97 - c]) = z1 at e hs
      generalize (wAt ws 0).map (fun c => [97 - c]) = z2 at hs hf
      generalize (wAt ws 0).map (fun c => 97 - c) = z3 at hf hz
      have hz' : z2.flatten.length ≤ sz := by rw [hf]; exact hz
      have hz'' : (z2.map List.length).sum ≤ sz := by rw [← List.length_flatten]; exact hz'
      have hj' : (if 1 < (ws.length : Int) - 1 then (ws.length : Int) - 1 else 1) = (j : Int) := hj
      have h0' : ¬ (pl : Int) = 0 := by omega
      simp [runF, ss, es, ts, gs, execs, ev_var, ev_kon, ev_glb, ev_bin, ev_neg, ev_cmp, ev_chn, ev_and, ev_or, ev_not, ev_ife, ev_call, ev_callk, ev_mth, ev_mk, ev_mkk, ev_b1, ev_b2, ev_isi, ev_ix, ev_sl, ev_lst, ev_tup, ev_newL, ev_newD, ev_lobj, ev_dsp, ev_dm, ev_join, ev_fld, exec_asg, exec_setI, exec_setF, exec_aug, exec_mut, exec_ifs, exec_ret, exec_retn, exec_brk, exec_cont, exec_exp, exec_rai, exec_fg, exec_pas, evT, evs, evTAnd, evTOr, evAnd, evOr, evP, evSrc, bo, bnd, frzAll, esT, esTs, esO, esc, escs, esS, escS, opd, opn, look, peek, ofO, cmpD, truthD, thenK, sweep, outR, outF, fresh, asgK, asgT, asgTs, put, binD, b1D, b2D, ixD, ixN, atI_0, atI_1, atI_2, atI_3, atI_4, eqv, eqvs, shp, shps, setK, setX, setO, setOb, isVar, unset, cellOf, frz, valOf, forL, forK, isiD, isiO, items, itemsS, seqs, lenD, fldD, isIns, isNon, isB, inT, mutOk, mutK, muD, ckS, ckC, okP, isDct, dctOf, Pd.getD, augK, setFK, fput, okP, dmD, low, lows, List.lookup, f5, b5, a1, a2, h0, e, hs, hf, hz'', hj', cutD, hc, hl1, hz2, hT]
    · rcases List.mem_append.mp hw' with h | h
      · exact hw.len w (List.mem_of_mem_take h)
      · rw [List.mem_singleton.mp h, List.length_map, a2]
    · rcases List.mem_append.mp hw' with h | h
      · exact hw.bit w (List.mem_of_mem_take h)
      · rw [List.mem_singleton.mp h]
        intro x hx
        obtain ⟨c, hc, rfl⟩ := List.mem_map.mp hx
        rcases a3 c hc with rfl | rfl
        · exact .inr rfl
        · exact .inl rfl
    · -- the first and the last part
      have hw0 : wAt (ws.take j ++ [(wAt ws 0).map fun c => 97 - c]) 0 = wAt ws 0 := by
        unfold wAt
        rw [List.getElem?_append_left (by omega), List.getElem?_take, if_pos (by omega)]
      have hwj : wAt (ws.take j ++ [(wAt ws 0).map fun c => 97 - c]) j = (wAt ws 0).map fun c => 97 - c := by
        show ((ws.take j ++ [(wAt ws 0).map fun c => 97 - c])[j]?).getD [] = _
        rw [List.getElem?_append_right (by omega), hl2, Nat.sub_self]; rfl
      have b1 := cAt_or hw (show 0 < ws.length by omega) (show 0 < pl by omega)
      have b2 : cAt ((wAt ws 0).map fun c => 97 - c) 0 = 97 - cAt (wAt ws 0) 0 := by
        unfold cAt
        have : 0 < (wAt ws 0).length := by omega
        rw [List.getElem?_map, List.getElem?_eq_getElem this]; rfl
      have m0 : (0 : Nat) ∈ List.range (ws.take j ++ [(wAt ws 0).map fun c => 97 - c]).length := List.mem_range.mpr (by rw [List.length_append]; simp)
      have mj : j ∈ List.range (ws.take j ++ [(wAt ws 0).map fun c => 97 - c]).length := List.mem_range.mpr (by rw [List.length_append, hl2]; simp)
      have c1 : bit (ws.take j ++ [(wAt ws 0).map fun c => 97 - c]) 0 0 = (cAt (wAt ws 0) 0 == 49) := by unfold bit; rw [hw0]
      have c2 : bit (ws.take j ++ [(wAt ws 0).map fun c => 97 - c]) 0 j = (97 - cAt (wAt ws 0) 0 == 49) := by unfold bit; rw [hwj, b2]
      rcases b1 with b1 | b1
      · rw [b1] at c1 c2
        exact ⟨List.ne_nil_of_mem (List.mem_filter.mpr ⟨m0, by rw [c1]; rfl⟩), List.ne_nil_of_mem (List.mem_filter.mpr ⟨mj, by rw [c2]; rfl⟩)⟩
      · rw [b1] at c1 c2
        exact ⟨List.ne_nil_of_mem (List.mem_filter.mpr ⟨mj, by rw [c2]; rfl⟩), List.ne_nil_of_mem (List.mem_filter.mpr ⟨m0, by rw [c1]; rfl⟩)⟩

/-! ### handed -/
theorem c_handed (n : Nat) (p : Pool) (b : Int) (r : T) (vs : List D) (hb : b < 900000) (o : Ok p b) :
    ∃ x p' r', call prg (n + 2) 13 [.obj 0, .lst vs] (p.ob :: r) = .ok x (Pool.ob p' :: r') ∧ Ok p' (b + 1) ∧ ((x = .tup vs ∧ r' = r) ∨ (x = .obj (r.length + 1) ∧ r' = r ++ [.lst vs])) := by
  obtain ⟨v, p1, e1, o1, a1, b1⟩ := take n p b 2 r (by omega) (by omega) o (by omega)
  rw [cS 13 f13 rfl]
  by_cases h : v = 0
  · refine ⟨.tup vs, p1, r, ?_, o1, .inl ⟨rfl, rfl⟩⟩
    simp [runF, ss, es, ts, gs, execs, ev_var, ev_kon, ev_glb, ev_bin, ev_neg, ev_cmp, ev_chn, ev_and, ev_or, ev_not, ev_ife, ev_call, ev_callk, ev_mth, ev_mk, ev_mkk, ev_b1, ev_b2, ev_isi, ev_ix, ev_sl, ev_lst, ev_tup, ev_newL, ev_newD, ev_lobj, ev_dsp, ev_dm, ev_join, ev_fld, exec_asg, exec_setI, exec_setF, exec_aug, exec_mut, exec_ifs, exec_ret, exec_retn, exec_brk, exec_cont, exec_exp, exec_rai, exec_fg, exec_pas, evT, evs, evTAnd, evTOr, evAnd, evOr, evP, evSrc, bo, bnd, frzAll, esT, esTs, esO, esc, escs, esS, escS, opd, opn, look, peek, ofO, cmpD, truthD, thenK, sweep, outR, outF, fresh, asgK, asgT, asgTs, put, binD, b1D, b2D, ixD, ixN, atI_0, atI_1, atI_2, atI_3, atI_4, eqv, eqvs, shp, shps, setK, setX, setO, setOb, isVar, unset, cellOf, frz, valOf, forL, forK, isiD, isiO, items, itemsS, seqs, lenD, fldD, isIns, isNon, isB, inT, mutOk, mutK, muD, ckS, ckC, okP, isDct, dctOf, Pd.getD, augK, setFK, fput, okP, dmD, low, lows, List.lookup, f13, b13, e1, h]
  · refine ⟨.obj (r.length + 1), p1, r ++ [.lst vs], ?_, o1, .inr ⟨rfl, rfl⟩⟩
    simp [runF, ss, es, ts, gs, execs, ev_var, ev_kon, ev_glb, ev_bin, ev_neg, ev_cmp, ev_chn, ev_and, ev_or, ev_not, ev_ife, ev_call, ev_callk, ev_mth, ev_mk, ev_mkk, ev_b1, ev_b2, ev_isi, ev_ix, ev_sl, ev_lst, ev_tup, ev_newL, ev_newD, ev_lobj, ev_dsp, ev_dm, ev_join, ev_fld, exec_asg, exec_setI, exec_setF, exec_aug, exec_mut, exec_ifs, exec_ret, exec_retn, exec_brk, exec_cont, exec_exp, exec_rai, exec_fg, exec_pas, evT, evs, evTAnd, evTOr, evAnd, evOr, evP, evSrc, bo, bnd, frzAll, esT, esTs, esO, esc, escs, esS, escS, opd, opn, look, peek, ofO, cmpD, truthD, thenK, sweep, outR, outF, fresh, asgK, asgT, asgTs, put, binD, b1D, b2D, ixD, ixN, atI_0, atI_1, atI_2, atI_3, atI_4, eqv, eqvs, shp, shps, setK, setX, setO, setOb, isVar, unset, cellOf, frz, valOf, forL, forK, isiD, isiO, items, itemsS, seqs, lenD, fldD, isIns, isNon, isB, inT, mutOk, mutK, muD, ckS, ckC, okP, isDct, dctOf, Pd.getD, augK, setFK, fput, okP, dmD, low, lows, List.lookup, f13, b13, e1, h]
end K85
set_option maxRecDepth 100000
set_option linter.all false
set_option autoImplicit false
/-! begun, as due -/
namespace K85
open Pd Pt
theorem head_ob {t : T} {o : Ob} (h : t[0]? = some o) : ∃ r, t = o :: r := by
  cases t with
  | nil => simp at h
  | cons a r => simp at h; exact ⟨r, by rw [h]⟩
theorem Gm.fr {g k pl : Nat} {ws : List (List Nat)} {B : List Int} {t u : T} {S : Nat → Prop} (G : Gm g k ws B pl t) (h : Fr S t u) (hg : ¬ S g) (hk : ¬ S k) : Gm g k ws B pl u :=
  ⟨⟨h.get G.ob hg, G.ne, Nat.lt_of_lt_of_le G.lt h.1⟩, by obtain ⟨M, e, m⟩ := G.kn; exact ⟨M, h.get e hk, m⟩, G.wd, G.pl, G.one, G.top, G.len, G.pos⟩
theorem St.fr {k : Nat} {t u : T} (h : St k t u) : Fr (fun i => i = k) t u := ⟨by rw [h.1]; exact Nat.le_refl _, fun i _ hi => h.2 i hi⟩
/-- handed, as what one needs to know -/
theorem handed (n : Nat) (p : Pool) (b : Int) (r : T) (vs : List D) (hb : b < 900000) (o : Ok p b) :
    ∃ x p' r', call prg (n + 2) 13 [.obj 0, .lst vs] (p.ob :: r) = .ok x (Pool.ob p' :: r') ∧ Ok p' (b + 1) ∧ Hd vs x (Pool.ob p' :: r') ∧ (x = .tup vs ∨ ∃ i, x = .obj i ∧ (p.ob :: r).length ≤ i ∧ (Pool.ob p' :: r')[i]? = some (.lst vs)) ∧ Fr (fun i => i = 0) (p.ob :: r) (Pool.ob p' :: r') := by
  obtain ⟨x, p', r', e, o', h⟩ := c_handed n p b r vs hb o
  have fr0 : Fr (fun i => i = 0) (p.ob :: r) (Pool.ob p' :: r) := ⟨Nat.le_refl _, fun i _ hi => by
    cases i with
    | zero => exact absurd rfl hi
    | succ i => rfl⟩
  rcases h with ⟨rfl, rfl⟩ | ⟨rfl, rfl⟩
  · exact ⟨.tup vs, p', r', e, o', .inl rfl, .inl rfl, fr0⟩
  · have hx : (Pool.ob p' :: (r ++ [Ob.lst vs]))[r.length + 1]? = some (.lst vs) := by simp
    exact ⟨_, p', r ++ [.lst vs], e, o', .inr (.inr ⟨_, rfl, hx⟩), .inr ⟨_, rfl, by simp, hx⟩, fr0.trans (Fr.app _ (Pool.ob p' :: r) [.lst vs])⟩
theorem Fr.head {S : Nat → Prop} {t u : T} {o : Ob} (h : Fr S t u) (h0 : t[0]? = some o) (hs : ¬ S 0) : ∃ r, u = o :: r := head_ob (h.get h0 hs)
/-- an insert at the front of a handed list -/
theorem insF (cl : Calls) (s : S) (ρ : Env) (vs : List D) (y x : D) (u : T) (hx : x = .tup vs ∨ ∃ i, x = .obj i ∧ u[i]? = some (.lst vs)) (h1 : ∀ xs, x = .tup xs → exec cl s ρ u = .nx ρ u) (h2 : ∀ i, x = .obj i → u[i]? = some (.lst vs) → exec cl s ρ u = .nx ρ (u.set i (.lst (y :: vs)))) : ∃ u', exec cl s ρ u = .nx ρ u' ∧ Fr (fun j => x = .obj j) u u' := by
  rcases hx with rfl | ⟨i, rfl, e⟩
  · exact ⟨u, h1 _ rfl, Fr.refl _ _⟩
  · exact ⟨_, h2 i rfl e, Fr.set u i _ rfl⟩
theorem c_begun (n : Nat) {pl : Nat} {ws : List (List Nat)} {B : List Int} (p : Pool) (b : Int) (r : T) (hw : Wd ws pl) (h1 : 1 ≤ ws.length) (h9 : ws.length ≤ 16) (hpl : pl ≤ 1000) (hB : B.length = ws.length) (hP : ∀ b ∈ B, 0 ≤ b) (hb : b < 800000) (o : Ok p b) :
    ∃ g k p' r', call prg (n + 7) 7 [.obj 0, .lst (ws.map .str), .lst (B.map .int)] (p.ob :: r) = .ok (.obj g) (Pool.ob p' :: r') ∧ Ok p' (b + 2) ∧ Gm g k ws B pl (Pool.ob p' :: r') ∧ Fr (fun i => i = 0) (p.ob :: r) (Pool.ob p' :: r') ∧ (p.ob :: r).length ≤ g ∧ (p.ob :: r).length ≤ k := by
  obtain ⟨x1, p1, r1, e1, o1, d1, c1, f1⟩ := handed (n + 4) p b r (ws.map .str) (by omega) o
  obtain ⟨x2, p2', r2, e2, o2, d2, c2, f2⟩ := handed (n + 4) p1 (b + 1) r1 (B.map .int) (by omega) o1
  have nz1 : ∀ k, x1 = .obj k → ¬ k = 0 := fun k e z => by
    rcases c1 with rfl | ⟨i, rfl, hi, _⟩
    · cases e
    · cases e; simp at hi; omega
  have nz2 : ∀ k, x2 = .obj k → ¬ k = 0 := fun k e z => by
    rcases c2 with rfl | ⟨i, rfl, hi, _⟩
    · cases e
    · cases e; simp at hi; omega
  have d1' := d1.fr f2 nz1
  have e3 := c_init (n + 1) hw h1 d1' hP hB d2
  generalize hu : Pool.ob p2' :: r2 = u at *
  have hu0 : u[0]? = some (Pool.ob p2') := by rw [← hu]; rfl
  have f3 : Fr (fun _ => False) u (u ++ [gObj ws B (u.length + 1), .dct true []]) := Fr.app _ _ _
  have d1'' := d1'.fr f3 fun _ _ z => z
  have d2'' := d2.fr f3 fun _ _ z => z
  have hg : (u ++ [gObj ws B (u.length + 1), .dct true []])[u.length]? = some (gObj ws B (u.length + 1)) := by simp
  have hk : (u ++ [gObj ws B (u.length + 1), .dct true []])[u.length + 1]? = some (.dct true []) := by
    rw [List.getElem?_append_right (by omega)]; simp
  have G : Gm u.length (u.length + 1) ws B pl (u ++ [gObj ws B (u.length + 1), .dct true []]) := ⟨⟨hg, by omega, by simp⟩, ⟨[], hk, Mm.nil ws B pl⟩, hw, hpl, h1, h9, hB, hP⟩
  generalize u ++ [gObj ws B (u.length + 1), .dct true []] = v at *
  have i1 := alike_strs (n + 3) ws v (by omega)
  have i2 := alike_ints (n + 3) B v (by omega)
  have l1 := d1''.list
  have l2 := d2''.list
  have len1 : (p.ob :: r).length ≤ (Pool.ob p1 :: r1).length := f1.1
  have len2 : (Pool.ob p1 :: r1).length ≤ u.length := f2.1
  -- the two inserts
  have x1v : x1 = .tup (ws.map .str) ∨ ∃ i, x1 = .obj i ∧ v[i]? = some (.lst (ws.map .str)) := by
    rcases d1'' with h | h | ⟨i, h, z⟩
    · exact .inl h
    · rcases c1 with rfl | ⟨i, rfl, _⟩ <;> cases h
    · exact .inr ⟨i, h, z⟩
  have x1u : ∀ i, x1 = .obj i → i < u.length := fun i e => by
    rcases d1' with h | h | ⟨j, h, z⟩
    · rw [h] at e; cases e
    · rw [h] at e; cases e
    · rw [h] at e; cases e; exact (List.getElem?_eq_some_iff.mp z).1
  have x2u : ∀ i, x2 = .obj i → i < u.length := fun i e => by
    rcases d2 with h | h | ⟨j, h, z⟩
    · rw [h] at e; cases e
    · rw [h] at e; cases e
    · rw [h] at e; cases e; exact (List.getElem?_eq_some_iff.mp z).1
  have x12 : ∀ i, x1 = .obj i → ¬ x2 = .obj i := fun i e e' => by
    rcases c1 with rfl | ⟨j, rfl, _, hj⟩
    · cases e
    · cases e
      have := (List.getElem?_eq_some_iff.mp hj).1
      rcases c2 with rfl | ⟨j', rfl, hj', _⟩
      · cases e'
      · cases e'; omega
  have hlast : ∃ y, atI (ws.map D.str) ((ws.length : Int) - 1) = some y := by
    obtain ⟨m, hm⟩ : ∃ m : Nat, (ws.length : Int) - 1 = m ∧ m < ws.length := ⟨ws.length - 1, by omega, by omega⟩
    rw [hm.1]
    exact ⟨_, atI_W ws m hm.2⟩
  obtain ⟨y, hy⟩ := hlast
  have hsz : ws.length < sz := by unfold sz; omega
  have hsz2 : B.length < sz := by unfold sz; omega
  obtain ⟨v1, s5, f5⟩ := insF (cls' (n + 6)) (hd (tl (tl (tl (tl b7))))) [.val (.obj 0), .val (.lst (ws.map .str)), .val (.lst (B.map .int)), .val x1, .val x2, .val (.obj u.length)] (ws.map .str) y x1 v x1v (fun xs e => by
    subst e
    simp [runF, ss, es, ts, gs, execs, ev_var, ev_kon, ev_glb, ev_bin, ev_neg, ev_cmp, ev_chn, ev_and, ev_or, ev_not, ev_ife, ev_call, ev_callk, ev_mth, ev_mk, ev_mkk, ev_b1, ev_b2, ev_isi, ev_ix, ev_sl, ev_lst, ev_tup, ev_newL, ev_newD, ev_lobj, ev_dsp, ev_dm, ev_join, ev_fld, exec_asg, exec_setI, exec_setF, exec_aug, exec_mut, exec_ifs, exec_ret, exec_retn, exec_brk, exec_cont, exec_exp, exec_rai, exec_fg, exec_pas, evT, evs, evTAnd, evTOr, evAnd, evOr, evP, evSrc, bo, bnd, frzAll, esT, esTs, esO, esc, escs, esS, escS, opd, opn, look, peek, ofO, cmpD, truthD, thenK, sweep, outR, outF, fresh, asgK, asgT, asgTs, put, binD, b1D, b2D, ixD, ixN, atI_0, atI_1, atI_2, atI_3, atI_4, eqv, eqvs, shp, shps, setK, setX, setO, setOb, isVar, unset, cellOf, frz, valOf, forL, forK, isiD, isiO, items, itemsS, seqs, lenD, fldD, isIns, isNon, isB, inT, mutOk, mutK, muD, ckS, ckC, okP, isDct, dctOf, Pd.getD, augK, setFK, fput, okP, dmD, low, lows, List.lookup, hd, tl, b7]) (fun i e z => by
    subst e
    simp [runF, ss, es, ts, gs, execs, ev_var, ev_kon, ev_glb, ev_bin, ev_neg, ev_cmp, ev_chn, ev_and, ev_or, ev_not, ev_ife, ev_call, ev_callk, ev_mth, ev_mk, ev_mkk, ev_b1, ev_b2, ev_isi, ev_ix, ev_sl, ev_lst, ev_tup, ev_newL, ev_newD, ev_lobj, ev_dsp, ev_dm, ev_join, ev_fld, exec_asg, exec_setI, exec_setF, exec_aug, exec_mut, exec_ifs, exec_ret, exec_retn, exec_brk, exec_cont, exec_exp, exec_rai, exec_fg, exec_pas, evT, evs, evTAnd, evTOr, evAnd, evOr, evP, evSrc, bo, bnd, frzAll, esT, esTs, esO, esc, escs, esS, escS, opd, opn, look, peek, ofO, cmpD, truthD, thenK, sweep, outR, outF, fresh, asgK, asgT, asgTs, put, binD, b1D, b2D, ixD, ixN, atI_0, atI_1, atI_2, atI_3, atI_4, eqv, eqvs, shp, shps, setK, setX, setO, setOb, isVar, unset, cellOf, frz, valOf, forL, forK, isiD, isiO, items, itemsS, seqs, lenD, fldD, isIns, isNon, isB, inT, mutOk, mutK, muD, ckS, ckC, okP, isDct, dctOf, Pd.getD, augK, setFK, fput, okP, dmD, low, lows, List.lookup, hd, tl, b7, z, hy, hsz])
  have x2v : x2 = .tup (B.map .int) ∨ ∃ i, x2 = .obj i ∧ v1[i]? = some (.lst (B.map .int)) := by
    rcases d2'' with h | h | ⟨i, h, z⟩
    · exact .inl h
    · rcases c2 with rfl | ⟨i, rfl, _⟩ <;> cases h
    · exact .inr ⟨i, h, f5.get z fun e => x12 i e h⟩
  obtain ⟨v2, s6, f6⟩ := insF (cls' (n + 6)) (hd (tl (tl (tl (tl (tl b7)))))) [.val (.obj 0), .val (.lst (ws.map .str)), .val (.lst (B.map .int)), .val x1, .val x2, .val (.obj u.length)] (B.map .int) (.int 9) x2 v1 x2v (fun xs e => by
    subst e
    simp [runF, ss, es, ts, gs, execs, ev_var, ev_kon, ev_glb, ev_bin, ev_neg, ev_cmp, ev_chn, ev_and, ev_or, ev_not, ev_ife, ev_call, ev_callk, ev_mth, ev_mk, ev_mkk, ev_b1, ev_b2, ev_isi, ev_ix, ev_sl, ev_lst, ev_tup, ev_newL, ev_newD, ev_lobj, ev_dsp, ev_dm, ev_join, ev_fld, exec_asg, exec_setI, exec_setF, exec_aug, exec_mut, exec_ifs, exec_ret, exec_retn, exec_brk, exec_cont, exec_exp, exec_rai, exec_fg, exec_pas, evT, evs, evTAnd, evTOr, evAnd, evOr, evP, evSrc, bo, bnd, frzAll, esT, esTs, esO, esc, escs, esS, escS, opd, opn, look, peek, ofO, cmpD, truthD, thenK, sweep, outR, outF, fresh, asgK, asgT, asgTs, put, binD, b1D, b2D, ixD, ixN, atI_0, atI_1, atI_2, atI_3, atI_4, eqv, eqvs, shp, shps, setK, setX, setO, setOb, isVar, unset, cellOf, frz, valOf, forL, forK, isiD, isiO, items, itemsS, seqs, lenD, fldD, isIns, isNon, isB, inT, mutOk, mutK, muD, ckS, ckC, okP, isDct, dctOf, Pd.getD, augK, setFK, fput, okP, dmD, low, lows, List.lookup, hd, tl, b7]) (fun i e z => by
    subst e
    simp [runF, ss, es, ts, gs, execs, ev_var, ev_kon, ev_glb, ev_bin, ev_neg, ev_cmp, ev_chn, ev_and, ev_or, ev_not, ev_ife, ev_call, ev_callk, ev_mth, ev_mk, ev_mkk, ev_b1, ev_b2, ev_isi, ev_ix, ev_sl, ev_lst, ev_tup, ev_newL, ev_newD, ev_lobj, ev_dsp, ev_dm, ev_join, ev_fld, exec_asg, exec_setI, exec_setF, exec_aug, exec_mut, exec_ifs, exec_ret, exec_retn, exec_brk, exec_cont, exec_exp, exec_rai, exec_fg, exec_pas, evT, evs, evTAnd, evTOr, evAnd, evOr, evP, evSrc, bo, bnd, frzAll, esT, esTs, esO, esc, escs, esS, escS, opd, opn, look, peek, ofO, cmpD, truthD, thenK, sweep, outR, outF, fresh, asgK, asgT, asgTs, put, binD, b1D, b2D, ixD, ixN, atI_0, atI_1, atI_2, atI_3, atI_4, eqv, eqvs, shp, shps, setK, setX, setO, setOb, isVar, unset, cellOf, frz, valOf, forL, forK, isiD, isiO, items, itemsS, seqs, lenD, fldD, isIns, isNon, isB, inT, mutOk, mutK, muD, ckS, ckC, okP, isDct, dctOf, Pd.getD, augK, setFK, fput, okP, dmD, low, lows, List.lookup, hd, tl, b7, z, hsz2])
  have G1 := G.fr f5 (fun e => by have := x1u _ e; omega) (fun e => by have := x1u _ e; omega)
  have G2 := G1.fr f6 (fun e => by have := x2u _ e; omega) (fun e => by have := x2u _ e; omega)
  have hv0 : v2[0]? = some (Pool.ob p2') := f6.get (f5.get (f3.get hu0 id) (fun e => nz1 0 e rfl)) (fun e => nz2 0 e rfl)
  obtain ⟨r', rfl⟩ := head_ob hv0
  refine ⟨u.length, u.length + 1, p2', r', ?_, o2.mono (by omega), G2, ?_, by omega, by omega⟩
  · rw [cS 7 f7 rfl]
    have e0 : runF (cls' (n + 6)) f7 [.obj 0, .lst (ws.map .str), .lst (B.map .int)] (p.ob :: r) = match execs (cls' (n + 6)) b7 [.val (.obj 0), .val (.lst (ws.map .str)), .val (.lst (B.map .int)), .un, .un, .un] (p.ob :: r) with
      | .nx _ t' => .ok .non t'
      | .ret d t' => .ok d t'
      | .ex c as t' => .ex c as t'
      | _ => .no := rfl
    have hb : b7 = .cons (hd b7) (.cons (hd (tl b7)) (.cons (hd (tl (tl b7))) (.cons (hd (tl (tl (tl b7)))) (.cons (hd (tl (tl (tl (tl b7))))) (.cons (hd (tl (tl (tl (tl (tl b7)))))) (tl (tl (tl (tl (tl (tl b7))))))))))) := rfl
    have e1 : call prg (n + 6) 13 [.obj 0, .lst (ws.map .str)] (p.ob :: r) = .ok x1 (Pool.ob p1 :: r1) := e1
    have e2 : call prg (n + 6) 13 [.obj 0, .lst (B.map .int)] (Pool.ob p1 :: r1) = .ok x2 u := e2
    have e3 : mkC prg (fun j as t => call prg (n + 6) j as t) 0 [x1, x2] u = .ok (.obj u.length) v := e3
    have i1 : call prg (n + 6) 15 [.lst (ws.map .str), .lst (ws.map .str)] v = .ok (.bl true) v := i1
    have i2 : call prg (n + 6) 15 [.lst (B.map .int), .lst (B.map .int)] v = .ok (.bl true) v := i2
    have s1 : exec (cls' (n + 6)) (hd b7) [.val (.obj 0), .val (.lst (ws.map .str)), .val (.lst (B.map .int)), .un, .un, .un] (p.ob :: r) = .nx [.val (.obj 0), .val (.lst (ws.map .str)), .val (.lst (B.map .int)), .val x1, .un, .un] (Pool.ob p1 :: r1) := by
      simp [runF, ss, es, ts, gs, execs, ev_var, ev_kon, ev_glb, ev_bin, ev_neg, ev_cmp, ev_chn, ev_and, ev_or, ev_not, ev_ife, ev_call, ev_callk, ev_mth, ev_mk, ev_mkk, ev_b1, ev_b2, ev_isi, ev_ix, ev_sl, ev_lst, ev_tup, ev_newL, ev_newD, ev_lobj, ev_dsp, ev_dm, ev_join, ev_fld, exec_asg, exec_setI, exec_setF, exec_aug, exec_mut, exec_ifs, exec_ret, exec_retn, exec_brk, exec_cont, exec_exp, exec_rai, exec_fg, exec_pas, evT, evs, evTAnd, evTOr, evAnd, evOr, evP, evSrc, bo, bnd, frzAll, esT, esTs, esO, esc, escs, esS, escS, opd, opn, look, peek, ofO, cmpD, truthD, thenK, sweep, outR, outF, fresh, asgK, asgT, asgTs, put, binD, b1D, b2D, ixD, ixN, atI_0, atI_1, atI_2, atI_3, atI_4, eqv, eqvs, shp, shps, setK, setX, setO, setOb, isVar, unset, cellOf, frz, valOf, forL, forK, isiD, isiO, items, itemsS, seqs, lenD, fldD, isIns, isNon, isB, inT, mutOk, mutK, muD, ckS, ckC, okP, isDct, dctOf, Pd.getD, augK, setFK, fput, okP, dmD, low, lows, List.lookup, hd, b7, e1]
    have s2 : exec (cls' (n + 6)) (hd (tl b7)) [.val (.obj 0), .val (.lst (ws.map .str)), .val (.lst (B.map .int)), .val x1, .un, .un] (Pool.ob p1 :: r1) = .nx [.val (.obj 0), .val (.lst (ws.map .str)), .val (.lst (B.map .int)), .val x1, .val x2, .un] u := by
      simp [runF, ss, es, ts, gs, execs, ev_var, ev_kon, ev_glb, ev_bin, ev_neg, ev_cmp, ev_chn, ev_and, ev_or, ev_not, ev_ife, ev_call, ev_callk, ev_mth, ev_mk, ev_mkk, ev_b1, ev_b2, ev_isi, ev_ix, ev_sl, ev_lst, ev_tup, ev_newL, ev_newD, ev_lobj, ev_dsp, ev_dm, ev_join, ev_fld, exec_asg, exec_setI, exec_setF, exec_aug, exec_mut, exec_ifs, exec_ret, exec_retn, exec_brk, exec_cont, exec_exp, exec_rai, exec_fg, exec_pas, evT, evs, evTAnd, evTOr, evAnd, evOr, evP, evSrc, bo, bnd, frzAll, esT, esTs, esO, esc, escs, esS, escS, opd, opn, look, peek, ofO, cmpD, truthD, thenK, sweep, outR, outF, fresh, asgK, asgT, asgTs, put, binD, b1D, b2D, ixD, ixN, atI_0, atI_1, atI_2, atI_3, atI_4, eqv, eqvs, shp, shps, setK, setX, setO, setOb, isVar, unset, cellOf, frz, valOf, forL, forK, isiD, isiO, items, itemsS, seqs, lenD, fldD, isIns, isNon, isB, inT, mutOk, mutK, muD, ckS, ckC, okP, isDct, dctOf, Pd.getD, augK, setFK, fput, okP, dmD, low, lows, List.lookup, hd, tl, b7, e2]
    have s3 : exec (cls' (n + 6)) (hd (tl (tl b7))) [.val (.obj 0), .val (.lst (ws.map .str)), .val (.lst (B.map .int)), .val x1, .val x2, .un] u = .nx [.val (.obj 0), .val (.lst (ws.map .str)), .val (.lst (B.map .int)), .val x1, .val x2, .val (.obj u.length)] v := by
      simp [runF, ss, es, ts, gs, execs, ev_var, ev_kon, ev_glb, ev_bin, ev_neg, ev_cmp, ev_chn, ev_and, ev_or, ev_not, ev_ife, ev_call, ev_callk, ev_mth, ev_mk, ev_mkk, ev_b1, ev_b2, ev_isi, ev_ix, ev_sl, ev_lst, ev_tup, ev_newL, ev_newD, ev_lobj, ev_dsp, ev_dm, ev_join, ev_fld, exec_asg, exec_setI, exec_setF, exec_aug, exec_mut, exec_ifs, exec_ret, exec_retn, exec_brk, exec_cont, exec_exp, exec_rai, exec_fg, exec_pas, evT, evs, evTAnd, evTOr, evAnd, evOr, evP, evSrc, bo, bnd, frzAll, esT, esTs, esO, esc, escs, esS, escS, opd, opn, look, peek, ofO, cmpD, truthD, thenK, sweep, outR, outF, fresh, asgK, asgT, asgTs, put, binD, b1D, b2D, ixD, ixN, atI_0, atI_1, atI_2, atI_3, atI_4, eqv, eqvs, shp, shps, setK, setX, setO, setOb, isVar, unset, cellOf, frz, valOf, forL, forK, isiD, isiO, items, itemsS, seqs, lenD, fldD, isIns, isNon, isB, inT, mutOk, mutK, muD, ckS, ckC, okP, isDct, dctOf, Pd.getD, augK, setFK, fput, okP, dmD, low, lows, List.lookup, hd, tl, b7, e3]
    have s4 : exec (cls' (n + 6)) (hd (tl (tl (tl b7)))) [.val (.obj 0), .val (.lst (ws.map .str)), .val (.lst (B.map .int)), .val x1, .val x2, .val (.obj u.length)] v = .nx [.val (.obj 0), .val (.lst (ws.map .str)), .val (.lst (B.map .int)), .val x1, .val x2, .val (.obj u.length)] v := by
      rcases d1'' with rfl | rfl | ⟨j1, rfl, z1⟩ <;> rcases d2'' with rfl | rfl | ⟨j2, rfl, z2⟩
      · simp [runF, ss, es, ts, gs, execs, ev_var, ev_kon, ev_glb, ev_bin, ev_neg, ev_cmp, ev_chn, ev_and, ev_or, ev_not, ev_ife, ev_call, ev_callk, ev_mth, ev_mk, ev_mkk, ev_b1, ev_b2, ev_isi, ev_ix, ev_sl, ev_lst, ev_tup, ev_newL, ev_newD, ev_lobj, ev_dsp, ev_dm, ev_join, ev_fld, exec_asg, exec_setI, exec_setF, exec_aug, exec_mut, exec_ifs, exec_ret, exec_retn, exec_brk, exec_cont, exec_exp, exec_rai, exec_fg, exec_pas, evT, evs, evTAnd, evTOr, evAnd, evOr, evP, evSrc, bo, bnd, frzAll, esT, esTs, esO, esc, escs, esS, escS, opd, opn, look, peek, ofO, cmpD, truthD, thenK, sweep, outR, outF, fresh, asgK, asgT, asgTs, put, binD, b1D, b2D, ixD, ixN, atI_0, atI_1, atI_2, atI_3, atI_4, eqv, eqvs, shp, shps, setK, setX, setO, setOb, isVar, unset, cellOf, frz, valOf, forL, forK, isiD, isiO, items, itemsS, seqs, lenD, fldD, isIns, isNon, isB, inT, mutOk, mutK, muD, ckS, ckC, okP, isDct, dctOf, Pd.getD, augK, setFK, fput, okP, dmD, low, lows, List.lookup, hd, tl, b7, i1, i2]
      · simp [runF, ss, es, ts, gs, execs, ev_var, ev_kon, ev_glb, ev_bin, ev_neg, ev_cmp, ev_chn, ev_and, ev_or, ev_not, ev_ife, ev_call, ev_callk, ev_mth, ev_mk, ev_mkk, ev_b1, ev_b2, ev_isi, ev_ix, ev_sl, ev_lst, ev_tup, ev_newL, ev_newD, ev_lobj, ev_dsp, ev_dm, ev_join, ev_fld, exec_asg, exec_setI, exec_setF, exec_aug, exec_mut, exec_ifs, exec_ret, exec_retn, exec_brk, exec_cont, exec_exp, exec_rai, exec_fg, exec_pas, evT, evs, evTAnd, evTOr, evAnd, evOr, evP, evSrc, bo, bnd, frzAll, esT, esTs, esO, esc, escs, esS, escS, opd, opn, look, peek, ofO, cmpD, truthD, thenK, sweep, outR, outF, fresh, asgK, asgT, asgTs, put, binD, b1D, b2D, ixD, ixN, atI_0, atI_1, atI_2, atI_3, atI_4, eqv, eqvs, shp, shps, setK, setX, setO, setOb, isVar, unset, cellOf, frz, valOf, forL, forK, isiD, isiO, items, itemsS, seqs, lenD, fldD, isIns, isNon, isB, inT, mutOk, mutK, muD, ckS, ckC, okP, isDct, dctOf, Pd.getD, augK, setFK, fput, okP, dmD, low, lows, List.lookup, hd, tl, b7, i1, i2]
      · simp [runF, ss, es, ts, gs, execs, ev_var, ev_kon, ev_glb, ev_bin, ev_neg, ev_cmp, ev_chn, ev_and, ev_or, ev_not, ev_ife, ev_call, ev_callk, ev_mth, ev_mk, ev_mkk, ev_b1, ev_b2, ev_isi, ev_ix, ev_sl, ev_lst, ev_tup, ev_newL, ev_newD, ev_lobj, ev_dsp, ev_dm, ev_join, ev_fld, exec_asg, exec_setI, exec_setF, exec_aug, exec_mut, exec_ifs, exec_ret, exec_retn, exec_brk, exec_cont, exec_exp, exec_rai, exec_fg, exec_pas, evT, evs, evTAnd, evTOr, evAnd, evOr, evP, evSrc, bo, bnd, frzAll, esT, esTs, esO, esc, escs, esS, escS, opd, opn, look, peek, ofO, cmpD, truthD, thenK, sweep, outR, outF, fresh, asgK, asgT, asgTs, put, binD, b1D, b2D, ixD, ixN, atI_0, atI_1, atI_2, atI_3, atI_4, eqv, eqvs, shp, shps, setK, setX, setO, setOb, isVar, unset, cellOf, frz, valOf, forL, forK, isiD, isiO, items, itemsS, seqs, lenD, fldD, isIns, isNon, isB, inT, mutOk, mutK, muD, ckS, ckC, okP, isDct, dctOf, Pd.getD, augK, setFK, fput, okP, dmD, low, lows, List.lookup, hd, tl, b7, i1, i2, z2]
      · simp [runF, ss, es, ts, gs, execs, ev_var, ev_kon, ev_glb, ev_bin, ev_neg, ev_cmp, ev_chn, ev_and, ev_or, ev_not, ev_ife, ev_call, ev_callk, ev_mth, ev_mk, ev_mkk, ev_b1, ev_b2, ev_isi, ev_ix, ev_sl, ev_lst, ev_tup, ev_newL, ev_newD, ev_lobj, ev_dsp, ev_dm, ev_join, ev_fld, exec_asg, exec_setI, exec_setF, exec_aug, exec_mut, exec_ifs, exec_ret, exec_retn, exec_brk, exec_cont, exec_exp, exec_rai, exec_fg, exec_pas, evT, evs, evTAnd, evTOr, evAnd, evOr, evP, evSrc, bo, bnd, frzAll, esT, esTs, esO, esc, escs, esS, escS, opd, opn, look, peek, ofO, cmpD, truthD, thenK, sweep, outR, outF, fresh, asgK, asgT, asgTs, put, binD, b1D, b2D, ixD, ixN, atI_0, atI_1, atI_2, atI_3, atI_4, eqv, eqvs, shp, shps, setK, setX, setO, setOb, isVar, unset, cellOf, frz, valOf, forL, forK, isiD, isiO, items, itemsS, seqs, lenD, fldD, isIns, isNon, isB, inT, mutOk, mutK, muD, ckS, ckC, okP, isDct, dctOf, Pd.getD, augK, setFK, fput, okP, dmD, low, lows, List.lookup, hd, tl, b7, i1, i2]
      · simp [runF, ss, es, ts, gs, execs, ev_var, ev_kon, ev_glb, ev_bin, ev_neg, ev_cmp, ev_chn, ev_and, ev_or, ev_not, ev_ife, ev_call, ev_callk, ev_mth, ev_mk, ev_mkk, ev_b1, ev_b2, ev_isi, ev_ix, ev_sl, ev_lst, ev_tup, ev_newL, ev_newD, ev_lobj, ev_dsp, ev_dm, ev_join, ev_fld, exec_asg, exec_setI, exec_setF, exec_aug, exec_mut, exec_ifs, exec_ret, exec_retn, exec_brk, exec_cont, exec_exp, exec_rai, exec_fg, exec_pas, evT, evs, evTAnd, evTOr, evAnd, evOr, evP, evSrc, bo, bnd, frzAll, esT, esTs, esO, esc, escs, esS, escS, opd, opn, look, peek, ofO, cmpD, truthD, thenK, sweep, outR, outF, fresh, asgK, asgT, asgTs, put, binD, b1D, b2D, ixD, ixN, atI_0, atI_1, atI_2, atI_3, atI_4, eqv, eqvs, shp, shps, setK, setX, setO, setOb, isVar, unset, cellOf, frz, valOf, forL, forK, isiD, isiO, items, itemsS, seqs, lenD, fldD, isIns, isNon, isB, inT, mutOk, mutK, muD, ckS, ckC, okP, isDct, dctOf, Pd.getD, augK, setFK, fput, okP, dmD, low, lows, List.lookup, hd, tl, b7, i1, i2]
      · simp [runF, ss, es, ts, gs, execs, ev_var, ev_kon, ev_glb, ev_bin, ev_neg, ev_cmp, ev_chn, ev_and, ev_or, ev_not, ev_ife, ev_call, ev_callk, ev_mth, ev_mk, ev_mkk, ev_b1, ev_b2, ev_isi, ev_ix, ev_sl, ev_lst, ev_tup, ev_newL, ev_newD, ev_lobj, ev_dsp, ev_dm, ev_join, ev_fld, exec_asg, exec_setI, exec_setF, exec_aug, exec_mut, exec_ifs, exec_ret, exec_retn, exec_brk, exec_cont, exec_exp, exec_rai, exec_fg, exec_pas, evT, evs, evTAnd, evTOr, evAnd, evOr, evP, evSrc, bo, bnd, frzAll, esT, esTs, esO, esc, escs, esS, escS, opd, opn, look, peek, ofO, cmpD, truthD, thenK, sweep, outR, outF, fresh, asgK, asgT, asgTs, put, binD, b1D, b2D, ixD, ixN, atI_0, atI_1, atI_2, atI_3, atI_4, eqv, eqvs, shp, shps, setK, setX, setO, setOb, isVar, unset, cellOf, frz, valOf, forL, forK, isiD, isiO, items, itemsS, seqs, lenD, fldD, isIns, isNon, isB, inT, mutOk, mutK, muD, ckS, ckC, okP, isDct, dctOf, Pd.getD, augK, setFK, fput, okP, dmD, low, lows, List.lookup, hd, tl, b7, i1, i2, z2]
      · simp [runF, ss, es, ts, gs, execs, ev_var, ev_kon, ev_glb, ev_bin, ev_neg, ev_cmp, ev_chn, ev_and, ev_or, ev_not, ev_ife, ev_call, ev_callk, ev_mth, ev_mk, ev_mkk, ev_b1, ev_b2, ev_isi, ev_ix, ev_sl, ev_lst, ev_tup, ev_newL, ev_newD, ev_lobj, ev_dsp, ev_dm, ev_join, ev_fld, exec_asg, exec_setI, exec_setF, exec_aug, exec_mut, exec_ifs, exec_ret, exec_retn, exec_brk, exec_cont, exec_exp, exec_rai, exec_fg, exec_pas, evT, evs, evTAnd, evTOr, evAnd, evOr, evP, evSrc, bo, bnd, frzAll, esT, esTs, esO, esc, escs, esS, escS, opd, opn, look, peek, ofO, cmpD, truthD, thenK, sweep, outR, outF, fresh, asgK, asgT, asgTs, put, binD, b1D, b2D, ixD, ixN, atI_0, atI_1, atI_2, atI_3, atI_4, eqv, eqvs, shp, shps, setK, setX, setO, setOb, isVar, unset, cellOf, frz, valOf, forL, forK, isiD, isiO, items, itemsS, seqs, lenD, fldD, isIns, isNon, isB, inT, mutOk, mutK, muD, ckS, ckC, okP, isDct, dctOf, Pd.getD, augK, setFK, fput, okP, dmD, low, lows, List.lookup, hd, tl, b7, i1, i2, z1]
      · simp [runF, ss, es, ts, gs, execs, ev_var, ev_kon, ev_glb, ev_bin, ev_neg, ev_cmp, ev_chn, ev_and, ev_or, ev_not, ev_ife, ev_call, ev_callk, ev_mth, ev_mk, ev_mkk, ev_b1, ev_b2, ev_isi, ev_ix, ev_sl, ev_lst, ev_tup, ev_newL, ev_newD, ev_lobj, ev_dsp, ev_dm, ev_join, ev_fld, exec_asg, exec_setI, exec_setF, exec_aug, exec_mut, exec_ifs, exec_ret, exec_retn, exec_brk, exec_cont, exec_exp, exec_rai, exec_fg, exec_pas, evT, evs, evTAnd, evTOr, evAnd, evOr, evP, evSrc, bo, bnd, frzAll, esT, esTs, esO, esc, escs, esS, escS, opd, opn, look, peek, ofO, cmpD, truthD, thenK, sweep, outR, outF, fresh, asgK, asgT, asgTs, put, binD, b1D, b2D, ixD, ixN, atI_0, atI_1, atI_2, atI_3, atI_4, eqv, eqvs, shp, shps, setK, setX, setO, setOb, isVar, unset, cellOf, frz, valOf, forL, forK, isiD, isiO, items, itemsS, seqs, lenD, fldD, isIns, isNon, isB, inT, mutOk, mutK, muD, ckS, ckC, okP, isDct, dctOf, Pd.getD, augK, setFK, fput, okP, dmD, low, lows, List.lookup, hd, tl, b7, i1, i2, z1]
      · simp [runF, ss, es, ts, gs, execs, ev_var, ev_kon, ev_glb, ev_bin, ev_neg, ev_cmp, ev_chn, ev_and, ev_or, ev_not, ev_ife, ev_call, ev_callk, ev_mth, ev_mk, ev_mkk, ev_b1, ev_b2, ev_isi, ev_ix, ev_sl, ev_lst, ev_tup, ev_newL, ev_newD, ev_lobj, ev_dsp, ev_dm, ev_join, ev_fld, exec_asg, exec_setI, exec_setF, exec_aug, exec_mut, exec_ifs, exec_ret, exec_retn, exec_brk, exec_cont, exec_exp, exec_rai, exec_fg, exec_pas, evT, evs, evTAnd, evTOr, evAnd, evOr, evP, evSrc, bo, bnd, frzAll, esT, esTs, esO, esc, escs, esS, escS, opd, opn, look, peek, ofO, cmpD, truthD, thenK, sweep, outR, outF, fresh, asgK, asgT, asgTs, put, binD, b1D, b2D, ixD, ixN, atI_0, atI_1, atI_2, atI_3, atI_4, eqv, eqvs, shp, shps, setK, setX, setO, setOb, isVar, unset, cellOf, frz, valOf, forL, forK, isiD, isiO, items, itemsS, seqs, lenD, fldD, isIns, isNon, isB, inT, mutOk, mutK, muD, ckS, ckC, okP, isDct, dctOf, Pd.getD, augK, setFK, fput, okP, dmD, low, lows, List.lookup, hd, tl, b7, i1, i2, z1, z2]
    rw [e0, hb, execs_step s1, execs_step s2, execs_step s3, execs_step s4, execs_step s5, execs_step s6]
    simp [runF, ss, es, ts, gs, execs, ev_var, ev_kon, ev_glb, ev_bin, ev_neg, ev_cmp, ev_chn, ev_and, ev_or, ev_not, ev_ife, ev_call, ev_callk, ev_mth, ev_mk, ev_mkk, ev_b1, ev_b2, ev_isi, ev_ix, ev_sl, ev_lst, ev_tup, ev_newL, ev_newD, ev_lobj, ev_dsp, ev_dm, ev_join, ev_fld, exec_asg, exec_setI, exec_setF, exec_aug, exec_mut, exec_ifs, exec_ret, exec_retn, exec_brk, exec_cont, exec_exp, exec_rai, exec_fg, exec_pas, evT, evs, evTAnd, evTOr, evAnd, evOr, evP, evSrc, bo, bnd, frzAll, esT, esTs, esO, esc, escs, esS, escS, opd, opn, look, peek, ofO, cmpD, truthD, thenK, sweep, outR, outF, fresh, asgK, asgT, asgTs, put, binD, b1D, b2D, ixD, ixN, atI_0, atI_1, atI_2, atI_3, atI_4, eqv, eqvs, shp, shps, setK, setX, setO, setOb, isVar, unset, cellOf, frz, valOf, forL, forK, isiD, isiO, items, itemsS, seqs, lenD, fldD, isIns, isNon, isB, inT, mutOk, mutK, muD, ckS, ckC, okP, isDct, dctOf, Pd.getD, augK, setFK, fput, okP, dmD, low, lows, List.lookup, hd, tl, b7]
  · have g1 : Fr (fun i => i = 0 ∨ (p.ob :: r).length ≤ i) (p.ob :: r) (Pool.ob p2' :: r') :=
      (((f1.mono fun i h => .inl h).trans (f2.mono fun i h => .inl h)).trans (f3.mono fun _ h => h.elim)).trans ((f5.mono fun i h => by
        rcases c1 with rfl | ⟨j, rfl, hj, _⟩
        · cases h
        · cases h; exact .inr hj).trans (f6.mono fun i h => by
        rcases c2 with rfl | ⟨j, rfl, hj, _⟩
        · cases h
        · cases h; exact .inr (by omega)))
    exact ⟨g1.1, fun i hi h0 => g1.2 i hi fun z => z.elim h0 fun z => by omega⟩

end K85
set_option maxRecDepth 100000
set_option linter.all false
set_option autoImplicit false
/-! as due -/
namespace K85
open Pd Pt
theorem node_of_win {ws : List (List Nat)} {B : List Int} {pl : Nat} {tr : Tr} (hP : ∀ b ∈ B, 0 ≤ b) (hB : B.length = ws.length) (h : Win ws (iAt B) pl tr (List.range ws.length) 0) : ∃ p a b, tr = .node p a b := by
  cases tr with
  | node p a b => exact ⟨p, a, b, rfl⟩
  | leaf q =>
    have h1 := hP _ (iAt_mem (B := B) (q := q) (by rw [hB]; exact List.mem_range.mp h.1))
    have h2 : iAt B q < 0 := h.2
    omega
theorem c_asDue (n : Nat) {g k pl : Nat} {ws : List (List Nat)} {B C : List Int} (p : Pool) (b : Int) (r : T) (G : Gm g k ws B pl (p.ob :: r)) (hg0 : g ≠ 0) (hk0 : k ≠ 0) (h9 : ws.length ≤ 10) (hC : C.length = ws.length) (hCP : ∀ b ∈ C, 0 ≤ b) (hCN : 0 < Need ws (iAt B) pl (List.range ws.length) → Need ws (iAt C) pl (List.range ws.length) ≤ 0) (hb : b < 800000) (o : Ok p b) :
    ∃ p' r', call prg (n + 38) 8 [.obj 0, .obj g, .lst (ws.map .str), .lst (B.map .int), .lst (C.map .int), .int (Need ws (iAt B) pl (List.range ws.length))] (p.ob :: r) = .ok (.bl true) (Pool.ob p' :: r') ∧ Ok p' (b + 4) ∧ Gm g k ws B pl (Pool.ob p' :: r') ∧ Fr (fun i => i = 0 ∨ i = k) (p.ob :: r) (Pool.ob p' :: r') := by
  rw [cS 8 f8 rfl]
  have e0 : runF (cls' (n + 37)) f8 [.obj 0, .obj g, .lst (ws.map .str), .lst (B.map .int), .lst (C.map .int), .int (Need ws (iAt B) pl (List.range ws.length))] (p.ob :: r) = match execs (cls' (n + 37)) b8 [.val (.obj 0), .val (.obj g), .val (.lst (ws.map .str)), .val (.lst (B.map .int)), .val (.lst (C.map .int)), .val (.int (Need ws (iAt B) pl (List.range ws.length))), .un, .un, .un] (p.ob :: r) with
      | .nx _ t' => .ok .non t'
      | .ret d t' => .ok d t'
      | .ex c as t' => .ex c as t'
      | _ => .no := rfl
  have hb' : b8 = .cons (hd b8) (.cons (hd (tl b8)) (.cons (hd (tl (tl b8))) (.cons (hd (tl (tl (tl b8)))) (.cons (hd (tl (tl (tl (tl b8))))) (.cons (hd (tl (tl (tl (tl (tl b8)))))) (.cons (hd (tl (tl (tl (tl (tl (tl b8))))))) (.cons (hd (tl (tl (tl (tl (tl (tl (tl b8)))))))) (tl (tl (tl (tl (tl (tl (tl (tl b8))))))))))))))) := rfl
  rw [e0, hb']
  obtain ⟨d, t1, e1, G1, s1, hd1, hd2⟩ := c_tree n G
  obtain ⟨t2, e2, G2, s2⟩ := c_isKept (n + 16) G1
  have e2 : call prg (n + 37) 17 [.obj g] t1 = .ok (.bl (decide (Need ws (iAt B) pl (List.range ws.length) ≤ 0))) t2 := e2
  have f12 := s1.fr.trans s2.fr
  obtain ⟨r2, rfl⟩ := Fr.head f12 (o := p.ob) rfl (fun z => hk0 z.symm)
  have q0 := isInsG G.ob
  have q1 := isInsG G1.ob
  simp only [isIns] at q0 q1
  generalize hN : Need ws (iAt B) pl (List.range ws.length) = N at *
  have x1 : exec (cls' (n + 37)) (hd b8) [.val (.obj 0), .val (.obj g), .val (.lst (ws.map .str)), .val (.lst (B.map .int)), .val (.lst (C.map .int)), .val (.int N), .un, .un, .un] (p.ob :: r) = .nx [.val (.obj 0), .val (.obj g), .val (.lst (ws.map .str)), .val (.lst (B.map .int)), .val (.lst (C.map .int)), .val (.int N), .val d, .un, .un] t1 := by
    generalize p.ob :: r = t at q0 e1
    simp [runF, ss, es, ts, gs, execs, ev_var, ev_kon, ev_glb, ev_bin, ev_neg, ev_cmp, ev_chn, ev_and, ev_or, ev_not, ev_ife, ev_call, ev_callk, ev_mth, ev_mk, ev_mkk, ev_b1, ev_b2, ev_isi, ev_ix, ev_sl, ev_lst, ev_tup, ev_newL, ev_newD, ev_lobj, ev_dsp, ev_dm, ev_join, ev_fld, exec_asg, exec_setI, exec_setF, exec_aug, exec_mut, exec_ifs, exec_ret, exec_retn, exec_brk, exec_cont, exec_exp, exec_rai, exec_fg, exec_pas, evT, evs, evTAnd, evTOr, evAnd, evOr, evP, evSrc, bo, bnd, frzAll, esT, esTs, esO, esc, escs, esS, escS, opd, opn, look, peek, ofO, cmpD, truthD, thenK, sweep, outR, outF, fresh, asgK, asgT, asgTs, put, binD, b1D, b2D, ixD, ixN, atI_0, atI_1, atI_2, atI_3, atI_4, eqv, eqvs, shp, shps, setK, setX, setO, setOb, isVar, unset, cellOf, frz, valOf, forL, forK, isiD, isiO, items, itemsS, seqs, lenD, fldD, isIns, isNon, isB, inT, mutOk, mutK, muD, ckS, ckC, okP, isDct, dctOf, Pd.getD, augK, setFK, fput, okP, dmD, low, lows, List.lookup, hd, b8, q0, e1]
  have i3 := alike_bl (n + 36) (decide (N ≤ 0)) (p.ob :: r2)
  have x2 : exec (cls' (n + 37)) (hd (tl b8)) [.val (.obj 0), .val (.obj g), .val (.lst (ws.map .str)), .val (.lst (B.map .int)), .val (.lst (C.map .int)), .val (.int N), .val d, .un, .un] t1 = .nx [.val (.obj 0), .val (.obj g), .val (.lst (ws.map .str)), .val (.lst (B.map .int)), .val (.lst (C.map .int)), .val (.int N), .val d, .un, .un] (p.ob :: r2) := by
    simp [runF, ss, es, ts, gs, execs, ev_var, ev_kon, ev_glb, ev_bin, ev_neg, ev_cmp, ev_chn, ev_and, ev_or, ev_not, ev_ife, ev_call, ev_callk, ev_mth, ev_mk, ev_mkk, ev_b1, ev_b2, ev_isi, ev_ix, ev_sl, ev_lst, ev_tup, ev_newL, ev_newD, ev_lobj, ev_dsp, ev_dm, ev_join, ev_fld, exec_asg, exec_setI, exec_setF, exec_aug, exec_mut, exec_ifs, exec_ret, exec_retn, exec_brk, exec_cont, exec_exp, exec_rai, exec_fg, exec_pas, evT, evs, evTAnd, evTOr, evAnd, evOr, evP, evSrc, bo, bnd, frzAll, esT, esTs, esO, esc, escs, esS, escS, opd, opn, look, peek, ofO, cmpD, truthD, thenK, sweep, outR, outF, fresh, asgK, asgT, asgTs, put, binD, b1D, b2D, ixD, ixN, atI_0, atI_1, atI_2, atI_3, atI_4, eqv, eqvs, shp, shps, setK, setX, setO, setOb, isVar, unset, cellOf, frz, valOf, forL, forK, isiD, isiO, items, itemsS, seqs, lenD, fldD, isIns, isNon, isB, inT, mutOk, mutK, muD, ckS, ckC, okP, isDct, dctOf, Pd.getD, augK, setFK, fput, okP, dmD, low, lows, List.lookup, hd, tl, b8, q1, e2, i3]
  rw [execs_step x1, execs_step x2]
  by_cases hn : N ≤ 0
  · have := hd1 hn
    subst this
    refine ⟨p, r2, ?_, o.mono (by omega), G2, f12.mono fun _ h => .inr h⟩
    rw [execs_end (d := .bl true) (t' := p.ob :: r2) (by simp [runF, ss, es, ts, gs, execs, ev_var, ev_kon, ev_glb, ev_bin, ev_neg, ev_cmp, ev_chn, ev_and, ev_or, ev_not, ev_ife, ev_call, ev_callk, ev_mth, ev_mk, ev_mkk, ev_b1, ev_b2, ev_isi, ev_ix, ev_sl, ev_lst, ev_tup, ev_newL, ev_newD, ev_lobj, ev_dsp, ev_dm, ev_join, ev_fld, exec_asg, exec_setI, exec_setF, exec_aug, exec_mut, exec_ifs, exec_ret, exec_retn, exec_brk, exec_cont, exec_exp, exec_rai, exec_fg, exec_pas, evT, evs, evTAnd, evTOr, evAnd, evOr, evP, evSrc, bo, bnd, frzAll, esT, esTs, esO, esc, escs, esS, escS, opd, opn, look, peek, ofO, cmpD, truthD, thenK, sweep, outR, outF, fresh, asgK, asgT, asgTs, put, binD, b1D, b2D, ixD, ixN, atI_0, atI_1, atI_2, atI_3, atI_4, eqv, eqvs, shp, shps, setK, setX, setO, setOb, isVar, unset, cellOf, frz, valOf, forL, forK, isiD, isiO, items, itemsS, seqs, lenD, fldD, isIns, isNon, isB, inT, mutOk, mutK, muD, ckS, ckC, okP, isDct, dctOf, Pd.getD, augK, setFK, fput, okP, dmD, low, lows, List.lookup, hd, tl, b8, hn])]
  · obtain ⟨tr, rfl, w⟩ := hd2 (by omega)
    have x3 : exec (cls' (n + 37)) (hd (tl (tl b8))) [.val (.obj 0), .val (.obj g), .val (.lst (ws.map .str)), .val (.lst (B.map .int)), .val (.lst (C.map .int)), .val (.int N), .val tr.enc, .un, .un] (p.ob :: r2) = .nx [.val (.obj 0), .val (.obj g), .val (.lst (ws.map .str)), .val (.lst (B.map .int)), .val (.lst (C.map .int)), .val (.int N), .val tr.enc, .un, .un] (p.ob :: r2) := by
      simp [runF, ss, es, ts, gs, execs, ev_var, ev_kon, ev_glb, ev_bin, ev_neg, ev_cmp, ev_chn, ev_and, ev_or, ev_not, ev_ife, ev_call, ev_callk, ev_mth, ev_mk, ev_mkk, ev_b1, ev_b2, ev_isi, ev_ix, ev_sl, ev_lst, ev_tup, ev_newL, ev_newD, ev_lobj, ev_dsp, ev_dm, ev_join, ev_fld, exec_asg, exec_setI, exec_setF, exec_aug, exec_mut, exec_ifs, exec_ret, exec_retn, exec_brk, exec_cont, exec_exp, exec_rai, exec_fg, exec_pas, evT, evs, evTAnd, evTOr, evAnd, evOr, evP, evSrc, bo, bnd, frzAll, esT, esTs, esO, esc, escs, esS, escS, opd, opn, look, peek, ofO, cmpD, truthD, thenK, sweep, outR, outF, fresh, asgK, asgT, asgTs, put, binD, b1D, b2D, ixD, ixN, atI_0, atI_1, atI_2, atI_3, atI_4, eqv, eqvs, shp, shps, setK, setX, setO, setOb, isVar, unset, cellOf, frz, valOf, forL, forK, isiD, isiO, items, itemsS, seqs, lenD, fldD, isIns, isNon, isB, inT, mutOk, mutK, muD, ckS, ckC, okP, isDct, dctOf, Pd.getD, augK, setFK, fput, okP, dmD, low, lows, List.lookup, hd, tl, b8, hn]
    have hdep := Win.dep tr w
    rw [List.length_range] at hdep
    have hwf := w.wf tr (m := ws.length) (fun q hq => List.mem_range.mp hq)
    have hold1 := w.hold tr
    have hold2 : hold ws (iAt C) tr (List.range ws.length) 0 = false := by
      rw [Bool.eq_false_iff]
      intro z
      have h1 := hold_need (pl := pl) tr hwf z
      have h2 := hCN (by omega)
      omega
    have i4 := c_breaks (n + 19) (B := B) (p.ob :: r2) G.wd G.one G.len tr 16 [] (List.range ws.length) (by omega) w (Lot.all _) (by simp) (by rw [List.length_range]; simp; omega)
    have i4 : call prg (n + 37) 18 [tr.enc, .lst (ws.map .str), .lst (B.map .int), .lst []] (p.ob :: r2) = .ok (.bl true) (p.ob :: r2) := i4
    have x4 : exec (cls' (n + 37)) (hd (tl (tl (tl b8)))) [.val (.obj 0), .val (.obj g), .val (.lst (ws.map .str)), .val (.lst (B.map .int)), .val (.lst (C.map .int)), .val (.int N), .val tr.enc, .un, .un] (p.ob :: r2) = .nx [.val (.obj 0), .val (.obj g), .val (.lst (ws.map .str)), .val (.lst (B.map .int)), .val (.lst (C.map .int)), .val (.int N), .val tr.enc, .un, .un] (p.ob :: r2) := by
      obtain ⟨p', a', b', rfl⟩ := node_of_win G.pos G.len w
      unfold Tr.enc at i4 ⊢
      simp [runF, ss, es, ts, gs, execs, ev_var, ev_kon, ev_glb, ev_bin, ev_neg, ev_cmp, ev_chn, ev_and, ev_or, ev_not, ev_ife, ev_call, ev_callk, ev_mth, ev_mk, ev_mkk, ev_b1, ev_b2, ev_isi, ev_ix, ev_sl, ev_lst, ev_tup, ev_newL, ev_newD, ev_lobj, ev_dsp, ev_dm, ev_join, ev_fld, exec_asg, exec_setI, exec_setF, exec_aug, exec_mut, exec_ifs, exec_ret, exec_retn, exec_brk, exec_cont, exec_exp, exec_rai, exec_fg, exec_pas, evT, evs, evTAnd, evTOr, evAnd, evOr, evP, evSrc, bo, bnd, frzAll, esT, esTs, esO, esc, escs, esS, escS, opd, opn, look, peek, ofO, cmpD, truthD, thenK, sweep, outR, outF, fresh, asgK, asgT, asgTs, put, binD, b1D, b2D, ixD, ixN, atI_0, atI_1, atI_2, atI_3, atI_4, eqv, eqvs, shp, shps, setK, setX, setO, setOb, isVar, unset, cellOf, frz, valOf, forL, forK, isiD, isiO, items, itemsS, seqs, lenD, fldD, isIns, isNon, isB, inT, mutOk, mutK, muD, ckS, ckC, okP, isDct, dctOf, Pd.getD, augK, setFK, fput, okP, dmD, low, lows, List.lookup, hd, tl, b8, i4]
    -- the first judging
    obtain ⟨y1, p3, r3, e5, o3, d3, c3, f3⟩ := handed (n + 35) p b r2 (ws.map .str) (by omega) o
    obtain ⟨y2, p4, r4, e6, o4, d4, c4, f4⟩ := handed (n + 35) p3 (b + 1) r3 (B.map .int) (by omega) o3
    have nz1 : ∀ k, y1 = .obj k → ¬ k = 0 := fun k e z => by
      rcases c3 with rfl | ⟨i, rfl, hi, _⟩
      · cases e
      · cases e; simp at hi; omega
    obtain ⟨t5, e7, f5⟩ := c_judge (n + 11) G.wd G.one (by omega) (d3.fr f4 nz1) G.pos G.len d4 tr (by omega) hwf
    rw [hold1] at e7
    obtain ⟨r5, rfl⟩ := Fr.head f5 (o := Pool.ob p4) rfl id
    have e5 : call prg (n + 37) 13 [.obj 0, .lst (ws.map .str)] (p.ob :: r2) = .ok y1 (Pool.ob p3 :: r3) := e5
    have e6 : call prg (n + 37) 13 [.obj 0, .lst (B.map .int)] (Pool.ob p3 :: r3) = .ok y2 (Pool.ob p4 :: r4) := e6
    have e7 : call prg (n + 37) 19 [y1, y2, tr.enc] (Pool.ob p4 :: r4) = .ok (.bl true) (Pool.ob p4 :: r5) := e7
    have x5 : exec (cls' (n + 37)) (hd (tl (tl (tl (tl b8))))) [.val (.obj 0), .val (.obj g), .val (.lst (ws.map .str)), .val (.lst (B.map .int)), .val (.lst (C.map .int)), .val (.int N), .val tr.enc, .un, .un] (p.ob :: r2) = .nx [.val (.obj 0), .val (.obj g), .val (.lst (ws.map .str)), .val (.lst (B.map .int)), .val (.lst (C.map .int)), .val (.int N), .val tr.enc, .un, .un] (Pool.ob p4 :: r5) := by
      generalize tr.enc = d at e7
      simp [runF, ss, es, ts, gs, execs, ev_var, ev_kon, ev_glb, ev_bin, ev_neg, ev_cmp, ev_chn, ev_and, ev_or, ev_not, ev_ife, ev_call, ev_callk, ev_mth, ev_mk, ev_mkk, ev_b1, ev_b2, ev_isi, ev_ix, ev_sl, ev_lst, ev_tup, ev_newL, ev_newD, ev_lobj, ev_dsp, ev_dm, ev_join, ev_fld, exec_asg, exec_setI, exec_setF, exec_aug, exec_mut, exec_ifs, exec_ret, exec_retn, exec_brk, exec_cont, exec_exp, exec_rai, exec_fg, exec_pas, evT, evs, evTAnd, evTOr, evAnd, evOr, evP, evSrc, bo, bnd, frzAll, esT, esTs, esO, esc, escs, esS, escS, opd, opn, look, peek, ofO, cmpD, truthD, thenK, sweep, outR, outF, fresh, asgK, asgT, asgTs, put, binD, b1D, b2D, ixD, ixN, atI_0, atI_1, atI_2, atI_3, atI_4, eqv, eqvs, shp, shps, setK, setX, setO, setOb, isVar, unset, cellOf, frz, valOf, forL, forK, isiD, isiO, items, itemsS, seqs, lenD, fldD, isIns, isNon, isB, inT, mutOk, mutK, muD, ckS, ckC, okP, isDct, dctOf, Pd.getD, augK, setFK, fput, okP, dmD, low, lows, List.lookup, hd, tl, b8, e5, e6, e7]
    -- the second
    obtain ⟨z1, p6, r6, e8, o6, d6, c6, f6⟩ := handed (n + 35) p4 (b + 1 + 1) r5 (ws.map .str) (by omega) o4
    obtain ⟨z2, p7, r7, e9, o7, d7, c7, f7⟩ := handed (n + 35) p6 (b + 1 + 1 + 1) r6 (C.map .int) (by omega) o6
    have nz3 : ∀ k, z1 = .obj k → ¬ k = 0 := fun k e z => by
      rcases c6 with rfl | ⟨i, rfl, hi, _⟩
      · cases e
      · cases e; simp at hi; omega
    have d6' := d6.fr f7 nz3
    obtain ⟨t8, e10, f8⟩ := c_judge (n + 11) G.wd G.one (by omega) d6' hCP hC d7 tr (by omega) hwf
    rw [hold2] at e10
    obtain ⟨r8, rfl⟩ := Fr.head f8 (o := Pool.ob p7) rfl id
    have d6'' := d6'.fr f8 fun _ _ z => z
    have d7'' := d7.fr f8 fun _ _ z => z
    have e8 : call prg (n + 37) 13 [.obj 0, .lst (ws.map .str)] (Pool.ob p4 :: r5) = .ok z1 (Pool.ob p6 :: r6) := e8
    have e9 : call prg (n + 37) 13 [.obj 0, .lst (C.map .int)] (Pool.ob p6 :: r6) = .ok z2 (Pool.ob p7 :: r7) := e9
    have e10 : call prg (n + 37) 19 [z1, z2, tr.enc] (Pool.ob p7 :: r7) = .ok (.bl false) (Pool.ob p7 :: r8) := e10
    have a1 : call prg (n + 37) 15 [.lst (ws.map .str), .lst (ws.map .str)] (Pool.ob p7 :: r8) = .ok (.bl true) (Pool.ob p7 :: r8) := alike_strs (n + 34) ws _ (by omega)
    have a2 : call prg (n + 37) 15 [.lst (C.map .int), .lst (C.map .int)] (Pool.ob p7 :: r8) = .ok (.bl true) (Pool.ob p7 :: r8) := alike_ints (n + 34) C _ (by omega)
    have x6 : exec (cls' (n + 37)) (hd (tl (tl (tl (tl (tl b8)))))) [.val (.obj 0), .val (.obj g), .val (.lst (ws.map .str)), .val (.lst (B.map .int)), .val (.lst (C.map .int)), .val (.int N), .val tr.enc, .un, .un] (Pool.ob p4 :: r5) = .nx [.val (.obj 0), .val (.obj g), .val (.lst (ws.map .str)), .val (.lst (B.map .int)), .val (.lst (C.map .int)), .val (.int N), .val tr.enc, .val z1, .un] (Pool.ob p6 :: r6) := by
      simp [runF, ss, es, ts, gs, execs, ev_var, ev_kon, ev_glb, ev_bin, ev_neg, ev_cmp, ev_chn, ev_and, ev_or, ev_not, ev_ife, ev_call, ev_callk, ev_mth, ev_mk, ev_mkk, ev_b1, ev_b2, ev_isi, ev_ix, ev_sl, ev_lst, ev_tup, ev_newL, ev_newD, ev_lobj, ev_dsp, ev_dm, ev_join, ev_fld, exec_asg, exec_setI, exec_setF, exec_aug, exec_mut, exec_ifs, exec_ret, exec_retn, exec_brk, exec_cont, exec_exp, exec_rai, exec_fg, exec_pas, evT, evs, evTAnd, evTOr, evAnd, evOr, evP, evSrc, bo, bnd, frzAll, esT, esTs, esO, esc, escs, esS, escS, opd, opn, look, peek, ofO, cmpD, truthD, thenK, sweep, outR, outF, fresh, asgK, asgT, asgTs, put, binD, b1D, b2D, ixD, ixN, atI_0, atI_1, atI_2, atI_3, atI_4, eqv, eqvs, shp, shps, setK, setX, setO, setOb, isVar, unset, cellOf, frz, valOf, forL, forK, isiD, isiO, items, itemsS, seqs, lenD, fldD, isIns, isNon, isB, inT, mutOk, mutK, muD, ckS, ckC, okP, isDct, dctOf, Pd.getD, augK, setFK, fput, okP, dmD, low, lows, List.lookup, hd, tl, b8, e8]
    have x7 : exec (cls' (n + 37)) (hd (tl (tl (tl (tl (tl (tl b8))))))) [.val (.obj 0), .val (.obj g), .val (.lst (ws.map .str)), .val (.lst (B.map .int)), .val (.lst (C.map .int)), .val (.int N), .val tr.enc, .val z1, .un] (Pool.ob p6 :: r6) = .nx [.val (.obj 0), .val (.obj g), .val (.lst (ws.map .str)), .val (.lst (B.map .int)), .val (.lst (C.map .int)), .val (.int N), .val tr.enc, .val z1, .val z2] (Pool.ob p7 :: r7) := by
      simp [runF, ss, es, ts, gs, execs, ev_var, ev_kon, ev_glb, ev_bin, ev_neg, ev_cmp, ev_chn, ev_and, ev_or, ev_not, ev_ife, ev_call, ev_callk, ev_mth, ev_mk, ev_mkk, ev_b1, ev_b2, ev_isi, ev_ix, ev_sl, ev_lst, ev_tup, ev_newL, ev_newD, ev_lobj, ev_dsp, ev_dm, ev_join, ev_fld, exec_asg, exec_setI, exec_setF, exec_aug, exec_mut, exec_ifs, exec_ret, exec_retn, exec_brk, exec_cont, exec_exp, exec_rai, exec_fg, exec_pas, evT, evs, evTAnd, evTOr, evAnd, evOr, evP, evSrc, bo, bnd, frzAll, esT, esTs, esO, esc, escs, esS, escS, opd, opn, look, peek, ofO, cmpD, truthD, thenK, sweep, outR, outF, fresh, asgK, asgT, asgTs, put, binD, b1D, b2D, ixD, ixN, atI_0, atI_1, atI_2, atI_3, atI_4, eqv, eqvs, shp, shps, setK, setX, setO, setOb, isVar, unset, cellOf, frz, valOf, forL, forK, isiD, isiO, items, itemsS, seqs, lenD, fldD, isIns, isNon, isB, inT, mutOk, mutK, muD, ckS, ckC, okP, isDct, dctOf, Pd.getD, augK, setFK, fput, okP, dmD, low, lows, List.lookup, hd, tl, b8, e9]
    have x8 : exec (cls' (n + 37)) (hd (tl (tl (tl (tl (tl (tl (tl b8)))))))) [.val (.obj 0), .val (.obj g), .val (.lst (ws.map .str)), .val (.lst (B.map .int)), .val (.lst (C.map .int)), .val (.int N), .val tr.enc, .val z1, .val z2] (Pool.ob p7 :: r7) = .nx [.val (.obj 0), .val (.obj g), .val (.lst (ws.map .str)), .val (.lst (B.map .int)), .val (.lst (C.map .int)), .val (.int N), .val tr.enc, .val z1, .val z2] (Pool.ob p7 :: r8) := by
      generalize tr.enc = d at e10
      simp [runF, ss, es, ts, gs, execs, ev_var, ev_kon, ev_glb, ev_bin, ev_neg, ev_cmp, ev_chn, ev_and, ev_or, ev_not, ev_ife, ev_call, ev_callk, ev_mth, ev_mk, ev_mkk, ev_b1, ev_b2, ev_isi, ev_ix, ev_sl, ev_lst, ev_tup, ev_newL, ev_newD, ev_lobj, ev_dsp, ev_dm, ev_join, ev_fld, exec_asg, exec_setI, exec_setF, exec_aug, exec_mut, exec_ifs, exec_ret, exec_retn, exec_brk, exec_cont, exec_exp, exec_rai, exec_fg, exec_pas, evT, evs, evTAnd, evTOr, evAnd, evOr, evP, evSrc, bo, bnd, frzAll, esT, esTs, esO, esc, escs, esS, escS, opd, opn, look, peek, ofO, cmpD, truthD, thenK, sweep, outR, outF, fresh, asgK, asgT, asgTs, put, binD, b1D, b2D, ixD, ixN, atI_0, atI_1, atI_2, atI_3, atI_4, eqv, eqvs, shp, shps, setK, setX, setO, setOb, isVar, unset, cellOf, frz, valOf, forL, forK, isiD, isiO, items, itemsS, seqs, lenD, fldD, isIns, isNon, isB, inT, mutOk, mutK, muD, ckS, ckC, okP, isDct, dctOf, Pd.getD, augK, setFK, fput, okP, dmD, low, lows, List.lookup, hd, tl, b8, e10]
    have x9 : execs (cls' (n + 37)) (tl (tl (tl (tl (tl (tl (tl (tl b8)))))))) [.val (.obj 0), .val (.obj g), .val (.lst (ws.map .str)), .val (.lst (B.map .int)), .val (.lst (C.map .int)), .val (.int N), .val tr.enc, .val z1, .val z2] (Pool.ob p7 :: r8) = .ret (.bl true) (Pool.ob p7 :: r8) := by
      generalize tr.enc = d
      generalize Pool.ob p7 :: r8 = u at *
      rcases d6'' with rfl | rfl | ⟨j1, rfl, w1⟩ <;> rcases d7'' with rfl | rfl | ⟨j2, rfl, w2⟩
      · simp [runF, ss, es, ts, gs, execs, ev_var, ev_kon, ev_glb, ev_bin, ev_neg, ev_cmp, ev_chn, ev_and, ev_or, ev_not, ev_ife, ev_call, ev_callk, ev_mth, ev_mk, ev_mkk, ev_b1, ev_b2, ev_isi, ev_ix, ev_sl, ev_lst, ev_tup, ev_newL, ev_newD, ev_lobj, ev_dsp, ev_dm, ev_join, ev_fld, exec_asg, exec_setI, exec_setF, exec_aug, exec_mut, exec_ifs, exec_ret, exec_retn, exec_brk, exec_cont, exec_exp, exec_rai, exec_fg, exec_pas, evT, evs, evTAnd, evTOr, evAnd, evOr, evP, evSrc, bo, bnd, frzAll, esT, esTs, esO, esc, escs, esS, escS, opd, opn, look, peek, ofO, cmpD, truthD, thenK, sweep, outR, outF, fresh, asgK, asgT, asgTs, put, binD, b1D, b2D, ixD, ixN, atI_0, atI_1, atI_2, atI_3, atI_4, eqv, eqvs, shp, shps, setK, setX, setO, setOb, isVar, unset, cellOf, frz, valOf, forL, forK, isiD, isiO, items, itemsS, seqs, lenD, fldD, isIns, isNon, isB, inT, mutOk, mutK, muD, ckS, ckC, okP, isDct, dctOf, Pd.getD, augK, setFK, fput, okP, dmD, low, lows, List.lookup, hd, tl, b8, a1, a2]
      · simp [runF, ss, es, ts, gs, execs, ev_var, ev_kon, ev_glb, ev_bin, ev_neg, ev_cmp, ev_chn, ev_and, ev_or, ev_not, ev_ife, ev_call, ev_callk, ev_mth, ev_mk, ev_mkk, ev_b1, ev_b2, ev_isi, ev_ix, ev_sl, ev_lst, ev_tup, ev_newL, ev_newD, ev_lobj, ev_dsp, ev_dm, ev_join, ev_fld, exec_asg, exec_setI, exec_setF, exec_aug, exec_mut, exec_ifs, exec_ret, exec_retn, exec_brk, exec_cont, exec_exp, exec_rai, exec_fg, exec_pas, evT, evs, evTAnd, evTOr, evAnd, evOr, evP, evSrc, bo, bnd, frzAll, esT, esTs, esO, esc, escs, esS, escS, opd, opn, look, peek, ofO, cmpD, truthD, thenK, sweep, outR, outF, fresh, asgK, asgT, asgTs, put, binD, b1D, b2D, ixD, ixN, atI_0, atI_1, atI_2, atI_3, atI_4, eqv, eqvs, shp, shps, setK, setX, setO, setOb, isVar, unset, cellOf, frz, valOf, forL, forK, isiD, isiO, items, itemsS, seqs, lenD, fldD, isIns, isNon, isB, inT, mutOk, mutK, muD, ckS, ckC, okP, isDct, dctOf, Pd.getD, augK, setFK, fput, okP, dmD, low, lows, List.lookup, hd, tl, b8, a1, a2]
      · simp [runF, ss, es, ts, gs, execs, ev_var, ev_kon, ev_glb, ev_bin, ev_neg, ev_cmp, ev_chn, ev_and, ev_or, ev_not, ev_ife, ev_call, ev_callk, ev_mth, ev_mk, ev_mkk, ev_b1, ev_b2, ev_isi, ev_ix, ev_sl, ev_lst, ev_tup, ev_newL, ev_newD, ev_lobj, ev_dsp, ev_dm, ev_join, ev_fld, exec_asg, exec_setI, exec_setF, exec_aug, exec_mut, exec_ifs, exec_ret, exec_retn, exec_brk, exec_cont, exec_exp, exec_rai, exec_fg, exec_pas, evT, evs, evTAnd, evTOr, evAnd, evOr, evP, evSrc, bo, bnd, frzAll, esT, esTs, esO, esc, escs, esS, escS, opd, opn, look, peek, ofO, cmpD, truthD, thenK, sweep, outR, outF, fresh, asgK, asgT, asgTs, put, binD, b1D, b2D, ixD, ixN, atI_0, atI_1, atI_2, atI_3, atI_4, eqv, eqvs, shp, shps, setK, setX, setO, setOb, isVar, unset, cellOf, frz, valOf, forL, forK, isiD, isiO, items, itemsS, seqs, lenD, fldD, isIns, isNon, isB, inT, mutOk, mutK, muD, ckS, ckC, okP, isDct, dctOf, Pd.getD, augK, setFK, fput, okP, dmD, low, lows, List.lookup, hd, tl, b8, a1, a2, w2]
      · simp [runF, ss, es, ts, gs, execs, ev_var, ev_kon, ev_glb, ev_bin, ev_neg, ev_cmp, ev_chn, ev_and, ev_or, ev_not, ev_ife, ev_call, ev_callk, ev_mth, ev_mk, ev_mkk, ev_b1, ev_b2, ev_isi, ev_ix, ev_sl, ev_lst, ev_tup, ev_newL, ev_newD, ev_lobj, ev_dsp, ev_dm, ev_join, ev_fld, exec_asg, exec_setI, exec_setF, exec_aug, exec_mut, exec_ifs, exec_ret, exec_retn, exec_brk, exec_cont, exec_exp, exec_rai, exec_fg, exec_pas, evT, evs, evTAnd, evTOr, evAnd, evOr, evP, evSrc, bo, bnd, frzAll, esT, esTs, esO, esc, escs, esS, escS, opd, opn, look, peek, ofO, cmpD, truthD, thenK, sweep, outR, outF, fresh, asgK, asgT, asgTs, put, binD, b1D, b2D, ixD, ixN, atI_0, atI_1, atI_2, atI_3, atI_4, eqv, eqvs, shp, shps, setK, setX, setO, setOb, isVar, unset, cellOf, frz, valOf, forL, forK, isiD, isiO, items, itemsS, seqs, lenD, fldD, isIns, isNon, isB, inT, mutOk, mutK, muD, ckS, ckC, okP, isDct, dctOf, Pd.getD, augK, setFK, fput, okP, dmD, low, lows, List.lookup, hd, tl, b8, a1, a2]
      · simp [runF, ss, es, ts, gs, execs, ev_var, ev_kon, ev_glb, ev_bin, ev_neg, ev_cmp, ev_chn, ev_and, ev_or, ev_not, ev_ife, ev_call, ev_callk, ev_mth, ev_mk, ev_mkk, ev_b1, ev_b2, ev_isi, ev_ix, ev_sl, ev_lst, ev_tup, ev_newL, ev_newD, ev_lobj, ev_dsp, ev_dm, ev_join, ev_fld, exec_asg, exec_setI, exec_setF, exec_aug, exec_mut, exec_ifs, exec_ret, exec_retn, exec_brk, exec_cont, exec_exp, exec_rai, exec_fg, exec_pas, evT, evs, evTAnd, evTOr, evAnd, evOr, evP, evSrc, bo, bnd, frzAll, esT, esTs, esO, esc, escs, esS, escS, opd, opn, look, peek, ofO, cmpD, truthD, thenK, sweep, outR, outF, fresh, asgK, asgT, asgTs, put, binD, b1D, b2D, ixD, ixN, atI_0, atI_1, atI_2, atI_3, atI_4, eqv, eqvs, shp, shps, setK, setX, setO, setOb, isVar, unset, cellOf, frz, valOf, forL, forK, isiD, isiO, items, itemsS, seqs, lenD, fldD, isIns, isNon, isB, inT, mutOk, mutK, muD, ckS, ckC, okP, isDct, dctOf, Pd.getD, augK, setFK, fput, okP, dmD, low, lows, List.lookup, hd, tl, b8, a1, a2]
      · simp [runF, ss, es, ts, gs, execs, ev_var, ev_kon, ev_glb, ev_bin, ev_neg, ev_cmp, ev_chn, ev_and, ev_or, ev_not, ev_ife, ev_call, ev_callk, ev_mth, ev_mk, ev_mkk, ev_b1, ev_b2, ev_isi, ev_ix, ev_sl, ev_lst, ev_tup, ev_newL, ev_newD, ev_lobj, ev_dsp, ev_dm, ev_join, ev_fld, exec_asg, exec_setI, exec_setF, exec_aug, exec_mut, exec_ifs, exec_ret, exec_retn, exec_brk, exec_cont, exec_exp, exec_rai, exec_fg, exec_pas, evT, evs, evTAnd, evTOr, evAnd, evOr, evP, evSrc, bo, bnd, frzAll, esT, esTs, esO, esc, escs, esS, escS, opd, opn, look, peek, ofO, cmpD, truthD, thenK, sweep, outR, outF, fresh, asgK, asgT, asgTs, put, binD, b1D, b2D, ixD, ixN, atI_0, atI_1, atI_2, atI_3, atI_4, eqv, eqvs, shp, shps, setK, setX, setO, setOb, isVar, unset, cellOf, frz, valOf, forL, forK, isiD, isiO, items, itemsS, seqs, lenD, fldD, isIns, isNon, isB, inT, mutOk, mutK, muD, ckS, ckC, okP, isDct, dctOf, Pd.getD, augK, setFK, fput, okP, dmD, low, lows, List.lookup, hd, tl, b8, a1, a2, w2]
      · simp [runF, ss, es, ts, gs, execs, ev_var, ev_kon, ev_glb, ev_bin, ev_neg, ev_cmp, ev_chn, ev_and, ev_or, ev_not, ev_ife, ev_call, ev_callk, ev_mth, ev_mk, ev_mkk, ev_b1, ev_b2, ev_isi, ev_ix, ev_sl, ev_lst, ev_tup, ev_newL, ev_newD, ev_lobj, ev_dsp, ev_dm, ev_join, ev_fld, exec_asg, exec_setI, exec_setF, exec_aug, exec_mut, exec_ifs, exec_ret, exec_retn, exec_brk, exec_cont, exec_exp, exec_rai, exec_fg, exec_pas, evT, evs, evTAnd, evTOr, evAnd, evOr, evP, evSrc, bo, bnd, frzAll, esT, esTs, esO, esc, escs, esS, escS, opd, opn, look, peek, ofO, cmpD, truthD, thenK, sweep, outR, outF, fresh, asgK, asgT, asgTs, put, binD, b1D, b2D, ixD, ixN, atI_0, atI_1, atI_2, atI_3, atI_4, eqv, eqvs, shp, shps, setK, setX, setO, setOb, isVar, unset, cellOf, frz, valOf, forL, forK, isiD, isiO, items, itemsS, seqs, lenD, fldD, isIns, isNon, isB, inT, mutOk, mutK, muD, ckS, ckC, okP, isDct, dctOf, Pd.getD, augK, setFK, fput, okP, dmD, low, lows, List.lookup, hd, tl, b8, a1, a2, w1]
      · simp [runF, ss, es, ts, gs, execs, ev_var, ev_kon, ev_glb, ev_bin, ev_neg, ev_cmp, ev_chn, ev_and, ev_or, ev_not, ev_ife, ev_call, ev_callk, ev_mth, ev_mk, ev_mkk, ev_b1, ev_b2, ev_isi, ev_ix, ev_sl, ev_lst, ev_tup, ev_newL, ev_newD, ev_lobj, ev_dsp, ev_dm, ev_join, ev_fld, exec_asg, exec_setI, exec_setF, exec_aug, exec_mut, exec_ifs, exec_ret, exec_retn, exec_brk, exec_cont, exec_exp, exec_rai, exec_fg, exec_pas, evT, evs, evTAnd, evTOr, evAnd, evOr, evP, evSrc, bo, bnd, frzAll, esT, esTs, esO, esc, escs, esS, escS, opd, opn, look, peek, ofO, cmpD, truthD, thenK, sweep, outR, outF, fresh, asgK, asgT, asgTs, put, binD, b1D, b2D, ixD, ixN, atI_0, atI_1, atI_2, atI_3, atI_4, eqv, eqvs, shp, shps, setK, setX, setO, setOb, isVar, unset, cellOf, frz, valOf, forL, forK, isiD, isiO, items, itemsS, seqs, lenD, fldD, isIns, isNon, isB, inT, mutOk, mutK, muD, ckS, ckC, okP, isDct, dctOf, Pd.getD, augK, setFK, fput, okP, dmD, low, lows, List.lookup, hd, tl, b8, a1, a2, w1]
      · simp [runF, ss, es, ts, gs, execs, ev_var, ev_kon, ev_glb, ev_bin, ev_neg, ev_cmp, ev_chn, ev_and, ev_or, ev_not, ev_ife, ev_call, ev_callk, ev_mth, ev_mk, ev_mkk, ev_b1, ev_b2, ev_isi, ev_ix, ev_sl, ev_lst, ev_tup, ev_newL, ev_newD, ev_lobj, ev_dsp, ev_dm, ev_join, ev_fld, exec_asg, exec_setI, exec_setF, exec_aug, exec_mut, exec_ifs, exec_ret, exec_retn, exec_brk, exec_cont, exec_exp, exec_rai, exec_fg, exec_pas, evT, evs, evTAnd, evTOr, evAnd, evOr, evP, evSrc, bo, bnd, frzAll, esT, esTs, esO, esc, escs, esS, escS, opd, opn, look, peek, ofO, cmpD, truthD, thenK, sweep, outR, outF, fresh, asgK, asgT, asgTs, put, binD, b1D, b2D, ixD, ixN, atI_0, atI_1, atI_2, atI_3, atI_4, eqv, eqvs, shp, shps, setK, setX, setO, setOb, isVar, unset, cellOf, frz, valOf, forL, forK, isiD, isiO, items, itemsS, seqs, lenD, fldD, isIns, isNon, isB, inT, mutOk, mutK, muD, ckS, ckC, okP, isDct, dctOf, Pd.getD, augK, setFK, fput, okP, dmD, low, lows, List.lookup, hd, tl, b8, a1, a2, w1, w2]
    have F : Fr (fun i => i = 0) (p.ob :: r2) (Pool.ob p7 :: r8) := ((f3.trans f4).trans (f5.mono fun _ h => h.elim)).trans ((f6.trans f7).trans (f8.mono fun _ h => h.elim))
    refine ⟨p7, r8, ?_, o7.mono (by omega), G2.fr F hg0 hk0, (f12.mono fun _ h => .inr h).trans (F.mono fun _ h => .inl h)⟩
    rw [execs_step x3, execs_step x4, execs_step x5, execs_step x6, execs_step x7, execs_step x8, x9]
end K85
set_option maxRecDepth 100000
set_option linter.all false
set_option autoImplicit false
/-! the scene -/
namespace K85
open Pd Pt
abbrev NA (ws : List (List Nat)) (B : List Int) (pl : Nat) : Int := Need ws (iAt B) pl (List.range ws.length)
theorem alike_tup (n : Nat) (xs : List D) (t : T) (hl : xs.length ≤ 1000) (h : ∀ x ∈ xs, call prg (n + 2) 15 [x, x] t = .ok (.bl true) t) : call prg (n + 3) 15 [.tup xs, .tup xs] t = .ok (.bl true) t := by
  rw [cS 15 f15 rfl]
  have hr := range0_LN xs.length
  have h3 : (-1000000 : Int) ≤ (xs.length : Int) := by omega
  have h4 : (xs.length : Int) ≤ 1000000 := by omega
  have e : ev (cls' (n + 2)) (.comp (.rng (.b1 .len (.var 1))) (.nm 2) [2] .yes (.call 15 (es [(.ix (.var 0) (.var 2)), (.ix (.var 1) (.var 2))]))) [.val (.tup xs), .val (.tup xs), .un] t = .ok (.lst ((List.range xs.length).map fun _ => .bl true)) t := by
    refine comp_LN _ _ (by simp [runF, ss, es, ts, gs, execs, ev_var, ev_kon, ev_glb, ev_bin, ev_neg, ev_cmp, ev_chn, ev_and, ev_or, ev_not, ev_ife, ev_call, ev_callk, ev_mth, ev_mk, ev_mkk, ev_b1, ev_b2, ev_isi, ev_ix, ev_sl, ev_lst, ev_tup, ev_newL, ev_newD, ev_lobj, ev_dsp, ev_dm, ev_join, ev_fld, exec_asg, exec_setI, exec_setF, exec_aug, exec_mut, exec_ifs, exec_ret, exec_retn, exec_brk, exec_cont, exec_exp, exec_rai, exec_fg, exec_pas, evT, evs, evTAnd, evTOr, evAnd, evOr, evP, evSrc, bo, bnd, frzAll, esT, esTs, esO, esc, escs, esS, escS, opd, opn, look, peek, ofO, cmpD, truthD, thenK, sweep, outR, outF, fresh, asgK, asgT, asgTs, put, binD, b1D, b2D, ixD, ixN, atI_0, atI_1, atI_2, atI_3, atI_4, eqv, eqvs, shp, shps, setK, setX, setO, setOb, isVar, unset, cellOf, frz, valOf, forL, forK, isiD, isiO, items, itemsS, seqs, lenD, fldD, isIns, isNon, isB, inT, mutOk, mutK, muD, ckS, ckC, okP, isDct, dctOf, Pd.getD, augK, setFK, fput, okP, dmD, low, lows, List.lookup, h3, h4, hr]) fun q hq => ?_
    have hq := List.mem_range.mp hq
    have a1 : atI xs (q : Int) = some xs[q] := by rw [atI_nat, List.getElem?_eq_getElem hq]
    have i1 := h _ (List.getElem_mem hq)
    generalize xs[q] = x at a1 i1
    simp [turnC, runF, ss, es, ts, gs, execs, ev_var, ev_kon, ev_glb, ev_bin, ev_neg, ev_cmp, ev_chn, ev_and, ev_or, ev_not, ev_ife, ev_call, ev_callk, ev_mth, ev_mk, ev_mkk, ev_b1, ev_b2, ev_isi, ev_ix, ev_sl, ev_lst, ev_tup, ev_newL, ev_newD, ev_lobj, ev_dsp, ev_dm, ev_join, ev_fld, exec_asg, exec_setI, exec_setF, exec_aug, exec_mut, exec_ifs, exec_ret, exec_retn, exec_brk, exec_cont, exec_exp, exec_rai, exec_fg, exec_pas, evT, evs, evTAnd, evTOr, evAnd, evOr, evP, evSrc, bo, bnd, frzAll, esT, esTs, esO, esc, escs, esS, escS, opd, opn, look, peek, ofO, cmpD, truthD, thenK, sweep, outR, outF, fresh, asgK, asgT, asgTs, put, binD, b1D, b2D, ixD, ixN, atI_0, atI_1, atI_2, atI_3, atI_4, eqv, eqvs, shp, shps, setK, setX, setO, setOb, isVar, unset, cellOf, frz, valOf, forL, forK, isiD, isiO, items, itemsS, seqs, lenD, fldD, isIns, isNon, isB, inT, mutOk, mutK, muD, ckS, ckC, okP, isDct, dctOf, Pd.getD, augK, setFK, fput, okP, dmD, low, lows, List.lookup, DN, a1, i1]
  have a := bools_rep (List.range xs.length)
  simp only [es] at e
  simp [runF, ss, es, ts, gs, execs, ev_var, ev_kon, ev_glb, ev_bin, ev_neg, ev_cmp, ev_chn, ev_and, ev_or, ev_not, ev_ife, ev_call, ev_callk, ev_mth, ev_mk, ev_mkk, ev_b1, ev_b2, ev_isi, ev_ix, ev_sl, ev_lst, ev_tup, ev_newL, ev_newD, ev_lobj, ev_dsp, ev_dm, ev_join, ev_fld, exec_asg, exec_setI, exec_setF, exec_aug, exec_mut, exec_ifs, exec_ret, exec_retn, exec_brk, exec_cont, exec_exp, exec_rai, exec_fg, exec_pas, evT, evs, evTAnd, evTOr, evAnd, evOr, evP, evSrc, bo, bnd, frzAll, esT, esTs, esO, esc, escs, esS, escS, opd, opn, look, peek, ofO, cmpD, truthD, thenK, sweep, outR, outF, fresh, asgK, asgT, asgTs, put, binD, b1D, b2D, ixD, ixN, atI_0, atI_1, atI_2, atI_3, atI_4, eqv, eqvs, shp, shps, setK, setX, setO, setOb, isVar, unset, cellOf, frz, valOf, forL, forK, isiD, isiO, items, itemsS, seqs, lenD, fldD, isIns, isNon, isB, inT, mutOk, mutK, muD, ckS, ckC, okP, isDct, dctOf, Pd.getD, augK, setFK, fput, okP, dmD, low, lows, List.lookup, f15, b15, e, a]
theorem mkT (n : Nat) {pl : Nat} {ws : List (List Nat)} {B : List Int} {x y : D} (t : T) (hw : Wd ws pl) (h1 : 1 ≤ ws.length) (h9 : ws.length ≤ 16) (hpl : pl ≤ 1000) (hx : Hd (ws.map .str) x t) (hP : ∀ b ∈ B, 0 ≤ b) (hB : B.length = ws.length) (hy : Hd (B.map .int) y t) :
    ∃ u d t', mkC prg (fun j as t => call prg (n + 37) j as t) 0 [x, y] t = .ok (.obj t.length) u ∧ (∃ fs, u[t.length]? = some (.ins 0 fs)) ∧ call prg (n + 37) 16 [.obj t.length] u = .ok d t' ∧ (NA ws B pl ≤ 0 → d = .non) ∧ (0 < NA ws B pl → ∃ tr, d = Tr.enc tr ∧ Win ws (iAt B) pl tr (List.range ws.length) 0) := by
  have e1 := c_init (n + 32) hw h1 hx hP hB hy
  have hg : (t ++ [gObj ws B (t.length + 1), .dct true []])[t.length]? = some (gObj ws B (t.length + 1)) := by simp
  have hk : (t ++ [gObj ws B (t.length + 1), .dct true []])[t.length + 1]? = some (.dct true []) := by
    rw [List.getElem?_append_right (by omega)]; simp
  have G : Gm t.length (t.length + 1) ws B pl (t ++ [gObj ws B (t.length + 1), .dct true []]) := ⟨⟨hg, by omega, by simp⟩, ⟨[], hk, Mm.nil ws B pl⟩, hw, hpl, h1, h9, hB, hP⟩
  obtain ⟨d, t', e2, _, _, h3, h4⟩ := c_tree n G
  exact ⟨_, d, t', e1, ⟨_, hg⟩, e2, h3, h4⟩
def cubeW : List (List Nat) := [[48, 48, 48], [48, 48, 49], [48, 49, 48], [48, 49, 49], [49, 48, 48], [49, 48, 49], [49, 49, 48], [49, 49, 49]]
def ladW : List (List Nat) := [[48, 48, 48], [48, 48, 49], [48, 49, 49], [49, 49, 49]]
def twoW : List (List Nat) := [[48], [49]]
theorem wd_of {ws : List (List Nat)} {pl : Nat} (h1 : ∀ w ∈ ws, w.length = pl) (h2 : ∀ w ∈ ws, ∀ x ∈ w, x = 48 ∨ x = 49) : Wd ws pl := ⟨h1, h2⟩
theorem n1 : 0 < NA cubeW [2, 2, 2, 2, 2, 2, 2, 2] 3 := by decide +kernel
theorem n2 : NA cubeW [2, 2, 2, 2, 2, 2, 2, 3] 3 ≤ 0 := by decide +kernel
theorem n3 : 0 < NA ladW [1, 1, 1, 1] 3 := by decide +kernel
theorem n4 : NA ladW [1, 2, 1, 1] 3 ≤ 0 := by decide +kernel
theorem n5 : NA [[]] [0] 0 ≤ 0 := by decide +kernel
theorem n6 : 0 < NA twoW [0, 0] 1 := by decide +kernel
theorem one_leaf {ws : List (List Nat)} {B : Nat → Int} {pl q : Nat} {e : Int} {tr : Tr} (h : Win ws B pl tr [q] e) : tr = .leaf q := by
  cases tr with
  | leaf r => rw [List.mem_singleton.mp h.1]
  | node p a b =>
    have h1 := h.2.1
    have h2 := up_lo_len ws p [q]
    have h3 := List.length_pos_iff.mpr h1.1
    have h4 := List.length_pos_iff.mpr h1.2
    simp at h2; omega
theorem two_tree {tr : Tr} (h : Win twoW (iAt [0, 0]) 1 tr (List.range twoW.length) 0) : tr = .node 0 (.leaf 0) (.leaf 1) := by
  cases tr with
  | leaf q =>
    have h1 := h.2
    have h2 := List.mem_range.mp h.1
    have h2 : q < 2 := h2
    have : q = 0 ∨ q = 1 := by omega
    rcases this with rfl | rfl
    · exact absurd h1 (by decide)
    · exact absurd h1 (by decide)
  | node p a b =>
    have hp : p = 0 := by have := h.1; omega
    subst hp
    have ha : Win twoW (iAt [0, 0]) 1 a [0] 1 := h.2.2.1
    have hb : Win twoW (iAt [0, 0]) 1 b [1] 1 := h.2.2.2
    rw [one_leaf ha, one_leaf hb]
theorem isTup {tr : Tr} {ws : List (List Nat)} {B : List Int} {pl : Nat} (hP : ∀ b ∈ B, 0 ≤ b) (hB : B.length = ws.length) (h : Win ws (iAt B) pl tr (List.range ws.length) 0) : ∃ xs, tr.enc = .tup xs := by
  obtain ⟨p, a, b, rfl⟩ := node_of_win hP hB h
  exact ⟨_, rfl⟩
def nthS : Nat → Ss → S
  | 0, s => hd s
  | n + 1, s => nthS n (tl s)
def drpS : Nat → Ss → Ss
  | 0, s => s
  | n + 1, s => drpS n (tl s)
theorem Hd.tupI (vs : List D) (t : T) : Hd vs (.tup vs) t := .inl rfl
theorem Hd.lstI (vs : List D) (t : T) : Hd vs (.lst vs) t := .inr (.inl rfl)
theorem runF2 (cl : Calls) (f : Fn) (as : List D) (t : T) (b : Ss) (ρ : Env) (h1 : as.length = f.np) (h2 : f.gc = 2) (h3 : lows 0 as = true) (h4 : f.body = b) (h5 : as.map .val ++ List.replicate (f.N.length - as.length) .un = ρ) : runF cl f as t = outF t (execs cl b ρ []) := by
  unfold runF
  rw [if_pos h1, h2]
  simp only [h3, if_true]
  rw [h4, h5]
theorem c_scene (n : Nat) (t : T) : call prg (n + 38) 9 [] t = .ok (.bl true) t := by
  rw [cS 9 f9 rfl]
  have e0 := runF2 (cls' (n + 37)) f9 [] t b9 [.un, .un, .un, .un, .un] rfl rfl rfl rfl rfl
  have wc : Wd cubeW 3 := wd_of (by decide) (by decide)
  have wl : Wd ladW 3 := wd_of (by decide) (by decide)
  have w2 : Wd twoW 1 := wd_of (by decide) (by decide)
  have w0 : Wd [[]] 0 := wd_of (by decide) (by decide)
  -- the first tree
  obtain ⟨u1, d1, t1, m1, ⟨fs1, q1⟩, c1, _, k1⟩ := mkT n (ws := cubeW) (B := [2, 2, 2, 2, 2, 2, 2, 2]) (x := .tup (cubeW.map .str)) (y := .lst [.int 2, .int 2, .int 2, .int 2, .int 2, .int 2, .int 2, .int 2]) [] wc (by decide) (by decide) (by decide) (.inl rfl) (by decide) rfl (.inr (.inl rfl))
  obtain ⟨tr1, rfl, v1⟩ := k1 n1
  have br1 := c_breaks (n + 19) (B := [2, 2, 2, 2, 2, 2, 2, 2]) t1 wc (by decide) rfl tr1 16 [] (List.range cubeW.length) (by have := Win.dep tr1 v1; rw [List.length_range] at this; have : cubeW.length = 8 := rfl; omega) v1 (Lot.all _) (by simp) (by decide)
  have br1 : call prg (n + 37) 18 [tr1.enc, .lst (cubeW.map .str), .lst [.int 2, .int 2, .int 2, .int 2, .int 2, .int 2, .int 2, .int 2], .lst []] t1 = .ok (.bl true) t1 := br1
  obtain ⟨xs1, hx1⟩ := isTup (by decide) rfl v1
  rw [hx1] at c1 br1
  clear k1 v1 hx1
  -- the second
  obtain ⟨u2, d2, t2, m2, ⟨fs2, q2⟩, c2, k2, _⟩ := mkT n (ws := cubeW) (B := [2, 2, 2, 2, 2, 2, 2, 3]) (x := .lst (cubeW.map .str)) (y := .lst [.int 2, .int 2, .int 2, .int 2, .int 2, .int 2, .int 2, .int 3]) t1 wc (by decide) (by decide) (by decide) (.inr (.inl rfl)) (by decide) rfl (.inr (.inl rfl))
  have k2 := k2 n2
  subst k2
  -- the third
  obtain ⟨u3, d3, t3, m3, ⟨fs3, q3⟩, c3, _, k3⟩ := mkT n (ws := ladW) (B := [1, 1, 1, 1]) (x := .tup (ladW.map .str)) (y := .tup [.int 1, .int 1, .int 1, .int 1]) t2 wl (by decide) (by decide) (by decide) (.inl rfl) (by decide) rfl (.inl rfl)
  obtain ⟨tr3, rfl, v3⟩ := k3 n3
  have br3 := c_breaksG (n + 19) (B := [1, 1, 1, 1]) t3 wl (by decide) rfl _ _ (.inr rfl) (.inr rfl) tr3 16 [] (List.range ladW.length) (by have := Win.dep tr3 v3; rw [List.length_range] at this; have : ladW.length = 4 := rfl; omega) v3 (Lot.all _) (by simp) (by decide)
  have br3 : call prg (n + 37) 18 [tr3.enc, .tup (ladW.map .str), .tup [.int 1, .int 1, .int 1, .int 1], .lst []] t3 = .ok (.bl true) t3 := br3
  clear k3 v3
  generalize tr3.enc = d3 at c3 br3
  obtain ⟨u4, d4, t4, m4, ⟨fs4, q4⟩, c4, k4, _⟩ := mkT n (ws := ladW) (B := [1, 2, 1, 1]) (x := .tup (ladW.map .str)) (y := .tup [.int 1, .int 2, .int 1, .int 1]) t3 wl (by decide) (by decide) (by decide) (.inl rfl) (by decide) rfl (.inl rfl)
  have k4 := k4 n4
  subst k4
  obtain ⟨u5, d5, t5, m5, ⟨fs5, q5⟩, c5, k5, _⟩ := mkT n (ws := [[]]) (B := [0]) (x := .tup [.str []]) (y := .tup [.int 0]) t4 w0 (by decide) (by decide) (by decide) (.inl rfl) (by decide) rfl (.inl rfl)
  have k5 := k5 n5
  subst k5
  -- the judgings
  obtain ⟨t6, j6, _⟩ := c_judge (n + 11) (ws := twoW) (B := [0, 0]) (t := t5) (x := .tup [.str [48], .str [49]]) (y := .lst [.int 0, .int 0]) w2 (by decide) (by decide) (.inl rfl) (by decide) rfl (.inr (.inl rfl)) (.node 0 (.leaf 0) (.leaf 1)) (by decide) ⟨by decide, by show 0 < 2; decide, by show 1 < 2; decide⟩
  have j6 : call prg (n + 37) 19 [.tup [.str [48], .str [49]], .lst [.int 0, .int 0], .tup [.int 0, .int 0, .int 1]] t5 = .ok (.bl true) t6 := j6
  obtain ⟨t7, j7, _⟩ := c_judge (n + 11) (ws := twoW) (B := [0, 1]) (t := t6) (x := .tup [.str [48], .str [49]]) (y := .tup [.int 0, .int 1]) w2 (by decide) (by decide) (.inl rfl) (by decide) rfl (.inl rfl) (.node 0 (.leaf 0) (.leaf 1)) (by decide) ⟨by decide, by show 0 < 2; decide, by show 1 < 2; decide⟩
  have j7 : call prg (n + 37) 19 [.tup [.str [48], .str [49]], .tup [.int 0, .int 1], .tup [.int 0, .int 0, .int 1]] t6 = .ok (.bl false) t7 := j7
  obtain ⟨u8, d8, t8, m8, ⟨fs8, q8⟩, c8, _, k8⟩ := mkT n (ws := twoW) (B := [0, 0]) (x := .lst [.str [48], .str [49]]) (y := .tup [.int 0, .int 0]) t7 w2 (by decide) (by decide) (by decide) (.inr (.inl rfl)) (by decide) rfl (.inl rfl)
  obtain ⟨tr8, rfl, v8⟩ := k8 n6
  rw [two_tree v8] at c8
  have c8 : call prg (n + 37) 16 [.obj t7.length] u8 = .ok (.tup [.int 0, .int 0, .int 1]) t8 := c8
  clear k8 v8
  have al : call prg (n + 37) 15 [.lst [.bl true, .bl false, .tup [.int 0, .int 0, .int 1]], .lst [.bl true, .bl false, .tup [.int 0, .int 0, .int 1]]] t8 = .ok (.bl true) t8 :=
    alike_lst (n + 34) _ t8 (by decide) fun x hx => by
      rcases List.mem_cons.mp hx with rfl | hx
      · exact alike_bl (n + 35) true t8
      rcases List.mem_cons.mp hx with rfl | hx
      · exact alike_bl (n + 35) false t8
      rw [List.mem_singleton.mp hx]
      exact alike_tup (n + 33) _ t8 (by decide) fun y hy => by
        rcases List.mem_cons.mp hy with rfl | hy
        · exact alike_int (n + 33) 0 t8
        rcases List.mem_cons.mp hy with rfl | hy
        · exact alike_int (n + 33) 0 t8
        rw [List.mem_singleton.mp hy]
        exact alike_int (n + 33) 1 t8
  have hb : b9 = .cons (nthS 0 b9) (.cons (nthS 1 b9) (.cons (nthS 2 b9) (.cons (nthS 3 b9) (.cons (nthS 4 b9) (.cons (nthS 5 b9) (.cons (nthS 6 b9) (.cons (nthS 7 b9) (.cons (nthS 8 b9) (.cons (nthS 9 b9) .nil))))))))) := rfl
  generalize hcd : cubeW.map D.str = cd at *
  generalize hld : ladW.map D.str = ld at *
  have hcd8 : cd.length = 8 := by rw [← hcd]; rfl
  have ec : ∀ (c1 c2 c3 : Cell) (t : T), ev (cls' (n + 37)) (.comp (.seq (.var 0)) (.nm 4) [4] .yes (.kon (.int 2))) [.own cd, c1, c2, c3, .un] t = .ok (.lst [.int 2, .int 2, .int 2, .int 2, .int 2, .int 2, .int 2, .int 2]) t := fun c1 c2 c3 t => by
    rw [← hcd]; rfl
  rw [e0, hb]
  rw [execs_step (ρ' := [.own cd, .un, .un, .un, .un]) (t' := []) (by rw [← hcd]; rfl)]
  rw [execs_step (ρ' := [.own cd, .val (.tup xs1), .un, .un, .un]) (t' := t1) (by
    have q1 := q1
    have c1 := c1
    have m1 : mkC prg (fun j as t => call prg (n + 37) j as t) 0 [.tup cd, .lst [.int 2, .int 2, .int 2, .int 2, .int 2, .int 2, .int 2, .int 2]] [] = .ok (.obj 0) u1 := m1
    have q1 : u1[0]? = some (.ins 0 fs1) := q1
    have c1 : call prg (n + 37) 16 [.obj 0] u1 = .ok (.tup xs1) t1 := c1
    simp [runF, ss, es, ts, gs, execs, ev_var, ev_kon, ev_glb, ev_bin, ev_neg, ev_cmp, ev_chn, ev_and, ev_or, ev_not, ev_ife, ev_call, ev_callk, ev_mth, ev_mk, ev_mkk, ev_b1, ev_b2, ev_isi, ev_ix, ev_sl, ev_lst, ev_tup, ev_newL, ev_newD, ev_lobj, ev_dsp, ev_dm, ev_join, ev_fld, exec_asg, exec_setI, exec_setF, exec_aug, exec_mut, exec_ifs, exec_ret, exec_retn, exec_brk, exec_cont, exec_exp, exec_rai, exec_fg, exec_pas, evT, evs, evTAnd, evTOr, evAnd, evOr, evP, evSrc, bo, bnd, frzAll, esT, esTs, esO, esc, escs, esS, escS, opd, opn, look, peek, ofO, cmpD, truthD, thenK, sweep, outR, outF, fresh, asgK, asgT, asgTs, put, binD, b1D, b2D, ixD, ixN, atI_0, atI_1, atI_2, atI_3, atI_4, eqv, eqvs, shp, shps, setK, setX, setO, setOb, isVar, unset, cellOf, frz, valOf, forL, forK, isiD, isiO, items, itemsS, seqs, lenD, fldD, isIns, isNon, isB, inT, mutOk, mutK, muD, ckS, ckC, okP, isDct, dctOf, Pd.getD, augK, setFK, fput, okP, dmD, low, lows, List.lookup, nthS, hd, tl, b9, ec, m1, q1, c1])]
  rw [execs_step (ρ' := [.val (.lst cd), .val (.tup xs1), .un, .un, .un]) (t' := t1) (by
    have ec' : ev (cls' (n + 37)) (.comp (.seq (.var 0)) (.nm 4) [4] .yes (.kon (.int 2))) [.val (.lst cd), .val (.tup xs1), .un, .un, .un] t1 = .ok (.lst [.int 2, .int 2, .int 2, .int 2, .int 2, .int 2, .int 2, .int 2]) t1 := by rw [← hcd]; rfl
    simp [runF, ss, es, ts, gs, execs, ev_var, ev_kon, ev_glb, ev_bin, ev_neg, ev_cmp, ev_chn, ev_and, ev_or, ev_not, ev_ife, ev_call, ev_callk, ev_mth, ev_mk, ev_mkk, ev_b1, ev_b2, ev_isi, ev_ix, ev_sl, ev_lst, ev_tup, ev_newL, ev_newD, ev_lobj, ev_dsp, ev_dm, ev_join, ev_fld, exec_asg, exec_setI, exec_setF, exec_aug, exec_mut, exec_ifs, exec_ret, exec_retn, exec_brk, exec_cont, exec_exp, exec_rai, exec_fg, exec_pas, evT, evs, evTAnd, evTOr, evAnd, evOr, evP, evSrc, bo, bnd, frzAll, esT, esTs, esO, esc, escs, esS, escS, opd, opn, look, peek, ofO, cmpD, truthD, thenK, sweep, outR, outF, fresh, asgK, asgT, asgTs, put, binD, b1D, b2D, ixD, ixN, atI_0, atI_1, atI_2, atI_3, atI_4, eqv, eqvs, shp, shps, setK, setX, setO, setOb, isVar, unset, cellOf, frz, valOf, forL, forK, isiD, isiO, items, itemsS, seqs, lenD, fldD, isIns, isNon, isB, inT, mutOk, mutK, muD, ckS, ckC, okP, isDct, dctOf, Pd.getD, augK, setFK, fput, okP, dmD, low, lows, List.lookup, nthS, hd, tl, b9, ec', br1])]
  rw [execs_step (ρ' := [.val (.lst cd), .val (.tup xs1), .un, .un, .un]) (t' := t2) (by
    simp [runF, ss, es, ts, gs, execs, ev_var, ev_kon, ev_glb, ev_bin, ev_neg, ev_cmp, ev_chn, ev_and, ev_or, ev_not, ev_ife, ev_call, ev_callk, ev_mth, ev_mk, ev_mkk, ev_b1, ev_b2, ev_isi, ev_ix, ev_sl, ev_lst, ev_tup, ev_newL, ev_newD, ev_lobj, ev_dsp, ev_dm, ev_join, ev_fld, exec_asg, exec_setI, exec_setF, exec_aug, exec_mut, exec_ifs, exec_ret, exec_retn, exec_brk, exec_cont, exec_exp, exec_rai, exec_fg, exec_pas, evT, evs, evTAnd, evTOr, evAnd, evOr, evP, evSrc, bo, bnd, frzAll, esT, esTs, esO, esc, escs, esS, escS, opd, opn, look, peek, ofO, cmpD, truthD, thenK, sweep, outR, outF, fresh, asgK, asgT, asgTs, put, binD, b1D, b2D, ixD, ixN, atI_0, atI_1, atI_2, atI_3, atI_4, eqv, eqvs, shp, shps, setK, setX, setO, setOb, isVar, unset, cellOf, frz, valOf, forL, forK, isiD, isiO, items, itemsS, seqs, lenD, fldD, isIns, isNon, isB, inT, mutOk, mutK, muD, ckS, ckC, okP, isDct, dctOf, Pd.getD, augK, setFK, fput, okP, dmD, low, lows, List.lookup, nthS, hd, tl, b9, m2, q2, c2])]
  rw [execs_step (ρ' := [.val (.lst cd), .val (.tup xs1), .val (.tup ld), .un, .un]) (t' := t2) (by
    rw [← hld]
    simp [runF, ss, es, ts, gs, execs, ev_var, ev_kon, ev_glb, ev_bin, ev_neg, ev_cmp, ev_chn, ev_and, ev_or, ev_not, ev_ife, ev_call, ev_callk, ev_mth, ev_mk, ev_mkk, ev_b1, ev_b2, ev_isi, ev_ix, ev_sl, ev_lst, ev_tup, ev_newL, ev_newD, ev_lobj, ev_dsp, ev_dm, ev_join, ev_fld, exec_asg, exec_setI, exec_setF, exec_aug, exec_mut, exec_ifs, exec_ret, exec_retn, exec_brk, exec_cont, exec_exp, exec_rai, exec_fg, exec_pas, evT, evs, evTAnd, evTOr, evAnd, evOr, evP, evSrc, bo, bnd, frzAll, esT, esTs, esO, esc, escs, esS, escS, opd, opn, look, peek, ofO, cmpD, truthD, thenK, sweep, outR, outF, fresh, asgK, asgT, asgTs, put, binD, b1D, b2D, ixD, ixN, atI_0, atI_1, atI_2, atI_3, atI_4, eqv, eqvs, shp, shps, setK, setX, setO, setOb, isVar, unset, cellOf, frz, valOf, forL, forK, isiD, isiO, items, itemsS, seqs, lenD, fldD, isIns, isNon, isB, inT, mutOk, mutK, muD, ckS, ckC, okP, isDct, dctOf, Pd.getD, augK, setFK, fput, okP, dmD, low, lows, List.lookup, nthS, hd, tl, b9, ladW])]
  rw [execs_step (ρ' := [.val (.lst cd), .val (.tup xs1), .val (.tup ld), .un, .un]) (t' := t3) (by
    simp [runF, ss, es, ts, gs, execs, ev_var, ev_kon, ev_glb, ev_bin, ev_neg, ev_cmp, ev_chn, ev_and, ev_or, ev_not, ev_ife, ev_call, ev_callk, ev_mth, ev_mk, ev_mkk, ev_b1, ev_b2, ev_isi, ev_ix, ev_sl, ev_lst, ev_tup, ev_newL, ev_newD, ev_lobj, ev_dsp, ev_dm, ev_join, ev_fld, exec_asg, exec_setI, exec_setF, exec_aug, exec_mut, exec_ifs, exec_ret, exec_retn, exec_brk, exec_cont, exec_exp, exec_rai, exec_fg, exec_pas, evT, evs, evTAnd, evTOr, evAnd, evOr, evP, evSrc, bo, bnd, frzAll, esT, esTs, esO, esc, escs, esS, escS, opd, opn, look, peek, ofO, cmpD, truthD, thenK, sweep, outR, outF, fresh, asgK, asgT, asgTs, put, binD, b1D, b2D, ixD, ixN, atI_0, atI_1, atI_2, atI_3, atI_4, eqv, eqvs, shp, shps, setK, setX, setO, setOb, isVar, unset, cellOf, frz, valOf, forL, forK, isiD, isiO, items, itemsS, seqs, lenD, fldD, isIns, isNon, isB, inT, mutOk, mutK, muD, ckS, ckC, okP, isDct, dctOf, Pd.getD, augK, setFK, fput, okP, dmD, low, lows, List.lookup, nthS, hd, tl, b9, m3, q3, c3, br3])]
  rw [execs_step (ρ' := [.val (.lst cd), .val (.tup xs1), .val (.tup ld), .un, .un]) (t' := t5) (by
    simp [runF, ss, es, ts, gs, execs, ev_var, ev_kon, ev_glb, ev_bin, ev_neg, ev_cmp, ev_chn, ev_and, ev_or, ev_not, ev_ife, ev_call, ev_callk, ev_mth, ev_mk, ev_mkk, ev_b1, ev_b2, ev_isi, ev_ix, ev_sl, ev_lst, ev_tup, ev_newL, ev_newD, ev_lobj, ev_dsp, ev_dm, ev_join, ev_fld, exec_asg, exec_setI, exec_setF, exec_aug, exec_mut, exec_ifs, exec_ret, exec_retn, exec_brk, exec_cont, exec_exp, exec_rai, exec_fg, exec_pas, evT, evs, evTAnd, evTOr, evAnd, evOr, evP, evSrc, bo, bnd, frzAll, esT, esTs, esO, esc, escs, esS, escS, opd, opn, look, peek, ofO, cmpD, truthD, thenK, sweep, outR, outF, fresh, asgK, asgT, asgTs, put, binD, b1D, b2D, ixD, ixN, atI_0, atI_1, atI_2, atI_3, atI_4, eqv, eqvs, shp, shps, setK, setX, setO, setOb, isVar, unset, cellOf, frz, valOf, forL, forK, isiD, isiO, items, itemsS, seqs, lenD, fldD, isIns, isNon, isB, inT, mutOk, mutK, muD, ckS, ckC, okP, isDct, dctOf, Pd.getD, augK, setFK, fput, okP, dmD, low, lows, List.lookup, nthS, hd, tl, b9, m4, q4, c4, m5, q5, c5])]
  rw [execs_step (ρ' := [.val (.lst cd), .val (.tup xs1), .val (.tup ld), .own [.bl true], .un]) (t' := t6) (by
    simp [runF, ss, es, ts, gs, execs, ev_var, ev_kon, ev_glb, ev_bin, ev_neg, ev_cmp, ev_chn, ev_and, ev_or, ev_not, ev_ife, ev_call, ev_callk, ev_mth, ev_mk, ev_mkk, ev_b1, ev_b2, ev_isi, ev_ix, ev_sl, ev_lst, ev_tup, ev_newL, ev_newD, ev_lobj, ev_dsp, ev_dm, ev_join, ev_fld, exec_asg, exec_setI, exec_setF, exec_aug, exec_mut, exec_ifs, exec_ret, exec_retn, exec_brk, exec_cont, exec_exp, exec_rai, exec_fg, exec_pas, evT, evs, evTAnd, evTOr, evAnd, evOr, evP, evSrc, bo, bnd, frzAll, esT, esTs, esO, esc, escs, esS, escS, opd, opn, look, peek, ofO, cmpD, truthD, thenK, sweep, outR, outF, fresh, asgK, asgT, asgTs, put, binD, b1D, b2D, ixD, ixN, atI_0, atI_1, atI_2, atI_3, atI_4, eqv, eqvs, shp, shps, setK, setX, setO, setOb, isVar, unset, cellOf, frz, valOf, forL, forK, isiD, isiO, items, itemsS, seqs, lenD, fldD, isIns, isNon, isB, inT, mutOk, mutK, muD, ckS, ckC, okP, isDct, dctOf, Pd.getD, augK, setFK, fput, okP, dmD, low, lows, List.lookup, nthS, hd, tl, b9, j6])]
  rw [execs_step (ρ' := [.val (.lst cd), .val (.tup xs1), .val (.tup ld), .own [.bl true, .bl false, .tup [.int 0, .int 0, .int 1]], .un]) (t' := t8) (by
    simp [runF, ss, es, ts, gs, execs, ev_var, ev_kon, ev_glb, ev_bin, ev_neg, ev_cmp, ev_chn, ev_and, ev_or, ev_not, ev_ife, ev_call, ev_callk, ev_mth, ev_mk, ev_mkk, ev_b1, ev_b2, ev_isi, ev_ix, ev_sl, ev_lst, ev_tup, ev_newL, ev_newD, ev_lobj, ev_dsp, ev_dm, ev_join, ev_fld, exec_asg, exec_setI, exec_setF, exec_aug, exec_mut, exec_ifs, exec_ret, exec_retn, exec_brk, exec_cont, exec_exp, exec_rai, exec_fg, exec_pas, evT, evs, evTAnd, evTOr, evAnd, evOr, evP, evSrc, bo, bnd, frzAll, esT, esTs, esO, esc, escs, esS, escS, opd, opn, look, peek, ofO, cmpD, truthD, thenK, sweep, outR, outF, fresh, asgK, asgT, asgTs, put, binD, b1D, b2D, ixD, ixN, atI_0, atI_1, atI_2, atI_3, atI_4, eqv, eqvs, shp, shps, setK, setX, setO, setOb, isVar, unset, cellOf, frz, valOf, forL, forK, isiD, isiO, items, itemsS, seqs, lenD, fldD, isIns, isNon, isB, inT, mutOk, mutK, muD, ckS, ckC, okP, isDct, dctOf, Pd.getD, augK, setFK, fput, okP, dmD, low, lows, List.lookup, nthS, hd, tl, b9, j7, m8, q8, c8, sz])]
  rw [execs_end (d := .bl true) (t' := t8) (by
    simp [runF, ss, es, ts, gs, execs, ev_var, ev_kon, ev_glb, ev_bin, ev_neg, ev_cmp, ev_chn, ev_and, ev_or, ev_not, ev_ife, ev_call, ev_callk, ev_mth, ev_mk, ev_mkk, ev_b1, ev_b2, ev_isi, ev_ix, ev_sl, ev_lst, ev_tup, ev_newL, ev_newD, ev_lobj, ev_dsp, ev_dm, ev_join, ev_fld, exec_asg, exec_setI, exec_setF, exec_aug, exec_mut, exec_ifs, exec_ret, exec_retn, exec_brk, exec_cont, exec_exp, exec_rai, exec_fg, exec_pas, evT, evs, evTAnd, evTOr, evAnd, evOr, evP, evSrc, bo, bnd, frzAll, esT, esTs, esO, esc, escs, esS, escS, opd, opn, look, peek, ofO, cmpD, truthD, thenK, sweep, outR, outF, fresh, asgK, asgT, asgTs, put, binD, b1D, b2D, ixD, ixN, atI_0, atI_1, atI_2, atI_3, atI_4, eqv, eqvs, shp, shps, setK, setX, setO, setOb, isVar, unset, cellOf, frz, valOf, forL, forK, isiD, isiO, items, itemsS, seqs, lenD, fldD, isIns, isNon, isB, inT, mutOk, mutK, muD, ckS, ckC, okP, isDct, dctOf, Pd.getD, augK, setFK, fput, okP, dmD, low, lows, List.lookup, nthS, hd, tl, b9, al])]
  rfl
end K85
set_option maxRecDepth 100000
set_option linter.all false
set_option autoImplicit false
/-! the law -/
namespace K85
open Pd Pt
/-- a world's facts -/
structure Wo where
  ws : List (List Nat)
  B : List Int
  C : List Int
  pl : Nat
  wd : Wd ws pl
  hpl : pl ≤ 1000
  one : 1 ≤ ws.length
  top : ws.length ≤ 10
  lB : B.length = ws.length
  pB : ∀ b ∈ B, 0 ≤ b
  lC : C.length = ws.length
  pC : ∀ b ∈ C, 0 ≤ b
  nC : 0 < NA ws B pl → NA ws C pl ≤ 0
def Wo.D (w : Wo) : D := .lst [.lst (w.ws.map .str), .lst (w.B.map .int), .lst (w.C.map .int), .int (NA w.ws w.B w.pl)]
theorem iAt_map (f : Int → Int) (B : List Int) (q : Nat) (h : q < B.length) : iAt (B.map f) q = f (iAt B q) := by
  unfold iAt
  rw [List.getElem?_map, List.getElem?_eq_getElem h]; rfl
theorem clip {ws : List (List Nat)} {B : List Int} {pl : Nat} (k : Int) (h1 : 1 ≤ ws.length) (h10 : ws.length ≤ 10) (hB : B.length = ws.length) (hk : NA ws B pl ≤ k) : NA ws (B.map fun b => mn 10 (b + k)) pl ≤ 0 := by
  apply Classical.byContradiction
  intro hc
  have hc : ¬ Need ws (iAt (B.map fun b => mn 10 (b + k))) pl (List.range ws.length) ≤ 0 := hc
  have hne := range_ne h1
  have hm : ∀ q ∈ List.range ws.length, q < B.length := fun q hq => by rw [hB]; exact List.mem_range.mp hq
  have s := Need_shift ws (iAt B) (fun q => iAt B q + k) pl k (List.range ws.length) hne fun q _ => rfl
  have c := Need_cut ws (fun q => iAt B q + k) (iAt (B.map fun b => mn 10 (b + k))) pl 10 (List.range ws.length) hne (fun q hq => by
    rw [iAt_map _ B q (hm q hq)]
    show mn 10 (iAt B q + k) = _ ∨ _
    unfold mn
    split
    · exact .inl rfl
    · exact .inr rfl) 0 (by omega)
  rw [List.length_range] at c
  have hk : Need ws (iAt B) pl (List.range ws.length) ≤ k := hk
  omega
theorem mn_range (b k : Int) (h : 0 ≤ b + k) : 0 ≤ mn 10 (b + k) ∧ mn 10 (b + k) ≤ 10 := by
  unfold mn; split <;> omega
theorem clip_range {B : List Int} (k : Int) (hk : 0 ≤ k) (hP : ∀ b ∈ B, 0 ≤ b) : ∀ b ∈ B.map (fun b => mn 10 (b + k)), 0 ≤ b ∧ b ≤ 10 := fun x hx => by
  obtain ⟨b, hb, rfl⟩ := List.mem_map.mp hx
  have := hP b hb
  exact mn_range b k (by omega)
theorem zeros_need {vs : List (List Nat)} {pl p : Nat} (hp : p < pl) (hpp : Parts vs p (List.range vs.length)) : 1 ≤ NA vs (vs.map fun _ => 0) pl := by
  have hz : ∀ q, iAt (vs.map fun _ => (0 : Int)) q = 0 := fun q => by
    unfold iAt
    rw [List.getElem?_map]
    cases vs[q]? <;> rfl
  have hn : ∀ l : List Nat, l ≠ [] → -1 < Need vs (iAt (vs.map fun _ => 0)) pl l := fun l hl => by
    cases l with
    | nil => exact absurd rfl hl
    | cons q l =>
      have := Need_ge vs (iAt (vs.map fun _ => 0)) pl (q :: l) (q := q) List.mem_cons_self
      rw [hz] at this; omega
  have hne : List.range vs.length ≠ [] := by
    intro z
    rw [z] at hpp
    exact hpp.1 rfl
  have := (lt_Need vs (iAt (vs.map fun _ => 0)) pl _ hne 0).mpr (.inr ⟨p, hp, hpp, .inr (.inr ⟨hn _ hpp.1, hn _ hpp.2⟩)⟩)
  show 1 ≤ Need vs (iAt (vs.map fun _ => 0)) pl (List.range vs.length)
  omega
theorem c_pool (n : Nat) (ns : List Int) : ∃ p, call prg (n + 1) 1 [.scr ns] [] = .ok (.obj 0) [Pool.ob p] ∧ Ok p 0 := by
  rw [cS 1 f1 rfl]
  have e : ev (cls' n) (.comp (.seq (.var 0)) (.nm 1) [1] .yes (.b1 .abs (.b1 .int (.var 1)))) [.val (.scr ns), .un] [] = .ok (.lst ((ns.map fun i => if i < 0 then -i else i).map .int)) [] := by
    rw [List.map_map]
    refine comp_enc ns D.int _ (by simp [runF, ss, es, ts, gs, execs, ev_var, ev_kon, ev_glb, ev_bin, ev_neg, ev_cmp, ev_chn, ev_and, ev_or, ev_not, ev_ife, ev_call, ev_callk, ev_mth, ev_mk, ev_mkk, ev_b1, ev_b2, ev_isi, ev_ix, ev_sl, ev_lst, ev_tup, ev_newL, ev_newD, ev_lobj, ev_dsp, ev_dm, ev_join, ev_fld, exec_asg, exec_setI, exec_setF, exec_aug, exec_mut, exec_ifs, exec_ret, exec_retn, exec_brk, exec_cont, exec_exp, exec_rai, exec_fg, exec_pas, evT, evs, evTAnd, evTOr, evAnd, evOr, evP, evSrc, bo, bnd, frzAll, esT, esTs, esO, esc, escs, esS, escS, opd, opn, look, peek, ofO, cmpD, truthD, thenK, sweep, outR, outF, fresh, asgK, asgT, asgTs, put, binD, b1D, b2D, ixD, ixN, atI_0, atI_1, atI_2, atI_3, atI_4, eqv, eqvs, shp, shps, setK, setX, setO, setOb, isVar, unset, cellOf, frz, valOf, forL, forK, isiD, isiO, items, itemsS, seqs, lenD, fldD, isIns, isNon, isB, inT, mutOk, mutK, muD, ckS, ckC, okP, isDct, dctOf, Pd.getD, augK, setFK, fput, okP, dmD, low, lows, List.lookup]) fun i _ => ?_
    simp [turnC, runF, ss, es, ts, gs, execs, ev_var, ev_kon, ev_glb, ev_bin, ev_neg, ev_cmp, ev_chn, ev_and, ev_or, ev_not, ev_ife, ev_call, ev_callk, ev_mth, ev_mk, ev_mkk, ev_b1, ev_b2, ev_isi, ev_ix, ev_sl, ev_lst, ev_tup, ev_newL, ev_newD, ev_lobj, ev_dsp, ev_dm, ev_join, ev_fld, exec_asg, exec_setI, exec_setF, exec_aug, exec_mut, exec_ifs, exec_ret, exec_retn, exec_brk, exec_cont, exec_exp, exec_rai, exec_fg, exec_pas, evT, evs, evTAnd, evTOr, evAnd, evOr, evP, evSrc, bo, bnd, frzAll, esT, esTs, esO, esc, escs, esS, escS, opd, opn, look, peek, ofO, cmpD, truthD, thenK, sweep, outR, outF, fresh, asgK, asgT, asgTs, put, binD, b1D, b2D, ixD, ixN, atI_0, atI_1, atI_2, atI_3, atI_4, eqv, eqvs, shp, shps, setK, setX, setO, setOb, isVar, unset, cellOf, frz, valOf, forL, forK, isiD, isiO, items, itemsS, seqs, lenD, fldD, isIns, isNon, isB, inT, mutOk, mutK, muD, ckS, ckC, okP, isDct, dctOf, Pd.getD, augK, setFK, fput, okP, dmD, low, lows, List.lookup]
  refine ⟨⟨ns.map fun i => if i < 0 then -i else i, 0, 0, 271828182845904, 0⟩, ?_, ⟨fun c hc => ?_, Int.le_refl _, Int.le_refl _, ⟨(by show (0 : Int) ≤ 271828182845904; decide), (by show (271828182845904 : Int) < 1000000000000037; decide)⟩, Int.le_refl _, Int.le_refl _⟩⟩
  · generalize hz : (ns.map fun i => if i < 0 then -i else i) = z at e
    have hz2 : Pool.ob ⟨z, 0, 0, 271828182845904, 0⟩ = .dct false [(.str [99, 101, 108, 108, 115], .lst (z.map .int)), (.str [97, 116], .int 0), (.str [98, 105, 103], .int 0), (.str [115, 116, 97, 116, 101], .int 271828182845904), (.str [99, 111, 117, 110, 116], .int 0)] := rfl
    rw [hz2]
    generalize z.map D.int = zs at e
    simp [runF, ss, es, ts, gs, execs, ev_var, ev_kon, ev_glb, ev_bin, ev_neg, ev_cmp, ev_chn, ev_and, ev_or, ev_not, ev_ife, ev_call, ev_callk, ev_mth, ev_mk, ev_mkk, ev_b1, ev_b2, ev_isi, ev_ix, ev_sl, ev_lst, ev_tup, ev_newL, ev_newD, ev_lobj, ev_dsp, ev_dm, ev_join, ev_fld, exec_asg, exec_setI, exec_setF, exec_aug, exec_mut, exec_ifs, exec_ret, exec_retn, exec_brk, exec_cont, exec_exp, exec_rai, exec_fg, exec_pas, evT, evs, evTAnd, evTOr, evAnd, evOr, evP, evSrc, bo, bnd, frzAll, esT, esTs, esO, esc, escs, esS, escS, opd, opn, look, peek, ofO, cmpD, truthD, thenK, sweep, outR, outF, fresh, asgK, asgT, asgTs, put, binD, b1D, b2D, ixD, ixN, atI_0, atI_1, atI_2, atI_3, atI_4, eqv, eqvs, shp, shps, setK, setX, setO, setOb, isVar, unset, cellOf, frz, valOf, forL, forK, isiD, isiO, items, itemsS, seqs, lenD, fldD, isIns, isNon, isB, inT, mutOk, mutK, muD, ckS, ckC, okP, isDct, dctOf, Pd.getD, augK, setFK, fput, okP, dmD, low, lows, List.lookup, f1, b1, e]
  · obtain ⟨i, _, rfl⟩ := List.mem_map.mp hc
    show 0 ≤ if i < 0 then -i else i
    split <;> omega
abbrev EV (s sz rows bud oth lack need en first worlds games : Cell) : Env := [s, .val (.obj 0), sz, rows, bud, oth, lack, need, en, first, worlds, games, .un, .un, .un, .un, .un, .un]
theorem comp_clip (cl : Calls) (i : Nat) (ρ : Env) (t : T) (B : List Int) (e : E) (f : Int → Int) (own : List Nat) (h1 : evSrc cl (.seq (.var i)) true ρ t = .ok (B.map .int) t) (hc : ckS (.seq (.var i)) ρ (B.map .int) t = true) (h2 : ∀ b : Int, turnC cl (.nm 16) own .yes e ρ (.int b) t = .ok (some (.int (f b))) t) : ev cl (.comp (.seq (.var i)) (.nm 16) own .yes e) ρ t = .ok (.lst ((B.map f).map .int)) t := by
  rw [List.map_map]
  exact comp_enc B D.int (D.int ∘ f) h1 (fun b _ => h2 b) hc
/-- nth statement -/
def nth : Nat → Ss → S
  | 0, s => hd s
  | n + 1, s => nth n (tl s)
def drp : Nat → Ss → Ss
  | 0, s => s
  | n + 1, s => drp n (tl s)
/-- the beginning of the law -/
theorem start (n : Nat) (ns : List Int) : ∃ (w1 w2 w3 : Wo) (p : Pool) (x2 x3 x4 x5 x6 x7 x8 x9 : Cell), Ok p 1000 ∧
    execs (cls' (n + 19)) b0 (EV (.val (.scr ns)) .un .un .un .un .un .un .un .un .un .un) [] = execs (cls' (n + 19)) (drp 16 b0) (EV (.val (.scr ns)) x2 x3 x4 x5 x6 x7 x8 x9 (.own [w1.D, w2.D, w3.D]) (.own [])) [p.ob] := by
  obtain ⟨p0, e0, o0⟩ := c_pool (n + 18) ns
  obtain ⟨v1, p1, e1, o1, a1, b1⟩ := take (n + 18) p0 0 9 [] (by omega) (by omega) o0 (by omega)
  -- sizes
  obtain ⟨s1, s2, hs, hs1, hs2⟩ : ∃ s1 s2 : Int, ((if v1 = 0 then [D.int 9, .int 7] else [.int 6, .int 5]) = [.int s1, .int s2]) ∧ (1 ≤ s1 ∧ s1 ≤ 9) ∧ (1 ≤ s2 ∧ s2 ≤ 7) := by
    by_cases h : v1 = 0
    · exact ⟨9, 7, by rw [if_pos h], by omega, by omega⟩
    · exact ⟨6, 5, by rw [if_neg h], by omega, by omega⟩
  obtain ⟨ws, pl, p2', e2, hw, h1, h2, h3, o2⟩ := rows (n + 17) s1 s2 p1 (0 + 1) [] hs1.1 hs1.2 hs2.1 hs2.2 (by omega) o1
  obtain ⟨B, p3, e3, lB, hB, o3⟩ := budgets (n + 17) ws.length p2' (0 + 1 + 32) [] (by omega) (by omega) o2
  obtain ⟨vs, ql, e4, hv, h4, h5, h6, pp, hpp, hpp2⟩ := c_unlike (n + 18) [Pool.ob p3] hw h1 (by omega) (by omega)
  obtain ⟨L0, p4, e5, lL0, hL0, o4⟩ := budgets (n + 17) vs.length p3 (0 + 1 + 32 + 21) [] (by omega) (by omega) o3
  have e6 := c_lneed (n + 1) [Pool.ob p4] hv h4 h5 h6 lL0 hL0
  -- the lacking budgets
  obtain ⟨L, hL, lL, pL, nL⟩ : ∃ L : List Int, L = (if NA vs L0 ql < 1 then vs.map fun _ => 0 else L0) ∧ L.length = vs.length ∧ (∀ b ∈ L, 0 ≤ b ∧ b ≤ 10) ∧ 1 ≤ NA vs L ql := by
    by_cases h : NA vs L0 ql < 1
    · refine ⟨vs.map fun _ => 0, by rw [if_pos h], by rw [List.length_map], fun b hb => ?_, zeros_need hpp hpp2⟩
      obtain ⟨_, _, rfl⟩ := List.mem_map.mp hb
      omega
    · exact ⟨L0, by rw [if_neg h], lL0, hL0, by omega⟩
  have e7 := c_lneed (n + 1) [Pool.ob p4] hv h4 h5 h6 lL pL
  have pL0 : ∀ b ∈ L, 0 ≤ b := fun b hb => (pL b hb).1
  have rE := clip_range (B := L) (NA vs L ql) (by omega) pL0
  have rK := clip_range (B := L) (NA vs L ql - 1) (by omega) pL0
  have e8 := c_lneed (n + 1) [Pool.ob p4] hw h1 (by omega) (by omega) lB hB
  have e9 := c_lneed (n + 1) [Pool.ob p4] hv h4 h5 h6 (by rw [List.length_map]; exact lL) rK
  have e10 := c_lneed (n + 1) [Pool.ob p4] hv h4 h5 h6 (by rw [List.length_map]; exact lL) rE
  have cE := clip (NA vs L ql) h4 h5 lL (Int.le_refl _)
  have pB0 : ∀ b ∈ B, 0 ≤ b := fun b hb => (hB b hb).1
  have lE : (L.map fun b => mn 10 (b + NA vs L ql)).length = vs.length := by rw [List.length_map]; exact lL
  have lK : (L.map fun b => mn 10 (b + (NA vs L ql - 1))).length = vs.length := by rw [List.length_map]; exact lL
  have mx0 : 0 ≤ mx 0 (NA ws B pl) ∧ NA ws B pl ≤ mx 0 (NA ws B pl) := by unfold mx; split <;> omega
  refine ⟨⟨ws, B, B.map fun b => mn 10 (b + mx 0 (NA ws B pl)), pl, hw, by omega, h1, by omega, lB, pB0, by rw [List.length_map]; exact lB, fun b hb => (clip_range _ mx0.1 pB0 b hb).1, fun _ => clip _ h1 (by omega) lB mx0.2⟩,
    ⟨vs, L.map fun b => mn 10 (b + (NA vs L ql - 1)), L.map fun b => mn 10 (b + NA vs L ql), ql, hv, h6, h4, h5, lK, fun b hb => (rK b hb).1, lE, fun b hb => (rE b hb).1, fun _ => cE⟩,
    ⟨vs, L.map fun b => mn 10 (b + NA vs L ql), L.map fun b => mn 10 (b + NA vs L ql), ql, hv, h6, h4, h5, lE, fun b hb => (rE b hb).1, lE, fun b hb => (rE b hb).1, fun z => by omega⟩,
    p4, .own [.int s1, .int s2], .val (.lst (ws.map .str)), .val (.lst (B.map .int)), .val (.lst (vs.map .str)), .val (.lst ((L.map fun b => mn 10 (b + (NA vs L ql - 1))).map .int)), .val (.int (NA vs L ql)), .val (.lst ((L.map fun b => mn 10 (b + NA vs L ql)).map .int)), .val (.int (NA ws B pl)), o4.mono (by omega), ?_⟩
  have hb : b0 = .cons (nth 0 b0) (.cons (nth 1 b0) (.cons (nth 2 b0) (.cons (nth 3 b0) (.cons (nth 4 b0) (.cons (nth 5 b0) (.cons (nth 6 b0) (.cons (nth 7 b0) (.cons (nth 8 b0) (.cons (nth 9 b0) (.cons (nth 10 b0) (.cons (nth 11 b0) (.cons (nth 12 b0) (.cons (nth 13 b0) (.cons (nth 14 b0) (.cons (nth 15 b0) (drp 16 b0)))))))))))))))) := rfl
  rw [hb]
  have e0 : call prg (n + 19) 1 [.scr ns] [] = .ok (.obj 0) [Pool.ob p0] := e0
  have e1 : call prg (n + 19) 2 [.obj 0, .int 9] [Pool.ob p0] = .ok (.int v1) [Pool.ob p1] := e1
  have e2 : call prg (n + 19) 3 [.obj 0, .int s1, .int s2] [Pool.ob p1] = .ok (.lst (ws.map .str)) [Pool.ob p2'] := e2
  have e3 : call prg (n + 19) 4 [.obj 0, .int ws.length] [Pool.ob p2'] = .ok (.lst (B.map .int)) [Pool.ob p3] := e3
  have e4 : call prg (n + 19) 5 [.lst (ws.map .str)] [Pool.ob p3] = .ok (.lst (vs.map .str)) [Pool.ob p3] := e4
  have e5 : call prg (n + 19) 4 [.obj 0, .int vs.length] [Pool.ob p3] = .ok (.lst (L0.map .int)) [Pool.ob p4] := e5
  have e6 : call prg (n + 19) 6 [.lst (vs.map .str), .lst (L0.map .int)] [Pool.ob p4] = .ok (.int (NA vs L0 ql)) [Pool.ob p4] := e6
  have e7 : call prg (n + 19) 6 [.lst (vs.map .str), .lst (L.map .int)] [Pool.ob p4] = .ok (.int (NA vs L ql)) [Pool.ob p4] := e7
  have e8 : call prg (n + 19) 6 [.lst (ws.map .str), .lst (B.map .int)] [Pool.ob p4] = .ok (.int (NA ws B pl)) [Pool.ob p4] := e8
  have e9 : call prg (n + 19) 6 [.lst (vs.map .str), .lst ((L.map fun b => mn 10 (b + (NA vs L ql - 1))).map .int)] [Pool.ob p4] = .ok (.int (NA vs (L.map fun b => mn 10 (b + (NA vs L ql - 1))) ql)) [Pool.ob p4] := e9
  have e10 : call prg (n + 19) 6 [.lst (vs.map .str), .lst ((L.map fun b => mn 10 (b + NA vs L ql)).map .int)] [Pool.ob p4] = .ok (.int (NA vs (L.map fun b => mn 10 (b + NA vs L ql)) ql)) [Pool.ob p4] := e10
  have lw : (ws.map D.str).length = ws.length := List.length_map ..
  have lv : (vs.map D.str).length = vs.length := List.length_map ..
  unfold Wo.D
  dsimp only
  generalize hN1 : NA vs L ql = N1 at *
  generalize hN2 : NA ws B pl = N2 at *
  generalize hN3 : NA vs (L.map fun b => mn 10 (b + (N1 - 1))) ql = N3 at *
  generalize hN4 : NA vs (L.map fun b => mn 10 (b + N1)) ql = N4 at *
  generalize hN0 : NA vs L0 ql = N0 at *
  generalize hwd : ws.map D.str = wd at *
  generalize hvd : vs.map D.str = vd at *
  generalize hbd : B.map D.int = bd at *
  rw [execs_step (ρ' := EV (.val (.scr ns)) .un .un .un .un .un .un .un .un .un .un) (t' := [Pool.ob p0]) (by simp [runF, ss, es, ts, gs, execs, ev_var, ev_kon, ev_glb, ev_bin, ev_neg, ev_cmp, ev_chn, ev_and, ev_or, ev_not, ev_ife, ev_call, ev_callk, ev_mth, ev_mk, ev_mkk, ev_b1, ev_b2, ev_isi, ev_ix, ev_sl, ev_lst, ev_tup, ev_newL, ev_newD, ev_lobj, ev_dsp, ev_dm, ev_join, ev_fld, exec_asg, exec_setI, exec_setF, exec_aug, exec_mut, exec_ifs, exec_ret, exec_retn, exec_brk, exec_cont, exec_exp, exec_rai, exec_fg, exec_pas, evT, evs, evTAnd, evTOr, evAnd, evOr, evP, evSrc, bo, bnd, frzAll, esT, esTs, esO, esc, escs, esS, escS, opd, opn, look, peek, ofO, cmpD, truthD, thenK, sweep, outR, outF, fresh, asgK, asgT, asgTs, put, binD, b1D, b2D, ixD, ixN, atI_0, atI_1, atI_2, atI_3, atI_4, eqv, eqvs, shp, shps, setK, setX, setO, setOb, isVar, unset, cellOf, frz, valOf, forL, forK, isiD, isiO, items, itemsS, seqs, lenD, fldD, isIns, isNon, isB, inT, mutOk, mutK, muD, ckS, ckC, okP, isDct, dctOf, Pd.getD, augK, setFK, fput, okP, dmD, low, lows, List.lookup, nth, hd, tl, b0, e0])]
  rw [execs_step (ρ' := EV (.val (.scr ns)) (.own [.int 6, .int 5]) .un .un .un .un .un .un .un .un .un) (t' := [Pool.ob p0]) (by simp [runF, ss, es, ts, gs, execs, ev_var, ev_kon, ev_glb, ev_bin, ev_neg, ev_cmp, ev_chn, ev_and, ev_or, ev_not, ev_ife, ev_call, ev_callk, ev_mth, ev_mk, ev_mkk, ev_b1, ev_b2, ev_isi, ev_ix, ev_sl, ev_lst, ev_tup, ev_newL, ev_newD, ev_lobj, ev_dsp, ev_dm, ev_join, ev_fld, exec_asg, exec_setI, exec_setF, exec_aug, exec_mut, exec_ifs, exec_ret, exec_retn, exec_brk, exec_cont, exec_exp, exec_rai, exec_fg, exec_pas, evT, evs, evTAnd, evTOr, evAnd, evOr, evP, evSrc, bo, bnd, frzAll, esT, esTs, esO, esc, escs, esS, escS, opd, opn, look, peek, ofO, cmpD, truthD, thenK, sweep, outR, outF, fresh, asgK, asgT, asgTs, put, binD, b1D, b2D, ixD, ixN, atI_0, atI_1, atI_2, atI_3, atI_4, eqv, eqvs, shp, shps, setK, setX, setO, setOb, isVar, unset, cellOf, frz, valOf, forL, forK, isiD, isiO, items, itemsS, seqs, lenD, fldD, isIns, isNon, isB, inT, mutOk, mutK, muD, ckS, ckC, okP, isDct, dctOf, Pd.getD, augK, setFK, fput, okP, dmD, low, lows, List.lookup, nth, hd, tl, b0])]
  rw [execs_step (ρ' := EV (.val (.scr ns)) (.own [.int s1, .int s2]) .un .un .un .un .un .un .un .un .un) (t' := [Pool.ob p1]) (by
    rw [← hs]
    by_cases h : v1 = 0 <;> simp [runF, ss, es, ts, gs, execs, ev_var, ev_kon, ev_glb, ev_bin, ev_neg, ev_cmp, ev_chn, ev_and, ev_or, ev_not, ev_ife, ev_call, ev_callk, ev_mth, ev_mk, ev_mkk, ev_b1, ev_b2, ev_isi, ev_ix, ev_sl, ev_lst, ev_tup, ev_newL, ev_newD, ev_lobj, ev_dsp, ev_dm, ev_join, ev_fld, exec_asg, exec_setI, exec_setF, exec_aug, exec_mut, exec_ifs, exec_ret, exec_retn, exec_brk, exec_cont, exec_exp, exec_rai, exec_fg, exec_pas, evT, evs, evTAnd, evTOr, evAnd, evOr, evP, evSrc, bo, bnd, frzAll, esT, esTs, esO, esc, escs, esS, escS, opd, opn, look, peek, ofO, cmpD, truthD, thenK, sweep, outR, outF, fresh, asgK, asgT, asgTs, put, binD, b1D, b2D, ixD, ixN, atI_0, atI_1, atI_2, atI_3, atI_4, eqv, eqvs, shp, shps, setK, setX, setO, setOb, isVar, unset, cellOf, frz, valOf, forL, forK, isiD, isiO, items, itemsS, seqs, lenD, fldD, isIns, isNon, isB, inT, mutOk, mutK, muD, ckS, ckC, okP, isDct, dctOf, Pd.getD, augK, setFK, fput, okP, dmD, low, lows, List.lookup, nth, hd, tl, b0, e1, h])]
  rw [execs_step (ρ' := EV (.val (.scr ns)) (.own [.int s1, .int s2]) (.val (.lst wd)) .un .un .un .un .un .un .un .un) (t' := [Pool.ob p2']) (by simp [runF, ss, es, ts, gs, execs, ev_var, ev_kon, ev_glb, ev_bin, ev_neg, ev_cmp, ev_chn, ev_and, ev_or, ev_not, ev_ife, ev_call, ev_callk, ev_mth, ev_mk, ev_mkk, ev_b1, ev_b2, ev_isi, ev_ix, ev_sl, ev_lst, ev_tup, ev_newL, ev_newD, ev_lobj, ev_dsp, ev_dm, ev_join, ev_fld, exec_asg, exec_setI, exec_setF, exec_aug, exec_mut, exec_ifs, exec_ret, exec_retn, exec_brk, exec_cont, exec_exp, exec_rai, exec_fg, exec_pas, evT, evs, evTAnd, evTOr, evAnd, evOr, evP, evSrc, bo, bnd, frzAll, esT, esTs, esO, esc, escs, esS, escS, opd, opn, look, peek, ofO, cmpD, truthD, thenK, sweep, outR, outF, fresh, asgK, asgT, asgTs, put, binD, b1D, b2D, ixD, ixN, atI_0, atI_1, atI_2, atI_3, atI_4, eqv, eqvs, shp, shps, setK, setX, setO, setOb, isVar, unset, cellOf, frz, valOf, forL, forK, isiD, isiO, items, itemsS, seqs, lenD, fldD, isIns, isNon, isB, inT, mutOk, mutK, muD, ckS, ckC, okP, isDct, dctOf, Pd.getD, augK, setFK, fput, okP, dmD, low, lows, List.lookup, nth, hd, tl, b0, e2])]
  rw [execs_step (ρ' := EV (.val (.scr ns)) (.own [.int s1, .int s2]) (.val (.lst wd)) (.val (.lst bd)) .un .un .un .un .un .un .un) (t' := [Pool.ob p3]) (by simp [runF, ss, es, ts, gs, execs, ev_var, ev_kon, ev_glb, ev_bin, ev_neg, ev_cmp, ev_chn, ev_and, ev_or, ev_not, ev_ife, ev_call, ev_callk, ev_mth, ev_mk, ev_mkk, ev_b1, ev_b2, ev_isi, ev_ix, ev_sl, ev_lst, ev_tup, ev_newL, ev_newD, ev_lobj, ev_dsp, ev_dm, ev_join, ev_fld, exec_asg, exec_setI, exec_setF, exec_aug, exec_mut, exec_ifs, exec_ret, exec_retn, exec_brk, exec_cont, exec_exp, exec_rai, exec_fg, exec_pas, evT, evs, evTAnd, evTOr, evAnd, evOr, evP, evSrc, bo, bnd, frzAll, esT, esTs, esO, esc, escs, esS, escS, opd, opn, look, peek, ofO, cmpD, truthD, thenK, sweep, outR, outF, fresh, asgK, asgT, asgTs, put, binD, b1D, b2D, ixD, ixN, atI_0, atI_1, atI_2, atI_3, atI_4, eqv, eqvs, shp, shps, setK, setX, setO, setOb, isVar, unset, cellOf, frz, valOf, forL, forK, isiD, isiO, items, itemsS, seqs, lenD, fldD, isIns, isNon, isB, inT, mutOk, mutK, muD, ckS, ckC, okP, isDct, dctOf, Pd.getD, augK, setFK, fput, okP, dmD, low, lows, List.lookup, nth, hd, tl, b0, e3, lw])]
  rw [execs_step (ρ' := EV (.val (.scr ns)) (.own [.int s1, .int s2]) (.val (.lst wd)) (.val (.lst bd)) (.val (.lst vd)) .un .un .un .un .un .un) (t' := [Pool.ob p3]) (by simp [runF, ss, es, ts, gs, execs, ev_var, ev_kon, ev_glb, ev_bin, ev_neg, ev_cmp, ev_chn, ev_and, ev_or, ev_not, ev_ife, ev_call, ev_callk, ev_mth, ev_mk, ev_mkk, ev_b1, ev_b2, ev_isi, ev_ix, ev_sl, ev_lst, ev_tup, ev_newL, ev_newD, ev_lobj, ev_dsp, ev_dm, ev_join, ev_fld, exec_asg, exec_setI, exec_setF, exec_aug, exec_mut, exec_ifs, exec_ret, exec_retn, exec_brk, exec_cont, exec_exp, exec_rai, exec_fg, exec_pas, evT, evs, evTAnd, evTOr, evAnd, evOr, evP, evSrc, bo, bnd, frzAll, esT, esTs, esO, esc, escs, esS, escS, opd, opn, look, peek, ofO, cmpD, truthD, thenK, sweep, outR, outF, fresh, asgK, asgT, asgTs, put, binD, b1D, b2D, ixD, ixN, atI_0, atI_1, atI_2, atI_3, atI_4, eqv, eqvs, shp, shps, setK, setX, setO, setOb, isVar, unset, cellOf, frz, valOf, forL, forK, isiD, isiO, items, itemsS, seqs, lenD, fldD, isIns, isNon, isB, inT, mutOk, mutK, muD, ckS, ckC, okP, isDct, dctOf, Pd.getD, augK, setFK, fput, okP, dmD, low, lows, List.lookup, nth, hd, tl, b0, e4])]
  rw [execs_step (ρ' := EV (.val (.scr ns)) (.own [.int s1, .int s2]) (.val (.lst wd)) (.val (.lst bd)) (.val (.lst vd)) (.val (.lst (L0.map .int))) .un .un .un .un .un) (t' := [Pool.ob p4]) (by simp [runF, ss, es, ts, gs, execs, ev_var, ev_kon, ev_glb, ev_bin, ev_neg, ev_cmp, ev_chn, ev_and, ev_or, ev_not, ev_ife, ev_call, ev_callk, ev_mth, ev_mk, ev_mkk, ev_b1, ev_b2, ev_isi, ev_ix, ev_sl, ev_lst, ev_tup, ev_newL, ev_newD, ev_lobj, ev_dsp, ev_dm, ev_join, ev_fld, exec_asg, exec_setI, exec_setF, exec_aug, exec_mut, exec_ifs, exec_ret, exec_retn, exec_brk, exec_cont, exec_exp, exec_rai, exec_fg, exec_pas, evT, evs, evTAnd, evTOr, evAnd, evOr, evP, evSrc, bo, bnd, frzAll, esT, esTs, esO, esc, escs, esS, escS, opd, opn, look, peek, ofO, cmpD, truthD, thenK, sweep, outR, outF, fresh, asgK, asgT, asgTs, put, binD, b1D, b2D, ixD, ixN, atI_0, atI_1, atI_2, atI_3, atI_4, eqv, eqvs, shp, shps, setK, setX, setO, setOb, isVar, unset, cellOf, frz, valOf, forL, forK, isiD, isiO, items, itemsS, seqs, lenD, fldD, isIns, isNon, isB, inT, mutOk, mutK, muD, ckS, ckC, okP, isDct, dctOf, Pd.getD, augK, setFK, fput, okP, dmD, low, lows, List.lookup, nth, hd, tl, b0, e5, lv])]
  -- zeros?
  obtain ⟨cl, hcl, x7⟩ : ∃ c6 : Cell, frz c6 = .val (.lst (L.map .int)) ∧ exec (cls' (n + 19)) (nth 7 b0) (EV (.val (.scr ns)) (.own [.int s1, .int s2]) (.val (.lst wd)) (.val (.lst bd)) (.val (.lst vd)) (.val (.lst (L0.map .int))) .un .un .un .un .un) [Pool.ob p4] = .nx (EV (.val (.scr ns)) (.own [.int s1, .int s2]) (.val (.lst wd)) (.val (.lst bd)) (.val (.lst vd)) c6 .un .un .un .un .un) [Pool.ob p4] := by
    by_cases h : N0 < 1
    · rw [if_pos h] at hL
      subst hL
      have ez : ev (cls' (n + 19)) (.comp (.seq (.var 5)) (.nm 17) [17] .yes (.kon (.int 0))) (EV (.val (.scr ns)) (.own [.int s1, .int s2]) (.val (.lst wd)) (.val (.lst bd)) (.val (.lst vd)) (.val (.lst (L0.map .int))) .un .un .un .un .un) [Pool.ob p4] = .ok (.lst (vs.map fun _ => .int 0)) [Pool.ob p4] := by
        rw [← hvd]
        exact comp_enc vs D.str _ (by simp [runF, ss, es, ts, gs, execs, ev_var, ev_kon, ev_glb, ev_bin, ev_neg, ev_cmp, ev_chn, ev_and, ev_or, ev_not, ev_ife, ev_call, ev_callk, ev_mth, ev_mk, ev_mkk, ev_b1, ev_b2, ev_isi, ev_ix, ev_sl, ev_lst, ev_tup, ev_newL, ev_newD, ev_lobj, ev_dsp, ev_dm, ev_join, ev_fld, exec_asg, exec_setI, exec_setF, exec_aug, exec_mut, exec_ifs, exec_ret, exec_retn, exec_brk, exec_cont, exec_exp, exec_rai, exec_fg, exec_pas, evT, evs, evTAnd, evTOr, evAnd, evOr, evP, evSrc, bo, bnd, frzAll, esT, esTs, esO, esc, escs, esS, escS, opd, opn, look, peek, ofO, cmpD, truthD, thenK, sweep, outR, outF, fresh, asgK, asgT, asgTs, put, binD, b1D, b2D, ixD, ixN, atI_0, atI_1, atI_2, atI_3, atI_4, eqv, eqvs, shp, shps, setK, setX, setO, setOb, isVar, unset, cellOf, frz, valOf, forL, forK, isiD, isiO, items, itemsS, seqs, lenD, fldD, isIns, isNon, isB, inT, mutOk, mutK, muD, ckS, ckC, okP, isDct, dctOf, Pd.getD, augK, setFK, fput, okP, dmD, low, lows, List.lookup]) fun w _ => by simp [turnC, runF, ss, es, ts, gs, execs, ev_var, ev_kon, ev_glb, ev_bin, ev_neg, ev_cmp, ev_chn, ev_and, ev_or, ev_not, ev_ife, ev_call, ev_callk, ev_mth, ev_mk, ev_mkk, ev_b1, ev_b2, ev_isi, ev_ix, ev_sl, ev_lst, ev_tup, ev_newL, ev_newD, ev_lobj, ev_dsp, ev_dm, ev_join, ev_fld, exec_asg, exec_setI, exec_setF, exec_aug, exec_mut, exec_ifs, exec_ret, exec_retn, exec_brk, exec_cont, exec_exp, exec_rai, exec_fg, exec_pas, evT, evs, evTAnd, evTOr, evAnd, evOr, evP, evSrc, bo, bnd, frzAll, esT, esTs, esO, esc, escs, esS, escS, opd, opn, look, peek, ofO, cmpD, truthD, thenK, sweep, outR, outF, fresh, asgK, asgT, asgTs, put, binD, b1D, b2D, ixD, ixN, atI_0, atI_1, atI_2, atI_3, atI_4, eqv, eqvs, shp, shps, setK, setX, setO, setOb, isVar, unset, cellOf, frz, valOf, forL, forK, isiD, isiO, items, itemsS, seqs, lenD, fldD, isIns, isNon, isB, inT, mutOk, mutK, muD, ckS, ckC, okP, isDct, dctOf, Pd.getD, augK, setFK, fput, okP, dmD, low, lows, List.lookup]
      have ezz : ((vs.map fun _ => (0 : Int)).map D.int) = vs.map fun _ => D.int 0 := by rw [List.map_map]; rfl
      refine ⟨.own (vs.map fun _ => .int 0), by rw [ezz]; rfl, ?_⟩
      generalize L0.map D.int = ld at *
      simp [runF, ss, es, ts, gs, execs, ev_var, ev_kon, ev_glb, ev_bin, ev_neg, ev_cmp, ev_chn, ev_and, ev_or, ev_not, ev_ife, ev_call, ev_callk, ev_mth, ev_mk, ev_mkk, ev_b1, ev_b2, ev_isi, ev_ix, ev_sl, ev_lst, ev_tup, ev_newL, ev_newD, ev_lobj, ev_dsp, ev_dm, ev_join, ev_fld, exec_asg, exec_setI, exec_setF, exec_aug, exec_mut, exec_ifs, exec_ret, exec_retn, exec_brk, exec_cont, exec_exp, exec_rai, exec_fg, exec_pas, evT, evs, evTAnd, evTOr, evAnd, evOr, evP, evSrc, bo, bnd, frzAll, esT, esTs, esO, esc, escs, esS, escS, opd, opn, look, peek, ofO, cmpD, truthD, thenK, sweep, outR, outF, fresh, asgK, asgT, asgTs, put, binD, b1D, b2D, ixD, ixN, atI_0, atI_1, atI_2, atI_3, atI_4, eqv, eqvs, shp, shps, setK, setX, setO, setOb, isVar, unset, cellOf, frz, valOf, forL, forK, isiD, isiO, items, itemsS, seqs, lenD, fldD, isIns, isNon, isB, inT, mutOk, mutK, muD, ckS, ckC, okP, isDct, dctOf, Pd.getD, augK, setFK, fput, okP, dmD, low, lows, List.lookup, nth, hd, tl, b0, e6, h, ez]
    · rw [if_neg h] at hL
      subst hL
      refine ⟨.val (.lst (L.map .int)), rfl, ?_⟩
      generalize L.map D.int = ld at *
      simp [runF, ss, es, ts, gs, execs, ev_var, ev_kon, ev_glb, ev_bin, ev_neg, ev_cmp, ev_chn, ev_and, ev_or, ev_not, ev_ife, ev_call, ev_callk, ev_mth, ev_mk, ev_mkk, ev_b1, ev_b2, ev_isi, ev_ix, ev_sl, ev_lst, ev_tup, ev_newL, ev_newD, ev_lobj, ev_dsp, ev_dm, ev_join, ev_fld, exec_asg, exec_setI, exec_setF, exec_aug, exec_mut, exec_ifs, exec_ret, exec_retn, exec_brk, exec_cont, exec_exp, exec_rai, exec_fg, exec_pas, evT, evs, evTAnd, evTOr, evAnd, evOr, evP, evSrc, bo, bnd, frzAll, esT, esTs, esO, esc, escs, esS, escS, opd, opn, look, peek, ofO, cmpD, truthD, thenK, sweep, outR, outF, fresh, asgK, asgT, asgTs, put, binD, b1D, b2D, ixD, ixN, atI_0, atI_1, atI_2, atI_3, atI_4, eqv, eqvs, shp, shps, setK, setX, setO, setOb, isVar, unset, cellOf, frz, valOf, forL, forK, isiD, isiO, items, itemsS, seqs, lenD, fldD, isIns, isNon, isB, inT, mutOk, mutK, muD, ckS, ckC, okP, isDct, dctOf, Pd.getD, augK, setFK, fput, okP, dmD, low, lows, List.lookup, nth, hd, tl, b0, e6, h]
  rw [execs_step x7]
  rw [execs_step (ρ' := EV (.val (.scr ns)) (.own [.int s1, .int s2]) (.val (.lst wd)) (.val (.lst bd)) (.val (.lst vd)) (.val (.lst (L.map .int))) (.val (.int N1)) .un .un .un .un) (t' := [Pool.ob p4]) (by
    generalize L.map D.int = ld at *
    cases cl with
    | un => cases hcl
    | val d => simp only [frz] at hcl; cases hcl; simp [runF, ss, es, ts, gs, execs, ev_var, ev_kon, ev_glb, ev_bin, ev_neg, ev_cmp, ev_chn, ev_and, ev_or, ev_not, ev_ife, ev_call, ev_callk, ev_mth, ev_mk, ev_mkk, ev_b1, ev_b2, ev_isi, ev_ix, ev_sl, ev_lst, ev_tup, ev_newL, ev_newD, ev_lobj, ev_dsp, ev_dm, ev_join, ev_fld, exec_asg, exec_setI, exec_setF, exec_aug, exec_mut, exec_ifs, exec_ret, exec_retn, exec_brk, exec_cont, exec_exp, exec_rai, exec_fg, exec_pas, evT, evs, evTAnd, evTOr, evAnd, evOr, evP, evSrc, bo, bnd, frzAll, esT, esTs, esO, esc, escs, esS, escS, opd, opn, look, peek, ofO, cmpD, truthD, thenK, sweep, outR, outF, fresh, asgK, asgT, asgTs, put, binD, b1D, b2D, ixD, ixN, atI_0, atI_1, atI_2, atI_3, atI_4, eqv, eqvs, shp, shps, setK, setX, setO, setOb, isVar, unset, cellOf, frz, valOf, forL, forK, isiD, isiO, items, itemsS, seqs, lenD, fldD, isIns, isNon, isB, inT, mutOk, mutK, muD, ckS, ckC, okP, isDct, dctOf, Pd.getD, augK, setFK, fput, okP, dmD, low, lows, List.lookup, nth, hd, tl, b0, e7]
    | own ds => simp only [frz] at hcl; cases hcl; simp [runF, ss, es, ts, gs, execs, ev_var, ev_kon, ev_glb, ev_bin, ev_neg, ev_cmp, ev_chn, ev_and, ev_or, ev_not, ev_ife, ev_call, ev_callk, ev_mth, ev_mk, ev_mkk, ev_b1, ev_b2, ev_isi, ev_ix, ev_sl, ev_lst, ev_tup, ev_newL, ev_newD, ev_lobj, ev_dsp, ev_dm, ev_join, ev_fld, exec_asg, exec_setI, exec_setF, exec_aug, exec_mut, exec_ifs, exec_ret, exec_retn, exec_brk, exec_cont, exec_exp, exec_rai, exec_fg, exec_pas, evT, evs, evTAnd, evTOr, evAnd, evOr, evP, evSrc, bo, bnd, frzAll, esT, esTs, esO, esc, escs, esS, escS, opd, opn, look, peek, ofO, cmpD, truthD, thenK, sweep, outR, outF, fresh, asgK, asgT, asgTs, put, binD, b1D, b2D, ixD, ixN, atI_0, atI_1, atI_2, atI_3, atI_4, eqv, eqvs, shp, shps, setK, setX, setO, setOb, isVar, unset, cellOf, frz, valOf, forL, forK, isiD, isiO, items, itemsS, seqs, lenD, fldD, isIns, isNon, isB, inT, mutOk, mutK, muD, ckS, ckC, okP, isDct, dctOf, Pd.getD, augK, setFK, fput, okP, dmD, low, lows, List.lookup, nth, hd, tl, b0, e7]
    | loan ds => cases hcl)]
  have x9 : ev (cls' (n + 19)) (.comp (.seq (.var 6)) (.nm 16) [16] .yes (.b2 .min (.kon (.int 10)) (.bin .add (.var 16) (.var 7)))) (EV (.val (.scr ns)) (.own [.int s1, .int s2]) (.val (.lst wd)) (.val (.lst bd)) (.val (.lst vd)) (.val (.lst (L.map .int))) (.val (.int N1)) .un .un .un .un) [Pool.ob p4] = .ok (.lst ((L.map fun b => mn 10 (b + N1)).map .int)) [Pool.ob p4] :=
    comp_clip _ 6 _ _ L _ _ [16] (by simp [runF, ss, es, ts, gs, execs, ev_var, ev_kon, ev_glb, ev_bin, ev_neg, ev_cmp, ev_chn, ev_and, ev_or, ev_not, ev_ife, ev_call, ev_callk, ev_mth, ev_mk, ev_mkk, ev_b1, ev_b2, ev_isi, ev_ix, ev_sl, ev_lst, ev_tup, ev_newL, ev_newD, ev_lobj, ev_dsp, ev_dm, ev_join, ev_fld, exec_asg, exec_setI, exec_setF, exec_aug, exec_mut, exec_ifs, exec_ret, exec_retn, exec_brk, exec_cont, exec_exp, exec_rai, exec_fg, exec_pas, evT, evs, evTAnd, evTOr, evAnd, evOr, evP, evSrc, bo, bnd, frzAll, esT, esTs, esO, esc, escs, esS, escS, opd, opn, look, peek, ofO, cmpD, truthD, thenK, sweep, outR, outF, fresh, asgK, asgT, asgTs, put, binD, b1D, b2D, ixD, ixN, atI_0, atI_1, atI_2, atI_3, atI_4, eqv, eqvs, shp, shps, setK, setX, setO, setOb, isVar, unset, cellOf, frz, valOf, forL, forK, isiD, isiO, items, itemsS, seqs, lenD, fldD, isIns, isNon, isB, inT, mutOk, mutK, muD, ckS, ckC, okP, isDct, dctOf, Pd.getD, augK, setFK, fput, okP, dmD, low, lows, List.lookup]) rfl fun b => by simp [turnC, runF, ss, es, ts, gs, execs, ev_var, ev_kon, ev_glb, ev_bin, ev_neg, ev_cmp, ev_chn, ev_and, ev_or, ev_not, ev_ife, ev_call, ev_callk, ev_mth, ev_mk, ev_mkk, ev_b1, ev_b2, ev_isi, ev_ix, ev_sl, ev_lst, ev_tup, ev_newL, ev_newD, ev_lobj, ev_dsp, ev_dm, ev_join, ev_fld, exec_asg, exec_setI, exec_setF, exec_aug, exec_mut, exec_ifs, exec_ret, exec_retn, exec_brk, exec_cont, exec_exp, exec_rai, exec_fg, exec_pas, evT, evs, evTAnd, evTOr, evAnd, evOr, evP, evSrc, bo, bnd, frzAll, esT, esTs, esO, esc, escs, esS, escS, opd, opn, look, peek, ofO, cmpD, truthD, thenK, sweep, outR, outF, fresh, asgK, asgT, asgTs, put, binD, b1D, b2D, ixD, ixN, atI_0, atI_1, atI_2, atI_3, atI_4, eqv, eqvs, shp, shps, setK, setX, setO, setOb, isVar, unset, cellOf, frz, valOf, forL, forK, isiD, isiO, items, itemsS, seqs, lenD, fldD, isIns, isNon, isB, inT, mutOk, mutK, muD, ckS, ckC, okP, isDct, dctOf, Pd.getD, augK, setFK, fput, okP, dmD, low, lows, List.lookup, mn]
  rw [execs_step (ρ' := EV (.val (.scr ns)) (.own [.int s1, .int s2]) (.val (.lst wd)) (.val (.lst bd)) (.val (.lst vd)) (.val (.lst (L.map .int))) (.val (.int N1)) (.own ((L.map fun b => mn 10 (b + N1)).map .int)) .un .un .un) (t' := [Pool.ob p4]) (by
    generalize (L.map fun b => mn 10 (b + N1)).map D.int = z1 at *
    generalize L.map D.int = ld at *
    simp [runF, ss, es, ts, gs, execs, ev_var, ev_kon, ev_glb, ev_bin, ev_neg, ev_cmp, ev_chn, ev_and, ev_or, ev_not, ev_ife, ev_call, ev_callk, ev_mth, ev_mk, ev_mkk, ev_b1, ev_b2, ev_isi, ev_ix, ev_sl, ev_lst, ev_tup, ev_newL, ev_newD, ev_lobj, ev_dsp, ev_dm, ev_join, ev_fld, exec_asg, exec_setI, exec_setF, exec_aug, exec_mut, exec_ifs, exec_ret, exec_retn, exec_brk, exec_cont, exec_exp, exec_rai, exec_fg, exec_pas, evT, evs, evTAnd, evTOr, evAnd, evOr, evP, evSrc, bo, bnd, frzAll, esT, esTs, esO, esc, escs, esS, escS, opd, opn, look, peek, ofO, cmpD, truthD, thenK, sweep, outR, outF, fresh, asgK, asgT, asgTs, put, binD, b1D, b2D, ixD, ixN, atI_0, atI_1, atI_2, atI_3, atI_4, eqv, eqvs, shp, shps, setK, setX, setO, setOb, isVar, unset, cellOf, frz, valOf, forL, forK, isiD, isiO, items, itemsS, seqs, lenD, fldD, isIns, isNon, isB, inT, mutOk, mutK, muD, ckS, ckC, okP, isDct, dctOf, Pd.getD, augK, setFK, fput, okP, dmD, low, lows, List.lookup, nth, hd, tl, b0, x9])]
  generalize hz1 : (L.map fun b => mn 10 (b + N1)).map D.int = z1 at *
  have x10 : ev (cls' (n + 19)) (.comp (.seq (.var 6)) (.nm 16) [16] .yes (.b2 .min (.kon (.int 10)) (.bin .sub (.bin .add (.var 16) (.var 7)) (.kon (.int 1))))) (EV (.val (.scr ns)) (.own [.int s1, .int s2]) (.val (.lst wd)) (.val (.lst bd)) (.val (.lst vd)) (.val (.lst (L.map .int))) (.val (.int N1)) (.own z1) .un .un .un) [Pool.ob p4] = .ok (.lst ((L.map fun b => mn 10 (b + (N1 - 1))).map .int)) [Pool.ob p4] :=
    comp_clip _ 6 _ _ L _ _ [16] (by simp [runF, ss, es, ts, gs, execs, ev_var, ev_kon, ev_glb, ev_bin, ev_neg, ev_cmp, ev_chn, ev_and, ev_or, ev_not, ev_ife, ev_call, ev_callk, ev_mth, ev_mk, ev_mkk, ev_b1, ev_b2, ev_isi, ev_ix, ev_sl, ev_lst, ev_tup, ev_newL, ev_newD, ev_lobj, ev_dsp, ev_dm, ev_join, ev_fld, exec_asg, exec_setI, exec_setF, exec_aug, exec_mut, exec_ifs, exec_ret, exec_retn, exec_brk, exec_cont, exec_exp, exec_rai, exec_fg, exec_pas, evT, evs, evTAnd, evTOr, evAnd, evOr, evP, evSrc, bo, bnd, frzAll, esT, esTs, esO, esc, escs, esS, escS, opd, opn, look, peek, ofO, cmpD, truthD, thenK, sweep, outR, outF, fresh, asgK, asgT, asgTs, put, binD, b1D, b2D, ixD, ixN, atI_0, atI_1, atI_2, atI_3, atI_4, eqv, eqvs, shp, shps, setK, setX, setO, setOb, isVar, unset, cellOf, frz, valOf, forL, forK, isiD, isiO, items, itemsS, seqs, lenD, fldD, isIns, isNon, isB, inT, mutOk, mutK, muD, ckS, ckC, okP, isDct, dctOf, Pd.getD, augK, setFK, fput, okP, dmD, low, lows, List.lookup]) rfl fun b => by
      have : b + N1 - 1 = b + (N1 - 1) := by omega
      simp [turnC, runF, ss, es, ts, gs, execs, ev_var, ev_kon, ev_glb, ev_bin, ev_neg, ev_cmp, ev_chn, ev_and, ev_or, ev_not, ev_ife, ev_call, ev_callk, ev_mth, ev_mk, ev_mkk, ev_b1, ev_b2, ev_isi, ev_ix, ev_sl, ev_lst, ev_tup, ev_newL, ev_newD, ev_lobj, ev_dsp, ev_dm, ev_join, ev_fld, exec_asg, exec_setI, exec_setF, exec_aug, exec_mut, exec_ifs, exec_ret, exec_retn, exec_brk, exec_cont, exec_exp, exec_rai, exec_fg, exec_pas, evT, evs, evTAnd, evTOr, evAnd, evOr, evP, evSrc, bo, bnd, frzAll, esT, esTs, esO, esc, escs, esS, escS, opd, opn, look, peek, ofO, cmpD, truthD, thenK, sweep, outR, outF, fresh, asgK, asgT, asgTs, put, binD, b1D, b2D, ixD, ixN, atI_0, atI_1, atI_2, atI_3, atI_4, eqv, eqvs, shp, shps, setK, setX, setO, setOb, isVar, unset, cellOf, frz, valOf, forL, forK, isiD, isiO, items, itemsS, seqs, lenD, fldD, isIns, isNon, isB, inT, mutOk, mutK, muD, ckS, ckC, okP, isDct, dctOf, Pd.getD, augK, setFK, fput, okP, dmD, low, lows, List.lookup, mn, this]
  generalize hz2 : (L.map fun b => mn 10 (b + (N1 - 1))).map D.int = z2 at *
  rw [execs_step (ρ' := EV (.val (.scr ns)) (.own [.int s1, .int s2]) (.val (.lst wd)) (.val (.lst bd)) (.val (.lst vd)) (.own z2) (.val (.int N1)) (.own z1) .un .un .un) (t' := [Pool.ob p4]) (by
    generalize L.map D.int = ld at *
    simp [runF, ss, es, ts, gs, execs, ev_var, ev_kon, ev_glb, ev_bin, ev_neg, ev_cmp, ev_chn, ev_and, ev_or, ev_not, ev_ife, ev_call, ev_callk, ev_mth, ev_mk, ev_mkk, ev_b1, ev_b2, ev_isi, ev_ix, ev_sl, ev_lst, ev_tup, ev_newL, ev_newD, ev_lobj, ev_dsp, ev_dm, ev_join, ev_fld, exec_asg, exec_setI, exec_setF, exec_aug, exec_mut, exec_ifs, exec_ret, exec_retn, exec_brk, exec_cont, exec_exp, exec_rai, exec_fg, exec_pas, evT, evs, evTAnd, evTOr, evAnd, evOr, evP, evSrc, bo, bnd, frzAll, esT, esTs, esO, esc, escs, esS, escS, opd, opn, look, peek, ofO, cmpD, truthD, thenK, sweep, outR, outF, fresh, asgK, asgT, asgTs, put, binD, b1D, b2D, ixD, ixN, atI_0, atI_1, atI_2, atI_3, atI_4, eqv, eqvs, shp, shps, setK, setX, setO, setOb, isVar, unset, cellOf, frz, valOf, forL, forK, isiD, isiO, items, itemsS, seqs, lenD, fldD, isIns, isNon, isB, inT, mutOk, mutK, muD, ckS, ckC, okP, isDct, dctOf, Pd.getD, augK, setFK, fput, okP, dmD, low, lows, List.lookup, nth, hd, tl, b0, x10])]
  rw [execs_step (ρ' := EV (.val (.scr ns)) (.own [.int s1, .int s2]) (.val (.lst wd)) (.val (.lst bd)) (.val (.lst vd)) (.own z2) (.val (.int N1)) (.own z1) (.val (.int N2)) .un .un) (t' := [Pool.ob p4]) (by
    simp [runF, ss, es, ts, gs, execs, ev_var, ev_kon, ev_glb, ev_bin, ev_neg, ev_cmp, ev_chn, ev_and, ev_or, ev_not, ev_ife, ev_call, ev_callk, ev_mth, ev_mk, ev_mkk, ev_b1, ev_b2, ev_isi, ev_ix, ev_sl, ev_lst, ev_tup, ev_newL, ev_newD, ev_lobj, ev_dsp, ev_dm, ev_join, ev_fld, exec_asg, exec_setI, exec_setF, exec_aug, exec_mut, exec_ifs, exec_ret, exec_retn, exec_brk, exec_cont, exec_exp, exec_rai, exec_fg, exec_pas, evT, evs, evTAnd, evTOr, evAnd, evOr, evP, evSrc, bo, bnd, frzAll, esT, esTs, esO, esc, escs, esS, escS, opd, opn, look, peek, ofO, cmpD, truthD, thenK, sweep, outR, outF, fresh, asgK, asgT, asgTs, put, binD, b1D, b2D, ixD, ixN, atI_0, atI_1, atI_2, atI_3, atI_4, eqv, eqvs, shp, shps, setK, setX, setO, setOb, isVar, unset, cellOf, frz, valOf, forL, forK, isiD, isiO, items, itemsS, seqs, lenD, fldD, isIns, isNon, isB, inT, mutOk, mutK, muD, ckS, ckC, okP, isDct, dctOf, Pd.getD, augK, setFK, fput, okP, dmD, low, lows, List.lookup, nth, hd, tl, b0, e8])]
  have x12 : ev (cls' (n + 19)) (.comp (.seq (.var 4)) (.nm 16) [16] .yes (.b2 .min (.kon (.int 10)) (.bin .add (.var 16) (.b2 .max (.kon (.int 0)) (.var 9))))) (EV (.val (.scr ns)) (.own [.int s1, .int s2]) (.val (.lst wd)) (.val (.lst bd)) (.val (.lst vd)) (.own z2) (.val (.int N1)) (.own z1) (.val (.int N2)) .un .un) [Pool.ob p4] = .ok (.lst ((B.map fun b => mn 10 (b + mx 0 N2)).map .int)) [Pool.ob p4] :=
    comp_clip _ 4 _ _ B _ _ [16] (by simp [runF, ss, es, ts, gs, execs, ev_var, ev_kon, ev_glb, ev_bin, ev_neg, ev_cmp, ev_chn, ev_and, ev_or, ev_not, ev_ife, ev_call, ev_callk, ev_mth, ev_mk, ev_mkk, ev_b1, ev_b2, ev_isi, ev_ix, ev_sl, ev_lst, ev_tup, ev_newL, ev_newD, ev_lobj, ev_dsp, ev_dm, ev_join, ev_fld, exec_asg, exec_setI, exec_setF, exec_aug, exec_mut, exec_ifs, exec_ret, exec_retn, exec_brk, exec_cont, exec_exp, exec_rai, exec_fg, exec_pas, evT, evs, evTAnd, evTOr, evAnd, evOr, evP, evSrc, bo, bnd, frzAll, esT, esTs, esO, esc, escs, esS, escS, opd, opn, look, peek, ofO, cmpD, truthD, thenK, sweep, outR, outF, fresh, asgK, asgT, asgTs, put, binD, b1D, b2D, ixD, ixN, atI_0, atI_1, atI_2, atI_3, atI_4, eqv, eqvs, shp, shps, setK, setX, setO, setOb, isVar, unset, cellOf, frz, valOf, forL, forK, isiD, isiO, items, itemsS, seqs, lenD, fldD, isIns, isNon, isB, inT, mutOk, mutK, muD, ckS, ckC, okP, isDct, dctOf, Pd.getD, augK, setFK, fput, okP, dmD, low, lows, List.lookup, hbd]) rfl fun b => by simp [turnC, runF, ss, es, ts, gs, execs, ev_var, ev_kon, ev_glb, ev_bin, ev_neg, ev_cmp, ev_chn, ev_and, ev_or, ev_not, ev_ife, ev_call, ev_callk, ev_mth, ev_mk, ev_mkk, ev_b1, ev_b2, ev_isi, ev_ix, ev_sl, ev_lst, ev_tup, ev_newL, ev_newD, ev_lobj, ev_dsp, ev_dm, ev_join, ev_fld, exec_asg, exec_setI, exec_setF, exec_aug, exec_mut, exec_ifs, exec_ret, exec_retn, exec_brk, exec_cont, exec_exp, exec_rai, exec_fg, exec_pas, evT, evs, evTAnd, evTOr, evAnd, evOr, evP, evSrc, bo, bnd, frzAll, esT, esTs, esO, esc, escs, esS, escS, opd, opn, look, peek, ofO, cmpD, truthD, thenK, sweep, outR, outF, fresh, asgK, asgT, asgTs, put, binD, b1D, b2D, ixD, ixN, atI_0, atI_1, atI_2, atI_3, atI_4, eqv, eqvs, shp, shps, setK, setX, setO, setOb, isVar, unset, cellOf, frz, valOf, forL, forK, isiD, isiO, items, itemsS, seqs, lenD, fldD, isIns, isNon, isB, inT, mutOk, mutK, muD, ckS, ckC, okP, isDct, dctOf, Pd.getD, augK, setFK, fput, okP, dmD, low, lows, List.lookup, mn, mx]
  generalize hz3 : (B.map fun b => mn 10 (b + mx 0 N2)).map D.int = z3 at *
  rw [execs_step (ρ' := EV (.val (.scr ns)) (.own [.int s1, .int s2]) (.val (.lst wd)) (.val (.lst bd)) (.val (.lst vd)) (.own z2) (.val (.int N1)) (.own z1) (.val (.int N2)) (.own [.lst [.lst wd, .lst bd, .lst z3, .int N2]]) .un) (t' := [Pool.ob p4]) (by
    simp [runF, ss, es, ts, gs, execs, ev_var, ev_kon, ev_glb, ev_bin, ev_neg, ev_cmp, ev_chn, ev_and, ev_or, ev_not, ev_ife, ev_call, ev_callk, ev_mth, ev_mk, ev_mkk, ev_b1, ev_b2, ev_isi, ev_ix, ev_sl, ev_lst, ev_tup, ev_newL, ev_newD, ev_lobj, ev_dsp, ev_dm, ev_join, ev_fld, exec_asg, exec_setI, exec_setF, exec_aug, exec_mut, exec_ifs, exec_ret, exec_retn, exec_brk, exec_cont, exec_exp, exec_rai, exec_fg, exec_pas, evT, evs, evTAnd, evTOr, evAnd, evOr, evP, evSrc, bo, bnd, frzAll, esT, esTs, esO, esc, escs, esS, escS, opd, opn, look, peek, ofO, cmpD, truthD, thenK, sweep, outR, outF, fresh, asgK, asgT, asgTs, put, binD, b1D, b2D, ixD, ixN, atI_0, atI_1, atI_2, atI_3, atI_4, eqv, eqvs, shp, shps, setK, setX, setO, setOb, isVar, unset, cellOf, frz, valOf, forL, forK, isiD, isiO, items, itemsS, seqs, lenD, fldD, isIns, isNon, isB, inT, mutOk, mutK, muD, ckS, ckC, okP, isDct, dctOf, Pd.getD, augK, setFK, fput, okP, dmD, low, lows, List.lookup, nth, hd, tl, b0, x12])]
  rw [execs_step (ρ' := EV (.val (.scr ns)) (.own [.int s1, .int s2]) (.val (.lst wd)) (.val (.lst bd)) (.val (.lst vd)) (.val (.lst z2)) (.val (.int N1)) (.val (.lst z1)) (.val (.int N2)) (.own [.lst [.lst wd, .lst bd, .lst z3, .int N2], .lst [.lst vd, .lst z2, .lst z1, .int N3]]) .un) (t' := [Pool.ob p4]) (by
    simp [runF, ss, es, ts, gs, execs, ev_var, ev_kon, ev_glb, ev_bin, ev_neg, ev_cmp, ev_chn, ev_and, ev_or, ev_not, ev_ife, ev_call, ev_callk, ev_mth, ev_mk, ev_mkk, ev_b1, ev_b2, ev_isi, ev_ix, ev_sl, ev_lst, ev_tup, ev_newL, ev_newD, ev_lobj, ev_dsp, ev_dm, ev_join, ev_fld, exec_asg, exec_setI, exec_setF, exec_aug, exec_mut, exec_ifs, exec_ret, exec_retn, exec_brk, exec_cont, exec_exp, exec_rai, exec_fg, exec_pas, evT, evs, evTAnd, evTOr, evAnd, evOr, evP, evSrc, bo, bnd, frzAll, esT, esTs, esO, esc, escs, esS, escS, opd, opn, look, peek, ofO, cmpD, truthD, thenK, sweep, outR, outF, fresh, asgK, asgT, asgTs, put, binD, b1D, b2D, ixD, ixN, atI_0, atI_1, atI_2, atI_3, atI_4, eqv, eqvs, shp, shps, setK, setX, setO, setOb, isVar, unset, cellOf, frz, valOf, forL, forK, isiD, isiO, items, itemsS, seqs, lenD, fldD, isIns, isNon, isB, inT, mutOk, mutK, muD, ckS, ckC, okP, isDct, dctOf, Pd.getD, augK, setFK, fput, okP, dmD, low, lows, List.lookup, nth, hd, tl, b0, e9, sz])]
  rw [execs_step (ρ' := EV (.val (.scr ns)) (.own [.int s1, .int s2]) (.val (.lst wd)) (.val (.lst bd)) (.val (.lst vd)) (.val (.lst z2)) (.val (.int N1)) (.val (.lst z1)) (.val (.int N2)) (.own [.lst [.lst wd, .lst bd, .lst z3, .int N2], .lst [.lst vd, .lst z2, .lst z1, .int N3], .lst [.lst vd, .lst z1, .lst z1, .int N4]]) .un) (t' := [Pool.ob p4]) (by
    simp [runF, ss, es, ts, gs, execs, ev_var, ev_kon, ev_glb, ev_bin, ev_neg, ev_cmp, ev_chn, ev_and, ev_or, ev_not, ev_ife, ev_call, ev_callk, ev_mth, ev_mk, ev_mkk, ev_b1, ev_b2, ev_isi, ev_ix, ev_sl, ev_lst, ev_tup, ev_newL, ev_newD, ev_lobj, ev_dsp, ev_dm, ev_join, ev_fld, exec_asg, exec_setI, exec_setF, exec_aug, exec_mut, exec_ifs, exec_ret, exec_retn, exec_brk, exec_cont, exec_exp, exec_rai, exec_fg, exec_pas, evT, evs, evTAnd, evTOr, evAnd, evOr, evP, evSrc, bo, bnd, frzAll, esT, esTs, esO, esc, escs, esS, escS, opd, opn, look, peek, ofO, cmpD, truthD, thenK, sweep, outR, outF, fresh, asgK, asgT, asgTs, put, binD, b1D, b2D, ixD, ixN, atI_0, atI_1, atI_2, atI_3, atI_4, eqv, eqvs, shp, shps, setK, setX, setO, setOb, isVar, unset, cellOf, frz, valOf, forL, forK, isiD, isiO, items, itemsS, seqs, lenD, fldD, isIns, isNon, isB, inT, mutOk, mutK, muD, ckS, ckC, okP, isDct, dctOf, Pd.getD, augK, setFK, fput, okP, dmD, low, lows, List.lookup, nth, hd, tl, b0, e10, sz])]
  rw [execs_step (ρ' := EV (.val (.scr ns)) (.own [.int s1, .int s2]) (.val (.lst wd)) (.val (.lst bd)) (.val (.lst vd)) (.val (.lst z2)) (.val (.int N1)) (.val (.lst z1)) (.val (.int N2)) (.own [.lst [.lst wd, .lst bd, .lst z3, .int N2], .lst [.lst vd, .lst z2, .lst z1, .int N3], .lst [.lst vd, .lst z1, .lst z1, .int N4]]) (.own [])) (t' := [Pool.ob p4]) (by
    simp [runF, ss, es, ts, gs, execs, ev_var, ev_kon, ev_glb, ev_bin, ev_neg, ev_cmp, ev_chn, ev_and, ev_or, ev_not, ev_ife, ev_call, ev_callk, ev_mth, ev_mk, ev_mkk, ev_b1, ev_b2, ev_isi, ev_ix, ev_sl, ev_lst, ev_tup, ev_newL, ev_newD, ev_lobj, ev_dsp, ev_dm, ev_join, ev_fld, exec_asg, exec_setI, exec_setF, exec_aug, exec_mut, exec_ifs, exec_ret, exec_retn, exec_brk, exec_cont, exec_exp, exec_rai, exec_fg, exec_pas, evT, evs, evTAnd, evTOr, evAnd, evOr, evP, evSrc, bo, bnd, frzAll, esT, esTs, esO, esc, escs, esS, escS, opd, opn, look, peek, ofO, cmpD, truthD, thenK, sweep, outR, outF, fresh, asgK, asgT, asgTs, put, binD, b1D, b2D, ixD, ixN, atI_0, atI_1, atI_2, atI_3, atI_4, eqv, eqvs, shp, shps, setK, setX, setO, setOb, isVar, unset, cellOf, frz, valOf, forL, forK, isiD, isiO, items, itemsS, seqs, lenD, fldD, isIns, isNon, isB, inT, mutOk, mutK, muD, ckS, ckC, okP, isDct, dctOf, Pd.getD, augK, setFK, fput, okP, dmD, low, lows, List.lookup, nth, hd, tl, b0])]
  rfl
end K85
set_option maxRecDepth 100000
set_option linter.all false
set_option autoImplicit false
/-! the law's loops -/
namespace K85
open Pd Pt
abbrev EX (s x2 x3 x4 x5 x6 x7 x8 x9 a b c12 c13 c14 c15 : Cell) : Env := [s, .val (.obj 0), x2, x3, x4, x5, x6, x7, x8, x9, a, b, c12, c13, c14, c15, .un, .un]
def gL : S := nth 16 b0
def tLp : S := nth 17 b0
def kLp : S := hd (bodyOf tLp)
theorem gL_eq : gL = .for (.nm 12) (.seq (.var 10)) (bodyOf gL) [12, 14] := rfl
theorem tLp_eq : tLp = .for (.nm 13) (.rng (.kon (.int 2))) (.cons kLp .nil) [12, 13, 15] := rfl
theorem kLp_eq : kLp = .for (.nm 15) (.rng (.kon (.int 3))) (bodyOf kLp) [12, 15] := rfl
theorem forL_step {ck : T → Bool} {f : D → Env → T → Out} {fg : List Nat} {x : D} {xs : List D} {ρ ρ' : Env} {t t' : T} (hc : ck t = true) (h : f x ρ t = .nx ρ' t') : forL ck f fg (x :: xs) ρ t = forL ck f fg xs (unset ρ' fg) t' := by
  simp only [forL, hc, if_true, h]
section
variable (s x2 x3 x4 x5 x6 x7 x8 x9 a : Cell)
theorem gTurn (n : Nat) (w : Wo) (gx : List D) (p : Pool) (b : Int) (r : T) (hl : gx.length < 100) (hb : b < 800000) (o : Ok p b) :
    ∃ g k p' r', forK (.nm 12) (fun ρ t => execs (cls' (n + 7)) (bodyOf gL) ρ t) w.D (EX s x2 x3 x4 x5 x6 x7 x8 x9 a (.own gx) .un .un .un .un) (p.ob :: r) = .nx (EX s x2 x3 x4 x5 x6 x7 x8 x9 a (.own (gx ++ [.obj g])) (.val w.D) .un (.val (.obj g)) .un) (Pool.ob p' :: r') ∧ Ok p' (b + 2) ∧ Gm g k w.ws w.B w.pl (Pool.ob p' :: r') ∧ Fr (fun i => i = 0) (p.ob :: r) (Pool.ob p' :: r') ∧ (p.ob :: r).length ≤ g ∧ (p.ob :: r).length ≤ k := by
  have := w.top
  obtain ⟨g, k, p', r', e, h⟩ := c_begun n p b r w.wd w.one (by omega) w.hpl w.lB w.pB hb o
  refine ⟨g, k, p', r', ?_, h⟩
  have hl2 : gx.length < sz := by unfold sz; omega
  unfold Wo.D
  generalize w.ws.map D.str = d1 at *
  generalize w.B.map D.int = d2 at *
  generalize w.C.map D.int = d3 at *
  generalize NA w.ws w.B w.pl = d4 at *
  simp [runF, ss, es, ts, gs, execs, ev_var, ev_kon, ev_glb, ev_bin, ev_neg, ev_cmp, ev_chn, ev_and, ev_or, ev_not, ev_ife, ev_call, ev_callk, ev_mth, ev_mk, ev_mkk, ev_b1, ev_b2, ev_isi, ev_ix, ev_sl, ev_lst, ev_tup, ev_newL, ev_newD, ev_lobj, ev_dsp, ev_dm, ev_join, ev_fld, exec_asg, exec_setI, exec_setF, exec_aug, exec_mut, exec_ifs, exec_ret, exec_retn, exec_brk, exec_cont, exec_exp, exec_rai, exec_fg, exec_pas, evT, evs, evTAnd, evTOr, evAnd, evOr, evP, evSrc, bo, bnd, frzAll, esT, esTs, esO, esc, escs, esS, escS, opd, opn, look, peek, ofO, cmpD, truthD, thenK, sweep, outR, outF, fresh, asgK, asgT, asgTs, put, binD, b1D, b2D, ixD, ixN, atI_0, atI_1, atI_2, atI_3, atI_4, eqv, eqvs, shp, shps, setK, setX, setO, setOb, isVar, unset, cellOf, frz, valOf, forL, forK, isiD, isiO, items, itemsS, seqs, lenD, fldD, isIns, isNon, isB, inT, mutOk, mutK, muD, ckS, ckC, okP, isDct, dctOf, Pd.getD, augK, setFK, fput, okP, dmD, low, lows, List.lookup, gL, nth, bodyOf, hd, tl, b0, e, hl2]
theorem dTurn (n : Nat) (j : Int) (c13 : Cell) (w : Wo) (g k : Nat) (wl gx : List D) (p : Pool) (b : Int) (r : T) (hw : atI wl j = some w.D) (hg : atI gx j = some (.obj g)) (G : Gm g k w.ws w.B w.pl (p.ob :: r)) (hg0 : g ≠ 0) (hk0 : k ≠ 0) (hb : b < 800000) (o : Ok p b) :
    ∃ p' r', forK (.nm 15) (fun ρ t => execs (cls' (n + 38)) (bodyOf kLp) ρ t) (.int j) (EX s x2 x3 x4 x5 x6 x7 x8 x9 (.val (.lst wl)) (.own gx) .un c13 .un .un) (p.ob :: r) = .nx (EX s x2 x3 x4 x5 x6 x7 x8 x9 (.val (.lst wl)) (.own gx) (.val w.D) c13 .un (.val (.int j))) (Pool.ob p' :: r') ∧ Ok p' (b + 4) ∧ Gm g k w.ws w.B w.pl (Pool.ob p' :: r') ∧ Fr (fun i => i = 0 ∨ i = k) (p.ob :: r) (Pool.ob p' :: r') := by
  obtain ⟨p', r', e, h⟩ := c_asDue n p b r G hg0 hk0 w.top w.lC w.pC w.nC hb o
  refine ⟨p', r', ?_, h⟩
  unfold Wo.D at hw ⊢
  generalize w.ws.map D.str = d1 at *
  generalize w.B.map D.int = d2 at *
  generalize w.C.map D.int = d3 at *
  have e : call prg (n + 38) 8 [.obj 0, .obj g, .lst d1, .lst d2, .lst d3, .int (NA w.ws w.B w.pl)] (p.ob :: r) = .ok (.bl true) (Pool.ob p' :: r') := e
  generalize NA w.ws w.B w.pl = d4 at *
  simp [runF, ss, es, ts, gs, execs, ev_var, ev_kon, ev_glb, ev_bin, ev_neg, ev_cmp, ev_chn, ev_and, ev_or, ev_not, ev_ife, ev_call, ev_callk, ev_mth, ev_mk, ev_mkk, ev_b1, ev_b2, ev_isi, ev_ix, ev_sl, ev_lst, ev_tup, ev_newL, ev_newD, ev_lobj, ev_dsp, ev_dm, ev_join, ev_fld, exec_asg, exec_setI, exec_setF, exec_aug, exec_mut, exec_ifs, exec_ret, exec_retn, exec_brk, exec_cont, exec_exp, exec_rai, exec_fg, exec_pas, evT, evs, evTAnd, evTOr, evAnd, evOr, evP, evSrc, bo, bnd, frzAll, esT, esTs, esO, esc, escs, esS, escS, opd, opn, look, peek, ofO, cmpD, truthD, thenK, sweep, outR, outF, fresh, asgK, asgT, asgTs, put, binD, b1D, b2D, ixD, ixN, atI_0, atI_1, atI_2, atI_3, atI_4, eqv, eqvs, shp, shps, setK, setX, setO, setOb, isVar, unset, cellOf, frz, valOf, forL, forK, isiD, isiO, items, itemsS, seqs, lenD, fldD, isIns, isNon, isB, inT, mutOk, mutK, muD, ckS, ckC, okP, isDct, dctOf, Pd.getD, augK, setFK, fput, okP, dmD, low, lows, List.lookup, kLp, tLp, nth, bodyOf, hd, tl, b0, hw, hg, e]
end
/-- the games are good -/
structure PG (w1 w2 w3 : Wo) (g1 k1 g2 k2 g3 k3 : Nat) (b : Int) (t : T) : Prop where
  pool : ∃ p r, t = Pool.ob p :: r ∧ Ok p b
  a : Gm g1 k1 w1.ws w1.B w1.pl t
  b : Gm g2 k2 w2.ws w2.B w2.pl t
  c : Gm g3 k3 w3.ws w3.B w3.pl t
theorem law (ns : List Int) : ∃ t', call prg 41 0 [.scr ns] [] = .ok (.bl true) t' := by
  obtain ⟨w1, w2, w3, p, x2, x3, x4, x5, x6, x7, x8, x9, o, e1⟩ := start 21 ns
  have e1 : execs (cls' 40) b0 (EV (.val (.scr ns)) .un .un .un .un .un .un .un .un .un .un) [] = execs (cls' 40) (drp 16 b0) (EV (.val (.scr ns)) x2 x3 x4 x5 x6 x7 x8 x9 (.own [w1.D, w2.D, w3.D]) (.own [])) [p.ob] := e1
  generalize hs : Cell.val (.scr ns) = s at e1
  generalize hwl : [w1.D, w2.D, w3.D] = wl at e1
  -- the games
  obtain ⟨g1, k1, p1, r1, y1, o1, G1, f1, l1, m1⟩ := gTurn s x2 x3 x4 x5 x6 x7 x8 x9 (.val (.lst wl)) 33 w1 [] p 1000 [] (by simp) (by omega) o
  obtain ⟨g2, k2, p2', r2, y2, o2, G2, f2, l2, m2⟩ := gTurn s x2 x3 x4 x5 x6 x7 x8 x9 (.val (.lst wl)) 33 w2 [.obj g1] p1 (1000 + 2) r1 (by simp) (by omega) o1
  obtain ⟨g3, k3, p3, r3, y3, o3, G3, f3, l3, m3⟩ := gTurn s x2 x3 x4 x5 x6 x7 x8 x9 (.val (.lst wl)) 33 w3 [.obj g1, .obj g2] p2' (1000 + 2 + 2) r2 (by simp) (by omega) o2
  have z1 := (List.getElem?_eq_some_iff.mp G1.ob).1
  have z2 := G1.lt
  have z3 := (List.getElem?_eq_some_iff.mp G2.ob).1
  have z4 := G2.lt
  have z5 := (List.getElem?_eq_some_iff.mp G3.ob).1
  have z6 := G3.lt
  have z7 := G1.ne
  have z8 := G2.ne
  have z9 := G3.ne
  have l0 : 1 ≤ (p.ob :: ([] : T)).length := by simp
  have hf1 := f1.1
  have hf2 := f2.1
  have hf3 := f3.1
  have G1' := (G1.fr f2 (by omega) (by omega)).fr f3 (by omega) (by omega)
  have G2' := G2.fr f3 (by omega) (by omega)
  have x16 : exec (cls' 40) gL (EV s x2 x3 x4 x5 x6 x7 x8 x9 (.own wl) (.own [])) [p.ob] = .nx (EX s x2 x3 x4 x5 x6 x7 x8 x9 (.val (.lst wl)) (.own [.obj g1, .obj g2, .obj g3]) .un .un .un .un) (Pool.ob p3 :: r3) := by
    rw [gL_eq]
    refine exec_forOf (xs := wl) (t1 := [p.ob]) rfl ?_
    subst hwl
    show forL (fun _ => true) _ _ _ (EX s x2 x3 x4 x5 x6 x7 x8 x9 (.val (.lst [w1.D, w2.D, w3.D])) (.own []) .un .un .un .un) _ = _
    rw [forL_step rfl y1]
    show forL (fun _ => true) _ _ _ (EX s x2 x3 x4 x5 x6 x7 x8 x9 (.val (.lst [w1.D, w2.D, w3.D])) (.own [.obj g1]) .un .un .un .un) _ = _
    rw [forL_step rfl y2]
    show forL (fun _ => true) _ _ _ (EX s x2 x3 x4 x5 x6 x7 x8 x9 (.val (.lst [w1.D, w2.D, w3.D])) (.own [.obj g1, .obj g2]) .un .un .un .un) _ = _
    rw [forL_step rfl y3]
    rfl
  have hwl0 : atI wl 0 = some w1.D := by rw [← hwl]; rfl
  have hwl1 : atI wl 1 = some w2.D := by rw [← hwl]; rfl
  have hwl2 : atI wl 2 = some w3.D := by rw [← hwl]; rfl
  -- inner turns
  have inner : ∀ (c13 : Cell) (b : Int) (t : T), b < 10000 → PG w1 w2 w3 g1 k1 g2 k2 g3 k3 b t → ∃ t', exec (cls' 40) kLp (EX s x2 x3 x4 x5 x6 x7 x8 x9 (.val (.lst wl)) (.own [.obj g1, .obj g2, .obj g3]) .un c13 .un .un) t = .nx (EX s x2 x3 x4 x5 x6 x7 x8 x9 (.val (.lst wl)) (.own [.obj g1, .obj g2, .obj g3]) .un c13 .un .un) t' ∧ PG w1 w2 w3 g1 k1 g2 k2 g3 k3 (b + 12) t' := fun c13 b t hb P => by
    obtain ⟨⟨p, r, rfl, o⟩, Ga, Gb, Gc⟩ := P
    obtain ⟨p1, r1, d1, q1, Ga1, h1⟩ := dTurn s x2 x3 x4 x5 x6 x7 x8 x9 2 0 c13 w1 g1 k1 wl [.obj g1, .obj g2, .obj g3] p b r hwl0 rfl Ga (by omega) (by omega) (by omega) o
    have Gb1 := Gb.fr h1 (by omega) (by omega)
    have Gc1 := Gc.fr h1 (by omega) (by omega)
    obtain ⟨p2, r2, d2, q2, Gb2, h2⟩ := dTurn s x2 x3 x4 x5 x6 x7 x8 x9 2 1 c13 w2 g2 k2 wl [.obj g1, .obj g2, .obj g3] p1 (b + 4) r1 hwl1 rfl Gb1 (by omega) (by omega) (by omega) q1
    have Ga2 := Ga1.fr h2 (by omega) (by omega)
    have Gc2 := Gc1.fr h2 (by omega) (by omega)
    obtain ⟨p3, r3, d3, q3, Gc3, h3⟩ := dTurn s x2 x3 x4 x5 x6 x7 x8 x9 2 2 c13 w3 g3 k3 wl [.obj g1, .obj g2, .obj g3] p2 (b + 4 + 4) r2 hwl2 rfl Gc2 (by omega) (by omega) (by omega) q2
    have Ga3 := Ga2.fr h3 (by omega) (by omega)
    have Gb3 := Gb2.fr h3 (by omega) (by omega)
    refine ⟨_, ?_, ⟨p3, r3, rfl, q3.mono (by omega)⟩, Ga3, Gb3, Gc3⟩
    rw [kLp_eq]
    refine exec_forOf (xs := [.int 0, .int 1, .int 2]) (t1 := p.ob :: r) rfl ?_
    show forL (fun _ => true) _ _ _ (EX s x2 x3 x4 x5 x6 x7 x8 x9 (.val (.lst wl)) (.own [.obj g1, .obj g2, .obj g3]) .un c13 .un .un) _ = _
    rw [forL_step rfl d1]
    show forL (fun _ => true) _ _ _ (EX s x2 x3 x4 x5 x6 x7 x8 x9 (.val (.lst wl)) (.own [.obj g1, .obj g2, .obj g3]) .un c13 .un .un) _ = _
    rw [forL_step rfl d2]
    show forL (fun _ => true) _ _ _ (EX s x2 x3 x4 x5 x6 x7 x8 x9 (.val (.lst wl)) (.own [.obj g1, .obj g2, .obj g3]) .un c13 .un .un) _ = _
    rw [forL_step rfl d3]
    rfl
  obtain ⟨t4, i1, P4⟩ := inner (.val (.int 0)) 2000 (Pool.ob p3 :: r3) (by omega) ⟨⟨p3, r3, rfl, o3.mono (by omega)⟩, G1', G2', G3⟩
  obtain ⟨t5, i2, P5⟩ := inner (.val (.int 1)) (2000 + 12) t4 (by omega) P4
  have x17 : exec (cls' 40) tLp (EX s x2 x3 x4 x5 x6 x7 x8 x9 (.val (.lst wl)) (.own [.obj g1, .obj g2, .obj g3]) .un .un .un .un) (Pool.ob p3 :: r3) = .nx (EX s x2 x3 x4 x5 x6 x7 x8 x9 (.val (.lst wl)) (.own [.obj g1, .obj g2, .obj g3]) .un .un .un .un) t5 := by
    rw [tLp_eq]
    refine exec_forOf (xs := [.int 0, .int 1]) (t1 := Pool.ob p3 :: r3) rfl ?_
    show forL (fun _ => true) _ _ _ (EX s x2 x3 x4 x5 x6 x7 x8 x9 (.val (.lst wl)) (.own [.obj g1, .obj g2, .obj g3]) .un .un .un .un) _ = _
    rw [forL_step rfl (show forK (.nm 13) (fun ρ t => execs (cls' 40) (.cons kLp .nil) ρ t) (.int 0) (EX s x2 x3 x4 x5 x6 x7 x8 x9 (.val (.lst wl)) (.own [.obj g1, .obj g2, .obj g3]) .un .un .un .un) (Pool.ob p3 :: r3) = .nx _ t4 from execs_step i1)]
    show forL (fun _ => true) _ _ _ (EX s x2 x3 x4 x5 x6 x7 x8 x9 (.val (.lst wl)) (.own [.obj g1, .obj g2, .obj g3]) .un .un .un .un) _ = _
    rw [forL_step rfl (show forK (.nm 13) (fun ρ t => execs (cls' 40) (.cons kLp .nil) ρ t) (.int 1) (EX s x2 x3 x4 x5 x6 x7 x8 x9 (.val (.lst wl)) (.own [.obj g1, .obj g2, .obj g3]) .un .un .un .un) t4 = .nx _ t5 from execs_step i2)]
    rfl
  have hsc : call prg 40 9 [] t5 = .ok (.bl true) t5 := c_scene 2 t5
  have x18 : exec (cls' 40) (nth 18 b0) (EX s x2 x3 x4 x5 x6 x7 x8 x9 (.val (.lst wl)) (.own [.obj g1, .obj g2, .obj g3]) .un .un .un .un) t5 = .ret (.bl true) t5 := by
    simp [runF, ss, es, ts, gs, execs, ev_var, ev_kon, ev_glb, ev_bin, ev_neg, ev_cmp, ev_chn, ev_and, ev_or, ev_not, ev_ife, ev_call, ev_callk, ev_mth, ev_mk, ev_mkk, ev_b1, ev_b2, ev_isi, ev_ix, ev_sl, ev_lst, ev_tup, ev_newL, ev_newD, ev_lobj, ev_dsp, ev_dm, ev_join, ev_fld, exec_asg, exec_setI, exec_setF, exec_aug, exec_mut, exec_ifs, exec_ret, exec_retn, exec_brk, exec_cont, exec_exp, exec_rai, exec_fg, exec_pas, evT, evs, evTAnd, evTOr, evAnd, evOr, evP, evSrc, bo, bnd, frzAll, esT, esTs, esO, esc, escs, esS, escS, opd, opn, look, peek, ofO, cmpD, truthD, thenK, sweep, outR, outF, fresh, asgK, asgT, asgTs, put, binD, b1D, b2D, ixD, ixN, atI_0, atI_1, atI_2, atI_3, atI_4, eqv, eqvs, shp, shps, setK, setX, setO, setOb, isVar, unset, cellOf, frz, valOf, forL, forK, isiD, isiO, items, itemsS, seqs, lenD, fldD, isIns, isNon, isB, inT, mutOk, mutK, muD, ckS, ckC, okP, isDct, dctOf, Pd.getD, augK, setFK, fput, okP, dmD, low, lows, List.lookup, nth, hd, tl, b0, hsc]
  refine ⟨t5, ?_⟩
  rw [cS 0 f0 rfl]
  have e0 : runF (cls' 40) f0 [.scr ns] [] = match execs (cls' 40) b0 (EV (.val (.scr ns)) .un .un .un .un .un .un .un .un .un .un) [] with
      | .nx _ t' => .ok .non t'
      | .ret d t' => .ok d t'
      | .ex c as t' => .ex c as t'
      | _ => .no := rfl
  have hd16 : drp 16 b0 = .cons gL (.cons tLp (.cons (nth 18 b0) .nil)) := rfl
  rw [e0, hs, e1, hd16, execs_step x16, execs_step x17, execs_end x18]
end K85
open PySem PySem.W PyProof.Rows
set_option Elab.async false
set_option maxRecDepth 100000
set_option maxHeartbeats 0 in
theorem PySem.Challenge.cw_everybudget_k85_whole_kept_or_a_tree_holds : PySem.Challenge.rw_everybudget_k85_whole_kept_or_a_tree.Holds := by
  w_on; o_law; k_head; (case hw => w_witness2)
  k_fill
  refine L2.walk_of (l := PySem.Challenge.rw_everybudget_k85_whole_kept_or_a_tree) (n := 63) (k := 82) (x := "script") (CX := fun _ => L2.CX0) (sp := fun w => fun vs H Q _ => ∃ (a : Addr) (ns : List Int), vs = [.ref a] ∧ L2.SqL _ H a (ns.map L2.V.int) ∧ ns.length ≤ 63 ∧ ∀ H', Q (.bl true) H') rfl (by decide) rfl ⟨rfl, by decide, by decide⟩ (fun w h Y => PySem.W.kIn_of Y) ?F (fun _ _ a ns hl _ hS => ⟨a, ns, rfl, hS, hl, fun _ => rfl⟩) (fun _ _ _ _ _ h => h)
  case F =>
    intro w mg fa h KX G hmg
    exact Pd.law_ok (P := K85.prg) (n := 41) (i := 0) (f := K85.f0) (x := "script") (by kernel_rfl) KX G rfl rfl rfl rfl hmg (fun vs H Q E ⟨a, ns, e, hS, hl, q⟩ => ⟨a, ns, e, hS, by omega, K85.law ns, q⟩)
