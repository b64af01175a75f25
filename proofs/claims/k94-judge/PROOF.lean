import PyProof.Rows.All
import Wide.All
import OpenK.AllK
import Wide.FinOn
import HandS.ForMost
import HandS.Strs
import HandS.Conv
import HandS.Wide
import HandS.Flow
import HandS.More
import HandS.TupAny
import HandS.Text
import HandS.IsInst
import KE.KSortedM
import HandS.SortInts
import HandS.HeadWalk
import HandS.Zip
import HandS.Remove
import HandS.Exc
import HandS.HeadHook1
import PySem.Challenge.RW_everybudget_k94_whole_judge_of_asked_tre
/-! Pd: data, a small syntax of its own, its evaluator. -/
namespace Pd

/-- values: None, bools, ints, texts (code points), tuples, lists (as values), the script's list, an object of the table -/
inductive D where
  | non
  | bl (b : Bool)
  | int (i : Int)
  | str (s : List Nat)
  | tup (xs : List D)
  | lst (xs : List D)
  | scr (xs : List Int)
  | obj (n : Nat)
deriving Inhabited

/-- objects that change: a list, a dict, an instance of class c -/
inductive Ob where
  | lst (xs : List D)
  | dct (kvs : List (D × D))
  | ins (c : Nat) (fs : List (Nat × D))
deriving Inhabited

abbrev T := List Ob

inductive R (α : Type) where
  | ok (a : α) (t : T)
  | ex (c : Nat) (as : List D) (t : T)
  | no

def bnd {α β : Type} (r : R α) (k : α → T → R β) : R β :=
  match r with
  | .ok a t => k a t
  | .ex c as t => .ex c as t
  | .no => .no
@[simp] theorem bnd_ok {α β : Type} (a : α) (t : T) (k : α → T → R β) : bnd (.ok a t) k = k a t := rfl
@[simp] theorem bnd_ex {α β : Type} (c : Nat) (as : List D) (t : T) (k : α → T → R β) : bnd (.ex c as t) k = .ex c as t := rfl
@[simp] theorem bnd_no {α β : Type} (k : α → T → R β) : bnd (.no : R α) k = .no := rfl
def ofO {α : Type} (o : Option α) (t : T) : R α :=
  match o with
  | some a => .ok a t
  | none => .no
@[simp] theorem ofO_some {α : Type} (a : α) (t : T) : ofO (some a) t = .ok a t := rfl
@[simp] theorem ofO_none {α : Type} (t : T) : ofO (none : Option α) t = .no := rfl

/-- a slot: nothing known, a value, a list of one's own (may be changed), one's own list while it is walked -/
inductive Cell where
  | un
  | val (d : D)
  | own (ds : List D)
  | loan (ds : List D)
deriving Inhabited
abbrev Env := List Cell

/-- the longest list or text -/
def sz : Nat := 16777216

/-! ### operations on data -/
inductive Bo where | add | sub | mul | fdiv | mod | pow | shl | shr | band | bor | bxor
deriving DecidableEq
inductive Co where | eq | ne | lt | le | gt | ge | isin | notin | isN | notN
deriving DecidableEq
inductive Ty where | int | bool | str | tup | lst | row
deriving DecidableEq

def bits (i : Int) : Nat := i.natAbs.log2

def binD : Bo → D → D → Option D
  | .add, .int a, .int b => some (.int (a + b))
  | .add, .str a, .str b => if a.length + b.length ≤ sz then some (.str (a ++ b)) else none
  | .add, .tup a, .tup b => if a.length + b.length ≤ sz then some (.tup (a ++ b)) else none
  | .add, .lst a, .lst b => if a.length + b.length ≤ sz then some (.lst (a ++ b)) else none
  | .sub, .int a, .int b => some (.int (a - b))
  | .mul, .int a, .int b => if bits a + bits b < 1000000 then some (.int (a * b)) else none
  | .fdiv, .int a, .int b => if 0 < b ∧ bits b < 9000 then some (.int (a / b)) else none
  | .mod, .int a, .int b => if 0 < b then some (.int (a % b)) else none
  | .pow, .int a, .int b => if 0 ≤ b ∧ b ≤ 1000000 ∧ a.natAbs < 2 ^ 64 then some (.int (a ^ b.toNat)) else none
  | .shl, .int a, .int b => if 0 ≤ b ∧ b ≤ 1000000 ∧ a.natAbs < 2 ^ 64 then some (.int (a * 2 ^ b.toNat)) else none
  | .shr, .int a, .int b => if 0 ≤ b then some (.int (a / 2 ^ b.toNat)) else none
  | .band, .int a, .int b => if 0 ≤ a ∧ 0 ≤ b then some (.int ((a.toNat &&& b.toNat : Nat) : Int)) else none
  | .bor, .int a, .int b => if 0 ≤ a ∧ 0 ≤ b then some (.int ((a.toNat ||| b.toNat : Nat) : Int)) else none
  | .bxor, .int a, .int b => if 0 ≤ a ∧ 0 ≤ b then some (.int ((a.toNat ^^^ b.toNat : Nat) : Int)) else none
  | _, _, _ => none

def b2i (b : Bool) : Int := if b then 1 else 0

mutual
/-- == of data -/
def eqv : D → D → Bool
  | .non, .non => true
  | .bl a, .bl b => a == b
  | .bl a, .int j => b2i a == j
  | .int i, .bl b => i == b2i b
  | .int i, .int j => i == j
  | .str x, .str y => x == y
  | .lst xs, .lst ys => eqvs xs ys
  | .tup xs, .tup ys => eqvs xs ys
  | _, _ => false
def eqvs : List D → List D → Bool
  | [], [] => true
  | x :: xs, y :: ys => eqv x y && eqvs xs ys
  | _, _ => false
end
mutual
/-- may be compared: nesting below k -/
def shp : Nat → D → Bool
  | _, .non => true
  | _, .bl _ => true
  | _, .int _ => true
  | _, .str _ => true
  | k, .lst xs => match k with | 0 => false | k + 1 => shps k xs
  | k, .tup xs => match k with | 0 => false | k + 1 => shps k xs
  | _, .scr _ => false
  | _, .obj _ => false
def shps : Nat → List D → Bool
  | _, [] => true
  | k, x :: xs => shp k x && shps k xs
end
def flat : D → Bool
  | .non => true
  | .bl _ => true
  | .int _ => true
  | .str _ => true
  | _ => false

/-- items of what may be walked -/
def items : D → Option (List D)
  | .tup xs => some xs
  | .lst xs => some xs
  | .scr xs => some (xs.map .int)
  | .str s => some (s.map fun c => .str [c])
  | _ => none
def seqs : D → Option (List D)
  | .tup xs => some xs
  | .lst xs => some xs
  | _ => none

/-- a dict's entry under a key -/
def dget (k : D) : List (D × D) → Option D
  | [] => none
  | (j, v) :: r => if eqv j k then some v else dget k r
def dput (k v : D) : List (D × D) → List (D × D)
  | [] => [(k, v)]
  | (j, w) :: r => if eqv j k then (j, v) :: r else (j, w) :: dput k v r
-- keys: ints, texts, tuples of keys
mutual
def keyOk : D → Bool
  | .int _ => true
  | .str _ => true
  | .tup xs => keysOk xs
  | _ => false
def keysOk : List D → Bool
  | [] => true
  | x :: xs => keyOk x && keysOk xs
end

def inD (x y : D) : Option Bool :=
  match y with
  | .tup ys => if flat x && ys.all flat then some (ys.any fun y => eqv y x) else none
  | .lst ys => if flat x && ys.all flat then some (ys.any fun y => eqv y x) else none
  | .str s => match x with
    | .str [c] => some (decide (c ∈ s))
    | _ => none
  | _ => none

def isNon : D → Bool
  | .non => true
  | _ => false

def cmpD (t : T) : Co → D → D → Option D
  | .eq, x, y => if shp 60 x && shp 60 y then some (.bl (eqv x y)) else none
  | .ne, x, y => if shp 60 x && shp 60 y then some (.bl (!eqv x y)) else none
  | .lt, .int a, .int b => some (.bl (decide (a < b)))
  | .le, .int a, .int b => some (.bl (decide (a ≤ b)))
  | .gt, .int a, .int b => some (.bl (decide (b < a)))
  | .ge, .int a, .int b => some (.bl (decide (b ≤ a)))
  | .isin, x, y => (inD x y).map .bl
  | .notin, x, y => (inD x y).map fun b => .bl (!b)
  | .isN, x, .non => some (.bl (isNon x))
  | .notN, x, .non => some (.bl (!isNon x))
  | _, _, _ => none

def truthD (t : T) : D → Option Bool
  | .non => some false
  | .bl b => some b
  | .int i => some (i != 0)
  | .str s => some (!s.isEmpty)
  | .tup xs => some (!xs.isEmpty)
  | .lst xs => some (!xs.isEmpty)
  | .scr xs => some (!xs.isEmpty)
  | .obj n => match t[n]? with
    | some (.lst xs) => some (!xs.isEmpty)
    | _ => none

def lenD (t : T) : D → Option Nat
  | .str s => some s.length
  | .tup xs => some xs.length
  | .lst xs => some xs.length
  | .scr xs => some xs.length
  | .obj n => match t[n]? with
    | some (.lst xs) => some xs.length
    | _ => none
  | _ => none

/-- the place of index i among n -/
def ixN (n : Nat) (i : Int) : Option Nat := if 0 ≤ i then (if i < n then some i.toNat else none) else if -(n : Int) ≤ i then some (i + n).toNat else none
def atI {α : Type} (xs : List α) (i : Int) : Option α := (ixN xs.length i).bind fun j => xs[j]?

def ixD (t : T) : D → D → Option D
  | .str s, .int i => (atI s i).map fun c => .str [c]
  | .tup xs, .int i => atI xs i
  | .lst xs, .int i => atI xs i
  | .scr xs, .int i => (atI xs i).map .int
  | .obj n, i => match t[n]? with
    | some (.lst xs) => match i with
      | .int i => atI xs i
      | _ => none
    | _ => none
  | _, _ => none

/-- where a slice's end stands -/
def sIx (n d : Nat) : Option Int → Nat
  | none => d
  | some v => if v < 0 then (v + n).toNat else min v.toNat n
def cut {α : Type} (xs : List α) (lo hi : Option Int) : List α := (xs.drop (sIx xs.length 0 lo)).take (sIx xs.length xs.length hi - sIx xs.length 0 lo)
def cutD (lo hi : Option Int) : D → Option D
  | .str s => some (.str (cut s lo hi))
  | .tup xs => some (.tup (cut xs lo hi))
  | .lst xs => some (.lst (cut xs lo hi))
  | _ => none

/-- ints of a list -/
def intsOf : List D → Option (List Int)
  | [] => some []
  | .int i :: r => (intsOf r).map (i :: ·)
  | _ => none
def boolsOf : List D → Option (List Bool)
  | [] => some []
  | .bl b :: r => (boolsOf r).map (b :: ·)
  | _ => none
def strsOf : List D → Option (List (List Nat))
  | [] => some []
  | .str s :: r => (strsOf r).map (s :: ·)
  | _ => none
def maxI : List Int → Option Int
  | [] => none
  | [x] => some x
  | x :: r => (maxI r).map fun m => if x < m then m else x
def minI : List Int → Option Int
  | [] => none
  | [x] => some x
  | x :: r => (minI r).map fun m => if m < x then m else x
def joinS (sep : List Nat) : List (List Nat) → List Nat
  | [] => []
  | [x] => x
  | x :: r => x ++ sep ++ joinS sep r
def range0 (n : Int) : List D := (List.range n.toNat).map fun k : Nat => D.int (k : Int)
def range2 (a b : Int) : List D := (List.range (b - a).toNat).map fun k : Nat => D.int (a + (k : Int))
def enumF : Nat → List D → List D
  | _, [] => []
  | k, x :: r => .tup [.int k, x] :: enumF (k + 1) r
def zipD : List D → List D → List D
  | x :: r, y :: s => .tup [x, y] :: zipD r s
  | _, _ => []

-- the order of data that may be sorted: ints, texts, tuples of these
mutual
def leD : D → D → Bool
  | .int a, .int b => decide (a ≤ b)
  | .str a, .str b => decide (a ≤ b)
  | .tup a, .tup b => leDs a b
  | _, _ => false
def leDs : List D → List D → Bool
  | [], _ => true
  | _ :: _, [] => false
  | x :: r, y :: s => if eqv x y then leDs r s else leD x y
end
-- of one kind, place by place
mutual
def like : D → D → Bool
  | .int _, .int _ => true
  | .str _, .str _ => true
  | .tup a, .tup b => likes a b
  | _, _ => false
def likes : List D → List D → Bool
  | [], [] => true
  | x :: r, y :: s => like x y && likes r s
  | _, _ => false
end

inductive B1 where | len | abs | int | str | sum | max | min | any | all | list | tuple | sorted | lenset | lrange | trange
deriving DecidableEq
inductive B2 where | max | min
deriving DecidableEq
inductive Mu where | append | insert | pop | popAt | remove | extend | reverse
deriving DecidableEq

/-- each text once -/
def onceS (σ : List (List Nat)) (v : List Nat) : List (List Nat) := if σ.any (fun x => x == v) then σ else σ ++ [v]
def b1D (t : T) : B1 → D → Option D
  | .len, d => (lenD t d).map fun n : Nat => D.int (n : Int)
  | .abs, .int i => some (.int (if i < 0 then -i else i))
  | .int, .int i => some (.int i)
  | .int, .bl b => some (.int (b2i b))
  | .int, .str s => match s with
    | [c] => if 48 ≤ c ∧ c ≤ 57 then some (.int ((c : Int) - 48)) else none
    | _ => none
  | .str, .int i => if 0 ≤ i ∧ i < 10 then some (.str [48 + i.toNat]) else none
  | .sum, .lst xs => (intsOf xs).map fun ns => .int ns.sum
  | .max, .lst xs => ((intsOf xs).bind maxI).map .int
  | .min, .lst xs => ((intsOf xs).bind minI).map .int
  | .any, .lst xs => (boolsOf xs).map fun bs => .bl (bs.any id)
  | .all, .lst xs => (boolsOf xs).map fun bs => .bl (bs.all id)
  | .list, d => match d with
    | .tup xs => some (.lst xs)
    | .lst xs => some (.lst xs)
    | .scr xs => some (.lst (xs.map .int))
    | _ => none
  | .tuple, d => match d with
    | .tup xs => some (.tup xs)
    | .lst xs => some (.tup xs)
    | _ => none
  | .sorted, .lst xs => (intsOf xs).map fun ns => .lst ((ns.mergeSort (fun a b => decide (a ≤ b))).map .int)
  | .lenset, d => match seqs d with
    | some xs => (strsOf xs).bind fun ss => if ss.length ≤ 1000 then some (.int ((ss.foldl onceS []).length : Int)) else none
    | none => none
  | .lrange, .int n => if -1000000 ≤ n ∧ n ≤ 1000000 then some (.lst (range0 n)) else none
  | .trange, .int n => if -1000000 ≤ n ∧ n ≤ 1000000 then some (.tup (range0 n)) else none
  | _, _ => none
def b2D : B2 → D → D → Option D
  | .max, .int i, .int j => some (.int (if j > i then j else i))
  | .min, .int i, .int j => some (.int (if j < i then j else i))
  | _, _, _ => none
def isiD (t : T) : Ty → D → Option Bool
  | _, .obj n => match t[n]? with
    | some _ => none
    | _ => none
  | .int, d => some (match d with | .int _ => true | .bl _ => true | _ => false)
  | .bool, d => some (match d with | .bl _ => true | _ => false)
  | .str, d => some (match d with | .str _ => true | _ => false)
  | .tup, d => some (match d with | .tup _ => true | _ => false)
  | .lst, d => some (match d with | .lst _ => true | .scr _ => true | _ => false)
  | .row, d => some (match d with | .lst _ => true | .scr _ => true | .tup _ => true | _ => false)

/-! ### syntax -/
mutual
inductive Tg where
  | nm (i : Nat)
  | tp (gs : Tgs)
inductive Tgs where
  | nil
  | cons (g : Tg) (r : Tgs)
end
mutual
inductive E where
  | var (i : Nat)
  | kon (d : D)
  | glb (x : String) (d : D)
  | bin (o : Bo) (a b : E)
  | neg (a : E)
  | cmp (o : Co) (a b : E)
  | chn (o p : Co) (a b c : E)
  | and (es : Es)
  | or (es : Es)
  | not (a : E)
  | ife (c : Tt) (a b : E)
  | call (f : Nat) (as : Es)
  | callk (f : Nat) (pm : List Nat) (as ks : Es)
  | mth (c m : Nat) (o : E) (as : Es)
  | mk (c : Nat) (as : Es)
  | b1 (b : B1) (a : E)
  | b2 (b : B2) (a c : E)
  | isi (k : Ty) (a : E)
  | ix (a i : E)
  | sl (a : E) (lo hi : Es)
  | lst (es : Es)
  | tup (es : Es)
  | newL (es : Es)
  | newD
  | comp (s : Src) (g : Tg) (own : List Nat) (c : Tt) (e : E)
  | join (a : E)
  | fld (o : E) (f : Nat)
  | never
inductive Tt where
  | yes
  | not (t : Tt)
  | and (ts : Tts)
  | or (ts : Tts)
  | val (e : E)
inductive Tts where
  | nil
  | cons (t : Tt) (r : Tts)
inductive Es where
  | nil
  | cons (e : E) (r : Es)
inductive Src where
  | seq (a : E)
  | rng (a : E)
  | rng2 (a b : E)
  | enm (a : E)
  | zip (a b : E)
end
mutual
inductive S where
  | asg (g : Tg) (e : E)
  | setI (o i e : E)
  | setF (o : E) (f : Nat) (e : E)
  | aug (i : Nat) (o : Bo) (e : E)
  | mut (m : Mu) (i : Nat) (es : Es)
  | ifs (c : Tt) (a b : Ss)
  | for (g : Tg) (s : Src) (b : Ss) (fg : List Nat)
  | whl (k : Nat) (c : Tt) (b : Ss) (fg : List Nat)
  | ret (e : E)
  | retn
  | brk
  | cont
  | exp (e : E)
  | rai (c : Nat) (es : Es)
  | fg (is : List Nat)
  | pas
  | never
inductive Ss where
  | nil
  | cons (s : S) (r : Ss)
end

/-- lists of syntax -/
def es : List E → Es
  | [] => .nil
  | a :: r => .cons a (es r)
def ts : List Tt → Tts
  | [] => .nil
  | a :: r => .cons a (ts r)
def gs : List Tg → Tgs
  | [] => .nil
  | a :: r => .cons a (gs r)
def ss : List S → Ss
  | [] => .nil
  | a :: r => .cons a (ss r)

/-! ### which names get out of an expression's hands -/
mutual
/-- names whose object may be kept by what e gives or calls -/
def esc : E → List Nat
  | .var i => [i]
  | .kon _ => []
  | .glb _ _ => []
  | .bin _ a b => esO a ++ esO b
  | .neg a => esO a
  | .cmp _ a b => esO a ++ esO b
  | .chn _ _ a b c => esO a ++ esO b ++ esO c
  | .and es => escs es
  | .or es => escs es
  | .not a => esO a
  | .ife c a b => esT c ++ esc a ++ esc b
  | .call _ as => escs as
  | .callk _ _ as ks => escs as ++ escs ks
  | .mth _ _ o as => esc o ++ escs as
  | .mk _ as => escs as
  | .b1 _ a => esO a
  | .b2 _ a c => esO a ++ esO c
  | .isi _ a => esO a
  | .ix a i => esO a ++ esO i
  | .sl a lo hi => esO a ++ escs lo ++ escs hi
  | .lst es => escs es
  | .tup es => escs es
  | .newL es => escs es
  | .newD => []
  | .comp s _ own c e => esS s ++ (esT c ++ esc e).filter fun i => !own.contains i
  | .join a => esO a
  | .fld o _ => esc o
  | .never => []
/-- an operand that is only looked at -/
def esO : E → List Nat
  | .var _ => []
  | .bin _ a b => esO a ++ esO b
  | .neg a => esO a
  | .cmp _ a b => esO a ++ esO b
  | .chn _ _ a b c => esO a ++ esO b ++ esO c
  | .and es => escs es
  | .or es => escs es
  | .not a => esO a
  | .ife c a b => esT c ++ esc a ++ esc b
  | .call _ as => escs as
  | .callk _ _ as ks => escs as ++ escs ks
  | .mth _ _ o as => esc o ++ escs as
  | .mk _ as => escs as
  | .b1 _ a => esO a
  | .b2 _ a c => esO a ++ esO c
  | .isi _ a => esO a
  | .ix a i => esO a ++ esO i
  | .sl a lo hi => esO a ++ escs lo ++ escs hi
  | .lst es => escs es
  | .tup es => escs es
  | .newL es => escs es
  | .comp s _ own c e => esS s ++ (esT c ++ esc e).filter fun i => !own.contains i
  | .join a => esO a
  | .fld o _ => esc o
  | _ => []
def esT : Tt → List Nat
  | .yes => []
  | .not t => esT t
  | .and ts => esTs ts
  | .or ts => esTs ts
  | .val e => esO e
def esTs : Tts → List Nat
  | .nil => []
  | .cons t r => esT t ++ esTs r
def escs : Es → List Nat
  | .nil => []
  | .cons e r => esc e ++ escs r
def esS : Src → List Nat
  | .seq a => esO a
  | .rng a => esO a
  | .rng2 a b => esO a ++ esO b
  | .enm a => esO a
  | .zip a b => esO a ++ esO b
end

/-- the names that a for's source gets hold of -/
def escS : Src → List Nat
  | .seq a => esc a
  | .rng a => esc a
  | .rng2 a b => esc a ++ esc b
  | .enm a => esc a
  | .zip a b => esc a ++ esc b

/-! ### slots -/
def look : Env → Nat → Cell
  | [], _ => .un
  | c :: _, 0 => c
  | _ :: r, i + 1 => look r i
def put : Env → Nat → Cell → Env
  | [], _, _ => []
  | _ :: r, 0, c => c :: r
  | x :: r, i + 1, c => x :: put r i c
def frz : Cell → Cell
  | .own ds => .val (.lst ds)
  | c => c
def frzAll : Env → List Nat → Env
  | ρ, [] => ρ
  | ρ, i :: r => frzAll (put ρ i (frz (look ρ i))) r
def unset : Env → List Nat → Env
  | ρ, [] => ρ
  | ρ, i :: r => unset (put ρ i .un) r
mutual
def asgT : Tg → D → Env → Option Env
  | .nm i, d, ρ => if i < ρ.length then some (put ρ i (.val d)) else none
  | .tp gs, d, ρ => match d with
    | .tup xs => asgTs gs xs ρ
    | _ => none
def asgTs : Tgs → List D → Env → Option Env
  | .nil, [], ρ => some ρ
  | .cons g r, x :: xs, ρ => (asgT g x ρ).bind fun ρ => asgTs r xs ρ
  | _, _, _ => none
end
/-- the value of a name that gets out -/
def valOf : Cell → Option D
  | .val d => some d
  | _ => none
/-- .. that is looked at -/
def peek : Cell → Option D
  | .val d => some d
  | .own ds => some (.lst ds)
  | .loan ds => some (.lst ds)
  | .un => none

def compL (f : D → T → R (Option D)) : List D → T → R (List D)
  | [], t => .ok [] t
  | x :: xs, t => bnd (f x t) fun o t => bnd (compL f xs t) fun r t => .ok (match o with | some d => d :: r | none => r) t

/-- the calls: function (index), class (index) made -/
structure Calls where
  fn : Nat → List D → T → R D
  cn : Nat → List D → T → R D

/-- an operand: a name is only looked at -/
def opd (e : E) (ρ : Env) (t : T) (r : R D) : R D :=
  match e with
  | .var i => ofO (peek (look ρ i)) t
  | _ => r

/-- an operand of what is walked: looked at, or got out -/
def opn (pk : Bool) (e : E) (ρ : Env) (t : T) (r : R D) : R D := if pk then opd e ρ t r else r

def fldD (t : T) (f : Nat) : D → Option D
  | .obj n => match t[n]? with
    | some (.ins _ fs) => fs.lookup f
    | _ => none
  | _ => none
def isIns (t : T) (c : Nat) : D → Bool
  | .obj n => match t[n]? with
    | some (.ins k _) => k == c
    | _ => false
  | _ => false

section
variable (cl : Calls)
mutual
def ev : E → Env → T → R D
  | .var i, ρ, t => ofO (valOf (look ρ i)) t
  | .kon d, _, t => .ok d t
  | .glb _ d, _, t => .ok d t
  | .bin o a b, ρ, t => bnd (opd a ρ t (ev a ρ t)) fun x t => bnd (opd b ρ t (ev b ρ t)) fun y t => ofO (binD o x y) t
  | .neg a, ρ, t => bnd (opd a ρ t (ev a ρ t)) fun x t => match x with
    | .int i => .ok (.int (-i)) t
    | _ => .no
  | .cmp o a b, ρ, t => bnd (opd a ρ t (ev a ρ t)) fun x t => bnd (opd b ρ t (ev b ρ t)) fun y t => ofO (cmpD t o x y) t
  | .chn o p a b c, ρ, t => bnd (opd a ρ t (ev a ρ t)) fun x t => bnd (opd b ρ t (ev b ρ t)) fun y t => bnd (ofO (cmpD t o x y) t) fun k t =>
    match k with
    | .bl true => bnd (opd c ρ t (ev c ρ t)) fun z t => ofO (cmpD t p y z) t
    | .bl false => .ok (.bl false) t
    | _ => .no
  | .and es, ρ, t => evAnd es ρ t
  | .or es, ρ, t => evOr es ρ t
  | .not a, ρ, t => bnd (opd a ρ t (ev a ρ t)) fun x t => bnd (ofO (truthD t x) t) fun k t => .ok (.bl (!k)) t
  | .ife c a b, ρ, t => bnd (evT c ρ t) fun k t => if k then ev a ρ t else ev b ρ t
  | .call f as, ρ, t => bnd (evs as ρ t) fun xs t => cl.fn f xs t
  | .callk f pm as ks, ρ, t => bnd (evs as ρ t) fun xs t => bnd (evs ks ρ t) fun ys t => cl.fn f (xs ++ pm.map fun k => ys.getD k .non) t
  | .mth c m o as, ρ, t => bnd (ev o ρ t) fun x t => if isIns t c x then bnd (evs as ρ t) fun xs t => cl.fn m (x :: xs) t else .no
  | .mk c as, ρ, t => bnd (evs as ρ t) fun xs t => cl.cn c xs t
  | .b1 b a, ρ, t => bnd (opd a ρ t (ev a ρ t)) fun x t => ofO (b1D t b x) t
  | .b2 b a c, ρ, t => bnd (opd a ρ t (ev a ρ t)) fun x t => bnd (opd c ρ t (ev c ρ t)) fun y t => ofO (b2D b x y) t
  | .isi k a, ρ, t => bnd (opd a ρ t (ev a ρ t)) fun x t => ofO ((isiD t k x).map .bl) t
  | .ix a i, ρ, t => bnd (opd a ρ t (ev a ρ t)) fun x t => bnd (opd i ρ t (ev i ρ t)) fun y t => ofO (ixD t x y) t
  | .sl a lo hi, ρ, t => bnd (opd a ρ t (ev a ρ t)) fun x t => bnd (evP lo ρ t) fun l t => bnd (evP hi ρ t) fun h t => ofO (cutD l h x) t
  | .lst es, ρ, t => bnd (evs es ρ t) fun xs t => .ok (.lst xs) t
  | .tup es, ρ, t => bnd (evs es ρ t) fun xs t => .ok (.tup xs) t
  | .newL es, ρ, t => bnd (evs es ρ t) fun xs t => .ok (.obj t.length) (t ++ [.lst xs])
  | .newD, _, t => .ok (.obj t.length) (t ++ [.dct []])
  | .comp s g own c e, ρ, t => bnd (evSrc s true ρ t) fun xs t => bnd (compL (fun x t =>
      match asgT g x (unset ρ own) with
      | none => .no
      | some ρ => bnd (evT c ρ t) fun k t => if k then bnd (ev e ρ t) fun d t => .ok (some d) t else .ok none t) xs t) fun ds t => .ok (.lst ds) t
  | .join a, ρ, t => bnd (opd a ρ t (ev a ρ t)) fun x t => match seqs x with
    | some xs => ofO ((strsOf xs).bind fun ss => if ss.flatten.length ≤ sz then some (.str ss.flatten) else none) t
    | none => .no
  | .fld o f, ρ, t => bnd (ev o ρ t) fun x t => ofO (fldD t f x) t
  | .never, _, _ => .no
def evT : Tt → Env → T → R Bool
  | .yes, _, t => .ok true t
  | .not u, ρ, t => bnd (evT u ρ t) fun k t => .ok (!k) t
  | .and ts, ρ, t => evTAnd ts ρ t
  | .or ts, ρ, t => evTOr ts ρ t
  | .val e, ρ, t => bnd (opd e ρ t (ev e ρ t)) fun x t => ofO (truthD t x) t
def evTAnd : Tts → Env → T → R Bool
  | .nil, _, t => .ok true t
  | .cons u r, ρ, t => bnd (evT u ρ t) fun k t => if k then evTAnd r ρ t else .ok false t
def evTOr : Tts → Env → T → R Bool
  | .nil, _, t => .ok false t
  | .cons u r, ρ, t => bnd (evT u ρ t) fun k t => if k then .ok true t else evTOr r ρ t
def evAnd : Es → Env → T → R D
  | .nil, _, _ => .no
  | .cons e r, ρ, t => match r with
    | .nil => ev e ρ t
    | _ => bnd (ev e ρ t) fun x t => bnd (ofO (truthD t x) t) fun k t => if k then evAnd r ρ t else .ok x t
def evOr : Es → Env → T → R D
  | .nil, _, _ => .no
  | .cons e r, ρ, t => match r with
    | .nil => ev e ρ t
    | _ => bnd (ev e ρ t) fun x t => bnd (ofO (truthD t x) t) fun k t => if k then .ok x t else evOr r ρ t
def evs : Es → Env → T → R (List D)
  | .nil, _, t => .ok [] t
  | .cons e r, ρ, t => bnd (ev e ρ t) fun x t => bnd (evs r ρ t) fun xs t => .ok (x :: xs) t
/-- an end of a slice -/
def evP : Es → Env → T → R (Option Int)
  | .nil, _, t => .ok none t
  | .cons e _, ρ, t => bnd (ev e ρ t) fun x t => match x with
    | .int i => .ok (some i) t
    | _ => .no
def evSrc : Src → Bool → Env → T → R (List D)
  | .seq a, pk, ρ, t => bnd (opn pk a ρ t (ev a ρ t)) fun x t => ofO (items x) t
  | .rng a, pk, ρ, t => bnd (opn pk a ρ t (ev a ρ t)) fun x t => match x with
    | .int n => if n ≤ 1000000 ∧ -1000000 ≤ n then .ok (range0 n) t else .no
    | _ => .no
  | .rng2 a b, pk, ρ, t => bnd (opn pk a ρ t (ev a ρ t)) fun x t => bnd (opn pk b ρ t (ev b ρ t)) fun y t => match x, y with
    | .int m, .int n => if n ≤ 1000000 ∧ -1000000 ≤ n ∧ m ≤ 1000000 ∧ -1000000 ≤ m then .ok (range2 m n) t else .no
    | _, _ => .no
  | .enm a, pk, ρ, t => bnd (opn pk a ρ t (ev a ρ t)) fun x t => match x with
    | .lst xs => .ok (enumF 0 xs) t
    | _ => .no
  | .zip a b, pk, ρ, t => bnd (opn pk a ρ t (ev a ρ t)) fun x t => bnd (opn pk b ρ t (ev b ρ t)) fun y t => match x, y with
    | .lst xs, .lst ys => .ok (zipD xs ys) t
    | .tup xs, .tup ys => .ok (zipD xs ys) t
    | _, _ => .no
end
end

/-! ### statements -/
inductive Out where
  | nx (ρ : Env) (t : T)
  | ret (d : D) (t : T)
  | brk (ρ : Env) (t : T)
  | cont (ρ : Env) (t : T)
  | ex (c : Nat) (as : List D) (t : T)
  | no
def bo {α : Type} (r : R α) (k : α → T → Out) : Out :=
  match r with
  | .ok a t => k a t
  | .ex c as t => .ex c as t
  | .no => .no
@[simp] theorem bo_ok {α : Type} (a : α) (t : T) (k : α → T → Out) : bo (.ok a t) k = k a t := rfl
@[simp] theorem bo_ex {α : Type} (c : Nat) (as : List D) (t : T) (k : α → T → Out) : bo (.ex c as t) k = .ex c as t := rfl
@[simp] theorem bo_no {α : Type} (k : α → T → Out) : bo (.no : R α) k = .no := rfl

/-- a list that no one else holds -/
def fresh : E → Bool
  | .bin _ _ _ => true
  | .sl _ _ _ => true
  | .lst _ => true
  | .comp _ _ _ _ _ => true
  | .b1 b _ => b == .list || b == .sorted || b == .lrange
  | _ => false
def cellOf (fr : Bool) (d : D) : Cell :=
  match fr, d with
  | true, .lst ds => .own ds
  | _, d => .val d
/-- a changed list, and what the method gives -/
def muD : Mu → List D → List D → Option (List D)
  | .append, ds, [x] => if ds.length < sz then some (ds ++ [x]) else none
  | .insert, ds, [.int i, x] => if ds.length < sz ∧ 0 ≤ i ∧ i ≤ ds.length then some (ds.take i.toNat ++ x :: ds.drop i.toNat) else none
  | .pop, ds, [] => if ds.length = 0 then none else some ds.dropLast
  | .popAt, ds, [.int i] => (ixN ds.length i).map fun k => ds.eraseIdx k
  | .remove, ds, [.int i] => (intsOf ds).bind fun ns => if i ∈ ns then some ((ns.erase i).map .int) else none
  | .extend, ds, [.lst xs] => if ds.length + xs.length ≤ sz then some (ds ++ xs) else none
  | .reverse, ds, [] => some ds.reverse
  | _, _, _ => none
def setOb (t : T) (n : Nat) (i d : D) : Option T :=
  match t[n]? with
  | some (.lst xs) => match i with
    | .int k => (ixN xs.length k).map fun j => t.set n (.lst (xs.set j d))
    | _ => none
  | _ => none
def fput (f : Nat) (d : D) : List (Nat × D) → List (Nat × D)
  | [] => [(f, d)]
  | (g, x) :: r => if f = g then (f, d) :: r else (g, x) :: fput f d r
section
variable (cl : Calls)
/-- the turns of a for: f stores the item and does the body -/
def forL (f : D → Env → T → Out) (fg : List Nat) : List D → Env → T → Out
  | [], ρ, t => .nx ρ t
  | x :: xs, ρ, t => match f x ρ t with
    | .nx ρ' t' => forL f fg xs (unset ρ' fg) t'
    | .cont ρ' t' => forL f fg xs (unset ρ' fg) t'
    | .brk ρ' t' => .nx (unset ρ' fg) t'
    | o => o
def whlL (c : Env → T → R Bool) (f : Env → T → Out) (fz fg : List Nat) : Nat → Env → T → Out
  | 0, _, _ => .no
  | k + 1, ρ, t => bo (c (frzAll ρ fz) t) fun b t => if b then
      match f (frzAll ρ fz) t with
      | .nx ρ' t' => whlL c f fz fg k (unset ρ' fg) t'
      | .cont ρ' t' => whlL c f fz fg k (unset ρ' fg) t'
      | .brk ρ' t' => .nx (unset ρ' fg) t'
      | o => o
    else .nx (frzAll ρ fz) t
def isVar : E → Option Nat
  | .var k => some k
  | _ => none
def setX (ρ : Env) (t : T) (x j d : D) : Out :=
  match x with
  | .obj n => match setOb t n j d with
    | some t => .nx ρ t
    | none => .no
  | _ => .no
def setO (ρ : Env) (t : T) (k : Nat) (ds : List D) (j d : D) : Out :=
  match j with
  | .int j => match ixN ds.length j with
    | some m => .nx (put ρ k (.own (ds.set m d))) t
    | none => .no
  | _ => .no
def setK (ρ : Env) (t : T) (k : Option Nat) (x j d : D) : Out :=
  match k with
  | some k => match look ρ k with
    | .own ds => setO ρ t k ds j d
    | _ => setX ρ t x j d
  | none => setX ρ t x j d
def setFK (ρ : Env) (t : T) (x : D) (f : Nat) (d : D) : Out :=
  match x with
  | .obj n => match t[n]? with
    | some (.ins c fs) => if fs.length < 999 then .nx ρ (t.set n (.ins c (fput f d fs))) else .no
    | _ => .no
  | _ => .no
def augK (ρ : Env) (t : T) (i : Nat) (o : Bo) (x : Int) (y : D) : Out :=
  match y with
  | .int y => match o with
    | .add => .nx (put ρ i (.val (.int (x + y)))) t
    | .sub => .nx (put ρ i (.val (.int (x - y)))) t
    | _ => .no
  | _ => .no
def mutK (ρ : Env) (t : T) (m : Mu) (i : Nat) (xs : List D) : Out :=
  match look ρ i with
  | .own ds => match muD m ds xs with
    | some ds => .nx (put ρ i (.own ds)) t
    | none => .no
  | _ => .no
def asgK (fr : Bool) (g : Tg) (ρ : Env) (d : D) (t : T) : Out :=
  match g with
  | .nm i => if i < ρ.length then .nx (put ρ i (cellOf fr d)) t else .no
  | .tp gs => match asgT (.tp gs) d ρ with
    | some ρ => .nx ρ t
    | none => .no
def forK (g : Tg) (f : Env → T → Out) (x : D) (ρ : Env) (t : T) : Out :=
  match asgT g x ρ with
  | some ρ => f ρ t
  | none => .no
def thenK (o : Out) (f : Env → T → Out) : Out :=
  match o with
  | .nx ρ t => f ρ t
  | o => o
mutual
def exec : S → Env → T → Out
  | .asg g e, ρ, t => bo (ev cl e (frzAll ρ (esc e)) t) fun d t => asgK (fresh e) g (frzAll ρ (esc e)) d t
  | .setI o i e, ρ, t => bo (ev cl e (frzAll ρ (esc e ++ esO i)) t) fun d t => bo (opd o (frzAll ρ (esc e ++ esO i)) t (ev cl o (frzAll ρ (esc e ++ esO i)) t)) fun x t =>
    bo (opd i (frzAll ρ (esc e ++ esO i)) t (ev cl i (frzAll ρ (esc e ++ esO i)) t)) fun j t => setK (frzAll ρ (esc e ++ esO i)) t (isVar o) x j d
  | .setF o f e, ρ, t => bo (ev cl e (frzAll ρ (esc e)) t) fun d t => bo (ev cl o (frzAll ρ (esc e)) t) fun x t => setFK (frzAll ρ (esc e)) t x f d
  | .aug i o e, ρ, t => match look (frzAll ρ (esc e)) i with
    | .val (.int x) => bo (ev cl e (frzAll ρ (esc e)) t) fun y t => augK (frzAll ρ (esc e)) t i o x y
    | _ => .no
  | .mut m i es, ρ, t => bo (evs cl es (frzAll ρ (escs es)) t) fun xs t => mutK (frzAll ρ (escs es)) t m i xs
  | .ifs c a b, ρ, t => bo (evT cl c (frzAll ρ (esT c)) t) fun k t => if k then execs a (frzAll ρ (esT c)) t else execs b (frzAll ρ (esT c)) t
  | .for g s b fg, ρ, t => bo (evSrc cl s false (frzAll ρ (escS s)) t) fun xs t => forL (forK g fun ρ t => execs b ρ t) fg xs (frzAll ρ (escS s)) t
  | .whl k c b fg, ρ, t => whlL (fun ρ t => evT cl c ρ t) (fun ρ t => execs b ρ t) (esT c) fg k ρ t
  | .ret e, ρ, t => bo (ev cl e (frzAll ρ (esc e)) t) fun d t => .ret d t
  | .retn, _, t => .ret .non t
  | .brk, ρ, t => .brk ρ t
  | .cont, ρ, t => .cont ρ t
  | .exp e, ρ, t => bo (ev cl e (frzAll ρ (esc e)) t) fun _ t => .nx (frzAll ρ (esc e)) t
  | .rai c es, ρ, t => bo (evs cl es (frzAll ρ (escs es)) t) fun xs t => .ex c xs t
  | .fg is, ρ, t => .nx (unset ρ is) t
  | .pas, ρ, t => .nx ρ t
  | .never, _, _ => .no
def execs : Ss → Env → T → Out
  | .nil, ρ, t => .nx ρ t
  | .cons s r, ρ, t => thenK (exec s ρ t) fun ρ t => execs r ρ t
end
end

/-! ### the program -/
structure Fn where
  name : String
  cls : Option Nat
  N : List String
  np : Nat
  body : Ss
  gc : Bool
structure Cls where
  name : String
  init : Nat
structure Prg where
  fns : List Fn
  cls : List Cls
  flds : List String
  cons : List (String × D)

-- objects below n alone
mutual
def low (n : Nat) : D → Bool
  | .obj k => decide (k < n)
  | .tup xs => lows n xs
  | .lst xs => lows n xs
  | _ => true
def lows (n : Nat) : List D → Bool
  | [] => true
  | x :: r => low n x && lows n r
end
def lowO (n : Nat) : Ob → Bool
  | .lst xs => lows n xs
  | .dct kvs => kvs.all fun p => low n p.1 && low n p.2
  | .ins _ fs => fs.all fun p => low n p.2
/-- what a def made for itself alone is forgotten -/
def sweep (gc : Bool) (n : Nat) (d : D) (t : T) : R D :=
  if gc then (if low n d && (t.take n).all (lowO n) then .ok d (t.take n) else .no) else .ok d t
def runF (cl : Calls) (f : Fn) (as : List D) (t : T) : R D :=
  if as.length = f.np then
    match execs cl f.body (as.map .val ++ List.replicate (f.N.length - as.length) .un) t with
    | .nx _ t' => sweep f.gc t.length .non t'
    | .ret d t' => sweep f.gc t.length d t'
    | .ex c as t' => .ex c as t'
    | _ => .no
  else .no
/-- the object is made, then __init__ is run -/
def mkC (P : Prg) (fn : Nat → List D → T → R D) (c : Nat) (as : List D) (t : T) : R D :=
  match P.cls[c]? with
  | some k => bnd (fn k.init (.obj t.length :: as) (t ++ [.ins c []])) fun d t' => match d with
    | .non => .ok (.obj t.length) t'
    | _ => .no
  | none => .no
def call (P : Prg) : Nat → Nat → List D → T → R D
  | 0, _, _, _ => .no
  | n + 1, i, as, t => match P.fns[i]? with
    | some f => runF ⟨fun j as t => call P n j as t, fun c as t => mkC P (fun j as t => call P n j as t) c as t⟩ f as t
    | none => .no
end Pd
set_option Elab.async false
set_option linter.all false
set_option maxRecDepth 100000
set_option autoImplicit false
/-! Pd: len(set(texts)), list(range(n)), tuple(range(n)). -/
namespace Pd
open PySem PySem.Spec PyProof.Rows L2 TL Bits

def onceP (σ : List PySem.Str) (v : PySem.Str) : List PySem.Str := if σ.any (· == v) then σ else σ ++ [v]
theorem onceP_any (σ : List PySem.Str) (v k : PySem.Str) : (onceP σ v).any (· == k) = (σ.any (· == k) || decide (k = v)) := by
  unfold onceP
  by_cases h : σ.any (· == v) = true
  · rw [if_pos h]
    by_cases e : k = v
    · subst e; rw [h]; simp
    · simp [e]
  · rw [if_neg h, List.any_append]
    by_cases e : k = v
    · subst e; simp
    · have hb : (v == k) = false := by simpa [beq_iff_eq] using (fun h' : v = k => e h'.symm)
      simp [hb, e]
theorem onceP_length (σ : List PySem.Str) (v : PySem.Str) : (onceP σ v).length = if σ.any (· == v) then σ.length else σ.length + 1 := by
  unfold onceP; split <;> simp
def metP (xs : List PySem.Str) (i : Nat) : List PySem.Str := (xs.take i).foldl onceP []
theorem metP_succ {xs : List PySem.Str} {i : Nat} (h : i < xs.length) : metP xs (i + 1) = onceP (metP xs i) (xs.getD i Str.empty) := by
  unfold metP
  have e : xs.take (i + 1) = xs.take i ++ [xs[i]] := by simp
  rw [e, List.foldl_append, List.getD_eq_getElem?_getD, List.getElem?_eq_getElem h]
  rfl
theorem metP_le (xs : List PySem.Str) : ∀ i, (metP xs i).length ≤ i
  | 0 => by simp [metP]
  | i + 1 => by
    by_cases h : i < xs.length
    · rw [metP_succ h, onceP_length]
      have := metP_le xs i
      split <;> omega
    · have e : metP xs (i + 1) = metP xs i := by
        unfold metP
        rw [List.take_of_length_le (by omega), List.take_of_length_le (by omega)]
      have := metP_le xs i
      rw [e]; omega
section
variable {prog : Program} {w : World} {A : Around} {R : Result → Shared → Prop} {I : Addr} {fp wr : List Addr} {G : Array GenState → Array GenState → Prop} {n : Nat} {P : Nat → Value → Prop} {St : Nat → Shared → Prop}
theorem loopP (W : WalksS prog w A.in1 I fp wr G n P St) (S : Addr) (hSf : S ∉ fp) (xs : List PySem.Str) (hsz : xs.length = n) (hb : n + 1 < scanBound)
    (hval : ∀ i v, P i v → ∃ t, v = .str (xs.getD i Str.empty) t) :
    ∀ (k i : Nat) (s : Shared), n - i = k → i ≤ n → St i s →
      s.heap.SetOf (PySem.strKind prog w) S (fun k' => (metP xs i).any (· == k')) (metP xs i).length →
      (∀ s', Moved (S :: wr) G s s' → s'.heap.SetOf (PySem.strKind prog w) S (fun k' => (metP xs n).any (· == k')) (metP xs n).length → R (.ok (.ret .none)) s') →
      codeAny (model prog w) A (.builtin "set.update.loop" ⟨[.ref S, .ref I], []⟩) R s := by
  have hSw : S ∉ wr := fun h => hSf (W.sub _ h)
  have hsub : ∀ b ∈ wr, b ∈ S :: wr := fun b hb => List.mem_cons_of_mem _ hb
  intro k
  induction k with
  | zero =>
    intro i s hk hi hst hS hR
    have hin : i = n := by omega
    subst hin
    refine codeAny_builtin PyProof.Rows.F.entry_set_update_loop ?_
    rw [Around.under_plainId PyProof.Rows.F.plain_set_update_loop _]
    show wpAny _ A.in1 (pyNext (.ref I) >>= _) _ _ s
    refine wpAny_bind (W.done s _ _ hst fun s' hm => ?_)
    show wpAny _ A.in1 (ret Value.none) _ _ s'
    exact wpAny_pure (hR s' (hm.mono hsub) (by
      obtain ⟨o, es, ep, t, ho, rest⟩ := hS
      exact ⟨o, es, ep, t, hm.heap S _ hSw ho, rest⟩))
  | succ k ih =>
    intro i s hk hi hst hS hR
    have hlt : i < n := by omega
    refine codeAny_builtin PyProof.Rows.F.entry_set_update_loop ?_
    rw [Around.under_plainId PyProof.Rows.F.plain_set_update_loop _]
    show wpAny _ A.in1 (pyNext (.ref I) >>= _) _ _ s
    refine wpAny_bind (W.item i s _ _ hlt hst fun v s' hP hst' hm => ?_)
    obtain ⟨t, rfl⟩ := hval i v hP
    have hS' : s'.heap.SetOf (PySem.strKind prog w) S (fun k' => (metP xs i).any (· == k')) (metP xs i).length := by
      obtain ⟨o, es, ep, tb, ho, rest⟩ := hS
      exact ⟨o, es, ep, tb, hm.heap S _ hSw ho, rest⟩
    show wpAny _ A.in1 (holding [Value.str (xs.getD i Str.empty) t] (setAdd S (.str (xs.getD i Str.empty) t)) >>= _) _ _ s'
    refine wpAny_bind (wpAny_holding ?_)
    unfold setAdd
    refine wpAny_holding ?_
    refine wpAny_bind ((PySem.strKind prog w).pyHash (k := xs.getD i Str.empty) (strKind_is _ _ _ _) ?_)
    have hroom : (metP xs i).length + 1 < scanBound := by have := metP_le xs i; omega
    refine wpAny_setAddHashed_of (knd := PySem.strKind prog w) (s := { s' with toks := s'.toks + 1 }) (strKind_is _ _ _ _) rfl hS' hroom fun h' hsb hS2 => ?_
    have hSi : h'.SetOf (PySem.strKind prog w) S (fun k' => (metP xs (i + 1)).any (· == k')) (metP xs (i + 1)).length :=
      SetOf_congr hS2 (fun k' => by rw [metP_succ (by omega), onceP_any]) (by rw [metP_succ (by omega), onceP_length])
    refine wpAny_pure ⟨plainId_quiet PyProof.Rows.F.plain_set_update_loop _, ih (i + 1) _ (by omega) hlt (W.frame _ s' _ _ hst' (Nat.le_succ _) fun b hb o e => ?_) hSi fun s'' hm'' hS'' => ?_⟩
    · rw [hsb.2 b (fun h : b = S => hSf (by rw [← h]; exact hb))]; exact e
    · refine hR s'' (Moved.trans W.gtrans ((hm.mono hsub).then_heap (Nat.le_succ _) fun b o hb e => ?_) hm'') hS''
      rw [hsb.2 b (fun h : b = S => hb (by rw [h]; exact List.mem_cons_self))]; exact e
end
section
variable {prog : Program} {w : World} {A : Around} {E : Value → Shared → Prop} {s : Shared}
set_option maxHeartbeats 6400000 in
/-- set(xs) of a list or a tuple of texts, turned from the kit's proof for no text or one -/
theorem call_setP {l : Addr} {items : Array Value} {xs : List PySem.Str} {Q : Value → Shared → Prop}
    (hh : A.handled = none) (hl : s.heap.IsList l items ∨ s.heap.IsTuple l items) (hi : PyProof.Rows.StrsAre items.toList xs) (hb : items.size + 1 < scanBound)
    (h : ∀ (h' : Heap) (tk : Nat), h'.SetOf (PySem.strKind prog w) s.heap.objs.size (fun k' => (metP xs items.size).any (· == k')) (metP xs items.size).length →
      (∀ b o, b < s.heap.objs.size → s.heap.get? b = some o → h'.get? b = some o) → Q (.ref s.heap.objs.size) { s with heap := h', toks := tk }) :
    wpAny (model prog w) A (PySem.call (.type "set") [.ref l]) Q E s := by
  obtain ⟨c, tl, hmro⟩ := PySem.F.called_set.mro
  have hmade := PySem.F.called_set.made
  have hsub := PySem.F.called_set.sub
  refine wpAny_call (codeAny_of_tree ?_)
  show wpAny _ _ (callAny (.type "set") _) _ _ _
  refine wpAny_pure ⟨Code.quiet_builtin _ (by decide +kernel), codeAny_builtin PySem.F.entry_type_call ?_⟩
  rw [Around.under_plain (weight_type_call_type "set" [.ref l] []) rfl]
  have h1 := PySem.F.called_set.notType
  have h2 := PySem.F.called_set.canCreate
  have hct := PySem.F.typeCall_set_1 (.ref l)
  repeat (any_goals (first | assumption | wp_step))
  refine codeAny_mono (code_set_new_1 (.ref l) (E := E) (Q₁ := fun obj s₁ => ∃ led : Bool, obj = .ref s.heap.objs.size ∧ s₁ = { s with heap := s.heap.push { cls := .type "set", dict := none, data := .set #[] 0 (.fresh 0 0 led) } }) fun led => ⟨led, rfl, rfl⟩) fun r s₁ hr => ?_
  cases r with
  | error e => exact hr
  | ok fl =>
    cases fl with
    | ret obj =>
      obtain ⟨led, rfl, rfl⟩ := hr
      have hS : (s.heap.push { cls := .type "set", dict := none, data := .set #[] 0 (.fresh 0 0 led) }).get? s.heap.objs.size = some { cls := .type "set", dict := none, data := .set #[] 0 (.fresh 0 0 led) } := Heap.get?_push_size _ rfl
      have hT : Shared.TypeIs { s with heap := s.heap.push { cls := .type "set", dict := none, data := .set #[] 0 (.fresh 0 0 led) } } (.ref s.heap.objs.size) "set" := ⟨_, hS, rfl⟩
      have hli := PySem.F.called_set.init.lookup
      have hbi := PySem.F.called_set.init.bind (.ref s.heap.objs.size)
      repeat (any_goals (first | assumption | wp_step))
      have hsz : xs.length = items.size := by rw [← StrsAre.len_eq hi, Array.length_toList]
      have hval : ∀ (i : Nat) (v : Value), items[i]? = some v → ∃ t, v = .str (xs.getD i Str.empty) t := fun i v hv => SS.strs_at hi i v (by rw [Array.getElem?_toList]; exact hv)
      have hh3 : A.in1.in1.in1.handled = none := by simp [hh]
      have fin : ∀ s', Moved [s.heap.objs.size, (s.heap.push { cls := .type "set", dict := none, data := .set #[] 0 (.fresh 0 0 led) }).objs.size] (· = ·) { s with heap := (s.heap.push { cls := .type "set", dict := none, data := .set #[] 0 (.fresh 0 0 led) }) } s' → True := fun _ _ => trivial
      refine codeAny_mono (codeAny_call_builtin (R := wants (fun r s₂ => r = .none ∧ ∃ h' tk, s₂ = { s with heap := h', toks := tk } ∧
          h'.SetOf (PySem.strKind prog w) s.heap.objs.size (fun k' => (metP xs items.size).any (· == k')) (metP xs items.size).length ∧
          (∀ b o, b < s.heap.objs.size → s.heap.get? b = some o → h'.get? b = some o)) E) PySem.F.called_set.init.plain PySem.F.entry_set_init (check_set_init_1 hT ?_)) fun r₂ s₂ hr₂ => ?_
      · rcases hl with hl | hl
        · obtain ⟨ol, hol, hcl, nl, hdl⟩ := hl
          obtain ⟨ocls, odict, odata, oslots⟩ := ol
          simp only at hcl hdl
          subst hcl; subst hdl
          have hol' : (s.heap.push { cls := .type "set", dict := none, data := .set #[] 0 (.fresh 0 0 led) }).get? l = some { cls := .type "list", dict := odict, data := .seq items nl, slots := oslots } := Heap.get?_push_of_some _ hol
          have hsls := PySem.F.sub_list_set
          have hslf := PySem.F.sub_list_frozenset
          have hne : (Value.type "list" == Value.type "dict") = false := by decide
          have hl1 : (s.heap.push { cls := .type "set", dict := none, data := .set #[] 0 (.fresh 0 0 led) }).IsList l items := ⟨_, hol', rfl, nl, rfl⟩
          unfold Builtin.«set.__init__» noKeywords Builtin.Frozenset.updateFrom
          generalize hPI : pyIter = PI
          wp_walk
          subst hPI
          refine wpAny_pyIter_list hl1 ?_
          refine wpAny_bind (wpAny_runValue ?_)
          have hlS : l < s.heap.objs.size := Heap.lt_size hol
          have hneI : l ≠ (s.heap.push { cls := .type "set", dict := none, data := .set #[] 0 (.fresh 0 0 led) }).objs.size := by
            rw [Heap.size_push]; exact Nat.ne_of_lt (Nat.lt_succ_of_lt hlS)
          have hSf : s.heap.objs.size ∉ [(s.heap.push { cls := .type "set", dict := none, data := .set #[] 0 (.fresh 0 0 led) }).objs.size, l] := by
            rw [Heap.size_push]; simp only [List.mem_cons, List.mem_singleton, List.not_mem_nil, or_false, not_or]
            exact ⟨Nat.ne_of_lt (Nat.lt_succ_self _), Nat.ne_of_gt hlS⟩
          refine loopP ((Walks.list hh3 _ l hneI items).toS) s.heap.objs.size
            hSf xs hsz hb hval (items.size - 0) 0 _ (by omega) (Nat.zero_le _)
            ⟨⟨_, Heap.get?_push_size _ rfl, rfl, rfl⟩, (hl1.push _)⟩ ?hS0 ?hR
          case hS0 =>
            have hget : ((s.heap.push { cls := .type "set", dict := none, data := .set #[] 0 (.fresh 0 0 led) }).push { cls := .type "list_iterator", data := .fields #[.ref l, .int 0 0] }).get? s.heap.objs.size
                = some { cls := .type "set", dict := none, data := .set #[] 0 (.fresh 0 0 led) } := Heap.get?_push_of_some _ hS
            exact PyProof.Rows.SetOf_congr ((PyProof.Rows.setObjOf_fresh (knd := PySem.strKind prog w) led).setOf hget (by unfold scanBound; omega)) (fun _ => rfl) rfl
          case hR =>
            intro s' hm hS'
            obtain ⟨h', g', d', tk', os'⟩ := s'
            have eg : g' = s.gens := hm.gens
            have ed : d' = s.drawn := hm.drawn
            have eo : os' = s.os := hm.os
            subst eg; subst ed; subst eo
            show wpAny _ _ _ _ _ _
            refine wpAny_pure ?_
            show wpAny _ _ (ret Value.none) _ _ _
            refine wpAny_pure ⟨rfl, h', tk', rfl, hS', fun b o hb e => ?_⟩
            have hb1 : b ≠ s.heap.objs.size := Nat.ne_of_lt hb
            have hb2 : b ≠ (s.heap.push { cls := .type "set", dict := none, data := .set #[] 0 (.fresh 0 0 led) }).objs.size := by
              rw [Heap.size_push]; exact Nat.ne_of_lt (Nat.lt_succ_of_lt hb)
            exact hm.heap b o (by simp only [List.mem_cons, List.mem_singleton, List.not_mem_nil, or_false, not_or]; exact ⟨hb1, hb2⟩) (Heap.get?_push_of_some _ (Heap.get?_push_of_some _ e))
        · obtain ⟨ol, hol, hcl, nl, hdl⟩ := hl
          obtain ⟨ocls, odict, odata, oslots⟩ := ol
          simp only at hcl hdl
          subst hcl; subst hdl
          have hol' : (s.heap.push { cls := .type "set", dict := none, data := .set #[] 0 (.fresh 0 0 led) }).get? l = some { cls := .type "tuple", dict := odict, data := .seq items nl, slots := oslots } := Heap.get?_push_of_some _ hol
          have hsls := PySem.F.sub_tuple_set
          have hslf := PySem.F.sub_tuple_frozenset
          have hne : (Value.type "tuple" == Value.type "dict") = false := by decide
          have hl1 : (s.heap.push { cls := .type "set", dict := none, data := .set #[] 0 (.fresh 0 0 led) }).IsTuple l items := ⟨_, hol', rfl, nl, rfl⟩
          unfold Builtin.«set.__init__» noKeywords Builtin.Frozenset.updateFrom
          generalize hPI : pyIter = PI
          wp_walk
          subst hPI
          refine wpAny_pyIter_tuple hl1 ?_
          refine wpAny_bind (wpAny_runValue ?_)
          have hlS : l < s.heap.objs.size := Heap.lt_size hol
          have hneI : l ≠ (s.heap.push { cls := .type "set", dict := none, data := .set #[] 0 (.fresh 0 0 led) }).objs.size := by
            rw [Heap.size_push]; exact Nat.ne_of_lt (Nat.lt_succ_of_lt hlS)
          have hSf : s.heap.objs.size ∉ [(s.heap.push { cls := .type "set", dict := none, data := .set #[] 0 (.fresh 0 0 led) }).objs.size, l] := by
            rw [Heap.size_push]; simp only [List.mem_cons, List.mem_singleton, List.not_mem_nil, or_false, not_or]
            exact ⟨Nat.ne_of_lt (Nat.lt_succ_self _), Nat.ne_of_gt hlS⟩
          refine loopP ((Walks.tuple hh3 _ l hneI items).toS) s.heap.objs.size
            hSf xs hsz hb hval (items.size - 0) 0 _ (by omega) (Nat.zero_le _)
            ⟨⟨_, Heap.get?_push_size _ rfl, rfl, rfl⟩, (hl1.push _)⟩ ?hS0 ?hR
          case hS0 =>
            have hget : ((s.heap.push { cls := .type "set", dict := none, data := .set #[] 0 (.fresh 0 0 led) }).push { cls := .type "tuple_iterator", data := .fields #[.ref l, .int 0 0] }).get? s.heap.objs.size
                = some { cls := .type "set", dict := none, data := .set #[] 0 (.fresh 0 0 led) } := Heap.get?_push_of_some _ hS
            exact PyProof.Rows.SetOf_congr ((PyProof.Rows.setObjOf_fresh (knd := PySem.strKind prog w) led).setOf hget (by unfold scanBound; omega)) (fun _ => rfl) rfl
          case hR =>
            intro s' hm hS'
            obtain ⟨h', g', d', tk', os'⟩ := s'
            have eg : g' = s.gens := hm.gens
            have ed : d' = s.drawn := hm.drawn
            have eo : os' = s.os := hm.os
            subst eg; subst ed; subst eo
            show wpAny _ _ _ _ _ _
            refine wpAny_pure ?_
            show wpAny _ _ (ret Value.none) _ _ _
            refine wpAny_pure ⟨rfl, h', tk', rfl, hS', fun b o hb e => ?_⟩
            have hb1 : b ≠ s.heap.objs.size := Nat.ne_of_lt hb
            have hb2 : b ≠ (s.heap.push { cls := .type "set", dict := none, data := .set #[] 0 (.fresh 0 0 led) }).objs.size := by
              rw [Heap.size_push]; exact Nat.ne_of_lt (Nat.lt_succ_of_lt hb)
            exact hm.heap b o (by simp only [List.mem_cons, List.mem_singleton, List.not_mem_nil, or_false, not_or]; exact ⟨hb1, hb2⟩) (Heap.get?_push_of_some _ (Heap.get?_push_of_some _ e))
      · cases r₂ with
        | error e => exact hr₂
        | ok fl₂ =>
          cases fl₂ with
          | ret r =>
            obtain ⟨rfl, h', tk, rfl, hS', hk'⟩ := hr₂
            repeat (any_goals (first | assumption | wp_step))
            exact h _ _ hS' hk'
          | _ => exact hr₂.elim
    | _ => exact hr.elim
end
section
variable {X : Cx}
def tLenSetP (K : PySem.W.Frag) (ta : TE) : TE := fun σ H Q => ta σ H fun x H1 => ∃ (l : Addr) (xs : List PySem.Str), x = .ref l ∧ (SqL K H1 l (xs.map V.str) ∨ SqT K H1 l (xs.map V.str)) ∧ xs.length ≤ 1000 ∧ Q (.int ((metP xs xs.length).length : Nat)) H1
theorem pe_lenSetP {a : Expr} {ta : TE} {p p2 q pos : Pos} (hc : X.calm = true) (hg : Gl X "len") (hm : X.mg "len" = none) (hg2 : Gl X "set") (hm2 : X.mg "set" = none) (ha : PE X a ta)
    (na : starEach [a] X.env = (false, eval a X.env) :: starEach [] X.env) : PE X (.Call (.Name "len" p) [.Call (.Name "set" p2) [a] [] q] [] pos) (tLenSetP X.K ta) := by
  refine ⟨fun pins s σ H Q I h => Call_ (ld_blt I hg hm boot_len (PyProof.Rows.callWith_builtin1 (PyProof.Rows.args_cons (Call_ (ld_blt I hg2 hm2 boot_set (PyProof.Rows.callWith_type1 (PyProof.Rows.args_cons (thn (ha.run pins s σ H _ I h) fun v s1 hv => PyProof.Rows.args_nil ?_) na) na rfl))) rfl) rfl rfl))⟩
  obtain ⟨x, H1, I1, r1, l, xs, rfl, hq, h1, q1⟩ := hv
  cases r1
  have go : ∀ (its : List Value), Vals (xs.map V.str) its → (s1.heap.IsList l its.toArray ∨ s1.heap.IsTuple l its.toArray) → wpAny (model X.prog X.w) X.A (PySem.call (.type "set") [.ref l]) (fun v s₁ => wpAny (model X.prog X.w) X.A (spliced (backTo pos (starEach [] X.env))) (fun vs s₂ => wpAny (model X.prog X.w) X.A (PySem.call (.builtin "len") (v :: vs)) (EP X pins σ Q) X.xe s₂) X.xe s₁) X.xe s1 := fun its r hl => by
    have hz : its.toArray.size = xs.length := by rw [List.size_toArray, ← r.length, List.length_map]
    refine call_setP (I1.ok.hd hc) hl (by simpa using strsAre_of r) (by rw [hz]; unfold scanBound; omega) fun h' tk hS hk => PyProof.Rows.args_nil ?_
    rw [hz] at hS
    obtain ⟨o, es, ep, t, ho, hex, hd, _, _, _, hf, hn⟩ := hS
    have I2 : Inv X pins σ H1 { s1 with heap := h', toks := tk } := I1.kept fun b o e => hk b o (Heap.lt_size e) e
    have lm := metP_le xs xs.length
    exact call_len_set ho hex hd hf (by rw [hn]; omega) ⟨.int ((metP xs xs.length).length : Nat), H1, I2.tok _, ⟨_, by rw [hn]⟩, q1⟩
  rcases hq with hq | hq
  · obtain ⟨its, r, pl, hz⟩ := I1.list hq
    exact go its r (.inl pl.isList)
  · obtain ⟨its, r, pl, hz⟩ := I1.tuple hq
    exact go its r (.inr pl)
end
end Pd
set_option Elab.async false
set_option linter.all false
set_option maxRecDepth 100000
set_option autoImplicit false
/-! Pd: how data lie in the abstract heap. -/
namespace Pd
open PySem PySem.Spec PyProof.Rows L2

theorem szL : (sizeLine : Nat) = sz := by rw [sizeLine_eq]; rfl

/-- what stays the same through a law: the written part, where classes lie, the fields' names -/
structure Cn where
  K : PySem.W.Frag
  ca : Nat → Option Addr
  fnm : Nat → Option Str

/-- where objects lie; what is never changed again -/
structure Gh where
  ob : List Addr
  fz : Addr → Prop

def strV (s : List Nat) : V := .str ⟨s.toArray⟩
/-- a text as it may be -/
def okS (s : List Nat) : Prop := s.length ≤ sz ∧ ∀ x ∈ s, x < 1114112

section
variable (c : Cn) (g : Gh) (H : Hp)
mutual
def Rep : V → D → Prop
  | v, .non => v = .non
  | v, .bl b => v = .bl b
  | v, .int i => v = .int i
  | v, .str s => v = strV s ∧ okS s
  | v, .tup ds => ∃ a vs, v = .ref a ∧ g.fz a ∧ H a = some (.tup vs) ∧ Reps vs ds ∧ ds.length ≤ sz
  | v, .lst ds => ∃ a vs, v = .ref a ∧ g.fz a ∧ H a = some (.lst vs) ∧ Reps vs ds ∧ ds.length ≤ sz
  | v, .scr ns => ∃ a, v = .ref a ∧ ns.length ≤ 1000 ∧ ((g.fz a ∧ L2.Rd H a (.lst (ns.map V.int))) ∨
      ∃ (o : Obj) (its : Array Value) (n : Nat), c.K.lookup a = some o ∧ o.cls = .type "list" ∧ o.dict = none ∧ o.data = .seq its n ∧ its.size ≤ sizeLine ∧ Vals (ns.map V.int) its.toList)
  | v, .obj n => ∃ a, v = .ref a ∧ g.ob[n]? = some a
def Reps : List V → List D → Prop
  | vs, [] => vs = []
  | vs, d :: ds => ∃ v r, vs = v :: r ∧ Rep v d ∧ Reps r ds
end
end

/-- frozen things stay as they are, objects keep their numbers -/
structure Mo (g : Gh) (H : Hp) (g' : Gh) (H' : Hp) : Prop where
  fz : ∀ a, g.fz a → g'.fz a ∧ H' a = H a
  ob : g.ob <+: g'.ob
theorem Mo.refl {g : Gh} {H : Hp} : Mo g H g H := ⟨fun _ h => ⟨h, rfl⟩, List.prefix_refl _⟩
theorem Mo.trans {g g1 g2 : Gh} {H H1 H2 : Hp} (a : Mo g H g1 H1) (b : Mo g1 H1 g2 H2) : Mo g H g2 H2 :=
  ⟨fun x h => ⟨(b.fz x (a.fz x h).1).1, (b.fz x (a.fz x h).1).2.trans (a.fz x h).2⟩, a.ob.trans b.ob⟩
theorem pre_get {α : Type} {xs ys : List α} (h : xs <+: ys) {i : Nat} {a : α} (e : xs[i]? = some a) : ys[i]? = some a := by
  obtain ⟨r, rfl⟩ := h
  rw [List.getElem?_append_left (List.getElem?_eq_some_iff.mp e).1]; exact e

section
variable {c : Cn} {g g' : Gh} {H H' : Hp}
mutual
theorem Rep.mono (m : Mo g H g' H') : ∀ (d : D) (v : V), Rep c g H v d → Rep c g' H' v d
  | .non, _, h => h
  | .bl _, _, h => h
  | .int _, _, h => h
  | .str _, _, h => h
  | .tup ds, v, h => by
    obtain ⟨a, vs, e, f, q, r, l⟩ := h
    exact ⟨a, vs, e, (m.fz a f).1, (m.fz a f).2.trans q, Reps.mono m ds vs r, l⟩
  | .lst ds, v, h => by
    obtain ⟨a, vs, e, f, q, r, l⟩ := h
    exact ⟨a, vs, e, (m.fz a f).1, (m.fz a f).2.trans q, Reps.mono m ds vs r, l⟩
  | .scr ns, v, h => by
    obtain ⟨a, e, l, q⟩ := h
    refine ⟨a, e, l, ?_⟩
    rcases q with ⟨f, q⟩ | q
    · refine .inl ⟨(m.fz a f).1, ?_⟩
      rcases q with q | ⟨o, q⟩
      · exact .inl ((m.fz a f).2.trans q)
      · exact .inr ⟨o, (m.fz a f).2.trans q⟩
    · exact .inr q
  | .obj n, v, h => by
    obtain ⟨a, e, q⟩ := h
    exact ⟨a, e, pre_get m.ob q⟩
theorem Reps.mono (m : Mo g H g' H') : ∀ (ds : List D) (vs : List V), Reps c g H vs ds → Reps c g' H' vs ds
  | [], _, h => h
  | d :: ds, vs, h => by
    obtain ⟨v, r, e, h1, h2⟩ := h
    exact ⟨v, r, e, Rep.mono m d v h1, Reps.mono m ds r h2⟩
end
theorem Reps.nil : Reps c g H [] [] := rfl
theorem Reps.cons {v : V} {d : D} {vs : List V} {ds : List D} (h : Rep c g H v d) (r : Reps c g H vs ds) : Reps c g H (v :: vs) (d :: ds) := ⟨v, vs, rfl, h, r⟩
theorem Reps.length : ∀ {ds : List D} {vs : List V}, Reps c g H vs ds → vs.length = ds.length
  | [], _, h => by cases h; rfl
  | d :: ds, vs, h => by
    obtain ⟨v, r, rfl, _, h2⟩ := h
    rw [List.length_cons, List.length_cons, Reps.length h2]
theorem Reps.append : ∀ {ds es : List D} {vs ws : List V}, Reps c g H vs ds → Reps c g H ws es → Reps c g H (vs ++ ws) (ds ++ es)
  | [], _, _, _, h, k => by cases h; exact k
  | d :: ds, es, vs, ws, h, k => by
    obtain ⟨v, r, rfl, h1, h2⟩ := h
    exact ⟨v, r ++ ws, rfl, h1, Reps.append h2 k⟩
theorem Reps.get : ∀ {ds : List D} {vs : List V} {i : Nat} {d : D}, Reps c g H vs ds → ds[i]? = some d → ∃ v, vs[i]? = some v ∧ Rep c g H v d
  | [], _, _, _, _, e => by simp at e
  | x :: ds, vs, i, d, h, e => by
    obtain ⟨v, r, rfl, h1, h2⟩ := h
    cases i with
    | zero => simp at e; subst e; exact ⟨v, rfl, h1⟩
    | succ i =>
      obtain ⟨w, e1, e2⟩ := Reps.get (i := i) h2 (by simpa using e)
      exact ⟨w, by simpa using e1, e2⟩
theorem Reps.drop : ∀ {ds : List D} {vs : List V} (n : Nat), Reps c g H vs ds → Reps c g H (vs.drop n) (ds.drop n)
  | _, _, 0, h => h
  | [], _, n + 1, h => by cases h; rfl
  | x :: ds, vs, n + 1, h => by
    obtain ⟨v, r, rfl, h1, h2⟩ := h
    exact Reps.drop n h2
theorem Reps.take : ∀ {ds : List D} {vs : List V} (n : Nat), Reps c g H vs ds → Reps c g H (vs.take n) (ds.take n)
  | _, _, 0, h => rfl
  | [], _, n + 1, h => by cases h; rfl
  | x :: ds, vs, n + 1, h => by
    obtain ⟨v, r, rfl, h1, h2⟩ := h
    exact ⟨v, r.take n, rfl, h1, Reps.take n h2⟩
theorem Reps.set : ∀ {ds : List D} {vs : List V} {v : V} {d : D} (i : Nat), Reps c g H vs ds → Rep c g H v d → Reps c g H (vs.set i v) (ds.set i d)
  | [], _, _, _, _, h, _ => by cases h; rfl
  | x :: ds, vs, v, d, 0, h, k => by
    obtain ⟨w, r, rfl, h1, h2⟩ := h
    exact ⟨v, r, rfl, k, h2⟩
  | x :: ds, vs, v, d, i + 1, h, k => by
    obtain ⟨w, r, rfl, h1, h2⟩ := h
    exact ⟨w, r.set i v, rfl, h1, Reps.set i h2 k⟩
theorem Reps.eraseIdx : ∀ {ds : List D} {vs : List V} (i : Nat), Reps c g H vs ds → Reps c g H (vs.eraseIdx i) (ds.eraseIdx i)
  | [], _, _, h => by cases h; rfl
  | x :: ds, vs, 0, h => by
    obtain ⟨w, r, rfl, h1, h2⟩ := h
    exact h2
  | x :: ds, vs, i + 1, h => by
    obtain ⟨w, r, rfl, h1, h2⟩ := h
    exact ⟨w, r.eraseIdx i, rfl, h1, Reps.eraseIdx i h2⟩
theorem Reps.ints : ∀ (ns : List Int), Reps c g H (ns.map V.int) (ns.map D.int)
  | [] => rfl
  | n :: ns => ⟨.int n, ns.map V.int, rfl, rfl, Reps.ints ns⟩
theorem Reps.intsOf : ∀ {ds : List D} {vs : List V} {ns : List Int}, Reps c g H vs ds → intsOf ds = some ns → vs = ns.map V.int
  | [], _, ns, h, e => by cases h; cases e; rfl
  | d :: ds, vs, ns, h, e => by
    obtain ⟨v, r, rfl, h1, h2⟩ := h
    cases d with
    | int i =>
      obtain ⟨ms, e1, rfl⟩ := Option.map_eq_some_iff.mp (show (Pd.intsOf ds).map (i :: ·) = some ns from e)
      rw [show v = V.int i from h1, Reps.intsOf h2 e1]; rfl
    | _ => cases e
theorem Reps.boolsOf : ∀ {ds : List D} {vs : List V} {ns : List Bool}, Reps c g H vs ds → boolsOf ds = some ns → vs = ns.map V.bl
  | [], _, ns, h, e => by cases h; cases e; rfl
  | d :: ds, vs, ns, h, e => by
    obtain ⟨v, r, rfl, h1, h2⟩ := h
    cases d with
    | bl i =>
      obtain ⟨ms, e1, rfl⟩ := Option.map_eq_some_iff.mp (show (Pd.boolsOf ds).map (i :: ·) = some ns from e)
      rw [show v = V.bl i from h1, Reps.boolsOf h2 e1]; rfl
    | _ => cases e
theorem Reps.strsOf : ∀ {ds : List D} {vs : List V} {ns : List (List Nat)}, Reps c g H vs ds → strsOf ds = some ns → vs = ns.map strV ∧ ∀ s ∈ ns, okS s
  | [], _, ns, h, e => by cases h; cases e; exact ⟨rfl, fun _ h => absurd h (by simp)⟩
  | d :: ds, vs, ns, h, e => by
    obtain ⟨v, r, rfl, h1, h2⟩ := h
    cases d with
    | str i =>
      obtain ⟨ms, e1, rfl⟩ := Option.map_eq_some_iff.mp (show (Pd.strsOf ds).map (i :: ·) = some ns from e)
      obtain ⟨q1, q2⟩ := Reps.strsOf h2 e1
      obtain ⟨h3, h4⟩ : v = strV i ∧ okS i := h1
      refine ⟨by rw [h3, q1]; rfl, fun s hs => ?_⟩
      rcases List.mem_cons.mp hs with rfl | hs
      · exact h4
      · exact q2 s hs
    | _ => cases e
end

/-- an object as it lies -/
def ObR (c : Cn) (g : Gh) (H : Hp) (a : Addr) : Ob → Prop
  | .lst ds => ∃ vs, H a = some (.lst vs) ∧ Reps c g H vs ds ∧ ds.length ≤ sz
  | .dct kvs => (∃ ks, H a = some (.dK ks) ∧ ks.length = kvs.length ∧ ∀ (i : Nat) (k : Key) (v : V) (p : D × D), ks[i]? = some (k, v) → kvs[i]? = some p → Rep c g H (kV k) p.1 ∧ Rep c g H v p.2) ∨
      ∃ ks, H a = some (.dT ks) ∧ ks.length = kvs.length ∧ ∀ (i : Nat) (k : List Key) (v : V) (p : D × D), ks[i]? = some (k, v) → kvs[i]? = some p → (∃ ds, p.1 = .tup ds ∧ Reps c g H (k.map kV) ds) ∧ Rep c g H v p.2
  | .ins k fs => ∃ C dx gs, c.ca k = some C ∧ H a = some (.ins C dx gs) ∧ gs.map (fun p => some p.1) = fs.map (fun p => c.fnm p.1) ∧ Reps c g H (gs.map (·.2)) (fs.map (·.2))

/-- the table of objects -/
structure StH (c : Cn) (g : Gh) (H : Hp) (t : T) : Prop where
  len : g.ob.length = t.length
  nd : g.ob.Nodup
  nf : ∀ a ∈ g.ob, ¬ g.fz a
  tr : ∀ a, g.fz a → H a ≠ none
  obs : ∀ (i : Nat) (a : Addr) (o : Ob), g.ob[i]? = some a → t[i]? = some o → ObR c g H a o
theorem ObR.tracked {c : Cn} {g : Gh} {H : Hp} {a : Addr} {o : Ob} (h : ObR c g H a o) : H a ≠ none := by
  cases o with
  | lst ds => obtain ⟨_, e, _⟩ := h; rw [e]; simp
  | dct kvs =>
    rcases h with ⟨_, e, _⟩ | ⟨_, e, _⟩ <;> rw [e] <;> simp
  | ins k fs => obtain ⟨_, _, _, _, e, _⟩ := h; rw [e]; simp
theorem StH.there {c : Cn} {g : Gh} {H : Hp} {t : T} (s : StH c g H t) {a : Addr} (h : a ∈ g.ob) : H a ≠ none := by
  obtain ⟨i, e⟩ := List.getElem?_of_mem h
  have hl : i < t.length := by rw [← s.len]; exact (List.getElem?_eq_some_iff.mp e).1
  exact (s.obs i a _ e (List.getElem?_eq_getElem hl)).tracked

theorem ObR.mono {c : Cn} {g g' : Gh} {H H' : Hp} {a : Addr} {o : Ob} (m : Mo g H g' H') (e : H' a = H a) (h : ObR c g H a o) : ObR c g' H' a o := by
  cases o with
  | lst ds =>
    obtain ⟨vs, q, r, l⟩ := h
    exact ⟨vs, e.trans q, Reps.mono m ds vs r, l⟩
  | dct kvs =>
    rcases h with ⟨ks, q, l, r⟩ | ⟨ks, q, l, r⟩
    · exact .inl ⟨ks, e.trans q, l, fun i k v p h1 h2 => ⟨Rep.mono m _ _ (r i k v p h1 h2).1, Rep.mono m _ _ (r i k v p h1 h2).2⟩⟩
    · refine .inr ⟨ks, e.trans q, l, fun i k v p h1 h2 => ?_⟩
      obtain ⟨⟨ds, h3, h4⟩, h5⟩ := r i k v p h1 h2
      exact ⟨⟨ds, h3, Reps.mono m _ _ h4⟩, Rep.mono m _ _ h5⟩
  | ins k fs =>
    obtain ⟨C, dx, gs, h1, h2, h3, h4⟩ := h
    exact ⟨C, dx, gs, h1, e.trans h2, h3, Reps.mono m _ _ h4⟩

/-- from one moment of an expression to a later one -/
structure Step (g : Gh) (H : Hp) (g' : Gh) (H' : Hp) : Prop where
  pre : g.ob <+: g'.ob
  fzm : ∀ a, g.fz a → g'.fz a
  fzn : ∀ a, g'.fz a → g.fz a ∨ H a = none
  obn : ∀ a ∈ g'.ob, a ∈ g.ob ∨ H a = none
  keep : ∀ a o, H a = some o → a ∉ g.ob → H' a = some o
  tr : ∀ a, H a ≠ none → H' a ≠ none
theorem Step.refl {g : Gh} {H : Hp} : Step g H g H := ⟨List.prefix_refl _, fun _ h => h, fun _ h => .inl h, fun _ h => .inl h, fun _ _ h _ => h, fun _ h => h⟩
theorem not_none {H : Hp} {a : Addr} (h : H a ≠ none) : ∃ o, H a = some o := by
  cases e : H a with
  | none => exact absurd e h
  | some o => exact ⟨o, rfl⟩
theorem Step.trans {g g1 g2 : Gh} {H H1 H2 : Hp} (a : Step g H g1 H1) (b : Step g1 H1 g2 H2) : Step g H g2 H2 where
  pre := a.pre.trans b.pre
  fzm := fun x h => b.fzm x (a.fzm x h)
  fzn := fun x h => by
    rcases b.fzn x h with q | q
    · exact a.fzn x q
    · cases e : H x with
      | none => exact .inr rfl
      | some o => exact absurd q (a.tr x (by rw [e]; simp))
  obn := fun x h => by
    rcases b.obn x h with q | q
    · exact a.obn x q
    · cases e : H x with
      | none => exact .inr rfl
      | some o => exact absurd q (a.tr x (by rw [e]; simp))
  keep := fun x o h n => by
    refine b.keep x o (a.keep x o h n) fun q => ?_
    rcases a.obn x q with z | z
    · exact n z
    · rw [z] at h; cases h
  tr := fun x h => b.tr x (a.tr x h)
theorem Step.mo {c : Cn} {t : T} {g g' : Gh} {H H' : Hp} (s : StH c g H t) (a : Step g H g' H') : Mo g H g' H' := by
  refine ⟨fun x h => ⟨a.fzm x h, ?_⟩, a.pre⟩
  obtain ⟨o, e⟩ := not_none (s.tr x h)
  rw [e]
  exact a.keep x o e fun q => s.nf x q h

/-- p is new and never changed again -/
def Gh.add (g : Gh) (p : Addr) : Gh := ⟨g.ob, fun a => g.fz a ∨ a = p⟩
section
variable {c : Cn} {g : Gh} {H : Hp} {t : T} {p : Addr} {o : HO}
theorem Step.alloc (hp : H p = none) : Step g H g (upd H p o) where
  pre := List.prefix_refl _
  fzm := fun _ h => h
  fzn := fun _ h => .inl h
  obn := fun _ h => .inl h
  keep := fun a u h _ => by rw [upd_ne (ne_of_none h hp)]; exact h
  tr := fun a h => by
    obtain ⟨u, e⟩ := not_none h
    rw [upd_ne (ne_of_none e hp)]; exact h
theorem Step.froze (h : H p = none) (hq : H p = none) : Step g H (g.add p) (upd H p o) where
  pre := List.prefix_refl _
  fzm := fun _ h => .inl h
  fzn := fun a h => by
    rcases h with h | rfl
    · exact .inl h
    · exact .inr hq
  obn := fun _ h => .inl h
  keep := (Step.alloc hq).keep
  tr := (Step.alloc (g := g) hq).tr
theorem StH.step {g' : Gh} {H' : Hp} (s : StH c g H t) (st : Step g H g' H') (e : g'.ob = g.ob) (h : ∀ a ∈ g.ob, H' a = H a) (tr : ∀ a, g'.fz a → H' a ≠ none) : StH c g' H' t where
  len := by rw [e]; exact s.len
  nd := by rw [e]; exact s.nd
  nf := fun a ha f => by
    rw [e] at ha
    rcases st.fzn a f with q | q
    · exact s.nf a ha q
    · exact s.there ha q
  tr := tr
  obs := fun i a o h1 h2 => by
    rw [e] at h1
    exact (s.obs i a o h1 h2).mono (st.mo s) (h a (List.mem_of_getElem? h1))
theorem StH.alloc (s : StH c g H t) (hp : H p = none) : StH c g (upd H p o) t :=
  s.step (Step.alloc hp) rfl (fun a ha => upd_ne fun z => s.there ha (z ▸ hp)) fun a f => (Step.alloc (g := g) hp).tr a (s.tr a f)
theorem StH.froze (s : StH c g H t) (hp : H p = none) : StH c (g.add p) (upd H p o) t :=
  s.step (Step.froze hp hp) rfl (fun a ha => upd_ne fun z => s.there ha (z ▸ hp)) fun a f => by
    rcases f with f | rfl
    · exact (Step.alloc (g := g) hp).tr a (s.tr a f)
    · rw [upd_same]; simp
end

/-! ### wishes -/
/-- the data d is handed on -/
def KD (c : Cn) (g : Gh) (H : Hp) (t : T) (d : D) (Q : VK) : Prop :=
  ∀ v g' H', Step g H g' H' → StH c g' H' t → Rep c g' H' v d → Q v H'
/-- a new list, held by no one -/
def KL (c : Cn) (g : Gh) (H : Hp) (t : T) (ds : List D) (Q : VK) : Prop :=
  ∀ p vs g' H', Step g H g' H' → StH c g' H' t → H' p = none → Reps c g' H' vs ds → ds.length ≤ sz → Q (.ref p) (upd H' p (.lst vs))
def KF (fr : Bool) (c : Cn) (g : Gh) (H : Hp) (t : T) (d : D) (Q : VK) : Prop :=
  match fr, d with
  | true, .lst ds => KL c g H t ds Q
  | _, d => KD c g H t d Q
theorem KD.kl {c : Cn} {g : Gh} {H : Hp} {t : T} {ds : List D} {Q : VK} (k : KD c g H t (.lst ds) Q) : KL c g H t ds Q := fun p vs g' H' st s hp r l =>
  k _ (g'.add p) _ (st.trans (Step.froze hp hp)) (s.froze hp) ⟨p, vs, rfl, .inr rfl, upd_same, Reps.mono ((Step.froze (o := .lst vs) hp hp).mo s) ds vs r, l⟩
theorem KD.kf {fr : Bool} {c : Cn} {g : Gh} {H : Hp} {t : T} {d : D} {Q : VK} (k : KD c g H t d Q) : KF fr c g H t d Q := by
  unfold KF
  split
  · exact k.kl
  · exact k

/-- data that is looked at: a list may still be changed later -/
def RepP (c : Cn) (g : Gh) (H : Hp) (v : V) : D → Prop
  | .lst ds => ∃ a vs, v = .ref a ∧ a ∉ g.ob ∧ H a = some (.lst vs) ∧ Reps c g H vs ds ∧ ds.length ≤ sz
  | d => Rep c g H v d
theorem Rep.peek {c : Cn} {g : Gh} {H : Hp} {t : T} {v : V} {d : D} (s : StH c g H t) (h : Rep c g H v d) : RepP c g H v d := by
  cases d with
  | lst ds => obtain ⟨a, vs, e, f, q, r, l⟩ := h; exact ⟨a, vs, e, fun z => s.nf a z f, q, r, l⟩
  | _ => exact h
theorem RepP.step {c : Cn} {g g' : Gh} {H H' : Hp} {t : T} {v : V} {d : D} (s : StH c g H t) (st : Step g H g' H') (h : RepP c g H v d) : RepP c g' H' v d := by
  cases d with
  | lst ds =>
    obtain ⟨a, vs, e, n, q, r, l⟩ := h
    refine ⟨a, vs, e, fun z => ?_, st.keep a _ q n, Reps.mono (st.mo s) ds vs r, l⟩
    rcases st.obn a z with z | z
    · exact n z
    · rw [z] at q; cases q
  | non => exact h
  | bl _ => exact h
  | int _ => exact h
  | str _ => exact h
  | tup ds => exact Rep.mono (c := c) (st.mo s) (.tup ds) v h
  | scr ns => exact Rep.mono (c := c) (st.mo s) (.scr ns) v h
  | obj n => exact Rep.mono (c := c) (st.mo s) (.obj n) v h

/-! ### a def's frame -/
structure En where
  g : Gh
  H : Hp

def CellR (c : Cn) (en : En) (g : Gh) (H : Hp) (x : Option (Option V)) : Cell → Prop
  | .un => True
  | .val d => ∃ v, x = some (some v) ∧ Rep c g H v d
  | .own ds => ∃ a vs, x = some (some (.ref a)) ∧ H a = some (.lst vs) ∧ Reps c g H vs ds ∧ ds.length ≤ sz ∧ ¬ g.fz a ∧ a ∉ g.ob ∧ en.H a = none
  | .loan ds => ∃ a vs, x = some (some (.ref a)) ∧ H a = some (.lst vs) ∧ Reps c g H vs ds ∧ ds.length ≤ sz ∧ ¬ g.fz a ∧ a ∉ g.ob ∧ en.H a = none
def isOwn : Cell → Bool
  | .own _ => true
  | .loan _ => true
  | _ => false
structure SR (c : Cn) (en : En) (g : Gh) (σ : L2.St) (H : Hp) (ρ : Env) (t : T) : Prop where
  st : StH c g H t
  ent : Step en.g en.H g H
  len : ρ.length = σ.length
  cell : ∀ i, CellR c en g H σ[i]? (look ρ i)
  dis : ∀ i j a, isOwn (look ρ i) = true → isOwn (look ρ j) = true → σ[i]? = some (some (.ref a)) → σ[j]? = some (some (.ref a)) → i = j
theorem CellR.step {c : Cn} {en : En} {g g' : Gh} {H H' : Hp} {t : T} {x : Option (Option V)} {l : Cell} (s : StH c g H t) (st : Step g H g' H') (h : CellR c en g H x l) : CellR c en g' H' x l := by
  have go : ∀ {a : Addr} {vs : List V} {ds : List D}, H a = some (.lst vs) → Reps c g H vs ds → ¬ g.fz a → a ∉ g.ob → H' a = some (.lst vs) ∧ Reps c g' H' vs ds ∧ ¬ g'.fz a ∧ a ∉ g'.ob := fun {a vs ds} q r f n => by
    refine ⟨st.keep a _ q n, Reps.mono (st.mo s) ds vs r, fun z => ?_, fun z => ?_⟩
    · rcases st.fzn a z with z | z
      · exact f z
      · rw [z] at q; cases q
    · rcases st.obn a z with z | z
      · exact n z
      · rw [z] at q; cases q
  cases l with
  | un => trivial
  | val d =>
    obtain ⟨v, e, h⟩ := h
    exact ⟨v, e, Rep.mono (st.mo s) d v h⟩
  | own ds =>
    obtain ⟨a, vs, e, q, r, l, f, n, z⟩ := h
    obtain ⟨h1, h2, h3, h4⟩ := go q r f n
    exact ⟨a, vs, e, h1, h2, l, h3, h4, z⟩
  | loan ds =>
    obtain ⟨a, vs, e, q, r, l, f, n, z⟩ := h
    obtain ⟨h1, h2, h3, h4⟩ := go q r f n
    exact ⟨a, vs, e, h1, h2, l, h3, h4, z⟩
theorem SR.step {c : Cn} {en : En} {g g' : Gh} {σ : L2.St} {H H' : Hp} {ρ : Env} {t t' : T} (s : SR c en g σ H ρ t) (st : Step g H g' H') (s' : StH c g' H' t') : SR c en g' σ H' ρ t' :=
  ⟨s', s.ent.trans st, s.len, fun i => (s.cell i).step s.st st, s.dis⟩

/-! ### slots -/
theorem look_put : ∀ (ρ : Env) (i j : Nat) (l : Cell), look (put ρ i l) j = if i < ρ.length ∧ j = i then l else look ρ j
  | [], i, j, l => by simp [put, look]
  | x :: r, 0, 0, l => by simp [put, look]
  | x :: r, 0, j + 1, l => by simp [put, look]
  | x :: r, i + 1, 0, l => by simp [put, look]
  | x :: r, i + 1, j + 1, l => by
    simp only [put, look, look_put r i j l, List.length_cons, Nat.add_lt_add_iff_right, Nat.add_right_cancel_iff]
theorem put_length : ∀ (ρ : Env) (i : Nat) (l : Cell), (put ρ i l).length = ρ.length
  | [], _, _ => rfl
  | _ :: _, 0, _ => rfl
  | x :: r, i + 1, l => by simp [put, put_length r i l]
theorem look_out : ∀ (ρ : Env) (i : Nat), ρ.length ≤ i → look ρ i = .un
  | [], _, _ => rfl
  | x :: r, 0, h => by simp at h
  | x :: r, i + 1, h => by simpa [look] using look_out r i (by simpa using h)
section
variable {c : Cn} {en : En} {g : Gh} {σ : L2.St} {H : Hp} {ρ : Env} {t : T}
/-- a slot is forgotten -/
theorem SR.forget (s : SR c en g σ H ρ t) (i : Nat) : SR c en g σ H (put ρ i .un) t where
  st := s.st
  ent := s.ent
  len := by rw [put_length]; exact s.len
  cell := fun j => by
    rw [look_put]
    split
    · trivial
    · exact s.cell j
  dis := fun j k a h1 h2 => by
    rw [look_put] at h1 h2
    split at h1
    · cases h1
    · split at h2
      · cases h2
      · exact s.dis j k a h1 h2
theorem SR.unset : ∀ (is : List Nat) {ρ : Env}, SR c en g σ H ρ t → SR c en g σ H (unset ρ is) t
  | [], _, s => s
  | i :: r, _, s => SR.unset r (s.forget i)
/-- a value is stored -/
theorem SR.store (s : SR c en g σ H ρ t) {i : Nat} {v : V} {d : D} (hi : i < ρ.length) (h : Rep c g H v d) : SR c en g (σ.set i (some v)) H (put ρ i (.val d)) t where
  st := s.st
  ent := s.ent
  len := by rw [put_length, List.length_set]; exact s.len
  cell := fun j => by
    rw [look_put]
    by_cases hj : j = i
    · subst hj
      rw [if_pos ⟨hi, rfl⟩, List.getElem?_set_self (by rw [← s.len]; exact hi)]
      exact ⟨v, rfl, h⟩
    · rw [if_neg (fun z => hj z.2), List.getElem?_set_ne (Ne.symm hj)]
      exact s.cell j
  dis := fun j k a h1 h2 e1 e2 => by
    rw [look_put] at h1 h2
    split at h1
    · cases h1
    · rename_i n1
      split at h2
      · cases h2
      · rename_i n2
        have hj : j ≠ i := fun z => n1 ⟨hi, z⟩
        have hk : k ≠ i := fun z => n2 ⟨hi, z⟩
        rw [List.getElem?_set_ne (Ne.symm hj)] at e1
        rw [List.getElem?_set_ne (Ne.symm hk)] at e2
        exact s.dis j k a h1 h2 e1 e2
/-- a new list is stored as one's own -/
theorem SR.storeOwn (s : SR c en g σ H ρ t) {i : Nat} {p : Addr} {vs : List V} {ds : List D} (hi : i < ρ.length) (hp : H p = none) (r : Reps c g H vs ds) (l : ds.length ≤ sz) :
    SR c en g (σ.set i (some (.ref p))) (upd H p (.lst vs)) (put ρ i (.own ds)) t := by
  have st1 : Step g H g (upd H p (.lst vs)) := Step.alloc hp
  have s1 := s.step st1 (s.st.alloc hp)
  have nf : ¬ g.fz p := fun z => s.st.tr p z hp
  have no : p ∉ g.ob := fun z => s.st.there z hp
  have ne : en.H p = none := by
    cases e : en.H p with
    | none => rfl
    | some o => exact absurd hp (s.ent.tr p (by rw [e]; simp))
  have other : ∀ j, isOwn (look ρ j) = true → σ[j]? ≠ some (some (.ref p)) := fun j hj e => by
    have q := s.cell j
    cases hl : look ρ j with
    | un => rw [hl] at hj; cases hj
    | val d => rw [hl] at hj; cases hj
    | own ds =>
      rw [hl] at q
      obtain ⟨a, ws, e1, e2, _⟩ := q
      rw [e] at e1; cases e1; rw [hp] at e2; cases e2
    | loan ds =>
      rw [hl] at q
      obtain ⟨a, ws, e1, e2, _⟩ := q
      rw [e] at e1; cases e1; rw [hp] at e2; cases e2
  refine ⟨s1.st, s1.ent, by rw [put_length, List.length_set]; exact s.len, fun j => ?_, fun j k a h1 h2 e1 e2 => ?_⟩
  · rw [look_put]
    by_cases hj : j = i
    · subst hj
      rw [if_pos ⟨hi, rfl⟩, List.getElem?_set_self (by rw [← s.len]; exact hi)]
      exact ⟨p, vs, rfl, upd_same, Reps.mono (st1.mo s.st) ds vs r, l, nf, no, ne⟩
    · rw [if_neg (fun z => hj z.2), List.getElem?_set_ne (Ne.symm hj)]
      exact s1.cell j
  · rw [look_put] at h1 h2
    by_cases hj : j = i
    · by_cases hk : k = i
      · rw [hj, hk]
      · rw [if_neg (fun z => hk z.2)] at h2
        rw [List.getElem?_set_ne (Ne.symm hk)] at e2
        rw [hj, List.getElem?_set_self (by rw [← s.len]; exact hi)] at e1
        cases e1
        exact absurd e2 (other k h2)
    · rw [if_neg (fun z => hj z.2)] at h1
      rw [List.getElem?_set_ne (Ne.symm hj)] at e1
      by_cases hk : k = i
      · rw [hk, List.getElem?_set_self (by rw [← s.len]; exact hi)] at e2
        cases e2
        exact absurd e1 (other j h1)
      · rw [if_neg (fun z => hk z.2)] at h2
        rw [List.getElem?_set_ne (Ne.symm hk)] at e2
        exact s.dis j k a h1 h2 e1 e2
/-- one's own list is changed -/
theorem SR.change (s : SR c en g σ H ρ t) {i : Nat} {a : Addr} {vs ws : List V} {ds es : List D} (hl : look ρ i = .own ds) (hi : σ[i]? = some (some (.ref a))) (ha : H a = some (.lst vs))
    (r : Reps c g H ws es) (l : es.length ≤ sz) : SR c en g σ (upd H a (.lst ws)) (put ρ i (.own es)) t := by
  have hil : i < ρ.length := by
    by_cases h : i < ρ.length
    · exact h
    · rw [look_out ρ i (by omega)] at hl; cases hl
  have q := s.cell i
  rw [hl] at q
  obtain ⟨a', vs', e1, e2, _, _, nf, no, ne⟩ := q
  rw [hi] at e1; cases e1
  have other : ∀ b, b ≠ a → (upd H a (.lst ws)) b = H b := fun b h => upd_ne h
  have m : Mo g H g (upd H a (.lst ws)) := ⟨fun b h => ⟨h, other b fun z => nf (z ▸ h)⟩, List.prefix_refl _⟩
  have st : StH c g (upd H a (.lst ws)) t := ⟨s.st.len, s.st.nd, s.st.nf, fun b h => by rw [other b fun z => nf (z ▸ h)]; exact s.st.tr b h, fun j b o h1 h2 => (s.st.obs j b o h1 h2).mono m (other b fun z => no (z ▸ List.mem_of_getElem? h1))⟩
  refine ⟨st, ⟨s.ent.pre, s.ent.fzm, s.ent.fzn, s.ent.obn, fun b o h n => ?_, fun b h => ?_⟩, by rw [put_length]; exact s.len, fun j => ?_, fun j k b h1 h2 f1 f2 => ?_⟩
  · have hb : b ≠ a := fun z => by rw [z, ne] at h; cases h
    rw [other b hb]; exact s.ent.keep b o h n
  · by_cases hb : b = a
    · rw [hb, upd_same]; simp
    · rw [other b hb]; exact s.ent.tr b h
  · rw [look_put]
    by_cases hj : j = i
    · rw [if_pos ⟨hil, hj⟩, hj, hi]
      exact ⟨a, ws, rfl, upd_same, Reps.mono m es ws r, l, nf, no, ne⟩
    · rw [if_neg (fun z => hj z.2)]
      have q := s.cell j
      have d := s.dis j i
      cases hq : look ρ j with
      | un => trivial
      | val d =>
        rw [hq] at q
        obtain ⟨v, h1, h2⟩ := q
        exact ⟨v, h1, Rep.mono m d v h2⟩
      | own ds' =>
        rw [hq] at q d
        obtain ⟨b, us, h1, h2, h3, h4, h5, h6, h7⟩ := q
        have hb : b ≠ a := fun z => hj (d b rfl (by rw [hl]; rfl) h1 (z ▸ hi))
        exact ⟨b, us, h1, (other b hb).trans h2, Reps.mono m _ _ h3, h4, h5, h6, h7⟩
      | loan ds' =>
        rw [hq] at q d
        obtain ⟨b, us, h1, h2, h3, h4, h5, h6, h7⟩ := q
        have hb : b ≠ a := fun z => hj (d b rfl (by rw [hl]; rfl) h1 (z ▸ hi))
        exact ⟨b, us, h1, (other b hb).trans h2, Reps.mono m _ _ h3, h4, h5, h6, h7⟩
  · have o : ∀ m, isOwn (look (put ρ i (.own es)) m) = true → isOwn (look ρ m) = true := fun m h => by
      rw [look_put] at h
      split at h
      · rename_i z; rw [z.2, hl]; rfl
      · exact h
    exact s.dis j k b (o j h1) (o k h2) f1 f2
/-- one's own list is handed out: it is never changed again -/
theorem SR.freeze1 (s : SR c en g σ H ρ t) (i : Nat) : ∃ g', Mo g H g' H ∧ SR c en g' σ H (put ρ i (frz (look ρ i))) t := by
  cases hl : look ρ i with
  | own ds =>
    have hil : i < ρ.length := by
      by_cases h : i < ρ.length
      · exact h
      · rw [look_out ρ i (by omega)] at hl; cases hl
    have q := s.cell i
    rw [hl] at q
    obtain ⟨a, vs, e1, e2, e3, e4, nf, no, ne⟩ := q
    have m : Mo g H (g.add a) H := ⟨fun b h => ⟨.inl h, rfl⟩, List.prefix_refl _⟩
    refine ⟨g.add a, m, ⟨⟨s.st.len, s.st.nd, fun b hb f => ?_, fun b f => ?_, fun j b o h1 h2 => (s.st.obs j b o h1 h2).mono m rfl⟩, ⟨s.ent.pre, fun b h => .inl (s.ent.fzm b h), fun b h => ?_, s.ent.obn, s.ent.keep, s.ent.tr⟩, by rw [put_length]; exact s.len, fun j => ?_, fun j k b h1 h2 f1 f2 => ?_⟩⟩
    · rcases f with f | rfl
      · exact s.st.nf b hb f
      · exact no hb
    · rcases f with f | rfl
      · exact s.st.tr b f
      · rw [e2]; simp
    · rcases h with h | rfl
      · exact s.ent.fzn b h
      · exact .inr ne
    · rw [look_put]
      by_cases hj : j = i
      · rw [if_pos ⟨hil, hj⟩, hj, e1]
        exact ⟨.ref a, rfl, a, vs, rfl, .inr rfl, e2, Reps.mono m ds vs e3, e4⟩
      · rw [if_neg (fun z => hj z.2)]
        have q := s.cell j
        have d := s.dis j i
        have nb : ∀ b, ¬ g.fz b → b ≠ a → ¬ (g.add a).fz b := fun b h n z => z.elim h n
        cases hq : look ρ j with
        | un => trivial
        | val d =>
          rw [hq] at q
          obtain ⟨v, h1, h2⟩ := q
          exact ⟨v, h1, Rep.mono m d v h2⟩
        | own ds' =>
          rw [hq] at q d
          obtain ⟨b, us, h1, h2, h3, h4, h5, h6, h7⟩ := q
          have hb : b ≠ a := fun z => hj (d b rfl (by rw [hl]; rfl) h1 (z ▸ e1))
          exact ⟨b, us, h1, h2, Reps.mono m _ _ h3, h4, nb b h5 hb, h6, h7⟩
        | loan ds' =>
          rw [hq] at q d
          obtain ⟨b, us, h1, h2, h3, h4, h5, h6, h7⟩ := q
          have hb : b ≠ a := fun z => hj (d b rfl (by rw [hl]; rfl) h1 (z ▸ e1))
          exact ⟨b, us, h1, h2, Reps.mono m _ _ h3, h4, nb b h5 hb, h6, h7⟩
    · have o : ∀ m, isOwn (look (put ρ i (frz (.own ds))) m) = true → isOwn (look ρ m) = true := fun m h => by
        rw [look_put] at h
        split at h
        · cases h
        · exact h
      exact s.dis j k b (o j h1) (o k h2) f1 f2
  | un =>
    refine ⟨g, Mo.refl, ?_⟩
    have e : put ρ i (frz .un) = put ρ i .un := rfl
    rw [e]; exact s.forget i
  | val d =>
    refine ⟨g, Mo.refl, ?_⟩
    have e : ∀ j, look (put ρ i (frz (.val d))) j = look ρ j := fun j => by
      rw [look_put]; split
      · rename_i z; rw [z.2, hl]; rfl
      · rfl
    exact ⟨s.st, s.ent, by rw [put_length]; exact s.len, fun j => by rw [e]; exact s.cell j, fun j k a => by rw [e, e]; exact s.dis j k a⟩
  | loan d =>
    refine ⟨g, Mo.refl, ?_⟩
    have e : ∀ j, look (put ρ i (frz (.loan d))) j = look ρ j := fun j => by
      rw [look_put]; split
      · rename_i z; rw [z.2, hl]; rfl
      · rfl
    exact ⟨s.st, s.ent, by rw [put_length]; exact s.len, fun j => by rw [e]; exact s.cell j, fun j k a => by rw [e, e]; exact s.dis j k a⟩
theorem SR.freeze : ∀ (is : List Nat) {g : Gh} {ρ : Env}, SR c en g σ H ρ t → ∃ g', Mo g H g' H ∧ SR c en g' σ H (frzAll ρ is) t
  | [], g, _, s => ⟨g, Mo.refl, s⟩
  | i :: r, g, ρ, s => by
    obtain ⟨g1, m1, s1⟩ := s.freeze1 i
    obtain ⟨g2, m2, s2⟩ := SR.freeze r s1
    exact ⟨g2, m1.trans m2, s2⟩
end
end Pd
set_option Elab.async false
set_option linter.all false
set_option maxRecDepth 100000
set_option autoImplicit false
/-! Pd: each operation on data is what the machine does. -/
namespace Pd
open PySem PySem.Spec PyProof.Rows L2 TL Bits

section
variable {c : Cn} {g : Gh} {H : Hp} {t : T} {Q : VK}
theorem KD.here {v : V} {d : D} (k : KD c g H t d Q) (s : StH c g H t) (r : Rep c g H v d) : Q v H := k v g H Step.refl s r
theorem KD.tup {vs : List V} {ds : List D} (k : KD c g H t (.tup ds) Q) (s : StH c g H t) (r : Reps c g H vs ds) (l : ds.length ≤ sz) : ∀ p, H p = none → Q (.ref p) (upd H p (.tup vs)) := fun p hp =>
  k _ (g.add p) _ (Step.froze hp hp) (s.froze hp) ⟨p, vs, rfl, .inr rfl, upd_same, Reps.mono ((Step.froze (o := .tup vs) hp hp).mo s) ds vs r, l⟩
theorem KL.lst {vs : List V} {ds : List D} (k : KL c g H t ds Q) (s : StH c g H t) (r : Reps c g H vs ds) (l : ds.length ≤ sz) : ∀ p, H p = none → Q (.ref p) (upd H p (.lst vs)) := fun p hp =>
  k p vs g H Step.refl s hp r l
end

def bop : Bo → Operator
  | .add => .Add
  | .sub => .Sub
  | .mul => .Mult
  | .fdiv => .FloorDiv
  | .mod => .Mod
  | .pow => .Pow
  | .shl => .LShift
  | .shr => .RShift
  | .band => .BitAnd
  | .bor => .BitOr
  | .bxor => .BitXor

def rBin (c : Cn) (o : Bo) : R2 := fun x y H Q => ∃ g t dx dy d, StH c g H t ∧ RepP c g H x dx ∧ RepP c g H y dy ∧ binD o dx dy = some d ∧ KF true c g H t d Q

theorem str_app (a b : List Nat) : ((⟨a.toArray⟩ : PySem.Str) ++ (⟨b.toArray⟩ : PySem.Str)) = ⟨(a ++ b).toArray⟩ := ext_tl (by rw [tl_append, tl_mk, tl_mk, tl_mk])
theorem str_len (a : List Nat) : (⟨a.toArray⟩ : PySem.Str).length = a.length := by simp [PySem.Str.length]
theorem bitAnd_pp {x y : Int} (hx : 0 ≤ x) (hy : 0 ≤ y) : Builtin.bitAnd x y = ((x.toNat &&& y.toNat : Nat) : Int) := by
  unfold Builtin.bitAnd
  rw [decide_eq_true hx, decide_eq_true hy]

section
variable {X : Cx} {c : Cn}
theorem op_bin (hK : c.K = X.K) (o : Bo) : OpR X (binaryOp (bop o)) (rBin c o) := by
  intro pins s σ H x y v u Q I rx ry h
  obtain ⟨g, t, dx, dy, d, hs, hx, hy, hb, hk⟩ := h
  cases o with
  | add =>
    cases dx with
    | int a =>
      cases dy with
      | int b =>
        cases hx; cases hy; cases hb
        exact op_add pins s σ H _ _ v u Q I rx ry ⟨a, b, rfl, rfl, KD.here hk hs rfl⟩
      | _ => cases hb
    | str a =>
      cases dy with
      | str b =>
        obtain ⟨rfl, ha⟩ := hx
        obtain ⟨rfl, hb2⟩ := hy
        by_cases hl : a.length + b.length ≤ sz
        · rw [binD, if_pos hl] at hb; cases hb
          refine op_add_str pins s σ H _ _ v u Q I rx ry ⟨_, _, rfl, rfl, by rw [str_len, str_len, szL]; exact hl, ?_⟩
          rw [str_app]
          refine KD.here hk hs ⟨rfl, by rw [List.length_append]; exact hl, fun x hx => ?_⟩
          rcases List.mem_append.mp hx with hx | hx
          · exact ha.2 x hx
          · exact hb2.2 x hx
        · rw [binD, if_neg hl] at hb; cases hb
      | _ => cases hb
    | tup a =>
      cases dy with
      | tup b =>
        obtain ⟨p, vs, rfl, f1, e1, r1, l1⟩ := hx
        obtain ⟨q, ws, rfl, f2, e2, r2, l2⟩ := hy
        by_cases hl : a.length + b.length ≤ sz
        · rw [binD, if_pos hl] at hb; cases hb
          have k : KD c g H t (.tup (a ++ b)) Q := hk
          have n1 := Reps.length r1
          have n2 := Reps.length r2
          refine op_catA pins s σ H _ _ v u Q I rx ry ⟨p, q, vs, ws, rfl, rfl, SqT.of e1, SqT.of e2, by rw [n1, n2, szL]; exact hl, fun z => ?_, fun z1 z2 => ?_, fun z1 z2 => ?_⟩
          · subst z
            have : a = [] := List.length_eq_zero_iff.mp n1.symm
            subst this
            exact KD.here k hs ⟨q, ws, rfl, f2, e2, r2, l2⟩
          · subst z2
            have : b = [] := List.length_eq_zero_iff.mp n2.symm
            subst this
            rw [List.append_nil] at k
            exact KD.here k hs ⟨p, vs, rfl, f1, e1, r1, l1⟩
          · exact KD.tup k hs (Reps.append r1 r2) (by rw [List.length_append]; exact hl)
        · rw [binD, if_neg hl] at hb; cases hb
      | _ => cases hb
    | lst a =>
      cases dy with
      | lst b =>
        obtain ⟨p, vs, rfl, f1, e1, r1, l1⟩ := hx
        obtain ⟨q, ws, rfl, f2, e2, r2, l2⟩ := hy
        by_cases hl : a.length + b.length ≤ sz
        · rw [binD, if_pos hl] at hb; cases hb
          have k : KL c g H t (a ++ b) Q := hk
          exact op_cat pins s σ H _ _ v u Q I rx ry ⟨p, q, vs, ws, rfl, rfl, e1, e2, by rw [Reps.length r1, Reps.length r2, szL]; exact hl, KL.lst k hs (Reps.append r1 r2) (by rw [List.length_append]; exact hl)⟩
        · rw [binD, if_neg hl] at hb; cases hb
      | _ => cases hb
    | _ => cases hb
  | sub =>
    cases dx with
    | int a =>
      cases dy with
      | int b =>
        cases hx; cases hy; cases hb
        exact op_sub pins s σ H _ _ v u Q I rx ry ⟨a, b, rfl, rfl, KD.here hk hs rfl⟩
      | _ => cases hb
    | _ => cases hb
  | mul =>
    cases dx with
    | int a =>
      cases dy with
      | int b =>
        cases hx; cases hy
        by_cases hl : bits a + bits b < 1000000
        · rw [binD, if_pos hl] at hb; cases hb
          exact op_mulW pins s σ H _ _ v u Q I rx ry ⟨a, b, rfl, rfl, hl, KD.here hk hs rfl⟩
        · rw [binD, if_neg hl] at hb; cases hb
      | _ => cases hb
    | _ => cases hb
  | fdiv =>
    cases dx with
    | int a =>
      cases dy with
      | int b =>
        cases hx; cases hy
        by_cases hl : 0 < b ∧ bits b < 9000
        · rw [binD, if_pos hl] at hb; cases hb
          exact op_fdivW pins s σ H _ _ v u Q I rx ry ⟨a, b, rfl, rfl, hl, KD.here hk hs rfl⟩
        · rw [binD, if_neg hl] at hb; cases hb
      | _ => cases hb
    | _ => cases hb
  | mod =>
    cases dx with
    | int a =>
      cases dy with
      | int b =>
        cases hx; cases hy
        by_cases hl : 0 < b
        · rw [binD, if_pos hl] at hb; cases hb
          exact op_mod pins s σ H _ _ v u Q I rx ry ⟨a, b, rfl, rfl, hl, KD.here hk hs rfl⟩
        · rw [binD, if_neg hl] at hb; cases hb
      | _ => cases hb
    | _ => cases hb
  | pow =>
    cases dx with
    | int a =>
      cases dy with
      | int b =>
        cases hx; cases hy
        by_cases hl : 0 ≤ b ∧ b ≤ 1000000 ∧ a.natAbs < 2 ^ 64
        · rw [binD, if_pos hl] at hb; cases hb
          exact op_pow pins s σ H _ _ v u Q I rx ry ⟨a, b, rfl, rfl, hl, KD.here hk hs rfl⟩
        · rw [binD, if_neg hl] at hb; cases hb
      | _ => cases hb
    | _ => cases hb
  | shl =>
    cases dx with
    | int a =>
      cases dy with
      | int b =>
        cases hx; cases hy
        by_cases hl : 0 ≤ b ∧ b ≤ 1000000 ∧ a.natAbs < 2 ^ 64
        · rw [binD, if_pos hl] at hb; cases hb
          exact op_shl pins s σ H _ _ v u Q I rx ry ⟨a, b, rfl, rfl, hl, KD.here hk hs rfl⟩
        · rw [binD, if_neg hl] at hb; cases hb
      | _ => cases hb
    | _ => cases hb
  | shr =>
    cases dx with
    | int a =>
      cases dy with
      | int b =>
        cases hx; cases hy
        by_cases hl : 0 ≤ b
        · rw [binD, if_pos hl] at hb; cases hb
          exact op_shr pins s σ H _ _ v u Q I rx ry ⟨a, b, rfl, rfl, hl, KD.here hk hs rfl⟩
        · rw [binD, if_neg hl] at hb; cases hb
      | _ => cases hb
    | _ => cases hb
  | band =>
    cases dx with
    | int a =>
      cases dy with
      | int b =>
        cases hx; cases hy
        by_cases hl : 0 ≤ a ∧ 0 ≤ b
        · rw [binD, if_pos hl] at hb; cases hb
          exact op_and pins s σ H _ _ v u Q I rx ry ⟨a, b, rfl, rfl, by show Q (V.int (Builtin.bitAnd a b)) H; rw [bitAnd_pp hl.1 hl.2]; exact KD.here hk hs rfl⟩
        · rw [binD, if_neg hl] at hb; cases hb
      | _ => cases hb
    | _ => cases hb
  | bor =>
    cases dx with
    | int a =>
      cases dy with
      | int b =>
        cases hx; cases hy
        by_cases hl : 0 ≤ a ∧ 0 ≤ b
        · rw [binD, if_pos hl] at hb; cases hb
          exact op_or pins s σ H _ _ v u Q I rx ry ⟨a, b, rfl, rfl, by show Q (V.int (Builtin.bitOr a b)) H; rw [bitOr_pp hl.1 hl.2]; exact KD.here hk hs rfl⟩
        · rw [binD, if_neg hl] at hb; cases hb
      | _ => cases hb
    | _ => cases hb
  | bxor =>
    cases dx with
    | int a =>
      cases dy with
      | int b =>
        cases hx; cases hy
        by_cases hl : 0 ≤ a ∧ 0 ≤ b
        · rw [binD, if_pos hl] at hb; cases hb
          exact op_xor pins s σ H _ _ v u Q I rx ry ⟨a, b, rfl, rfl, by show Q (V.int (Builtin.bitXor a b)) H; rw [bitXor_pp hl.1 hl.2]; exact KD.here hk hs rfl⟩
        · rw [binD, if_neg hl] at hb; cases hb
      | _ => cases hb
    | _ => cases hb
end

/-! ### what a value is, by what H tells -/
section
variable {c : Cn} {g : Gh} {H : Hp} {t : T} {v : V}
theorem RepP.sqL {ds : List D} (h : RepP c g H v (.lst ds)) : ∃ a vs, v = .ref a ∧ H a = some (.lst vs) ∧ Reps c g H vs ds ∧ ds.length ≤ sz := by
  obtain ⟨a, vs, e, _, q, r, l⟩ := h; exact ⟨a, vs, e, q, r, l⟩
theorem scr_sq {ns : List Int} (h : Rep c g H v (.scr ns)) : ∃ a, v = .ref a ∧ SqL c.K H a (ns.map V.int) ∧ ns.length ≤ 1000 := by
  obtain ⟨a, e, l, q⟩ := h
  refine ⟨a, e, ?_, l⟩
  rcases q with ⟨_, q⟩ | ⟨o, its, n, q⟩
  · exact .inl q
  · exact .inr ⟨o, its, n, q⟩
theorem obj_at {n : Nat} {o : Ob} (s : StH c g H t) (h : Rep c g H v (.obj n)) (e : t[n]? = some o) : ∃ a, v = .ref a ∧ g.ob[n]? = some a ∧ ObR c g H a o := by
  obtain ⟨a, rfl, q⟩ := h
  exact ⟨a, rfl, q, s.obs n a o q e⟩
end

/-! ### truth, len -/
section
variable {X : Cx} {c : Cn}
def rTru (c : Cn) (x : V) (H : Hp) (Q : Bool → Hp → Prop) : Prop := ∃ g t d b, StH c g H t ∧ RepP c g H x d ∧ truthD t d = some b ∧ Q b H
theorem ne0 {α : Type} (xs : List α) : (!xs.isEmpty) = ((xs.length : Int) != 0) := by cases xs <;> simp <;> omega
theorem empty_of {vs : List V} {ds : List D} {g : Gh} {H : Hp} (r : Reps c g H vs ds) : (!vs.isEmpty) = !ds.isEmpty := by
  have e := Reps.length r
  cases vs <;> cases ds <;> simp at e ⊢
theorem tru_of (hK : c.K = X.K) {x : V} {H : Hp} {g : Gh} {t : T} {d : D} {b : Bool} (s : StH c g H t) (h : RepP c g H x d) (e : truthD t d = some b) : TruV X.K x H b := by
  cases d with
  | non => cases h; cases e; rfl
  | bl k => cases h; cases e; rfl
  | int i => cases h; cases e; rfl
  | str z =>
    obtain ⟨rfl, l⟩ := h
    cases e
    refine ⟨by rw [str_len, szL]; exact l.1, ?_⟩
    rw [str_len]; exact ne0 z
  | tup ds =>
    obtain ⟨a, vs, rfl, _, q, r, l⟩ := h
    cases e
    exact .inr (.inl ⟨vs, SqT.of q, (empty_of r).symm⟩)
  | lst ds =>
    obtain ⟨a, vs, rfl, _, q, r, l⟩ := h
    cases e
    exact .inl ⟨vs, SqL.of q, (empty_of r).symm⟩
  | scr ns =>
    obtain ⟨a, rfl, q, l⟩ := scr_sq h
    cases e
    rw [hK] at q
    exact .inl ⟨_, q, by cases ns <;> rfl⟩
  | obj n =>
    cases ho : t[n]? with
    | none => simp [truthD, ho] at e
    | some o =>
      cases o with
      | lst xs =>
        simp only [truthD, ho, Option.some.injEq] at e
        obtain ⟨a, rfl, _, vs, q, r, l⟩ := obj_at s h ho
        exact .inl ⟨vs, SqL.of q, by rw [← e]; exact (empty_of r).symm⟩
      | _ => simp [truthD, ho] at e
theorem op_tru (hK : c.K = X.K) : TruR X (rTru c) := by
  intro pins s σ H x v Q I rx h
  obtain ⟨g, t, d, b, hs, hx, e, q⟩ := h
  exact tru_ok pins s σ H x v Q I rx ⟨b, tru_of hK hs hx e, q⟩
def rLen (c : Cn) : List V → Hp → VK → Prop := fun xs H Q => ∃ x g t d n, xs = [x] ∧ StH c g H t ∧ RepP c g H x d ∧ lenD t d = some n ∧ Q (.int (n : Int)) H
theorem op_len (hK : c.K = X.K) : CallR X (.builtin "len") (rLen c) := by
  intro pins s σ H xs us Q I r h
  obtain ⟨x, g, t, d, n, rfl, hs, hx, e, qq⟩ := h
  refine call_len pins s σ H [x] us Q I r ⟨x, n, rfl, ?_, qq⟩
  cases d with
  | str z =>
    obtain ⟨rfl, l⟩ := hx
    cases e
    exact ⟨by rw [str_len, szL]; exact l.1, (str_len z).symm⟩
  | tup ds =>
    obtain ⟨a, vs, rfl, _, q, rr, l⟩ := hx
    cases e
    exact .inr ⟨vs, SqT.of q, (Reps.length rr).symm⟩
  | lst ds =>
    obtain ⟨a, vs, rfl, _, q, rr, l⟩ := hx
    cases e
    exact .inl ⟨vs, SqL.of q, (Reps.length rr).symm⟩
  | scr ns =>
    obtain ⟨a, rfl, q, l⟩ := scr_sq hx
    cases e
    rw [hK] at q
    exact .inl ⟨_, q, by simp⟩
  | obj m =>
    cases ho : t[m]? with
    | none => simp [lenD, ho] at e
    | some o =>
      cases o with
      | lst xs =>
        simp only [lenD, ho, Option.some.injEq] at e
        obtain ⟨a, rfl, _, vs, q, rr, l⟩ := obj_at hs hx ho
        exact .inl ⟨vs, SqL.of q, by rw [← e]; exact (Reps.length rr).symm⟩
      | _ => simp [lenD, ho] at e
  | non => cases e
  | bl _ => cases e
  | int _ => cases e
end
end Pd
set_option Elab.async false
set_option linter.all false
set_option maxRecDepth 100000
set_option autoImplicit false
namespace Pd
open PySem PySem.Spec PyProof.Rows L2 TL Bits

/-! ### == of data -/
mutual
def toPy : D → PyData
  | .non => .none
  | .bl b => .bool b
  | .int i => .int i
  | .str s => .str ⟨s.toArray⟩
  | .tup xs => .tuple (toPys xs)
  | .lst xs => .list (toPys xs)
  | .scr _ => .none
  | .obj _ => .none
def toPys : List D → List PyData
  | [] => []
  | x :: xs => toPy x :: toPys xs
end
theorem str_beq (x y : List Nat) : ((⟨x.toArray⟩ : PySem.Str) == ⟨y.toArray⟩) = (x == y) := by
  rw [Bool.beq_eq_decide_eq, Bool.beq_eq_decide_eq]
  congr 1
  exact propext ⟨fun h => by have := congrArg PySem.Str.cps h; simpa using this, fun h => by rw [h]⟩
mutual
theorem eqv_py (k : Nat) : ∀ x y : D, shp k x = true → shp k y = true → PyData.eqv (toPy x) (toPy y) = eqv x y
  | .non, y, _, h => by cases y <;> first | rfl | cases h | (simp [toPy, PyData.eqv, eqv])
  | .bl a, y, _, h => by cases y <;> first | rfl | cases h | (simp [toPy, PyData.eqv, eqv, b2i])
  | .int a, y, _, h => by cases y <;> first | rfl | cases h | (simp [toPy, PyData.eqv, eqv, b2i])
  | .str a, y, _, h => by
    cases y with
    | str b => simp only [toPy, PyData.eqv, eqv]; exact str_beq a b
    | scr _ => cases h
    | obj _ => cases h
    | _ => simp [toPy, PyData.eqv, eqv]
  | .tup xs, y, g, h => by
    cases y with
    | tup ys =>
      cases k with
      | zero => cases g
      | succ k =>
        simp only [toPy, PyData.eqv, eqv]
        exact eqvs_py k xs ys (by simpa [shp] using g) (by simpa [shp] using h)
    | scr _ => cases h
    | obj _ => cases h
    | _ => simp [toPy, PyData.eqv, eqv]
  | .lst xs, y, g, h => by
    cases y with
    | lst ys =>
      cases k with
      | zero => cases g
      | succ k =>
        simp only [toPy, PyData.eqv, eqv]
        exact eqvs_py k xs ys (by simpa [shp] using g) (by simpa [shp] using h)
    | scr _ => cases h
    | obj _ => cases h
    | _ => simp [toPy, PyData.eqv, eqv]
  | .scr _, _, g, _ => by cases g
  | .obj _, _, g, _ => by cases g
theorem eqvs_py (k : Nat) : ∀ xs ys : List D, shps k xs = true → shps k ys = true → PyData.eqvAll (toPys xs) (toPys ys) = eqvs xs ys
  | [], [], _, _ => by simp [toPys, PyData.eqvAll, eqvs]
  | [], y :: ys, _, _ => by simp [toPys, PyData.eqvAll, eqvs]
  | x :: xs, [], _, _ => by simp [toPys, PyData.eqvAll, eqvs]
  | x :: xs, y :: ys, g, h => by
    simp only [shps, Bool.and_eq_true] at g h
    simp only [toPys, PyData.eqvAll, eqvs, eqv_py k x y g.1 h.1, eqvs_py k xs ys g.2 h.2]
end
section
variable {c : Cn} {g : Gh} {H : Hp}
mutual
theorem Rep.dp {K : PySem.W.Frag} (k : Nat) : ∀ (d : D) (v : V), Rep c g H v d → shp k d = true → Dp K H v (toPy d) ∧ (toPy d).canLay0 = true ∧ (toPy d).depth ≤ k
  | .non, v, h, _ => by cases h; exact ⟨.non, by simp [toPy, PyData.canLay0], by simp [toPy, PyData.depth]⟩
  | .bl b, v, h, _ => by cases h; exact ⟨.bl b, by simp [toPy, PyData.canLay0], by simp [toPy, PyData.depth]⟩
  | .int i, v, h, _ => by cases h; exact ⟨.int i, by simp [toPy, PyData.canLay0], by simp [toPy, PyData.depth]⟩
  | .str s, v, h, _ => by
    obtain ⟨rfl, h1, h2⟩ := h
    refine ⟨.str _, ?_, by simp [toPy, PyData.depth]⟩
    simp only [toPy, PyData.canLay0]
    show (s.toArray).all (· < 0x110000) = true
    simp only [List.all_toArray, List.all_eq_true, decide_eq_true_eq]
    exact h2
  | .tup ds, v, h, g => by
    obtain ⟨a, vs, rfl, _, e, r, _⟩ := h
    cases k with
    | zero => cases g
    | succ k =>
      obtain ⟨h1, h2, h3⟩ := Reps.dp k ds vs r (by simpa [shp] using g)
      exact ⟨.tup (SqT.of e) h1, by simpa only [toPy, PyData.canLay0] using h2, by simp only [toPy, PyData.depth]; omega⟩
  | .lst ds, v, h, g => by
    obtain ⟨a, vs, rfl, _, e, r, _⟩ := h
    cases k with
    | zero => cases g
    | succ k =>
      obtain ⟨h1, h2, h3⟩ := Reps.dp k ds vs r (by simpa [shp] using g)
      exact ⟨.lst (SqL.of e) h1, by simpa only [toPy, PyData.canLay0] using h2, by simp only [toPy, PyData.depth]; omega⟩
  | .scr _, _, _, g => by cases g
  | .obj _, _, _, g => by cases g
theorem Reps.dp {K : PySem.W.Frag} (k : Nat) : ∀ (ds : List D) (vs : List V), Reps c g H vs ds → shps k ds = true → DpAll K H vs (toPys ds) ∧ PyData.canLayAll0 (toPys ds) = true ∧ PyData.depthAll (toPys ds) ≤ k
  | [], vs, h, _ => by cases h; exact ⟨.nil, by simp [toPys, PyData.canLayAll0], by simp [toPys, PyData.depthAll]⟩
  | d :: ds, vs, h, g => by
    obtain ⟨v, r, rfl, h1, h2⟩ := h
    simp only [shps, Bool.and_eq_true] at g
    obtain ⟨a1, a2, a3⟩ := Rep.dp (K := K) k d v h1 g.1
    obtain ⟨b1, b2, b3⟩ := Reps.dp (K := K) k ds r h2 g.2
    exact ⟨.cons a1 b1, by simp only [toPys, PyData.canLayAll0, a2, b2, Bool.and_self], by simp only [toPys, PyData.depthAll]; omega⟩
end
theorem RepP.dp {K : PySem.W.Frag} (k : Nat) {d : D} {v : V} (h : RepP c g H v d) (s : shp k d = true) : Dp K H v (toPy d) ∧ (toPy d).canLay0 = true ∧ (toPy d).depth ≤ k := by
  cases d with
  | lst ds =>
    obtain ⟨a, vs, rfl, _, e, r, _⟩ := h
    cases k with
    | zero => cases s
    | succ k =>
      obtain ⟨h1, h2, h3⟩ := Reps.dp (K := K) k ds vs r (by simpa [shp] using s)
      exact ⟨.lst (SqL.of e) h1, by simpa only [toPy, PyData.canLay0] using h2, by simp only [toPy, PyData.depth]; omega⟩
  | _ => exact Rep.dp (c := c) (g := g) k _ v h s
theorem shaped_of {k : Nat} {d : PyData} (hk : k ≤ 64) (h1 : d.canLay0 = true) (h2 : d.depth ≤ k) : SeqAt.shaped d = true := by
  unfold SeqAt.shaped
  rw [h1, decide_eq_true (by omega : d.depth ≤ 64)]; rfl

/-! ### in -/
theorem flat_of {d : D} {v : V} (h : Rep c g H v d) (f : flat d = true) : flatV v = true := by
  cases d with
  | non => cases h; rfl
  | bl _ => cases h; rfl
  | int _ => cases h; rfl
  | str _ => obtain ⟨rfl, _⟩ := h; rfl
  | _ => cases f
theorem eqV_of {d e : D} {v w : V} (h : Rep c g H v d) (k : Rep c g H w e) (f1 : flat d = true) (f2 : flat e = true) : eqV v w = eqv d e := by
  cases d with
  | non => cases h; cases e <;> first | (cases k; simp [eqV, eqv]; done) | (obtain ⟨rfl, _⟩ := k; simp [eqV, strV, eqv]; done) | cases f2
  | bl _ => cases h; cases e <;> first | (cases k; simp [eqV, eqv, b2i]; done) | (obtain ⟨rfl, _⟩ := k; simp [eqV, strV, eqv]; done) | cases f2
  | int _ => cases h; cases e <;> first | (cases k; simp [eqV, eqv, b2i]; done) | (obtain ⟨rfl, _⟩ := k; simp [eqV, strV, eqv]; done) | cases f2
  | str a =>
    obtain ⟨rfl, _⟩ := h
    cases e with
    | str b =>
      obtain ⟨rfl, _⟩ := k
      simp only [strV, eqV, eqv]; exact str_beq a b
    | non => cases k; simp [eqV, strV, eqv]
    | bl _ => cases k; simp [eqV, strV, eqv]
    | int _ => cases k; simp [eqV, strV, eqv]
    | _ => cases f2
  | _ => cases f1
theorem inV_of {d : D} {v : V} (h : Rep c g H v d) (f : flat d = true) : ∀ {ds : List D} {vs : List V}, Reps c g H vs ds → ds.all flat = true → vs.all flatV = true ∧ inV v vs = ds.any fun y => eqv y d
  | [], _, r, _ => by cases r; exact ⟨rfl, rfl⟩
  | e :: ds, _, r, a => by
    obtain ⟨w, vs, rfl, h1, h2⟩ := r
    rw [List.all_cons, Bool.and_eq_true] at a
    obtain ⟨i1, i2⟩ := inV_of h f h2 a.2
    refine ⟨by rw [List.all_cons, flat_of h1 a.1, i1]; rfl, ?_⟩
    unfold inV at i2 ⊢
    rw [List.any_cons, List.any_cons, i2, eqV_of h1 h a.1 f]
end

def cop : Co → CmpOp
  | .eq => .Eq
  | .ne => .NotEq
  | .lt => .Lt
  | .le => .LtE
  | .gt => .Gt
  | .ge => .GtE
  | .isin => .In
  | .notin => .NotIn
  | .isN => .Is
  | .notN => .IsNot
def rCmp (c : Cn) (o : Co) : R2 := fun x y H Q => ∃ g t dx dy d, StH c g H t ∧ RepP c g H x dx ∧ RepP c g H y dy ∧ cmpD t o dx dy = some d ∧ KD c g H t d Q

section
variable {X : Cx} {c : Cn}
theorem is_non {g : Gh} {H : Hp} {x : V} {d : D} (h : RepP c g H x d) : decide (x = .non) = isNon d := by
  cases d with
  | non => cases h; rfl
  | bl _ => cases h; rfl
  | int _ => cases h; rfl
  | str _ => obtain ⟨rfl, _⟩ := h; rfl
  | tup _ => obtain ⟨a, vs, rfl, _⟩ := h; rfl
  | lst _ => obtain ⟨a, vs, rfl, _⟩ := h; rfl
  | scr _ => obtain ⟨a, rfl, _⟩ := h; rfl
  | obj _ => obtain ⟨a, rfl, _⟩ := h; rfl
theorem in_ok (hK : c.K = X.K) {g : Gh} {H : Hp} {t : T} {x y : V} {dx dy : D} {b : Bool} (hs : StH c g H t) (hx : RepP c g H x dx) (hy : RepP c g H y dy) (e : inD dx dy = some b) :
    (∃ p xs, y = .ref p ∧ (SqL X.K H p xs ∨ SqT X.K H p xs) ∧ flatV x = true ∧ xs.all flatV = true ∧ inV x xs = b) ∨ ∃ (n : Nat) (z : List Nat), x = strV [n] ∧ y = strV z ∧ b = decide (n ∈ z) := by
  cases dy with
  | tup ds =>
    obtain ⟨a, vs, rfl, _, q, r, l⟩ := hy
    by_cases f : (flat dx && ds.all flat) = true
    · simp only [inD, if_pos f, Option.some.injEq] at e
      rw [Bool.and_eq_true] at f
      have hx' : Rep c g H x dx := by cases dx <;> first | exact hx | cases f.1
      obtain ⟨h1, h2⟩ := inV_of hx' f.1 r f.2
      exact .inl ⟨a, vs, rfl, .inr (SqT.of q), flat_of hx' f.1, h1, h2.trans e⟩
    · simp [inD, f] at e
  | lst ds =>
    obtain ⟨a, vs, rfl, _, q, r, l⟩ := hy
    by_cases f : (flat dx && ds.all flat) = true
    · simp only [inD, if_pos f, Option.some.injEq] at e
      rw [Bool.and_eq_true] at f
      have hx' : Rep c g H x dx := by cases dx <;> first | exact hx | cases f.1
      obtain ⟨h1, h2⟩ := inV_of hx' f.1 r f.2
      exact .inl ⟨a, vs, rfl, .inl (SqL.of q), flat_of hx' f.1, h1, h2.trans e⟩
    · simp [inD, f] at e
  | str z =>
    obtain ⟨rfl, _⟩ := hy
    cases dx with
    | str w =>
      obtain ⟨rfl, _⟩ := hx
      match w, e with
      | [n], e =>
        simp only [inD, Option.some.injEq] at e
        exact .inr ⟨n, z, rfl, rfl, e.symm⟩
    | _ => simp [inD] at e
  | _ => simp [inD] at e
theorem op_cmp (hK : c.K = X.K) (hu : X.A.units + 64 < cLine) (o : Co) : OpR X (compareOp (cop o)) (rCmp c o) := by
  intro pins s σ H x y v u Q I rx ry h
  obtain ⟨g, t, dx, dy, d, hs, hx, hy, hb, hk⟩ := h
  have twoI : ∀ (p : Int → Int → Bool), (∀ a b, cmpD t o (.int a) (.int b) = some (.bl (p a b))) → (∀ a b, cmpD t o a b ≠ none → ∃ i j, a = .int i ∧ b = .int j) → ∃ i j, x = .int i ∧ y = .int j ∧ Q (.bl (p i j)) H := fun p h1 h2 => by
    obtain ⟨i, j, rfl, rfl⟩ := h2 dx dy (by rw [hb]; simp)
    rw [h1] at hb; cases hb
    cases hx; cases hy
    exact ⟨i, j, rfl, rfl, KD.here hk hs rfl⟩
  cases o with
  | eq =>
    by_cases f : (shp 60 dx && shp 60 dy) = true
    · rw [cmpD, if_pos f] at hb; cases hb
      rw [Bool.and_eq_true] at f
      obtain ⟨a1, a2, a3⟩ := RepP.dp (K := X.K) 60 hx f.1
      obtain ⟨b1, b2, b3⟩ := RepP.dp (K := X.K) 60 hy f.2
      refine op_eqD hu pins s σ H x y v u Q I rx ry ⟨_, _, a1, b1, shaped_of (by decide) a2 a3, shaped_of (by decide) b2 b3, ?_⟩
      rw [eqv_py 60 dx dy f.1 f.2]
      exact KD.here hk hs rfl
    · rw [cmpD, if_neg f] at hb; cases hb
  | ne =>
    by_cases f : (shp 60 dx && shp 60 dy) = true
    · rw [cmpD, if_pos f] at hb; cases hb
      rw [Bool.and_eq_true] at f
      obtain ⟨a1, a2, a3⟩ := RepP.dp (K := X.K) 60 hx f.1
      obtain ⟨b1, b2, b3⟩ := RepP.dp (K := X.K) 60 hy f.2
      refine op_neD hu pins s σ H x y v u Q I rx ry ⟨_, _, a1, b1, shaped_of (by decide) a2 a3, shaped_of (by decide) b2 b3, ?_⟩
      rw [eqv_py 60 dx dy f.1 f.2]
      exact KD.here hk hs rfl
    · rw [cmpD, if_neg f] at hb; cases hb
  | lt => exact op_lt pins s σ H x y v u Q I rx ry (twoI (fun a b => decide (a < b)) (fun _ _ => rfl) (fun a b h => by cases a <;> cases b <;> first | exact ⟨_, _, rfl, rfl⟩ | exact absurd rfl h))
  | le => exact op_le pins s σ H x y v u Q I rx ry (twoI (fun a b => decide (a ≤ b)) (fun _ _ => rfl) (fun a b h => by cases a <;> cases b <;> first | exact ⟨_, _, rfl, rfl⟩ | exact absurd rfl h))
  | gt => exact op_gt pins s σ H x y v u Q I rx ry (twoI (fun a b => decide (b < a)) (fun _ _ => rfl) (fun a b h => by cases a <;> cases b <;> first | exact ⟨_, _, rfl, rfl⟩ | exact absurd rfl h))
  | ge => exact op_ge pins s σ H x y v u Q I rx ry (twoI (fun a b => decide (b ≤ a)) (fun _ _ => rfl) (fun a b h => by cases a <;> cases b <;> first | exact ⟨_, _, rfl, rfl⟩ | exact absurd rfl h))
  | isin =>
    obtain ⟨b, e, rfl⟩ := Option.map_eq_some_iff.mp hb
    rcases in_ok hK hs hx hy e with ⟨p, xs, rfl, h1, h2, h3, h4⟩ | ⟨n, z, rfl, rfl, rfl⟩
    · refine op_in_seq pins s σ H x _ v u Q I rx ry ⟨p, xs, rfl, h1, h2, h3, ?_⟩
      rw [if_neg (by decide), h4]
      exact KD.here hk hs rfl
    · exact op_in_sign pins s σ H _ _ v u Q I rx ry ⟨n, ⟨z.toArray⟩, rfl, rfl, KD.here hk hs rfl⟩
  | notin =>
    obtain ⟨b, e, rfl⟩ := Option.map_eq_some_iff.mp hb
    rcases in_ok hK hs hx hy e with ⟨p, xs, rfl, h1, h2, h3, h4⟩ | ⟨n, z, rfl, rfl, rfl⟩
    · refine op_notIn_seq pins s σ H x _ v u Q I rx ry ⟨p, xs, rfl, h1, h2, h3, ?_⟩
      rw [if_pos rfl, h4]
      exact KD.here hk hs rfl
    · exact op_notIn_sign pins s σ H _ _ v u Q I rx ry ⟨n, ⟨z.toArray⟩, rfl, rfl, KD.here hk hs rfl⟩
  | isN =>
    have ey : dy = .non := by cases dy <;> first | rfl | (simp [cmpD] at hb)
    subst ey
    have hb : some (D.bl (isNon dx)) = some d := hb
    cases hb
    refine op_isN pins s σ H x y v u Q I rx ry ⟨hy, ?_⟩
    rw [is_non hx]
    exact KD.here hk hs rfl
  | notN =>
    have ey : dy = .non := by cases dy <;> first | rfl | (simp [cmpD] at hb)
    subst ey
    have hb : some (D.bl (!isNon dx)) = some d := hb
    cases hb
    refine op_notN pins s σ H x y v u Q I rx ry ⟨hy, ?_⟩
    rw [is_non hx]
    exact KD.here hk hs rfl
end
end Pd
set_option Elab.async false
set_option linter.all false
set_option maxRecDepth 100000
set_option autoImplicit false
namespace Pd
open PySem PySem.Spec PyProof.Rows L2 TL Bits

/-! ### an item -/
theorem atI_eq {α : Type} (xs : List α) (i : Int) : L2.atI xs i = Pd.atI xs i := rfl
theorem atI_reps {c : Cn} {g : Gh} {H : Hp} {ds : List D} {vs : List V} {i : Int} {d : D} (r : Reps c g H vs ds) (e : Pd.atI ds i = some d) : ∃ v, L2.atI vs i = some v ∧ Rep c g H v d := by
  unfold Pd.atI at e
  cases h : Pd.ixN ds.length i with
  | none => rw [h] at e; cases e
  | some j =>
    rw [h] at e
    obtain ⟨v, h1, h2⟩ := Reps.get r e
    refine ⟨v, ?_, h2⟩
    show (Pd.ixN vs.length i).bind _ = _
    rw [Reps.length r, h]; exact h1
def rIxA (c : Cn) : R2 := fun x y H Q => ∃ g t dx dy d, StH c g H t ∧ RepP c g H x dx ∧ RepP c g H y dy ∧ ixD t dx dy = some d ∧ KD c g H t d Q
section
variable {X : Cx} {c : Cn}
theorem op_ix (hK : c.K = X.K) : IxR X (rIxA c) := by
  intro value slice pins s σ H x y v u Q I rx ry h hsub
  obtain ⟨g, t, dx, dy, d, hs, hx, hy, hb, hk⟩ := h
  cases dx with
  | str z =>
    obtain ⟨rfl, hz⟩ := hx
    cases dy with
    | int i =>
      cases hy
      obtain ⟨n, e, rfl⟩ := Option.map_eq_some_iff.mp (show (Pd.atI z i).map (fun c => D.str [c]) = some d from hb)
      have hm : n ∈ z := by
        unfold Pd.atI at e
        cases h : Pd.ixN z.length i with
        | none => rw [h] at e; cases e
        | some j => rw [h] at e; exact List.mem_of_getElem? e
      refine ix_str value slice pins s σ H _ _ v u Q I rx ry ⟨⟨z.toArray⟩, i, n, rfl, rfl, by rw [str_len, szL]; exact hz.1, e, ?_⟩ hsub
      exact KD.here hk hs ⟨rfl, by show [n].length ≤ sz; unfold sz; simp, fun x hx => by rw [List.mem_singleton.mp hx]; exact hz.2 n hm⟩
    | _ => cases hb
  | tup ds =>
    obtain ⟨p, vs, rfl, f, q, r, l⟩ := hx
    cases dy with
    | int i =>
      cases hy
      obtain ⟨w, h1, h2⟩ := atI_reps r (show Pd.atI ds i = some d from hb)
      exact ix_tup value slice pins s σ H _ _ v u Q I rx ry ⟨p, vs, i, w, rfl, rfl, SqT.of q, h1, KD.here hk hs h2⟩ hsub
    | _ => cases hb
  | lst ds =>
    obtain ⟨p, vs, rfl, f, q, r, l⟩ := hx
    cases dy with
    | int i =>
      cases hy
      obtain ⟨w, h1, h2⟩ := atI_reps r (show Pd.atI ds i = some d from hb)
      exact ix_list value slice pins s σ H _ _ v u Q I rx ry ⟨p, vs, i, w, rfl, rfl, SqL.of q, h1, KD.here hk hs h2⟩ hsub
    | _ => cases hb
  | scr ns =>
    obtain ⟨p, rfl, q, l⟩ := scr_sq hx
    cases dy with
    | int i =>
      cases hy
      obtain ⟨n, e, rfl⟩ := Option.map_eq_some_iff.mp (show (Pd.atI ns i).map D.int = some d from hb)
      rw [hK] at q
      have e2 : L2.atI (ns.map V.int) i = some (.int n) := by
        unfold Pd.atI at e
        show (Pd.ixN (ns.map V.int).length i).bind _ = _
        rw [List.length_map]
        cases h : Pd.ixN ns.length i with
        | none => rw [h] at e; cases e
        | some j =>
          rw [h] at e
          have e : ns[j]? = some n := e
          show (ns.map V.int)[j]? = _
          rw [List.getElem?_map, e]; rfl
      exact ix_list value slice pins s σ H _ _ v u Q I rx ry ⟨p, _, i, _, rfl, rfl, q, e2, KD.here hk hs rfl⟩ hsub
    | _ => cases hb
  | obj n =>
    cases ho : t[n]? with
    | none => simp [ixD, ho] at hb
    | some o =>
      cases o with
      | lst xs =>
        cases dy with
        | int i =>
          cases hy
          obtain ⟨p, rfl, _, vs, q, r, l⟩ := obj_at hs hx ho
          obtain ⟨w, h1, h2⟩ := atI_reps r (show Pd.atI xs i = some d by simpa [ixD, ho] using hb)
          exact ix_list value slice pins s σ H _ _ v u Q I rx ry ⟨p, vs, i, w, rfl, rfl, SqL.of q, h1, KD.here hk hs h2⟩ hsub
        | _ => simp [ixD, ho] at hb
      | _ => simp [ixD, ho] at hb
  | _ => cases hb

/-! ### a slice -/
def rSlD (c : Cn) : V → Option Int → Option Int → Hp → VK → Prop := fun x lo hi H Q => ∃ g t d e, StH c g H t ∧ RepP c g H x d ∧ cutD lo hi d = some e ∧ KF true c g H t e Q
theorem cut_len {α : Type} (xs : List α) (lo hi : Option Int) : (cut xs lo hi).length ≤ xs.length := by
  unfold cut; rw [List.length_take, List.length_drop]; omega
theorem cut_mem {α : Type} {xs : List α} {lo hi : Option Int} {x : α} (h : x ∈ cut xs lo hi) : x ∈ xs := List.mem_of_mem_drop (List.mem_of_mem_take h)
theorem sIx_eq (n d : Nat) (o : Option Int) : HT.sIx n d o = sIx n d o := by cases o <;> rfl
theorem cut_reps {g : Gh} {H : Hp} {ds : List D} {vs : List V} (r : Reps c g H vs ds) (lo hi : Option Int) : Reps c g H (cutV vs lo hi) (cut ds lo hi) := by
  unfold cutV cut
  rw [Reps.length r, sIx_eq, sIx_eq]
  exact Reps.take _ (Reps.drop _ r)
theorem op_sl (hK : c.K = X.K) : SlR X (rSlD c) := by
  intro pins s σ H x v vl vu lo hi sl Q I rx hsl pl pu h
  obtain ⟨g, t, d, e, hs, hx, hb, hk⟩ := h
  cases d with
  | str z =>
    obtain ⟨rfl, hz⟩ := hx
    cases hb
    refine sl_str pins s σ H _ v vl vu lo hi sl Q I rx hsl pl pu ⟨⟨z.toArray⟩, rfl, by rw [str_len, szL]; exact hz.1, ?_⟩
    have e : cutS ⟨z.toArray⟩ lo hi = ⟨(cut z lo hi).toArray⟩ := by
      unfold cutS cut
      rw [str_len, sIx_eq, sIx_eq]
    rw [e]
    exact KD.here hk hs ⟨rfl, Nat.le_trans (cut_len z lo hi) hz.1, fun x hx => hz.2 x (cut_mem hx)⟩
  | tup ds =>
    obtain ⟨p, vs, rfl, f, q, r, l⟩ := hx
    cases hb
    have k : KD c g H t (.tup (cut ds lo hi)) Q := hk
    refine sl_tupA pins s σ H _ v vl vu lo hi sl Q I rx hsl pl pu ⟨p, vs, rfl, SqT.of q, fun hw => ?_, fun _ => KD.tup k hs (cut_reps r lo hi) (Nat.le_trans (cut_len ds lo hi) l)⟩
    have e : cut ds lo hi = ds := by
      unfold cut
      rw [← sIx_eq, ← sIx_eq, ← Reps.length r, hw.1, hw.2, List.drop_zero, Nat.sub_zero, Reps.length r]
      exact List.take_length
    rw [e] at k
    exact KD.here k hs ⟨p, vs, rfl, f, q, r, l⟩
  | lst ds =>
    obtain ⟨p, vs, rfl, f, q, r, l⟩ := hx
    cases hb
    have k : KL c g H t (cut ds lo hi) Q := hk
    exact sl_list pins s σ H _ v vl vu lo hi sl Q I rx hsl pl pu ⟨p, vs, rfl, SqL.of q, KL.lst k hs (cut_reps r lo hi) (Nat.le_trans (cut_len ds lo hi) l)⟩
  | _ => cases hb

/-! ### isinstance -/
def tyN : Ty → List String
  | .int => ["int"]
  | .bool => ["bool"]
  | .str => ["str"]
  | .tup => ["tuple"]
  | .lst => ["list"]
  | .row => ["tuple", "list"]
/-- the type's name -/
def nmD : D → String
  | .non => "NoneType"
  | .bl _ => "bool"
  | .int _ => "int"
  | .str _ => "str"
  | .tup _ => "tuple"
  | .lst _ => "list"
  | .scr _ => "list"
  | .obj _ => "object"
def noObj : D → Bool
  | .obj _ => false
  | _ => true
theorem ty_of (hK : c.K = X.K) {g : Gh} {H : Hp} {t : T} {x : V} {d : D} (hs : StH c g H t) (hx : RepP c g H x d) (n : noObj d = true) : TyX X.K H x (.type (nmD d)) := by
  cases d with
  | non => cases hx; exact .base .non
  | bl b => cases hx; exact .base (.bl b)
  | int i => cases hx; exact .base (.int i)
  | str s => obtain ⟨rfl, _⟩ := hx; exact .base (.str _)
  | tup ds => obtain ⟨p, vs, rfl, f, q, r, l⟩ := hx; exact .base (.tup q)
  | lst ds => obtain ⟨p, vs, rfl, f, q, r, l⟩ := hx; exact .base (.lst q)
  | scr ns =>
    obtain ⟨a, rfl, l, q⟩ := hx
    rcases q with ⟨_, q | ⟨o, q⟩⟩ | ⟨o, its, m, q, hc, _⟩
    · exact .base (.lst q)
    · exact .base (.frz q)
    · rw [hK] at q; exact .kList q hc
  | obj n => cases n <;> rfl
theorem obj_isi {t : T} {k : Ty} {n : Nat} {b : Bool} (h : isiD t k (.obj n) = some b) : False := by
  cases k <;> (simp only [isiD] at h; split at h <;> simp at h)
def rIs (c : Cn) (k : Ty) : List V → Hp → VK → Prop := fun xs H Q => ∃ x g t d b, (match tyN k with | [n] => xs = [x, .ty n] | ns => ∃ p, xs = [x, .ref p] ∧ H p = some (.tup (ns.map V.ty))) ∧ StH c g H t ∧ RepP c g H x d ∧ isiD t k d = some b ∧ KD c g H t (.bl b) Q
theorem isi_no {t : T} {k : Ty} {d : D} {b : Bool} (h : isiD t k d = some b) : noObj d = true := by
  cases d with
  | obj n => exact (obj_isi h).elim
  | _ => rfl
theorem op_isi (hK : c.K = X.K) (k : Ty) : CallR X (.builtin "isinstance") (rIs c k) := by
  intro pins s σ H xs us Q I r h
  obtain ⟨x, g, t, d, b, hxs, hs, hx, hb, hk⟩ := h
  have hn := isi_no hb
  have hty := ty_of hK hs hx hn
  have q := KD.here hk hs (show Rep c g H (.bl b) (.bl b) from rfl)
  have one : ∀ (n : String), xs = [x, .ty n] → kitB (nmD d) n = some b → wpAny (model X.prog X.w) X.A (PySem.call (.builtin "isinstance") us) (EP X pins σ Q) X.xe s := fun n e1 e2 =>
    call_isi pins s σ H xs us Q I r ⟨x, .ty n, _, _, b, e1, .ty n, hty, kit_ty e2, q⟩
  cases k with
  | row =>
    obtain ⟨p, e1, e2⟩ := hxs
    refine call_isiT pins s σ H xs us Q I r ⟨x, p, _, _, _, b, e1, e2, .cons (.ty "tuple") (.cons (.ty "list") .nil), hty, ?_, q⟩
    have go : ∀ (b1 b2 : Bool), kitB (nmD d) "tuple" = some b1 → kitB (nmD d) "list" = some b2 → b = (b1 || b2) → PySem.W.kitAny X.K (.type (nmD d)) [.type "tuple", .type "list"] = some b := fun b1 b2 h1 h2 e => by
      refine kitAny_cons (kit_ty h1) (fun z => ?_) fun z => by rw [e, z]; rfl
      refine kitAny_cons (kit_ty h2) (fun z2 => by rw [e, z, z2]; exact kitAny_nil) fun z2 => by rw [e, z, z2]; rfl
    cases d with
    | non => cases hb; exact go false false (by dsimp only [nmD]; decide +kernel) (by dsimp only [nmD]; decide +kernel) rfl
    | bl _ => cases hb; exact go false false (by dsimp only [nmD]; decide +kernel) (by dsimp only [nmD]; decide +kernel) rfl
    | int _ => cases hb; exact go false false (by dsimp only [nmD]; decide +kernel) (by dsimp only [nmD]; decide +kernel) rfl
    | str _ => cases hb; exact go false false (by dsimp only [nmD]; decide +kernel) (by dsimp only [nmD]; decide +kernel) rfl
    | tup _ => cases hb; exact go true false (by dsimp only [nmD]; decide +kernel) (by dsimp only [nmD]; decide +kernel) rfl
    | lst _ => cases hb; exact go false true (by dsimp only [nmD]; decide +kernel) (by dsimp only [nmD]; decide +kernel) rfl
    | scr _ => cases hb; exact go false true (by dsimp only [nmD]; decide +kernel) (by dsimp only [nmD]; decide +kernel) rfl
    | obj _ => cases hn
  | int => cases d <;> first | (cases hn; done) | (cases hb; exact one "int" hxs (by dsimp only [nmD]; decide +kernel))
  | bool => cases d <;> first | (cases hn; done) | (cases hb; exact one "bool" hxs (by dsimp only [nmD]; decide +kernel))
  | str => cases d <;> first | (cases hn; done) | (cases hb; exact one "str" hxs (by dsimp only [nmD]; decide +kernel))
  | tup => cases d <;> first | (cases hn; done) | (cases hb; exact one "tuple" hxs (by dsimp only [nmD]; decide +kernel))
  | lst => cases d <;> first | (cases hn; done) | (cases hb; exact one "list" hxs (by dsimp only [nmD]; decide +kernel))

/-! ### built-in functions -/
def rB1 (c : Cn) (b : B1) : List V → Hp → VK → Prop := fun xs H Q => ∃ x g t d e, xs = [x] ∧ StH c g H t ∧ RepP c g H x d ∧ b1D t b d = some e ∧ KF true c g H t e Q
theorem b1_len (hK : c.K = X.K) : CallR X (.builtin "len") (rB1 c .len) := by
  intro pins s σ H xs us Q I r h
  obtain ⟨x, g, t, d, e, rfl, hs, hx, hb, hk⟩ := h
  obtain ⟨n, h1, rfl⟩ := Option.map_eq_some_iff.mp (show (lenD t d).map (fun n : Nat => D.int (n : Int)) = some e by simpa only [b1D] using hb)
  exact op_len hK pins s σ H [x] us Q I r ⟨x, g, t, d, n, rfl, hs, hx, h1, KD.here hk hs rfl⟩
theorem b1_abs : CallR X (.builtin "abs") (rB1 c .abs) := by
  intro pins s σ H xs us Q I r h
  obtain ⟨x, g, t, d, e, rfl, hs, hx, hb, hk⟩ := h
  cases d with
  | int i =>
    cases hx; cases hb
    exact call_abs pins s σ H _ us Q I r ⟨i, rfl, KD.here hk hs rfl⟩
  | _ => cases hb
theorem digit_text : ∀ n : Nat, n < 10 → PySem.intText? ⟨[48 + n].toArray⟩ = some (n : Int) := by decide +kernel
theorem text_digit : ∀ n : Nat, n < 10 → (PySem.Str.ofString (toString ((n : Nat) : Int))) = ⟨[48 + n].toArray⟩ := by decide +kernel
theorem b1_int : CallR X (.type "int") (rB1 c .int) := by
  intro pins s σ H xs us Q I r h
  obtain ⟨x, g, t, d, e, rfl, hs, hx, hb, hk⟩ := h
  cases d with
  | int i =>
    cases hx; cases hb
    exact call_int1 pins s σ H _ us Q I r (.inl ⟨i, rfl, KD.here hk hs rfl⟩)
  | bl i =>
    cases hx; cases hb
    exact call_int1 pins s σ H _ us Q I r (.inr ⟨i, rfl, KD.here hk hs rfl⟩)
  | str z =>
    obtain ⟨rfl, _⟩ := hx
    match z, hb, r with
    | [n], hb, r =>
      by_cases hn : 48 ≤ n ∧ n ≤ 57
      · rw [b1D] at hb
        simp only [hn, and_self, if_true, Option.some.injEq] at hb
        subst hb
        refine call_int_str pins s σ H _ us Q I r ⟨_, ((n - 48 : Nat) : Int), rfl, ?_, by rw [str_len]; simp, ?_⟩
        · have := digit_text (n - 48) (by omega)
          rwa [show 48 + (n - 48) = n by omega] at this
        · rw [show ((n - 48 : Nat) : Int) = (n : Int) - 48 by omega]
          exact KD.here hk hs rfl
      · rw [b1D] at hb
        simp only [hn, if_false] at hb
        cases hb
  | _ => cases hb
theorem b1_str : CallR X (.type "str") (rB1 c .str) := by
  intro pins s σ H xs us Q I r h
  obtain ⟨x, g, t, d, e, rfl, hs, hx, hb, hk⟩ := h
  cases d with
  | int i =>
    cases hx
    by_cases hi : 0 ≤ i ∧ i < 10
    · rw [b1D, if_pos hi] at hb; cases hb
      refine call_str_int pins s σ H _ us Q I r ⟨i, rfl, ?_, ?_⟩
      · have h1 : i.natAbs < 10 := by omega
        exact Nat.lt_of_le_of_lt (Nat.log2_le_self i.natAbs) (by omega)
      · obtain ⟨n, rfl⟩ : ∃ n : Nat, i = n := ⟨i.toNat, by omega⟩
        rw [text_digit n (by omega)]
        refine KD.here hk hs ⟨rfl, by show [48 + (n : Int).toNat].length ≤ sz; unfold sz; simp, fun x hx => ?_⟩
        rw [List.mem_singleton.mp hx]; omega
    · rw [b1D, if_neg hi] at hb; cases hb
  | _ => cases hb
theorem b1_sum (hK : c.K = X.K) (hc : X.calm = true) : CallR X (.builtin "sum") (rB1 c .sum) := by
  intro pins s σ H xs us Q I r h
  obtain ⟨x, g, t, d, e, rfl, hs, hx, hb, hk⟩ := h
  cases d with
  | lst ds =>
    obtain ⟨p, vs, rfl, f, q, rr, l⟩ := hx
    obtain ⟨ns, h1, rfl⟩ := Option.map_eq_some_iff.mp (show (intsOf ds).map (fun ns => D.int ns.sum) = some e from hb)
    rw [Reps.intsOf rr h1] at q
    exact cr_sum hc pins s σ H _ us Q I r ⟨p, ns, rfl, SqL.of q, KD.here hk hs rfl⟩
  | _ => cases hb
theorem maxI_of : ∀ {ns : List Int} {m : Int}, m ∈ ns → (∀ y, y ∈ ns → y ≤ m) → maxI ns = some m
  | [x], m, h1, h2 => by rw [List.mem_singleton.mp h1]; rfl
  | x :: y :: r, m, h1, h2 => by
    have hx := h2 x List.mem_cons_self
    show (maxI (y :: r)).map _ = _
    by_cases hm : m ∈ y :: r
    · rw [maxI_of hm fun z hz => h2 z (List.mem_cons_of_mem _ hz)]
      show some (if x < m then m else x) = _
      split
      · rfl
      · congr 1; omega
    · have e : m = x := (List.mem_cons.mp h1).elim id fun e => absurd e hm
      subst e
      obtain ⟨k, hk, hle⟩ : ∃ k, maxI (y :: r) = some k ∧ k ∈ y :: r := by
        clear h1 h2 hx hm
        induction r generalizing y with
        | nil => exact ⟨y, rfl, List.mem_cons_self⟩
        | cons z r ih =>
          obtain ⟨k, h1, h2⟩ := ih z
          by_cases hy : y < k
          · exact ⟨k, by show (maxI (z :: r)).map _ = _; rw [h1]; show some (if y < k then k else y) = _; rw [if_pos hy], List.mem_cons_of_mem _ h2⟩
          · exact ⟨y, by show (maxI (z :: r)).map _ = _; rw [h1]; show some (if y < k then k else y) = _; rw [if_neg hy], List.mem_cons_self⟩
      rw [hk]
      show some (if m < k then k else m) = _
      have := h2 k (List.mem_cons_of_mem _ hle)
      rw [if_neg (by omega)]
theorem minI_of : ∀ {ns : List Int} {m : Int}, m ∈ ns → (∀ y, y ∈ ns → m ≤ y) → minI ns = some m
  | [x], m, h1, h2 => by rw [List.mem_singleton.mp h1]; rfl
  | x :: y :: r, m, h1, h2 => by
    have hx := h2 x List.mem_cons_self
    show (minI (y :: r)).map _ = _
    by_cases hm : m ∈ y :: r
    · rw [minI_of hm fun z hz => h2 z (List.mem_cons_of_mem _ hz)]
      show some (if m < x then m else x) = _
      split
      · rfl
      · congr 1; omega
    · have e : m = x := (List.mem_cons.mp h1).elim id fun e => absurd e hm
      subst e
      obtain ⟨k, hk, hle⟩ : ∃ k, minI (y :: r) = some k ∧ k ∈ y :: r := by
        clear h1 h2 hx hm
        induction r generalizing y with
        | nil => exact ⟨y, rfl, List.mem_cons_self⟩
        | cons z r ih =>
          obtain ⟨k, h1, h2⟩ := ih z
          by_cases hy : k < y
          · exact ⟨k, by show (minI (z :: r)).map _ = _; rw [h1]; show some (if k < y then k else y) = _; rw [if_pos hy], List.mem_cons_of_mem _ h2⟩
          · exact ⟨y, by show (minI (z :: r)).map _ = _; rw [h1]; show some (if k < y then k else y) = _; rw [if_neg hy], List.mem_cons_self⟩
      rw [hk]
      show some (if k < m then k else m) = _
      have := h2 k (List.mem_cons_of_mem _ hle)
      rw [if_neg (by omega)]
theorem b1_max (hK : c.K = X.K) (hc : X.calm = true) : CallR X (.builtin "max") (rB1 c .max) := by
  intro pins s σ H xs us Q I r h
  obtain ⟨x, g, t, d, e, rfl, hs, hx, hb, hk⟩ := h
  cases d with
  | lst ds =>
    obtain ⟨p, vs, rfl, f, q, rr, l⟩ := hx
    obtain ⟨m, h1, rfl⟩ := Option.map_eq_some_iff.mp (show ((intsOf ds).bind maxI).map D.int = some e from hb)
    obtain ⟨ns, h2, h3⟩ := Option.bind_eq_some_iff.mp h1
    rw [Reps.intsOf rr h2] at q
    refine cr_max hc pins s σ H _ us Q I r ⟨p, ns, rfl, SqL.of q, ?_, fun k hm hle => ?_⟩
    · cases ns with
      | nil => cases h3
      | cons => simp
    · rw [maxI_of hm hle] at h3; cases h3
      exact KD.here hk hs rfl
  | _ => cases hb
theorem b1_min (hK : c.K = X.K) (hc : X.calm = true) : CallR X (.builtin "min") (rB1 c .min) := by
  intro pins s σ H xs us Q I r h
  obtain ⟨x, g, t, d, e, rfl, hs, hx, hb, hk⟩ := h
  cases d with
  | lst ds =>
    obtain ⟨p, vs, rfl, f, q, rr, l⟩ := hx
    obtain ⟨m, h1, rfl⟩ := Option.map_eq_some_iff.mp (show ((intsOf ds).bind minI).map D.int = some e from hb)
    obtain ⟨ns, h2, h3⟩ := Option.bind_eq_some_iff.mp h1
    rw [Reps.intsOf rr h2] at q
    refine cr_min hc pins s σ H _ us Q I r ⟨p, ns, rfl, SqL.of q, ?_, fun k hm hle => ?_⟩
    · cases ns with
      | nil => cases h3
      | cons => simp
    · rw [minI_of hm hle] at h3; cases h3
      exact KD.here hk hs rfl
  | _ => cases hb
theorem b1_any (hK : c.K = X.K) (hc : X.calm = true) : CallR X (.builtin "any") (rB1 c .any) := by
  intro pins s σ H xs us Q I r h
  obtain ⟨x, g, t, d, e, rfl, hs, hx, hb, hk⟩ := h
  cases d with
  | lst ds =>
    obtain ⟨p, vs, rfl, f, q, rr, l⟩ := hx
    obtain ⟨ns, h1, rfl⟩ := Option.map_eq_some_iff.mp (show (boolsOf ds).map (fun bs => D.bl (bs.any id)) = some e from hb)
    rw [Reps.boolsOf rr h1] at q
    exact cr_any hc pins s σ H _ us Q I r ⟨p, ns, rfl, SqL.of q, KD.here hk hs rfl⟩
  | _ => cases hb
theorem b1_all (hK : c.K = X.K) (hc : X.calm = true) : CallR X (.builtin "all") (rB1 c .all) := by
  intro pins s σ H xs us Q I r h
  obtain ⟨x, g, t, d, e, rfl, hs, hx, hb, hk⟩ := h
  cases d with
  | lst ds =>
    obtain ⟨p, vs, rfl, f, q, rr, l⟩ := hx
    obtain ⟨ns, h1, rfl⟩ := Option.map_eq_some_iff.mp (show (boolsOf ds).map (fun bs => D.bl (bs.all id)) = some e from hb)
    rw [Reps.boolsOf rr h1] at q
    exact cr_all hc pins s σ H _ us Q I r ⟨p, ns, rfl, SqL.of q, KD.here hk hs rfl⟩
  | _ => cases hb
theorem b1_list (hK : c.K = X.K) : CallR X (.type "list") (rB1 c .list) := by
  intro pins s σ H xs us Q I r h
  obtain ⟨x, g, t, d, e, rfl, hs, hx, hb, hk⟩ := h
  cases d with
  | lst ds =>
    obtain ⟨p, vs, rfl, f, q, rr, l⟩ := hx
    cases hb
    exact call_list_of pins s σ H _ us Q I r ⟨p, vs, rfl, .inl (SqL.of q), KL.lst (show KL c g H t ds Q from hk) hs rr l⟩
  | tup ds =>
    obtain ⟨p, vs, rfl, f, q, rr, l⟩ := hx
    cases hb
    exact call_list_of pins s σ H _ us Q I r ⟨p, vs, rfl, .inr (SqT.of q), KL.lst (show KL c g H t ds Q from hk) hs rr l⟩
  | scr ns =>
    obtain ⟨p, rfl, q, l⟩ := scr_sq hx
    cases hb
    rw [hK] at q
    exact call_list_of pins s σ H _ us Q I r ⟨p, _, rfl, .inl q, KL.lst (show KL c g H t (ns.map D.int) Q from hk) hs (Reps.ints ns) (by rw [List.length_map]; unfold sz; omega)⟩
  | _ => cases hb
theorem b1_tuple (hK : c.K = X.K) : CallR X (.type "tuple") (rB1 c .tuple) := by
  intro pins s σ H xs us Q I r h
  obtain ⟨x, g, t, d, e, rfl, hs, hx, hb, hk⟩ := h
  cases d with
  | lst ds =>
    obtain ⟨p, vs, rfl, f, q, rr, l⟩ := hx
    cases hb
    exact call_tuple_of pins s σ H _ us Q I r ⟨p, vs, rfl, .inl ⟨SqL.of q, KD.tup (show KD c g H t (.tup ds) Q from hk) hs rr l⟩⟩
  | tup ds =>
    obtain ⟨p, vs, rfl, f, q, rr, l⟩ := hx
    cases hb
    exact call_tuple_of pins s σ H _ us Q I r ⟨p, vs, rfl, .inr ⟨SqT.of q, KD.here hk hs ⟨p, vs, rfl, f, q, rr, l⟩⟩⟩
  | _ => cases hb
theorem b1_sorted (hK : c.K = X.K) : CallR X (.builtin "sorted") (rB1 c .sorted) := by
  intro pins s σ H xs us Q I r h
  obtain ⟨x, g, t, d, e, rfl, hs, hx, hb, hk⟩ := h
  cases d with
  | lst ds =>
    obtain ⟨p, vs, rfl, f, q, rr, l⟩ := hx
    obtain ⟨ns, h1, rfl⟩ := Option.map_eq_some_iff.mp (show (intsOf ds).map (fun ns => D.lst ((ns.mergeSort (fun a b => decide (a ≤ b))).map .int)) = some e from hb)
    have l2 := Reps.length rr
    rw [Reps.intsOf rr h1] at q l2
    refine cr_sortedI pins s σ H _ us Q I r ⟨p, ns, rfl, SqL.of q, fun ns' p2 pm sr hp => ?_⟩
    have e1 : ns' = ns.mergeSort (fun a b => decide (a ≤ b)) := by
      refine PySem.W.ksm_same (pm.trans (List.mergeSort_perm ns _).symm) sr ?_
      have h := List.pairwise_mergeSort (le := fun a b : Int => decide (a ≤ b)) (fun a b c h1 h2 => by simp only [decide_eq_true_eq] at *; omega) (fun a b => by simp only [Bool.or_eq_true, decide_eq_true_eq]; omega) ns
      exact h.imp fun h => by simpa using h
    rw [e1]
    refine KL.lst (show KL c g H t ((ns.mergeSort (fun a b => decide (a ≤ b))).map .int) Q from hk) hs (Reps.ints _) ?_ p2 hp
    rw [List.length_map, List.length_mergeSort]
    rw [List.length_map] at l2
    omega
  | _ => cases hb
def rB2 (c : Cn) (b : B2) : List V → Hp → VK → Prop := fun xs H Q => ∃ x y g t d e f, xs = [x, y] ∧ StH c g H t ∧ RepP c g H x d ∧ RepP c g H y e ∧ b2D b d e = some f ∧ KD c g H t f Q
theorem b2_max (hc : X.calm = true) : CallR X (.builtin "max") (rB2 c .max) := by
  intro pins s σ H xs us Q I r h
  obtain ⟨x, y, g, t, d, e, f, rfl, hs, hx, hy, hb, hk⟩ := h
  cases d with
  | int i =>
    cases e with
    | int j =>
      cases hx; cases hy; cases hb
      exact call_max2 hc pins s σ H _ us Q I r ⟨i, j, rfl, KD.here hk hs rfl⟩
    | _ => cases hb
  | _ => cases hb
theorem b2_min (hc : X.calm = true) : CallR X (.builtin "min") (rB2 c .min) := by
  intro pins s σ H xs us Q I r h
  obtain ⟨x, y, g, t, d, e, f, rfl, hs, hx, hy, hb, hk⟩ := h
  cases d with
  | int i =>
    cases e with
    | int j =>
      cases hx; cases hy; cases hb
      exact call_min2 hc pins s σ H _ us Q I r ⟨i, j, rfl, KD.here hk hs rfl⟩
    | _ => cases hb
  | _ => cases hb
end
end Pd
set_option Elab.async false
set_option linter.all false
set_option maxRecDepth 100000
set_option autoImplicit false
/-! Pd: each construct, given its parts. -/
namespace Pd
open PySem PySem.Spec PyProof.Rows L2 TL Bits

def run {α : Type} (r : R α) (k : α → T → Prop) : Prop :=
  match r with
  | .ok a t => k a t
  | _ => False
theorem run_bnd {α β : Type} {r : R α} {f : α → T → R β} {k : β → T → Prop} (h : run (bnd r f) k) : run r fun a t => run (f a t) k := by
  cases r <;> exact h
theorem run.mono {α : Type} {r : R α} {k k' : α → T → Prop} (h : run r k) (m : ∀ a t, k a t → k' a t) : run r k' := by
  cases r with
  | ok a t => exact m a t h
  | ex _ _ _ => exact h
  | no => exact h
theorem run_ofO {α : Type} {o : Option α} {t : T} {k : α → T → Prop} (h : run (ofO o t) k) : ∃ a, o = some a ∧ k a t := by
  cases o with
  | none => exact h.elim
  | some a => exact ⟨a, rfl, h⟩

section
variable (c : Cn) (en : En)
def KP (g : Gh) (H : Hp) (t : T) (d : D) (Q : VK) : Prop := ∀ v g' H', Step g H g' H' → StH c g' H' t → RepP c g' H' v d → Q v H'
def KT (g : Gh) (H : Hp) (t : T) (b : Bool) (Q : Bool → Hp → Prop) : Prop := ∀ g' H', Step g H g' H' → StH c g' H' t → Q b H'
def KA (g : Gh) (H : Hp) (t : T) (ds : List D) (Q : List V → Hp → Prop) : Prop := ∀ vs g' H', Step g H g' H' → StH c g' H' t → Reps c g' H' vs ds → Q vs H'
def tE (fr : Bool) (f : Env → T → R D) : TE := fun σ H Q => ∃ ρ t g, SR c en g σ H ρ t ∧ run (f ρ t) fun d t' => KF fr c g H t' d Q
def tO (f : Env → T → R D) : TE := fun σ H Q => ∃ ρ t g, SR c en g σ H ρ t ∧ run (f ρ t) fun d t' => KP c g H t' d Q
def tT (f : Env → T → R Bool) : TT := fun σ H Q => ∃ ρ t g, SR c en g σ H ρ t ∧ run (f ρ t) fun b t' => KT c g H t' b Q
def tAs (f : Env → T → R (List D)) : TA := fun σ H Q => ∃ ρ t g, SR c en g σ H ρ t ∧ run (f ρ t) fun ds t' => KA c g H t' ds Q
end

theorem _root_.L2.PE.imp {X : Cx} {e : Expr} {t t' : TE} (h : PE X e t) (k : ∀ σ H Q, t' σ H Q → t σ H Q) : PE X e t' := ⟨fun pins s σ H Q I q => h.run pins s σ H Q I (k σ H Q q)⟩
theorem _root_.L2.PT.imp {X : Cx} {e : Expr} {t t' : TT} (h : PT X e t) (k : ∀ σ H Q, t' σ H Q → t σ H Q) : PT X e t' := ⟨fun pins s σ H Q I q => h.run pins s σ H Q I (k σ H Q q)⟩
theorem _root_.L2.PW.imp {X : Cx} {e : Expr} {t t' : TT} (h : PW X e t) (k : ∀ σ H Q, t' σ H Q → t σ H Q) : PW X e t' := ⟨fun w pins s σ H Q I q => h.run w pins s σ H Q I (k σ H Q q)⟩
theorem _root_.L2.PA.imp {X : Cx} {e : List Expr} {t t' : TA} (h : PA X e t) (k : ∀ σ H Q, t' σ H Q → t σ H Q) : PA X e t' := ⟨fun pos pins s σ H Q I q => h.run pos pins s σ H Q I (k σ H Q q)⟩
theorem _root_.L2.PS.imp {X : Cx} {e : Stmt} {t t' : TS} (h : PS X e t) (k : ∀ D σ H, t' D σ H → t D σ H) : PS X e t' := ⟨fun pins s σ H D I q => h.run pins s σ H D I (k D σ H q)⟩
theorem _root_.L2.PSs.imp {X : Cx} {e : List Stmt} {t t' : TS} (h : PSs X e t) (k : ∀ D σ H, t' D σ H → t D σ H) : PSs X e t' := ⟨fun pins s σ H D I q => h.run pins s σ H D I (k D σ H q)⟩

section
variable {c : Cn} {en : En} {g : Gh} {σ : L2.St} {H : Hp} {ρ : Env} {t : T}
theorem KF.fls {d : D} {Q : VK} : KF false c g H t d Q = KD c g H t d Q := by unfold KF; split <;> first | rfl | contradiction
theorem tE.down {f : Env → T → R D} {Q : VK} (h : tE c en false f σ H Q) : tE c en true f σ H Q := by
  obtain ⟨ρ, t, g, s, r⟩ := h
  exact ⟨ρ, t, g, s, r.mono fun d t' k => by rw [KF.fls] at k; exact KD.kf k⟩
theorem _root_.L2.PE.esc {X : Cx} {e : Expr} {fr : Bool} {f : Env → T → R D} (h : PE X e (tE c en fr f)) : PE X e (tE c en false f) := by
  cases fr with
  | false => exact h
  | true => exact h.imp fun _ _ _ q => q.down
theorem tO.tE {f : Env → T → R D} {Q : VK} (h : tO c en f σ H Q) : tE c en false f σ H Q := by
  obtain ⟨ρ, t, g, s, r⟩ := h
  exact ⟨ρ, t, g, s, r.mono fun d t' k => by rw [KF.fls]; exact fun v g' H' st s' rp => k v g' H' st s' (Rep.peek s' rp)⟩
/-- an operand that is no name -/
theorem _root_.L2.PE.pk {X : Cx} {e : Expr} {fr : Bool} {f : Env → T → R D} (h : PE X e (tE c en fr f)) : PE X e (tO c en f) := h.esc.imp fun _ _ _ q => q.tE
theorem KD.after {d : D} {Q : VK} {g1 : Gh} {H1 : Hp} (st : Step g H g1 H1) (k : KD c g H t d Q) : KD c g1 H1 t d Q := fun v g' H' st' s' r => k v g' H' (st.trans st') s' r
theorem KL.after {ds : List D} {Q : VK} {g1 : Gh} {H1 : Hp} (st : Step g H g1 H1) (k : KL c g H t ds Q) : KL c g1 H1 t ds Q := fun p vs g' H' st' s' hp r l => k p vs g' H' (st.trans st') s' hp r l
theorem KF.after {fr : Bool} {d : D} {Q : VK} {g1 : Gh} {H1 : Hp} (st : Step g H g1 H1) (k : KF fr c g H t d Q) : KF fr c g1 H1 t d Q := by
  unfold KF at k ⊢
  split at k
  · exact KL.after st k
  · exact KD.after st k
theorem KT.after {b : Bool} {Q : Bool → Hp → Prop} {g1 : Gh} {H1 : Hp} (st : Step g H g1 H1) (k : KT c g H t b Q) : KT c g1 H1 t b Q := fun g' H' st' s' => k g' H' (st.trans st') s'
theorem KA.after {ds : List D} {Q : List V → Hp → Prop} {g1 : Gh} {H1 : Hp} (st : Step g H g1 H1) (k : KA c g H t ds Q) : KA c g1 H1 t ds Q := fun v g' H' st' s' r => k v g' H' (st.trans st') s' r
theorem KP.after {d : D} {Q : VK} {g1 : Gh} {H1 : Hp} (st : Step g H g1 H1) (k : KP c g H t d Q) : KP c g1 H1 t d Q := fun v g' H' st' s' r => k v g' H' (st.trans st') s' r
end

section
variable {X : Cx} {c : Cn} {en : En} {pos : Pos} {a b : Expr} {fa fb : Env → T → R D}

/-! ### names -/
theorem snd_var {i : Nat} {x : PySem.Str} (hN : X.N[i]? = some x) (hv : Vis X.env.scope x) (hd : (x == ("__debug__" : PySem.Str)) = false) (hcd : (x == ("__classdict__" : PySem.Str)) = false) :
    PE X (.Name x pos) (tE c en false fun ρ t => ofO (valOf (look ρ i)) t) := (pe_var hN hv hd hcd).imp fun σ H Q h => by
  obtain ⟨ρ, t, g, s, r⟩ := h
  obtain ⟨d, e, k⟩ := run_ofO r
  rw [KF.fls] at k
  cases hl : look ρ i with
  | val d' =>
    rw [hl] at e; cases e
    have q := s.cell i
    rw [hl] at q
    obtain ⟨v, h1, h2⟩ := q
    exact ⟨v, h1, KD.here k s.st h2⟩
  | _ => rw [hl] at e; cases e
theorem snd_peek {i : Nat} {x : PySem.Str} (hN : X.N[i]? = some x) (hv : Vis X.env.scope x) (hd : (x == ("__debug__" : PySem.Str)) = false) (hcd : (x == ("__classdict__" : PySem.Str)) = false) :
    PE X (.Name x pos) (tO c en fun ρ t => ofO (peek (look ρ i)) t) := (pe_var hN hv hd hcd).imp fun σ H Q h => by
  obtain ⟨ρ, t, g, s, r⟩ := h
  obtain ⟨d, e, k⟩ := run_ofO r
  have q := s.cell i
  cases hl : look ρ i with
  | val d' =>
    rw [hl] at e q; cases e
    obtain ⟨v, h1, h2⟩ := q
    exact ⟨v, h1, k v g H Step.refl s.st (Rep.peek s.st h2)⟩
  | own ds =>
    rw [hl] at e q; cases e
    obtain ⟨p, vs, h1, h2, h3, h4, h5, h6, h7⟩ := q
    exact ⟨.ref p, h1, k _ g H Step.refl s.st ⟨p, vs, rfl, h6, h2, h3, h4⟩⟩
  | loan ds =>
    rw [hl] at e q; cases e
    obtain ⟨p, vs, h1, h2, h3, h4, h5, h6, h7⟩ := q
    exact ⟨.ref p, h1, k _ g H Step.refl s.st ⟨p, vs, rfl, h6, h2, h3, h4⟩⟩
  | un => rw [hl] at e; cases e
/-- a constant, by its own rule -/
theorem snd_kon {v : V} {d : D} {pe : Expr} (h : PE X pe (tC v)) (r : ∀ g H, Rep c g H v d) : PE X pe (tE c en false fun _ t => .ok d t) := h.imp fun σ H Q ⟨ρ, t, g, s, k⟩ => by
  have k : KF false c g H t d Q := k
  rw [KF.fls] at k
  exact KD.here k s.st (r g H)

/-! ### operators -/
theorem snd_bin (hK : c.K = X.K) (o : Bo) (ha : PE X a (tO c en fa)) (hb : PE X b (tO c en fb)) :
    PE X (.BinOp a (bop o) b pos) (tE c en true fun ρ t => bnd (fa ρ t) fun x t => bnd (fb ρ t) fun y t => ofO (binD o x y) t) := (pe_op (op_bin hK o) ha hb).imp fun σ H Q h => by
  obtain ⟨ρ, t, g, s, r⟩ := h
  refine ⟨ρ, t, g, s, (run_bnd r).mono fun x t1 r1 v1 g1 H1 st1 s1 rp1 => ⟨ρ, t1, g1, s.step st1 s1, (run_bnd r1).mono fun y t2 r2 v2 g2 H2 st2 s2 rp2 => ?_⟩⟩
  obtain ⟨d, e, k⟩ := run_ofO r2
  exact ⟨g2, t2, x, y, d, s2, rp1.step s1 st2, rp2, e, KF.after (st1.trans st2) k⟩
theorem snd_cmp (hK : c.K = X.K) (hu : X.A.units + 64 < cLine) (o : Co) (ha : PE X a (tO c en fa)) (hb : PE X b (tO c en fb)) (hm : behindInMarks (cop o) b = false) :
    PE X (.Compare a [cop o] [b] pos) (tE c en false fun ρ t => bnd (fa ρ t) fun x t => bnd (fb ρ t) fun y t => ofO (cmpD t o x y) t) := (pe_cmpR (op_cmp hK hu o) ha hb hm).imp fun σ H Q h => by
  obtain ⟨ρ, t, g, s, r⟩ := h
  refine ⟨ρ, t, g, s, (run_bnd r).mono fun x t1 r1 v1 g1 H1 st1 s1 rp1 => ⟨ρ, t1, g1, s.step st1 s1, (run_bnd r1).mono fun y t2 r2 v2 g2 H2 st2 s2 rp2 => ?_⟩⟩
  obtain ⟨d, e, k⟩ := run_ofO r2
  rw [KF.fls] at k
  exact ⟨g2, t2, x, y, d, s2, rp1.step s1 st2, rp2, e, KD.after (st1.trans st2) k⟩
theorem cmp_bl {t : T} {o : Co} {x y d : D} (h : cmpD t o x y = some d) : ∃ b, d = .bl b := by
  cases o with
  | eq => simp only [cmpD] at h; split at h <;> cases h; exact ⟨_, rfl⟩
  | ne => simp only [cmpD] at h; split at h <;> cases h; exact ⟨_, rfl⟩
  | lt => cases x <;> cases y <;> first | (cases h; exact ⟨_, rfl⟩) | cases h
  | le => cases x <;> cases y <;> first | (cases h; exact ⟨_, rfl⟩) | cases h
  | gt => cases x <;> cases y <;> first | (cases h; exact ⟨_, rfl⟩) | cases h
  | ge => cases x <;> cases y <;> first | (cases h; exact ⟨_, rfl⟩) | cases h
  | isin => obtain ⟨b, _, e⟩ := Option.map_eq_some_iff.mp h; exact ⟨b, e.symm⟩
  | notin => obtain ⟨b, _, e⟩ := Option.map_eq_some_iff.mp h; exact ⟨_, e.symm⟩
  | isN => cases y <;> first | (cases h; exact ⟨_, rfl⟩) | (simp [cmpD] at h)
  | notN => cases y <;> first | (cases h; exact ⟨_, rfl⟩) | (simp [cmpD] at h)
theorem truth_bl {t : T} {b : Bool} {k : Bool} (h : truthD t (.bl b) = some k) : k = b := by cases h; rfl
/-- a comparison as a test -/
theorem snd_cmpT (hK : c.K = X.K) (hu : X.A.units + 64 < cLine) (o : Co) (ha : PE X a (tO c en fa)) (hb : PE X b (tO c en fb)) (hm : behindInMarks (cop o) b = false) :
    PT X (.Compare a [cop o] [b] pos) (tT c en fun ρ t => bnd (bnd (fa ρ t) fun x t => bnd (fb ρ t) fun y t => ofO (cmpD t o x y) t) fun x t => ofO (truthD t x) t) := (pt_cmpR (op_cmp hK hu o) ha hb hm).imp fun σ H Q h => by
  obtain ⟨ρ, t, g, s, r⟩ := h
  refine ⟨ρ, t, g, s, (run_bnd (run_bnd r)).mono fun x t1 r1 v1 g1 H1 st1 s1 rp1 => ⟨ρ, t1, g1, s.step st1 s1, (run_bnd r1).mono fun y t2 r2 v2 g2 H2 st2 s2 rp2 => ?_⟩⟩
  obtain ⟨d, e, k⟩ := run_ofO r2
  obtain ⟨b', e', k⟩ := run_ofO k
  refine ⟨g2, t2, x, y, d, s2, rp1.step s1 st2, rp2, e, fun v g3 H3 st3 s3 rp3 => ?_⟩
  obtain ⟨bb, rfl⟩ := cmp_bl e
  cases truth_bl e'
  exact ⟨b', rp3, k g3 H3 ((st1.trans st2).trans st3) s3⟩
theorem snd_neg (ha : PE X a (tO c en fa)) : PE X (.UnaryOp .USub a pos) (tE c en false fun ρ t => bnd (fa ρ t) fun x t => match x with
    | .int i => .ok (.int (-i)) t
    | _ => .no) := (pe_un un_neg ha).imp fun σ H Q h => by
  obtain ⟨ρ, t, g, s, r⟩ := h
  refine ⟨ρ, t, g, s, (run_bnd r).mono fun x t1 r1 v1 g1 H1 st1 s1 rp1 => ?_⟩
  cases x with
  | int i =>
    cases rp1
    have k : KF false c g H t1 (.int (-i)) Q := r1
    rw [KF.fls] at k
    exact ⟨i, rfl, k _ g1 H1 st1 s1 rfl⟩
  | _ => exact r1.elim
theorem snd_not (hK : c.K = X.K) (ha : PE X a (tO c en fa)) : PE X (.UnaryOp .Not a pos) (tE c en false fun ρ t => bnd (fa ρ t) fun x t => bnd (ofO (truthD t x) t) fun k t => .ok (.bl (!k)) t) := (pe_notT ha).imp fun σ H Q h => by
  obtain ⟨ρ, t, g, s, r⟩ := h
  refine ⟨ρ, t, g, s, (run_bnd r).mono fun x t1 r1 v1 g1 H1 st1 s1 rp1 => ?_⟩
  obtain ⟨k, e, q⟩ := run_ofO (run_bnd r1)
  have q : KF false c g H t1 (.bl (!k)) Q := q
  rw [KF.fls] at q
  exact ⟨k, tru_of hK s1 rp1 e, q _ g1 H1 st1 s1 rfl⟩
theorem snd_chn (hK : c.K = X.K) (hu : X.A.units + 64 < cLine) (o p : Co) {d : Expr} {fd : Env → T → R D} (ha : PE X a (tO c en fa)) (hb : PE X b (tO c en fb)) (hd : PE X d (tO c en fd)) (hm : lastMarks [cop o, cop p] [b, d] = false) :
    PE X (.Compare a [cop o, cop p] [b, d] pos) (tE c en false fun ρ t => bnd (fa ρ t) fun x t => bnd (fb ρ t) fun y t => bnd (ofO (cmpD t o x y) t) fun k t =>
    match k with
    | .bl true => bnd (fd ρ t) fun z t => ofO (cmpD t p y z) t
    | .bl false => .ok (.bl false) t
    | _ => .no) := by
  refine (pe_chain (op_cmp hK hu o) (op_cmp hK hu p) ha hb hd hm).imp fun σ H Q h => ?_
  obtain ⟨ρ, t, g, s, r⟩ := h
  refine ⟨ρ, t, g, s, (run_bnd r).mono fun x t1 r1 v1 g1 H1 st1 s1 rp1 => ⟨ρ, t1, g1, s.step st1 s1, (run_bnd r1).mono fun y t2 r2 v2 g2 H2 st2 s2 rp2 => ?_⟩⟩
  obtain ⟨k, e, r3⟩ := run_ofO (run_bnd r2)
  obtain ⟨bb, rfl⟩ := cmp_bl e
  refine ⟨g2, t2, x, y, _, s2, rp1.step s1 st2, rp2, e, fun v g3 H3 st3 s3 rp3 => ?_⟩
  cases rp3
  refine ⟨bb, rfl, ?_⟩
  have st := (st1.trans st2).trans st3
  cases bb with
  | true =>
    refine ⟨ρ, t2, g3, s.step st s3, (run_bnd r3).mono fun z t4 r4 v4 g4 H4 st4 s4 rp4 => ?_⟩
    obtain ⟨d', e', k⟩ := run_ofO r4
    rw [KF.fls] at k
    exact ⟨g4, t4, y, z, d', s4, (rp2.step s2 st3).step s3 st4, rp4, e', KD.after (st.trans st4) k⟩
  | false =>
    have k : KF false c g H t2 (.bl false) Q := r3
    rw [KF.fls] at k
    exact k _ g3 H3 st s3 rfl
end
end Pd
set_option Elab.async false
set_option linter.all false
set_option maxRecDepth 100000
set_option autoImplicit false
namespace Pd
open PySem PySem.Spec PyProof.Rows L2 TL Bits

/-! ### a new object -/
def Gh.obj (g : Gh) (p : Addr) : Gh := ⟨g.ob ++ [p], g.fz⟩
section
variable {c : Cn} {g : Gh} {H : Hp} {t : T} {p : Addr} {o : HO}
theorem Step.newOb (hp : H p = none) : Step g H (g.obj p) (upd H p o) where
  pre := List.prefix_append _ _
  fzm := fun _ h => h
  fzn := fun _ h => .inl h
  obn := fun a h => by
    rcases List.mem_append.mp h with h | h
    · exact .inl h
    · rw [List.mem_singleton.mp h]; exact .inr hp
  keep := (Step.alloc (g := g) hp).keep
  tr := (Step.alloc (g := g) hp).tr
theorem StH.newOb {b : Ob} (s : StH c g H t) (hp : H p = none) (r : ObR c (g.obj p) (upd H p o) p b) : StH c (g.obj p) (upd H p o) (t ++ [b]) where
  len := by
    show (g.ob ++ [p]).length = _
    rw [List.length_append, List.length_append, s.len]; rfl
  nd := by
    show (g.ob ++ [p]).Nodup
    refine List.nodup_append.mpr ⟨s.nd, by simp, fun a ha b hb e => ?_⟩
    rw [List.mem_singleton.mp hb] at e
    exact s.there ha (e ▸ hp)
  nf := fun a ha f => by
    rcases List.mem_append.mp ha with ha | ha
    · exact s.nf a ha f
    · rw [List.mem_singleton.mp ha] at f
      exact s.tr p f hp
  tr := fun a f => (Step.newOb (g := g) (o := o) hp).tr a (s.tr a f)
  obs := fun i a b' h1 h2 => by
    have h1 : (g.ob ++ [p])[i]? = some a := h1
    by_cases hi : i < g.ob.length
    · rw [List.getElem?_append_left hi] at h1
      rw [List.getElem?_append_left (by rw [← s.len]; exact hi)] at h2
      exact (s.obs i a b' h1 h2).mono ((Step.newOb hp).mo s) (upd_ne fun z => s.there (List.mem_of_getElem? h1) (z ▸ hp))
    · have hi2 : i = g.ob.length := by
        have := (List.getElem?_eq_some_iff.mp h1).1
        rw [List.length_append] at this
        simp only [List.length_cons, List.length_nil] at this
        omega
      subst hi2
      rw [List.getElem?_append_right (Nat.le_refl _), Nat.sub_self] at h1
      rw [s.len, List.getElem?_append_right (Nat.le_refl _), Nat.sub_self] at h2
      simp at h1 h2
      subst h1; subst h2
      exact r
theorem Gh.obj_at (s : StH c g H t) : (g.obj p).ob[t.length]? = some p := by
  show (g.ob ++ [p])[t.length]? = _
  rw [← s.len, List.getElem?_append_right (Nat.le_refl _), Nat.sub_self]; rfl
end

section
variable {X : Cx} {c : Cn} {en : En} {pos : Pos} {a b : Expr} {fa fb : Env → T → R D}

/-! ### and, or, not, if as values; tests -/
theorem snd_and1 {op : BoolOp} (ha : PE X a (tE c en false fa)) : PE X (.BoolOp op [a] pos) (tE c en false fa) := pe_one ha
theorem snd_and {rest : List Expr} (hK : c.K = X.K) (ha : PE X a (tE c en false fa)) (hb : PE X (.BoolOp .And (b :: rest) pos) (tE c en false fb)) :
    PE X (.BoolOp .And (a :: b :: rest) pos) (tE c en false fun ρ t => bnd (fa ρ t) fun x t => bnd (ofO (truthD t x) t) fun k t => if k then fb ρ t else .ok x t) := (pe_andT ha hb).imp fun σ H Q h => by
  obtain ⟨ρ, t, g, s, r⟩ := h
  refine ⟨ρ, t, g, s, (run_bnd r).mono fun x t1 r1 => ?_⟩
  rw [KF.fls]
  intro v1 g1 H1 st1 s1 rp1
  obtain ⟨k, e, r2⟩ := run_ofO (run_bnd r1)
  refine ⟨k, tru_of hK s1 (Rep.peek s1 rp1) e, ?_⟩
  cases k with
  | true => exact ⟨ρ, t1, g1, s.step st1 s1, r2.mono fun d t2 k => KF.after st1 k⟩
  | false =>
    have k : KF false c g H t1 x Q := r2
    rw [KF.fls] at k
    exact k v1 g1 H1 st1 s1 rp1
theorem snd_or {rest : List Expr} (hK : c.K = X.K) (ha : PE X a (tE c en false fa)) (hb : PE X (.BoolOp .Or (b :: rest) pos) (tE c en false fb)) :
    PE X (.BoolOp .Or (a :: b :: rest) pos) (tE c en false fun ρ t => bnd (fa ρ t) fun x t => bnd (ofO (truthD t x) t) fun k t => if k then .ok x t else fb ρ t) := (pe_orT ha hb).imp fun σ H Q h => by
  obtain ⟨ρ, t, g, s, r⟩ := h
  refine ⟨ρ, t, g, s, (run_bnd r).mono fun x t1 r1 => ?_⟩
  rw [KF.fls]
  intro v1 g1 H1 st1 s1 rp1
  obtain ⟨k, e, r2⟩ := run_ofO (run_bnd r1)
  refine ⟨k, tru_of hK s1 (Rep.peek s1 rp1) e, ?_⟩
  cases k with
  | false => exact ⟨ρ, t1, g1, s.step st1 s1, r2.mono fun d t2 k => KF.after st1 k⟩
  | true =>
    have k : KF false c g H t1 x Q := r2
    rw [KF.fls] at k
    exact k v1 g1 H1 st1 s1 rp1
section
variable {ft fu : Env → T → R Bool}
theorem snd_tru (hK : c.K = X.K) (ha : PE X a (tO c en fa)) (he : ∀ whole, isTrue a X.env whole = (do let v ← whole; standAt a.pos; holding [v] (truthy v))) :
    PT X a (tT c en fun ρ t => bnd (fa ρ t) fun x t => ofO (truthD t x) t) := (pt_truth ha he).imp fun σ H Q h => by
  obtain ⟨ρ, t, g, s, r⟩ := h
  refine ⟨ρ, t, g, s, (run_bnd r).mono fun x t1 r1 v1 g1 H1 st1 s1 rp1 => ?_⟩
  obtain ⟨k, e, q⟩ := run_ofO r1
  exact ⟨k, tru_of hK s1 rp1 e, q g1 H1 st1 s1⟩
theorem snd_tnot (ha : PT X a (tT c en ft)) : PT X (.UnaryOp .Not a pos) (tT c en fun ρ t => bnd (ft ρ t) fun k t => .ok (!k) t) := (pt_not ha).imp fun σ H Q h => by
  obtain ⟨ρ, t, g, s, r⟩ := h
  exact ⟨ρ, t, g, s, (run_bnd r).mono fun k t1 r1 => r1⟩
theorem snd_tand1 (ha : PT X a (tT c en ft)) : PW X (.BoolOp .And [a] pos) (tT c en fun ρ t => bnd (ft ρ t) fun k t => if k then .ok true t else .ok false t) := (pw_and1 ha).imp fun σ H Q h => by
  obtain ⟨ρ, t, g, s, r⟩ := h
  exact ⟨ρ, t, g, s, (run_bnd r).mono fun k t1 r1 => by cases k <;> exact r1⟩
theorem snd_tor1 (ha : PT X a (tT c en ft)) : PW X (.BoolOp .Or [a] pos) (tT c en fun ρ t => bnd (ft ρ t) fun k t => if k then .ok true t else .ok false t) := (pw_or1 ha).imp fun σ H Q h => by
  obtain ⟨ρ, t, g, s, r⟩ := h
  exact ⟨ρ, t, g, s, (run_bnd r).mono fun k t1 r1 => by cases k <;> exact r1⟩
theorem snd_tand {rest : List Expr} (ha : PT X a (tT c en ft)) (hb : PW X (.BoolOp .And (b :: rest) pos) (tT c en fu)) :
    PW X (.BoolOp .And (a :: b :: rest) pos) (tT c en fun ρ t => bnd (ft ρ t) fun k t => if k then fu ρ t else .ok false t) := (pw_and ha hb).imp fun σ H Q h => by
  obtain ⟨ρ, t, g, s, r⟩ := h
  refine ⟨ρ, t, g, s, (run_bnd r).mono fun k t1 r1 g1 H1 st1 s1 => ?_⟩
  cases k with
  | true => exact ⟨ρ, t1, g1, s.step st1 s1, r1.mono fun d t2 k => KT.after st1 k⟩
  | false => exact (show KT c g H t1 false Q from r1) g1 H1 st1 s1
theorem snd_tor {rest : List Expr} (ha : PT X a (tT c en ft)) (hb : PW X (.BoolOp .Or (b :: rest) pos) (tT c en fu)) :
    PW X (.BoolOp .Or (a :: b :: rest) pos) (tT c en fun ρ t => bnd (ft ρ t) fun k t => if k then .ok true t else fu ρ t) := (pw_or ha hb).imp fun σ H Q h => by
  obtain ⟨ρ, t, g, s, r⟩ := h
  refine ⟨ρ, t, g, s, (run_bnd r).mono fun k t1 r1 g1 H1 st1 s1 => ?_⟩
  cases k with
  | false => exact ⟨ρ, t1, g1, s.step st1 s1, r1.mono fun d t2 k => KT.after st1 k⟩
  | true => exact (show KT c g H t1 true Q from r1) g1 H1 st1 s1
theorem snd_ife {d : Expr} (hc : PT X d (tT c en ft)) (ha : PE X a (tE c en false fa)) (hb : PE X b (tE c en false fb)) :
    PE X (.IfExp d a b pos) (tE c en false fun ρ t => bnd (ft ρ t) fun k t => if k then fa ρ t else fb ρ t) := (pe_ifExp hc ha hb).imp fun σ H Q h => by
  obtain ⟨ρ, t, g, s, r⟩ := h
  refine ⟨ρ, t, g, s, (run_bnd r).mono fun k t1 r1 g1 H1 st1 s1 => ?_⟩
  cases k with
  | true => exact ⟨ρ, t1, g1, s.step st1 s1, r1.mono fun d t2 k => KF.after st1 k⟩
  | false => exact ⟨ρ, t1, g1, s.step st1 s1, r1.mono fun d t2 k => KF.after st1 k⟩
end

/-! ### argument lists, displays -/
theorem snd_nil : PA X [] (tAs c en fun _ t => .ok [] t) := pa_nil.imp fun σ H Q h => by
  obtain ⟨ρ, t, g, s, r⟩ := h
  exact (show KA c g H t [] Q from r) [] g H Step.refl s.st rfl
theorem snd_cons {es : List Expr} {fs : Env → T → R (List D)} (ha : PE X a (tE c en false fa)) (hr : PA X es (tAs c en fs)) (hs : starEach (a :: es) X.env = (false, eval a X.env) :: starEach es X.env) :
    PA X (a :: es) (tAs c en fun ρ t => bnd (fa ρ t) fun x t => bnd (fs ρ t) fun xs t => .ok (x :: xs) t) := (pa_cons ha hr hs).imp fun σ H Q h => by
  obtain ⟨ρ, t, g, s, r⟩ := h
  refine ⟨ρ, t, g, s, (run_bnd r).mono fun x t1 r1 => ?_⟩
  rw [KF.fls]
  intro v1 g1 H1 st1 s1 rp1
  refine ⟨ρ, t1, g1, s.step st1 s1, (run_bnd r1).mono fun xs t2 r2 vs g2 H2 st2 s2 rp2 => ?_⟩
  exact (show KA c g H t2 (x :: xs) Q from r2) (v1 :: vs) g2 H2 (st1.trans st2) s2 ⟨v1, vs, rfl, Rep.mono (st2.mo s1) x v1 rp1, rp2⟩
section
variable {es : List Expr} {fs : Env → T → R (List D)}
/-- the display has no more than sz items: told by the number of expressions -/
theorem snd_tup {k : Nat} (ha : PA X es (tAs c en fs)) (hz : ∀ ρ t xs t', fs ρ t = .ok xs t' → xs.length ≤ sz) :
    PE X (.Tuple es k pos) (tE c en false fun ρ t => bnd (fs ρ t) fun xs t => .ok (.tup xs) t) := (pe_tup ha).imp fun σ H Q h => by
  obtain ⟨ρ, t, g, s, r⟩ := h
  refine ⟨ρ, t, g, s, ?_⟩
  have r := run_bnd r
  cases hf : fs ρ t with
  | ok xs t1 =>
    rw [hf] at r
    have k : KF false c g H t1 (.tup xs) Q := r
    rw [KF.fls] at k
    intro vs g1 H1 st1 s1 rp1
    have l := hz ρ t xs t1 hf
    exact ⟨by rw [Reps.length rp1, szL]; exact l, KD.tup (KD.after st1 k) s1 rp1 l⟩
  | ex _ _ _ => rw [hf] at r; exact r.elim
  | no => rw [hf] at r; exact r.elim
end
end
end Pd
set_option Elab.async false
set_option linter.all false
set_option maxRecDepth 100000
set_option autoImplicit false
namespace Pd
open PySem PySem.Spec PyProof.Rows L2 TL Bits

section
variable {X : Cx} {c : Cn} {en : En} {pos : Pos} {a b : Expr} {fa fb : Env → T → R D} {es : List Expr} {fs : Env → T → R (List D)}

/-! ### displays -/
theorem run_ok {α : Type} {r : R α} {k : α → T → Prop} (h : run r k) : ∃ x t, r = .ok x t ∧ k x t := by
  cases r with
  | ok x t => exact ⟨x, t, rfl, h⟩
  | ex _ _ _ => exact h.elim
  | no => exact h.elim
theorem snd_lst (ha : PA X es (tAs c en fs)) (hz : ∀ ρ t xs t', fs ρ t = .ok xs t' → xs.length ≤ sz) :
    PE X (.List es pos) (tE c en true fun ρ t => bnd (fs ρ t) fun xs t => .ok (.lst xs) t) := (pe_lst ha).imp fun σ H Q h => by
  obtain ⟨ρ, t, g, s, r⟩ := h
  refine ⟨ρ, t, g, s, ?_⟩
  obtain ⟨xs, t1, hf, r⟩ := run_ok (run_bnd r)
  rw [hf]
  have k : KL c g H t1 xs Q := r
  intro vs g1 H1 st1 s1 rp1
  have l := hz ρ t xs t1 hf
  exact ⟨by rw [Reps.length rp1, szL]; exact l, KL.lst (KL.after st1 k) s1 rp1 l⟩
theorem snd_newL (ha : PA X es (tAs c en fs)) (hz : ∀ ρ t xs t', fs ρ t = .ok xs t' → xs.length ≤ sz) :
    PE X (.List es pos) (tE c en false fun ρ t => bnd (fs ρ t) fun xs t => .ok (.obj t.length) (t ++ [.lst xs])) := (pe_lst ha).imp fun σ H Q h => by
  obtain ⟨ρ, t, g, s, r⟩ := h
  refine ⟨ρ, t, g, s, ?_⟩
  obtain ⟨xs, t1, hf, r⟩ := run_ok (run_bnd r)
  rw [hf]
  have k : KF false c g H (t1 ++ [.lst xs]) (.obj t1.length) Q := r
  rw [KF.fls] at k
  intro vs g1 H1 st1 s1 rp1
  have l := hz ρ t xs t1 hf
  refine ⟨by rw [Reps.length rp1, szL]; exact l, fun p hp => ?_⟩
  have st2 : Step g1 H1 (g1.obj p) (upd H1 p (.lst vs)) := Step.newOb hp
  exact k (.ref p) (g1.obj p) _ (st1.trans st2) (s1.newOb hp ⟨vs, upd_same, Reps.mono (st2.mo s1) xs vs rp1, l⟩) ⟨p, rfl, Gh.obj_at s1⟩
theorem snd_newD : PE X (.Dict [] [] pos) (tE c en false fun _ t => .ok (.obj t.length) (t ++ [.dct []])) := pe_dnewT.imp fun σ H Q h => by
  obtain ⟨ρ, t, g, s, r⟩ := h
  have k : KF false c g H (t ++ [.dct []]) (.obj t.length) Q := r
  rw [KF.fls] at k
  intro p hp
  have st2 : Step g H (g.obj p) (upd H p (.dT [])) := Step.newOb hp
  exact k (.ref p) (g.obj p) _ st2 (s.st.newOb hp (.inr ⟨[], upd_same, rfl, fun i k v q h => by simp at h⟩)) ⟨p, rfl, Gh.obj_at s.st⟩

/-! ### items, slices, isinstance, built-ins -/
theorem snd_ix (hK : c.K = X.K) (ha : PE X a (tO c en fa)) (hb : PE X b (tO c en fb)) (hp : PlainIx b) :
    PE X (.Subscript a b pos) (tE c en false fun ρ t => bnd (fa ρ t) fun x t => bnd (fb ρ t) fun y t => ofO (ixD t x y) t) := (pe_ix (op_ix hK) ha hb hp).imp fun σ H Q h => by
  obtain ⟨ρ, t, g, s, r⟩ := h
  refine ⟨ρ, t, g, s, (run_bnd r).mono fun x t1 r1 v1 g1 H1 st1 s1 rp1 => ⟨ρ, t1, g1, s.step st1 s1, (run_bnd r1).mono fun y t2 r2 v2 g2 H2 st2 s2 rp2 => ?_⟩⟩
  obtain ⟨d, e, k⟩ := run_ofO r2
  rw [KF.fls] at k
  exact ⟨g2, t2, x, y, d, s2, rp1.step s1 st2, rp2, e, KD.after (st1.trans st2) k⟩
/-- a part of a slice -/
def tPa (c : Cn) (en : En) (f : Env → T → R (Option Int)) : TO := fun σ H Q => ∃ ρ t g, SR c en g σ H ρ t ∧ run (f ρ t) fun o t' => ∀ g' H', Step g H g' H' → StH c g' H' t' → Q o H'
theorem _root_.L2.PO.imp {X : Cx} {e : Option Expr} {t t' : TO} (h : PO X e t) (k : ∀ σ H Q, t' σ H Q → t σ H Q) : PO X e t' := ⟨fun pins s σ H Q I q => h.run pins s σ H Q I (k σ H Q q)⟩
theorem snd_pnone : PO X none (tPa c en fun _ t => .ok none t) := po_none.imp fun σ H Q h => by
  obtain ⟨ρ, t, g, s, r⟩ := h
  exact (show ∀ g' H', Step g H g' H' → StH c g' H' t → Q none H' from r) g H Step.refl s.st
theorem snd_psome (ha : PE X a (tE c en false fa)) : PO X (some a) (tPa c en fun ρ t => bnd (fa ρ t) fun x t => match x with
    | .int i => .ok (some i) t
    | _ => .no) := (po_some ha).imp fun σ H Q h => by
  obtain ⟨ρ, t, g, s, r⟩ := h
  refine ⟨ρ, t, g, s, (run_bnd r).mono fun x t1 r1 => ?_⟩
  rw [KF.fls]
  intro v1 g1 H1 st1 s1 rp1
  cases x with
  | int i =>
    cases rp1
    exact ⟨i, rfl, (show ∀ g' H', Step g H g' H' → StH c g' H' t1 → Q (some i) H' from r1) g1 H1 st1 s1⟩
  | _ => exact r1.elim
theorem snd_sl {lo hi : Option Expr} {fl fh : Env → T → R (Option Int)} {p2 : Pos} (hK : c.K = X.K) (ha : PE X a (tO c en fa)) (hl : PO X lo (tPa c en fl)) (hh : PO X hi (tPa c en fh)) :
    PE X (.Subscript a (.Slice lo hi none p2) pos) (tE c en true fun ρ t => bnd (fa ρ t) fun x t => bnd (fl ρ t) fun l t => bnd (fh ρ t) fun h t => ofO (cutD l h x) t) := (pe_slice (op_sl hK) ha hl hh).imp fun σ H Q h => by
  obtain ⟨ρ, t, g, s, r⟩ := h
  refine ⟨ρ, t, g, s, (run_bnd r).mono fun x t1 r1 v1 g1 H1 st1 s1 rp1 => ⟨ρ, t1, g1, s.step st1 s1, (run_bnd r1).mono fun l t2 r2 g2 H2 st2 s2 => ⟨ρ, t2, g2, s.step (st1.trans st2) s2, (run_bnd r2).mono fun u t3 r3 g3 H3 st3 s3 => ?_⟩⟩⟩
  obtain ⟨d, e, k⟩ := run_ofO r3
  exact ⟨g3, t3, x, d, s3, rp1.step s1 (st2.trans st3), e, KF.after ((st1.trans st2).trans st3) k⟩
/-- f(e), f a built-in: ha is PA X [a] -/
theorem pa_one (ha : PE X a (tO c en fa)) (hs : starEach [a] X.env = (false, eval a X.env) :: starEach [] X.env) : PA X [a] (tCons (tO c en fa) tNil) := pa_cons ha pa_nil hs
theorem snd_b1 {bb : B1} {pe : Expr} (h : PE X pe (tCB (rB1 c bb) (tCons (tO c en fa) tNil))) : PE X pe (tE c en true fun ρ t => bnd (fa ρ t) fun x t => ofO (b1D t bb x) t) := h.imp fun σ H Q h => by
  obtain ⟨ρ, t, g, s, r⟩ := h
  refine ⟨ρ, t, g, s, (run_bnd r).mono fun x t1 r1 v1 g1 H1 st1 s1 rp1 => ?_⟩
  obtain ⟨d, e, k⟩ := run_ofO r1
  exact ⟨v1, g1, t1, x, d, rfl, s1, rp1, e, KF.after st1 k⟩
theorem snd_b2 {bb : B2} {pe : Expr} (h : PE X pe (tCB (rB2 c bb) (tCons (tO c en fa) (tCons (tO c en fb) tNil)))) : PE X pe (tE c en false fun ρ t => bnd (fa ρ t) fun x t => bnd (fb ρ t) fun y t => ofO (b2D bb x y) t) := h.imp fun σ H Q h => by
  obtain ⟨ρ, t, g, s, r⟩ := h
  refine ⟨ρ, t, g, s, (run_bnd r).mono fun x t1 r1 v1 g1 H1 st1 s1 rp1 => ⟨ρ, t1, g1, s.step st1 s1, (run_bnd r1).mono fun y t2 r2 v2 g2 H2 st2 s2 rp2 => ?_⟩⟩
  obtain ⟨d, e, k⟩ := run_ofO r2
  rw [KF.fls] at k
  exact ⟨v1, v2, g2, t2, x, y, d, rfl, s2, rp1.step s1 st2, rp2, e, KD.after (st1.trans st2) k⟩
theorem snd_isi1 {k : Ty} {n : String} {pe : Expr} (hn : tyN k = [n]) (h : PE X pe (tCB (rIs c k) (tCons (tO c en fa) (tCons (tC (.ty n)) tNil)))) : PE X pe (tE c en false fun ρ t => bnd (fa ρ t) fun x t => ofO ((isiD t k x).map .bl) t) := h.imp fun σ H Q h => by
  obtain ⟨ρ, t, g, s, r⟩ := h
  refine ⟨ρ, t, g, s, (run_bnd r).mono fun x t1 r1 v1 g1 H1 st1 s1 rp1 => ?_⟩
  obtain ⟨d, e, q⟩ := run_ofO r1
  obtain ⟨bb, e1, rfl⟩ := Option.map_eq_some_iff.mp e
  rw [KF.fls] at q
  refine ⟨v1, g1, t1, x, bb, ?_, s1, rp1, e1, KD.after st1 q⟩
  rw [hn]
theorem snd_isiR {pe : Expr} (h : PE X pe (tCB (rIs c .row) (tCons (tO c en fa) (tCons (tTup (tCons (tC (.ty "tuple")) (tCons (tC (.ty "list")) tNil))) tNil)))) : PE X pe (tE c en false fun ρ t => bnd (fa ρ t) fun x t => ofO ((isiD t .row x).map .bl) t) := h.imp fun σ H Q h => by
  obtain ⟨ρ, t, g, s, r⟩ := h
  refine ⟨ρ, t, g, s, (run_bnd r).mono fun x t1 r1 v1 g1 H1 st1 s1 rp1 => ?_⟩
  obtain ⟨d, e, q⟩ := run_ofO r1
  obtain ⟨bb, e1, rfl⟩ := Option.map_eq_some_iff.mp e
  rw [KF.fls] at q
  refine ⟨by show 2 ≤ (sizeLine : Nat); rw [szL]; unfold sz; omega, fun p hp => ?_⟩
  have st2 : Step g1 H1 g1 (upd H1 p (.tup [.ty "tuple", .ty "list"])) := Step.alloc hp
  exact ⟨v1, g1, t1, x, bb, ⟨p, rfl, upd_same⟩, s1.alloc hp, rp1.step s1 st2, e1, KD.after (st1.trans st2) q⟩

/-! ### ''.join -/
theorem sum_len (ss : List (List Nat)) : ((ss.map fun s => (⟨s.toArray⟩ : PySem.Str)).map (·.length)).sum = ss.flatten.length := by
  induction ss with
  | nil => rfl
  | cons s r ih =>
    rw [List.map_cons, List.map_cons, List.sum_cons, ih, str_len, List.flatten_cons, List.length_append]
theorem joinL_nil : ∀ ss : List (List Nat), joinL [] ss = ss.flatten
  | [] => rfl
  | [x] => by simp [joinL]
  | x :: y :: r => by
    have h := joinL_nil (y :: r)
    show x ++ ([] ++ joinL [] (y :: r)) = _
    rw [h, List.nil_append]
    rfl
theorem join_mk (ss : List (List Nat)) : Txt.join ⟨([] : List Nat).toArray⟩ (ss.map fun s => (⟨s.toArray⟩ : PySem.Str)) = ⟨ss.flatten.toArray⟩ := by
  refine ext_tl ?_
  rw [join_eq, tl_join, tl_mk, tl_mk]
  rw [List.map_map]
  have : (tl ∘ fun s : List Nat => (⟨s.toArray⟩ : PySem.Str)) = id := by funext s; exact tl_mk s
  rw [this, List.map_id, joinL_nil]
theorem snd_join {apos p0 : Pos} {j : Nat} {x0 : PySem.Str} (hx : x0 = ⟨([] : List Nat).toArray⟩) (hK : c.K = X.K) (ha : PE X a (tO c en fa)) (hs : starEach [a] X.env = [(false, eval a X.env)]) (hl : (apos.endLine == pos.line) = true) :
    PE X (.Call (.Attribute (.Constant (.str x0) j p0) "join" apos) [a] [] pos) (tE c en false fun ρ t => bnd (fa ρ t) fun x t => match seqs x with
    | some xs => ofO ((strsOf xs).bind fun ss => if ss.flatten.length ≤ sz then some (.str ss.flatten) else none) t
    | none => .no) := (pe_join pe_str ha hs rfl hl).imp fun σ H Q h => by
  subst hx
  obtain ⟨ρ, t, g, s, r⟩ := h
  refine ⟨⟨_, rfl⟩, ρ, t, g, s, (run_bnd r).mono fun x t1 r1 v1 g1 H1 st1 s1 rp1 => ?_⟩
  have fin : ∀ (p : Addr) (vs : List V) (ds : List D), (SqL X.K H1 p vs ∨ SqT X.K H1 p vs) → Reps c g1 H1 vs ds → run (ofO ((strsOf ds).bind fun ss => if ss.flatten.length ≤ sz then some (.str ss.flatten) else none) t1) (fun d t' => KF false c g H t' d Q) →
      ∃ (a : PySem.Str) (p' : Addr) (ys : List PySem.Str), V.str (⟨([] : List Nat).toArray⟩ : PySem.Str) = .str a ∧ [V.ref p] = [.ref p'] ∧ (SqL X.K H1 p' (ys.map V.str) ∨ SqT X.K H1 p' (ys.map V.str)) ∧ (ys.map (·.length)).sum + ys.length * a.length ≤ 16777216 ∧ Q (.str (Txt.join a ys)) H1 := fun p vs ds hq rr r2 => by
    obtain ⟨d, e, q⟩ := run_ofO r2
    obtain ⟨ss, e1, e2⟩ := Option.bind_eq_some_iff.mp e
    obtain ⟨h1, h2⟩ := Reps.strsOf rr e1
    by_cases hl : ss.flatten.length ≤ sz
    · rw [if_pos hl] at e2; cases e2
      rw [KF.fls] at q
      have e3 : vs = (ss.map fun s => (⟨s.toArray⟩ : PySem.Str)).map V.str := by rw [h1, List.map_map]; rfl
      rw [e3] at hq
      refine ⟨_, p, _, rfl, rfl, hq, ?_, ?_⟩
      · rw [sum_len, str_len]
        show _ + _ * 0 ≤ _
        rw [Nat.mul_zero, Nat.add_zero]; exact hl
      · rw [join_mk]
        refine q _ g1 H1 st1 s1 ⟨rfl, hl, fun x hx => ?_⟩
        obtain ⟨z, hz, hm⟩ := List.mem_flatten.mp hx
        exact (h2 z hz).2 x hm
    · rw [if_neg hl] at e2; cases e2
  cases x with
  | tup ds =>
    obtain ⟨p, vs, rfl, _, q, rr, l⟩ := rp1
    exact fin p vs ds (.inr (SqT.of q)) rr r1
  | lst ds =>
    obtain ⟨p, vs, rfl, _, q, rr, l⟩ := rp1
    exact fin p vs ds (.inl (SqL.of q)) rr r1
  | _ => exact r1.elim
end

/-! ### fields -/
theorem lookup_names {c : Cn} {g : Gh} {H : Hp} (inj : ∀ i j s, c.fnm i = some s → c.fnm j = some s → i = j) {f : Nat} {n0 : PySem.Str} (hf : c.fnm f = some n0) : ∀ {gs : List (PySem.Str × V)} {fs : List (Nat × D)}, gs.map (fun p => some p.1) = fs.map (fun p => c.fnm p.1) → Reps c g H (gs.map (·.2)) (fs.map (·.2)) → ∀ d, fs.lookup f = some d → ∃ v, gs.lookup n0 = some v ∧ Rep c g H v d
  | _, [], h, _, d, e => by cases e
  | [], _ :: _, h, _, _, _ => by simp at h
  | (n, v) :: gs, (k, d') :: fs, h, r, d, e => by
    simp only [List.map_cons, List.cons.injEq] at h
    obtain ⟨w, ws, e1, r1, r2⟩ := r
    simp only [List.map_cons, List.cons.injEq] at e1
    obtain ⟨rfl, rfl⟩ := e1
    rw [List.lookup_cons] at e ⊢
    by_cases hk : f = k
    · subst hk
      rw [beq_self_eq_true] at e
      cases e
      have e2 : n = n0 := by
        have := h.1.trans hf
        simpa using this
      subst e2
      rw [beq_self_eq_true]
      exact ⟨v, rfl, r1⟩
    · have n1 : (f == k) = false := by simpa using hk
      have n2 : (n0 == n) = false := by
        simp only [beq_eq_false_iff_ne, ne_eq]
        intro z
        subst z
        exact hk (inj _ _ _ hf h.1.symm)
      rw [n1] at e
      rw [n2]
      exact lookup_names inj hf h.2 r2 d e
theorem lookup_none {c : Cn} {m : PySem.Str} : ∀ {gs : List (PySem.Str × V)} {fs : List (Nat × D)}, gs.map (fun p => some p.1) = fs.map (fun p => c.fnm p.1) → (∀ i, c.fnm i ≠ some m) → gs.lookup m = none
  | [], _, _, _ => rfl
  | (n, v) :: gs, [], h, _ => by simp at h
  | (n, v) :: gs, (k, d) :: fs, h, hn => by
    simp only [List.map_cons, List.cons.injEq] at h
    rw [List.lookup_cons]
    have : (m == n) = false := by
      simp only [beq_eq_false_iff_ne, ne_eq]
      intro z
      subst z
      exact hn k h.1.symm
    rw [this]
    exact lookup_none h.2 hn
section
variable {X : Cx} {c : Cn} {en : En} {pos : Pos} {o : Expr} {fo : Env → T → R D}
/-- what is asked of the classes -/
structure ClsF (c : Cn) : Prop where
  inj : ∀ i j s, c.fnm i = some s → c.fnm j = some s → i = j
  cls : ∀ k C, c.ca k = some C → L2.Cls c.K C
  no : ∀ k C i s, c.ca k = some C → c.fnm i = some s → NoAttr c.K C s
theorem snd_fld {f : Nat} {n0 : PySem.Str} (F : ClsF c) (hf : c.fnm f = some n0) (hK : c.K = X.K) (ho : PE X o (tE c en false fo)) (hb : attributeBase o n0 X.env (eval o X.env) = eval o X.env) :
    PE X (.Attribute o n0 pos) (tE c en false fun ρ t => bnd (fo ρ t) fun x t => ofO (fldD t f x) t) := (pe_fld ho hb).imp fun σ H Q h => by
  obtain ⟨ρ, t, g, s, r⟩ := h
  refine ⟨ρ, t, g, s, (run_bnd r).mono fun x t1 r1 => ?_⟩
  rw [KF.fls]
  intro v1 g1 H1 st1 s1 rp1
  obtain ⟨d, e, k⟩ := run_ofO r1
  rw [KF.fls] at k
  cases x with
  | obj n =>
    cases ht : t1[n]? with
    | none => simp [fldD, ht] at e
    | some ob =>
      cases ob with
      | ins kc fs =>
        simp only [fldD, ht] at e
        obtain ⟨p, rfl, _, C, dx, gs, h1, h2, h3, h4⟩ := obj_at s1 rp1 ht
        obtain ⟨v, e1, e2⟩ := lookup_names F.inj hf h3 h4 d e
        exact ⟨p, C, dx, gs, v, rfl, h2, hK ▸ F.cls kc C h1, hK ▸ F.no kc C f _ h1 hf, e1, k v g1 H1 st1 s1 e2⟩
      | _ => simp [fldD, ht] at e
  | _ => simp [fldD] at e
end
end Pd
set_option Elab.async false
set_option linter.all false
set_option maxRecDepth 100000
set_option autoImplicit false
/-! Pd: how a call's arguments are bound: plain parameters, given by position or by name. -/
namespace Pd
open PySem PySem.Spec PyProof.Rows L2 TL Bits

theorem bind_loop {α : Type} {N : List PySem.Str} (f : PySem.Str × Value → (List (PySem.Str × Value) × α) → Sem (ForInStep (List (PySem.Str × Value) × α)))
    (hf : ∀ x s, x.1 ∈ N → s.1.lookup x.1 = none → f x s = pure (.yield (s.1 ++ [(x.1, x.2)], s.2))) :
    ∀ (kw : List (PySem.Str × Value)) (s : List (PySem.Str × Value) × α), (∀ x ∈ kw, x.1 ∈ N) → (∀ x ∈ kw, s.1.lookup x.1 = none) → (kw.map (·.1)).Nodup → forIn kw s f = pure (s.1 ++ kw, s.2)
  | [], s, _, _, _ => by rw [List.forIn_nil, List.append_nil]
  | x :: kw, s, h1, h2, h3 => by
    rw [List.forIn_cons, hf x s (h1 x List.mem_cons_self) (h2 x List.mem_cons_self)]
    show forIn kw (s.1 ++ [(x.1, x.2)], s.2) f = _
    rw [List.map_cons, List.nodup_cons] at h3
    rw [bind_loop f hf kw _ (fun y hy => h1 y (List.mem_cons_of_mem _ hy)) (fun y hy => ?_) h3.2]
    · rw [List.append_assoc]; rfl
    · show List.lookup y.1 (s.1 ++ [(x.1, x.2)]) = none
      have n : y.1 ≠ x.1 := fun e => h3.1 (e ▸ List.mem_map.mpr ⟨y, hy, rfl⟩)
      have q := h2 y (List.mem_cons_of_mem _ hy)
      generalize s.1 = l at q ⊢
      clear hf h1 h2
      induction l with
      | nil =>
        show List.lookup y.1 [(x.1, x.2)] = none
        rw [List.lookup_cons]
        have : (y.1 == x.1) = false := by simpa using n
        rw [this]; rfl
      | cons p l ih =>
        rw [List.cons_append, List.lookup_cons]
        rw [List.lookup_cons] at q
        cases e : y.1 == p.1 with
        | true => rw [e] at q; cases q
        | false => rw [e] at q; exact ih q
theorem lookup_app {β : Type} {n : PySem.Str} : ∀ (l m : List (PySem.Str × β)), (l ++ m).lookup n = (l.lookup n).or (m.lookup n)
  | [], m => by simp
  | p :: l, m => by
    rw [List.cons_append, List.lookup_cons, List.lookup_cons]
    cases n == p.1 with
    | true => rfl
    | false => exact lookup_app l m
theorem lookup_zip {β : Type} {n : PySem.Str} : ∀ {ns : List PySem.Str} {us : List β}, n ∈ ns → ns.length = us.length → ∃ u, (ns.zip us).lookup n = some u
  | [], _, h, _ => by cases h
  | _ :: _, [], _, e => by cases e
  | m :: ns, u :: us, h, e => by
    rw [List.zip_cons_cons, List.lookup_cons]
    cases hc : n == m with
    | true => exact ⟨u, rfl⟩
    | false =>
      have : n ∈ ns := by
        rcases List.mem_cons.mp h with rfl | h
        · rw [beq_self_eq_true] at hc; cases hc
        · exact h
      exact lookup_zip this (by simpa using e)
theorem lookup_no {β : Type} {n : PySem.Str} : ∀ {l : List (PySem.Str × β)}, n ∉ l.map (·.1) → l.lookup n = none
  | [], _ => rfl
  | p :: l, h => by
    rw [List.map_cons, List.mem_cons] at h
    rw [List.lookup_cons]
    have : (n == p.1) = false := by simpa using fun e => h (.inl e)
    rw [this]
    exact lookup_no fun q => h (.inr q)
theorem map_zip {β : Type} : ∀ {ns : List PySem.Str} {us : List β}, (ns.zip us).map (·.1) = ns.take us.length
  | [], us => by simp
  | n :: ns, [] => by simp
  | n :: ns, u :: us => by simp [map_zip]
/-- the values of the names N, by position and by name -/
def putIn {β : Type} (d : β) (N ks : List PySem.Str) (us ws : List β) : List β := N.map fun n => ((N.zip us ++ ks.zip ws).lookup n).getD d
/-- the names that are given by name are those that lack -/
def KwOk (N ks : List PySem.Str) (n : Nat) : Prop := N.Nodup ∧ ks.Nodup ∧ (∀ k ∈ ks, k ∈ N.drop n) ∧ ∀ k ∈ N.drop n, k ∈ ks
theorem seqItems_none : seqItems? Value.none = pure none := rfl
theorem filterMap_zip {N : List PySem.Str} {s : List (PySem.Str × Value)} (h : ∀ n ∈ N, ∃ u, s.lookup n = some u) : N.filterMap (fun n => (s.lookup n).map (n, ·)) = N.zip (N.map fun n => (s.lookup n).getD .none) := by
  induction N with
  | nil => rfl
  | cons n N ih =>
    obtain ⟨u, e⟩ := h n List.mem_cons_self
    rw [List.filterMap_cons, e, List.map_cons, List.zip_cons_cons, e, ih fun m hm => h m (List.mem_cons_of_mem _ hm)]
    rfl
theorem bind_kw {name qual : PySem.Str} {ps : List PySem.Arg} {body : List Stmt} {scope : Scope} {kV doc pm cdv ct : Value} {an : Option Addr} (us ws : List Value) (ks : List PySem.Str)
    (ok : KwOk (ps.map (·.arg)) ks us.length) (h1 : us.length ≤ ps.length) (h2 : ks.length = ws.length) :
    bindArgs (PySem.W.fnOf name qual { posonlyargs := [], args := ps, vararg := none, kwonlyargs := [], kw_defaults := [], kwarg := none, defaults := [] } body scope .none kV doc pm an cdv ct) ⟨us, ks.zip ws⟩ =
      pure ((ps.map (·.arg)).zip (putIn .none (ps.map (·.arg)) ks us ws)) := by
  obtain ⟨nd, ndk, hk, hk2⟩ := ok
  have some_ : ∀ n ∈ ps.map (·.arg), ∃ u, ((ps.map (·.arg)).zip us ++ ks.zip ws).lookup n = some u := fun n hn => by
    rw [lookup_app]
    cases e : ((ps.map (·.arg)).zip us).lookup n with
    | some u => exact ⟨u, rfl⟩
    | none =>
      have : n ∈ ks := by
        refine hk2 n ?_
        by_cases hd : n ∈ (ps.map (·.arg)).drop us.length
        · exact hd
        · have ht : n ∈ (ps.map (·.arg)).take us.length := by
            rw [← List.take_append_drop us.length (ps.map (·.arg))] at hn
            exact (List.mem_append.mp hn).resolve_right hd
          have hz : (ps.map (·.arg)).zip us = ((ps.map (·.arg)).take us.length).zip us := by
            conv => lhs; rw [← List.take_append_drop us.length (ps.map (·.arg))]
            rw [show us = us ++ [] by simp]
            rw [List.zip_append (by rw [List.length_take, List.length_map]; simp; omega)]
            simp
          obtain ⟨u, q⟩ := lookup_zip (us := us) ht (by rw [List.length_take, List.length_map]; omega)
          rw [hz, q] at e; cases e
      obtain ⟨u, q⟩ := lookup_zip this h2
      exact ⟨u, by rw [q]; rfl⟩
  unfold bindArgs
  simp only [PySem.W.fnOf, List.map_nil, List.nil_append]
  rw [bind_loop (N := ps.map (·.arg)) _ (fun x s hx hs => ?_) (ks.zip ws) _ (fun x hx => List.mem_of_mem_drop (hk x.1 (List.of_mem_zip hx).1)) (fun x hx => lookup_no ?_) ?_]
  · rw [pure_bind, seqItems_none, pure_bind]
    simp only [Option.getD_none, List.drop_nil, List.length_nil, Nat.zero_sub, Nat.sub_zero, List.append_nil]
    have g1 : (decide (us.length > (ps.map (·.arg)).length) && (none : Option PySem.Arg).isNone) = false := by
      rw [List.length_map]; simp; omega
    simp only [g1, Bool.false_eq_true, if_false]
    have g2 : (List.filter (fun n => (List.lookup n ((ps.map (·.arg)).zip us ++ ks.zip ws)).isNone) (List.take (ps.map (·.arg)).length (ps.map (·.arg)))) = [] := by
      rw [List.filter_eq_nil_iff]
      intro n hn
      obtain ⟨u, e⟩ := some_ n (List.mem_of_mem_take hn)
      rw [e]; simp
    simp only [g2, List.isEmpty_nil, Bool.not_true, Bool.false_eq_true, if_false, List.zip_nil_right, List.forIn_nil, pure_bind, List.append_nil]
    rw [filterMap_zip some_]
    rfl
  · rw [map_zip, ← h2, List.take_length]; exact ndk
  · rw [if_pos (by simpa using hx), hs]
    rfl
  · rw [map_zip]
    intro hm
    have h3 := hk x.1 (List.of_mem_zip hx).1
    have nd2 := nd
    rw [← List.take_append_drop us.length (ps.map (·.arg))] at nd2
    exact (List.nodup_append.mp nd2).2.2 x.1 hm x.1 h3 rfl
end Pd
set_option Elab.async false
set_option linter.all false
set_option maxRecDepth 100000
set_option autoImplicit false
/-! Pd: calls of the text's own defs, methods, classes. -/
namespace Pd
open PySem PySem.Spec PyProof.Rows L2 TL Bits

abbrev nm (s : String) : PySem.Str := PySem.Str.ofString s

/-- a def's promise: it does what sem does -/
def spF (c : Cn) (sem : List D → T → R D) (np : Nat) : Sp := fun vs H Q _ => ∃ g t ds, StH c g H t ∧ Reps c g H vs ds ∧ ds.length = np ∧ run (sem ds t) fun d t' => KD c g H t' d Q

/-- plain parameters -/
def Plain (fd : FuncData) (ps : List PySem.Str) : Prop := ∃ (name qual : PySem.Str) (as : List PySem.Arg) (body : List Stmt) (scope : Scope) (kV doc pm cdv ct : Value) (an : Option Addr),
  fd = PySem.W.fnOf name qual { posonlyargs := [], args := as, vararg := none, kwonlyargs := [], kw_defaults := [], kwarg := none, defaults := [] } body scope .none kV doc pm an cdv ct ∧ ps = as.map (·.arg) ∧ ps.Nodup
/-- values given by name: the one of the i-th lacking parameter stands at pm i -/
def PmOk (N ks : List PySem.Str) (n : Nat) (pm : List Nat) : Prop := N.Nodup ∧ ks.Nodup ∧ n + pm.length = N.length ∧ ks.length = pm.length ∧ (∀ k, k < pm.length → k ∈ pm) ∧ ∀ i k, pm[i]? = some k → ∃ x, N[n + i]? = some x ∧ ks[k]? = some x
theorem lookup_zip_at {β : Type} {n : PySem.Str} : ∀ {ns : List PySem.Str} {us : List β} {k : Nat}, ns.Nodup → ns[k]? = some n → (ns.zip us).lookup n = us[k]?
  | [], _, _, _, h => by simp at h
  | m :: ns, [], k, _, _ => by simp
  | m :: ns, u :: us, 0, _, h => by
    simp at h
    simp [List.lookup_cons, h]
  | m :: ns, u :: us, k + 1, nd, h => by
    rw [List.nodup_cons] at nd
    have h' : ns[k]? = some n := by simpa using h
    have : (n == m) = false := by simpa using fun e : n = m => nd.1 (e ▸ List.mem_of_getElem? h')
    rw [List.zip_cons_cons, List.lookup_cons, this]
    rw [lookup_zip_at nd.2 h']
    simp
theorem putIn_pm {β : Type} (d : β) {N ks : List PySem.Str} {us ws : List β} {pm : List Nat} (ok : PmOk N ks us.length pm) : putIn d N ks us ws = us ++ pm.map fun k => ws.getD k d := by
  obtain ⟨nd, ndk, hl, hkl, ndp, h⟩ := ok
  apply List.ext_getElem?
  intro i
  unfold putIn
  rw [List.getElem?_map]
  by_cases hi : i < us.length
  · have hN : i < N.length := by omega
    rw [List.getElem?_eq_getElem hN, List.getElem?_append_left hi]
    show some (((N.zip us ++ ks.zip ws).lookup N[i]).getD d) = _
    rw [lookup_app, lookup_zip_at nd (List.getElem?_eq_getElem hN), List.getElem?_eq_getElem hi]
    rfl
  · rw [List.getElem?_append_right (by omega), List.getElem?_map]
    cases hp : pm[i - us.length]? with
    | none =>
      have : pm.length ≤ i - us.length := List.getElem?_eq_none_iff.mp hp
      rw [List.getElem?_eq_none (by omega)]; rfl
    | some k =>
      obtain ⟨x, h1, h2⟩ := h _ k hp
      rw [show us.length + (i - us.length) = i by omega] at h1
      rw [h1]
      show some _ = some _
      congr 1
      show (((N.zip us ++ ks.zip ws).lookup x).getD d) = ws.getD k d
      rw [lookup_app, lookup_zip_at nd h1, List.getElem?_eq_none (by omega)]
      show ((ks.zip ws).lookup x).getD d = _
      rw [lookup_zip_at ndk h2]
      rfl
theorem Plain.binds {K : PySem.W.Frag} {fd : FuncData} {ps : List PySem.Str} (p : Plain fd ps) : Binds K fd ps [] := by
  obtain ⟨name, qual, as, body, scope, kV, doc, pm, cdv, ct, an, rfl, rfl, nd⟩ := p
  refine .all fun us h => ?_
  have q := bind_kw (name := name) (qual := qual) (ps := as) (body := body) (scope := scope) (kV := kV) (doc := doc) (pm := pm) (cdv := cdv) (ct := ct) (an := an) us [] [] ⟨nd, List.nodup_nil, fun k hk => absurd hk (by simp), fun k hk => ?_⟩ (by rw [h, List.length_map]; exact Nat.le_refl _) rfl
  · rw [putIn_pm (pm := []) Value.none ⟨nd, List.nodup_nil, by simpa using h, rfl, fun k hk => absurd hk (by simp), fun i k hk => absurd hk (by simp)⟩] at q
    rw [List.map_nil, List.append_nil] at q
    exact q
  · rw [h, List.drop_length] at hk; cases hk
theorem Vals.getD {vs : List V} {us : List Value} (r : Vals vs us) (k : Nat) : L2.RelV (vs.getD k .non) (us.getD k .none) := by
  cases e : vs[k]? with
  | none =>
    have e2 := r.none_of e
    rw [List.getD_eq_getElem?_getD, List.getD_eq_getElem?_getD, e, e2]; exact rfl
  | some v =>
    obtain ⟨u, e2, q⟩ := r.get e
    rw [List.getD_eq_getElem?_getD, List.getD_eq_getElem?_getD, e, e2]; exact q
theorem Vals.pick {vs : List V} {us : List Value} (r : Vals vs us) : ∀ pm : List Nat, Vals (pm.map fun k => vs.getD k .non) (pm.map fun k => us.getD k .none)
  | [] => .nil
  | k :: pm => .cons (Vals.getD r k) (Vals.pick r pm)
theorem Plain.kbinds {fd : FuncData} {N ks : List PySem.Str} {n : Nat} {pm : List Nat} (p : Plain fd N) (ok : PmOk N ks n pm) {s : Shared} {us ws : List Value} (hu : us.length = n) (hw : ks.length = ws.length) :
    BindsTo s fd ⟨us, ks.zip ws⟩ (N.zip (us ++ pm.map fun k => ws.getD k .none)) := by
  obtain ⟨name, qual, as, body, scope, kV, doc, pmm, cdv, ct, an, rfl, rfl, nd⟩ := p
  subst hu
  rw [← putIn_pm .none ok]
  have okc := ok
  obtain ⟨nd', ndk, hl, hkl, ndp, h⟩ := okc
  refine .of_eq (bind_kw us ws ks ⟨nd, ndk, fun k hk => ?_, fun k hk => ?_⟩ (by rw [List.length_map] at hl; omega) hw)
  · -- every name given is one that lacks
    obtain ⟨j, hj⟩ := List.getElem?_of_mem hk
    have hjl : j < pm.length := by rw [← hkl]; exact (List.getElem?_eq_some_iff.mp hj).1
    obtain ⟨i, hi⟩ := List.getElem?_of_mem (ndp j hjl)
    obtain ⟨x, h1, h2⟩ := h i j hi
    rw [hj] at h2; cases h2
    have : ((as.map (·.arg)).drop us.length)[i]? = some k := by rw [List.getElem?_drop]; exact h1
    exact List.mem_of_getElem? this
  · obtain ⟨i, hi⟩ := List.getElem?_of_mem hk
    rw [List.getElem?_drop] at hi
    have hil : i < pm.length := by
      have := (List.getElem?_eq_some_iff.mp hi).1
      omega
    obtain ⟨x, h1, h2⟩ := h i _ (List.getElem?_eq_getElem hil)
    rw [hi] at h1; cases h1
    exact List.mem_of_getElem? h2

structure FnAt (c : Cn) (P : Program) (w : World) (mg : PySem.Str → Option Value) (base : Heap) (lv : Nat) (F : Fn) (sem : List D → T → R D) : Prop where
  ex : ∃ (f : Addr) (fd : FuncData) (ps : List PySem.Str), FnOk P w c.K mg base CX0 lv f fd ps (spF c sem F.np) ∧ PySem.W.keepIn c.K (.ref f) = true ∧ Plain fd ps ∧ ps = (F.N.take F.np).map nm ∧ (∃ oc od osl, c.K.lookup f = some ⟨oc, od, .func fd, osl⟩) ∧
    (match F.cls with
    | none => mg (nm F.name) = some (.ref f)
    | some k => ∃ C, c.ca k = some C ∧ Meth c.K C (nm F.name) f)
structure ClsAt (c : Cn) (mg : PySem.Str → Option Value) (k : Nat) (C : Cls) : Prop where
  ex : ∃ Ca, c.ca k = some Ca ∧ mg (nm C.name) = some (.ref Ca) ∧ PySem.W.makesIn c.K Ca = true ∧ PySem.W.keepIn c.K (.ref Ca) = true

section
variable {X : Cx} {c : Cn} {en : En} {pos p apos : Pos} {es : List Expr} {fs : Env → T → R (List D)} {F : Fn} {sem : List D → T → R D} {lv : Nat} {e o : Expr}
theorem tCall_of {sp : Sp} {t : TA} {σ : L2.St} {H : Hp} {Q : VK} {E : XK} (h : t σ H fun vs H1 => sp (vs ++ []) H1 Q E) : tCall sp [] E t σ H Q := h
theorem snd_call0 (hK : c.K = X.K) (A : FnAt c X.prog X.w X.mg X.base lv F sem) (hr : Room lv X.A) (hc : F.cls = none) (hg : Gl X (nm F.name)) (har : ∀ ds t d t', sem ds t = .ok d t' → ds.length = F.np) (hdb : (nm F.name == ("__debug__" : PySem.Str)) = false) :
    PE X (.Call (.Name (nm F.name) p) [] [] pos) (tE c en false fun ρ t => bnd (.ok [] t) fun xs t => sem xs t) := by
  obtain ⟨f, fd, ps, G, kp, pl, hps, _, hm⟩ := A.ex
  rw [hc] at hm
  rw [hK] at G kp
  refine (pe_call0 (E := fun _ _ _ => False) G hr hg hm kp pl.binds .nil pass0 hdb).imp fun σ H Q h => ?_
  obtain ⟨ρ, t, g, s, r⟩ := h
  obtain ⟨d, t1, e1, k⟩ := run_ok r
  rw [KF.fls] at k
  refine ⟨g, t, [], s.st, rfl, har _ _ _ _ e1, ?_⟩
  have e1 : sem [] t = .ok d t1 := e1
  rw [e1]; exact k
theorem snd_call (hK : c.K = X.K) (A : FnAt c X.prog X.w X.mg X.base lv F sem) (hr : Room lv X.A) (hc : F.cls = none) (hg : Gl X (nm F.name)) (har : ∀ ds t d t', sem ds t = .ok d t' → ds.length = F.np) (hdb : (nm F.name == ("__debug__" : PySem.Str)) = false)
    (ha : PA X (e :: es) (tAs c en fs)) (he : starEach (e :: es) X.env = (false, eval e X.env) :: starEach es X.env) (hpl : (backTo pos (starEach es X.env)).any (·.1) = false) :
    PE X (.Call (.Name (nm F.name) p) (e :: es) [] pos) (tE c en false fun ρ t => bnd (fs ρ t) fun xs t => sem xs t) := by
  obtain ⟨f, fd, ps, G, kp, pl, hps, _, hm⟩ := A.ex
  rw [hc] at hm
  rw [hK] at G kp
  refine (pe_call (E := fun _ _ _ => False) G hr hg hm kp pl.binds .nil pass0 ha hdb he hpl).imp fun σ H Q h => ?_
  obtain ⟨ρ, t, g, s, r⟩ := h
  refine ⟨ρ, t, g, s, (run_bnd r).mono fun xs t1 r1 vs g1 H1 st1 s1 rp1 => ?_⟩
  obtain ⟨d, t2, e1, k⟩ := run_ok r1
  rw [KF.fls] at k
  refine ⟨g1, t1, xs, s1, by rw [List.append_nil]; exact rp1, har _ _ _ _ e1, ?_⟩
  rw [e1]; exact KD.after st1 k

theorem mcall_form {o : Expr} {m : PySem.Str} {apos pos : Pos} {args : List Expr} {env : PySem.Env} (hb : attributeBase o m env (eval o env) = eval o env) (hf : methodCallForm (args.length + ([] : List Keyword).length) (backTo pos (starEach args env)) (backToKw pos (keywordEach [] env)) = true) (hl : (apos.endLine == pos.line) = true) :
    eval (.Call (.Attribute o m apos) args [] pos) env = (do
      let ov ← eval o env
      standAt apos.atName
      let (f, first) ← holding [ov] (getMethod ov m (plainOf o env))
      callWith pos f first (backTo pos (starEach args env)) (backToKw pos (keywordEach [] env))) := by
  show (do
    let ov ← attributeBase o m env (eval o env)
    standAt apos.atName
    methodCall o m apos pos env ov (args.length + ([] : List Keyword).length) (backTo pos (starEach args env)) (backToKw pos (keywordEach [] env))) = _
  rw [hb]
  congr 1; funext ov
  congr 1; funext _
  rw [mcall_line hf hl]
theorem snd_mth0 {fo : Env → T → R D} {kc : Nat} (F0 : ClsF c) (hK : c.K = X.K) (A : FnAt c X.prog X.w X.mg X.base lv F sem) (hr : Room lv X.A) (hc : F.cls = some kc) (har : ∀ ds t d t', sem ds t = .ok d t' → ds.length = F.np) (hno : ∀ i, c.fnm i ≠ some (nm F.name))
    (ho : PE X o (tE c en false fo)) (hb : attributeBase o (nm F.name) X.env (eval o X.env) = eval o X.env) (hl : (apos.endLine == pos.line) = true) :
    PE X (.Call (.Attribute o (nm F.name) apos) [] [] pos) (tE c en false fun ρ t => bnd (fo ρ t) fun x t => if isIns t kc x then bnd (.ok [] t) fun xs t => sem (x :: xs) t else .no) := by
  obtain ⟨f, fd, ps, G, kp, pl, hps, _, hm⟩ := A.ex
  rw [hc] at hm
  obtain ⟨C, hC, hme⟩ := hm
  have hcl := F0.cls kc C hC
  rw [hK] at G kp hme hcl
  refine (pe_meth0 (E := fun _ _ _ => False) (pl := plainOf o X.env) ho hcl hme G hr pl.binds .nil pass0 (mcall_form hb rfl hl)).imp fun σ H Q h => ?_
  obtain ⟨ρ, t, g, s, r⟩ := h
  refine ⟨ρ, t, g, s, (run_bnd r).mono fun x t1 r1 => ?_⟩
  rw [KF.fls]
  intro v1 g1 H1 st1 s1 rp1
  by_cases hi : isIns t1 kc x = true
  · rw [if_pos hi] at r1
    cases x with
    | obj n =>
      cases ht : t1[n]? with
      | none => simp [isIns, ht] at hi
      | some ob =>
        cases ob with
        | ins k fs =>
          simp only [isIns, ht, beq_iff_eq] at hi
          subst hi
          obtain ⟨q, rfl, _, C', dx, gs, h1, h2, h3, h4⟩ := obj_at s1 rp1 ht
          rw [hC] at h1; cases h1
          refine ⟨q, dx, gs, rfl, h2, lookup_none h3 hno, ?_⟩
          obtain ⟨d, t2, e1, k2⟩ := run_ok r1
          have e1 : sem [.obj n] t1 = .ok d t2 := e1
          rw [KF.fls] at k2
          refine ⟨g1, t1, [.obj n], s1, ⟨.ref q, [], rfl, rp1, rfl⟩, har _ _ _ _ e1, ?_⟩
          rw [e1]; exact KD.after st1 k2
        | _ => simp [isIns, ht] at hi
    | _ => simp [isIns] at hi
  · rw [if_neg hi] at r1; exact r1.elim
theorem snd_mth {fo : Env → T → R D} {kc : Nat} (F0 : ClsF c) (hK : c.K = X.K) (A : FnAt c X.prog X.w X.mg X.base lv F sem) (hr : Room lv X.A) (hc : F.cls = some kc) (har : ∀ ds t d t', sem ds t = .ok d t' → ds.length = F.np) (hno : ∀ i, c.fnm i ≠ some (nm F.name))
    (ho : PE X o (tE c en false fo)) (hb : attributeBase o (nm F.name) X.env (eval o X.env) = eval o X.env) (hl : (apos.endLine == pos.line) = true)
    (ha : PA X (e :: es) (tAs c en fs)) (hst : starEach (e :: es) X.env = (false, eval e X.env) :: starEach es X.env) (hpl : (backTo pos (starEach es X.env)).any (·.1) = false) (hf : methodCallForm ((e :: es).length + ([] : List Keyword).length) (backTo pos (starEach (e :: es) X.env)) (backToKw pos (keywordEach [] X.env)) = true) :
    PE X (.Call (.Attribute o (nm F.name) apos) (e :: es) [] pos) (tE c en false fun ρ t => bnd (fo ρ t) fun x t => if isIns t kc x then bnd (fs ρ t) fun xs t => sem (x :: xs) t else .no) := by
  obtain ⟨f, fd, ps, G, kp, pl, hps, _, hm⟩ := A.ex
  rw [hc] at hm
  obtain ⟨C, hC, hme⟩ := hm
  have hcl := F0.cls kc C hC
  rw [hK] at G kp hme hcl
  refine (pe_meth (E := fun _ _ _ => False) (pl := plainOf o X.env) ho hcl hme G hr pl.binds .nil pass0 ha hst hpl (mcall_form hb hf hl)).imp fun σ H Q h => ?_
  obtain ⟨ρ, t, g, s, r⟩ := h
  refine ⟨ρ, t, g, s, (run_bnd r).mono fun x t1 r1 => ?_⟩
  rw [KF.fls]
  intro v1 g1 H1 st1 s1 rp1
  by_cases hi : isIns t1 kc x = true
  · rw [if_pos hi] at r1
    cases x with
    | obj n =>
      cases ht : t1[n]? with
      | none => simp [isIns, ht] at hi
      | some ob =>
        cases ob with
        | ins k fs' =>
          simp only [isIns, ht, beq_iff_eq] at hi
          subst hi
          obtain ⟨q, rfl, _, C', dx, gs, h1, h2, h3, h4⟩ := obj_at s1 rp1 ht
          rw [hC] at h1; cases h1
          refine ⟨q, dx, gs, rfl, h2, lookup_none h3 hno, ρ, t1, g1, s.step st1 s1, (run_bnd r1).mono fun xs t2 r2 vs g2 H2 st2 s2 rp2 => ?_⟩
          obtain ⟨d, t3, e1, k2⟩ := run_ok r2
          rw [KF.fls] at k2
          refine ⟨g2, t2, .obj n :: xs, s2, ⟨.ref q, vs ++ [], rfl, Rep.mono (st2.mo s1) _ _ rp1, by rw [List.append_nil]; exact rp2⟩, har _ _ _ _ e1, ?_⟩
          rw [e1]; exact KD.after (st1.trans st2) k2
        | _ => simp [isIns, ht] at hi
    | _ => simp [isIns] at hi
  · rw [if_neg hi] at r1; exact r1.elim
/-! ### calls by names -/
/-- the names that the keywords bear, in the text's order -/
def kwNames (kws : List Keyword) : List (Option PySem.Str) := kws.map fun k => match k with | ⟨n, _, _⟩ => n
theorem kwE : ∀ (kws : List Keyword) (env : PySem.Env) (pos : Pos), (backToKw pos (keywordEach kws env)).map (·.1) = kwNames kws
  | [], _, _ => rfl
  | ⟨n, v, _⟩ :: r, env, pos => by
    show n :: (backToKw pos (keywordEach r env)).map (·.1) = n :: kwNames r
    rw [kwE r env pos]
theorem kw_all {kws : List Keyword} {env : PySem.Env} {pos : Pos} {ks : List PySem.Str} (h : kwNames kws = ks.map some) : (backToKw pos (keywordEach kws env)).all (·.1.isSome) = true := by
  have e := kwE kws env pos
  rw [h] at e
  rw [List.all_eq_true]
  intro x hx
  have : x.1 ∈ ks.map some := by rw [← e]; exact List.mem_map.mpr ⟨x, hx, rfl⟩
  obtain ⟨y, _, hy⟩ := List.mem_map.mp this
  rw [← hy]; rfl
theorem kw_names {kws : List Keyword} {env : PySem.Env} {pos : Pos} {ks : List PySem.Str} (h : kwNames kws = ks.map some) : (backToKw pos (keywordEach kws env)).filterMap (·.1) = ks := by
  have e := kwE kws env pos
  rw [h] at e
  have : (backToKw pos (keywordEach kws env)).filterMap (·.1) = ((backToKw pos (keywordEach kws env)).map (·.1)).filterMap id := by rw [List.filterMap_map]; rfl
  rw [this, e, List.filterMap_map]
  show ks.filterMap some = ks
  rw [List.filterMap_some]
theorem kw_plain {kws : List Keyword} {env : PySem.Env} {pos : Pos} {ks : List PySem.Str} (h : kwNames kws = ks.map some) : (backToKw pos (keywordEach kws env)).any (·.1.isNone) = false := by
  have e := kw_all (env := env) (pos := pos) h
  rw [List.all_eq_true] at e
  rw [List.any_eq_false]
  intro x hx
  have := e x hx
  cases h2 : x.1 with
  | none => rw [h2] at this; cases this
  | some _ => simp
section
variable {kws : List Keyword} {fk : Env → T → R (List D)} {ks : List PySem.Str}
theorem _root_.L2.PK.imp {X : Cx} {e : List Keyword} {t t' : TA} (h : PK X e t) (k : ∀ σ H Q, t' σ H Q → t σ H Q) : PK X e t' := ⟨fun pos pins s σ H Q I q => h.run pos pins s σ H Q I (k σ H Q q)⟩
theorem snd_knil : PK X [] (tAs c en fun _ t => .ok [] t) := pk_nil.imp fun σ H Q h => by
  obtain ⟨ρ, t, g, s, r⟩ := h
  exact (show KA c g H t [] Q from r) [] g H Step.refl s.st rfl
theorem snd_kcons {n : Option PySem.Str} {kp : Pos} {fa : Env → T → R D} (ha : PE X e (tE c en false fa)) (hr : PK X kws (tAs c en fk)) :
    PK X (⟨n, e, kp⟩ :: kws) (tAs c en fun ρ t => bnd (fa ρ t) fun x t => bnd (fk ρ t) fun xs t => .ok (x :: xs) t) := (pk_cons ha hr).imp fun σ H Q h => by
  obtain ⟨ρ, t, g, s, r⟩ := h
  refine ⟨ρ, t, g, s, (run_bnd r).mono fun x t1 r1 => ?_⟩
  rw [KF.fls]
  intro v1 g1 H1 st1 s1 rp1
  refine ⟨ρ, t1, g1, s.step st1 s1, (run_bnd r1).mono fun xs t2 r2 vs g2 H2 st2 s2 rp2 => ?_⟩
  exact (show KA c g H t2 (x :: xs) Q from r2) (v1 :: vs) g2 H2 (st1.trans st2) s2 ⟨v1, vs, rfl, Rep.mono (st2.mo s1) x v1 rp1, rp2⟩
theorem Reps.getD {c : Cn} {g : Gh} {H : Hp} {vs : List V} {ds : List D} (r : Reps c g H vs ds) (k : Nat) : Rep c g H (vs.getD k .non) (ds.getD k .non) := by
  cases e : ds[k]? with
  | none =>
    have l := Reps.length r
    have e2 : vs[k]? = none := List.getElem?_eq_none_iff.mpr (by rw [l]; exact List.getElem?_eq_none_iff.mp e)
    rw [List.getD_eq_getElem?_getD, List.getD_eq_getElem?_getD, e, e2]; exact rfl
  | some d =>
    obtain ⟨v, e2, q⟩ := Reps.get r e
    rw [List.getD_eq_getElem?_getD, List.getD_eq_getElem?_getD, e, e2]; exact q
theorem Reps.pick {c : Cn} {g : Gh} {H : Hp} {vs : List V} {ds : List D} (r : Reps c g H vs ds) : ∀ pm : List Nat, Reps c g H (pm.map fun k => vs.getD k .non) (pm.map fun k => ds.getD k .non)
  | [] => rfl
  | k :: pm => ⟨_, _, rfl, Reps.getD r k, Reps.pick r pm⟩
/-- f(k = v, ..), f(e, .., k = v, ..); the number of values by position is the expressions' -/
theorem snd_callk {pm : List Nat} {n : Nat} (hK : c.K = X.K) (A : FnAt c X.prog X.w X.mg X.base lv F sem) (hr : Room lv X.A) (hc : F.cls = none) (hg : Gl X (nm F.name)) (har : ∀ ds t d t', sem ds t = .ok d t' → ds.length = F.np) (hdb : (nm F.name == ("__debug__" : PySem.Str)) = false)
    (ha : PA X es (tAs c en fs)) (hes : ∀ e r, es = e :: r → starEach (e :: r) X.env = (false, eval e X.env) :: starEach r X.env) (hnil : es = [] → ∀ ρ t, fs ρ t = .ok [] t) (hpl : (backTo pos (starEach es X.env)).any (·.1) = false) (hkw : PK X kws (tAs c en fk)) (hks : kwNames kws = ks.map some)
    (ok : PmOk ((F.N.take F.np).map nm) ks n pm) (hlen : ∀ ρ t xs t', fs ρ t = .ok xs t' → xs.length = n) (hklen : ∀ ρ t xs t', fk ρ t = .ok xs t' → xs.length = ks.length) :
    PE X (.Call (.Name (nm F.name) p) es kws pos) (tE c en false fun ρ t => bnd (fs ρ t) fun xs t => bnd (fk ρ t) fun ys t => sem (xs ++ pm.map fun k => ys.getD k .non) t) := by
  obtain ⟨f, fd, ps, G, kp, pl, hps, _, hm⟩ := A.ex
  rw [hc] at hm
  rw [hK] at G kp
  rw [← hps] at ok
  have body : ∀ {pins : List (Addr × Obj)} {s : Shared} {σ : L2.St} {H : Hp} {Q : VK} {us ws : List Value} {vs zs : List V}, L2.Inv X pins σ H s → Vals vs us → Vals zs ws → vs.length = n → zs.length = ks.length →
      spF c sem F.np (vs ++ pm.map fun k => zs.getD k .non) H Q (fun _ _ _ => False) → wpAny (model X.prog X.w) X.A (PySem.call (.ref f) us (ks.zip ws)) (EP X pins σ Q) X.xe s := fun {pins s σ H Q us ws vs zs} I r rz l1 l2 h => by
    have r2 : Vals (vs ++ pm.map fun k => zs.getD k .non) (us ++ pm.map fun k => ws.getD k .none) := r.append (Vals.pick rz pm)
    refine wpAny_call (codeAny_mono (G.run X.A X.stack s H ⟨us, ks.zip ws⟩ (us ++ pm.map fun k => ws.getD k .none) (vs ++ pm.map fun k => zs.getD k .non) Q (fun _ _ _ => False) hr I.env0 (pl.kbinds ok (by rw [← r.length]; exact l1) (by rw [← rz.length]; exact l2.symm)) r2 h) fun r s' hq => ?_)
    cases r with
    | error e => exact hq.elim
    | ok fl =>
      cases fl with
      | ret u => exact I.after hq
      | next => exact False.elim hq
      | brk => exact False.elim hq
      | cont => exact False.elim hq
  have main : ∀ {pins : List (Addr × Obj)} {s : Shared} {σ : L2.St} {H : Hp} {Q : VK}, L2.Inv X pins σ H s → tE c en false (fun ρ t => bnd (fs ρ t) fun xs t => bnd (fk ρ t) fun ys t => sem (xs ++ pm.map fun k => ys.getD k .non) t) σ H Q →
      wpAny (model X.prog X.w) X.A (spliced (backTo pos (starEach es X.env))) (fun us s1 => wpAny (model X.prog X.w) X.A (evalAll ((backToKw pos (keywordEach kws X.env)).map (·.2))) (fun ws s2 => X.K.In s2.heap ∧ wpAny (model X.prog X.w) X.A (PySem.call (.ref f) us (ks.zip ws)) (EP X pins σ Q) X.xe s2) X.xe s1) X.xe s := fun {pins s σ H Q} I h => by
    obtain ⟨ρ, t, g, s0, r⟩ := h
    obtain ⟨xs, t1, e1, r⟩ := run_ok (run_bnd r)
    obtain ⟨ys, t2, e2, r⟩ := run_ok (run_bnd r)
    have l1 := hlen _ _ _ _ e1
    have l2 := hklen _ _ _ _ e2
    refine thn (ha.run pos pins s σ H (fun vs H1 => vs.length = n ∧ tAs c en fk σ H1 fun zs H2 => zs.length = ks.length ∧ spF c sem F.np (vs ++ pm.map fun k => zs.getD k .non) H2 Q (fun _ _ _ => False)) I ⟨ρ, t, g, s0, ?_⟩) fun us s1 ⟨vs, H1, I1, rv, hl, q⟩ => ?_
    · rw [e1]
      intro vs g1 H1 st1 s1 rp1
      refine ⟨by rw [Reps.length rp1]; exact l1, ρ, t1, g1, s0.step st1 s1, ?_⟩
      rw [e2]
      intro zs g2 H2 st2 s2 rp2
      refine ⟨by rw [Reps.length rp2]; exact l2, ?_⟩
      obtain ⟨d, t3, e3, k3⟩ := run_ok r
      rw [KF.fls] at k3
      refine ⟨g2, t2, _, s2, Reps.append (Reps.mono (st2.mo s1) xs vs rp1) (Reps.pick rp2 pm), har _ _ _ _ e3, ?_⟩
      rw [e3]; exact KD.after (st1.trans st2) k3
    · exact thn (hkw.run pos pins s1 σ H1 _ I1 q) fun ws s2 ⟨zs, H2, I2, rz, hl2, q2⟩ => ⟨I2.kIn, body I2 rv rz hl hl2 q2⟩
  refine ⟨fun pins s σ H Q I h => ?_⟩
  refine wpAny_Call_Name_kw (ld_glob I hg hm ?_ hdb)
  cases es with
  | nil =>
    refine PySem.W.callWith_KW0 (h₀ := X.base) I.ok.mod.kin kp (kw_all hks) ?_ (by rw [kw_plain hks]; rfl)
    rw [kw_names hks]
    obtain ⟨ρ, t, g, s0, r⟩ := h
    have r : run (bnd (fs ρ t) fun xs t => bnd (fk ρ t) fun ys t => sem (xs ++ pm.map fun k => ys.getD k .non) t) (fun d t' => KF false c g H t' d Q) := r
    rw [hnil rfl] at r
    have r : run (bnd (fk ρ t) fun ys t => sem ([] ++ pm.map fun k => ys.getD k .non) t) (fun d t' => KF false c g H t' d Q) := r
    obtain ⟨ys, t2, e2, r⟩ := run_ok (run_bnd r)
    have l1 : n = 0 := (hlen ρ t [] t (hnil rfl ρ t)).symm
    have l2 := hklen _ _ _ _ e2
    refine thn (hkw.run pos pins s σ H (fun zs H2 => zs.length = ks.length ∧ spF c sem F.np ([] ++ pm.map fun k => zs.getD k .non) H2 Q (fun _ _ _ => False)) I ⟨ρ, t, g, s0, ?_⟩) fun ws s2 ⟨zs, H2, I2, rz, hl2, q2⟩ => ⟨I2.kIn, body (us := []) (vs := []) I2 .nil rz l1.symm hl2 q2⟩
    rw [e2]
    intro zs g2 H2 st2 s2 rp2
    refine ⟨by rw [Reps.length rp2]; exact l2, ?_⟩
    obtain ⟨d, t3, e3, k3⟩ := run_ok r
    rw [KF.fls] at k3
    refine ⟨g2, t2, _, s2, Reps.append (vs := []) (ds := []) rfl (Reps.pick rp2 pm), har _ _ _ _ e3, ?_⟩
    rw [e3]; exact KD.after st2 k3
  | cons e es =>
    refine PySem.W.callWith_KW (h₀ := X.base) I.ok.mod.kin kp (kw_all hks) ?_ (by rw [hpl, kw_plain hks]; rfl) (hes e es rfl)
    rw [kw_names hks]
    exact main I h
end
/-! ### C(..) -/
theorem snd_mk {kc : Nat} {C : Pd.Cls} {fn : Nat → List D → T → R D} (hK : c.K = X.K) (A : FnAt c X.prog X.w X.mg X.base lv F (fn C.init)) (B : ClsAt c X.mg kc C) (hr : Room (lv + 1) X.A) (hc : F.cls = some kc) (hin : F.name = "__init__") (hg : Gl X (nm C.name)) (har : ∀ ds t d t', fn C.init ds t = .ok d t' → ds.length = F.np) (hdb : (nm C.name == ("__debug__" : PySem.Str)) = false)
    (ha : PA X (e :: es) (tAs c en fs)) (he : starEach (e :: es) X.env = (false, eval e X.env) :: starEach es X.env) (hpl : (backTo pos (starEach es X.env)).any (·.1) = false) :
    PE X (.Call (.Name (nm C.name) p) (e :: es) [] pos) (tE c en false fun ρ t => bnd (fs ρ t) fun xs t => bnd (fn C.init (.obj t.length :: xs) (t ++ [.ins kc []])) fun d t' => match d with
      | .non => .ok (.obj t.length) t'
      | _ => .no) := by
  obtain ⟨f, fd, ps, G, kp, pl, hps, _, hm⟩ := A.ex
  rw [hc] at hm
  obtain ⟨Ca, hC, hme⟩ := hm
  obtain ⟨Cb, hCb, hmg, hmk, hkc⟩ := B.ex
  rw [hC] at hCb; cases hCb
  rw [hin] at hme
  rw [hK] at G kp hme hmk hkc
  have M : Mk X.K Ca f := ⟨hmk, hme.at_, hme.fn, hkc⟩
  refine (pe_make (E := fun _ _ _ => False) M G hr hg hmg pl.binds .nil pass0 ha hdb he hpl).imp fun σ H Q h => ?_
  obtain ⟨ρ, t, g, s, r⟩ := h
  refine ⟨ρ, t, g, s, (run_bnd r).mono fun xs t1 r1 vs g1 H1 st1 s1 rp1 x dx hx hdx hne => ?_⟩
  obtain ⟨d, t2, e1, k⟩ := run_ok (run_bnd r1)
  have st2 : Step g1 H1 g1 (upd H1 dx (.own x)) := Step.alloc hdx
  have s2 : StH c g1 (upd H1 dx (.own x)) t1 := s1.alloc hdx
  have hx2 : (upd H1 dx (.own x)) x = none := by rw [upd_ne (Ne.symm hne)]; exact hx
  have st3 : Step g1 (upd H1 dx (.own x)) (g1.obj x) (upd (upd H1 dx (.own x)) x (.ins Ca dx [])) := Step.newOb hx2
  have s3 : StH c (g1.obj x) (upd (upd H1 dx (.own x)) x (.ins Ca dx [])) (t1 ++ [.ins kc []]) := s2.newOb hx2 ⟨Ca, dx, [], hC, upd_same, rfl, rfl⟩
  have st := (st1.trans st2).trans st3
  refine ⟨g1.obj x, t1 ++ [.ins kc []], .obj t1.length :: xs, s3, ⟨.ref x, vs ++ [], rfl, ⟨x, rfl, Gh.obj_at s2⟩, by rw [List.append_nil]; exact Reps.mono ((st2.trans st3).mo s1) xs vs rp1⟩, har _ _ _ _ e1, ?_⟩
  rw [e1]
  intro v g4 H4 st4 s4 rp4
  cases d with
  | non =>
    have k : KF false c g H t2 (.obj t1.length) Q := k
    rw [KF.fls] at k
    refine ⟨rp4, k (.ref x) g4 H4 (st.trans st4) s4 ⟨x, rfl, pre_get st4.pre (Gh.obj_at s2)⟩⟩
  | _ => exact k.elim
end
end Pd
set_option Elab.async false
set_option linter.all false
set_option maxRecDepth 100000
set_option autoImplicit false
/-! Pd: len(set(x)), list(range(n)), tuple(range(n)). -/
namespace Pd
open PySem PySem.Spec PyProof.Rows L2 TL Bits

theorem once_map (mk : List Nat → PySem.Str) (inj : ∀ a b, mk a = mk b → a = b) : ∀ (l σ : List (List Nat)), (l.map mk).foldl onceP (σ.map mk) = (l.foldl onceS σ).map mk
  | [], σ => rfl
  | x :: l, σ => by
    have e : onceP (σ.map mk) (mk x) = (onceS σ x).map mk := by
      unfold onceP onceS
      have h : (σ.map mk).any (· == mk x) = σ.any fun y => y == x := by
        rw [List.any_map]
        congr 1
        funext y
        show (mk y == mk x) = (y == x)
        by_cases h : y = x
        · subst h; simp
        · have h2 : mk y ≠ mk x := fun z => h (inj _ _ z)
          rw [beq_eq_false_iff_ne.mpr h, beq_eq_false_iff_ne.mpr h2]
      rw [h]
      split
      · rfl
      · rw [List.map_append]; rfl
    rw [List.map_cons, List.foldl_cons, List.foldl_cons, e]
    exact once_map mk inj l (onceS σ x)
section
variable {X : Cx} {c : Cn} {en : En} {pos p p2 q : Pos} {a : Expr} {fa : Env → T → R D}
theorem snd_lenset (hK : c.K = X.K) (hc : X.calm = true) (hg : Gl X (nm "len")) (hm : X.mg (nm "len") = none) (hg2 : Gl X (nm "set")) (hm2 : X.mg (nm "set") = none) (ha : PE X a (tO c en fa)) (na : starEach [a] X.env = (false, eval a X.env) :: starEach [] X.env) :
    PE X (.Call (.Name (nm "len") p) [.Call (.Name (nm "set") p2) [a] [] q] [] pos) (tE c en true fun ρ t => bnd (fa ρ t) fun x t => ofO (b1D t .lenset x) t) := (pe_lenSetP hc hg hm hg2 hm2 ha na).imp fun σ H Q ⟨ρ, t, g, s, r⟩ => by
  refine ⟨ρ, t, g, s, (run_bnd r).mono fun x t1 r1 v1 g1 H1 st1 s1 rp => ?_⟩
  obtain ⟨d, e, k⟩ := run_ofO r1
  have fin : ∀ (l : Addr) (vs : List V) (ds : List D), v1 = .ref l → (SqL X.K H1 l vs ∨ SqT X.K H1 l vs) → Reps c g1 H1 vs ds → seqs x = some ds → ∃ (l : Addr) (xs : List PySem.Str), v1 = .ref l ∧ (SqL X.K H1 l (xs.map V.str) ∨ SqT X.K H1 l (xs.map V.str)) ∧ xs.length ≤ 1000 ∧ Q (.int ((metP xs xs.length).length : Nat)) H1 := fun l vs ds hv hq hr hs => by
    have e : (match seqs x with
      | some xs => (strsOf xs).bind fun ss => if ss.length ≤ 1000 then some (D.int ((ss.foldl onceS []).length : Int)) else none
      | none => none) = some d := e
    rw [hs] at e
    dsimp only at e
    obtain ⟨zs, e1, e2⟩ := Option.bind_eq_some_iff.mp e
    by_cases hl : zs.length ≤ 1000
    · rw [if_pos hl] at e2
      cases e2
      obtain ⟨h1, h2⟩ := Reps.strsOf hr e1
      refine ⟨l, zs.map fun s => (⟨s.toArray⟩ : PySem.Str), hv, ?_, by rw [List.length_map]; exact hl, ?_⟩
      · rw [List.map_map]; rw [h1] at hq; exact hq
      · have e3 : metP (zs.map fun s => (⟨s.toArray⟩ : PySem.Str)) (zs.map fun s => (⟨s.toArray⟩ : PySem.Str)).length = (zs.foldl onceS []).map fun s => (⟨s.toArray⟩ : PySem.Str) := by
          unfold metP
          rw [List.take_length]
          exact once_map _ (fun a b h => by
            have : a.toArray = b.toArray := congrArg PySem.Str.cps h
            simpa using this) zs []
        rw [e3, List.length_map]
        exact (show KD c g H t1 (.int ((zs.foldl onceS []).length : Int)) Q from k) _ g1 H1 st1 s1 rfl
    · rw [if_neg hl] at e2; cases e2
  cases x with
  | tup ds =>
    obtain ⟨l, vs, rfl, _, hq, hr, _⟩ := rp
    exact fin l vs ds rfl (.inr (SqT.of hq)) hr rfl
  | lst ds =>
    obtain ⟨l, vs, rfl, _, hq, hr, _⟩ := rp
    exact fin l vs ds rfl (.inl (SqL.of hq)) hr rfl
  | _ => cases e
theorem rgV_eq (n : Int) : rgV 0 n = (List.range n.toNat).map fun k : Nat => V.int (k : Int) := by
  unfold rgV
  rw [Int.sub_zero]
  congr 1
  funext k
  rw [Int.zero_add]
theorem range_reps {g : Gh} {H : Hp} : ∀ l : List Nat, Reps c g H (l.map fun k : Nat => V.int (k : Int)) (l.map fun k : Nat => D.int (k : Int))
  | [] => rfl
  | k :: l => ⟨_, _, rfl, rfl, range_reps l⟩
theorem snd_lrange (hc : X.calm = true) (hg : Gl X (nm "list")) (hm : X.mg (nm "list") = none) (hg2 : Gl X (nm "range")) (hm2 : X.mg (nm "range") = none) (ha : PE X a (tO c en fa)) (na : starEach [a] X.env = (false, eval a X.env) :: starEach [] X.env) :
    PE X (.Call (.Name (nm "list") p) [.Call (.Name (nm "range") p2) [a] [] q] [] pos) (tE c en true fun ρ t => bnd (fa ρ t) fun x t => ofO (b1D t .lrange x) t) := (pe_listRg hc hg hm (prg_1 hg2 hm2 ha na) rfl).imp fun σ H Q ⟨ρ, t, g, s, r⟩ => by
  refine ⟨ρ, t, g, s, (run_bnd r).mono fun x t1 r1 v1 g1 H1 st1 s1 rp => ?_⟩
  obtain ⟨d, e, k⟩ := run_ofO r1
  cases x with
  | int n =>
    cases rp
    by_cases hn : -1000000 ≤ n ∧ n ≤ 1000000
    · simp only [b1D, if_pos hn] at e
      cases e
      refine ⟨n, rfl, ⟨by omega, by omega, by omega, by omega, by omega⟩, ?_⟩
      rw [rgV_eq]
      exact KL.lst (KL.after st1 (show KL c g H t1 (range0 n) Q from k)) s1 (range_reps _) (by unfold range0 sz; rw [List.length_map, List.length_range]; omega)
    · simp only [b1D, if_neg hn] at e; cases e
  | _ => cases e
theorem snd_trange (hc : X.calm = true) (hg : Gl X (nm "tuple")) (hm : X.mg (nm "tuple") = none) (hg2 : Gl X (nm "range")) (hm2 : X.mg (nm "range") = none) (ha : PE X a (tO c en fa)) (na : starEach [a] X.env = (false, eval a X.env) :: starEach [] X.env) :
    PE X (.Call (.Name (nm "tuple") p) [.Call (.Name (nm "range") p2) [a] [] q] [] pos) (tE c en true fun ρ t => bnd (fa ρ t) fun x t => ofO (b1D t .trange x) t) := (pe_tupRg hc hg hm (prg_1 hg2 hm2 ha na) rfl).imp fun σ H Q ⟨ρ, t, g, s, r⟩ => by
  refine ⟨ρ, t, g, s, (run_bnd r).mono fun x t1 r1 v1 g1 H1 st1 s1 rp => ?_⟩
  obtain ⟨d, e, k⟩ := run_ofO r1
  cases x with
  | int n =>
    cases rp
    by_cases hn : -1000000 ≤ n ∧ n ≤ 1000000
    · simp only [b1D, if_pos hn] at e
      cases e
      refine ⟨n, rfl, ⟨by omega, by omega, by omega, by omega, by omega⟩, ?_⟩
      rw [rgV_eq]
      exact KD.tup (KD.after st1 (show KD c g H t1 (.tup (range0 n)) Q from k)) s1 (range_reps _) (by unfold range0 sz; rw [List.length_map, List.length_range]; omega)
    · simp only [b1D, if_neg hn] at e; cases e
  | _ => cases e
end
end Pd
set_option Elab.async false
set_option linter.all false
set_option maxRecDepth 100000
set_option autoImplicit false
/-! Pd: targets, sources, comprehensions. -/
namespace Pd
open PySem PySem.Spec PyProof.Rows L2 TL Bits

/-! ### targets -/
mutual
def tgS : Tg → List Nat
  | .nm i => [i]
  | .tp gs => tgsS gs
def tgsS : Tgs → List Nat
  | .nil => []
  | .cons g r => tgS g ++ tgsS r
end
def tgsN : Tgs → Nat
  | .nil => 0
  | .cons _ r => tgsN r + 1
theorem asgTs_len : ∀ (gs : Tgs) (ds : List D) (ρ ρ' : Env), asgTs gs ds ρ = some ρ' → ds.length = tgsN gs
  | .nil, [], _, _, _ => rfl
  | .nil, _ :: _, _, _, h => by simp [asgTs] at h
  | .cons _ _, [], _, _, h => by simp [asgTs] at h
  | .cons g r, x :: xs, ρ, ρ', h => by
    simp only [asgTs] at h
    obtain ⟨ρ1, _, h2⟩ := Option.bind_eq_some_iff.mp h
    rw [List.length_cons, asgTs_len r xs ρ1 ρ' h2]; rfl
section
variable (c : Cn) (en : En)
def gD (gt : Tg) : TG := fun v σ H Q => ∃ ρ t g d ρ', SR c en g σ H ρ t ∧ Rep c g H v d ∧ asgT gt d ρ = some ρ' ∧ ∀ σ', SR c en g σ' H ρ' t → σ'.length = σ.length → (∀ i, i ∉ tgS gt → σ'[i]? = σ[i]?) → Q σ' H
def gDs (gs : Tgs) : TGs := fun vs σ H Q => ∃ ρ t g ds ρ', SR c en g σ H ρ t ∧ Reps c g H vs ds ∧ asgTs gs ds ρ = some ρ' ∧ ∀ σ', SR c en g σ' H ρ' t → σ'.length = σ.length → (∀ i, i ∉ tgsS gs → σ'[i]? = σ[i]?) → Q σ' H
end
theorem _root_.L2.PG.imp {X : Cx} {e : Expr} {t t' : TG} (h : PG X e t) (k : ∀ v σ H Q, t' v σ H Q → t v σ H Q) : PG X e t' := ⟨fun pins s σ H v u Q I r q => h.run pins s σ H v u Q I r (k v σ H Q q)⟩
theorem _root_.L2.PGs.imp {X : Cx} {e : List Expr} {t t' : TGs} (h : PGs X e t) (k : ∀ v σ H Q, t' v σ H Q → t v σ H Q) : PGs X e t' := ⟨fun pins s σ H v u Q I r q => h.run pins s σ H v u Q I r (k v σ H Q q)⟩
section
variable {X : Cx} {c : Cn} {en : En} {pos : Pos}
theorem snd_gnm {i : Nat} {x : PySem.Str} (hN : X.N.Nodup) (hi : X.N[i]? = some x) (hx : Loc X.env.scope x) (hf : X.fn x = true ∨ X.env.scope.names.lookup x = some .local) : PG X (.Name x pos) (gD c en (.nm i)) :=
  (pg_name hN hi hx hf).imp fun v σ H Q ⟨ρ, t, g, d, ρ', s, r, e, k⟩ => by
    simp only [asgT] at e
    by_cases hl : i < ρ.length
    · rw [if_pos hl] at e; cases e
      refine k _ (s.store hl r) (List.length_set ..) fun j hj => ?_
      rw [List.getElem?_set_ne]
      intro z
      exact hj (by simp [tgS, z])
    · rw [if_neg hl] at e; cases e
theorem snd_gnil : PGs X [] (gDs c en .nil) := pgs_nil.imp fun vs σ H Q ⟨ρ, t, g, ds, ρ', s, r, e, k⟩ => by
  cases ds with
  | cons _ _ => simp [asgTs] at e
  | nil =>
    cases r
    cases e
    exact ⟨rfl, k σ s rfl fun _ _ => rfl⟩
theorem snd_gcons {e : Expr} {es : List Expr} {a : Tg} {b : Tgs} (h1 : PG X e (gD c en a)) (h2 : PGs X es (gDs c en b))
    (hs : (assignEach (e :: es) X.env).map (·.2) = assign e X.env :: (assignEach es X.env).map (·.2)) : PGs X (e :: es) (gDs c en (.cons a b)) := (pgs_cons h1 h2 hs).imp fun vs σ H Q ⟨ρ, t, g, ds, ρ', s, r, e, k⟩ => by
  cases ds with
  | nil => simp [asgTs] at e
  | cons d ds =>
    obtain ⟨v, r', rfl, r1, r2⟩ := r
    simp only [asgTs] at e
    obtain ⟨ρ1, e1, e2⟩ := Option.bind_eq_some_iff.mp e
    refine ⟨v, r', rfl, ρ, t, g, d, ρ1, s, r1, e1, fun σ1 s1 l1 f1 => ⟨ρ1, t, g, ds, ρ', s1, r2, e2, fun σ2 s2 l2 f2 => k σ2 s2 (l2.trans l1) fun i hi => ?_⟩⟩
    have hi' : i ∉ tgS a ∧ i ∉ tgsS b := by
      simp only [tgsS, List.mem_append, not_or] at hi; exact hi
    rw [f2 i hi'.2, f1 i hi'.1]
theorem snd_gtp {es : List Expr} {k : Nat} {gs : Tgs} (hK : c.K = X.K) (hc : X.calm = true) (h : PGs X es (gDs c en gs)) (hn : (assignEach es X.env).length = tgsN gs) (hst : (assignEach es X.env).findIdx? (·.1) = none) : PG X (.Tuple es k pos) (gD c en (.tp gs)) :=
  (pg_tup hc h hn hst).imp fun v σ H Q ⟨ρ, t, g, d, ρ', s, r, e, k⟩ => by
    cases d with
    | tup ds =>
      obtain ⟨a, vs, rfl, _, q, r1, _⟩ := r
      have e : asgTs gs ds ρ = some ρ' := e
      exact ⟨a, vs, rfl, SqT.of q, by rw [Reps.length r1, asgTs_len gs ds ρ ρ' e], ρ, t, g, ds, ρ', s, r1, e, k⟩
    | _ => simp [asgT] at e
end

/-! ### what is walked -/
structure WalkD (c : Cn) (P : Gh → Hp → Prop) (J : It) (ds : List D) : Prop where
  len : ds.length ≤ sz
  go : ∀ (g : Gh) (H : Hp) (t : T) (i : Nat), P g H → StH c g H t → i < ds.length → J.go i H
  yld : ∀ (g : Gh) (H : Hp) (t : T) (i : Nat) (v : V) (H' : Hp) (d : D), P g H → StH c g H t → ds[i]? = some d → J.yld i H v H' → ∃ g', Step g H g' H' ∧ StH c g' H' t ∧ Rep c g' H' v d
  stop : ∀ (g : Gh) (H : Hp) (t : T) (i : Nat), P g H → StH c g H t → ds.length ≤ i → J.stop i H
/-- a later moment -/
def Lat (pk : Bool) (g : Gh) (H : Hp) : Gh → Hp → Prop := fun g' H' => if pk then Step g H g' H' else Mo g H g' H'
theorem Lat.mo {c : Cn} {pk : Bool} {g : Gh} {H : Hp} {t : T} {g' : Gh} {H' : Hp} (s : StH c g H t) (l : Lat pk g H g' H') : Mo g H g' H' := by
  cases pk with
  | true => exact Step.mo s l
  | false => exact l
def RO (pk : Bool) (c : Cn) (g : Gh) (H : Hp) (v : V) (d : D) : Prop := if pk then RepP c g H v d else Rep c g H v d
def tOn (pk : Bool) (c : Cn) (en : En) (f : Env → T → R D) : TE := fun σ H Q => ∃ ρ t g, SR c en g σ H ρ t ∧ run (f ρ t) fun d t' => ∀ v g' H', Step g H g' H' → StH c g' H' t' → RO pk c g' H' v d → Q v H'
def tI (pk : Bool) (c : Cn) (en : En) (f : Env → T → R (List D)) : TI := fun σ H R => ∃ ρ t g, SR c en g σ H ρ t ∧ run (f ρ t) fun ds t' => ∀ J g' H', Step g H g' H' → StH c g' H' t' → WalkD c (Lat pk g' H') J ds → R J H'
theorem tOn_tO {c : Cn} {en : En} {f : Env → T → R D} {X : Cx} {e : Expr} (h : PE X e (tO c en f)) : PE X e (tOn true c en f) := h.imp fun _ _ _ q => q
theorem tOn_tE {c : Cn} {en : En} {f : Env → T → R D} {X : Cx} {e : Expr} (h : PE X e (tE c en false f)) : PE X e (tOn false c en f) := h.imp fun _ _ _ ⟨ρ, t, g, s, r⟩ => ⟨ρ, t, g, s, r.mono fun d t' k => by rw [KF.fls]; exact k⟩
section
variable {c : Cn} {pk : Bool} {g : Gh} {H : Hp} {t : T} {v : V}
theorem RO.step {g' : Gh} {H' : Hp} {d : D} (s : StH c g H t) (st : Step g H g' H') (h : RO pk c g H v d) : RO pk c g' H' v d := by
  cases pk with
  | true => exact RepP.step s st h
  | false => exact Rep.mono (st.mo s) d v h
theorem RO.lst {ds : List D} (s : StH c g H t) (h : RO pk c g H v (.lst ds)) : ds.length ≤ sz ∧ ∃ a vs, v = .ref a ∧ H a = some (.lst vs) ∧ Reps c g H vs ds ∧ ∀ g' H', Lat pk g H g' H' → SqL c.K H' a vs ∧ Reps c g' H' vs ds := by
  cases pk with
  | true =>
    obtain ⟨a, vs, e, n, q, r, l⟩ := h
    exact ⟨l, a, vs, e, q, r, fun g' H' st => ⟨SqL.of (Step.keep st a _ q n), Reps.mono (Step.mo s st) ds vs r⟩⟩
  | false =>
    obtain ⟨a, vs, e, f, q, r, l⟩ := h
    exact ⟨l, a, vs, e, q, r, fun g' H' m => ⟨SqL.of ((Mo.fz m a f).2.trans q), Reps.mono m ds vs r⟩⟩
theorem RO.rep {d : D} (hd : ∀ ds, d ≠ .lst ds) (h : RO pk c g H v d) : Rep c g H v d := by
  cases pk with
  | true =>
    cases d with
    | lst ds => exact absurd rfl (hd ds)
    | _ => exact h
  | false => exact h
theorem RO.tup {ds : List D} (s : StH c g H t) (h : RO pk c g H v (.tup ds)) : ds.length ≤ sz ∧ ∃ a vs, v = .ref a ∧ H a = some (.tup vs) ∧ Reps c g H vs ds ∧ ∀ g' H', Lat pk g H g' H' → SqT c.K H' a vs ∧ Reps c g' H' vs ds := by
  obtain ⟨a, vs, e, f, q, r, l⟩ := RO.rep (by intro _ z; cases z) h
  exact ⟨l, a, vs, e, q, r, fun g' H' st => ⟨SqT.of (((Lat.mo s st).fz a f).2.trans q), Reps.mono (Lat.mo s st) ds vs r⟩⟩
theorem RO.scr {ns : List Int} (s : StH c g H t) (h : RO pk c g H v (.scr ns)) : ns.length ≤ 1000 ∧ ∃ a, v = .ref a ∧ SqL c.K H a (ns.map V.int) ∧ ∀ g' H', Lat pk g H g' H' → SqL c.K H' a (ns.map V.int) := by
  have h := RO.rep (by intro _ z; cases z) h
  obtain ⟨a, e, q, l⟩ := scr_sq h
  refine ⟨l, a, e, q, fun g' H' st => ?_⟩
  obtain ⟨a', e', q', _⟩ := scr_sq (Rep.mono (c := c) (Lat.mo s st) (.scr ns) v h)
  rw [e] at e'; cases e'; exact q'
/-- the list at a -/
theorem walk_list {P : Gh → Hp → Prop} {a : Addr} {vs : List V} {ds : List D} (l : ds.length ≤ sz) (h : ∀ g H, P g H → SqL c.K H a vs ∧ Reps c g H vs ds) : WalkD c P (Itl c.K a) ds where
  len := l
  go := fun g H t i p s hi => by
    obtain ⟨q, r⟩ := h g H p
    have hl : i < vs.length := by rw [Reps.length r]; exact hi
    exact ⟨vs, vs[i], q, List.getElem?_eq_getElem hl⟩
  yld := fun g H t i v H' d p s e y => by
    obtain ⟨q, r⟩ := h g H p
    obtain ⟨rfl, y⟩ := y
    obtain ⟨w, e1, r1⟩ := Reps.get r e
    rw [y vs q] at e1; cases e1
    exact ⟨g, Step.refl, s, r1⟩
  stop := fun g H t i p s hi => by
    obtain ⟨q, r⟩ := h g H p
    exact ⟨vs, q, by rw [Reps.length r]; exact hi⟩
theorem walk_tup {P : Gh → Hp → Prop} {a : Addr} {vs : List V} {ds : List D} (l : ds.length ≤ sz) (h : ∀ g H, P g H → SqT c.K H a vs ∧ Reps c g H vs ds) : WalkD c P (Itt c.K a) ds where
  len := l
  go := fun g H t i p s hi => by
    obtain ⟨q, r⟩ := h g H p
    have hl : i < vs.length := by rw [Reps.length r]; exact hi
    exact ⟨vs, vs[i], q, List.getElem?_eq_getElem hl⟩
  yld := fun g H t i v H' d p s e y => by
    obtain ⟨q, r⟩ := h g H p
    obtain ⟨rfl, y⟩ := y
    obtain ⟨w, e1, r1⟩ := Reps.get r e
    rw [y vs q] at e1; cases e1
    exact ⟨g, Step.refl, s, r1⟩
  stop := fun g H t i p s hi => by
    obtain ⟨q, r⟩ := h g H p
    exact ⟨vs, q, by rw [Reps.length r]; exact hi⟩
theorem walk_str {P : Gh → Hp → Prop} {s : List Nat} (ok : okS s) : WalkD c P (Its ⟨s.toArray⟩) (s.map fun x => .str [x]) where
  len := by rw [List.length_map]; exact ok.1
  go := fun g H t i p st hi => by rw [List.length_map] at hi; simpa [Its] using hi
  yld := fun g H t i v H' d p st e y => by
    obtain ⟨rfl, x, hx, rfl⟩ := y
    rw [List.getElem?_map] at e
    have hx : s[i]? = some x := by simpa using hx
    rw [hx] at e; cases e
    refine ⟨g, Step.refl, st, rfl, ?_, fun z hz => ?_⟩
    · show 1 ≤ sz; unfold sz; omega
    · rw [List.mem_singleton.mp hz]; exact ok.2 x (List.mem_of_getElem? hx)
  stop := fun g H t i p st hi => by rw [List.length_map] at hi; simpa [Its] using hi
theorem walk_range {P : Gh → Hp → Prop} (lo : Int) (n : Nat) (h : n ≤ sz) : WalkD c P (Itr lo n) ((List.range n).map fun k : Nat => D.int (lo + (k : Int))) where
  len := by rw [List.length_map, List.length_range]; exact h
  go := fun g H t i p st hi => by rw [List.length_map, List.length_range] at hi; exact hi
  yld := fun g H t i v H' d p st e y => by
    obtain ⟨rfl, rfl⟩ := y
    rw [List.getElem?_map] at e
    obtain ⟨k, e1, rfl⟩ := Option.map_eq_some_iff.mp e
    have hk : k = i := by
      obtain ⟨h1, h2⟩ := List.getElem?_eq_some_iff.mp e1
      simpa using h2.symm
    subst hk
    exact ⟨g, Step.refl, st, rfl⟩
  stop := fun g H t i p st hi => by rw [List.length_map, List.length_range] at hi; exact hi
theorem enumF_get : ∀ (ds : List D) (k i : Nat) (x : D), (enumF k ds)[i]? = some x → ∃ d, ds[i]? = some d ∧ x = .tup [.int ((k + i : Nat) : Int), d]
  | [], k, i, x, h => by simp [enumF] at h
  | d :: ds, k, 0, x, h => by simp [enumF] at h; exact ⟨d, rfl, by rw [← h]; simp⟩
  | d :: ds, k, i + 1, x, h => by
    simp [enumF] at h
    obtain ⟨d', e, q⟩ := enumF_get ds (k + 1) i x h
    exact ⟨d', by simpa using e, by rw [q]; congr 3; congr 1; omega⟩
theorem enumF_len : ∀ (ds : List D) (k : Nat), (enumF k ds).length = ds.length
  | [], _ => rfl
  | _ :: ds, k => by simp [enumF, enumF_len ds]
/-- a new pair -/
theorem pair_new {x y : V} {dx dy : D} {T0 : Addr} (s : StH c g H t) (rx : Rep c g H x dx) (ry : Rep c g H y dy) (hT : H T0 = none) : ∃ g', Step g H g' (upd H T0 (.tup [x, y])) ∧ StH c g' (upd H T0 (.tup [x, y])) t ∧ Rep c g' (upd H T0 (.tup [x, y])) (.ref T0) (.tup [dx, dy]) := by
  have st : Step g H (g.add T0) (upd H T0 (.tup [x, y])) := Step.froze hT hT
  exact ⟨g.add T0, st, s.froze hT, T0, [x, y], rfl, .inr rfl, upd_same, ⟨x, [y], rfl, Rep.mono (st.mo s) dx x rx, y, [], rfl, Rep.mono (st.mo s) dy y ry, rfl⟩, by show 2 ≤ sz; unfold sz; omega⟩
theorem walk_enum {P : Gh → Hp → Prop} {a : Addr} {vs : List V} {ds : List D} (l : ds.length ≤ sz) (h : ∀ g H, P g H → SqL c.K H a vs ∧ Reps c g H vs ds) : WalkD c P (Ite c.K a) (enumF 0 ds) where
  len := by rw [enumF_len]; exact l
  go := fun g H t i p s hi => by
    rw [enumF_len] at hi
    obtain ⟨q, r⟩ := h g H p
    have hl : i < vs.length := by rw [Reps.length r]; exact hi
    exact ⟨vs, vs[i], q, List.getElem?_eq_getElem hl⟩
  yld := fun g H t i v H' d p s e y => by
    obtain ⟨q, r⟩ := h g H p
    obtain ⟨d', e1, rfl⟩ := enumF_get ds 0 i d e
    obtain ⟨T0, x, rfl, hT, rfl, y⟩ := y
    obtain ⟨w, e2, r1⟩ := Reps.get r e1
    rw [y vs q] at e2; cases e2
    rw [Nat.zero_add]
    exact pair_new s rfl r1 hT
  stop := fun g H t i p s hi => by
    rw [enumF_len] at hi
    obtain ⟨q, r⟩ := h g H p
    exact ⟨vs, q, by rw [Reps.length r]; exact hi⟩
theorem zipD_get : ∀ (xs ys : List D) (i : Nat) (z : D), (zipD xs ys)[i]? = some z → ∃ x y, xs[i]? = some x ∧ ys[i]? = some y ∧ z = .tup [x, y]
  | [], _, i, z, h => by simp [zipD] at h
  | _ :: _, [], i, z, h => by simp [zipD] at h
  | x :: xs, y :: ys, 0, z, h => by simp [zipD] at h; exact ⟨x, y, rfl, rfl, h.symm⟩
  | x :: xs, y :: ys, i + 1, z, h => by
    simp [zipD] at h
    obtain ⟨x', y', e1, e2, q⟩ := zipD_get xs ys i z h
    exact ⟨x', y', by simpa using e1, by simpa using e2, q⟩
theorem zipD_len : ∀ (xs ys : List D), (zipD xs ys).length = min xs.length ys.length
  | [], _ => by simp [zipD]
  | _ :: _, [] => by simp [zipD]
  | _ :: xs, _ :: ys => by simp [zipD, zipD_len xs ys]
theorem walk_zip {P : Gh → Hp → Prop} {a b : Addr} {vs ws : List V} {ds es : List D} (l : ds.length ≤ sz) (h : ∀ g H, P g H → SqL c.K H a vs ∧ Reps c g H vs ds) (h2 : ∀ g H, P g H → SqL c.K H b ws ∧ Reps c g H ws es) : WalkD c P (Itz c.K a b) (zipD ds es) where
  len := by rw [zipD_len]; omega
  go := fun g H t i p s hi => by
    rw [zipD_len] at hi
    obtain ⟨q, r⟩ := h g H p
    obtain ⟨q2, r2⟩ := h2 g H p
    have hl : i < vs.length := by rw [Reps.length r]; omega
    have hl2 : i < ws.length := by rw [Reps.length r2]; omega
    exact ⟨vs, ws, vs[i], ws[i], q, q2, List.getElem?_eq_getElem hl, List.getElem?_eq_getElem hl2⟩
  yld := fun g H t i v H' d p s e y => by
    obtain ⟨q, r⟩ := h g H p
    obtain ⟨q2, r2⟩ := h2 g H p
    obtain ⟨d1, d2, e1, e2, rfl⟩ := zipD_get ds es i d e
    obtain ⟨T0, x, x2, rfl, hT, rfl, y, y2⟩ := y
    obtain ⟨w, f1, r1⟩ := Reps.get r e1
    obtain ⟨w2, f2, r3⟩ := Reps.get r2 e2
    rw [y vs q] at f1; cases f1
    rw [y2 ws q2] at f2; cases f2
    exact pair_new s r1 r3 hT
  stop := fun g H t i p s hi => by
    rw [zipD_len] at hi
    obtain ⟨q, r⟩ := h g H p
    obtain ⟨q2, r2⟩ := h2 g H p
    refine ⟨vs, ws, q, q2, ?_⟩
    rw [Reps.length r, Reps.length r2]; omega
theorem walk_zipT {P : Gh → Hp → Prop} {a b : Addr} {vs ws : List V} {ds es : List D} (l : ds.length ≤ sz) (h : ∀ g H, P g H → SqT c.K H a vs ∧ Reps c g H vs ds) (h2 : ∀ g H, P g H → SqT c.K H b ws ∧ Reps c g H ws es) : WalkD c P (RZ.ItzT c.K a b) (zipD ds es) where
  len := by rw [zipD_len]; omega
  go := fun g H t i p s hi => by
    rw [zipD_len] at hi
    obtain ⟨q, r⟩ := h g H p
    obtain ⟨q2, r2⟩ := h2 g H p
    have hl : i < vs.length := by rw [Reps.length r]; omega
    have hl2 : i < ws.length := by rw [Reps.length r2]; omega
    exact ⟨vs, ws, vs[i], ws[i], q, q2, List.getElem?_eq_getElem hl, List.getElem?_eq_getElem hl2⟩
  yld := fun g H t i v H' d p s e y => by
    obtain ⟨q, r⟩ := h g H p
    obtain ⟨q2, r2⟩ := h2 g H p
    obtain ⟨d1, d2, e1, e2, rfl⟩ := zipD_get ds es i d e
    obtain ⟨T0, x, x2, rfl, hT, rfl, y, y2⟩ := y
    obtain ⟨w, f1, r1⟩ := Reps.get r e1
    obtain ⟨w2, f2, r3⟩ := Reps.get r2 e2
    rw [y vs q] at f1; cases f1
    rw [y2 ws q2] at f2; cases f2
    exact pair_new s r1 r3 hT
  stop := fun g H t i p s hi => by
    rw [zipD_len] at hi
    obtain ⟨q, r⟩ := h g H p
    obtain ⟨q2, r2⟩ := h2 g H p
    refine ⟨vs, ws, q, q2, ?_⟩
    rw [Reps.length r, Reps.length r2]; omega
end
end Pd
set_option Elab.async false
set_option linter.all false
set_option maxRecDepth 100000
set_option autoImplicit false
/-! Pd: sources, comprehensions. -/
namespace Pd
open PySem PySem.Spec PyProof.Rows L2 TL Bits

theorem Lat.refl {pk : Bool} {g : Gh} {H : Hp} : Lat pk g H g H := by
  cases pk with
  | true => exact Step.refl
  | false => exact Mo.refl
section
variable {X : Cx} {c : Cn} {en : En} {pk : Bool} {pos p : Pos} {e e2 tg : Expr} {f f2 : Env → T → R D}
theorem snd_seq (hK : c.K = X.K) (he : PE X e (tOn pk c en f)) : PI X tg e (tI pk c en fun ρ t => bnd (f ρ t) fun x t => ofO (items x) t) := by
  refine ⟨fun pins s σ H R I h => ?_⟩
  obtain ⟨ρ, t, g, s0, r⟩ := h
  refine thn (he.run pins s σ H (fun v H1 => ∃ d g1 t1, StH c g1 H1 t1 ∧ RO pk c g1 H1 v d ∧ ∃ ds, items d = some ds ∧ ∀ J, WalkD c (Lat pk g1 H1) J ds → R J H1) I ⟨ρ, t, g, s0, (run_bnd r).mono fun x t1 r1 v1 g1 H1 st1 s1 rp => ?_⟩) fun v s1 ⟨x, H1, I1, r1, d, g1, t1, st1, rp, ds, e1, q⟩ => ?_
  · obtain ⟨ds, e1, q⟩ := run_ofO r1
    exact ⟨x, g1, t1, s1, rp, ds, e1, fun J w => q J g1 H1 st1 s1 w⟩
  · cases d with
    | lst xs =>
      cases e1
      obtain ⟨l, a, vs, rfl, q0, rr, hw⟩ := RO.lst st1 rp
      cases r1
      have hq := (hw g1 H1 Lat.refl).1
      rw [hK] at hq
      obtain ⟨its, rv, p, hz⟩ := I1.list hq
      refine wpAny_pyIter_list p.isList (pi_one (tk := s1.toks) I1 _ (turn_list a _) ⟨_, Heap.get?_push_size _ rfl, rfl, rfl⟩ (q _ ?_))
      rw [← hK]; exact walk_list l hw
    | tup xs =>
      cases e1
      obtain ⟨l, a, vs, rfl, q0, rr, hw⟩ := RO.tup st1 rp
      cases r1
      have hq := (hw g1 H1 Lat.refl).1
      rw [hK] at hq
      obtain ⟨its, rv, p, hz⟩ := I1.tuple hq
      refine wpAny_pyIter_tuple (show s1.heap.IsTuple a its.toArray from p) (pi_one (tk := s1.toks) I1 _ (turn_tuple a _) ⟨_, Heap.get?_push_size _ rfl, rfl, rfl⟩ (q _ ?_))
      rw [← hK]; exact walk_tup l hw
    | scr ns =>
      cases e1
      obtain ⟨l, a, rfl, q0, hw⟩ := RO.scr st1 rp
      cases r1
      rw [hK] at q0
      obtain ⟨its, rv, p, hz⟩ := I1.list q0
      refine wpAny_pyIter_list p.isList (pi_one (tk := s1.toks) I1 _ (turn_list a _) ⟨_, Heap.get?_push_size _ rfl, rfl, rfl⟩ (q _ ?_))
      rw [← hK]; exact walk_list (by rw [List.length_map]; unfold sz; omega) fun g' H' m => ⟨hw g' H' m, Reps.ints ns⟩
    | str xs =>
      cases e1
      obtain ⟨rfl, ok⟩ := RO.rep (by intro _ z; cases z) rp
      obtain ⟨u, rfl⟩ := r1
      cases ha : (⟨xs.toArray⟩ : PySem.Str).cps.all (· < 128)
      · exact wpAny_pyIter_wide ha (pi_one (tk := s1.toks) I1 _ (turn_str _ _ u "str_iterator" (.inr rfl)) ⟨_, Heap.get?_push_size _ rfl, rfl, rfl⟩ (q _ (walk_str ok)))
      · exact wpAny_pyIter_ascii ha (pi_one (tk := s1.toks) I1 _ (turn_str _ _ u "str_ascii_iterator" (.inl rfl)) ⟨_, Heap.get?_push_size _ rfl, rfl, rfl⟩ (q _ (walk_str ok)))
    | _ => cases e1
theorem _root_.L2.PI.imp {X : Cx} {tg e : Expr} {t t' : TI} (h : PI X tg e t) (k : ∀ σ H Q, t' σ H Q → t σ H Q) : PI X tg e t' := ⟨fun pins s σ H Q I q => h.run pins s σ H Q I (k σ H Q q)⟩
theorem RO.int {c : Cn} {pk : Bool} {g : Gh} {H : Hp} {v : V} {n : Int} (h : RO pk c g H v (.int n)) : v = .int n := by
  cases pk <;> exact h
theorem snd_rng (hg : Gl X "range") (hm : X.mg "range" = none) (he : PE X e (tOn pk c en f)) (hs : starEach [e] X.env = (false, eval e X.env) :: starEach [] X.env) :
    PI X tg (.Call (.Name "range" p) [e] [] pos) (tI pk c en fun ρ t => bnd (f ρ t) fun x t => match x with
    | .int n => if n ≤ 1000000 ∧ -1000000 ≤ n then .ok (range0 n) t else .no
    | _ => .no) := (pi_range1 hg hm (pa_cons he pa_nil hs) hs).imp fun σ H R ⟨ρ, t, g, s0, r⟩ => by
  refine ⟨ρ, t, g, s0, (run_bnd r).mono fun x t1 r1 v1 g1 H1 st1 s1 rp => ?_⟩
  cases x with
  | int n =>
    cases RO.int rp
    by_cases hn : n ≤ 1000000 ∧ -1000000 ≤ n
    · simp only [if_pos hn] at r1
      refine ⟨n, rfl, by omega, by omega, (show ∀ J g' H', Step g H g' H' → StH c g' H' t1 → WalkD c (Lat pk g' H') J (range0 n) → R J H' from r1) _ g1 H1 st1 s1 ?_⟩
      have w := walk_range (c := c) (P := Lat pk g1 H1) 0 n.toNat (by unfold sz; omega)
      simp only [Int.zero_add] at w
      exact w
    · simp only [if_neg hn] at r1; exact r1.elim
  | _ => exact r1.elim
theorem snd_rng2 (hg : Gl X "range") (hm : X.mg "range" = none) (he : PE X e (tOn pk c en f)) (he2 : PE X e2 (tOn pk c en f2)) (hs : starEach [e, e2] X.env = (false, eval e X.env) :: starEach [e2] X.env) (hs2 : starEach [e2] X.env = (false, eval e2 X.env) :: starEach [] X.env) :
    PI X tg (.Call (.Name "range" p) [e, e2] [] pos) (tI pk c en fun ρ t => bnd (f ρ t) fun x t => bnd (f2 ρ t) fun y t => match x, y with
    | .int m, .int n => if n ≤ 1000000 ∧ -1000000 ≤ n ∧ m ≤ 1000000 ∧ -1000000 ≤ m then .ok (range2 m n) t else .no
    | _, _ => .no) := (pi_range2 hg hm (pa_cons he (pa_cons he2 pa_nil hs2) hs) (by rw [hs, hs2]; rfl) hs2).imp fun σ H R ⟨ρ, t, g, s0, r⟩ => by
  refine ⟨ρ, t, g, s0, (run_bnd r).mono fun x t1 r1 v1 g1 H1 st1 s1 rp1 => ⟨ρ, t1, g1, s0.step st1 s1, (run_bnd r1).mono fun y t2 r2 v2 g2 H2 st2 s2 rp2 => ?_⟩⟩
  cases x with
  | int m =>
    cases y with
    | int n =>
      cases RO.int rp1
      cases RO.int rp2
      by_cases hn : n ≤ 1000000 ∧ -1000000 ≤ n ∧ m ≤ 1000000 ∧ -1000000 ≤ m
      · simp only [if_pos hn] at r2
        refine ⟨m, n, rfl, by omega, (show ∀ J g' H', Step g H g' H' → StH c g' H' t2 → WalkD c (Lat pk g' H') J (range2 m n) → R J H' from r2) _ g2 H2 (st1.trans st2) s2 ?_⟩
        exact walk_range (c := c) (P := Lat pk g2 H2) m (n - m).toNat (by unfold sz; omega)
      · simp only [if_neg hn] at r2; exact r2.elim
    | _ => exact r2.elim
  | _ => cases y <;> exact r2.elim
theorem snd_enm {elts : List Expr} {kk : Nat} {tpos : Pos} (hK : c.K = X.K) (hg : Gl X "enumerate") (hm : X.mg "enumerate" = none) (he : PE X e (tOn pk c en f)) (hs : starEach [e] X.env = (false, eval e X.env) :: starEach [] X.env) :
    PI X (.Tuple elts kk tpos) (.Call (.Name "enumerate" p) [e] [] pos) (tI pk c en fun ρ t => bnd (f ρ t) fun x t => match x with
    | .lst xs => .ok (enumF 0 xs) t
    | _ => .no) := (pi_enum hg hm (pa_cons he pa_nil hs) hs).imp fun σ H R ⟨ρ, t, g, s0, r⟩ => by
  refine ⟨ρ, t, g, s0, (run_bnd r).mono fun x t1 r1 v1 g1 H1 st1 s1 rp => ?_⟩
  cases x with
  | lst xs =>
    obtain ⟨l, a, vs, rfl, q0, rr, hw⟩ := RO.lst s1 rp
    have hq := (hw g1 H1 Lat.refl).1
    rw [hK] at hq
    refine ⟨a, vs, rfl, hq, (show ∀ J g' H', Step g H g' H' → StH c g' H' t1 → WalkD c (Lat pk g' H') J (enumF 0 xs) → R J H' from r1) _ g1 H1 st1 s1 ?_⟩
    rw [← hK]; exact walk_enum l hw
  | _ => exact r1.elim
theorem snd_zip {elts : List Expr} {kk : Nat} {tpos : Pos} (hK : c.K = X.K) (hg : Gl X "zip") (hm : X.mg "zip" = none) (he : PE X e (tOn pk c en f)) (he2 : PE X e2 (tOn pk c en f2)) (hs : starEach [e, e2] X.env = (false, eval e X.env) :: starEach [e2] X.env) (hs2 : starEach [e2] X.env = (false, eval e2 X.env) :: starEach [] X.env) (hpl : (backTo pos (starEach [e2] X.env)).any (·.1) = false) :
    PI X (.Tuple elts kk tpos) (.Call (.Name "zip" p) [e, e2] [] pos) (tI pk c en fun ρ t => bnd (f ρ t) fun x t => bnd (f2 ρ t) fun y t => match x, y with
    | .lst xs, .lst ys => .ok (zipD xs ys) t
    | .tup xs, .tup ys => .ok (zipD xs ys) t
    | _, _ => .no) := (RZ.pi_zipA hg hm (pa_cons he (pa_cons he2 pa_nil hs2) hs) hs hpl).imp fun σ H R ⟨ρ, t, g, s0, r⟩ => by
  refine ⟨ρ, t, g, s0, (run_bnd r).mono fun x t1 r1 v1 g1 H1 st1 s1 rp1 => ⟨ρ, t1, g1, s0.step st1 s1, (run_bnd r1).mono fun y t2 r2 v2 g2 H2 st2 s2 rp2 => ?_⟩⟩
  have rp1 := RO.step s1 st2 rp1
  cases x with
  | lst xs =>
    cases y with
    | lst ys =>
      obtain ⟨l, a, vs, rfl, q0, rr, hw⟩ := RO.lst s2 rp1
      obtain ⟨l2, b, ws, rfl, q2, rr2, hw2⟩ := RO.lst s2 rp2
      have hq := (hw g2 H2 Lat.refl).1
      have hq2 := (hw2 g2 H2 Lat.refl).1
      rw [hK] at hq hq2
      refine ⟨a, b, vs, ws, rfl, .inl ⟨hq, hq2, (show ∀ J g' H', Step g H g' H' → StH c g' H' t2 → WalkD c (Lat pk g' H') J (zipD xs ys) → R J H' from r2) _ g2 H2 (st1.trans st2) s2 ?_⟩⟩
      rw [← hK]; exact walk_zip l hw hw2
    | _ => exact r2.elim
  | tup xs =>
    cases y with
    | tup ys =>
      obtain ⟨l, a, vs, rfl, q0, rr, hw⟩ := RO.tup s2 rp1
      obtain ⟨l2, b, ws, rfl, q2, rr2, hw2⟩ := RO.tup s2 rp2
      have hq := (hw g2 H2 Lat.refl).1
      have hq2 := (hw2 g2 H2 Lat.refl).1
      rw [hK] at hq hq2
      refine ⟨a, b, vs, ws, rfl, .inr ⟨hq, hq2, (show ∀ J g' H', Step g H g' H' → StH c g' H' t2 → WalkD c (Lat pk g' H') J (zipD xs ys) → R J H' from r2) _ g2 H2 (st1.trans st2) s2 ?_⟩⟩
      rw [← hK]; exact walk_zipT l hw hw2
    | _ => exact r2.elim
  | _ => cases y <;> exact r2.elim
end

/-! ### comprehensions -/
def rm (H : Hp) (p : Addr) : Hp := fun a => if a = p then none else H a
theorem rm_ne {H : Hp} {p a : Addr} (h : a ≠ p) : rm H p a = H a := if_neg h
theorem rm_same {H : Hp} {p : Addr} : rm H p p = none := if_pos rfl
theorem upd_rm {H : Hp} {p : Addr} {o : HO} (h : H p = some o) : upd (rm H p) p o = H := by
  funext a
  by_cases ha : a = p
  · subst ha; rw [upd_same, h]
  · rw [upd_ne ha, rm_ne ha]
theorem upd_upd {H : Hp} {p : Addr} {o u : HO} : upd (upd H p o) p u = upd H p u := by
  funext a
  by_cases ha : a = p
  · subst ha; rw [upd_same, upd_same]
  · rw [upd_ne ha, upd_ne ha, upd_ne ha]
/-- the list at p that grows, known to no one else -/
def AccR (c : Cn) (g1 : Gh) (H1 : Hp) (g : Gh) (H : Hp) (t : T) (p : Addr) (xs : List D) : Prop := ∃ vs Hx, H = upd Hx p (.lst vs) ∧ Hx p = none ∧ Step g1 H1 g Hx ∧ StH c g Hx t ∧ Reps c g Hx vs xs
section
variable {c : Cn} {g1 g g' : Gh} {H1 H H' : Hp} {t t' : T} {p : Addr} {xs : List D}
theorem AccR.here (a : AccR c g1 H1 g H t p xs) : Step g1 H1 g H ∧ StH c g H t := by
  obtain ⟨vs, Hx, rfl, hp, st, s, r⟩ := a
  exact ⟨st.trans (Step.alloc hp), s.alloc hp⟩
theorem AccR.step (a : AccR c g1 H1 g H t p xs) (st : Step g H g' H') (s' : StH c g' H' t') : ∃ vs, H' p = some (.lst vs) ∧ vs.length = xs.length ∧ Step g1 H1 g' (rm H' p) ∧ StH c g' (rm H' p) t' ∧ Reps c g' (rm H' p) vs xs ∧ ∀ v d, Rep c g' H' v d → Rep c g' (rm H' p) v d := by
  obtain ⟨vs, Hx, rfl, hp, st1, s, r⟩ := a
  have nf : ¬ g.fz p := fun z => s.tr p z hp
  have no : p ∉ g.ob := fun z => s.there z hp
  have e1 : H' p = some (.lst vs) := st.keep p _ upd_same no
  have nf' : ¬ g'.fz p := fun z => by
    rcases st.fzn p z with z | z
    · exact nf z
    · rw [upd_same] at z; cases z
  have no' : p ∉ g'.ob := fun z => by
    rcases st.obn p z with z | z
    · exact no z
    · rw [upd_same] at z; cases z
  have m : Mo g' H' g' (rm H' p) := ⟨fun a h => ⟨h, rm_ne fun z => nf' (z ▸ h)⟩, List.prefix_refl _⟩
  have stx : Step g Hx g' (rm H' p) := ⟨st.pre, st.fzm, fun a h => by
      by_cases ha : a = p
      · exact absurd (ha ▸ h) nf'
      · rcases st.fzn a h with z | z
        · exact .inl z
        · rw [upd_ne ha] at z; exact .inr z, fun a h => by
      by_cases ha : a = p
      · exact absurd (ha ▸ h) no'
      · rcases st.obn a h with z | z
        · exact .inl z
        · rw [upd_ne ha] at z; exact .inr z, fun a o h n => by
      have ha : a ≠ p := fun z => by rw [z, hp] at h; cases h
      rw [rm_ne ha]; exact st.keep a o (by rw [upd_ne ha]; exact h) n, fun a h => by
      have ha : a ≠ p := fun z => by rw [z, hp] at h; exact h rfl
      rw [rm_ne ha]; exact st.tr a (by rw [upd_ne ha]; exact h)⟩
  refine ⟨vs, e1, Reps.length r, st1.trans stx, ⟨s'.len, s'.nd, s'.nf, fun a h => by
      have ha : a ≠ p := fun z => nf' (by rw [z] at h; exact h)
      rw [rm_ne ha]; exact s'.tr a h, fun i a o h1 h2 => (s'.obs i a o h1 h2).mono m (rm_ne fun z => no' (z ▸ List.mem_of_getElem? h1))⟩, Reps.mono (stx.mo s) xs vs r, fun v d h => Rep.mono m d v h⟩
theorem AccR.go (a : AccR c g1 H1 g H t p xs) (st : Step g H g' H') (s' : StH c g' H' t') : AccR c g1 H1 g' H' t' p xs := by
  obtain ⟨vs, e, _, st2, s2, r2, _⟩ := a.step st s'
  exact ⟨vs, rm H' p, (upd_rm e).symm, rm_same, st2, s2, r2⟩
theorem AccR.push (a : AccR c g1 H1 g H t p xs) {v : V} {d : D} (r : Rep c g H v d) : ∃ vs, H p = some (.lst vs) ∧ vs.length = xs.length ∧ AccR c g1 H1 g (upd H p (.lst (vs ++ [v]))) t p (xs ++ [d]) := by
  obtain ⟨_, s⟩ := a.here
  obtain ⟨vs, e, l, st2, s2, r2, k⟩ := a.step Step.refl s
  refine ⟨vs, e, l, vs ++ [v], rm H p, ?_, rm_same, st2, s2, Reps.append r2 ⟨v, [], rfl, k v d r, rfl⟩⟩
  funext a
  by_cases ha : a = p
  · subst ha; rw [upd_same, upd_same]
  · rw [upd_ne ha, upd_ne ha, rm_ne ha]
end
theorem unset_length : ∀ (is : List Nat) (ρ : Env), (unset ρ is).length = ρ.length
  | [], _ => rfl
  | i :: r, ρ => by show (unset (put ρ i .un) r).length = _; rw [unset_length r, put_length]
theorem look_unset : ∀ (is : List Nat) (ρ : Env) (j : Nat), (j ∈ is → look (unset ρ is) j = .un) ∧ (j ∉ is → look (unset ρ is) j = look ρ j)
  | [], ρ, j => ⟨fun h => absurd h (by simp), fun _ => rfl⟩
  | i :: r, ρ, j => by
    have ih := look_unset r (put ρ i .un) j
    refine ⟨fun h => ?_, fun h => ?_⟩
    · by_cases hj : j ∈ r
      · exact ih.1 hj
      · have hji : j = i := (List.mem_cons.mp h).resolve_right hj
        show look (unset (put ρ i .un) r) j = _
        rw [ih.2 hj, look_put]
        split
        · rfl
        · rename_i n
          have : ρ.length ≤ j := by
            have : ¬ i < ρ.length := fun z => n ⟨z, hji⟩
            omega
          exact look_out ρ j this
    · have h1 : j ≠ i := fun z => h (z ▸ List.mem_cons_self)
      have h2 : j ∉ r := fun z => h (List.mem_cons_of_mem _ z)
      show look (unset (put ρ i .un) r) j = _
      rw [ih.2 h2, look_put, if_neg fun z => h1 z.2]
theorem SR.wipe {c : Cn} {en : En} {g : Gh} {σ : L2.St} {H : Hp} {ρ : Env} {t : T} (s : SR c en g σ H ρ t) (is : List Nat) : SR c en g (wipe σ is) H (Pd.unset ρ is) t where
  st := s.st
  ent := s.ent
  len := by rw [unset_length, wipe_length]; exact s.len
  cell := fun j => by
    by_cases hj : j ∈ is
    · rw [(look_unset is ρ j).1 hj]; trivial
    · rw [(look_unset is ρ j).2 hj, wipe_out hj]; exact s.cell j
  dis := fun i j a h1 h2 e1 e2 => by
    have hi : i ∉ is := fun z => by rw [(look_unset is ρ i).1 z] at h1; cases h1
    have hj : j ∉ is := fun z => by rw [(look_unset is ρ j).1 z] at h2; cases h2
    rw [(look_unset is ρ i).2 hi] at h1
    rw [(look_unset is ρ j).2 hj] at h2
    rw [wipe_out hi] at e1
    rw [wipe_out hj] at e2
    exact s.dis i j a h1 h2 e1 e2
theorem wipe_in {σ : L2.St} {i : Nat} : ∀ {vs : List Nat}, i ∈ vs → (wipe σ vs)[i]? = if i < σ.length then some none else none
  | [], h => absurd h (by simp)
  | v :: vs, h => by
    unfold wipe
    by_cases hv : v = i
    · subst hv
      by_cases hl : v < σ.length
      · rw [List.getElem?_set_self (by rw [wipe_length]; exact hl), if_pos hl]
      · rw [if_neg hl, List.getElem?_eq_none (by rw [List.length_set, wipe_length]; omega)]
    · rw [List.getElem?_set_ne hv]
      exact wipe_in ((List.mem_cons.mp h).resolve_left fun z => hv z.symm)
theorem wipe_eq {σ τ : L2.St} {vs : List Nat} (l : τ.length = σ.length) (h : ∀ i, i ∉ vs → τ[i]? = σ[i]?) : wipe τ vs = wipe σ vs := by
  apply List.ext_getElem?
  intro i
  by_cases hi : i ∈ vs
  · rw [wipe_in hi, wipe_in hi, l]
  · rw [wipe_out hi, wipe_out hi, h i hi]
theorem wipe_wipe {σ : L2.St} {vs : List Nat} : wipe (wipe σ vs) vs = wipe σ vs := wipe_eq (wipe_length σ vs) fun i hi => wipe_out hi
/-- one turn of a comprehension -/
def turnF (gt : Tg) (own : List Nat) (ft : Env → T → R Bool) (fe : Env → T → R D) (ρ : Env) (x : D) (t : T) : R (Option D) :=
  match asgT gt x (unset ρ own) with
  | none => .no
  | some ρ => bnd (ft ρ t) fun k t => if k then bnd (fe ρ t) fun d t => .ok (some d) t else .ok none t
theorem comp_core {c : Cn} {en : En} {gt : Tg} {own : List Nat} {fs : Env → T → R (List D)} {ft : Env → T → R Bool} {fe : Env → T → R D} {σ : L2.St} {H : Hp} {Q : VK} (hown : ∀ i ∈ tgS gt, i ∈ own)
    (h : tE c en true (fun ρ t => bnd (fs ρ t) fun xs t => bnd (compL (turnF gt own ft fe ρ) xs t) fun ds t => .ok (.lst ds) t) σ H Q) :
    tLc (tI true c en fs) (gD c en gt) (tT c en ft) (tE c en false fe) own σ H Q := by
  obtain ⟨ρ, t, g, s, r⟩ := h
  refine ⟨ρ, t, g, s, (run_bnd r).mono fun ds t1 r1 J g1 H1 st1 s1 wk D0 hD => ?_⟩
  refine ⟨fun i m H' => m = ds.length - i ∧ i ≤ ds.length ∧ ∃ g' t' xs, AccR c g1 H1 g' H' t' D0 xs ∧ xs.length ≤ i ∧ run (compL (turnF gt own ft fe ρ) (ds.drop i) t') (fun rest t'' => KL c g H t'' (xs ++ rest) Q), ⟨ds.length, rfl, Nat.zero_le _, g1, t1, [], ⟨[], H1, rfl, hD, Step.refl, s1, rfl⟩, Nat.le_refl _, ?_⟩, ?_⟩
  · rw [List.drop_zero]
    exact (run_bnd r1).mono fun rest t'' k => k
  · rintro i m H' ⟨rfl, hi, g', t', xs, acc, hx, rn⟩
    obtain ⟨stH, sH⟩ := acc.here
    by_cases hlt : i < ds.length
    · refine .inr ⟨wk.go g' H' t' i stH sH hlt, fun Hn => i + 1 ≤ ds.length ∧ ∃ g' t' xs, AccR c g1 H1 g' Hn t' D0 xs ∧ xs.length ≤ i + 1 ∧ run (compL (turnF gt own ft fe ρ) (ds.drop (i + 1)) t') (fun rest t'' => KL c g H t'' (xs ++ rest) Q), fun Hn ⟨h1, h2⟩ => ⟨ds.length - (i + 1), by omega, rfl, h1, h2⟩, fun x H2 y => ?_⟩
      have hd : ds[i]? = some ds[i] := List.getElem?_eq_getElem hlt
      obtain ⟨g2, st2, s2, rx⟩ := wk.yld g' H' t' i x H2 _ stH sH hd y
      have acc2 := acc.go st2 s2
      rw [List.drop_eq_getElem_cons hlt] at rn
      simp only [compL] at rn
      have rn := run_bnd rn
      have e0 : turnF gt own ft fe ρ ds[i] t' = (match asgT gt ds[i] (unset ρ own) with
        | none => .no
        | some ρ => bnd (ft ρ t') fun k t => if k then bnd (fe ρ t) fun d t => .ok (some d) t else .ok none t) := rfl
      rw [e0] at rn
      cases ha : asgT gt ds[i] (unset ρ own) with
      | none => rw [ha] at rn; exact rn.elim
      | some ρ' =>
        rw [ha] at rn
        have sw : SR c en g2 (L2.wipe σ own) H2 (Pd.unset ρ own) t' := (s.step ((st1.trans stH).trans st2) s2).wipe own
        refine ⟨_, t', g2, _, ρ', sw, rx, ha, fun σ' sσ lσ fσ => ⟨?_, ρ', t', g2, sσ, (run_bnd rn).mono fun b t3 r3 g3 H3 st3 s3 => ?_⟩⟩
        · rw [wipe_eq (σ := L2.wipe σ own) lσ fun j hj => fσ j fun z => hj (hown j z), wipe_wipe]
        · have acc3 := acc2.go st3 s3
          cases b with
          | false =>
            show _ ∧ _
            refine ⟨hlt, g3, t3, xs, acc3, by omega, ?_⟩
            exact (run_bnd r3).mono fun rest t'' k => k
          | true =>
            have r3 := run_bnd (show run (bnd (fe ρ' t3) fun d t => .ok (some d) t) _ from r3)
            show tE c en false fe σ' H3 _
            refine ⟨ρ', t3, g3, sσ.step st3 s3, r3.mono fun d t4 r4 => ?_⟩
            rw [KF.fls]
            intro y g4 H4 st4 s4 ry
            obtain ⟨vs, e1, l1, acc5⟩ := (acc3.go st4 s4).push ry
            refine ⟨vs, e1, ?_, hlt, g4, t4, xs ++ [d], acc5, by rw [List.length_append]; simp; omega, ?_⟩
            · rw [szL, l1]; have := wk.len; omega
            · exact (run_bnd r4).mono fun rest t'' k => by
                have k : KL c g H t'' (xs ++ d :: rest) Q := k
                rw [List.append_assoc]; exact k
    · have hi2 : i = ds.length := by omega
      subst hi2
      refine .inl ⟨wk.stop g' H' t' _ stH sH (Nat.le_refl _), ?_⟩
      rw [List.drop_length] at rn
      have k : KL c g H t' (xs ++ []) Q := rn
      rw [List.append_nil] at k
      obtain ⟨vs, Hx, rfl, hp, st, s', rr⟩ := acc
      exact k D0 vs g' Hx (st1.trans st) s' hp rr (Nat.le_trans hx wk.len)
section
variable {X : Cx} {c : Cn} {en : En} {elt tg iter : Expr} {ifs : List Expr} {scope : Scope} {own : List (PySem.Str × Nat)} {pos spos : Pos} {gt : Tg} {fs : Env → T → R (List D)} {ft : Env → T → R Bool} {fe : Env → T → R D}
theorem snd_comp (hc : X.calm = true) (hN : X.N.Nodup) (hi : PI X tg iter (tI true c en fs)) (ok : BlkOk X.N X.env.scope scope own) (hown : ∀ i ∈ tgS gt, i ∈ own.map (·.2))
    (hg : ∀ (s : Shared) (H : Hp) (C : Addr) (cl : List (PySem.Str × Addr)) (fp : List Addr), PG (X.blk s H scope (compEnvC scope cl C X.env) fp) tg (gD c en gt))
    (ht : ∀ (s : Shared) (H : Hp) (C : Addr) (cl : List (PySem.Str × Addr)) (fp : List Addr), PTs (X.blk s H scope (compEnvC scope cl C X.env) fp) ifs (tT c en ft))
    (he : ∀ (s : Shared) (H : Hp) (C : Addr) (cl : List (PySem.Str × Addr)) (fp : List Addr), PE (X.blk s H scope (compEnvC scope cl C X.env) fp) elt (tE c en false fe)) (hs : ∀ x, foldedSetIterable iter X.env x = pure x) :
    PE X (.ListComp elt [⟨tg, iter, ifs, 0⟩] scope pos) (tE c en true fun ρ t => bnd (fs ρ t) fun xs t => bnd (compL (turnF gt (own.map (·.2)) ft fe ρ) xs t) fun ds t => .ok (.lst ds) t) :=
  (pe_lc hc hN hi ok hg ht he hs).imp fun σ H Q h => comp_core hown h
end
end Pd
set_option Elab.async false
set_option linter.all false
set_option maxRecDepth 100000
set_option autoImplicit false
/-! Pd: statements. -/
namespace Pd
open PySem PySem.Spec PyProof.Rows L2 TL Bits

/-- what a statement leaves -/
def outK (c : Cn) (en : En) (g : Gh) (H : Hp) (W : Ends) : Out → Prop
  | .nx ρ t => ∀ σ' g' H', Mo g H g' H' → SR c en g' σ' H' ρ t → W.nx σ' H'
  | .brk ρ t => ∀ σ' g' H', Mo g H g' H' → SR c en g' σ' H' ρ t → W.bk σ' H'
  | .cont ρ t => ∀ σ' g' H', Mo g H g' H' → SR c en g' σ' H' ρ t → W.ct σ' H'
  | .ret d t => ∀ v g' H', Step en.g en.H g' H' → StH c g' H' t → Rep c g' H' v d → W.rt v H'
  | .ex _ _ _ => False
  | .no => False
def tS (c : Cn) (en : En) (f : Env → T → Out) : TS := fun W σ H => ∃ ρ t g, SR c en g σ H ρ t ∧ outK c en g H W (f ρ t)
section
variable {c : Cn} {en : En} {g : Gh} {σ : L2.St} {H : Hp} {ρ : Env} {t : T} {W : Ends}
theorem outK.mo {g' : Gh} {H' : Hp} {o : Out} (m : Mo g H g' H') (h : outK c en g H W o) : outK c en g' H' W o := by
  cases o with
  | nx ρ t => exact fun σ1 g1 H1 m1 => h σ1 g1 H1 (m.trans m1)
  | brk ρ t => exact fun σ1 g1 H1 m1 => h σ1 g1 H1 (m.trans m1)
  | cont ρ t => exact fun σ1 g1 H1 m1 => h σ1 g1 H1 (m.trans m1)
  | ret d t => exact h
  | ex _ _ _ => exact h
  | no => exact h
theorem outK.bo {α : Type} {r : R α} {k : α → T → Out} (h : outK c en g H W (bo r k)) : run r fun a t => outK c en g H W (k a t) := by
  cases r <;> exact h
/-- the names that get out are frozen first -/
theorem SR.frz (s : SR c en g σ H ρ t) {o : Out} (is : List Nat) (h : outK c en g H W o) : ∃ g', SR c en g' σ H (frzAll ρ is) t ∧ outK c en g' H W o := by
  obtain ⟨g', m, s'⟩ := s.freeze is
  exact ⟨g', s', h.mo m⟩
theorem outK.nx {g' : Gh} {H' : Hp} {σ' : L2.St} {ρ' : Env} {t' : T} (h : outK c en g H W (.nx ρ' t')) (m : Mo g H g' H') (s : SR c en g' σ' H' ρ' t') : W.nx σ' H' := h σ' g' H' m s
end

/-! ### sequences -/
section
variable {X : Cx} {c : Cn} {en : En} {pos pos' : Pos}
theorem snd_ssnil : PSs X [] (tS c en fun ρ t => .nx ρ t) := pss_nil.imp fun W σ H ⟨ρ, t, g, s, k⟩ => outK.nx k Mo.refl s
theorem snd_sscons {st : Stmt} {sts : List Stmt} {f f2 : Env → T → Out} (h1 : PS X st (tS c en f)) (h2 : PSs X sts (tS c en f2)) : PSs X (st :: sts) (tS c en fun ρ t => thenK (f ρ t) f2) := (pss_cons h1 h2).imp fun W σ H ⟨ρ, t, g, s, k⟩ => by
  refine ⟨ρ, t, g, s, ?_⟩
  have k : outK c en g H W (thenK (f ρ t) f2) := k
  cases ho : f ρ t with
  | nx ρ1 t1 =>
    rw [ho] at k
    exact fun σ' g' H' m s' => ⟨ρ1, t1, g', s', outK.mo m k⟩
  | brk ρ1 t1 => rw [ho] at k; exact k
  | cont ρ1 t1 => rw [ho] at k; exact k
  | ret d t1 => rw [ho] at k; exact k
  | ex _ _ _ => rw [ho] at k; exact k
  | no => rw [ho] at k; exact k
theorem snd_sfg {sts : List Stmt} {f2 : Env → T → Out} (is : List Nat) (h2 : PSs X sts (tS c en f2)) : PSs X sts (tS c en fun ρ t => thenK (.nx (unset ρ is) t) f2) := h2.imp fun W σ H ⟨ρ, t, g, s, k⟩ => ⟨unset ρ is, t, g, s.unset is, k⟩
theorem snd_pass : PS X (.Pass pos) (tS c en fun ρ t => .nx ρ t) := ps_pass.imp fun W σ H ⟨ρ, t, g, s, k⟩ => outK.nx k Mo.refl s
theorem snd_brk : PS X (.Break pos) (tS c en fun ρ t => .brk ρ t) := ps_break.imp fun W σ H ⟨ρ, t, g, s, k⟩ => (show ∀ σ' g' H', Mo g H g' H' → SR c en g' σ' H' ρ t → W.bk σ' H' from k) σ g H Mo.refl s
theorem snd_cont : PS X (.Continue pos) (tS c en fun ρ t => .cont ρ t) := ps_continue.imp fun W σ H ⟨ρ, t, g, s, k⟩ => (show ∀ σ' g' H', Mo g H g' H' → SR c en g' σ' H' ρ t → W.ct σ' H' from k) σ g H Mo.refl s
theorem snd_retn : PS X (.Return none pos) (tS c en fun _ t => .ret .non t) := ps_retN.imp fun W σ H ⟨ρ, t, g, s, k⟩ => (show ∀ v g' H', Step en.g en.H g' H' → StH c g' H' t → Rep c g' H' v .non → W.rt v H' from k) .non g H s.ent s.st rfl
theorem snd_doc {x : PySem.Str} {j : _} : PS X (.Expr (.Constant (.str x) j pos) pos') (tS c en fun ρ t => .nx ρ t) := ps_doc.imp fun W σ H ⟨ρ, t, g, s, k⟩ => outK.nx k Mo.refl s
theorem snd_snever {st : Stmt} : PS X st (tS c en fun _ _ => .no) := ps_never.imp fun W σ H ⟨ρ, t, g, s, k⟩ => k
theorem snd_ret {e : Expr} {fe : Env → T → R D} (is : List Nat) (he : PE X e (tE c en false fe)) : PS X (.Return (some e) pos) (tS c en fun ρ t => bo (fe (frzAll ρ is) t) fun d t => .ret d t) := (ps_ret he).imp fun W σ H ⟨ρ, t, g, s, k⟩ => by
  obtain ⟨g0, s0, k⟩ := s.frz is k
  refine ⟨_, t, g0, s0, k.bo.mono fun d t1 k1 => ?_⟩
  rw [KF.fls]
  exact fun v g1 H1 st1 s1 r1 => (show ∀ v g' H', Step en.g en.H g' H' → StH c g' H' t1 → Rep c g' H' v d → W.rt v H' from k1) v g1 H1 (s0.ent.trans st1) s1 r1
theorem snd_exp {e : Expr} {fe : Env → T → R D} (is : List Nat) (he : PE X e (tE c en false fe)) (hs : swapsWith e none pos.line X.env = pure false) : PS X (.Expr e pos) (tS c en fun ρ t => bo (fe (frzAll ρ is) t) fun _ t => .nx (frzAll ρ is) t) := (ps_expr he hs).imp fun W σ H ⟨ρ, t, g, s, k⟩ => by
  obtain ⟨g0, s0, k⟩ := s.frz is k
  refine ⟨_, t, g0, s0, k.bo.mono fun d t1 k1 => ?_⟩
  rw [KF.fls]
  exact fun v g1 H1 st1 s1 r1 => outK.nx k1 (st1.mo s0.st) (s0.step st1 s1)
theorem snd_if {e : Expr} {a b : List Stmt} {fc : Env → T → R Bool} {fa fb : Env → T → Out} (is : List Nat) (hc : PT X e (tT c en fc)) (ha : PSs X a (tS c en fa)) (hb : PSs X b (tS c en fb)) :
    PS X (.If e a b pos) (tS c en fun ρ t => bo (fc (frzAll ρ is) t) fun k t => if k then fa (frzAll ρ is) t else fb (frzAll ρ is) t) := (ps_if hc ha hb).imp fun W σ H ⟨ρ, t, g, s, k⟩ => by
  obtain ⟨g0, s0, k⟩ := s.frz is k
  refine ⟨_, t, g0, s0, k.bo.mono fun d t1 k1 g1 H1 st1 s1 => ?_⟩
  cases d with
  | true => exact ⟨_, t1, g1, s0.step st1 s1, outK.mo (st1.mo s0.st) k1⟩
  | false => exact ⟨_, t1, g1, s0.step st1 s1, outK.mo (st1.mo s0.st) k1⟩

/-! ### stores -/
theorem asg_core {fr : Bool} {i : Nat} {fe : Env → T → R D} (is : List Nat) {W : Ends} {σ : L2.St} {H : Hp} (h : tS c en (fun ρ t => bo (fe (frzAll ρ is) t) fun d t => asgK fr (.nm i) (frzAll ρ is) d t) W σ H) :
    tE c en fr fe σ H (fun x H1 => W.nx (σ.set i (some x)) H1) := by
  obtain ⟨ρ, t, g, s, k⟩ := h
  obtain ⟨g0, s0, k⟩ := s.frz is k
  refine ⟨_, t, g0, s0, k.bo.mono fun d t1 k1 => ?_⟩
  have hl : i < (frzAll ρ is).length := by
    by_cases hl : i < (frzAll ρ is).length
    · exact hl
    · simp only [asgK, if_neg hl] at k1; exact k1.elim
  simp only [asgK, if_pos hl] at k1
  unfold KF
  split
  · intro p vs g1 H1 st1 s1 hp r l
    have k1 : outK c en g0 H W (.nx (put (frzAll ρ is) i (.own _)) t1) := k1
    have s2 := s0.step st1 s1
    exact outK.nx k1 ((st1.trans (Step.alloc hp)).mo s0.st) (s2.storeOwn hl hp r l)
  · rename_i hn
    intro v g1 H1 st1 s1 r1
    have e : cellOf fr d = .val d := by
      unfold cellOf
      split
      · exact absurd rfl (hn _ rfl)
      · rfl
    rw [e] at k1
    exact outK.nx k1 (st1.mo s0.st) ((s0.step st1 s1).store hl r1)
theorem snd_asg {fr : Bool} {i : Nat} {x : PySem.Str} {e : Expr} {fe : Env → T → R D} (is : List Nat) (hN : X.N.Nodup) (hi : X.N[i]? = some x) (hx : Loc X.env.scope x) (hf : X.fn x = true ∨ X.env.scope.names.lookup x = some .local) (he : PE X e (tE c en fr fe)) (hs : swapsWith e (some (.Name x pos')) pos.line X.env = pure false) :
    PS X (.Assign [.Name x pos'] e pos) (tS c en fun ρ t => bo (fe (frzAll ρ is) t) fun d t => asgK fr (.nm i) (frzAll ρ is) d t) := (ps_set hN hi hx he hs hf).imp fun W σ H h => asg_core is h
theorem snd_asgLc {i : Nat} {y : PySem.Str} {elt tg iter : Expr} {ifs : List Expr} {scope : Scope} {own : List (PySem.Str × Nat)} {p2 : Pos} {gt : Tg} {fs : Env → T → R (List D)} {ft : Env → T → R Bool} {fe : Env → T → R D} (is : List Nat) (hc : X.calm = true) (hN : X.N.Nodup) (hy : X.N[i]? = some y) (hyl : X.env.scope.names.lookup y = some .local)
    (hsw : swapsWith (.ListComp elt [⟨tg, iter, ifs, 0⟩] scope p2) (some (.Name y pos')) pos.line X.env = pure true) (hi : PI X tg iter (tI true c en fs)) (ok : BlkOk X.N X.env.scope scope own) (hown : ∀ i ∈ tgS gt, i ∈ own.map (·.2))
    (hg : ∀ (s : Shared) (H : Hp) (C : Addr) (cl : List (PySem.Str × Addr)) (fp : List Addr), PG (X.blk s H scope (compEnvC scope cl C X.env) fp) tg (gD c en gt))
    (ht : ∀ (s : Shared) (H : Hp) (C : Addr) (cl : List (PySem.Str × Addr)) (fp : List Addr), PTs (X.blk s H scope (compEnvC scope cl C X.env) fp) ifs (tT c en ft))
    (he : ∀ (s : Shared) (H : Hp) (C : Addr) (cl : List (PySem.Str × Addr)) (fp : List Addr), PE (X.blk s H scope (compEnvC scope cl C X.env) fp) elt (tE c en false fe)) (hs : ∀ x, foldedSetIterable iter X.env x = pure x) :
    PS X (.Assign [.Name y pos'] (.ListComp elt [⟨tg, iter, ifs, 0⟩] scope p2) pos) (tS c en fun ρ t => bo ((fun ρ t => bnd (fs ρ t) fun xs t => bnd (compL (turnF gt (own.map (·.2)) ft fe ρ) xs t) fun ds t => .ok (.lst ds) t) (frzAll ρ is) t) fun d t => asgK true (.nm i) (frzAll ρ is) d t) :=
  (ps_setLc hc hN hy hyl hsw hi ok hg ht he hs).imp fun W σ H h => comp_core hown (asg_core is h)
theorem snd_asgT {tg e : Expr} {fr : Bool} {gs : Tgs} {fe : Env → T → R D} (is : List Nat) (he : PE X e (tE c en false fe)) (hg : PG X tg (gD c en (.tp gs))) (hs : swapsWithSole [tg] e pos.line X.env = pure false) (hw : swappedStores [tg] e X.env = pure none)
    (h1 : (assignEach [tg] X.env).map (·.2) = [assign tg X.env]) : PS X (.Assign [tg] e pos) (tS c en fun ρ t => bo (fe (frzAll ρ is) t) fun d t => asgK fr (.tp gs) (frzAll ρ is) d t) := (ps_asg he hg hs hw h1).imp fun W σ H ⟨ρ, t, g, s, k⟩ => by
  obtain ⟨g0, s0, k⟩ := s.frz is k
  refine ⟨_, t, g0, s0, k.bo.mono fun d t1 k1 => ?_⟩
  rw [KF.fls]
  intro v g1 H1 st1 s1 r1
  cases ha : asgT (.tp gs) d (frzAll ρ is) with
  | none => simp only [asgK, ha] at k1; exact k1.elim
  | some ρ' =>
    simp only [asgK, ha] at k1
    exact ⟨_, t1, g1, d, ρ', s0.step st1 s1, r1, ha, fun σ' s' _ _ => outK.nx k1 (st1.mo s0.st) s'⟩

/-! ### own lists are changed -/
theorem SR.own {g : Gh} {σ : L2.St} {H : Hp} {ρ : Env} {t : T} {i : Nat} {ds : List D} (s : SR c en g σ H ρ t) (h : look ρ i = .own ds) : ∃ a vs, σ[i]? = some (some (.ref a)) ∧ H a = some (.lst vs) ∧ Reps c g H vs ds ∧ ds.length ≤ sz ∧ a ∉ g.ob ∧
    ∀ ws es, Reps c g H ws es → es.length ≤ sz → Mo g H g (upd H a (.lst ws)) ∧ SR c en g σ (upd H a (.lst ws)) (put ρ i (.own es)) t := by
  have q := s.cell i
  rw [h] at q
  obtain ⟨a, vs, h1, h2, h3, h4, h5, h6, h7⟩ := q
  refine ⟨a, vs, h1, h2, h3, h4, h6, fun ws es r l => ⟨⟨fun b hb => ⟨hb, upd_ne fun z => h5 (z ▸ hb)⟩, List.prefix_refl _⟩, s.change h h1 h2 r l⟩⟩
/-- a method that changes a list -/
def MuR (m : Mu) (r : V → List V → Hp → VK → Prop) : Prop := ∀ (c : Cn) (g : Gh) (H : Hp) (a : Addr) (vs us : List V) (ds es xs : List D) (Q : VK), H a = some (.lst vs) → Reps c g H vs ds → ds.length ≤ sz → Reps c g H us xs → muD m ds xs = some es →
  (∀ y ws, Reps c g H ws es → es.length ≤ sz → Q y (upd H a (.lst ws))) → r (.ref a) us H Q
theorem mu_append : MuR .append rAppend := by
  intro c g H a vs us ds es xs Q ha r l ru e k
  cases xs with
  | nil => simp [muD] at e
  | cons x xs =>
    cases xs with
    | cons _ _ => simp [muD] at e
    | nil =>
      obtain ⟨u, _, rfl, r1, r2⟩ := ru
      cases r2
      by_cases hl : ds.length < sz
      · simp only [muD, if_pos hl] at e; cases e
        exact ⟨a, vs, u, rfl, rfl, ha, by rw [szL, Reps.length r]; exact hl, k _ _ (Reps.append r ⟨u, [], rfl, r1, rfl⟩) (by rw [List.length_append]; exact hl)⟩
      · simp only [muD, if_neg hl] at e; cases e
theorem mu_pop : MuR .pop rPop := by
  intro c g H a vs us ds es xs Q ha r l ru e k
  cases xs with
  | cons _ _ => simp [muD] at e
  | nil =>
    cases ru
    by_cases hl : ds.length = 0
    · simp only [muD, if_pos hl] at e; cases e
    · simp only [muD, if_neg hl] at e; cases e
      have l2 := Reps.length r
      have hv : vs.length - 1 < vs.length := by omega
      refine ⟨a, vs, vs[vs.length - 1], rfl, rfl, ha, List.getElem?_eq_getElem hv, k _ _ ?_ (by rw [List.length_dropLast]; omega)⟩
      rw [List.dropLast_eq_take, List.dropLast_eq_take, l2]
      exact Reps.take _ r
theorem mu_popAt : MuR .popAt rPopAt := by
  intro c g H a vs us ds es xs Q ha r l ru e k
  cases xs with
  | nil => simp [muD] at e
  | cons x xs =>
    cases xs with
    | cons _ _ => cases x <;> simp [muD] at e
    | nil =>
      cases x with
      | int i =>
        obtain ⟨u, _, rfl, r1, r2⟩ := ru
        cases r2; cases r1
        obtain ⟨j, hj, rfl⟩ := Option.map_eq_some_iff.mp (show (Pd.ixN ds.length i).map (fun k => ds.eraseIdx k) = some es from e)
        obtain ⟨h1, h2, h3, h4⟩ := L2.ixN_seq (show L2.ixN ds.length i = some j from hj)
        have l2 := Reps.length r
        have hv : j < vs.length := by omega
        have hsz : ds.length ≤ 16777216 := l
        refine ⟨a, vs, i, j, vs[j], rfl, rfl, ha, by omega, by omega, by rw [l2]; exact h1, List.getElem?_eq_getElem hv, k _ _ (Reps.eraseIdx j r) ?_⟩
        have := List.length_eraseIdx_le ds j
        omega
      | _ => simp [muD] at e
theorem Reps.reverse {c : Cn} {g : Gh} {H : Hp} : ∀ {ds : List D} {vs : List V}, Reps c g H vs ds → Reps c g H vs.reverse ds.reverse
  | [], _, h => by cases h; rfl
  | d :: ds, vs, h => by
    obtain ⟨v, r, rfl, h1, h2⟩ := h
    rw [List.reverse_cons, List.reverse_cons]
    exact Reps.append (Reps.reverse h2) ⟨v, [], rfl, h1, rfl⟩
theorem mu_reverse : MuR .reverse rReverse := by
  intro c g H a vs us ds es xs Q ha r l ru e k
  cases xs with
  | cons _ _ => simp [muD] at e
  | nil =>
    cases ru
    simp only [muD] at e; cases e
    exact ⟨a, vs, rfl, rfl, ha, k _ _ (Reps.reverse r) (by rw [List.length_reverse]; exact l)⟩
theorem mu_extend : MuR .extend rExtend := by
  intro c g H a vs us ds es xs Q ha r l ru e k
  cases xs with
  | nil => simp [muD] at e
  | cons x xs =>
    cases xs with
    | cons _ _ => cases x <;> simp [muD] at e
    | nil =>
      cases x with
      | lst zs =>
        obtain ⟨u, _, rfl, r1, r2⟩ := ru
        cases r2
        obtain ⟨b, ws, rfl, _, hb, r3, l3⟩ := r1
        by_cases hl : ds.length + zs.length ≤ sz
        · simp only [muD, if_pos hl] at e; cases e
          exact ⟨a, b, vs, ws, rfl, rfl, ha, hb, by rw [szL, Reps.length r, Reps.length r3]; exact hl, k _ _ (Reps.append r r3) (by rw [List.length_append]; exact hl)⟩
        · simp only [muD, if_neg hl] at e; cases e
      | _ => simp [muD] at e
def rInsert : V → List V → Hp → VK → Prop := fun x vs H Q => ∃ (l : Addr) (xs : List V) (i : Int) (y : V), x = .ref l ∧ vs = [.int i, y] ∧ H l = some (.lst xs) ∧ xs.length < sizeLine ∧ 0 ≤ i ∧ i < 2 ^ 63 ∧
    Q .non (upd H l (.lst (xs.take i.toNat ++ [y] ++ xs.drop i.toNat)))
theorem mu_insert : MuR .insert rInsert := by
  intro c g H a vs us ds es xs Q ha r l ru e k
  cases xs with
  | nil => simp [muD] at e
  | cons x xs =>
    cases xs with
    | nil => cases x <;> simp [muD] at e
    | cons y xs =>
      cases xs with
      | cons _ _ => cases x <;> simp [muD] at e
      | nil =>
        cases x with
        | int i =>
          obtain ⟨u, _, rfl, r1, w, _, rfl, r2, r3⟩ := ru
          cases r3; cases r1
          by_cases hl : ds.length < sz ∧ 0 ≤ i ∧ i ≤ ds.length
          · simp only [muD, if_pos hl] at e; cases e
            have hsz : ds.length ≤ 16777216 := l
            refine ⟨a, vs, i, w, rfl, rfl, ha, by rw [szL, Reps.length r]; exact hl.1, hl.2.1, by omega, k _ _ ?_ ?_⟩
            · rw [List.append_assoc]
              exact Reps.append (Reps.take _ r) ⟨w, vs.drop i.toNat, rfl, r2, Reps.drop _ r⟩
            · rw [List.length_append, List.length_cons, List.length_take, List.length_drop]; omega
          · simp only [muD, if_neg hl] at e; cases e
        | _ => simp [muD] at e
end
end Pd
set_option Elab.async false
set_option linter.all false
set_option maxRecDepth 100000
set_option autoImplicit false
/-! Pd: statements: items, fields, methods that change a list, loops. -/
namespace Pd
open PySem PySem.Spec PyProof.Rows L2 TL Bits

section
variable {X : Cx} {c : Cn} {en : En} {pos pos' apos cpos npos : Pos}
/-! ### methods -/
theorem mut_core {m : Mu} {i : Nat} {r : V → List V → Hp → VK → Prop} {fs : Env → T → R (List D)} (is : List Nat) (hr : MuR m r) {W : Ends} {σ : L2.St} {H : Hp} (h : tS c en (fun ρ t => bo (fs (frzAll ρ is) t) fun xs t => mutK (frzAll ρ is) t m i xs) W σ H) :
    ∃ a : Addr, σ[i]? = some (some (.ref a)) ∧ (∃ vs, H a = some (.lst vs)) ∧ tAs c en fs σ H fun us H2 => r (.ref a) us H2 fun _ H1 => W.nx σ H1 := by
  obtain ⟨ρ, t, g, s, k⟩ := h
  obtain ⟨g0, s0, k⟩ := s.frz is k
  have k := k.bo
  obtain ⟨xs, t1, e1, k1⟩ := run_ok k
  cases hl : look (frzAll ρ is) i with
  | own ds =>
    obtain ⟨a, vs, h1, h2, _⟩ := s0.own hl
    refine ⟨a, h1, ⟨vs, h2⟩, _, t, g0, s0, ?_⟩
    rw [e1]
    intro us g1 H1 st1 s1 ru
    have s2 := s0.step st1 s1
    obtain ⟨a', vs', h1', h2', r', l', no, ch⟩ := s2.own hl
    rw [h1] at h1'; cases h1'
    simp only [mutK, hl] at k1
    cases hm : muD m ds xs with
    | none => rw [hm] at k1; exact k1.elim
    | some es =>
      rw [hm] at k1
      refine hr c g1 H1 a vs' us ds es xs _ h2' r' l' ru hm fun y ws rw' lw => ?_
      obtain ⟨m1, s3⟩ := ch ws es rw' lw
      exact outK.nx k1 ((st1.mo s0.st).trans m1) s3
  | un => simp only [mutK, hl] at k1; exact k1.elim
  | val _ => simp only [mutK, hl] at k1; exact k1.elim
  | loan _ => simp only [mutK, hl] at k1; exact k1.elim
theorem snd_mut {m : Mu} {i : Nat} {x name : PySem.Str} {id : String} {r : V → List V → Hp → VK → Prop} {e : Expr} {es : List Expr} {fs : Env → T → R (List D)} (is : List Nat) (hr : MuR m r) (slot : Slot "list" name id) (hty : typeOf (.builtin id) = pure (.type "method_descriptor")) (hm : MtR X id r)
    (hN : X.N[i]? = some x) (hv : Vis X.env.scope x) (hd : (x == ("__debug__" : PySem.Str)) = false) (hcd : (x == ("__classdict__" : PySem.Str)) = false) (ha : PA X (e :: es) (tAs c en fs))
    (hbase : attributeBase (.Name x npos) name X.env (eval (.Name x npos) X.env) = eval (.Name x npos) X.env)
    (hfew : ((backTo cpos (starEach (e :: es) X.env)).all (fun x => !x.1) && (backToKw cpos (keywordEach [] X.env)).all (fun x => x.1.isSome)
      && decide ((e :: es).length + ([] : List Keyword).length + (if ([] : List Keyword).isEmpty then 0 else 1) < 30)) = true)
    (hline : (apos.endLine == cpos.line) = true) (hs : starEach (e :: es) X.env = (false, eval e X.env) :: starEach es X.env) (hplain : (backTo cpos (starEach es X.env)).any (·.1) = false) (hsw : swapsWith (.Call (.Attribute (.Name x npos) name apos) (e :: es) [] cpos) none pos.line X.env = pure false) :
    PS X (.Expr (.Call (.Attribute (.Name x npos) name apos) (e :: es) [] cpos) pos) (tS c en fun ρ t => bo (fs (frzAll ρ is) t) fun xs t => mutK (frzAll ρ is) t m i xs) :=
  (ps_expr (pe_bm PySem.F.plainAttrs_list slot hty hm (pe_var hN hv hd hcd) ha hbase hfew hline hs hplain) hsw).imp fun W σ H h => by
  obtain ⟨a, h1, ⟨vs, h2⟩, q⟩ := mut_core is hr h
  exact ⟨.ref a, h1, .inl ⟨rfl, vs, SqL.of h2⟩, q⟩
theorem snd_mut0 {m : Mu} {i : Nat} {x name : PySem.Str} {id : String} {r : V → List V → Hp → VK → Prop} (is : List Nat) (hr : MuR m r) (slot : Slot "list" name id) (hty : typeOf (.builtin id) = pure (.type "method_descriptor")) (hm : MtR X id r)
    (hN : X.N[i]? = some x) (hv : Vis X.env.scope x) (hd : (x == ("__debug__" : PySem.Str)) = false) (hcd : (x == ("__classdict__" : PySem.Str)) = false)
    (hbase : attributeBase (.Name x npos) name X.env (eval (.Name x npos) X.env) = eval (.Name x npos) X.env)
    (hline : (apos.endLine == cpos.line) = true) (hsw : swapsWith (.Call (.Attribute (.Name x npos) name apos) [] [] cpos) none pos.line X.env = pure false) :
    PS X (.Expr (.Call (.Attribute (.Name x npos) name apos) [] [] cpos) pos) (tS c en fun ρ t => bo (.ok [] t) fun xs t => mutK (frzAll ρ is) t m i xs) :=
  (ps_expr (pe_bm0 PySem.F.plainAttrs_list slot hty hm (pe_var hN hv hd hcd) hbase hline) hsw).imp fun W σ H h => by
  obtain ⟨a, h1, ⟨vs, h2⟩, q⟩ := mut_core (fs := fun _ t => .ok [] t) is hr h
  refine ⟨.ref a, h1, .inl ⟨rfl, vs, SqL.of h2⟩, ?_⟩
  obtain ⟨ρ, t, g, s, k⟩ := q
  exact (show KA c g H t [] _ from k) [] g H Step.refl s.st rfl
theorem takes_never : Takes X (fun _ _ _ _ => False) := fun u s' ⟨a, B, sI, pins, σ, H, cls, d, e, I, nb, up, sky, na, os, ag, w⟩ => w.elim
theorem intsOf_len : ∀ {ds : List D} {ns : List Int}, intsOf ds = some ns → ds.length = ns.length
  | [], ns, e => by cases e; rfl
  | d :: ds, ns, e => by
    cases d with
    | int i =>
      obtain ⟨ms, e1, rfl⟩ := Option.map_eq_some_iff.mp (show (Pd.intsOf ds).map (i :: ·) = some ns from e)
      rw [List.length_cons, List.length_cons, intsOf_len e1]
    | _ => cases e
theorem snd_remove {i : Nat} {x : PySem.Str} {e : Expr} {fe : Env → T → R D} (is : List Nat) (hc : X.calm = true)
    (hN : X.N[i]? = some x) (hv : Vis X.env.scope x) (hd : (x == ("__debug__" : PySem.Str)) = false) (hcd : (x == ("__classdict__" : PySem.Str)) = false) (ha : PE X e (tE c en false fe))
    (hbase : attributeBase (.Name x npos) "remove" X.env (eval (.Name x npos) X.env) = eval (.Name x npos) X.env)
    (hfew : ((backTo cpos (starEach [e] X.env)).all (fun x => !x.1) && (backToKw cpos (keywordEach [] X.env)).all (fun x => x.1.isSome)
      && decide (([e] : List Expr).length + ([] : List Keyword).length + (if ([] : List Keyword).isEmpty then 0 else 1) < 30)) = true)
    (hline : (apos.endLine == cpos.line) = true) (hs : starEach [e] X.env = (false, eval e X.env) :: starEach [] X.env) (hplain : (backTo cpos (starEach [] X.env)).any (·.1) = false) (hsw : swapsWith (.Call (.Attribute (.Name x npos) "remove" apos) [e] [] cpos) none pos.line X.env = pure false) :
    PS X (.Expr (.Call (.Attribute (.Name x npos) "remove" apos) [e] [] cpos) pos) (tS c en fun ρ t => bo (bnd (fe (frzAll ρ is) t) fun d t => .ok [d] t) fun xs t => mutK (frzAll ρ is) t .remove i xs) :=
  (ps_expr (pe_remX hc takes_never (pe_var hN hv hd hcd) ha hbase hfew hline hs hplain) hsw).imp fun W σ H ⟨ρ, t, g, s, k⟩ => by
  obtain ⟨g0, s0, k⟩ := s.frz is k
  obtain ⟨y, t1, e1, k1⟩ := run_ok (run_bnd k.bo)
  have k1 : outK c en g0 H W (mutK (frzAll ρ is) t1 .remove i [y]) := k1
  cases hl : look (frzAll ρ is) i with
  | own ds =>
    obtain ⟨a, vs, h1, h2, _⟩ := s0.own hl
    refine ⟨.ref a, h1, .inl ⟨rfl, vs, SqL.of h2⟩, _, t, g0, s0, ?_⟩
    rw [e1]
    show KF false c g0 H t1 y _
    rw [KF.fls]
    intro v g1 H1 st1 s1 rv
    have s2 := s0.step st1 s1
    obtain ⟨a', vs', h1', h2', r', l', no, ch⟩ := s2.own hl
    rw [h1] at h1'; cases h1'
    simp only [mutK, hl] at k1
    cases y with
    | int n =>
      simp only [muD] at k1
      cases hi : intsOf ds with
      | none => simp only [hi, Option.bind_none] at k1; exact k1.elim
      | some ns =>
        simp only [hi, Option.bind_some] at k1
        have ev := Reps.intsOf r' hi
        by_cases hn : n ∈ ns
        · simp only [if_pos hn] at k1
          refine ⟨a, ns, n, rfl, rv, by rw [h2', ev], fun _ => ?_, fun z => absurd hn z⟩
          obtain ⟨m1, s3⟩ := ch ((ns.erase n).map V.int) ((ns.erase n).map D.int) (Reps.ints _) (by
            rw [List.length_map]
            have h1 := List.length_erase_le (a := n) (l := ns)
            have h2 := intsOf_len hi
            omega)
          exact outK.nx k1 ((st1.mo s0.st).trans m1) s3
        · simp only [if_neg hn] at k1; exact k1.elim
    | _ => simp only [muD] at k1; exact k1.elim
  | un => simp only [mutK, hl] at k1; exact k1.elim
  | val _ => simp only [mutK, hl] at k1; exact k1.elim
  | loan _ => simp only [mutK, hl] at k1; exact k1.elim

/-! ### op= -/
theorem snd_aug {i : Nat} {x : PySem.Str} {e : Expr} {o : Bo} {fe : Env → T → R D} (is : List Nat) (hN : X.N.Nodup) (hi : X.N[i]? = some x) (hx : Loc X.env.scope x) (hf : X.fn x = true ∨ X.env.scope.names.lookup x = some .local) (he : PE X e (tE c en false fe)) (ho : o = .add ∨ o = .sub) :
    PS X (.AugAssign (.Name x pos') (bop o) e pos) (tS c en fun ρ t => match look (frzAll ρ is) i with
    | .val (.int x) => bo (fe (frzAll ρ is) t) fun y t => augK (frzAll ρ is) t i o x y
    | _ => .no) := by
  have hp : PIp X (bop o) (ipI fun a b => if o = .add then a + b else a - b) := by
    rcases ho with rfl | rfl
    · exact ip_add
    · exact ip_sub
  refine (ps_aug hN hi hx he hp hf).imp fun W σ H ⟨ρ, t, g, s, k⟩ => ?_
  obtain ⟨g0, s0, k⟩ := s.frz is k
  have k : outK c en g0 H W (match look (frzAll ρ is) i with
    | .val (.int x) => bo (fe (frzAll ρ is) t) fun y t => augK (frzAll ρ is) t i o x y
    | _ => .no) := k
  cases hl : look (frzAll ρ is) i with
  | val d =>
    cases d with
    | int n =>
      simp only [hl] at k
      have q := s0.cell i
      rw [hl] at q
      obtain ⟨v, h1, h2⟩ := q
      cases h2
      refine ⟨.int n, h1, _, t, g0, s0, k.bo.mono fun y t1 k1 => ?_⟩
      rw [KF.fls]
      intro v g1 H1 st1 s1 rv
      have hil : i < (frzAll ρ is).length := by
        by_cases h : i < (frzAll ρ is).length
        · exact h
        · rw [look_out _ i (by omega)] at hl; cases hl
      cases y with
      | int m =>
        cases rv
        refine ⟨n, m, rfl, rfl, ?_⟩
        have s2 := s0.step st1 s1
        rcases ho with rfl | rfl
        · exact outK.nx k1 (st1.mo s0.st) (s2.store hil rfl)
        · exact outK.nx k1 (st1.mo s0.st) (s2.store hil rfl)
      | _ => exact k1.elim
    | _ => simp only [hl] at k; exact k.elim
  | un => simp only [hl] at k; exact k.elim
  | own _ => simp only [hl] at k; exact k.elim
  | loan _ => simp only [hl] at k; exact k.elim

/-! ### o[i] = e -/
/-- an object's list is changed -/
theorem SR.setOb {g : Gh} {σ : L2.St} {H : Hp} {ρ : Env} {t : T} {n : Nat} {a : Addr} {o o' : Ob} {u : HO} (s : SR c en g σ H ρ t) (ha : g.ob[n]? = some a) (ho : t[n]? = some o) (h : ObR c g (upd H a u) a o') :
    Mo g H g (upd H a u) ∧ SR c en g σ (upd H a u) ρ (t.set n o') := by
  have hm : a ∈ g.ob := List.mem_of_getElem? ha
  have nf : ∀ b, g.fz b → b ≠ a := fun b hb z => s.st.nf a hm (z ▸ hb)
  have m : Mo g H g (upd H a u) := ⟨fun b hb => ⟨hb, upd_ne (nf b hb)⟩, List.prefix_refl _⟩
  have cellK : ∀ i, CellR c en g (upd H a u) σ[i]? (look ρ i) := fun i => by
    have q := s.cell i
    cases hl : look ρ i with
    | un => trivial
    | val d => rw [hl] at q; obtain ⟨v, h1, h2⟩ := q; exact ⟨v, h1, Rep.mono m d v h2⟩
    | own ds =>
      rw [hl] at q
      obtain ⟨b, vs, h1, h2, h3, h4, h5, h6, h7⟩ := q
      exact ⟨b, vs, h1, (upd_ne fun z => h6 (by rw [z]; exact hm)).trans h2, Reps.mono m ds vs h3, h4, h5, h6, h7⟩
    | loan ds =>
      rw [hl] at q
      obtain ⟨b, vs, h1, h2, h3, h4, h5, h6, h7⟩ := q
      exact ⟨b, vs, h1, (upd_ne fun z => h6 (by rw [z]; exact hm)).trans h2, Reps.mono m ds vs h3, h4, h5, h6, h7⟩
  refine ⟨m, ⟨⟨by rw [List.length_set]; exact s.st.len, s.st.nd, s.st.nf, fun b hb => by rw [upd_ne (nf b hb)]; exact s.st.tr b hb, fun i b ob h1 h2 => ?_⟩, ⟨s.ent.pre, s.ent.fzm, s.ent.fzn, s.ent.obn, fun b ob h1 h2 => ?_, fun b hb => ?_⟩, s.len, cellK, s.dis⟩⟩
  · by_cases hi : i = n
    · subst hi
      rw [ha] at h1; cases h1
      rw [List.getElem?_set_self (List.getElem?_eq_some_iff.mp ho).1] at h2
      cases h2
      exact h
    · rw [List.getElem?_set_ne (Ne.symm hi)] at h2
      have hb : b ≠ a := fun z => by
        subst z
        have q1 := (List.getElem?_eq_some_iff.mp h1)
        have q2 := (List.getElem?_eq_some_iff.mp ha)
        exact hi ((List.getElem_inj s.st.nd).mp (q1.2.trans q2.2.symm))
      exact (s.st.obs i b ob h1 h2).mono m (upd_ne hb)
  · have hb : b ≠ a := fun z => by
      subst z
      rcases s.ent.obn b hm with q | q
      · exact h2 q
      · rw [q] at h1; cases h1
    rw [upd_ne hb]; exact s.ent.keep b ob h1 h2
  · by_cases hba : b = a
    · subst hba; rw [upd_same]; simp
    · rw [upd_ne hba]; exact s.ent.tr b hb
/-- o[i] = v by a dict or a list: what is carried (more rules may be joined) -/
def rSetA (c : Cn) : TSet := fun o i v H Q => rSetL o i v H Q
theorem setX_core {g : Gh} {σ : L2.St} {H : Hp} {ρ : Env} {t : T} {x j d : D} {o i v : V} {W : Ends} (s : SR c en g σ H ρ t) (ro : RepP c g H o x) (ri : RepP c g H i j) (rv : Rep c g H v d) (k : outK c en g H W (setX ρ t x j d)) : rSetL o i v H fun H3 => W.nx σ H3 := by
  cases x with
  | obj n =>
    simp only [setX] at k
    cases hs : setOb t n j d with
    | none => rw [hs] at k; exact k.elim
    | some t' =>
      rw [hs] at k
      simp only [setOb] at hs
      cases ht : t[n]? with
      | none => rw [ht] at hs; cases hs
      | some ob =>
        rw [ht] at hs
        cases ob with
        | lst xs =>
          obtain ⟨a, rfl, hb⟩ := (show Rep c g H o (.obj n) from ro)
          cases j with
          | int m =>
            obtain ⟨l, hl, rfl⟩ := Option.map_eq_some_iff.mp (show (Pd.ixN xs.length m).map (fun j => t.set n (.lst (xs.set j d))) = some t' from hs)
            cases ri
            obtain ⟨vs, h1, h2, h3⟩ := s.st.obs n a _ hb ht
            refine ⟨a, vs, m, l, rfl, rfl, h1, by rw [Reps.length h2]; exact hl, ?_⟩
            have r' : Reps c g H (vs.set l v) (xs.set l d) := Reps.set l h2 rv
            have hm : a ∈ g.ob := List.mem_of_getElem? hb
            have mo : Mo g H g (upd H a (.lst (vs.set l v))) := ⟨fun b hb' => ⟨hb', upd_ne fun z => s.st.nf a hm (z ▸ hb')⟩, List.prefix_refl _⟩
            obtain ⟨m1, s1⟩ := s.setOb (u := .lst (vs.set l v)) (o' := .lst (xs.set l d)) hb ht ⟨_, upd_same, Reps.mono mo _ _ r', by rw [List.length_set]; exact h3⟩
            exact outK.nx k m1 s1
          | _ => cases hs
        | _ => cases hs
  | _ => exact k.elim
theorem setO_core {g : Gh} {σ : L2.St} {H : Hp} {ρ : Env} {t : T} {kk : Nat} {ds : List D} {j d : D} {i v : V} {a : Addr} {W : Ends} (s : SR c en g σ H ρ t) (hl : look ρ kk = .own ds) (ha : σ[kk]? = some (some (.ref a))) (ri : RepP c g H i j) (rv : Rep c g H v d) (k : outK c en g H W (setO ρ t kk ds j d)) : rSetL (.ref a) i v H fun H3 => W.nx σ H3 := by
  cases j with
  | int m =>
    simp only [setO] at k
    cases hi : Pd.ixN ds.length m with
    | none => rw [hi] at k; exact k.elim
    | some l =>
      rw [hi] at k
      cases ri
      obtain ⟨a', vs, h1, h2, h3, h4, h5, ch⟩ := s.own hl
      rw [ha] at h1; cases h1
      obtain ⟨m1, s1⟩ := ch (vs.set l v) (ds.set l d) (Reps.set l h3 rv) (by rw [List.length_set]; exact h4)
      exact ⟨a, vs, m, l, rfl, rfl, h2, by rw [Reps.length h3]; exact hi, outK.nx k m1 s1⟩
  | _ => exact k.elim
/-- x[i] = e, x a name -/
theorem snd_setIv {kk : Nat} {x : PySem.Str} {i e : Expr} {fi fe : Env → T → R D} (is : List Nat) (hN : X.N[kk]? = some x) (hv : Vis X.env.scope x) (hd : (x == ("__debug__" : PySem.Str)) = false) (hcd : (x == ("__classdict__" : PySem.Str)) = false) (hi : PE X i (tO c en fi)) (he : PE X e (tE c en false fe))
    (hasg : ∀ v, assign (.Subscript (.Name x npos) i pos') X.env v = (do
      let ov ← holding [v] (eval (.Name x npos) X.env)
      let iv ← holding [v, ov] (eval i X.env)
      standAt pos'
      holding [v, ov, iv] (setItem ov iv v)
      release [v, ov, iv] []))
    (hs : swapsWithSole [.Subscript (.Name x npos) i pos'] e pos.line X.env = pure false) (hw : swappedStores [.Subscript (.Name x npos) i pos'] e X.env = pure none)
    (h1 : (assignEach [.Subscript (.Name x npos) i pos'] X.env).map (·.2) = [assign (.Subscript (.Name x npos) i pos') X.env]) :
    PS X (.Assign [.Subscript (.Name x npos) i pos'] e pos) (tS c en fun ρ t => bo (fe (frzAll ρ is) t) fun d t => bo (ofO (peek (look (frzAll ρ is) kk)) t) fun x t => bo (fi (frzAll ρ is) t) fun j t => setK (frzAll ρ is) t (some kk) x j d) :=
  (ps_asg he (pg_sub (pe_var hN hv hd hcd) hi set_list hasg) hs hw h1).imp fun W σ H ⟨ρ, t, g, s, k⟩ => by
  obtain ⟨g0, s0, k⟩ := s.frz is k
  refine ⟨_, t, g0, s0, k.bo.mono fun d t1 k1 => ?_⟩
  rw [KF.fls]
  intro v g1 H1 st1 s1 rv
  obtain ⟨x, e1, k1⟩ := run_ofO k1.bo
  obtain ⟨j, t2, e2, k2⟩ := run_ok k1.bo
  have s2 := s0.step st1 s1
  have fin : ∀ {W' : V → V → V → Hp → (Hp → Prop) → Prop}, True := fun {_} => trivial
  cases hl : look (frzAll ρ is) kk with
  | own ds =>
    obtain ⟨a, vs, h1, _⟩ := s2.own hl
    refine ⟨.ref a, h1, _, t1, g1, s2, ?_⟩
    rw [e2]
    intro iv g2 H2 st2 s3 ri
    have k3 : outK c en g0 H W (setO (frzAll ρ is) t2 kk ds j d) := by
      have k2 := k2
      simp only [setK, hl] at k2; exact k2
    exact setO_core (s2.step st2 s3) hl h1 ri (Rep.mono (st2.mo s1) d v rv) (outK.mo ((st1.trans st2).mo s0.st) k3)
  | val y =>
    rw [hl] at e1; cases e1
    have q := s2.cell kk
    rw [hl] at q
    obtain ⟨ov, h1, ro⟩ := q
    refine ⟨ov, h1, _, t1, g1, s2, ?_⟩
    rw [e2]
    intro iv g2 H2 st2 s3 ri
    have k3 : outK c en g0 H W (setX (frzAll ρ is) t2 x j d) := by
      have k2 := k2
      simp only [setK, hl] at k2; exact k2
    exact setX_core (s2.step st2 s3) (RepP.step s1 st2 (Rep.peek s1 ro)) ri (Rep.mono (st2.mo s1) d v rv) (outK.mo ((st1.trans st2).mo s0.st) k3)
  | un => rw [hl] at e1; cases e1
  | loan ds =>
    rw [hl] at e1; cases e1
    have k3 : outK c en g0 H W (setX (frzAll ρ is) t2 (.lst ds) j d) := by
      have k2 := k2
      simp only [setK, hl] at k2; exact k2
    exact k3.elim
/-- o[i] = e -/
theorem snd_setI {o i e : Expr} {fo fi fe : Env → T → R D} (is : List Nat) (ho : PE X o (tO c en fo)) (hi : PE X i (tO c en fi)) (he : PE X e (tE c en false fe))
    (hasg : ∀ v, assign (.Subscript o i pos') X.env v = (do
      let ov ← holding [v] (eval o X.env)
      let iv ← holding [v, ov] (eval i X.env)
      standAt pos'
      holding [v, ov, iv] (setItem ov iv v)
      release [v, ov, iv] []))
    (hs : swapsWithSole [.Subscript o i pos'] e pos.line X.env = pure false) (hw : swappedStores [.Subscript o i pos'] e X.env = pure none)
    (h1 : (assignEach [.Subscript o i pos'] X.env).map (·.2) = [assign (.Subscript o i pos') X.env]) :
    PS X (.Assign [.Subscript o i pos'] e pos) (tS c en fun ρ t => bo (fe (frzAll ρ is) t) fun d t => bo (fo (frzAll ρ is) t) fun x t => bo (fi (frzAll ρ is) t) fun j t => setK (frzAll ρ is) t none x j d) :=
  (ps_asg he (pg_sub ho hi set_list hasg) hs hw h1).imp fun W σ H ⟨ρ, t, g, s, k⟩ => by
  obtain ⟨g0, s0, k⟩ := s.frz is k
  refine ⟨_, t, g0, s0, k.bo.mono fun d t1 k1 => ?_⟩
  rw [KF.fls]
  intro v g1 H1 st1 s1 rv
  have s2 := s0.step st1 s1
  refine ⟨_, t1, g1, s2, k1.bo.mono fun x t2 k2 ov g2 H2 st2 s3 ro => ⟨_, t2, g2, s2.step st2 s3, k2.bo.mono fun j t3 k3 iv g3 H3 st3 s4 ri => ?_⟩⟩
  exact setX_core ((s2.step st2 s3).step st3 s4) (RepP.step s3 st3 ro) ri (Rep.mono ((st2.trans st3).mo s1) d v rv) (outK.mo (((st1.trans st2).trans st3).mo s0.st) k3)

/-! ### o.f = e -/
theorem putF_names {c : Cn} {g : Gh} {H : Hp} (inj : ∀ i j s, c.fnm i = some s → c.fnm j = some s → i = j) {f : Nat} {n0 : PySem.Str} (hf : c.fnm f = some n0) {v : V} {d : D} (rv : Rep c g H v d) : ∀ {gs : List (PySem.Str × V)} {fs : List (Nat × D)}, gs.map (fun p => some p.1) = fs.map (fun p => c.fnm p.1) → Reps c g H (gs.map (·.2)) (fs.map (·.2)) →
    (putF n0 v gs).map (fun p => some p.1) = (fput f d fs).map (fun p => c.fnm p.1) ∧ Reps c g H ((putF n0 v gs).map (·.2)) ((fput f d fs).map (·.2))
  | [], [], _, _ => ⟨by show [some n0] = [c.fnm f]; rw [hf], v, [], rfl, rv, rfl⟩
  | [], _ :: _, h, _ => by simp at h
  | _ :: _, [], h, _ => by simp at h
  | (n, w) :: gs, (k, d') :: fs, h, r => by
    simp only [List.map_cons, List.cons.injEq] at h
    obtain ⟨w', ws, e1, r1, r2⟩ := r
    simp only [List.map_cons, List.cons.injEq] at e1
    obtain ⟨rfl, rfl⟩ := e1
    by_cases hk : f = k
    · subst hk
      have e2 : n = n0 := by
        have := h.1.trans hf
        simpa using this
      subst e2
      rw [show putF n v ((n, w) :: gs) = (n, v) :: gs from if_pos rfl, show fput f d ((f, d') :: fs) = (f, d) :: fs from if_pos rfl]
      refine ⟨by simp only [List.map_cons]; rw [h.1, h.2], v, gs.map (·.2), rfl, rv, r2⟩
    · have hn : n ≠ n0 := fun z => by
        subst z
        exact hk (inj _ _ _ hf h.1.symm)
      rw [show putF n0 v ((n, w) :: gs) = (n, w) :: putF n0 v gs from if_neg hn, show fput f d ((k, d') :: fs) = (k, d') :: fput f d fs from if_neg hk]
      obtain ⟨h3, h4⟩ := putF_names inj hf rv h.2 r2
      refine ⟨by simp only [List.map_cons]; rw [h.1, h3], w, _, rfl, r1, h4⟩
theorem snd_setF {o e : Expr} {f : Nat} {n0 : PySem.Str} {fo fe : Env → T → R D} (is : List Nat) (F : ClsF c) (hf : c.fnm f = some n0) (hK : c.K = X.K) (ho : PE X o (tE c en false fo)) (he : PE X e (tE c en false fe)) (hs : swapsWith e (some (.Attribute o n0 pos')) pos.line X.env = pure false) :
    PS X (.Assign [.Attribute o n0 pos'] e pos) (tS c en fun ρ t => bo (fe (frzAll ρ is) t) fun d t => bo (fo (frzAll ρ is) t) fun x t => setFK (frzAll ρ is) t x f d) := (ps_fld ho he hs).imp fun W σ H ⟨ρ, t, g, s, k⟩ => by
  obtain ⟨g0, s0, k⟩ := s.frz is k
  refine ⟨_, t, g0, s0, k.bo.mono fun d t1 k1 => ?_⟩
  rw [KF.fls]
  intro v g1 H1 st1 s1 rv
  have s2 := s0.step st1 s1
  refine ⟨_, t1, g1, s2, k1.bo.mono fun x t2 k2 => ?_⟩
  rw [KF.fls]
  intro ov g2 H2 st2 s3 ro
  have s4 := s2.step st2 s3
  cases x with
  | obj n =>
    simp only [setFK] at k2
    cases ht : t2[n]? with
    | none => rw [ht] at k2; exact k2.elim
    | some ob =>
      rw [ht] at k2
      cases ob with
      | ins kc fs =>
        by_cases hl : fs.length < 999
        · simp only [if_pos hl] at k2
          obtain ⟨p, rfl, hb, C, dx, gs, h1, h2, h3, h4⟩ := obj_at s3 ro ht
          have hm : p ∈ g2.ob := List.mem_of_getElem? hb
          have lg : gs.length = fs.length := by
            have := congrArg List.length h3
            simpa using this
          refine ⟨p, C, dx, gs, rfl, h2, hK ▸ F.cls kc C h1, hK ▸ F.no kc C f _ h1 hf, by omega, ?_⟩
          have mo : Mo g2 H2 g2 (upd H2 p (.ins C dx (putF n0 v gs))) := ⟨fun b hb' => ⟨hb', upd_ne fun z => s3.nf p hm (z ▸ hb')⟩, List.prefix_refl _⟩
          obtain ⟨n1, n2⟩ := putF_names F.inj hf (Rep.mono (st2.mo s1) d v rv) h3 h4
          obtain ⟨m1, s5⟩ := s4.setOb (u := .ins C dx (putF n0 v gs)) (o' := .ins kc (fput f d fs)) hb ht ⟨C, dx, _, h1, upd_same, n1, Reps.mono mo _ _ n2⟩
          exact outK.nx k2 (((st1.trans st2).mo s0.st).trans m1) s5
        · simp only [if_neg hl] at k2; exact k2.elim
      | _ => exact k2.elim
  | _ => exact k2.elim

/-! ### loops -/
theorem snd_for {tg iter : Expr} {body : List Stmt} {gt : Tg} {fs : Env → T → R (List D)} {fb : Env → T → Out} (is fg : List Nat) (hp : PassesOwn (model X.prog X.w) X.A X.env X.xe) (hc : X.calm = true) (hi : PI X tg iter (tI false c en fs)) (hg : PG X tg (gD c en gt)) (hb : PSs X body (tS c en fb))
    (hs : ∀ x, foldedSetIterable iter X.env x = pure x) : PS X (.For tg iter body [] pos) (tS c en fun ρ t => bo (fs (frzAll ρ is) t) fun xs t => forL (forK gt fb) fg xs (frzAll ρ is) t) := (ps_for hp hc hi hg hb hs).imp fun W σ H ⟨ρ, t, g, s, k⟩ => by
  obtain ⟨g0, s0, k⟩ := s.frz is k
  refine ⟨_, t, g0, s0, k.bo.mono fun ds t1 k1 J g1 H1 st1 s1 wk => ?_⟩
  have s2 := s0.step st1 s1
  have k1 := outK.mo (st1.mo s0.st) k1
  refine ⟨fun i m σ' H' => m = ds.length - i ∧ i ≤ ds.length ∧ ∃ ρ' t' g', SR c en g' σ' H' ρ' t' ∧ Mo g1 H1 g' H' ∧ outK c en g1 H1 W (forL (forK gt fb) fg (ds.drop i) ρ' t'), ⟨ds.length, rfl, Nat.zero_le _, _, t1, g1, s2, Mo.refl, k1⟩, ?_⟩
  rintro i m σ' H' ⟨rfl, hi, ρ', t', g', s', m', k'⟩
  by_cases hlt : i < ds.length
  · refine .inr ⟨wk.go g' H' t' i m' s'.st hlt, fun σ'' H'' => i + 1 ≤ ds.length ∧ ∃ ρ' t' g', SR c en g' σ'' H'' ρ' t' ∧ Mo g1 H1 g' H'' ∧ outK c en g1 H1 W (forL (forK gt fb) fg (ds.drop (i + 1)) ρ' t'), fun σ'' H'' ⟨h1, h2⟩ => ⟨ds.length - (i + 1), by omega, rfl, h1, h2⟩, fun x H2 y => ?_⟩
    have hd : ds[i]? = some ds[i] := List.getElem?_eq_getElem hlt
    obtain ⟨g2, st2, s3, rx⟩ := wk.yld g' H' t' i x H2 _ m' s'.st hd y
    rw [List.drop_eq_getElem_cons hlt] at k'
    simp only [forL, forK] at k'
    cases ha : asgT gt ds[i] ρ' with
    | none => rw [ha] at k'; exact k'.elim
    | some ρ2 =>
      rw [ha] at k'
      have k' : outK c en g1 H1 W (match fb ρ2 t' with
        | .nx ρ' t' => forL (forK gt fb) fg (ds.drop (i + 1)) (unset ρ' fg) t'
        | .cont ρ' t' => forL (forK gt fb) fg (ds.drop (i + 1)) (unset ρ' fg) t'
        | .brk ρ' t' => .nx (unset ρ' fg) t'
        | o => o) := k'
      have m2 : Mo g1 H1 g2 H2 := m'.trans (st2.mo s'.st)
      refine ⟨ρ', t', g2, _, ρ2, s'.step st2 s3, rx, ha, fun σ2 sσ _ _ => ⟨ρ2, t', g2, sσ, ?_⟩⟩
      cases ho : fb ρ2 t' with
      | nx ρ3 t3 =>
        rw [ho] at k'
        exact fun σ3 g3 H3 m3 s4 => ⟨hlt, _, t3, g3, s4.unset fg, m2.trans m3, k'⟩
      | cont ρ3 t3 =>
        rw [ho] at k'
        exact fun σ3 g3 H3 m3 s4 => ⟨hlt, _, t3, g3, s4.unset fg, m2.trans m3, k'⟩
      | brk ρ3 t3 =>
        rw [ho] at k'
        exact fun σ3 g3 H3 m3 s4 => outK.nx k' (m2.trans m3) (s4.unset fg)
      | ret d t3 => rw [ho] at k'; exact k'
      | ex _ _ _ => rw [ho] at k'; exact k'
      | no => rw [ho] at k'; exact k'
  · have e : i = ds.length := by omega
    subst e
    rw [List.drop_length] at k'
    exact .inl ⟨wk.stop g' H' t' _ m' s'.st (Nat.le_refl _), outK.nx k' m' s'⟩
theorem snd_whl {e : Expr} {body : List Stmt} {fc : Env → T → R Bool} {fb : Env → T → Out} (n : Nat) (fz fg : List Nat) (hp : PassesOwn (model X.prog X.w) X.A X.env X.xe) (hc : PT X e (tT c en fc)) (hb : PSs X body (tS c en fb)) :
    PS X (.While e body [] pos) (tS c en fun ρ t => whlL fc fb fz fg n ρ t) := (ps_while hp hc hb).imp fun W σ H ⟨ρ, t, g, s, k⟩ => by
  refine ⟨fun m σ' H' => ∃ ρ' t' g', SR c en g' σ' H' ρ' t' ∧ Mo g H g' H' ∧ outK c en g H W (whlL fc fb fz fg m ρ' t'), ⟨n, ρ, t, g, s, Mo.refl, k⟩, ?_⟩
  rintro m σ1 H1 ⟨ρ1, t1, g1, s1, m1, k1⟩
  cases m with
  | zero => exact k1.elim
  | succ m =>
    simp only [whlL] at k1
    obtain ⟨g2, m2, s2⟩ := s1.freeze fz
    refine ⟨_, t1, g2, s2, k1.bo.mono fun b t2 k2 g3 H3 st3 s3 => ?_⟩
    have s4 := s2.step st3 s3
    have m4 : Mo g H g3 H3 := (m1.trans m2).trans (st3.mo s2.st)
    cases b with
    | false => exact outK.nx k2 m4 s4
    | true =>
      show ∃ N : L2.St → Hp → Prop, _
      refine ⟨fun σ' H' => ∃ ρ' t' g', SR c en g' σ' H' ρ' t' ∧ Mo g H g' H' ∧ outK c en g H W (whlL fc fb fz fg m ρ' t'), fun σ' H' h => ⟨m, Nat.lt_succ_self m, h⟩, _, t2, g3, s4, ?_⟩
      have k2 : outK c en g H W (match fb (frzAll ρ1 fz) t2 with
        | .nx ρ' t' => whlL fc fb fz fg m (unset ρ' fg) t'
        | .cont ρ' t' => whlL fc fb fz fg m (unset ρ' fg) t'
        | .brk ρ' t' => .nx (unset ρ' fg) t'
        | o => o) := k2
      cases ho : fb (frzAll ρ1 fz) t2 with
      | nx ρ3 t3 =>
        rw [ho] at k2
        exact fun σ3 g4 H4 m5 s5 => ⟨_, t3, g4, s5.unset fg, m4.trans m5, k2⟩
      | cont ρ3 t3 =>
        rw [ho] at k2
        exact fun σ3 g4 H4 m5 s5 => ⟨_, t3, g4, s5.unset fg, m4.trans m5, k2⟩
      | brk ρ3 t3 =>
        rw [ho] at k2
        exact fun σ3 g4 H4 m5 s5 => outK.nx k2 (m4.trans m5) (s5.unset fg)
      | ret d t3 => rw [ho] at k2; exact k2
      | ex _ _ _ => rw [ho] at k2; exact k2
      | no => rw [ho] at k2; exact k2
end
end Pd
set_option Elab.async false
set_option linter.all false
set_option maxRecDepth 100000
set_option autoImplicit false
/-! Pd: own syntax beside the text's. -/
namespace Pd
open PySem PySem.Spec PyProof.Rows L2 TL Bits

/-! ### names -/
def lEq : List Nat → List Nat → Bool
  | [], [] => true
  | a :: r, b :: s => match Nat.beq a b with
    | true => lEq r s
    | false => false
  | _, _ => false
theorem lEq_iff : ∀ (a b : List Nat), lEq a b = true ↔ a = b
  | [], [] => by simp [lEq]
  | [], _ :: _ => by simp [lEq]
  | _ :: _, [] => by simp [lEq]
  | a :: r, b :: s => by
    unfold lEq
    cases h : Nat.beq a b with
    | true =>
      have := Nat.eq_of_beq_eq_true h
      subst this
      simp [lEq_iff r s]
    | false =>
      have : a ≠ b := fun e => by subst e; rw [Nat.beq_refl] at h; cases h
      simp [this]
def sEq (a b : PySem.Str) : Bool := lEq a.cps.toList b.cps.toList
theorem sEq_iff {a b : PySem.Str} : sEq a b = true ↔ a = b := by
  unfold sEq
  rw [lEq_iff]
  constructor
  · intro h
    cases a; cases b
    congr 1
    exact Array.toList_inj.mp h
  · intro h; rw [h]
theorem sEq_no {a b : PySem.Str} (h : sEq a b = false) : (a == b) = false := by
  simp only [beq_eq_false_iff_ne, ne_eq]
  intro e
  rw [sEq_iff.mpr e] at h; cases h
def kOf : List (PySem.Str × NameKind) → PySem.Str → Option NameKind
  | [], _ => none
  | (n, k) :: r, x => match sEq x n with
    | true => some k
    | false => kOf r x
theorem kOf_eq : ∀ (l : List (PySem.Str × NameKind)) (x : PySem.Str), kOf l x = l.lookup x
  | [], _ => rfl
  | (n, k) :: r, x => by
    unfold kOf
    rw [List.lookup_cons]
    cases h : sEq x n with
    | true =>
      have := sEq_iff.mp h
      subst this
      simp
    | false =>
      rw [sEq_no h]
      exact kOf_eq r x
structure MC where
  N : List PySem.Str
  sc : Scope
  fn : PySem.Str → Bool
def MC.vis (M : MC) (x : PySem.Str) : Bool := match kOf M.sc.names x with
  | some .local => true
  | some .cell => true
  | some .free => true
  | _ => false
def MC.loc (M : MC) (x : PySem.Str) : Bool := match kOf M.sc.names x with
  | some .local => true
  | some .cell => M.fn x
  | _ => false
def MC.isLoc (M : MC) (x : PySem.Str) : Bool := match kOf M.sc.names x with
  | some .local => true
  | _ => false
def MC.glb (M : MC) (x : PySem.Str) : Bool := match kOf M.sc.names x with
  | some .globalImplicit => true
  | _ => false
def okN (x : PySem.Str) : Bool := !(sEq x (nm "__debug__")) && !(sEq x (nm "__classdict__"))
def MC.at (M : MC) (i : Nat) (x : PySem.Str) : Bool := match M.N[i]? with
  | some y => sEq y x
  | none => false
/-- a name of the frame -/
def MC.var (M : MC) (i : Nat) : Expr → Bool
  | .Name x _ => M.at i x && M.vis x && okN x
  | _ => false
structure Fits (M : MC) (X : Cx) : Prop where
  N : X.N = M.N
  sc : X.env.scope = M.sc
  fn : X.fn = M.fn
section
variable {M : MC} {X : Cx} {x : PySem.Str}
theorem Fits.vis (F : Fits M X) (h : M.vis x = true) : Vis X.env.scope x := by
  rw [F.sc]
  unfold MC.vis at h
  rw [kOf_eq] at h
  unfold Vis
  split at h <;> first | exact .inl (by assumption) | exact .inr (.inl (by assumption)) | exact .inr (.inr (by assumption)) | cases h
theorem Fits.loc (F : Fits M X) (h : M.loc x = true) : Loc X.env.scope x ∧ (X.fn x = true ∨ X.env.scope.names.lookup x = some .local) := by
  rw [F.sc, F.fn]
  unfold MC.loc at h
  rw [kOf_eq] at h
  unfold L2.Loc
  split at h <;> first | exact ⟨.inl (by assumption), .inr (by assumption)⟩ | exact ⟨.inr (by assumption), .inl h⟩ | cases h
theorem Fits.isLoc (F : Fits M X) (h : M.isLoc x = true) : X.env.scope.names.lookup x = some .local := by
  rw [F.sc]
  unfold MC.isLoc at h
  rw [kOf_eq] at h
  split at h <;> first | assumption | cases h
theorem Fits.glb (F : Fits M X) (h : M.glb x = true) : Gl X x := by
  unfold Gl
  show X.env.scope.names.lookup x = _
  rw [F.sc]
  unfold MC.glb at h
  rw [kOf_eq] at h
  split at h <;> first | assumption | cases h
theorem okN_iff (h : okN x = true) : (x == ("__debug__" : PySem.Str)) = false ∧ (x == ("__classdict__" : PySem.Str)) = false := by
  unfold okN at h
  simp only [Bool.and_eq_true, Bool.not_eq_true'] at h
  exact ⟨sEq_no h.1, sEq_no h.2⟩
theorem Fits.at (F : Fits M X) {i : Nat} (h : M.at i x = true) : X.N[i]? = some x := by
  rw [F.N]
  unfold MC.at at h
  split at h
  · rename_i y e; rw [e, sEq_iff.mp h]
  · cases h
end

/-! ### shapes -/
def noStar : Expr → Bool
  | .Starred _ _ => false
  | _ => true
def noStars : List Expr → Bool
  | [] => true
  | e :: r => noStar e && noStars r
def noSlice : Expr → Bool
  | .Slice _ _ _ _ => false
  | _ => true
def noSet : Expr → Bool
  | .Set _ _ _ => false
  | _ => true
def noComp : Expr → Bool
  | .ListComp _ _ _ _ => false
  | .SetComp _ _ _ _ => false
  | .DictComp _ _ _ _ _ => false
  | _ => true
/-- truth by value -/
def byVal : Expr → Bool
  | .Name _ _ => true
  | .Call _ _ _ _ => true
  | .Attribute _ _ _ => true
  | .Subscript _ _ _ => true
  | .BinOp _ _ _ _ => true
  | .Constant _ _ _ => true
  | _ => false
/-- the receiver of an attribute -/
def recv : Expr → Bool
  | .Name _ _ => true
  | .Attribute _ _ _ => true
  | .Subscript _ _ _ => true
  | .Constant _ _ _ => true
  | _ => false
section
variable {env : PySem.Env} {pos : Pos}
theorem star_cons {e : Expr} {es : List Expr} (h : noStar e = true) : starEach (e :: es) env = (false, eval e env) :: starEach es env := by
  cases e <;> first | rfl | cases h
theorem star_any : ∀ {es : List Expr}, noStars es = true → (backTo pos (starEach es env)).any (·.1) = false
  | [], _ => rfl
  | e :: es, h => by
    unfold noStars at h
    simp only [Bool.and_eq_true] at h
    rw [star_cons h.1]
    show (false || (backTo pos (starEach es env)).any (·.1)) = false
    rw [star_any h.2]; rfl
theorem star_all : ∀ {es : List Expr}, noStars es = true → (backTo pos (starEach es env)).all (fun x => !x.1) = true
  | [], _ => rfl
  | e :: es, h => by
    unfold noStars at h
    simp only [Bool.and_eq_true] at h
    rw [star_cons h.1]
    show (true && (backTo pos (starEach es env)).all (fun x => !x.1)) = true
    rw [star_all h.2]; rfl
theorem asg_cons {e : Expr} {es : List Expr} (h : noStar e = true) : assignEach (e :: es) env = (false, assign e env) :: assignEach es env := by
  cases e <;> first | rfl | cases h
theorem asg_len : ∀ {es : List Expr}, (assignEach es env).length = es.length
  | [] => rfl
  | e :: es => by
    cases e <;> (show (assignEach es env).length + 1 = es.length + 1; rw [asg_len])
theorem asg_idx : ∀ {es : List Expr}, noStars es = true → (assignEach es env).findIdx? (·.1) = none
  | [], _ => rfl
  | e :: es, h => by
    unfold noStars at h
    simp only [Bool.and_eq_true] at h
    rw [asg_cons h.1, List.findIdx?_cons]
    simp only [Bool.false_eq_true, if_false, asg_idx h.2, Option.map_none]
theorem recv_base {o : Expr} {a : PySem.Str} {w : Sem Value} (h : recv o = true) : attributeBase o a env w = w := by
  cases o <;> first | rfl | cases h
theorem byVal_true {e : Expr} (h : byVal e = true) (whole : Sem Value) : isTrue e env whole = (do let v ← whole; standAt e.pos; holding [v] (truthy v)) := by
  cases e <;> first | rfl | cases h
theorem noSlice_ix {e : Expr} (h : noSlice e = true) : PlainIx e := by
  intro o i
  cases e <;> first | rfl | cases h
theorem noSet_marks {e : Expr} (h : noSet e = true) (op : CmpOp) : behindInMarks op e = false := by
  cases e <;> first | rfl | cases h
theorem noSet_fold {e : Expr} (h : noSet e = true) (x : Value) : foldedSetIterable e env x = pure x := by
  cases e <;> first | rfl | cases h
theorem noComp_swap {e : Expr} (h : noComp e = true) (t : Option Expr) (l : Nat) : swapsWith e t l env = pure false := by
  cases e <;> first | rfl | cases h
theorem few {es : List Expr} (h : noStars es = true) (l : es.length < 30) : ((backTo pos (starEach es env)).all (fun x => !x.1) && (backToKw pos (keywordEach [] env)).all (fun x => x.1.isSome)
      && decide (es.length + ([] : List Keyword).length + (if ([] : List Keyword).isEmpty then 0 else 1) < 30)) = true := by
  rw [star_all h]
  show (true && true && decide (es.length + 0 + 0 < 30)) = true
  simpa using l
theorem mform {es : List Expr} (h : noStars es = true) (l : es.length < 30) : methodCallForm (es.length + ([] : List Keyword).length) (backTo pos (starEach es env)) (backToKw pos (keywordEach [] env)) = true := by
  unfold methodCallForm
  rw [star_all h]
  show (true && true && decide (es.length + 0 + 0 < 30)) = true
  simpa using l
end

/-! ### constants -/
def okSB (s : List Nat) : Bool := decide (s.length ≤ sz) && s.all fun x => decide (x < 1114112)
def konB : D → Const → Bool
  | .non, .none => true
  | .bl a, .bool b => decide (a = b)
  | .int i, .int j => decide (i = j)
  | .str s, .str x => lEq s x.cps.toList && okSB s
  | _, _ => false
theorem okSB_iff {s : List Nat} (h : okSB s = true) : okS s := by
  unfold okSB at h
  simp only [Bool.and_eq_true, decide_eq_true_eq, List.all_eq_true] at h
  exact h
theorem snd_const {X : Cx} {c : Cn} {en : En} {d : D} {k : Const} {j : Nat} {pos : Pos} (h : konB d k = true) : PE X (.Constant k j pos) (tE c en false fun _ t => .ok d t) := by
  cases d with
  | non => cases k <;> first | exact snd_kon pe_non fun _ _ => rfl | cases h
  | bl a =>
    cases k with
    | bool b =>
      have e : a = b := of_decide_eq_true h
      subst e
      exact snd_kon pe_bl fun _ _ => rfl
    | _ => cases h
  | int a =>
    cases k with
    | int b =>
      have e : a = b := of_decide_eq_true h
      subst e
      exact snd_kon pe_int fun _ _ => rfl
    | _ => cases h
  | str s =>
    cases k with
    | str x =>
      simp only [konB, Bool.and_eq_true] at h
      have e := (lEq_iff _ _).mp h.1
      have e2 : V.str x = strV s := by
        unfold strV
        rw [e]
      exact snd_kon pe_str fun _ _ => ⟨e2, okSB_iff h.2⟩
    | _ => cases h
  | _ => cases k <;> cases h

/-! ### a chain as a test -/
theorem snd_chnT {X : Cx} {c : Cn} {en : En} {pos : Pos} {a b d : Expr} {fa fb fd : Env → T → R D} (hK : c.K = X.K) (hu : X.A.units + 64 < cLine) (o p : Co) (ha : PE X a (tO c en fa)) (hb : PE X b (tO c en fb)) (hd : PE X d (tO c en fd)) (hm : lastMarks [cop o, cop p] [b, d] = false) :
    PT X (.Compare a [cop o, cop p] [b, d] pos) (tT c en fun ρ t => bnd (bnd (fa ρ t) fun x t => bnd (fb ρ t) fun y t => bnd (ofO (cmpD t o x y) t) fun k t =>
    match k with
    | .bl true => bnd (fd ρ t) fun z t => ofO (cmpD t p y z) t
    | .bl false => .ok (.bl false) t
    | _ => .no) fun x t => ofO (truthD t x) t) := by
  refine (pt_chain (op_cmp hK hu o) (op_cmp hK hu p) ha hb hd hm).imp fun σ H Q h => ?_
  obtain ⟨ρ, t, g, s, r⟩ := h
  refine ⟨ρ, t, g, s, (run_bnd (run_bnd r)).mono fun x t1 r1 v1 g1 H1 st1 s1 rp1 => ⟨ρ, t1, g1, s.step st1 s1, (run_bnd r1).mono fun y t2 r2 v2 g2 H2 st2 s2 rp2 => ?_⟩⟩
  obtain ⟨k, e, r3⟩ := run_ofO (run_bnd r2)
  obtain ⟨bb, rfl⟩ := cmp_bl e
  refine ⟨g2, t2, x, y, _, s2, rp1.step s1 st2, rp2, e, fun v g3 H3 st3 s3 rp3 => ?_⟩
  cases rp3
  refine ⟨bb, rfl, ?_⟩
  have st := (st1.trans st2).trans st3
  cases bb with
  | true =>
    refine ⟨ρ, t2, g3, s.step st s3, (run_bnd (show run (bnd (fd ρ t2) fun z t => ofO (cmpD t p y z) t) _ from r3)).mono fun z t4 r4 v4 g4 H4 st4 s4 rp4 => ?_⟩
    obtain ⟨d', e', k⟩ := run_ofO r4
    obtain ⟨b', e2, k⟩ := run_ofO k
    refine ⟨g4, t4, y, z, d', s4, (rp2.step s2 st3).step s3 st4, rp4, e', fun v g5 H5 st5 s5 rp5 => ?_⟩
    obtain ⟨b2, rfl⟩ := cmp_bl e'
    cases truth_bl e2
    exact ⟨b', rp5, k g5 H5 ((st.trans st4).trans st5) s5⟩
  | false =>
    have k : run (ofO (truthD t2 (.bl false)) t2) fun b t' => KT c g H t' b Q := r3
    obtain ⟨b2, e2, k⟩ := run_ofO k
    cases truth_bl e2
    exact ⟨false, rfl, k g3 H3 st s3⟩
end Pd
set_option Elab.async false
set_option linter.all false
set_option maxRecDepth 100000
set_option autoImplicit false
/-! Pd: own syntax beside the text's: the check. -/
namespace Pd
open PySem PySem.Spec PyProof.Rows L2 TL Bits

/-! ### blocks -/
def relF (scope sc : Scope) : Scope :=
  { scope with names := scope.names.map fun p => match p.2 with
    | .free => (match sc.kind with
      | .function => (match kOf sc.names p.1 with
        | some .cell => (p.1, .cell)
        | _ => p)
      | _ => p)
    | _ => p }
theorem relF_eq (scope : Scope) (env : PySem.Env) : relF scope env.scope = relabel scope env := by
  unfold relF relabel
  congr 1
  apply List.map_congr_left
  rintro ⟨n, k⟩ _
  show _ = if (k == NameKind.free && env.scope.kind == ScopeKind.function && env.scope.names.lookup n == some NameKind.cell) = true then (n, NameKind.cell) else (n, k)
  dsimp only
  rw [kOf_eq]
  cases k <;> try rfl
  cases env.scope.kind <;> try rfl
  cases env.scope.names.lookup n with
  | none => rfl
  | some k => cases k <;> rfl
def celF (scope : Scope) (x : PySem.Str) : Bool := match kOf scope.names x with
  | some .cell => true
  | _ => false
theorem celF_eq (scope : Scope) : celF scope = fun x => scope.names.lookup x == some .cell := by
  funext x
  unfold celF
  rw [kOf_eq]
  cases scope.names.lookup x with
  | none => rfl
  | some k => cases k <;> rfl
def MC.blk (M : MC) (scope : Scope) : MC := ⟨M.N, relF scope M.sc, celF scope⟩
theorem Fits.blk {M : MC} {X : Cx} (F : Fits M X) (scope : Scope) (s : Shared) (H : Hp) (C : Addr) (cl : List (PySem.Str × Addr)) (fp : List Addr) : Fits (M.blk scope) (X.blk s H scope (compEnvC scope cl C X.env) fp) where
  N := F.N
  sc := by
    show relabel scope X.env = relF scope M.sc
    rw [← F.sc, relF_eq]
  fn := by
    show (fun x => scope.names.lookup x == some .cell) = celF scope
    rw [celF_eq]
def MC.own (M : MC) (own : List Nat) : List (PySem.Str × Nat) := own.map fun i => ((M.N[i]?).getD ⟨#[]⟩, i)
theorem own_snd (M : MC) (own : List Nat) : (M.own own).map (·.2) = own := by
  unfold MC.own
  rw [List.map_map]
  show own.map id = own
  rw [List.map_id]
def blkB (M : MC) (scope : Scope) (own : List Nat) : Bool :=
  (match scope.kind with
  | .function => true
  | _ => false) && (scope.names.all fun y => match kOf scope.names y.1 with
    | some k => decide (k = y.2)
    | none => false) && (own.all fun i => decide (i < M.N.length)) && scope.names.all fun y => match y.2 with
    | .free => (match kOf M.sc.names y.1 with
      | some .cell => true
      | some .free => true
      | _ => false)
    | .local => own.any (fun i => M.at i y.1) || M.N.all fun n => !sEq n y.1
    | .cell => own.any (fun i => M.at i y.1) || M.N.all fun n => !sEq n y.1
    | _ => true
theorem blkB_own {M : MC} {own : List Nat} {x : PySem.Str} (h : (own.any (fun i => M.at i x) || M.N.all fun n => !sEq n x) = true) : x ∈ (M.own own).map (·.1) ∨ x ∉ M.N := by
  rcases (Bool.or_eq_true _ _).mp h with h | h
  · obtain ⟨i, hi, e⟩ := List.any_eq_true.mp h
    refine .inl (List.mem_map.mpr ⟨((M.N[i]?).getD ⟨#[]⟩, i), List.mem_map.mpr ⟨i, hi, rfl⟩, ?_⟩)
    unfold MC.at at e
    split at e
    · rename_i y q; rw [q]; exact sEq_iff.mp e
    · cases e
  · refine .inr fun hm => ?_
    have q := List.all_eq_true.mp h x hm
    rw [show sEq x x = true from sEq_iff.mpr rfl] at q
    cases q
theorem blkB_ok {M : MC} {X : Cx} (F : Fits M X) {scope : Scope} {own : List Nat} (h : blkB M scope own = true) : BlkOk X.N X.env.scope scope (M.own own) := by
  rw [F.N, F.sc]
  unfold blkB at h
  simp only [Bool.and_eq_true, List.all_eq_true] at h
  obtain ⟨⟨⟨h1, h2⟩, h3⟩, h4⟩ := h
  refine ⟨?_, fun y hy => ?_, fun p hp => ?_, fun y hy e => ?_, fun y hy e => ?_⟩
  · split at h1
    · assumption
    · cases h1
  · have q := h2 y hy
    rw [kOf_eq] at q
    split at q
    · rename_i k e; rw [e, of_decide_eq_true q]
    · cases q
  · obtain ⟨i, hi, rfl⟩ := List.mem_map.mp hp
    have q := of_decide_eq_true (h3 i hi)
    show M.N[i]? = some ((M.N[i]?).getD _)
    rw [List.getElem?_eq_getElem q]; rfl
  · have q := h4 y hy
    simp only [e, kOf_eq] at q
    split at q <;> first | exact .inl (by assumption) | exact .inr (by assumption) | cases q
  · have q := h4 y hy
    rcases e with e | e
    · simp only [e] at q; exact blkB_own q
    · simp only [e] at q; exact blkB_own q

/-! ### the check -/
def tgSub (g : Tg) (own : List Nat) : Bool := (tgS g).all fun i => own.contains i
mutual
def mTg (M : MC) : Tg → Expr → Bool
  | .nm i, e => match e with
    | .Name x _ => M.at i x && M.loc x
    | _ => false
  | .tp gs, e => match e with
    | .Tuple es _ _ => mTgs M gs es
    | _ => false
def mTgs (M : MC) : Tgs → List Expr → Bool
  | .nil, es => es.isEmpty
  | .cons g r, es => match es with
    | e :: es => noStar e && mTg M g e && mTgs M r es
    | [] => false
end
def b1N : B1 → String
  | .len => "len" | .abs => "abs" | .int => "int" | .str => "str" | .sum => "sum" | .max => "max" | .min => "min" | .any => "any" | .all => "all" | .list => "list" | .tuple => "tuple" | .sorted => "sorted" | .lenset => "len" | .lrange => "list" | .trange => "tuple"
/-- the call within -/
def b1In : B1 → Option String
  | .lenset => some "set"
  | .lrange => some "range"
  | .trange => some "range"
  | _ => none
/-- a constant of the text -/
def sameD : D → D → Bool
  | .int i, .int j => decide (i = j)
  | .str s, .str x => lEq s x && okSB s
  | .bl a, .bl b => decide (a = b)
  | .non, .non => true
  | _, _ => false
def b2N : B2 → String
  | .max => "max" | .min => "min"
/-- a type's name (or two) -/
def mTy (M : MC) : Ty → Expr → Bool
  | k, .Name x _ => (match tyN k with
    | [n] => sEq x (nm n)
    | _ => false) && M.glb x
  | .row, .Tuple [.Name x _, .Name y _] _ _ => sEq x (nm "tuple") && sEq y (nm "list") && M.glb x && M.glb y
  | _, _ => false
def esLen : Es → Nat
  | .nil => 0
  | .cons _ r => esLen r + 1
def isFn (P : Prg) (f : Nat) (x : PySem.Str) : Bool := match P.fns[f]? with
  | some F => F.cls.isNone && sEq x (nm F.name) && okN x
  | none => false
def isMth (P : Prg) (c m : Nat) (x : PySem.Str) : Bool := match P.fns[m]? with
  | some F => decide (F.cls = some c) && sEq x (nm F.name)
  | none => false
def isCls (P : Prg) (c : Nat) (x : PySem.Str) : Bool := match P.cls[c]? with
  | some C => sEq x (nm C.name) && okN x
  | none => false
def isFld (P : Prg) (f : Nat) (x : PySem.Str) : Bool := match P.flds[f]? with
  | some s => sEq x (nm s)
  | none => false
def allSome : List (Option PySem.Str) → Option (List PySem.Str)
  | [] => some []
  | some x :: r => (allSome r).map (x :: ·)
  | none :: _ => none
def strB (l : List PySem.Str) : Bool := match l with
  | [] => true
  | x :: r => (r.all fun y => !sEq x y) && strB r
def natIn (k : Nat) : List Nat → Bool
  | [] => false
  | x :: r => Nat.beq k x || natIn k r
/-- the lacking parameters are those given by name -/
def pmB (N ks : List PySem.Str) (n : Nat) (pm : List Nat) : Bool := strB N && strB ks && decide (n + pm.length = N.length) && decide (ks.length = pm.length) && ((List.range pm.length).all fun k => natIn k pm) && (List.range pm.length).all fun i => match pm[i]? with
  | some k => (match N[n + i]?, ks[k]? with
    | some x, some y => sEq x y
    | _, _ => false)
  | none => false
/-- a test by value: a comparison by its own rule -/
def mVal : Expr → E → Bool
  | e, .cmp _ _ _ => true
  | e, .chn _ _ _ _ _ => true
  | e, _ => byVal e
def isYes : Tt → Bool
  | .yes => true
  | _ => false
section
variable (P : Prg)
mutual
def mE (M : MC) : E → Expr → Bool
  | .var i, e => M.var i e
  | .kon d, e => match e with
    | .Constant k _ _ => konB d k
    | _ => false
  | .glb x d, e => match e with
    | .Name y _ => sEq y (nm x) && M.glb y && okN y && P.cons.any fun p => decide (p.1 = x) && sameD d p.2
    | _ => false
  | .bin o a b, e => match e with
    | .BinOp l op r _ => decide (bop o = op) && mE M a l && mE M b r
    | _ => false
  | .neg a, e => match e with
    | .UnaryOp .USub x _ => mE M a x
    | _ => false
  | .cmp o a b, e => match e with
    | .Compare l [op] [r] _ => decide (cop o = op) && noSet r && mE M a l && mE M b r
    | _ => false
  | .chn o p a b c, e => match e with
    | .Compare l [op, oq] [r, s] _ => decide (cop o = op) && decide (cop p = oq) && noSet s && mE M a l && mE M b r && mE M c s
    | _ => false
  | .and es, e => match e with
    | .BoolOp .And xs _ => mEs M es xs
    | _ => false
  | .or es, e => match e with
    | .BoolOp .Or xs _ => mEs M es xs
    | _ => false
  | .not a, e => match e with
    | .UnaryOp .Not x _ => mE M a x
    | _ => false
  | .ife t a b, e => match e with
    | .IfExp c x y _ => mT M t c && mE M a x && mE M b y
    | _ => false
  | .call f as, e => match e with
    | .Call (.Name g _) xs [] _ => isFn P f g && M.glb g && mEs M as xs
    | _ => false
  | .callk f pm as ks, e => match e with
    | .Call (.Name g _) xs kws _ => isFn P f g && M.glb g && mEs M as xs && mKs M ks kws && (match P.fns[f]?, allSome (kwNames kws) with
      | some F, some ns => pmB ((F.N.take F.np).map nm) ns (esLen as) pm
      | _, _ => false)
    | _ => false
  | .mth c m o as, e => match e with
    | .Call (.Attribute ob a apos) xs [] pos => isMth P c m a && recv ob && decide (apos.endLine = pos.line) && decide (xs.length < 30) && mE M o ob && mEs M as xs
    | _ => false
  | .mk c as, e => match e with
    | .Call (.Name g _) (x :: xs) [] _ => isCls P c g && M.glb g && mEs M as (x :: xs)
    | _ => false
  | .b1 b a, e => match e with
    | .Call (.Name g _) [y] [] _ => sEq g (nm (b1N b)) && M.glb g && (match b1In b with
      | none => noStar y && mE M a y
      | some h => (match y with
        | .Call (.Name k _) [x] [] _ => sEq k (nm h) && M.glb k && noStar x && mE M a x
        | _ => false))
    | _ => false
  | .b2 b a c, e => match e with
    | .Call (.Name g _) [x, y] [] _ => sEq g (nm (b2N b)) && M.glb g && noStar x && noStar y && mE M a x && mE M c y
    | _ => false
  | .isi k a, e => match e with
    | .Call (.Name g _) [x, y] [] _ => sEq g (nm "isinstance") && M.glb g && noStar x && mTy M k y && mE M a x
    | _ => false
  | .ix a i, e => match e with
    | .Subscript x y _ => noSlice y && mE M a x && mE M i y
    | _ => false
  | .sl a lo hi, e => match e with
    | .Subscript x (.Slice l h none _) _ => mE M a x && mO M lo l && mO M hi h
    | _ => false
  | .lst es, e => match e with
    | .List xs _ => decide (esLen es ≤ 1000) && mEs M es xs
    | _ => false
  | .tup es, e => match e with
    | .Tuple xs _ _ => decide (esLen es ≤ 1000) && mEs M es xs
    | _ => false
  | .newL es, e => match e with
    | .List xs _ => decide (esLen es ≤ 1000) && mEs M es xs
    | _ => false
  | .newD, e => match e with
    | .Dict [] [] _ => true
    | _ => false
  | .comp s g own c b, e => match e with
    | .ListComp elt [⟨tg, iter, ifs, 0⟩] scope _ => noSet iter && mSrc M s tg iter && blkB M scope own && tgSub g own && mTg (M.blk scope) g tg && (match ifs with
      | [] => isYes c
      | [e] => mT (M.blk scope) c e
      | _ => false) && mE (M.blk scope) b elt
    | _ => false
  | .join a, e => match e with
    | .Call (.Attribute (.Constant (.str x0) _ _) m apos) [x] [] pos => sEq x0 ⟨#[]⟩ && sEq m (nm "join") && noStar x && decide (apos.endLine = pos.line) && mE M a x
    | _ => false
  | .fld o f, e => match e with
    | .Attribute ob a _ => isFld P f a && recv ob && mE M o ob
    | _ => false
  | .never, _ => true
def mT (M : MC) : Tt → Expr → Bool
  | .yes, _ => false
  | .not u, e => match e with
    | .UnaryOp .Not x _ => mT M u x
    | _ => false
  | .and ts, e => match e with
    | .BoolOp .And xs _ => mTts M ts xs
    | _ => false
  | .or ts, e => match e with
    | .BoolOp .Or xs _ => mTts M ts xs
    | _ => false
  | .val a, e => mVal e a && mE M a e
def mTts (M : MC) : Tts → List Expr → Bool
  | .nil, es => es.isEmpty
  | .cons t r, es => match es with
    | e :: es => mT M t e && mTts M r es
    | [] => false
def mEs (M : MC) : Es → List Expr → Bool
  | .nil, es => es.isEmpty
  | .cons a r, es => match es with
    | e :: es => noStar e && mE M a e && mEs M r es
    | [] => false
def mKs (M : MC) : Es → List Keyword → Bool
  | .nil, es => es.isEmpty
  | .cons a r, es => match es with
    | ⟨_, e, _⟩ :: es => mE M a e && mKs M r es
    | [] => false
def mO (M : MC) : Es → Option Expr → Bool
  | .nil, o => o.isNone
  | .cons a r, o => match o, r with
    | some e, .nil => mE M a e
    | _, _ => false
def mSrc (M : MC) : Src → Expr → Expr → Bool
  | .seq a, _, e => mE M a e
  | .rng a, _, e => match e with
    | .Call (.Name g _) [x] [] _ => sEq g (nm "range") && M.glb g && noStar x && mE M a x
    | _ => false
  | .rng2 a b, _, e => match e with
    | .Call (.Name g _) [x, y] [] _ => sEq g (nm "range") && M.glb g && noStar x && noStar y && mE M a x && mE M b y
    | _ => false
  | .enm a, tg, e => match tg, e with
    | .Tuple _ _ _, .Call (.Name g _) [x] [] _ => sEq g (nm "enumerate") && M.glb g && noStar x && mE M a x
    | _, _ => false
  | .zip a b, tg, e => match tg, e with
    | .Tuple _ _ _, .Call (.Name g _) [x, y] [] _ => sEq g (nm "zip") && M.glb g && noStar x && noStar y && mE M a x && mE M b y
    | _, _ => false
end
end
end Pd
set_option Elab.async false
set_option linter.all false
set_option maxRecDepth 100000
set_option autoImplicit false
/-! Pd: what the check says: expressions. -/
namespace Pd
open PySem PySem.Spec PyProof.Rows L2 TL Bits

def bltNames : List String := ["len", "abs", "int", "str", "sum", "max", "min", "any", "all", "list", "tuple", "sorted", "isinstance", "range", "enumerate", "zip", "set", "bool", "reversed"]
structure XOk (P : Prg) (c : Cn) (lv : Nat) (cl : Calls) (X : Cx) : Prop where
  K : c.K = X.K
  calm : X.calm = true
  nd : X.N.Nodup
  room : Room (lv + 1) X.A
  blt : ∀ x ∈ bltNames, X.mg (nm x) = none
  F : ClsF c
  mno : ∀ (i : Nat) (f : Fn), P.fns[i]? = some f → ∀ j, c.fnm j ≠ some (nm f.name)
  fn : ∀ (i : Nat) (f : Fn), P.fns[i]? = some f → FnAt c X.prog X.w X.mg X.base lv f (cl.fn i)
  ar : ∀ (i : Nat) (f : Fn) ds t d t', P.fns[i]? = some f → cl.fn i ds t = .ok d t' → ds.length = f.np
  cls : ∀ (k : Nat) (C : Cls), P.cls[k]? = some C → ClsAt c X.mg k C ∧ ∃ F, P.fns[C.init]? = some F ∧ F.cls = some k ∧ F.name = "__init__"
  cn : ∀ k as t, cl.cn k as t = mkC P cl.fn k as t
  fld : ∀ (i : Nat) (s : String), P.flds[i]? = some s → c.fnm i = some (nm s)
  con : ∀ (x : String) (d : D), (x, d) ∈ P.cons → ∃ v u, X.mg (nm x) = some u ∧ L2.RelV v u ∧ ∀ g H, Rep c g H v d
section
variable {P : Prg} {c : Cn} {lv : Nat} {cl : Calls}
theorem XOk.blk {X : Cx} (O : XOk P c lv cl X) (s : Shared) (H : Hp) (scope : Scope) (env : PySem.Env) (fp : List Addr) : XOk P c lv cl (X.blk s H scope env fp) :=
  ⟨O.K, O.calm, O.nd, O.room, O.blt, O.F, O.mno, O.fn, O.ar, O.cls, O.cn, O.fld, O.con⟩
theorem XOk.un {X : Cx} (O : XOk P c lv cl X) : X.A.units + 64 < cLine := O.room.units
theorem XOk.r0 {X : Cx} (O : XOk P c lv cl X) : Room lv X.A := O.room.mono (Nat.le_succ _)
theorem XOk.blt' {X : Cx} (O : XOk P c lv cl X) {x : String} (h : bltNames.contains x = true) : X.mg (nm x) = none := O.blt x (by simpa using h)

theorem evs_len : ∀ (es : Es) (ρ : Env) (t : T) (xs : List D) (t' : T), evs cl es ρ t = .ok xs t' → xs.length = esLen es
  | .nil, ρ, t, xs, t', h => by cases h; rfl
  | .cons e r, ρ, t, xs, t', h => by
    simp only [evs] at h
    cases h1 : ev cl e ρ t with
    | ok d t1 =>
      rw [h1] at h
      simp only [bnd_ok] at h
      cases h2 : evs cl r ρ t1 with
      | ok ds t2 =>
        rw [h2] at h
        simp only [bnd_ok] at h
        cases h
        rw [List.length_cons, evs_len r _ _ _ _ h2]; rfl
      | ex _ _ _ => rw [h2] at h; cases h
      | no => rw [h2] at h; cases h
    | ex _ _ _ => rw [h1] at h; cases h
    | no => rw [h1] at h; cases h
theorem mEs_len {M : MC} : ∀ {es : Es} {xs : List Expr}, mEs P M es xs = true → xs.length = esLen es ∧ noStars xs = true
  | .nil, xs, h => by
    cases xs with
    | nil => exact ⟨rfl, rfl⟩
    | cons _ _ => cases h
  | .cons e r, xs, h => by
    cases xs with
    | nil => cases h
    | cons x xs =>
      simp only [mEs, Bool.and_eq_true] at h
      obtain ⟨h1, h2⟩ := mEs_len h.2
      exact ⟨by rw [List.length_cons, h1]; rfl, by unfold noStars; rw [h.1.1, h2]; rfl⟩
theorem mKs_len {M : MC} : ∀ {es : Es} {xs : List Keyword}, mKs P M es xs = true → xs.length = esLen es
  | .nil, xs, h => by
    cases xs with
    | nil => rfl
    | cons _ _ => cases h
  | .cons e r, xs, h => by
    cases xs with
    | nil => cases h
    | cons x xs =>
      obtain ⟨n, v, p⟩ := x
      simp only [mKs, Bool.and_eq_true] at h
      rw [List.length_cons, mKs_len h.2]; rfl
theorem allSome_eq : ∀ {l : List (Option PySem.Str)} {ns : List PySem.Str}, allSome l = some ns → l = ns.map some
  | [], ns, h => by cases h; rfl
  | none :: _, ns, h => by cases h
  | some x :: r, ns, h => by
    obtain ⟨ms, e, rfl⟩ := Option.map_eq_some_iff.mp (show (allSome r).map (x :: ·) = some ns from h)
    rw [allSome_eq e]; rfl
theorem strB_nodup : ∀ {l : List PySem.Str}, strB l = true → l.Nodup
  | [], _ => List.nodup_nil
  | x :: r, h => by
    unfold strB at h
    simp only [Bool.and_eq_true, List.all_eq_true] at h
    refine List.nodup_cons.mpr ⟨fun hm => ?_, strB_nodup h.2⟩
    have q := h.1 x hm
    rw [show sEq x x = true from sEq_iff.mpr rfl] at q
    cases q
theorem natIn_mem {k : Nat} : ∀ {l : List Nat}, natIn k l = true → k ∈ l
  | [], h => by cases h
  | x :: r, h => by
    unfold natIn at h
    rcases (Bool.or_eq_true _ _).mp h with h | h
    · rw [Nat.eq_of_beq_eq_true h]; exact List.mem_cons_self
    · exact List.mem_cons_of_mem _ (natIn_mem h)
theorem pmB_ok {N ks : List PySem.Str} {n : Nat} {pm : List Nat} (h : pmB N ks n pm = true) : PmOk N ks n pm := by
  unfold pmB at h
  simp only [Bool.and_eq_true, decide_eq_true_eq, List.all_eq_true, List.mem_range] at h
  obtain ⟨⟨⟨⟨⟨h1, h2⟩, h3⟩, h4⟩, h5⟩, h6⟩ := h
  refine ⟨strB_nodup h1, strB_nodup h2, h3, h4, fun k hk => natIn_mem (h5 k hk), fun i k hi => ?_⟩
  have q := h6 i (List.getElem?_eq_some_iff.mp hi).1
  rw [hi] at q
  dsimp only at q
  split at q
  · rename_i x y e1 e2
    exact ⟨x, e1, by rw [e2, sEq_iff.mp q]⟩
  · cases q
theorem isFn_at {X : Cx} (O : XOk P c lv cl X) {f : Nat} {x : PySem.Str} (h : isFn P f x = true) : ∃ F, P.fns[f]? = some F ∧ F.cls = none ∧ x = nm F.name ∧ (nm F.name == ("__debug__" : PySem.Str)) = false := by
  unfold isFn at h
  split at h
  · rename_i F e
    simp only [Bool.and_eq_true] at h
    have e2 := sEq_iff.mp h.1.2
    refine ⟨F, e, by simpa using h.1.1, e2, ?_⟩
    rw [← e2]; exact (okN_iff h.2).1
  · cases h
/-- an operand -/
theorem sO_of {M : MC} {X : Cx} {en : En} (Ft : Fits M X) {e : E} {pe : Expr} (h : mE P M e pe = true) (hE : PE X pe (tE c en (fresh e) (ev cl e))) : PE X pe (tO c en fun ρ t => opd e ρ t (ev cl e ρ t)) := by
  cases e with
  | var i =>
    cases pe with
    | Name x p =>
      have h : M.var i (.Name x p) = true := h
      simp only [MC.var, Bool.and_eq_true] at h
      exact snd_peek (Ft.at h.1.1) (Ft.vis h.1.2) (okN_iff h.2).1 (okN_iff h.2).2
    | _ => cases h
  | _ => exact hE.pk
theorem sOn_of {M : MC} {X : Cx} {en : En} (Ft : Fits M X) (pk : Bool) {e : E} {pe : Expr} (h : mE P M e pe = true) (hE : PE X pe (tE c en (fresh e) (ev cl e))) : PE X pe (tOn pk c en fun ρ t => opn pk e ρ t (ev cl e ρ t)) := by
  cases pk with
  | true => exact tOn_tO (sO_of Ft h hE)
  | false => exact tOn_tE hE.esc
/-- a test by value -/
theorem sV_of {M : MC} {X : Cx} {en : En} (O : XOk P c lv cl X) (Ft : Fits M X) {e : E} {pe : Expr} (hv : byVal pe = true) (h : mE P M e pe = true) (hE : PE X pe (tE c en (fresh e) (ev cl e))) : PT X pe (tT c en fun ρ t => bnd (opd e ρ t (ev cl e ρ t)) fun x t => ofO (truthD t x) t) :=
  snd_tru O.K (sO_of Ft h hE) (byVal_true hv)
end
end Pd
set_option Elab.async false
set_option linter.all false
set_option maxRecDepth 100000
set_option autoImplicit false
/-! Pd: what the check says: expressions. -/
namespace Pd
open PySem PySem.Spec PyProof.Rows L2 TL Bits

section
variable {P : Prg} {c : Cn} {lv : Nat} {cl : Calls} {en : En}
theorem sB1 {M : MC} {X : Cx} (O : XOk P c lv cl X) (Ft : Fits M X) {b : B1} {x : Expr} {g : PySem.Str} {p pos : Pos} {fa : Env → T → R D} (hb : b1In b = none) (hg : sEq g (nm (b1N b)) = true) (hgl : M.glb g = true) (hx : noStar x = true) (ha : PE X x (tO c en fa)) :
    PE X (.Call (.Name g p) [x] [] pos) (tE c en true fun ρ t => bnd (fa ρ t) fun x t => ofO (b1D t b x) t) := by
  have e := sEq_iff.mp hg
  subst e
  have G := Ft.glb hgl
  have ha' := pa_one ha (star_cons hx)
  cases b with
  | len => exact snd_b1 (pe_callB (b1_len O.K) G (O.blt' (by decide)) boot_len ha' (by decide +kernel) (by decide +kernel) (star_cons hx) rfl)
  | abs => exact snd_b1 (pe_callB b1_abs G (O.blt' (by decide)) boot_abs ha' (by decide +kernel) (by decide +kernel) (star_cons hx) rfl)
  | int => exact snd_b1 (pe_callTy b1_int G (O.blt' (by decide)) boot_int ha' (by decide +kernel) (by decide +kernel) (star_cons hx) rfl)
  | str => exact snd_b1 (pe_callTy b1_str G (O.blt' (by decide)) boot_str ha' (by decide +kernel) (by decide +kernel) (star_cons hx) rfl)
  | sum => exact snd_b1 (pe_callB (b1_sum O.K O.calm) G (O.blt' (by decide)) boot_sum ha' (by decide +kernel) (by decide +kernel) (star_cons hx) rfl)
  | max => exact snd_b1 (pe_callB (b1_max O.K O.calm) G (O.blt' (by decide)) boot_max ha' (by decide +kernel) (by decide +kernel) (star_cons hx) rfl)
  | min => exact snd_b1 (pe_callB (b1_min O.K O.calm) G (O.blt' (by decide)) boot_min ha' (by decide +kernel) (by decide +kernel) (star_cons hx) rfl)
  | any => exact snd_b1 (pe_callB (b1_any O.K O.calm) G (O.blt' (by decide)) boot_any ha' (by decide +kernel) (by decide +kernel) (star_cons hx) rfl)
  | all => exact snd_b1 (pe_callB (b1_all O.K O.calm) G (O.blt' (by decide)) boot_all ha' (by decide +kernel) (by decide +kernel) (star_cons hx) rfl)
  | list => exact snd_b1 (pe_callTy (b1_list O.K) G (O.blt' (by decide)) boot_list ha' (by decide +kernel) (by decide +kernel) (star_cons hx) rfl)
  | tuple => exact snd_b1 (pe_callTy (b1_tuple O.K) G (O.blt' (by decide)) boot_tuple ha' (by decide +kernel) (by decide +kernel) (star_cons hx) rfl)
  | sorted => exact snd_b1 (pe_callB (b1_sorted O.K) G (O.blt' (by decide)) boot_sorted ha' (by decide +kernel) (by decide +kernel) (star_cons hx) rfl)
  | _ => cases hb
theorem sB1In {M : MC} {X : Cx} (O : XOk P c lv cl X) (Ft : Fits M X) {b : B1} {x : Expr} {g h : PySem.Str} {k : String} {p p2 q pos : Pos} {fa : Env → T → R D} (hb : b1In b = some k) (hg : sEq g (nm (b1N b)) = true) (hgl : M.glb g = true) (hh : sEq h (nm k) = true) (hhl : M.glb h = true) (hx : noStar x = true) (ha : PE X x (tO c en fa)) :
    PE X (.Call (.Name g p) [.Call (.Name h p2) [x] [] q] [] pos) (tE c en true fun ρ t => bnd (fa ρ t) fun x t => ofO (b1D t b x) t) := by
  have e := sEq_iff.mp hg
  subst e
  have e := sEq_iff.mp hh
  subst e
  have G := Ft.glb hgl
  have G2 := Ft.glb hhl
  cases b with
  | lenset => cases hb; exact snd_lenset O.K O.calm G (O.blt' (by decide)) G2 (O.blt' (by decide)) ha (star_cons hx)
  | lrange => cases hb; exact snd_lrange O.calm G (O.blt' (by decide)) G2 (O.blt' (by decide)) ha (star_cons hx)
  | trange => cases hb; exact snd_trange O.calm G (O.blt' (by decide)) G2 (O.blt' (by decide)) ha (star_cons hx)
  | _ => cases hb
theorem sameD_eq {a b : D} (h : sameD a b = true) : a = b := by
  cases a <;> cases b <;> first | cases h | skip
  · rfl
  · rw [of_decide_eq_true h]
  · rw [of_decide_eq_true h]
  · simp only [sameD, Bool.and_eq_true] at h
    rw [(lEq_iff _ _).mp h.1]
theorem sGlb {M : MC} {X : Cx} (O : XOk P c lv cl X) (Ft : Fits M X) {x : String} {d : D} {pe : Expr} (h : mE P M (.glb x d) pe = true) : PE X pe (tE c en false (ev cl (.glb x d))) := by
  unfold mE at h
  split at h
  · simp only [Bool.and_eq_true] at h
    obtain ⟨⟨⟨h1, h2⟩, h3⟩, h4⟩ := h
    have e := sEq_iff.mp h1
    subst e
    obtain ⟨q, hq, e⟩ := List.any_eq_true.mp h4
    simp only [Bool.and_eq_true, decide_eq_true_eq] at e
    obtain ⟨e1, e2⟩ := e
    have e2 := sameD_eq e2
    have hq : (x, d) ∈ P.cons := by
      have : q = (x, d) := by rw [← e1, e2]
      rw [← this]; exact hq
    obtain ⟨v, u, m1, m2, m3⟩ := O.con x d hq
    exact snd_kon (pe_glob (Ft.glb h2) m1 m2 (okN_iff h3).1) m3
  · cases h
theorem sB2 {M : MC} {X : Cx} (O : XOk P c lv cl X) (Ft : Fits M X) {b : B2} {x y : Expr} {g : PySem.Str} {p pos : Pos} {fa fb : Env → T → R D} (hg : sEq g (nm (b2N b)) = true) (hgl : M.glb g = true) (hx : noStar x = true) (hy : noStar y = true) (ha : PE X x (tO c en fa)) (hb : PE X y (tO c en fb)) :
    PE X (.Call (.Name g p) [x, y] [] pos) (tE c en false fun ρ t => bnd (fa ρ t) fun x t => bnd (fb ρ t) fun y t => ofO (b2D b x y) t) := by
  have e := sEq_iff.mp hg
  subst e
  have G := Ft.glb hgl
  have ha' := pa_cons ha (pa_one hb (star_cons hy)) (star_cons hx)
  have hp : (backTo pos (starEach [y] X.env)).any (·.1) = false := star_any (by unfold noStars; rw [hy]; rfl)
  cases b with
  | max => exact snd_b2 (pe_callB (b2_max O.calm) G (O.blt' (by decide)) boot_max ha' (by decide +kernel) (by decide +kernel) (star_cons hx) hp)
  | min => exact snd_b2 (pe_callB (b2_min O.calm) G (O.blt' (by decide)) boot_min ha' (by decide +kernel) (by decide +kernel) (star_cons hx) hp)
theorem ty_name {M : MC} {X : Cx} (O : XOk P c lv cl X) (Ft : Fits M X) {n : String} {x : PySem.Str} {p : Pos} (hn : n = "int" ∨ n = "bool" ∨ n = "str" ∨ n = "tuple" ∨ n = "list") (hx : sEq x (nm n) = true) (hg : M.glb x = true) : PE X (.Name x p) (tC (.ty n)) := by
  have e := sEq_iff.mp hx
  subst e
  have G := Ft.glb hg
  rcases hn with rfl | rfl | rfl | rfl | rfl
  · exact pe_bltn G (O.blt' (by decide)) boot_int rfl (by decide +kernel) (by decide +kernel)
  · exact pe_bltn G (O.blt' (by decide)) boot_bool rfl (by decide +kernel) (by decide +kernel)
  · exact pe_bltn G (O.blt' (by decide)) boot_str rfl (by decide +kernel) (by decide +kernel)
  · exact pe_bltn G (O.blt' (by decide)) boot_tuple rfl (by decide +kernel) (by decide +kernel)
  · exact pe_bltn G (O.blt' (by decide)) boot_list rfl (by decide +kernel) (by decide +kernel)
theorem sIsi {M : MC} {X : Cx} (O : XOk P c lv cl X) (Ft : Fits M X) {k : Ty} {x y : Expr} {g : PySem.Str} {p pos : Pos} {fa : Env → T → R D} (hg : sEq g (nm "isinstance") = true) (hgl : M.glb g = true) (hx : noStar x = true) (hk : mTy M k y = true) (ha : PE X x (tO c en fa)) :
    PE X (.Call (.Name g p) [x, y] [] pos) (tE c en false fun ρ t => bnd (fa ρ t) fun x t => ofO ((isiD t k x).map .bl) t) := by
  have e := sEq_iff.mp hg
  subst e
  have G := Ft.glb hgl
  have one : ∀ {n : String}, tyN k = [n] → (n = "int" ∨ n = "bool" ∨ n = "str" ∨ n = "tuple" ∨ n = "list") → ∀ {z : PySem.Str} {q : Pos}, y = .Name z q → sEq z (nm n) = true → M.glb z = true → PE X (.Call (.Name (nm "isinstance") p) [x, y] [] pos) (tE c en false fun ρ t => bnd (fa ρ t) fun x t => ofO ((isiD t k x).map .bl) t) := fun {n} hn ho {z q} hy hz hzg => by
    subst hy
    exact snd_isi1 hn (pe_callB (op_isi O.K k) G (O.blt' (by decide)) boot_isinstance (pa_cons ha (pa_cons (ty_name O Ft ho hz hzg) pa_nil rfl) (star_cons hx)) (by decide +kernel) (by decide +kernel) (star_cons hx) rfl)
  have nameCase : ∀ {z : PySem.Str} {q : Pos}, y = .Name z q → PE X (.Call (.Name (nm "isinstance") p) [x, y] [] pos) (tE c en false fun ρ t => bnd (fa ρ t) fun x t => ofO ((isiD t k x).map .bl) t) := fun {z q} hy => by
    subst hy
    cases k with
    | int => simp only [mTy, tyN, Bool.and_eq_true] at hk; exact one rfl (by simp) rfl hk.1 hk.2
    | bool => simp only [mTy, tyN, Bool.and_eq_true] at hk; exact one rfl (by simp) rfl hk.1 hk.2
    | str => simp only [mTy, tyN, Bool.and_eq_true] at hk; exact one rfl (by simp) rfl hk.1 hk.2
    | tup => simp only [mTy, tyN, Bool.and_eq_true] at hk; exact one rfl (by simp) rfl hk.1 hk.2
    | lst => simp only [mTy, tyN, Bool.and_eq_true] at hk; exact one rfl (by simp) rfl hk.1 hk.2
    | row => simp [mTy, tyN] at hk
  unfold mTy at hk
  split at hk
  · exact nameCase rfl
  · rename_i z q z2 q2 _ _
    simp only [Bool.and_eq_true] at hk
    obtain ⟨⟨⟨h1, h2⟩, h3⟩, h4⟩ := hk
    exact snd_isiR (pe_callB (op_isi O.K .row) G (O.blt' (by decide)) boot_isinstance (pa_cons ha (pa_cons (pe_tup (pa_cons (ty_name O Ft (by simp) h1 h3) (pa_cons (ty_name O Ft (by simp) h2 h4) pa_nil rfl) rfl)) pa_nil rfl) (star_cons hx)) (by decide +kernel) (by decide +kernel) (star_cons hx) rfl)
  · cases hk
mutual
theorem sTg {X : Cx} {M : MC} (O : XOk P c lv cl X) (Ft : Fits M X) : ∀ (g : Tg) (e : Expr), mTg M g e = true → PG X e (gD c en g)
  | .nm i, e, h => by
    cases e with
    | Name x p =>
      simp only [mTg, Bool.and_eq_true] at h
      obtain ⟨l1, l2⟩ := Ft.loc h.2
      exact snd_gnm O.nd (Ft.at h.1) l1 l2
    | _ => simp [mTg] at h
  | .tp gs, e, h => by
    cases e with
    | Tuple es k p =>
      have h : mTgs M gs es = true := by simpa only [mTg] using h
      obtain ⟨h1, h2, h3⟩ := sTgs O Ft gs es h
      exact snd_gtp O.K O.calm h1 (by rw [asg_len, h2]) (asg_idx h3)
    | _ => simp [mTg] at h
theorem sTgs {X : Cx} {M : MC} (O : XOk P c lv cl X) (Ft : Fits M X) : ∀ (g : Tgs) (es : List Expr), mTgs M g es = true → PGs X es (gDs c en g) ∧ es.length = tgsN g ∧ noStars es = true
  | .nil, es, h => by
    cases es with
    | nil => exact ⟨snd_gnil, rfl, rfl⟩
    | cons _ _ => simp [mTgs] at h
  | .cons g r, es, h => by
    cases es with
    | nil => simp [mTgs] at h
    | cons e es =>
      simp only [mTgs, Bool.and_eq_true] at h
      obtain ⟨h1, h2, h3⟩ := sTgs O Ft r es h.2
      refine ⟨snd_gcons (sTg O Ft g e h.1.2) h1 ?_, by rw [List.length_cons, h2]; rfl, by unfold noStars; rw [h.1.1, h3]; rfl⟩
      rw [asg_cons h.1.1]; rfl
end
theorem mT_val {M : MC} {a : E} {pe : Expr} (h : mT P M (.val a) pe = true) : mVal pe a = true ∧ mE P M a pe = true := by
  simp only [mT, Bool.and_eq_true] at h
  exact h
theorem sIf_of {X : Cx} {M : MC} {t : Tt} {ifs : List Expr} (h : (match ifs with
      | [] => isYes t
      | [e] => mT P M t e
      | _ => false) = true) (hT : ∀ e, mT P M t e = true → PT X e (tT c en (evT cl t))) : PTs X ifs (tT c en (evT cl t)) := by
  split at h
  · cases t with
    | yes => exact ⟨fun pins s σ H Q I ⟨ρ, t, g, s', r⟩ => pts_nil.run pins s σ H Q I ((show KT c g H t true Q from r) g H Step.refl s'.st)⟩
    | _ => cases h
  · exact pts_one (hT _ h)
  · cases h
theorem sW0 {X : Cx} {pos : Pos} : PW X (.BoolOp .And [] pos) (tT c en (evTAnd cl .nil)) := ⟨fun w pins s σ H Q I ⟨ρ, t, g, s', r⟩ => wpAny_pure ⟨H, I, (show KT c g H t true Q from r) g H Step.refl s'.st⟩⟩
theorem sW1 {X : Cx} {pos : Pos} : PW X (.BoolOp .Or [] pos) (tT c en (evTOr cl .nil)) := ⟨fun w pins s σ H Q I ⟨ρ, t, g, s', r⟩ => wpAny_pure ⟨H, I, (show KT c g H t false Q from r) g H Step.refl s'.st⟩⟩
mutual
theorem sE {X : Cx} {M : MC} (O : XOk P c lv cl X) (Ft : Fits M X) : ∀ (e : E) (pe : Expr), mE P M e pe = true → PE X pe (tE c en (fresh e) (ev cl e))
  | .var i, pe, h => by
    cases pe with
    | Name x p =>
      have h : M.var i (.Name x p) = true := h
      simp only [MC.var, Bool.and_eq_true] at h
      exact snd_var (Ft.at h.1.1) (Ft.vis h.1.2) (okN_iff h.2).1 (okN_iff h.2).2
    | _ => cases h
  | .kon d, pe, h => by
    cases pe with
    | Constant k j p => exact snd_const h
    | _ => cases h
  | .glb x d, pe, h => sGlb O Ft h
  | .bin o a b, pe, h => by
    cases pe with
    | BinOp l op r p =>
      simp only [mE, Bool.and_eq_true, decide_eq_true_eq] at h
      obtain ⟨⟨rfl, h1⟩, h2⟩ := h
      exact snd_bin O.K o (sO_of Ft h1 (sE O Ft a l h1)) (sO_of Ft h2 (sE O Ft b r h2))
    | _ => cases h
  | .neg a, pe, h => by
    cases pe with
    | UnaryOp op x p =>
      cases op with
      | USub =>
        have h : mE P M a x = true := h
        exact snd_neg (sO_of Ft h (sE O Ft a x h))
      | _ => cases h
    | _ => cases h
  | .cmp o a b, pe, h => by
    unfold mE at h
    split at h
    · simp only [Bool.and_eq_true, decide_eq_true_eq] at h
      obtain ⟨⟨⟨rfl, h0⟩, h1⟩, h2⟩ := h
      exact snd_cmp O.K O.un o (sO_of Ft h1 (sE O Ft a _ h1)) (sO_of Ft h2 (sE O Ft b _ h2)) (noSet_marks h0 _)
    · cases h
  | .chn o p a b d, pe, h => by
    unfold mE at h
    split at h
    · simp only [Bool.and_eq_true, decide_eq_true_eq] at h
      obtain ⟨⟨⟨⟨⟨rfl, rfl⟩, h0⟩, h1⟩, h2⟩, h3⟩ := h
      exact snd_chn O.K O.un o p (sO_of Ft h1 (sE O Ft a _ h1)) (sO_of Ft h2 (sE O Ft b _ h2)) (sO_of Ft h3 (sE O Ft d _ h3)) (noSet_marks h0 _)
    · cases h
  | .and es, pe, h => by
    unfold mE at h
    split at h
    · exact sAnd O Ft es _ h
    · cases h
  | .or es, pe, h => by
    unfold mE at h
    split at h
    · exact sOr O Ft es _ h
    · cases h
  | .not a, pe, h => by
    unfold mE at h
    split at h
    · exact snd_not O.K (sO_of Ft h (sE O Ft a _ h))
    · cases h
  | .ife t a b, pe, h => by
    unfold mE at h
    split at h
    · simp only [Bool.and_eq_true] at h
      obtain ⟨⟨h1, h2⟩, h3⟩ := h
      exact snd_ife (sT O Ft t _ h1) (sE O Ft a _ h2).esc (sE O Ft b _ h3).esc
    · cases h
  | .call f as, pe, h => by
    unfold mE at h
    split at h
    · rename_i g p xs pos
      simp only [Bool.and_eq_true] at h
      obtain ⟨⟨h1, h2⟩, h3⟩ := h
      obtain ⟨F, e1, e2, rfl, e4⟩ := isFn_at O h1
      have ha := sEs O Ft as xs h3
      cases xs with
      | nil =>
        cases as with
        | nil => exact snd_call0 O.K (O.fn f F e1) O.r0 e2 (Ft.glb h2) (fun ds t d t' => O.ar f F ds t d t' e1) e4
        | cons _ _ => cases h3
      | cons x xs =>
        have hs := (mEs_len h3).2
        unfold noStars at hs
        simp only [Bool.and_eq_true] at hs
        exact snd_call O.K (O.fn f F e1) O.r0 e2 (Ft.glb h2) (fun ds t d t' => O.ar f F ds t d t' e1) e4 ha (star_cons hs.1) (star_any hs.2)
    · cases h
  | .callk f pm as ks, pe, h => by
    unfold mE at h
    split at h
    · rename_i g p xs kws pos
      simp only [Bool.and_eq_true] at h
      obtain ⟨⟨⟨⟨h1, h2⟩, h3⟩, h4⟩, h5⟩ := h
      obtain ⟨F, e1, e2, rfl, e4⟩ := isFn_at O h1
      rw [e1] at h5
      cases hk : allSome (kwNames kws) with
      | none => rw [hk] at h5; cases h5
      | some ns =>
        rw [hk] at h5
        have hkn := allSome_eq hk
        have hpm := pmB_ok h5
        have hs := (mEs_len h3).2
        refine snd_callk (n := esLen as) (ks := ns) O.K (O.fn f F e1) O.r0 e2 (Ft.glb h2) (fun ds t d t' => O.ar f F ds t d t' e1) e4 (sEs O Ft as xs h3) (fun e r he => ?_) (fun he ρ t => ?_) (star_any hs) (sKs O Ft ks kws h4) hkn hpm (fun ρ t xs t' he => evs_len as ρ t xs t' he) (fun ρ t xs t' he => ?_)
        · rw [he] at hs
          unfold noStars at hs
          simp only [Bool.and_eq_true] at hs
          exact star_cons hs.1
        · subst he
          cases as with
          | nil => rfl
          | cons _ _ => cases h3
        · have l1 := evs_len ks ρ t xs t' he
          have l2 := mKs_len h4
          have l3 := congrArg List.length hkn
          unfold kwNames at l3
          rw [List.length_map, List.length_map] at l3
          omega
    · cases h
  | .mth k m o as, pe, h => by
    unfold mE at h
    split at h
    · rename_i ob a apos xs pos
      simp only [Bool.and_eq_true, decide_eq_true_eq] at h
      obtain ⟨⟨⟨⟨⟨h1, h2⟩, h3⟩, h4⟩, h5⟩, h6⟩ := h
      unfold isMth at h1
      split at h1
      · rename_i F e1
        simp only [Bool.and_eq_true, decide_eq_true_eq] at h1
        obtain ⟨e2, e3⟩ := h1
        have e3 := sEq_iff.mp e3
        subst e3
        have ho := (sE O Ft o ob h5).esc
        have ha := sEs O Ft as xs h6
        cases xs with
        | nil =>
          cases as with
          | nil => exact snd_mth0 O.F O.K (O.fn m F e1) O.r0 e2 (fun ds t d t' => O.ar m F ds t d t' e1) (O.mno m F e1) ho (recv_base h2) (by simpa using h3)
          | cons _ _ => cases h6
        | cons x xs =>
          have hss := (mEs_len h6).2
          have hs := hss
          unfold noStars at hs
          simp only [Bool.and_eq_true] at hs
          exact snd_mth O.F O.K (O.fn m F e1) O.r0 e2 (fun ds t d t' => O.ar m F ds t d t' e1) (O.mno m F e1) ho (recv_base h2) (by simpa using h3) ha (star_cons hs.1) (star_any hs.2) (mform hss h4)
      · cases h1
    · cases h
  | .mk k as, pe, h => by
    unfold mE at h
    split at h
    · rename_i g p x xs pos
      simp only [Bool.and_eq_true] at h
      obtain ⟨⟨h1, h2⟩, h3⟩ := h
      unfold isCls at h1
      split at h1
      · rename_i C e1
        simp only [Bool.and_eq_true] at h1
        obtain ⟨e2, e3⟩ := h1
        have e2 := sEq_iff.mp e2
        subst e2
        obtain ⟨B, F, f1, f2, f3⟩ := O.cls k C e1
        have ha := sEs O Ft as (x :: xs) h3
        have hs := (mEs_len h3).2
        unfold noStars at hs
        simp only [Bool.and_eq_true] at hs
        have q := snd_mk (p := p) (pos := pos) (fn := cl.fn) O.K (O.fn C.init F f1) B O.room f2 f3 (Ft.glb h2) (fun ds t d t' => O.ar C.init F ds t d t' f1) (okN_iff e3).1 ha (star_cons hs.1) (star_any hs.2)
        refine q.imp fun σ H Q h => ?_
        have e : (ev cl (.mk k as)) = fun ρ t => bnd (evs cl as ρ t) fun xs t => bnd (cl.fn C.init (.obj t.length :: xs) (t ++ [.ins k []])) fun d t' => match d with
          | .non => .ok (.obj t.length) t'
          | _ => .no := by
          funext ρ t
          show bnd (evs cl as ρ t) (fun xs t => cl.cn k xs t) = _
          refine congrArg (bnd (evs cl as ρ t)) ?_
          funext xs t
          rw [O.cn]
          unfold mkC
          rw [e1] <;> rfl
        rw [e] at h
        exact h
      · cases h1
    · cases h
  | .b1 b a, pe, h => by
    unfold mE at h
    split at h
    · rename_i g p y pos
      simp only [Bool.and_eq_true] at h
      obtain ⟨⟨h1, h2⟩, h3⟩ := h
      have q : PE X (.Call (.Name g p) [y] [] pos) (tE c en true (ev cl (.b1 b a))) := by
        cases hb : b1In b with
        | none =>
          rw [hb] at h3
          simp only [Bool.and_eq_true] at h3
          exact sB1 (en := en) (p := p) (pos := pos) O Ft hb h1 h2 h3.1 (sO_of Ft h3.2 (sE O Ft a _ h3.2))
        | some k =>
          rw [hb] at h3
          dsimp only at h3
          split at h3
          · simp only [Bool.and_eq_true] at h3
            obtain ⟨⟨⟨h4, h5⟩, h6⟩, h7⟩ := h3
            exact sB1In (en := en) O Ft hb h1 h2 h4 h5 h6 (sO_of Ft h7 (sE O Ft a _ h7))
          · cases h3
      cases hf : fresh (.b1 b a) with
      | true => exact q
      | false => exact q.esc
    · cases h
  | .b2 b a d, pe, h => by
    unfold mE at h
    split at h
    · simp only [Bool.and_eq_true] at h
      obtain ⟨⟨⟨⟨⟨h1, h2⟩, h3⟩, h4⟩, h5⟩, h6⟩ := h
      exact sB2 O Ft h1 h2 h3 h4 (sO_of Ft h5 (sE O Ft a _ h5)) (sO_of Ft h6 (sE O Ft d _ h6))
    · cases h
  | .isi k a, pe, h => by
    unfold mE at h
    split at h
    · simp only [Bool.and_eq_true] at h
      obtain ⟨⟨⟨⟨h1, h2⟩, h3⟩, h4⟩, h5⟩ := h
      exact sIsi O Ft h1 h2 h3 h4 (sO_of Ft h5 (sE O Ft a _ h5))
    · cases h
  | .ix a i, pe, h => by
    unfold mE at h
    split at h
    · simp only [Bool.and_eq_true] at h
      obtain ⟨⟨h1, h2⟩, h3⟩ := h
      exact snd_ix O.K (sO_of Ft h2 (sE O Ft a _ h2)) (sO_of Ft h3 (sE O Ft i _ h3)) (noSlice_ix h1)
    · cases h
  | .sl a lo hi, pe, h => by
    unfold mE at h
    split at h
    · simp only [Bool.and_eq_true] at h
      obtain ⟨⟨h1, h2⟩, h3⟩ := h
      exact snd_sl O.K (sO_of Ft h1 (sE O Ft a _ h1)) (sP O Ft lo _ h2) (sP O Ft hi _ h3)
    · cases h
  | .lst es, pe, h => by
    unfold mE at h
    split at h
    · simp only [Bool.and_eq_true, decide_eq_true_eq] at h
      exact snd_lst (sEs O Ft es _ h.2) fun ρ t xs t' he => by rw [evs_len es ρ t xs t' he]; unfold sz; omega
    · cases h
  | .tup es, pe, h => by
    unfold mE at h
    split at h
    · simp only [Bool.and_eq_true, decide_eq_true_eq] at h
      exact snd_tup (sEs O Ft es _ h.2) fun ρ t xs t' he => by rw [evs_len es ρ t xs t' he]; unfold sz; omega
    · cases h
  | .newL es, pe, h => by
    unfold mE at h
    split at h
    · simp only [Bool.and_eq_true, decide_eq_true_eq] at h
      exact snd_newL (sEs O Ft es _ h.2) fun ρ t xs t' he => by rw [evs_len es ρ t xs t' he]; unfold sz; omega
    · cases h
  | .newD, pe, h => by
    unfold mE at h
    split at h
    · exact snd_newD
    · cases h
  | .comp s g own t b, pe, h => by
    unfold mE at h
    split at h
    · rename_i elt tg iter ifs scope pos
      simp only [Bool.and_eq_true] at h
      obtain ⟨⟨⟨⟨⟨⟨h1, h2⟩, h3⟩, h4⟩, h5⟩, h6⟩, h7⟩ := h
      have q := snd_comp (pos := pos) (en := en) O.calm O.nd (sSrc O Ft true s tg iter h2) (blkB_ok Ft h3) (gt := g) (ft := evT cl t) (fe := ev cl b) (by
          intro i hi
          rw [own_snd]
          have := List.all_eq_true.mp h4 i hi
          simpa using this)
        (fun s' H C cl' fp => sTg (O.blk s' H scope _ fp) (Ft.blk scope s' H C cl' fp) g tg h5)
        (fun s' H C cl' fp => sIf_of h6 fun e he => sT (O.blk s' H scope _ fp) (Ft.blk scope s' H C cl' fp) t e he)
        (fun s' H C cl' fp => (sE (O.blk s' H scope _ fp) (Ft.blk scope s' H C cl' fp) b elt h7).esc) (noSet_fold h1)
      rw [own_snd] at q
      exact q
    · cases h
  | .join a, pe, h => by
    unfold mE at h
    split at h
    · simp only [Bool.and_eq_true, decide_eq_true_eq] at h
      obtain ⟨⟨⟨⟨h1, h2⟩, h3⟩, h4⟩, h5⟩ := h
      have e1 := sEq_iff.mp h1
      have e2 := sEq_iff.mp h2
      subst e2
      exact snd_join e1 O.K (sO_of Ft h5 (sE O Ft a _ h5)) (star_cons h3) (by simpa using h4)
    · cases h
  | .fld o f, pe, h => by
    unfold mE at h
    split at h
    · simp only [Bool.and_eq_true] at h
      obtain ⟨⟨h1, h2⟩, h3⟩ := h
      unfold isFld at h1
      split at h1
      · rename_i s e1
        have e2 := sEq_iff.mp h1
        subst e2
        have e3 := O.fld f s e1
        exact snd_fld O.F e3 O.K (sE O Ft o _ h3).esc (recv_base h2)
      · cases h1
    · cases h
  | .never, pe, h => ⟨fun pins s σ H Q I ⟨ρ, t, g, s', r⟩ => r.elim⟩
theorem sT {X : Cx} {M : MC} (O : XOk P c lv cl X) (Ft : Fits M X) : ∀ (e : Tt) (pe : Expr), mT P M e pe = true → PT X pe (tT c en (evT cl e))
  | .yes, pe, h => by cases h
  | .not u, pe, h => by
    unfold mT at h
    split at h
    · exact snd_tnot (sT O Ft u _ h)
    · cases h
  | .and ts, pe, h => by
    unfold mT at h
    split at h
    · exact (sTAnd O Ft ts _ h).pt
    · cases h
  | .or ts, pe, h => by
    unfold mT at h
    split at h
    · exact (sTOr O Ft ts _ h).pt
    · cases h
  | .val (.cmp o a b), pe, h => by
    have h := mT_val h
    have h := h.2
    unfold mE at h
    split at h
    · simp only [Bool.and_eq_true, decide_eq_true_eq] at h
      obtain ⟨⟨⟨rfl, h0⟩, h1⟩, h2⟩ := h
      exact snd_cmpT O.K O.un o (sO_of Ft h1 (sE O Ft a _ h1)) (sO_of Ft h2 (sE O Ft b _ h2)) (noSet_marks h0 _)
    · cases h
  | .val (.chn o p a b d), pe, h => by
    have h := mT_val h
    have h := h.2
    unfold mE at h
    split at h
    · simp only [Bool.and_eq_true, decide_eq_true_eq] at h
      obtain ⟨⟨⟨⟨⟨rfl, rfl⟩, h0⟩, h1⟩, h2⟩, h3⟩ := h
      exact snd_chnT O.K O.un o p (sO_of Ft h1 (sE O Ft a _ h1)) (sO_of Ft h2 (sE O Ft b _ h2)) (sO_of Ft h3 (sE O Ft d _ h3)) (noSet_marks h0 _)
    · cases h
  | .val (.glb x d), pe, h => sV_of O Ft (mT_val h).1 (mT_val h).2 (sE O Ft (.glb x d) pe (mT_val h).2)
  | .val (.var i), pe, h => sV_of O Ft (mT_val h).1 (mT_val h).2 (sE O Ft (.var i) pe (mT_val h).2)
  | .val (.kon d), pe, h => sV_of O Ft (mT_val h).1 (mT_val h).2 (sE O Ft (.kon d) pe (mT_val h).2)
  | .val (.bin o a b), pe, h => sV_of O Ft (mT_val h).1 (mT_val h).2 (sE O Ft (.bin o a b) pe (mT_val h).2)
  | .val (.neg a), pe, h => sV_of O Ft (mT_val h).1 (mT_val h).2 (sE O Ft (.neg a) pe (mT_val h).2)
  | .val (.and es), pe, h => sV_of O Ft (mT_val h).1 (mT_val h).2 (sE O Ft (.and es) pe (mT_val h).2)
  | .val (.or es), pe, h => sV_of O Ft (mT_val h).1 (mT_val h).2 (sE O Ft (.or es) pe (mT_val h).2)
  | .val (.not a), pe, h => sV_of O Ft (mT_val h).1 (mT_val h).2 (sE O Ft (.not a) pe (mT_val h).2)
  | .val (.ife t a b), pe, h => sV_of O Ft (mT_val h).1 (mT_val h).2 (sE O Ft (.ife t a b) pe (mT_val h).2)
  | .val (.call f as), pe, h => sV_of O Ft (mT_val h).1 (mT_val h).2 (sE O Ft (.call f as) pe (mT_val h).2)
  | .val (.callk f pm as ks), pe, h => sV_of O Ft (mT_val h).1 (mT_val h).2 (sE O Ft (.callk f pm as ks) pe (mT_val h).2)
  | .val (.mth k m o as), pe, h => sV_of O Ft (mT_val h).1 (mT_val h).2 (sE O Ft (.mth k m o as) pe (mT_val h).2)
  | .val (.mk k as), pe, h => sV_of O Ft (mT_val h).1 (mT_val h).2 (sE O Ft (.mk k as) pe (mT_val h).2)
  | .val (.b1 b a), pe, h => sV_of O Ft (mT_val h).1 (mT_val h).2 (sE O Ft (.b1 b a) pe (mT_val h).2)
  | .val (.b2 b a d), pe, h => sV_of O Ft (mT_val h).1 (mT_val h).2 (sE O Ft (.b2 b a d) pe (mT_val h).2)
  | .val (.isi k a), pe, h => sV_of O Ft (mT_val h).1 (mT_val h).2 (sE O Ft (.isi k a) pe (mT_val h).2)
  | .val (.ix a i), pe, h => sV_of O Ft (mT_val h).1 (mT_val h).2 (sE O Ft (.ix a i) pe (mT_val h).2)
  | .val (.sl a lo hi), pe, h => sV_of O Ft (mT_val h).1 (mT_val h).2 (sE O Ft (.sl a lo hi) pe (mT_val h).2)
  | .val (.lst es), pe, h => sV_of O Ft (mT_val h).1 (mT_val h).2 (sE O Ft (.lst es) pe (mT_val h).2)
  | .val (.tup es), pe, h => sV_of O Ft (mT_val h).1 (mT_val h).2 (sE O Ft (.tup es) pe (mT_val h).2)
  | .val (.newL es), pe, h => sV_of O Ft (mT_val h).1 (mT_val h).2 (sE O Ft (.newL es) pe (mT_val h).2)
  | .val (.newD), pe, h => sV_of O Ft (mT_val h).1 (mT_val h).2 (sE O Ft (.newD) pe (mT_val h).2)
  | .val (.comp s g own t b), pe, h => sV_of O Ft (mT_val h).1 (mT_val h).2 (sE O Ft (.comp s g own t b) pe (mT_val h).2)
  | .val (.join a), pe, h => sV_of O Ft (mT_val h).1 (mT_val h).2 (sE O Ft (.join a) pe (mT_val h).2)
  | .val (.fld o f), pe, h => sV_of O Ft (mT_val h).1 (mT_val h).2 (sE O Ft (.fld o f) pe (mT_val h).2)
  | .val (.never), pe, h => sV_of O Ft (mT_val h).1 (mT_val h).2 (sE O Ft (.never) pe (mT_val h).2)
theorem sTAnd {X : Cx} {M : MC} (O : XOk P c lv cl X) (Ft : Fits M X) {pos : Pos} : ∀ (ts : Tts) (es : List Expr), mTts P M ts es = true → PW X (.BoolOp .And es pos) (tT c en (evTAnd cl ts))
  | .nil, es, h => by
    cases es with
    | nil => exact sW0
    | cons _ _ => cases h
  | .cons u r, es, h => by
    cases es with
    | nil => cases h
    | cons e es =>
      simp only [mTts, Bool.and_eq_true] at h
      have q := sT O Ft u e h.1
      cases r with
      | nil =>
        cases es with
        | nil => exact snd_tand1 q
        | cons _ _ => cases h.2
      | cons u2 r2 =>
        cases es with
        | nil => cases h.2
        | cons e2 es2 => exact snd_tand q (sTAnd O Ft (.cons u2 r2) (e2 :: es2) h.2)
theorem sTOr {X : Cx} {M : MC} (O : XOk P c lv cl X) (Ft : Fits M X) {pos : Pos} : ∀ (ts : Tts) (es : List Expr), mTts P M ts es = true → PW X (.BoolOp .Or es pos) (tT c en (evTOr cl ts))
  | .nil, es, h => by
    cases es with
    | nil => exact sW1
    | cons _ _ => cases h
  | .cons u r, es, h => by
    cases es with
    | nil => cases h
    | cons e es =>
      simp only [mTts, Bool.and_eq_true] at h
      have q := sT O Ft u e h.1
      cases r with
      | nil =>
        cases es with
        | nil => exact snd_tor1 q
        | cons _ _ => cases h.2
      | cons u2 r2 =>
        cases es with
        | nil => cases h.2
        | cons e2 es2 => exact snd_tor q (sTOr O Ft (.cons u2 r2) (e2 :: es2) h.2)
theorem sAnd {X : Cx} {M : MC} (O : XOk P c lv cl X) (Ft : Fits M X) {pos : Pos} : ∀ (ts : Es) (es : List Expr), mEs P M ts es = true → PE X (.BoolOp .And es pos) (tE c en false (evAnd cl ts))
  | .nil, es, h => ⟨fun pins s σ H Q I ⟨ρ, t, g, s', r⟩ => r.elim⟩
  | .cons u r, es, h => by
    cases es with
    | nil => cases h
    | cons e es =>
      simp only [mEs, Bool.and_eq_true] at h
      have q := (sE O Ft u e h.1.2).esc
      cases r with
      | nil =>
        cases es with
        | nil => exact snd_and1 q
        | cons _ _ => cases h.2
      | cons u2 r2 =>
        cases es with
        | nil => cases h.2
        | cons e2 es2 => exact snd_and O.K q (sAnd O Ft (.cons u2 r2) (e2 :: es2) h.2)
theorem sOr {X : Cx} {M : MC} (O : XOk P c lv cl X) (Ft : Fits M X) {pos : Pos} : ∀ (ts : Es) (es : List Expr), mEs P M ts es = true → PE X (.BoolOp .Or es pos) (tE c en false (evOr cl ts))
  | .nil, es, h => ⟨fun pins s σ H Q I ⟨ρ, t, g, s', r⟩ => r.elim⟩
  | .cons u r, es, h => by
    cases es with
    | nil => cases h
    | cons e es =>
      simp only [mEs, Bool.and_eq_true] at h
      have q := (sE O Ft u e h.1.2).esc
      cases r with
      | nil =>
        cases es with
        | nil => exact snd_and1 q
        | cons _ _ => cases h.2
      | cons u2 r2 =>
        cases es with
        | nil => cases h.2
        | cons e2 es2 => exact snd_or O.K q (sOr O Ft (.cons u2 r2) (e2 :: es2) h.2)
theorem sEs {X : Cx} {M : MC} (O : XOk P c lv cl X) (Ft : Fits M X) : ∀ (ts : Es) (es : List Expr), mEs P M ts es = true → PA X es (tAs c en (evs cl ts))
  | .nil, es, h => by
    cases es with
    | nil => exact snd_nil
    | cons _ _ => cases h
  | .cons u r, es, h => by
    cases es with
    | nil => cases h
    | cons e es =>
      simp only [mEs, Bool.and_eq_true] at h
      exact snd_cons (sE O Ft u e h.1.2).esc (sEs O Ft r es h.2) (star_cons h.1.1)
theorem sKs {X : Cx} {M : MC} (O : XOk P c lv cl X) (Ft : Fits M X) : ∀ (ts : Es) (es : List Keyword), mKs P M ts es = true → PK X es (tAs c en (evs cl ts))
  | .nil, es, h => by
    cases es with
    | nil => exact snd_knil
    | cons _ _ => cases h
  | .cons u r, es, h => by
    cases es with
    | nil => cases h
    | cons e es =>
      obtain ⟨n, v, p⟩ := e
      simp only [mKs, Bool.and_eq_true] at h
      exact snd_kcons (sE O Ft u v h.1).esc (sKs O Ft r es h.2)
theorem sP {X : Cx} {M : MC} (O : XOk P c lv cl X) (Ft : Fits M X) : ∀ (ts : Es) (o : Option Expr), mO P M ts o = true → PO X o (tPa c en (evP cl ts))
  | .nil, o, h => by
    cases o with
    | none => exact snd_pnone
    | some _ => cases h
  | .cons u r, o, h => by
    unfold mO at h
    split at h
    · exact snd_psome (sE O Ft u _ h).esc
    · cases h
theorem sSrc {X : Cx} {M : MC} (O : XOk P c lv cl X) (Ft : Fits M X) (pk : Bool) : ∀ (s : Src) (tg iter : Expr), mSrc P M s tg iter = true → PI X tg iter (tI pk c en (evSrc cl s pk))
  | .seq a, tg, iter, h => snd_seq O.K (sOn_of Ft pk h (sE O Ft a iter h))
  | .rng a, tg, iter, h => by
    unfold mSrc at h
    split at h
    · simp only [Bool.and_eq_true] at h
      obtain ⟨⟨⟨h1, h2⟩, h3⟩, h4⟩ := h
      have e := sEq_iff.mp h1
      subst e
      exact snd_rng (Ft.glb h2) (O.blt' (by decide)) (sOn_of Ft pk h4 (sE O Ft a _ h4)) (star_cons h3)
    · cases h
  | .rng2 a b, tg, iter, h => by
    unfold mSrc at h
    split at h
    · simp only [Bool.and_eq_true] at h
      obtain ⟨⟨⟨⟨⟨h1, h2⟩, h3⟩, h3'⟩, h4⟩, h5⟩ := h
      have e := sEq_iff.mp h1
      subst e
      exact snd_rng2 (Ft.glb h2) (O.blt' (by decide)) (sOn_of Ft pk h4 (sE O Ft a _ h4)) (sOn_of Ft pk h5 (sE O Ft b _ h5)) (star_cons h3) (star_cons h3')
    · cases h
  | .enm a, tg, iter, h => by
    unfold mSrc at h
    split at h
    · simp only [Bool.and_eq_true] at h
      obtain ⟨⟨⟨h1, h2⟩, h3⟩, h4⟩ := h
      have e := sEq_iff.mp h1
      subst e
      exact snd_enm O.K (Ft.glb h2) (O.blt' (by decide)) (sOn_of Ft pk h4 (sE O Ft a _ h4)) (star_cons h3)
    · cases h
  | .zip a b, tg, iter, h => by
    unfold mSrc at h
    split at h
    · simp only [Bool.and_eq_true] at h
      obtain ⟨⟨⟨⟨⟨h1, h2⟩, h3⟩, h3'⟩, h4⟩, h5⟩ := h
      have e := sEq_iff.mp h1
      subst e
      exact snd_zip O.K (Ft.glb h2) (O.blt' (by decide)) (sOn_of Ft pk h4 (sE O Ft a _ h4)) (sOn_of Ft pk h5 (sE O Ft b _ h5)) (star_cons h3) (star_cons h3') (star_any (by unfold noStars; rw [h3']; rfl))
    · cases h
end
end
end Pd
set_option Elab.async false
set_option linter.all false
set_option maxRecDepth 100000
set_option autoImplicit false
/-! Pd: what the check says: statements. -/
namespace Pd
open PySem PySem.Spec PyProof.Rows L2 TL Bits

def muN : Mu → String
  | .append => "append" | .insert => "insert" | .pop => "pop" | .popAt => "pop" | .remove => "remove" | .extend => "extend" | .reverse => "reverse"
def noTup : Expr → Bool
  | .Tuple _ _ _ => false
  | _ => true
/-- the comprehension's value goes to its name ahead of the block's end -/
def MC.swap (M : MC) (x : PySem.Str) (line : Nat) : Expr → Bool
  | .ListComp _ _ scope p => M.isLoc x && decide (line = p.line) && !(scope.names.any fun y => sEq y.1 x && (match y.2 with | .local => true | .cell => true | _ => false))
  | _ => false
def compN : Expr → Bool
  | .ListComp _ _ _ _ => true
  | e => noComp e
theorem swap_eq {M : MC} {X : Cx} (Ft : Fits M X) (hk : X.env.scope.kind = .function) {x : PySem.Str} {p : Pos} {l : Nat} {e : Expr} (h : compN e = true) : swapsWith e (some (.Name x p)) l X.env = pure (M.swap x p.line e) := by
  have gen : noComp e = true → swapsWith e (some (.Name x p)) l X.env = pure (M.swap x p.line e) := fun hn => by
    rw [noComp_swap hn]
    cases e <;> first | rfl | cases hn
  cases e with
  | ListComp elt gens scope q =>
    show (pure (X.env.blockKind == .function && X.env.kindOf x == some .local && p.line == q.line && !(scope.names.any fun (n, k) => n == x && (k == .local || k == .cell))) : Sem Bool) = _
    congr 1
    have h1 : (X.env.blockKind == ScopeKind.function) = true := by
      unfold Env.blockKind
      rw [hk]; rfl
    have h2 : (X.env.kindOf x == some NameKind.local) = M.isLoc x := by
      show (X.env.scope.names.lookup x == some NameKind.local) = _
      unfold MC.isLoc
      rw [Ft.sc, kOf_eq]
      cases M.sc.names.lookup x with
      | none => rfl
      | some k => cases k <;> rfl
    have h3 : (p.line == q.line) = decide (p.line = q.line) := by
      cases hd : decide (p.line = q.line) with
      | true => simpa using of_decide_eq_true hd
      | false => simpa using of_decide_eq_false hd
    have h4 : (scope.names.any fun (n, k) => n == x && (k == .local || k == .cell)) = scope.names.any fun y => sEq y.1 x && (match y.2 with | .local => true | .cell => true | _ => false) := by
      congr 1
      funext ⟨n, k⟩
      have : (n == x) = sEq n x := by
        cases hs : sEq n x with
        | true => simpa using sEq_iff.mp hs
        | false => exact sEq_no hs
      show (n == x && (k == .local || k == .cell)) = (sEq n x && _)
      rw [this]
      congr 1
      cases k <;> rfl
    rw [h1, h2, h3, h4, Bool.true_and]
    rfl
  | _ => exact gen h
section
variable (P : Prg)
mutual
def mS (M : MC) : S → Stmt → Bool
  | .asg g e, st => match st with
    | .Assign [tg] v pos => (match g, tg with
      | .nm i, .Name x p => M.at i x && M.loc x && compN v && mE P M e v
      | .tp gs, tg => noComp v && noTup v && mTg M (.tp gs) tg && mE P M e v
      | _, _ => false)
    | _ => false
  | .setI o i e, st => match st with
    | .Assign [.Subscript a b _] v _ => noComp v && noSlice b && mE P M o a && mE P M i b && mE P M e v
    | _ => false
  | .setF o f e, st => match st with
    | .Assign [.Attribute a x _] v _ => isFld P f x && noComp v && mE P M o a && mE P M e v
    | _ => false
  | .aug i o e, st => match st with
    | .AugAssign (.Name x _) op v _ => M.at i x && M.loc x && decide (bop o = op) && decide (o = .add ∨ o = .sub) && mE P M e v
    | _ => false
  | .mut m i es, st => match st with
    | .Expr (.Call (.Attribute (.Name x _) a ap) xs [] cp) _ => M.at i x && M.vis x && okN x && sEq a (nm (muN m)) && decide (ap.endLine = cp.line) && decide (xs.length < 30) && (match m with
      | .pop => xs.isEmpty
      | .reverse => xs.isEmpty
      | .remove => decide (xs.length = 1)
      | _ => !xs.isEmpty) && mEs P M es xs
    | _ => false
  | .ifs t a b, st => match st with
    | .If c x y _ => mT P M t c && mSs M a x && mSs M b y
    | _ => false
  | .for g s b _, st => match st with
    | .For tg iter body [] _ => noSet iter && mSrc P M s tg iter && mTg M g tg && mSs M b body
    | _ => false
  | .whl _ t b _, st => match st with
    | .While c body [] _ => mT P M t c && mSs M b body
    | _ => false
  | .ret e, st => match st with
    | .Return (some v) _ => mE P M e v
    | _ => false
  | .retn, st => match st with
    | .Return none _ => true
    | _ => false
  | .brk, st => match st with
    | .Break _ => true
    | _ => false
  | .cont, st => match st with
    | .Continue _ => true
    | _ => false
  | .exp e, st => match st with
    | .Expr v _ => noComp v && mE P M e v
    | _ => false
  | .rai _ _, _ => false
  | .fg _, _ => false
  | .pas, st => match st with
    | .Pass _ => true
    | .Expr (.Constant (.str _) _ _) _ => true
    | _ => false
  | .never, _ => true
def mSs (M : MC) : Ss → List Stmt → Bool
  | .nil, sts => sts.isEmpty
  | .cons s r, sts => match s with
    | .fg _ => mSs M r sts
    | s => (match sts with
      | st :: sts => mS M s st && mSs M r sts
      | [] => false)
end
end
section
variable {P : Prg} {c : Cn} {lv : Nat} {cl : Calls} {en : En}
theorem noComp_sole {env : PySem.Env} {e : Expr} (h : noComp e = true) (t : Expr) (l : Nat) : swapsWithSole [t] e l env = pure false := by
  show swapsWith e (some t) l env = _
  exact noComp_swap h _ _
theorem sub_asg {env : PySem.Env} {o i : Expr} {p : Pos} (h : noSlice i = true) (v : Value) : assign (.Subscript o i p) env v = (do
      let ov ← holding [v] (eval o env)
      let iv ← holding [v, ov] (eval i env)
      standAt p
      holding [v, ov, iv] (setItem ov iv v)
      release [v, ov, iv] []) := by
  cases i <;> first | rfl | cases h
theorem sMut {X : Cx} {M : MC} (O : XOk P c lv cl X) (Ft : Fits M X) {m : Mu} {i : Nat} {es : Es} {x a : PySem.Str} {xs : List Expr} {np ap cp pos : Pos} (h0 : M.at i x = true) (h1 : M.vis x = true) (h2 : okN x = true) (h3 : sEq a (nm (muN m)) = true) (h4 : ap.endLine = cp.line) (h5 : xs.length < 30)
    (h6 : (match m with
      | .pop => xs.isEmpty
      | .reverse => xs.isEmpty
      | .remove => decide (xs.length = 1)
      | _ => !xs.isEmpty) = true) (h7 : mEs P M es xs = true) : PS X (.Expr (.Call (.Attribute (.Name x np) a ap) xs [] cp) pos) (tS c en (exec cl (.mut m i es))) := by
  have e := sEq_iff.mp h3
  subst e
  have N := Ft.at h0
  have V := Ft.vis h1
  obtain ⟨d1, d2⟩ := okN_iff h2
  have hl : (ap.endLine == cp.line) = true := by simpa using h4
  have ha := sEs (en := en) O Ft es xs h7
  have hss := (mEs_len h7).2
  cases xs with
  | nil =>
    cases es with
    | cons _ _ => cases h7
    | nil =>
      cases m with
      | pop => exact snd_mut0 _ mu_pop PySem.F.slot_list_pop PySem.F.type_list_pop mt_pop N V d1 d2 rfl hl rfl
      | reverse => exact snd_mut0 _ mu_reverse PySem.F.slot_list_reverse PySem.F.type_list_reverse mt_reverse N V d1 d2 rfl hl rfl
      | remove => simp at h6
      | append => simp at h6
      | insert => simp at h6
      | popAt => simp at h6
      | extend => simp at h6
  | cons e r =>
    have hs := hss
    unfold noStars at hs
    simp only [Bool.and_eq_true] at hs
    cases m with
    | pop => simp at h6
    | reverse => simp at h6
    | append => exact snd_mut _ mu_append PySem.F.slot_list_append PySem.F.type_list_append mt_append N V d1 d2 ha rfl (few hss h5) hl (star_cons hs.1) (star_any hs.2) rfl
    | insert => exact snd_mut _ mu_insert PySem.F.slot_list_insert PySem.F.type_list_insert mt_insert N V d1 d2 ha rfl (few hss h5) hl (star_cons hs.1) (star_any hs.2) rfl
    | popAt => exact snd_mut _ mu_popAt PySem.F.slot_list_pop PySem.F.type_list_pop mt_popAt N V d1 d2 ha rfl (few hss h5) hl (star_cons hs.1) (star_any hs.2) rfl
    | extend => exact snd_mut _ mu_extend PySem.F.slot_list_extend PySem.F.type_list_extend mt_extend N V d1 d2 ha rfl (few hss h5) hl (star_cons hs.1) (star_any hs.2) rfl
    | remove =>
      cases r with
      | cons _ _ => simp at h6
      | nil =>
        cases es with
        | nil => cases h7
        | cons e1 r1 =>
          simp only [mEs, Bool.and_eq_true] at h7
          cases r1 with
          | cons _ _ => cases h7.2
          | nil => exact snd_remove _ O.calm N V d1 d2 (sE O Ft e1 e h7.1.2).esc rfl (few hss h5) hl (star_cons hs.1) rfl rfl
theorem sAsgN {X : Cx} {M : MC} (O : XOk P c lv cl X) (Ft : Fits M X) (hk : X.env.scope.kind = .function) {i : Nat} {e : E} {x : PySem.Str} {v : Expr} {p pos : Pos} (h0 : M.at i x = true) (h1 : M.loc x = true) (h2 : compN v = true) (h3 : mE P M e v = true) : PS X (.Assign [.Name x p] v pos) (tS c en (exec cl (.asg (.nm i) e))) := by
  have N := Ft.at h0
  obtain ⟨l1, l2⟩ := Ft.loc h1
  have sw := swap_eq (p := p) (l := pos.line) (x := x) Ft hk h2
  cases hs : M.swap x p.line v with
  | false =>
    rw [hs] at sw
    exact snd_asg (esc e) O.nd N l1 l2 (sE O Ft e v h3) sw
  | true =>
    rw [hs] at sw
    cases v with
    | ListComp elt gens scope q =>
      have hl : M.isLoc x = true := by
        simp only [MC.swap, Bool.and_eq_true] at hs
        exact hs.1.1
      cases e with
      | comp s g own t b =>
        unfold mE at h3
        split at h3
        · rename_i elt' tg iter ifs scope' pos' heq
          cases heq
          simp only [Bool.and_eq_true] at h3
          obtain ⟨⟨⟨⟨⟨⟨h4, h5⟩, h6⟩, h7⟩, h8⟩, h9⟩, h10⟩ := h3
          have q := snd_asgLc (pos := pos) (pos' := p) (p2 := q) (en := en) (esc (.comp s g own t b)) O.calm O.nd N (Ft.isLoc hl) sw (sSrc O Ft true s tg iter h5) (blkB_ok Ft h6) (gt := g) (ft := evT cl t) (fe := ev cl b) (by
              intro i hi
              rw [own_snd]
              have := List.all_eq_true.mp h7 i hi
              simpa using this)
            (fun s' H C cl' fp => sTg (O.blk s' H scope _ fp) (Ft.blk scope s' H C cl' fp) g tg h8)
            (fun s' H C cl' fp => sIf_of h9 fun e he => sT (O.blk s' H scope _ fp) (Ft.blk scope s' H C cl' fp) t e he)
            (fun s' H C cl' fp => (sE (O.blk s' H scope _ fp) (Ft.blk scope s' H C cl' fp) b elt h10).esc) (noSet_fold h4)
          rw [own_snd] at q
          exact q
        · cases h3
      | never => exact ⟨fun pins s σ H D I ⟨ρ, t, g, s', k⟩ => k.elim⟩
      | var i => cases h3
      | _ => exact absurd h3 (by simp [mE])
    | _ => cases hs
mutual
theorem sS {X : Cx} {M : MC} (O : XOk P c lv cl X) (Ft : Fits M X) (hk : X.env.scope.kind = .function) (hp : PassesOwn (model X.prog X.w) X.A X.env X.xe) : ∀ (s : S) (st : Stmt), mS P M s st = true → PS X st (tS c en (exec cl s))
  | .asg g e, st, h => by
    unfold mS at h
    split at h
    · rename_i tg v pos
      cases g with
      | nm i =>
        cases tg with
        | Name x p =>
          simp only [Bool.and_eq_true] at h
          obtain ⟨⟨⟨h0, h1⟩, h2⟩, h3⟩ := h
          exact sAsgN O Ft hk h0 h1 h2 h3
        | _ => cases h
      | tp gs =>
        cases tg with
        | Tuple es k p =>
          have h : (noComp v && noTup v && mTg M (.tp gs) (.Tuple es k p) && mE P M e v) = true := h
          simp only [Bool.and_eq_true] at h
          obtain ⟨⟨⟨h0, h1⟩, h2⟩, h3⟩ := h
          refine snd_asgT (esc e) (sE O Ft e v h3).esc (sTg O Ft (.tp gs) _ h2) (noComp_sole h0 _ _) ?_ rfl
          cases v <;> first | rfl | cases h1
        | _ =>
          exfalso
          have h := h
          simp [mTg] at h
    · cases h
  | .setI o i e, st, h => by
    unfold mS at h
    split at h
    · rename_i a b pp v pos
      simp only [Bool.and_eq_true] at h
      obtain ⟨⟨⟨⟨h0, h1⟩, h2⟩, h3⟩, h4⟩ := h
      have hi := sO_of (en := en) Ft h3 (sE O Ft i b h3)
      have he := (sE (en := en) O Ft e v h4).esc
      have gen : isVar o = none → PS X (.Assign [.Subscript a b pp] v pos) (tS c en (exec cl (.setI o i e))) := fun hv => by
        have q := snd_setI (pos := pos) (pos' := pp) (esc e ++ esO i) (sO_of (en := en) Ft h2 (sE O Ft o a h2)) hi he (sub_asg h1) (noComp_sole h0 _ _) rfl rfl
        refine q.imp fun W σ H h => ?_
        have e1 : exec cl (.setI o i e) = fun ρ t => bo (ev cl e (frzAll ρ (esc e ++ esO i)) t) fun d t => bo (opd o (frzAll ρ (esc e ++ esO i)) t (ev cl o (frzAll ρ (esc e ++ esO i)) t)) fun x t =>
          bo (opd i (frzAll ρ (esc e ++ esO i)) t (ev cl i (frzAll ρ (esc e ++ esO i)) t)) fun j t => setK (frzAll ρ (esc e ++ esO i)) t none x j d := by
          funext ρ t
          show (bo _ fun d t => bo _ fun x t => bo _ fun j t => setK _ t (isVar o) x j d) = _
          rw [hv]
        rw [e1] at h
        exact h
      cases o with
      | var k =>
        cases a with
        | Name x np =>
          have h2 : M.var k (.Name x np) = true := h2
          simp only [MC.var, Bool.and_eq_true] at h2
          exact snd_setIv (esc e ++ esO i) (Ft.at h2.1.1) (Ft.vis h2.1.2) (okN_iff h2.2).1 (okN_iff h2.2).2 hi he (sub_asg h1) (noComp_sole h0 _ _) rfl rfl
        | _ => cases h2
      | _ => exact gen rfl
    · cases h
  | .setF o f e, st, h => by
    unfold mS at h
    split at h
    · simp only [Bool.and_eq_true] at h
      obtain ⟨⟨⟨h0, h1⟩, h2⟩, h3⟩ := h
      unfold isFld at h0
      split at h0
      · rename_i s e1
        have e2 := sEq_iff.mp h0
        subst e2
        exact snd_setF (esc e) O.F (O.fld f s e1) O.K (sE O Ft o _ h2).esc (sE O Ft e _ h3).esc (noComp_swap h1 _ _)
      · cases h0
    · cases h
  | .aug i o e, st, h => by
    unfold mS at h
    split at h
    · simp only [Bool.and_eq_true, decide_eq_true_eq] at h
      obtain ⟨⟨⟨⟨h0, h1⟩, rfl⟩, h2⟩, h3⟩ := h
      obtain ⟨l1, l2⟩ := Ft.loc h1
      exact snd_aug (esc e) O.nd (Ft.at h0) l1 l2 (sE O Ft e _ h3).esc h2
    · cases h
  | .mut m i es, st, h => by
    unfold mS at h
    split at h
    · simp only [Bool.and_eq_true, decide_eq_true_eq] at h
      obtain ⟨⟨⟨⟨⟨⟨⟨h0, h1⟩, h2⟩, h3⟩, h4⟩, h5⟩, h6⟩, h7⟩ := h
      refine sMut O Ft h0 h1 h2 h3 h4 h5 ?_ h7
      cases m <;> exact h6
    · cases h
  | .ifs t a b, st, h => by
    unfold mS at h
    split at h
    · simp only [Bool.and_eq_true] at h
      obtain ⟨⟨h0, h1⟩, h2⟩ := h
      exact snd_if (esT t) (sT O Ft t _ h0) (sSs O Ft hk hp a _ h1) (sSs O Ft hk hp b _ h2)
    · cases h
  | .for g s b fg, st, h => by
    unfold mS at h
    split at h
    · simp only [Bool.and_eq_true] at h
      obtain ⟨⟨⟨h0, h1⟩, h2⟩, h3⟩ := h
      exact snd_for (escS s) fg hp O.calm (sSrc O Ft false s _ _ h1) (sTg O Ft g _ h2) (sSs O Ft hk hp b _ h3) (noSet_fold h0)
    · cases h
  | .whl n t b fg, st, h => by
    unfold mS at h
    split at h
    · simp only [Bool.and_eq_true] at h
      obtain ⟨h0, h1⟩ := h
      exact snd_whl n (esT t) fg hp (sT O Ft t _ h0) (sSs O Ft hk hp b _ h1)
    · cases h
  | .ret e, st, h => by
    unfold mS at h
    split at h
    · exact snd_ret (esc e) (sE O Ft e _ h).esc
    · cases h
  | .retn, st, h => by
    unfold mS at h
    split at h
    · exact snd_retn
    · cases h
  | .brk, st, h => by
    unfold mS at h
    split at h
    · exact snd_brk
    · cases h
  | .cont, st, h => by
    unfold mS at h
    split at h
    · exact snd_cont
    · cases h
  | .exp e, st, h => by
    unfold mS at h
    split at h
    · simp only [Bool.and_eq_true] at h
      exact snd_exp (esc e) (sE O Ft e _ h.2).esc (noComp_swap h.1 _ _)
    · cases h
  | .rai _ _, st, h => by cases h
  | .fg _, st, h => by cases h
  | .pas, st, h => by
    unfold mS at h
    split at h
    · exact snd_pass
    · exact snd_doc
    · cases h
  | .never, st, h => snd_snever
theorem sSs {X : Cx} {M : MC} (O : XOk P c lv cl X) (Ft : Fits M X) (hk : X.env.scope.kind = .function) (hp : PassesOwn (model X.prog X.w) X.A X.env X.xe) : ∀ (s : Ss) (sts : List Stmt), mSs P M s sts = true → PSs X sts (tS c en (execs cl s))
  | .nil, sts, h => by
    cases sts with
    | nil => exact snd_ssnil
    | cons _ _ => cases h
  | .cons s r, sts, h => by
    have gen : ∀ {st : Stmt} {sts : List Stmt}, (mS P M s st && mSs P M r sts) = true → PSs X (st :: sts) (tS c en (execs cl (.cons s r))) := fun h => by
      simp only [Bool.and_eq_true] at h
      exact snd_sscons (sS O Ft hk hp s _ h.1) (sSs O Ft hk hp r _ h.2)
    cases s with
    | fg is => exact snd_sfg is (sSs O Ft hk hp r sts h)
    | _ =>
      cases sts with
      | nil => cases h
      | cons st sts => exact gen h
end
end
end Pd
set_option Elab.async false
set_option linter.all false
set_option maxRecDepth 100000
set_option autoImplicit false
/-! Pd: the program: each def does what its own text computes. -/
namespace Pd
open PySem PySem.Spec PyProof.Rows L2 TL Bits
open He (eqO eqO_ok)

/-! ### what a def made for itself alone -/
section
variable {c : Cn} {g : Gh} {H : Hp}
def Gh.cut (g : Gh) (n : Nat) : Gh := ⟨g.ob.take n, g.fz⟩
mutual
theorem Rep.cut {n : Nat} : ∀ (d : D) (v : V), low n d = true → Rep c g H v d → Rep c (g.cut n) H v d
  | .non, _, _, h => h
  | .bl _, _, _, h => h
  | .int _, _, _, h => h
  | .str _, _, _, h => h
  | .scr _, _, _, h => h
  | .tup ds, v, l, h => by
    obtain ⟨a, vs, e, f, q, r, z⟩ := h
    exact ⟨a, vs, e, f, q, Reps.cut ds vs l r, z⟩
  | .lst ds, v, l, h => by
    obtain ⟨a, vs, e, f, q, r, z⟩ := h
    exact ⟨a, vs, e, f, q, Reps.cut ds vs l r, z⟩
  | .obj k, v, l, h => by
    obtain ⟨a, e, q⟩ := h
    have hk : k < n := by simpa [low] using l
    exact ⟨a, e, by show (g.ob.take n)[k]? = _; rw [List.getElem?_take_of_lt hk]; exact q⟩
theorem Reps.cut {n : Nat} : ∀ (ds : List D) (vs : List V), lows n ds = true → Reps c g H vs ds → Reps c (g.cut n) H vs ds
  | [], _, _, h => h
  | d :: ds, vs, l, h => by
    obtain ⟨v, r, e, h1, h2⟩ := h
    simp only [lows, Bool.and_eq_true] at l
    exact ⟨v, r, e, Rep.cut d v l.1 h1, Reps.cut ds r l.2 h2⟩
end
theorem ObR.cut {n : Nat} {a : Addr} {o : Ob} (l : lowO n o = true) (h : ObR c g H a o) : ObR c (g.cut n) H a o := by
  cases o with
  | lst ds =>
    obtain ⟨vs, q, r, z⟩ := h
    exact ⟨vs, q, Reps.cut ds vs l r, z⟩
  | dct kvs =>
    have l : (kvs.all fun p => low n p.1 && low n p.2) = true := l
    simp only [List.all_eq_true, Bool.and_eq_true] at l
    rcases h with ⟨ks, q, z, r⟩ | ⟨ks, q, z, r⟩
    · exact .inl ⟨ks, q, z, fun i k v p h1 h2 => ⟨Rep.cut _ _ (l p (List.mem_of_getElem? h2)).1 (r i k v p h1 h2).1, Rep.cut _ _ (l p (List.mem_of_getElem? h2)).2 (r i k v p h1 h2).2⟩⟩
    · refine .inr ⟨ks, q, z, fun i k v p h1 h2 => ?_⟩
      obtain ⟨⟨ds, h3, h4⟩, h5⟩ := r i k v p h1 h2
      have lp := (l p (List.mem_of_getElem? h2)).1
      rw [h3] at lp
      exact ⟨⟨ds, h3, Reps.cut _ _ lp h4⟩, Rep.cut _ _ (l p (List.mem_of_getElem? h2)).2 h5⟩
  | ins k fs =>
    obtain ⟨C, dx, gs, h1, h2, h3, h4⟩ := h
    have l : (fs.all fun p => low n p.2) = true := l
    refine ⟨C, dx, gs, h1, h2, h3, Reps.cut _ _ ?_ h4⟩
    clear h3 h4
    induction fs with
    | nil => rfl
    | cons p fs ih =>
      simp only [List.all_cons, Bool.and_eq_true] at l
      show (low n p.2 && lows n (fs.map (·.2))) = true
      rw [l.1, ih l.2 l.2]; rfl
/-- the objects beyond those at the entry are forgotten -/
theorem StH.cut {en : En} {t : T} {n : Nat} (s : StH c g H t) (st : Step en.g en.H g H) (hn : en.g.ob.length = n) (l : (t.take n).all (lowO n) = true) : Step en.g en.H (g.cut n) H ∧ StH c (g.cut n) H (t.take n) := by
  have hp : g.ob.take n = en.g.ob := by
    obtain ⟨r, e⟩ := st.pre
    rw [← e, ← hn, List.take_left']
    rfl
  refine ⟨⟨by show en.g.ob <+: g.ob.take n; rw [hp]; exact List.prefix_refl _, st.fzm, st.fzn, fun a h => ?_, st.keep, st.tr⟩, ⟨?_, s.nd.sublist (List.take_sublist _ _), fun a h => s.nf a (List.mem_of_mem_take h), s.tr, fun i a o h1 h2 => ?_⟩⟩
  · exact st.obn a (List.mem_of_mem_take h)
  · show (g.ob.take n).length = (t.take n).length
    rw [List.length_take, List.length_take, s.len]
  · have h1 : (g.ob.take n)[i]? = some a := h1
    have hi : i < n := by
      have := (List.getElem?_eq_some_iff.mp h1).1
      rw [List.length_take] at this
      omega
    rw [List.getElem?_take_of_lt hi] at h1
    have hm := List.mem_of_getElem? h2
    rw [List.getElem?_take_of_lt hi] at h2
    exact ObR.cut (List.all_eq_true.mp l o hm) (s.obs i a o h1 h2)
end
theorem sweep_K {c : Cn} {en : En} {g' : Gh} {H' : Hp} {t t' : T} {gc : Bool} {d : D} {v : V} {Q : VK} (hl : en.g.ob.length = t.length) (st : Step en.g en.H g' H') (s : StH c g' H' t') (r : Rep c g' H' v d)
    (h : run (sweep gc t.length d t') fun d t'' => KD c en.g en.H t'' d Q) : Q v H' := by
  unfold sweep at h
  cases gc with
  | false => exact (show KD c en.g en.H t' d Q from h) v g' H' st s r
  | true =>
    by_cases hc : (low t.length d && (t'.take t.length).all (lowO t.length)) = true
    · rw [if_pos rfl, if_pos hc] at h
      simp only [Bool.and_eq_true] at hc
      obtain ⟨st2, s2⟩ := StH.cut s st hl hc.2
      exact (show KD c en.g en.H (t'.take t.length) d Q from h) v _ H' st2 s2 (Rep.cut d v hc.1 r)
    · rw [if_pos rfl, if_neg hc] at h
      exact h.elim

/-! ### the entry -/
theorem look_start : ∀ (ds : List D) (k i : Nat), look (ds.map .val ++ List.replicate k .un) i = match ds[i]? with
    | some d => .val d
    | none => .un
  | [], k, i => by
    show look (List.replicate k .un) i = _
    induction k generalizing i with
    | zero => rfl
    | succ k ih =>
      rw [List.replicate_succ]
      cases i with
      | zero => rfl
      | succ i => simpa [look] using ih i
  | d :: ds, k, 0 => rfl
  | d :: ds, k, i + 1 => by
    show look (ds.map .val ++ List.replicate k .un) i = _
    rw [look_start ds k i]
    simp
theorem SR.start {c : Cn} {g : Gh} {H : Hp} {t : T} {N : List PySem.Str} {n : Nat} {vs : List V} {ds : List D} (s : StH c g H t) (r : Reps c g H vs ds) (hN : N.length = n) (hl : ds.length ≤ n) : SR c ⟨g, H⟩ g (start N vs) H (ds.map .val ++ List.replicate (n - ds.length) .un) t where
  st := s
  ent := Step.refl
  len := by
    have := Reps.length r
    unfold L2.start
    rw [List.length_append, List.length_append, List.length_map, List.length_map, List.length_replicate, List.length_replicate]
    omega
  cell := fun i => by
    rw [look_start]
    cases e : ds[i]? with
    | none => trivial
    | some d =>
      obtain ⟨v, e1, q⟩ := Reps.get r e
      refine ⟨v, ?_, q⟩
      unfold L2.start
      rw [List.getElem?_append_left (by rw [List.length_map]; exact (List.getElem?_eq_some_iff.mp e1).1), List.getElem?_map, e1]
      rfl
  dis := fun i j a h1 h2 => by
    rw [look_start] at h1
    cases e : ds[i]? <;> (rw [e] at h1; cases h1)

/-! ### a def -/
def cnOf (P : Prg) (K : PySem.W.Frag) : Cn where
  K := K
  ca := fun k => (P.cls[k]?).bind fun C => match PySem.W.nsIn K mainGlobals (nm C.name) with
    | some (some (.ref a)) => some a
    | _ => none
  fnm := fun i => (P.flds[i]?).map nm
/-- where a def lies -/
def fnA (P : Prg) (K : PySem.W.Frag) (f : Fn) : Option Addr := match f.cls with
  | none => (match PySem.W.nsIn K mainGlobals (nm f.name) with
    | some (some (.ref a)) => some a
    | _ => none)
  | some k => (match (cnOf P K).ca k with
    | some C => (match PySem.W.findIn K (.ref C) (nm f.name) with
      | some (some (.ref a)) => if PySem.W.isFn K (.ref a) then some a else none
      | _ => none)
    | none => none)
def scB (sc : Scope) (ps : List PySem.Str) : Bool := (match sc.kind with
  | .function => true
  | _ => false) && !sc.isCoroutine && !sc.isGenerator && (ps.all fun x => match kOf sc.names x with
    | some .local => true
    | some .cell => true
    | _ => false) && sc.names.all fun y => match y.2 with
    | .free => false
    | _ => true
def namesEq : List PySem.Str → List PySem.Str → Bool
  | [], [] => true
  | a :: r, b :: s => sEq a b && namesEq r s
  | _, _ => false
theorem namesEq_iff : ∀ {a b : List PySem.Str}, namesEq a b = true → a = b
  | [], [], _ => rfl
  | [], _ :: _, h => by cases h
  | _ :: _, [], h => by cases h
  | a :: r, b :: s, h => by
    simp only [namesEq, Bool.and_eq_true] at h
    rw [sEq_iff.mp h.1, namesEq_iff h.2]
def fdB (P : Prg) (K : PySem.W.Frag) (f : Fn) (fd : FuncData) : Bool :=
  match fd.body, fd.params, fd.defaults with
  | .stmts b, ⟨[], as, none, [], [], none, []⟩, .none => decide (fd.globals = mainGlobals) && fd.closure.isEmpty && decide (fd.builtins = builtinsNs) && PySem.W.codeIn K fd.code fd.qualname && scB fd.scope (as.map (·.arg)) &&
    namesEq (as.map (·.arg)) ((f.N.take f.np).map nm) && strB (f.N.map nm) && decide (f.np ≤ f.N.length) && mSs P ⟨f.N.map nm, fd.scope, fun _ => true⟩ f.body b
  | _, _, _ => false
def fnB (P : Prg) (K : PySem.W.Frag) (f : Fn) : Bool := match fnA P K f with
  | some a => (match K.lookup a with
    | some ⟨_, _, .func fd, _⟩ => PySem.W.keepIn K (.ref a) && fdB P K f fd
    | _ => false)
  | none => false
theorem fd_eq {fd : FuncData} {b : List Stmt} {as : List PySem.Arg} (h1 : fd.body = .stmts b) (h2 : fd.params = ⟨[], as, none, [], [], none, []⟩) (h3 : fd.defaults = .none) (h4 : fd.globals = mainGlobals) (h5 : fd.closure = []) (h6 : fd.builtins = builtinsNs) :
    fd = PySem.W.fnOf fd.name fd.qualname { posonlyargs := [], args := as, vararg := none, kwonlyargs := [], kw_defaults := [], kwarg := none, defaults := [] } b fd.scope .none fd.kwdefaults fd.doc fd.pyModule fd.annotations fd.code fd.closureTuple := by
  cases fd
  dsimp only at h1 h2 h3 h4 h5 h6
  subst h1 h2 h3 h4 h5 h6
  rfl
section
variable {P : Prg} {K : PySem.W.Frag} {c : Cn} {prog : Program} {w : World} {mg : PySem.Str → Option Value} {base : Heap} {lv : Nat} {cl : Calls}
theorem fnOk_of {f : Fn} {fd : FuncData} {a : Addr} {oc : Value} {od : Option Addr} {osl : Array (Option Value)} (hc : c.K = K) (lk : K.lookup a = some ⟨oc, od, .func fd, osl⟩) (h : fdB P K f fd = true)
    (O : ∀ X : Cx, X.prog = prog → X.w = w → X.K = K → X.mg = mg → X.base = base → X.calm = true → X.N.Nodup → Room (lv + 1) X.A → XOk P c lv cl X) :
    Plain fd ((f.N.take f.np).map nm) ∧ FnOk prog w K mg base CX0 (lv + 2) a fd ((f.N.take f.np).map nm) (spF c (runF cl f) f.np) := by
  unfold fdB at h
  split at h
  · rename_i b as e1 e2 e3
    simp only [Bool.and_eq_true, decide_eq_true_eq] at h
    obtain ⟨⟨⟨⟨⟨⟨⟨⟨h1, h2⟩, h3⟩, h4⟩, h5⟩, h6⟩, h7⟩, h8⟩, h9⟩ := h
    have h2 : fd.closure = [] := by simpa using h2
    have eps := namesEq_iff h6
    have nd := strB_nodup h7
    have efd := fd_eq e1 e2 e3 h1 h2 h3
    unfold scB at h5
    simp only [Bool.and_eq_true, Bool.not_eq_true', List.all_eq_true] at h5
    obtain ⟨⟨⟨⟨k1, k2⟩, k3⟩, k4⟩, k5⟩ := h5
    have kd : fd.scope.kind = .function := by
      split at k1
      · assumption
      · cases k1
    have pl : (f.N.take f.np).length = f.np := by rw [List.length_take]; omega
    have S : FnScope (f.N.map nm) ((f.N.take f.np).map nm) fd.scope := {
      kind := kd
      co := k2
      gen := k3
      nd := nd
      pre := by rw [List.length_map, pl, List.map_take]
      par := fun x hx => by
        have q := k4 x (by rw [eps]; exact hx)
        rw [kOf_eq] at q
        split at q <;> first | exact .inl (by assumption) | exact .inr (by assumption) | cases q
      nofree := fun y hy e => by
        have q := k5 y hy
        rw [e] at q
        cases q }
    refine ⟨⟨fd.name, fd.qualname, as, b, fd.scope, fd.kwdefaults, fd.doc, fd.pyModule, fd.code, fd.closureTuple, fd.annotations, efd, eps.symm, by rw [List.map_take]; exact nd.sublist (List.take_sublist _ _)⟩, ?_⟩
    have main : FnOk prog w K mg base CX0 (lv + 1 + 1) a (PySem.W.fnOf fd.name fd.qualname { posonlyargs := [], args := as, vararg := none, kwonlyargs := [], kw_defaults := [], kwarg := none, defaults := [] } b fd.scope .none fd.kwdefaults fd.doc fd.pyModule fd.annotations fd.code fd.closureTuple) ((f.N.take f.np).map nm) (spF c (runF cl f) f.np) := by
      refine fn_of (by rw [lk]; exact congrArg (fun z => some (⟨oc, od, .func z, osl⟩ : Obj)) efd) h4 S (fun vs H Q E ⟨g, t, ds, s, r, l, _⟩ => by rw [Reps.length r, l, List.length_map, pl]) fun A outer s H vs Q E hr ⟨g, t, ds, sH, rr, l, rn⟩ => ?_
      have OX := O (cxOf CX0 prog w K mg base (f.N.map nm) fd.qualname fd.scope a fd.code A outer s H E) rfl rfl rfl rfl rfl rfl nd hr
      have Ft : Fits ⟨f.N.map nm, fd.scope, fun _ => true⟩ (cxOf CX0 prog w K mg base (f.N.map nm) fd.qualname fd.scope a fd.code A outer s H E) := ⟨rfl, rfl, rfl⟩
      refine ⟨tS c ⟨g, H⟩ (execs cl f.body), sSs OX Ft kd (passes_of rfl) f.body b h9, _, t, g, SR.start (n := f.N.length) sH rr (List.length_map ..) (by omega), ?_⟩
      unfold runF at rn
      rw [if_pos l] at rn
      cases ho : execs cl f.body (ds.map .val ++ List.replicate (f.N.length - ds.length) .un) t with
      | nx ρ t' =>
        rw [ho] at rn
        exact fun σ' g' H' m s' => sweep_K (v := .non) (d := .non) (en := ⟨g, H⟩) sH.len s'.ent s'.st rfl rn
      | ret d t' =>
        rw [ho] at rn
        exact fun v g' H' st s' r' => sweep_K (en := ⟨g, H⟩) sH.len st s' r' rn
      | brk _ _ => rw [ho] at rn; exact rn.elim
      | cont _ _ => rw [ho] at rn; exact rn.elim
      | ex _ _ _ => rw [ho] at rn; exact rn.elim
      | no => rw [ho] at rn; exact rn.elim
    rw [← efd] at main
    exact main
  · cases h
theorem runF_len {f : Fn} {ds : List D} {t : T} {d : D} {t' : T} (h : runF cl f ds t = .ok d t') : ds.length = f.np := by
  unfold runF at h
  by_cases l : ds.length = f.np
  · exact l
  · rw [if_neg l] at h; cases h

/-! ### the program -/
def clsB (P : Prg) (K : PySem.W.Frag) (k : Nat) : Bool := match P.cls[k]?, (cnOf P K).ca k with
  | some C, some a => PySem.W.plainGet K a Str.empty && PySem.W.hasDictIn K a && PySem.W.plainOver K a && eqO (PySem.W.findIn K (.ref a) "__setattr__") (some (some (.builtin "object.__setattr__"))) &&
    PySem.W.makesIn K a && PySem.W.keepIn K (.ref a) && (P.flds.all fun s => eqO (PySem.W.findIn K (.ref a) (nm s)) (some none)) && (match P.fns[C.init]? with
    | some F => decide (F.cls = some k) && decide (F.name = "__init__")
    | none => false)
  | _, _ => false
def conB (K : PySem.W.Frag) (x : String) (d : D) : Bool := match PySem.W.nsIn K mainGlobals (nm x), d with
  | some (some (.int j _)), .int i => decide (j = i)
  | some (some (.str y _)), .str s => lEq s y.cps.toList && okSB s
  | _, _ => false
def progB (P : Prg) (K : PySem.W.Frag) : Bool :=
  (P.fns.all fun f => fnB P K f) && ((List.range P.cls.length).all fun k => clsB P K k) && strB (P.flds.map nm) && (bltNames.all fun x => eqO (PySem.W.nsIn K mainGlobals (nm x)) (some none)) && (P.fns.all fun f => P.flds.all fun s => !sEq (nm s) (nm f.name)) && P.cons.all fun p => conB K p.1 p.2
end
theorem call_len {P : Prg} {n i : Nat} {f : Fn} {ds : List D} {t : T} {d : D} {t' : T} (e : P.fns[i]? = some f) (h : call P n i ds t = .ok d t') : ds.length = f.np := by
  cases n with
  | zero => cases h
  | succ n =>
    simp only [call, e] at h
    exact runF_len h
theorem prog_ok {P : Prg} {K : PySem.W.Frag} {prog : Program} {w : World} {mg : PySem.Str → Option Value} {h0 base : Heap} (h : progB P K = true) (KX : K.In h0) (G : h0.Ns mainGlobals mg) : ∀ (n i : Nat) (f : Fn), P.fns[i]? = some f → FnAt (cnOf P K) prog w mg base (2 * n) f (call P n i) := by
  unfold progB at h
  simp only [Bool.and_eq_true, List.all_eq_true, List.mem_range, Bool.not_eq_true'] at h
  obtain ⟨⟨⟨⟨⟨h1, h2⟩, h3⟩, h4⟩, h5⟩, h6⟩ := h
  have fnd := strB_nodup h3
  have clsOk : ∀ (k : Nat) (a : Addr), (cnOf P K).ca k = some a → ∃ C, P.cls[k]? = some C ∧ clsB P K k = true := fun k a e => by
    cases hc : P.cls[k]? with
    | none =>
      have : (cnOf P K).ca k = none := by
        show (P.cls[k]?).bind _ = none
        rw [hc]; rfl
      rw [this] at e; cases e
    | some C => exact ⟨C, rfl, h2 k (List.getElem?_eq_some_iff.mp hc).1⟩
  have fldInj : ∀ i j s, (cnOf P K).fnm i = some s → (cnOf P K).fnm j = some s → i = j := fun i j s e1 e2 => by
    have e1 : (P.flds.map nm)[i]? = some s := by rw [List.getElem?_map]; exact e1
    have e2 : (P.flds.map nm)[j]? = some s := by rw [List.getElem?_map]; exact e2
    have q1 := List.getElem?_eq_some_iff.mp e1
    have q2 := List.getElem?_eq_some_iff.mp e2
    exact (List.getElem_inj fnd).mp (q1.2.trans q2.2.symm)
  have clsF : ClsF (cnOf P K) := by
    refine ⟨fldInj, fun k a e => ?_, fun k a i s e ei => ?_⟩
    · obtain ⟨C, e1, q⟩ := clsOk k a e
      unfold clsB at q
      rw [e1, e] at q
      simp only [Bool.and_eq_true] at q
      exact ⟨q.1.1.1.1.1.1.1, q.1.1.1.1.1.1.2, q.1.1.1.1.1.2, eqO_ok q.1.1.1.1.2⟩
    · obtain ⟨C, e1, q⟩ := clsOk k a e
      unfold clsB at q
      rw [e1, e] at q
      simp only [Bool.and_eq_true, List.all_eq_true] at q
      obtain ⟨z, hz, rfl⟩ := Option.map_eq_some_iff.mp (show (P.flds[i]?).map nm = some s from ei)
      exact eqO_ok (q.1.2 z (List.mem_of_getElem? hz))
  have mno : ∀ (i : Nat) (f : Fn), P.fns[i]? = some f → ∀ j, (cnOf P K).fnm j ≠ some (nm f.name) := fun i f e j ej => by
    obtain ⟨z, hz, q⟩ := Option.map_eq_some_iff.mp (show (P.flds[j]?).map nm = some (nm f.name) from ej)
    have := h5 f (List.mem_of_getElem? e) z (List.mem_of_getElem? hz)
    rw [q, show sEq (nm f.name) (nm f.name) = true from sEq_iff.mpr rfl] at this
    cases this
  have clsAt : ∀ (k : Nat) (C : Cls), P.cls[k]? = some C → ClsAt (cnOf P K) mg k C ∧ ∃ F, P.fns[C.init]? = some F ∧ F.cls = some k ∧ F.name = "__init__" := fun k C e => by
    have q := h2 k (List.getElem?_eq_some_iff.mp e).1
    unfold clsB at q
    rw [e] at q
    cases hca : (cnOf P K).ca k with
    | none => rw [hca] at q; cases q
    | some a =>
      rw [hca] at q
      simp only [Bool.and_eq_true] at q
      obtain ⟨⟨⟨⟨q0, q1⟩, q2⟩, q3⟩, q4⟩ := q
      have hns : PySem.W.nsIn K mainGlobals (nm C.name) = some (some (.ref a)) := by
        have z : (P.cls[k]?).bind (fun C => match PySem.W.nsIn K mainGlobals (nm C.name) with
          | some (some (.ref a)) => some a
          | _ => none) = some a := hca
        rw [e] at z
        simp only [Option.bind_some] at z
        split at z
        · rename_i a' e2; cases z; exact e2
        · cases z
      refine ⟨⟨a, hca, PySem.W.mg_of KX G hns, q1, q2⟩, ?_⟩
      split at q4
      · rename_i F eF
        simp only [Bool.and_eq_true, decide_eq_true_eq] at q4
        exact ⟨F, eF, q4.1, q4.2⟩
      · cases q4
  -- a def, given the promises of the level below
  have step : ∀ (lv : Nat) (cl : Calls) (f : Fn), f ∈ P.fns → (∀ X : Cx, X.prog = prog → X.w = w → X.K = K → X.mg = mg → X.base = base → X.calm = true → X.N.Nodup → Room (lv + 1) X.A → XOk P (cnOf P K) lv cl X) → FnAt (cnOf P K) prog w mg base (lv + 2) f (runF cl f) := fun lv cl f hf O => by
    have q := h1 f hf
    unfold fnB at q
    cases hA : fnA P K f with
    | none => rw [hA] at q; cases q
    | some a =>
      rw [hA] at q
      dsimp only at q
      split at q
      · rename_i oc od fd osl lk
        simp only [Bool.and_eq_true] at q
        obtain ⟨pl, ok⟩ := fnOk_of (c := cnOf P K) rfl lk q.2 O
        refine ⟨a, fd, _, ok, q.1, pl, rfl, ⟨oc, od, osl, lk⟩, ?_⟩
        unfold fnA at hA
        cases hc : f.cls with
        | none =>
          rw [hc] at hA
          dsimp only at hA ⊢
          split at hA
          · rename_i a' e2; cases hA; exact PySem.W.mg_of KX G e2
          · cases hA
        | some k =>
          rw [hc] at hA
          dsimp only at hA ⊢
          split at hA
          · rename_i C eC
            split at hA
            · rename_i a' e2
              by_cases hfn : PySem.W.isFn K (.ref a') = true
              · rw [if_pos hfn] at hA; cases hA
                exact ⟨C, eC, e2, hfn, q.1⟩
              · rw [if_neg hfn] at hA; cases hA
            · cases hA
          · cases hA
      · cases q
  have ofO : ∀ (lv : Nat) (cl : Calls), (∀ k as t, cl.cn k as t = mkC P cl.fn k as t) → (∀ (i : Nat) (f : Fn) ds t d t', P.fns[i]? = some f → cl.fn i ds t = .ok d t' → ds.length = f.np) → (∀ (i : Nat) (f : Fn), P.fns[i]? = some f → FnAt (cnOf P K) prog w mg base lv f (cl.fn i)) →
      ∀ X : Cx, X.prog = prog → X.w = w → X.K = K → X.mg = mg → X.base = base → X.calm = true → X.N.Nodup → Room (lv + 1) X.A → XOk P (cnOf P K) lv cl X := fun lv cl hcn har hfn X e1 e2 e3 e4 e5 e6 e7 e8 => by
    subst e1 e2 e4 e5
    exact ⟨e3.symm, e6, e7, e8, fun x hx => PySem.W.mg_none_of KX G (eqO_ok (h4 x hx)), clsF, mno, hfn, har, clsAt, hcn, fun i s e => by show (P.flds[i]?).map nm = _; rw [e]; rfl, fun x d hx => by
      have q := h6 (x, d) hx
      unfold conB at q
      split at q
      · rename_i j tk i e1 e2
        have e2 : d = .int i := e2
        have := of_decide_eq_true q
        subst this
        subst e2
        exact ⟨.int j, _, PySem.W.mg_of KX G e1, ⟨_, rfl⟩, fun _ _ => rfl⟩
      · rename_i y tk s e1 e0
        have e0 : d = .str s := e0
        subst e0
        simp only [Bool.and_eq_true] at q
        have e2 := (lEq_iff _ _).mp q.1
        have e3 : V.str y = strV s := by
          unfold strV
          rw [e2]
        exact ⟨.str y, _, PySem.W.mg_of KX G e1, ⟨_, rfl⟩, fun _ _ => ⟨e3, okSB_iff q.2⟩⟩
      · cases q⟩
  intro n
  induction n with
  | zero =>
    intro i f e
    -- nothing is promised
    have q := h1 f (List.mem_of_getElem? e)
    have z := step 0 ⟨fun _ _ _ => .no, fun k as t => mkC P (fun _ _ _ => .no) k as t⟩ f (List.mem_of_getElem? e)
    unfold fnB at q
    cases hA : fnA P K f with
    | none => rw [hA] at q; cases q
    | some a =>
      rw [hA] at q
      dsimp only at q
      split at q
      · rename_i oc od fd osl lk
        simp only [Bool.and_eq_true] at q
        have pl : Plain fd ((f.N.take f.np).map nm) := by
          have q2 := q.2
          unfold fdB at q2
          split at q2
          · rename_i b as e1 e2 e3
            simp only [Bool.and_eq_true, decide_eq_true_eq] at q2
            obtain ⟨⟨⟨⟨⟨⟨⟨⟨g1, g2⟩, g3⟩, g4⟩, g5⟩, g6⟩, g7⟩, g8⟩, g9⟩ := q2
            have g2 : fd.closure = [] := by simpa using g2
            exact ⟨fd.name, fd.qualname, as, b, fd.scope, fd.kwdefaults, fd.doc, fd.pyModule, fd.code, fd.closureTuple, fd.annotations, fd_eq e1 e2 e3 g1 g2 g3, (namesEq_iff g6).symm, by rw [List.map_take]; exact (strB_nodup g7).sublist (List.take_sublist _ _)⟩
          · cases q2
        have ok : FnOk prog w K mg base CX0 0 a fd ((f.N.take f.np).map nm) (spF (cnOf P K) (call P 0 i) f.np) :=
          ⟨fun vs H Q E ⟨g, t, ds, s, r, l, rn⟩ => rn.elim, fun A outer s H args us vs Q E _ _ _ _ ⟨g, t, ds, s', r, l, rn⟩ => rn.elim⟩
        refine ⟨a, fd, _, ok, q.1, pl, rfl, ⟨oc, od, osl, lk⟩, ?_⟩
        unfold fnA at hA
        cases hc : f.cls with
        | none =>
          rw [hc] at hA
          dsimp only at hA ⊢
          split at hA
          · rename_i a' e2; cases hA; exact PySem.W.mg_of KX G e2
          · cases hA
        | some k =>
          rw [hc] at hA
          dsimp only at hA ⊢
          split at hA
          · rename_i C eC
            split at hA
            · rename_i a' e2
              by_cases hfn : PySem.W.isFn K (.ref a') = true
              · rw [if_pos hfn] at hA; cases hA
                exact ⟨C, eC, e2, hfn, q.1⟩
              · rw [if_neg hfn] at hA; cases hA
            · cases hA
          · cases hA
      · cases q
  | succ n ih =>
    intro i f e
    have z := step (2 * n) ⟨fun j as t => call P n j as t, fun c as t => mkC P (fun j as t => call P n j as t) c as t⟩ f (List.mem_of_getElem? e)
      (ofO (2 * n) _ (fun _ _ _ => rfl) (fun j f' ds t d t' e' h' => call_len e' h') fun j f' e' => ih j f' e')
    have e2 : call P (n + 1) i = runF ⟨fun j as t => call P n j as t, fun c as t => mkC P (fun j as t => call P n j as t) c as t⟩ f := by
      funext as t
      simp only [call, e]
    rw [e2]
    exact z
/-- the law's own promise -/
theorem law_ok {P : Prg} {K : PySem.W.Frag} {prog : Program} {w : World} {mg : PySem.Str → Option Value} {h0 : Heap} {fa : Addr} {n i : Nat} {f : Fn} {x : String} (h : progB P K = true) (KX : K.In h0) (G : h0.Ns mainGlobals mg) (e : P.fns[i]? = some f) (hN : f.N.take f.np = [x]) (hnp : f.np = 1) (hc : f.cls = none) (hm : mg (nm f.name) = some (.ref fa))
    {sp : Sp} (hsp : ∀ vs H Q E, sp vs H Q E → ∃ (a : Addr) (ns : List Int), vs = [.ref a] ∧ L2.SqL K H a (ns.map V.int) ∧ ns.length ≤ 1000 ∧ (∃ t', call P n i [.scr ns] [] = .ok (.bl true) t') ∧ ∀ H', Q (.bl true) H') :
    ∃ fd : FuncData, (∀ (s : Shared) (u : Value), BindsTo s fd ⟨[u], []⟩ [(nm x, u)]) ∧ ∀ base : Heap, K.In base → base.Ns mainGlobals mg → FnOk prog w K mg base CX0 (2 * n) fa fd [nm x] sp := by
  obtain ⟨a0, fd0, ps0, ok0, _, pl0, hps0, ⟨oc0, od0, osl0, lk0⟩, hm0⟩ := (prog_ok (prog := prog) (w := w) (base := h0) h KX G n i f e).ex
  rw [hc] at hm0
  rw [hm] at hm0
  cases hm0
  have eps : ps0 = [nm x] := by rw [hps0, hN]; rfl
  subst eps
  refine ⟨fd0, fun s u => ?_, fun base KB GB => ?_⟩
  · obtain ⟨name, qual, as, body, scope, kV, doc, pm, cdv, ct, an, rfl, hp, nd⟩ := pl0
    have q := bind_kw (name := name) (qual := qual) (ps := as) (body := body) (scope := scope) (kV := kV) (doc := doc) (pm := pm) (cdv := cdv) (ct := ct) (an := an) [u] [] [] ⟨by rw [← hp]; exact nd, List.nodup_nil, fun k hk => absurd hk (by simp), fun k hk => ?_⟩ (by
      have := congrArg List.length hp
      rw [List.length_map] at this
      rw [← this]; exact Nat.le_refl _) rfl
    · refine .of_eq ?_
      rw [← hp] at q
      rw [putIn_pm (pm := []) Value.none ⟨nd, List.nodup_nil, rfl, rfl, fun k hk => absurd hk (by simp), fun i k hk => absurd hk (by simp)⟩] at q
      exact q
    · rw [← hp] at hk; simp at hk
  · obtain ⟨a1, fd1, ps1, ok1, _, pl1, hps1, ⟨oc1, od1, osl1, lk1⟩, hm1⟩ := (prog_ok (prog := prog) (w := w) (base := base) h KX G n i f e).ex
    rw [hc] at hm1
    rw [hm] at hm1
    cases hm1
    have eps1 : ps1 = [nm x] := by rw [hps1, hN]; rfl
    subst eps1
    rw [lk0] at lk1
    cases lk1
    refine ok1.imp fun vs H Q E hs => ?_
    obtain ⟨a, ns, rfl, hq, hl, ⟨t', ec⟩, q⟩ := hsp vs H Q E hs
    refine ⟨⟨[], fun b => b = a ∧ ∃ o, H a = some o ∧ L2.Rd H a (.lst (ns.map V.int))⟩, [], [.scr ns], ⟨rfl, List.nodup_nil, fun b hb => absurd hb (by simp), fun b ⟨e1, o, e2, _⟩ => by rw [e1, e2]; simp, fun j b o h1 h2 => by simp at h2⟩, ⟨.ref a, [], rfl, ⟨a, rfl, hl, ?_⟩, rfl⟩, ?_, ?_⟩
    · rcases hq with hq | hq
      · refine .inl ⟨⟨rfl, ?_⟩, hq⟩
        rcases id hq with z | ⟨o, z⟩
        · exact ⟨_, z, hq⟩
        · exact ⟨_, z, hq⟩
      · exact .inr hq
    · exact hnp.symm
    · rw [ec]
      intro v g' H' st s' r
      cases r
      exact q H'
end Pd
set_option linter.all false
set_option autoImplicit false
/-! Pd: the evaluator's equations, but for comprehensions and loops. -/
namespace Pd
variable (cl : Calls)
theorem ev_var (i : Nat) (ρ : Env) (t : T) : ev cl (.var i) ρ t = (ofO (valOf (look ρ i)) t) := rfl
theorem ev_kon (d : D) (ρ : Env) (t : T) : ev cl (.kon d) ρ t = (.ok d t) := rfl
theorem ev_glb (z0 : String) (d : D) (ρ : Env) (t : T) : ev cl (.glb z0 d) ρ t = (.ok d t) := rfl
theorem ev_bin (o : Bo) (a : E) (b : E) (ρ : Env) (t : T) : ev cl (.bin o a b) ρ t = (bnd (opd a ρ t (ev cl a ρ t)) fun x t => bnd (opd b ρ t (ev cl b ρ t)) fun y t => ofO (binD o x y) t) := rfl
theorem ev_neg (a : E) (ρ : Env) (t : T) : ev cl (.neg a) ρ t = (bnd (opd a ρ t (ev cl a ρ t)) fun x t => match x with
    | .int i => .ok (.int (-i)) t
    | _ => .no) := rfl
theorem ev_cmp (o : Co) (a : E) (b : E) (ρ : Env) (t : T) : ev cl (.cmp o a b) ρ t = (bnd (opd a ρ t (ev cl a ρ t)) fun x t => bnd (opd b ρ t (ev cl b ρ t)) fun y t => ofO (cmpD t o x y) t) := rfl
theorem ev_chn (o : Co) (p : Co) (a : E) (b : E) (c : E) (ρ : Env) (t : T) : ev cl (.chn o p a b c) ρ t = (bnd (opd a ρ t (ev cl a ρ t)) fun x t => bnd (opd b ρ t (ev cl b ρ t)) fun y t => bnd (ofO (cmpD t o x y) t) fun k t =>
    match k with
    | .bl true => bnd (opd c ρ t (ev cl c ρ t)) fun z t => ofO (cmpD t p y z) t
    | .bl false => .ok (.bl false) t
    | _ => .no) := rfl
theorem ev_and (es : Es) (ρ : Env) (t : T) : ev cl (.and es) ρ t = (evAnd cl es ρ t) := rfl
theorem ev_or (es : Es) (ρ : Env) (t : T) : ev cl (.or es) ρ t = (evOr cl es ρ t) := rfl
theorem ev_not (a : E) (ρ : Env) (t : T) : ev cl (.not a) ρ t = (bnd (opd a ρ t (ev cl a ρ t)) fun x t => bnd (ofO (truthD t x) t) fun k t => .ok (.bl (!k)) t) := rfl
theorem ev_ife (c : Tt) (a : E) (b : E) (ρ : Env) (t : T) : ev cl (.ife c a b) ρ t = (bnd (evT cl c ρ t) fun k t => if k then ev cl a ρ t else ev cl b ρ t) := rfl
theorem ev_call (f : Nat) (as : Es) (ρ : Env) (t : T) : ev cl (.call f as) ρ t = (bnd (evs cl as ρ t) fun xs t => cl.fn f xs t) := rfl
theorem ev_callk (f : Nat) (pm : List Nat) (as : Es) (ks : Es) (ρ : Env) (t : T) : ev cl (.callk f pm as ks) ρ t = (bnd (evs cl as ρ t) fun xs t => bnd (evs cl ks ρ t) fun ys t => cl.fn f (xs ++ pm.map fun k => ys.getD k .non) t) := rfl
theorem ev_mth (c : Nat) (m : Nat) (o : E) (as : Es) (ρ : Env) (t : T) : ev cl (.mth c m o as) ρ t = (bnd (ev cl o ρ t) fun x t => if isIns t c x then bnd (evs cl as ρ t) fun xs t => cl.fn m (x :: xs) t else .no) := rfl
theorem ev_mk (c : Nat) (as : Es) (ρ : Env) (t : T) : ev cl (.mk c as) ρ t = (bnd (evs cl as ρ t) fun xs t => cl.cn c xs t) := rfl
theorem ev_b1 (b : B1) (a : E) (ρ : Env) (t : T) : ev cl (.b1 b a) ρ t = (bnd (opd a ρ t (ev cl a ρ t)) fun x t => ofO (b1D t b x) t) := rfl
theorem ev_b2 (b : B2) (a : E) (c : E) (ρ : Env) (t : T) : ev cl (.b2 b a c) ρ t = (bnd (opd a ρ t (ev cl a ρ t)) fun x t => bnd (opd c ρ t (ev cl c ρ t)) fun y t => ofO (b2D b x y) t) := rfl
theorem ev_isi (k : Ty) (a : E) (ρ : Env) (t : T) : ev cl (.isi k a) ρ t = (bnd (opd a ρ t (ev cl a ρ t)) fun x t => ofO ((isiD t k x).map .bl) t) := rfl
theorem ev_ix (a : E) (i : E) (ρ : Env) (t : T) : ev cl (.ix a i) ρ t = (bnd (opd a ρ t (ev cl a ρ t)) fun x t => bnd (opd i ρ t (ev cl i ρ t)) fun y t => ofO (ixD t x y) t) := rfl
theorem ev_sl (a : E) (lo : Es) (hi : Es) (ρ : Env) (t : T) : ev cl (.sl a lo hi) ρ t = (bnd (opd a ρ t (ev cl a ρ t)) fun x t => bnd (evP cl lo ρ t) fun l t => bnd (evP cl hi ρ t) fun h t => ofO (cutD l h x) t) := rfl
theorem ev_lst (es : Es) (ρ : Env) (t : T) : ev cl (.lst es) ρ t = (bnd (evs cl es ρ t) fun xs t => .ok (.lst xs) t) := rfl
theorem ev_tup (es : Es) (ρ : Env) (t : T) : ev cl (.tup es) ρ t = (bnd (evs cl es ρ t) fun xs t => .ok (.tup xs) t) := rfl
theorem ev_newL (es : Es) (ρ : Env) (t : T) : ev cl (.newL es) ρ t = (bnd (evs cl es ρ t) fun xs t => .ok (.obj t.length) (t ++ [.lst xs])) := rfl
theorem ev_newD  (ρ : Env) (t : T) : ev cl (.newD ) ρ t = (.ok (.obj t.length) (t ++ [.dct []])) := rfl
theorem ev_join (a : E) (ρ : Env) (t : T) : ev cl (.join a) ρ t = (bnd (opd a ρ t (ev cl a ρ t)) fun x t => match seqs x with
    | some xs => ofO ((strsOf xs).bind fun ss => if ss.flatten.length ≤ sz then some (.str ss.flatten) else none) t
    | none => .no) := rfl
theorem ev_fld (o : E) (f : Nat) (ρ : Env) (t : T) : ev cl (.fld o f) ρ t = (bnd (ev cl o ρ t) fun x t => ofO (fldD t f x) t) := rfl
theorem exec_asg (g : Tg) (e : E) (ρ : Env) (t : T) : exec cl (.asg g e) ρ t = (bo (ev cl e (frzAll ρ (esc e)) t) fun d t => asgK (fresh e) g (frzAll ρ (esc e)) d t) := rfl
theorem exec_setI (o : E) (i : E) (e : E) (ρ : Env) (t : T) : exec cl (.setI o i e) ρ t = (bo (ev cl e (frzAll ρ (esc e ++ esO i)) t) fun d t => bo (opd o (frzAll ρ (esc e ++ esO i)) t (ev cl o (frzAll ρ (esc e ++ esO i)) t)) fun x t =>
    bo (opd i (frzAll ρ (esc e ++ esO i)) t (ev cl i (frzAll ρ (esc e ++ esO i)) t)) fun j t => setK (frzAll ρ (esc e ++ esO i)) t (isVar o) x j d) := rfl
theorem exec_setF (o : E) (f : Nat) (e : E) (ρ : Env) (t : T) : exec cl (.setF o f e) ρ t = (bo (ev cl e (frzAll ρ (esc e)) t) fun d t => bo (ev cl o (frzAll ρ (esc e)) t) fun x t => setFK (frzAll ρ (esc e)) t x f d) := rfl
theorem exec_aug (i : Nat) (o : Bo) (e : E) (ρ : Env) (t : T) : exec cl (.aug i o e) ρ t = (match look (frzAll ρ (esc e)) i with
    | .val (.int x) => bo (ev cl e (frzAll ρ (esc e)) t) fun y t => augK (frzAll ρ (esc e)) t i o x y
    | _ => .no) := rfl
theorem exec_mut (m : Mu) (i : Nat) (es : Es) (ρ : Env) (t : T) : exec cl (.mut m i es) ρ t = (bo (evs cl es (frzAll ρ (escs es)) t) fun xs t => mutK (frzAll ρ (escs es)) t m i xs) := rfl
theorem exec_ifs (c : Tt) (a : Ss) (b : Ss) (ρ : Env) (t : T) : exec cl (.ifs c a b) ρ t = (bo (evT cl c (frzAll ρ (esT c)) t) fun k t => if k then execs cl a (frzAll ρ (esT c)) t else execs cl b (frzAll ρ (esT c)) t) := rfl
theorem exec_ret (e : E) (ρ : Env) (t : T) : exec cl (.ret e) ρ t = (bo (ev cl e (frzAll ρ (esc e)) t) fun d t => .ret d t) := rfl
theorem exec_retn  (ρ : Env) (t : T) : exec cl (.retn ) ρ t = (.ret .non t) := rfl
theorem exec_brk  (ρ : Env) (t : T) : exec cl (.brk ) ρ t = (.brk ρ t) := rfl
theorem exec_cont  (ρ : Env) (t : T) : exec cl (.cont ) ρ t = (.cont ρ t) := rfl
theorem exec_exp (e : E) (ρ : Env) (t : T) : exec cl (.exp e) ρ t = (bo (ev cl e (frzAll ρ (esc e)) t) fun _ t => .nx (frzAll ρ (esc e)) t) := rfl
theorem exec_rai (c : Nat) (es : Es) (ρ : Env) (t : T) : exec cl (.rai c es) ρ t = (bo (evs cl es (frzAll ρ (escs es)) t) fun xs t => .ex c xs t) := rfl
theorem exec_fg (is : List Nat) (ρ : Env) (t : T) : exec cl (.fg is) ρ t = (.nx (unset ρ is) t) := rfl
theorem exec_pas  (ρ : Env) (t : T) : exec cl (.pas ) ρ t = (.nx ρ t) := rfl
/-- one turn of a comprehension -/
def turnC (g : Tg) (own : List Nat) (c : Tt) (e : E) (ρ : Env) (x : D) (t : T) : R (Option D) :=
  match asgT g x (unset ρ own) with
  | none => .no
  | some ρ => bnd (evT cl c ρ t) fun k t => if k then bnd (ev cl e ρ t) fun d t => .ok (some d) t else .ok none t
theorem ev_comp (s : Src) (g : Tg) (own : List Nat) (c : Tt) (e : E) (ρ : Env) (t : T) : ev cl (.comp s g own c e) ρ t = bnd (evSrc cl s true ρ t) fun xs t => bnd (compL (turnC cl g own c e ρ) xs t) fun ds t => .ok (.lst ds) t := rfl
theorem exec_for (g : Tg) (s : Src) (b : Ss) (fg : List Nat) (ρ : Env) (t : T) : exec cl (.for g s b fg) ρ t = bo (evSrc cl s false (frzAll ρ (escS s)) t) fun xs t => forL (forK g fun ρ t => execs cl b ρ t) fg xs (frzAll ρ (escS s)) t := rfl
end Pd
set_option linter.all false
set_option autoImplicit false
namespace Pd
theorem atI_nat {α : Type} (xs : List α) (i : Nat) : atI xs (i : Int) = xs[i]? := by
  unfold atI ixN
  by_cases h : i < xs.length
  · simp [h]
  · simp [h]
theorem atI_0 {α : Type} (a : α) (r : List α) : atI (a :: r) 0 = some a := atI_nat (a :: r) 0
theorem atI_1 {α : Type} (a b : α) (r : List α) : atI (a :: b :: r) 1 = some b := atI_nat (a :: b :: r) 1
theorem atI_2 {α : Type} (a b c : α) (r : List α) : atI (a :: b :: c :: r) 2 = some c := atI_nat (a :: b :: c :: r) 2
theorem atI_3 {α : Type} (a b c d : α) (r : List α) : atI (a :: b :: c :: d :: r) 3 = some d := atI_nat (a :: b :: c :: d :: r) 3
theorem atI_4 {α : Type} (a b c d e : α) (r : List α) : atI (a :: b :: c :: d :: e :: r) 4 = some e := atI_nat (a :: b :: c :: d :: e :: r) 4
theorem atI_map {α β : Type} (f : α → β) (xs : List α) (i : Int) : atI (xs.map f) i = (atI xs i).map f := by
  unfold atI
  rw [List.length_map]
  cases ixN xs.length i with
  | none => rfl
  | some j => simp
def hd : Ss → S
  | .cons a _ => a
  | .nil => .pas
def tl : Ss → Ss
  | .cons _ r => r
  | .nil => .nil
theorem bits_lt (x : Int) (k : Nat) (hk : 0 < k) (h : x.natAbs < 2 ^ k) : bits x < k := by
  unfold bits
  by_cases h0 : x.natAbs = 0
  · rw [h0]; simpa using hk
  · exact (Nat.log2_lt h0).mpr h
theorem compL_pure (f : D → T → R (Option D)) (g : D → Option D) (t : T) : ∀ xs : List D, (∀ x ∈ xs, f x t = .ok (g x) t) → compL f xs t = .ok (xs.filterMap g) t
  | [], _ => rfl
  | x :: xs, h => by
    have ih := compL_pure f g t xs fun y hy => h y (List.mem_cons_of_mem _ hy)
    simp only [compL, h x List.mem_cons_self, bnd_ok, ih]
    cases hx : g x <;> simp [List.filterMap_cons, hx]
theorem ev_comp_pure {cl : Calls} {s : Src} {g : Tg} {own : List Nat} {c : Tt} {e : E} {ρ : Env} {t t' : T} {xs : List D} (gf : D → Option D) (h1 : evSrc cl s true ρ t = .ok xs t') (h2 : ∀ x ∈ xs, turnC cl g own c e ρ x t' = .ok (gf x) t') : ev cl (.comp s g own c e) ρ t = .ok (.lst (xs.filterMap gf)) t' := by
  rw [ev_comp, h1]
  simp only [bnd_ok]
  rw [compL_pure _ gf t' xs h2]
  rfl
end Pd
namespace K94
open Pd
/-- 0: law; 0=script 1=pool 2=places 3=words 4=living 5=grown 6=depth 7=bound 8=turn 9=ways 10=changed 11=one 12=other 13=point 14=near 15=unlike 16=k -/
def b0 : Ss := (ss [(.asg (.nm 1) (.call 1 (es [(.var 0)]))), (.asg (.nm 2) (.call 2 (es [(.var 1), (.kon (.int 9))]))), (.asg (.nm 3) (.b1 .tuple (.call 3 (es [(.var 1), (.bin .add (.kon (.int 1)) (.call 2 (es [(.var 1), (.b2 .min (.kon (.int 8)) (.bin .shl (.kon (.int 1)) (.var 2)))]))), (.var 2)])))), (.asg (.nm 4) (.b1 .lrange (.b1 .len (.var 3)))), (.asg (.nm 5) (.call 4 (es [(.var 1), (.var 3), (.var 4)]))), (.asg (.nm 6) (.call 5 (es [(.var 3), (.var 5), (.var 4)]))), (.for (.nm 7) (.seq (.lst (es [(.var 6), (.bin .add (.bin .add (.var 6) (.kon (.int 1))) (.call 2 (es [(.var 1), (.bin .sub (.kon (.int 100)) (.var 6))]))), (.kon (.int 100))]))) (ss [(.ifs (.not (.val (.call 6 (es [(.callk 7 [0, 1, 2] (es []) (es [(.var 3), (.var 5), (.var 7)])), (.kon (.bl true))])))) (ss [(.ret (.kon (.bl false)))]) (ss []))]) [7]), (.ifs (.and (ts [(.val (.cmp .gt (.var 6) (.kon (.int 0)))), (.not (.val (.call 6 (es [(.call 7 (es [(.var 3), (.var 5), (.call 2 (es [(.var 1), (.var 6)]))])), (.kon (.bl false))]))))])) (ss [(.ret (.kon (.bl false)))]) (ss [])), (.for (.nm 8) (.rng (.kon (.int 2))) (ss [(.asg (.nm 9) (.comp (.rng (.call 2 (es [(.var 1), (.kon (.int 4))]))) (.nm 16) [16] .yes (.call 2 (es [(.var 1), (.kon (.int 2))])))), (.asg (.nm 10) (.call 8 (es [(.var 3), (.var 5), (.var 9), (.call 2 (es [(.var 1), (.kon (.int 8))])), (.call 2 (es [(.var 1), (.kon (.int 9973))]))]))), (.ifs (.not (.val (.call 9 (es [(.var 3), (.var 10), (.ix (.lst (es [(.kon (.int 100)), (.var 6), (.bin .add (.var 6) (.kon (.int 1)))])) (.call 2 (es [(.var 1), (.kon (.int 3))])))])))) (ss [(.ret (.kon (.bl false)))]) (ss []))]) [8, 9, 10]), (.ifs (.val (.cmp .gt (.b1 .len (.var 3)) (.kon (.int 1)))) (ss [(.asg (.nm 11) (.call 2 (es [(.var 1), (.b1 .len (.var 3))]))), (.asg (.nm 12) (.bin .mod (.b1 .int (.bin .add (.bin .add (.var 11) (.kon (.int 1))) (.call 2 (es [(.var 1), (.bin .sub (.b1 .len (.var 3)) (.kon (.int 1)))])))) (.b1 .len (.var 3)))), (.ifs (.not (.val (.call 9 (es [(.var 3), (.call 10 (es [(.var 5), (.var 11), (.var 12)])), (.kon (.int 100))])))) (ss [(.ret (.kon (.bl false)))]) (ss []))]) (ss [])), (.fg [11, 12]), (.ifs (.val (.cmp .gt (.var 2) (.kon (.int 0)))) (ss [(.asg (.nm 11) (.call 2 (es [(.var 1), (.b1 .len (.var 3))]))), (.asg (.nm 13) (.call 2 (es [(.var 1), (.var 2)]))), (.asg (.nm 14) (.bin .add (.bin .add (.sl (.ix (.var 3) (.var 11)) .nil (es [(.var 13)])) (.ix (.kon (.str [49, 48])) (.b1 .int (.ix (.ix (.var 3) (.var 11)) (.var 13))))) (.sl (.ix (.var 3) (.var 11)) (es [(.bin .add (.var 13) (.kon (.int 1)))]) .nil))), (.ifs (.val (.cmp .notin (.var 14) (.var 3))) (ss [(.asg (.nm 15) (.bin .add (.bin .add (.sl (.var 3) .nil (es [(.var 11)])) (.tup (es [(.var 14)]))) (.sl (.var 3) (es [(.bin .add (.var 11) (.kon (.int 1)))]) .nil))), (.ifs (.not (.val (.call 9 (es [(.var 15), (.var 5), (.ix (.lst (es [(.kon (.int 100)), (.var 6)])) (.call 2 (es [(.var 1), (.kon (.int 2))])))])))) (ss [(.ret (.kon (.bl false)))]) (ss []))]) (ss [])), (.fg [15])]) (ss [])), (.fg [11, 13, 14, 15]), (.ret (.kon (.bl true)))])
def f0 : Fn := ⟨"law", none, ["script", "pool", "places", "words", "living", "grown", "depth", "bound", "turn", "ways", "changed", "one", "other", "point", "near", "unlike", "k"], 1, b0, false⟩
/-- 1: _law_pool; 0=script -/
def b1 : Ss := (ss [(.ret (.newL (es [(.b1 .list (.var 0)), (.kon (.int 0)), (.kon (.int 0)), (.kon (.int 40692)), (.kon (.int 0))])))])
def f1 : Fn := ⟨"_law_pool", none, ["script"], 1, b1, false⟩
/-- 2: _law_draw; 0=pool 1=many 2=turn 3=cell 4=told -/
def b2 : Ss := (ss [(.ifs (.val (.cmp .lt (.var 1) (.kon (.int 2)))) (ss [(.ret (.kon (.int 0)))]) (ss [])), (.ifs (.and (ts [(.val (.cmp .eq (.ix (.var 0) (.kon (.int 2))) (.kon (.int 0)))), (.val (.cmp .lt (.ix (.var 0) (.kon (.int 1))) (.b1 .len (.ix (.var 0) (.kon (.int 0))))))])) (ss [(.asg (.nm 3) (.ix (.ix (.var 0) (.kon (.int 0))) (.ix (.var 0) (.kon (.int 1))))), (.setI (.var 0) (.kon (.int 1)) (.bin .add (.ix (.var 0) (.kon (.int 1))) (.kon (.int 1)))), (.setI (.var 0) (.kon (.int 3)) (.bin .mod (.b1 .int (.bin .add (.bin .add (.bin .mul (.ix (.var 0) (.kon (.int 3))) (.ix (.var 0) (.kon (.int 3)))) (.var 3)) (.ix (.var 0) (.kon (.int 1))))) (.kon (.int 2147483647)))), (.ifs (.val (.cmp .ge (.b1 .abs (.var 3)) (.bin .pow (.kon (.int 10)) (.kon (.int 18))))) (ss [(.setI (.var 0) (.kon (.int 2)) (.b1 .abs (.var 3)))]) (ss []))]) (ss [])), (.fg [3]), (.ifs (.val (.cmp .gt (.ix (.var 0) (.kon (.int 2))) (.kon (.int 0)))) (ss [(.asg (.nm 4) (.bin .mod (.b1 .int (.ix (.var 0) (.kon (.int 2)))) (.var 1))), (.setI (.var 0) (.kon (.int 2)) (.bin .fdiv (.ix (.var 0) (.kon (.int 2))) (.var 1))), (.ret (.var 4))]) (ss [])), (.fg [4]), (.for (.nm 2) (.rng (.kon (.int 2))) (ss [(.setI (.var 0) (.kon (.int 4)) (.bin .add (.ix (.var 0) (.kon (.int 4))) (.kon (.int 1)))), (.setI (.var 0) (.kon (.int 3)) (.bin .mod (.b1 .int (.bin .add (.bin .add (.bin .mul (.ix (.var 0) (.kon (.int 3))) (.ix (.var 0) (.kon (.int 3)))) (.bin .mul (.kon (.int 69621)) (.ix (.var 0) (.kon (.int 4))))) (.kon (.int 1)))) (.kon (.int 2147483647))))]) [2]), (.ret (.bin .mod (.b1 .int (.bin .fdiv (.ix (.var 0) (.kon (.int 3))) (.kon (.int 32)))) (.var 1)))])
def f2 : Fn := ⟨"_law_draw", none, ["pool", "many", "turn", "cell", "told"], 2, b2, false⟩
/-- 3: _law_rows; 0=pool 1=many 2=places 3=numbers 4=near 5=k 6=number 7=turn -/
def b3 : Ss := (ss [(.asg (.nm 3) (.lst (es []))), (.asg (.nm 4) (.cmp .eq (.call 2 (es [(.var 0), (.kon (.int 3))])) (.kon (.int 0)))), (.for (.nm 5) (.rng (.var 1)) (ss [(.asg (.nm 6) (.call 2 (es [(.var 0), (.bin .shl (.kon (.int 1)) (.var 2))]))), (.ifs (.and (ts [(.val (.var 4)), (.val (.cmp .gt (.var 5) (.kon (.int 0))))])) (ss [(.asg (.nm 6) (.bin .bxor (.ix (.var 3) (.call 2 (es [(.var 0), (.var 5)]))) (.bin .shl (.kon (.int 1)) (.call 2 (es [(.var 0), (.var 2)])))))]) (ss [])), (.for (.nm 7) (.rng (.kon (.int 9))) (ss [(.ifs (.val (.cmp .isin (.var 6) (.var 3))) (ss [(.asg (.nm 6) (.bin .mod (.b1 .int (.bin .add (.var 6) (.kon (.int 1)))) (.bin .shl (.kon (.int 1)) (.var 2))))]) (ss []))]) [7]), (.mut .append 3 (es [(.var 6)]))]) [5, 7]), (.ret (.comp (.seq (.var 3)) (.nm 6) [6] .yes (.call 11 (es [(.var 6), (.var 2)]))))])
def f3 : Fn := ⟨"_law_rows", none, ["pool", "many", "places", "numbers", "near", "k", "number", "turn"], 3, b3, false⟩
/-- 4: _law_grown; 0=pool 1=words 2=living 3=points 4=point 5=low -/
def b4 : Ss := (ss [(.ifs (.val (.cmp .eq (.b1 .len (.var 2)) (.kon (.int 1)))) (ss [(.ret (.ix (.var 2) (.kon (.int 0))))]) (ss [])), (.asg (.nm 3) (.call 12 (es [(.var 1), (.var 2)]))), (.asg (.nm 4) (.ix (.var 3) (.call 2 (es [(.var 0), (.b1 .len (.var 3))])))), (.asg (.nm 5) (.call 4 (es [(.var 0), (.var 1), (.call 13 (es [(.var 1), (.var 2), (.var 4), (.kon (.str [48]))]))]))), (.ret (.tup (es [(.var 4), (.var 5), (.call 4 (es [(.var 0), (.var 1), (.call 13 (es [(.var 1), (.var 2), (.var 4), (.kon (.str [49]))]))]))])))])
def f4 : Fn := ⟨"_law_grown", none, ["pool", "words", "living", "points", "point", "low"], 3, b4, false⟩
/-- 5: _law_walk; 0=words 1=grown 2=living 3=low 4=high -/
def b5 : Ss := (ss [(.ifs (.val (.call 14 (es [(.var 1)]))) (ss [(.ifs (.val (.cmp .ne (.var 2) (.lst (es [(.var 1)])))) (ss [(.ret (.kon (.int 999)))]) (ss [])), (.ret (.kon (.int 0)))]) (ss [])), (.ifs (.or (ts [(.not (.val (.isi .tup (.var 1)))), (.val (.cmp .ne (.b1 .len (.var 1)) (.kon (.int 3)))), (.not (.val (.call 14 (es [(.ix (.var 1) (.kon (.int 0)))]))))])) (ss [(.ret (.kon (.int 999)))]) (ss [])), (.ifs (.or (ts [(.val (.cmp .lt (.ix (.var 1) (.kon (.int 0))) (.kon (.int 0)))), (.val (.cmp .ge (.ix (.var 1) (.kon (.int 0))) (.b1 .len (.ix (.var 0) (.kon (.int 0))))))])) (ss [(.ret (.kon (.int 999)))]) (ss [])), (.asg (.nm 3) (.call 13 (es [(.var 0), (.var 2), (.ix (.var 1) (.kon (.int 0))), (.kon (.str [48]))]))), (.asg (.nm 4) (.call 13 (es [(.var 0), (.var 2), (.ix (.var 1) (.kon (.int 0))), (.kon (.str [49]))]))), (.ifs (.or (ts [(.val (.cmp .eq (.var 3) (.lst (es [])))), (.val (.cmp .eq (.var 4) (.lst (es []))))])) (ss [(.ret (.kon (.int 999)))]) (ss [])), (.ret (.bin .add (.kon (.int 1)) (.b2 .max (.call 5 (es [(.var 0), (.ix (.var 1) (.kon (.int 1))), (.var 3)])) (.call 5 (es [(.var 0), (.ix (.var 1) (.kon (.int 2))), (.var 4)])))))])
def f5 : Fn := ⟨"_law_walk", none, ["words", "grown", "living", "low", "high"], 3, b5, false⟩
/-- 6: _law_same; 0=told 1=due 2=k -/
def b6 : Ss := (ss [(.ifs (.val (.isi .tup (.var 1))) (ss [(.ifs (.or (ts [(.not (.val (.isi .tup (.var 0)))), (.val (.cmp .ne (.b1 .len (.var 0)) (.b1 .len (.var 1))))])) (ss [(.ret (.kon (.bl false)))]) (ss [])), (.ret (.b1 .all (.comp (.rng (.b1 .len (.var 1))) (.nm 2) [2] .yes (.call 6 (es [(.ix (.var 0) (.var 2)), (.ix (.var 1) (.var 2))])))))]) (ss [])), (.ifs (.val (.cmp .isN (.var 1) (.kon .non))) (ss [(.ret (.cmp .isN (.var 0) (.kon .non)))]) (ss [])), (.ifs (.val (.isi .bool (.var 1))) (ss [(.ret (.and (es [(.isi .bool (.var 0)), (.cmp .eq (.var 0) (.var 1))])))]) (ss [])), (.ifs (.val (.isi .int (.var 1))) (ss [(.ret (.and (es [(.call 14 (es [(.var 0)])), (.cmp .eq (.var 0) (.var 1))])))]) (ss [])), (.ret (.and (es [(.isi .str (.var 0)), (.cmp .eq (.var 0) (.var 1))])))])
def f6 : Fn := ⟨"_law_same", none, ["told", "due", "k"], 2, b6, false⟩
/-- 7: judge_asked; 0=rows 1=tree 2=most 3=found -/
def b7 : Ss := (ss [(.exp (.call 15 (es [(.var 0)]))), (.exp (.call 16 (es [(.var 2), (.kon (.int 0)), (.glb "MOST_ASKED" (.int 100))]))), (.asg (.nm 3) (.call 17 (es [(.mk 0 (es [(.var 0)])), (.var 1), (.b1 .trange (.b1 .len (.var 0))), (.var 2)]))), (.ret (.and (es [(.cmp .notN (.var 3) (.kon .non)), (.cmp .eq (.b1 .sorted (.var 3)) (.b1 .lrange (.b1 .len (.var 0))))])))])
def f7 : Fn := ⟨"judge_asked", none, ["rows", "tree", "most", "found"], 3, b7, true⟩
/-- 8: _law_changed; 0=words 1=grown 2=ways 3=kind 4=pick -/
def b8 : Ss := (ss [(.ifs (.or (ts [(.val (.isi .int (.var 1))), (.val (.cmp .eq (.var 2) (.lst (es []))))])) (ss [(.ret (.call 19 (es [(.var 0), (.var 1), (.var 3), (.var 4)])))]) (ss [])), (.ifs (.val (.cmp .eq (.ix (.var 2) (.kon (.int 0))) (.kon (.int 0)))) (ss [(.ret (.tup (es [(.ix (.var 1) (.kon (.int 0))), (.call 8 (es [(.var 0), (.ix (.var 1) (.kon (.int 1))), (.sl (.var 2) (es [(.kon (.int 1))]) .nil), (.var 3), (.var 4)])), (.ix (.var 1) (.kon (.int 2)))])))]) (ss [])), (.ret (.tup (es [(.ix (.var 1) (.kon (.int 0))), (.ix (.var 1) (.kon (.int 1))), (.call 8 (es [(.var 0), (.ix (.var 1) (.kon (.int 2))), (.sl (.var 2) (es [(.kon (.int 1))]) .nil), (.var 3), (.var 4)]))])))])
def f8 : Fn := ⟨"_law_changed", none, ["words", "grown", "ways", "kind", "pick"], 5, b8, false⟩
/-- 9: _law_asked; 0=words 1=grown 2=bound 3=due 4=handed -/
def b9 : Ss := (ss [(.asg (.nm 3) (.cmp .le (.call 5 (es [(.var 0), (.var 1), (.b1 .lrange (.b1 .len (.var 0)))])) (.var 2))), (.asg (.nm 4) (.b1 .list (.var 0))), (.ret (.and (es [(.call 6 (es [(.call 7 (es [(.var 4), (.var 1), (.var 2)])), (.var 3)])), (.cmp .eq (.var 4) (.b1 .list (.var 0)))])))])
def f9 : Fn := ⟨"_law_asked", none, ["words", "grown", "bound", "due", "handed"], 3, b9, false⟩
/-- 10: _law_two_leaves; 0=grown 1=one 2=other -/
def b10 : Ss := (ss [(.ifs (.val (.isi .int (.var 0))) (ss [(.ifs (.val (.cmp .eq (.var 0) (.var 1))) (ss [(.ret (.var 2))]) (ss [])), (.ifs (.val (.cmp .eq (.var 0) (.var 2))) (ss [(.ret (.var 1))]) (ss [])), (.ret (.var 0))]) (ss [])), (.ret (.tup (es [(.ix (.var 0) (.kon (.int 0))), (.call 10 (es [(.ix (.var 0) (.kon (.int 1))), (.var 1), (.var 2)])), (.call 10 (es [(.ix (.var 0) (.kon (.int 2))), (.var 1), (.var 2)]))])))])
def f10 : Fn := ⟨"_law_two_leaves", none, ["grown", "one", "other"], 3, b10, false⟩
/-- 11: _law_word; 0=number 1=places 2=k -/
def b11 : Ss := (ss [(.ret (.join (.comp (.rng (.var 1)) (.nm 2) [2] .yes (.ix (.kon (.str [48, 49])) (.bin .band (.bin .shr (.var 0) (.bin .sub (.bin .sub (.var 1) (.kon (.int 1))) (.var 2))) (.kon (.int 1)))))))])
def f11 : Fn := ⟨"_law_word", none, ["number", "places", "k"], 2, b11, false⟩
/-- 12: _law_parts; 0=words 1=living 2=k -/
def b12 : Ss := (ss [(.ret (.comp (.rng (.b1 .len (.ix (.var 0) (.kon (.int 0))))) (.nm 2) [2] (.val (.chn .lt .lt (.kon (.int 0)) (.b1 .len (.call 13 (es [(.var 0), (.var 1), (.var 2), (.kon (.str [48]))]))) (.b1 .len (.var 1)))) (.var 2)))])
def f12 : Fn := ⟨"_law_parts", none, ["words", "living", "k"], 2, b12, false⟩
/-- 13: _law_side; 0=words 1=living 2=point 3=bit 4=q -/
def b13 : Ss := (ss [(.ret (.comp (.seq (.var 1)) (.nm 4) [4] (.val (.cmp .eq (.ix (.ix (.var 0) (.var 4)) (.var 2)) (.var 3))) (.var 4)))])
def f13 : Fn := ⟨"_law_side", none, ["words", "living", "point", "bit", "q"], 4, b13, false⟩
/-- 14: _law_integer; 0=told -/
def b14 : Ss := (ss [(.ret (.and (es [(.isi .int (.var 0)), (.not (.isi .bool (.var 0)))])))])
def f14 : Fn := ⟨"_law_integer", none, ["told"], 1, b14, false⟩
/-- 15: check_unlike; 0=rows -/
def b15 : Ss := (ss [(.exp (.call 20 (es [(.var 0)]))), (.ifs (.val (.cmp .lt (.b1 .lenset (.var 0)) (.b1 .len (.var 0)))) (ss [.never]) (ss []))])
def f15 : Fn := ⟨"check_unlike", none, ["rows"], 1, b15, false⟩
/-- 16: check_number; 0=value 1=least 2=most -/
def b16 : Ss := (ss [(.ifs (.not (.val (.call 21 (es [(.var 0), (.var 1), (.var 2)])))) (ss [.never]) (ss []))])
def f16 : Fn := ⟨"check_number", none, ["value", "least", "most"], 3, b16, false⟩
/-- 17: leaves_below; 0=game 1=tree 2=lot 3=left 4=first 5=second 6=lower 7=upper -/
def b17 : Ss := (ss [(.ifs (.val (.call 22 (es [(.var 1)]))) (ss [(.ret (.ife (.val (.cmp .isin (.var 1) (.var 2))) (.lst (es [(.var 1)])) (.kon .non)))]) (ss [])), (.ifs (.or (ts [(.not (.val (.isi .tup (.var 1)))), (.val (.cmp .ne (.b1 .len (.var 1)) (.kon (.int 3)))), (.not (.val (.call 21 (es [(.ix (.var 1) (.kon (.int 0))), (.kon (.int 0)), (.bin .sub (.b1 .len (.ix (.fld (.var 0) 0) (.kon (.int 0)))) (.kon (.int 1)))])))), (.val (.cmp .eq (.var 3) (.kon (.int 0))))])) (ss [(.ret (.kon .non))]) (ss [])), (.asg (.tp (gs [(.nm 6), (.nm 7)])) (.mth 0 23 (.var 0) (es [(.var 2), (.ix (.var 1) (.kon (.int 0)))]))), (.asg (.nm 4) (.call 17 (es [(.var 0), (.ix (.var 1) (.kon (.int 1))), (.var 6), (.bin .sub (.var 3) (.kon (.int 1)))]))), (.asg (.nm 5) (.call 17 (es [(.var 0), (.ix (.var 1) (.kon (.int 2))), (.var 7), (.bin .sub (.var 3) (.kon (.int 1)))]))), (.ret (.ife (.or (ts [(.val (.cmp .isN (.var 4) (.kon .non))), (.val (.cmp .isN (.var 5) (.kon .non)))])) (.kon .non) (.bin .add (.var 4) (.var 5))))])
def f17 : Fn := ⟨"leaves_below", none, ["game", "tree", "lot", "left", "first", "second", "lower", "upper"], 4, b17, false⟩
/-- 18: AskGame.__init__; 0=self 1=rows -/
def b18 : Ss := (ss [(.setF (.var 0) 0 (.b1 .tuple (.var 1))), (.setF (.var 0) 1 .newD)])
def f18 : Fn := ⟨"__init__", (some 0), ["self", "rows"], 2, b18, false⟩
/-- 19: _law_turned; 0=words 1=grown 2=kind 3=pick -/
def b19 : Ss := (ss [(.ifs (.val (.cmp .eq (.var 2) (.kon (.int 0)))) (ss [(.ret (.call 24 (es [(.var 1), (.var 3)])))]) (ss [])), (.ifs (.val (.isi .int (.var 1))) (ss [(.ifs (.val (.cmp .eq (.var 2) (.kon (.int 1)))) (ss [(.ret (.bin .mod (.b1 .int (.bin .add (.bin .add (.var 1) (.kon (.int 1))) (.var 3))) (.b1 .len (.var 0))))]) (ss [])), (.ifs (.val (.cmp .eq (.var 2) (.kon (.int 2)))) (ss [(.ret (.tup (es [(.bin .mod (.b1 .int (.var 3)) (.bin .add (.b1 .len (.ix (.var 0) (.kon (.int 0)))) (.kon (.int 1)))), (.var 1), (.var 1)])))]) (ss [])), (.ifs (.val (.cmp .eq (.var 2) (.kon (.int 3)))) (ss [(.ret (.tup (es [(.bin .mod (.b1 .int (.var 3)) (.bin .add (.b1 .len (.ix (.var 0) (.kon (.int 0)))) (.kon (.int 1)))), (.var 1), (.bin .mod (.b1 .int (.bin .add (.var 1) (.kon (.int 1)))) (.b1 .len (.var 0)))])))]) (ss [])), (.ret (.bin .sub (.var 1) (.kon (.int 1))))]) (ss [])), (.ifs (.val (.cmp .eq (.var 2) (.kon (.int 1)))) (ss [(.ret (.tup (es [(.ix (.var 1) (.kon (.int 0))), (.ix (.var 1) (.kon (.int 2))), (.ix (.var 1) (.kon (.int 1)))])))]) (ss [])), (.ifs (.val (.cmp .eq (.var 2) (.kon (.int 2)))) (ss [(.ret (.tup (es [(.bin .sub (.bin .mod (.b1 .int (.var 3)) (.bin .add (.b1 .len (.ix (.var 0) (.kon (.int 0)))) (.kon (.int 2)))) (.kon (.int 1))), (.ix (.var 1) (.kon (.int 1))), (.ix (.var 1) (.kon (.int 2)))])))]) (ss [])), (.ifs (.val (.cmp .eq (.var 2) (.kon (.int 3)))) (ss [(.ret (.tup (es [(.bin .mod (.b1 .int (.var 3)) (.b1 .len (.ix (.var 0) (.kon (.int 0))))), (.var 1), (.ix (.var 1) (.kon (.int 1)))])))]) (ss [])), (.ifs (.val (.cmp .eq (.var 2) (.kon (.int 4)))) (ss [(.ret (.ix (.var 1) (.bin .add (.kon (.int 1)) (.bin .mod (.b1 .int (.var 3)) (.kon (.int 2))))))]) (ss [])), (.ifs (.val (.cmp .eq (.var 2) (.kon (.int 5)))) (ss [(.ret (.tup (es [(.ix (.var 1) (.kon (.int 0))), (.ix (.var 1) (.kon (.int 1))), (.ix (.var 1) (.kon (.int 1)))])))]) (ss [])), (.ifs (.val (.cmp .eq (.var 2) (.kon (.int 6)))) (ss [(.ret (.tup (es [(.bin .sub (.ix (.var 1) (.kon (.int 0))) (.b1 .len (.ix (.var 0) (.kon (.int 0))))), (.ix (.var 1) (.kon (.int 1))), (.ix (.var 1) (.kon (.int 2)))])))]) (ss [])), (.ret (.tup (es [(.ix (.var 1) (.kon (.int 0))), (.bin .mod (.b1 .int (.var 3)) (.b1 .len (.var 0))), (.ix (.var 1) (.kon (.int 2)))])))])
def f19 : Fn := ⟨"_law_turned", none, ["words", "grown", "kind", "pick"], 4, b19, false⟩
/-- 20: check_rows_alone; 0=rows -/
def b20 : Ss := (ss [(.ifs (.not (.val (.call 25 (es [(.var 0)])))) (ss [.never]) (ss []))])
def f20 : Fn := ⟨"check_rows_alone", none, ["rows"], 1, b20, false⟩
/-- 21: is_between; 0=value 1=least 2=most -/
def b21 : Ss := (ss [(.ret (.and (es [(.call 22 (es [(.var 0)])), (.chn .le .le (.var 1) (.var 0) (.var 2))])))])
def f21 : Fn := ⟨"is_between", none, ["value", "least", "most"], 3, b21, false⟩
/-- 22: is_integer; 0=value -/
def b22 : Ss := (ss [(.ret (.and (es [(.isi .int (.var 0)), (.not (.isi .bool (.var 0)))])))])
def f22 : Fn := ⟨"is_integer", none, ["value"], 1, b22, false⟩
/-- 23: AskGame.parts; 0=self 1=lot 2=point 3=lower 4=program -/
def b23 : Ss := (ss [(.asg (.nm 3) (.b1 .tuple (.comp (.seq (.var 1)) (.nm 4) [4] (.val (.cmp .eq (.ix (.ix (.fld (.var 0) 0) (.var 4)) (.var 2)) (.kon (.str [48])))) (.var 4)))), (.ret (.tup (es [(.var 3), (.b1 .tuple (.comp (.seq (.var 1)) (.nm 4) [4] (.val (.cmp .notin (.var 4) (.var 3))) (.var 4)))])))])
def f23 : Fn := ⟨"parts", (some 0), ["self", "lot", "point", "lower", "program"], 3, b23, false⟩
/-- 24: _law_odd; 0=grown 1=pick 2=odd -/
def b24 : Ss := (ss [(.asg (.nm 2) (.lst (es [(.kon .non), (.kon (.bl true)), (.kon (.bl false)), (.lst (es [(.var 0)])), (.tup (es [(.var 0)])), (.tup (es [(.kon (.int 0)), (.var 0)])), (.tup (es [(.kon (.int 0)), (.var 0), (.var 0), (.var 0)])), (.kon (.str [48])), (.kon (.str [])), (.bin .sub (.kon (.int 0)) (.kon (.int 1))), (.kon (.int 8)), (.kon (.int 99)), (.tup (es [(.kon .non), (.var 0), (.var 0)]))]))), (.asg (.nm 2) (.bin .add (.var 2) (.lst (es [(.tup (es [(.kon (.str [48])), (.var 0), (.kon (.int 0))])), (.tup (es [(.kon (.int 0)), (.var 0), (.kon .non)])), (.tup (es [(.kon (.int 0)), (.lst (es [(.kon (.int 0)), (.kon (.int 1))])), (.var 0)])), (.tup (es [(.tup (es [(.kon (.int 0))])), (.var 0), (.var 0)])), (.tup (es [(.kon (.bl true)), (.var 0), (.var 0)])), (.tup (es [])), (.lst (es [(.kon (.int 0)), (.kon (.int 1)), (.kon (.int 2))]))])))), (.ifs (.val (.isi .tup (.var 0))) (ss [(.asg (.nm 2) (.bin .add (.var 2) (.lst (es [(.b1 .list (.var 0)), (.lst (es [(.ix (.var 0) (.kon (.int 0))), (.ix (.var 0) (.kon (.int 1))), (.ix (.var 0) (.kon (.int 2)))])), (.tup (es [(.ix (.var 0) (.kon (.int 1))), (.ix (.var 0) (.kon (.int 0))), (.ix (.var 0) (.kon (.int 2)))])), (.tup (es [(.ix (.var 0) (.kon (.int 0))), (.ix (.var 0) (.kon (.int 1)))]))])))), (.asg (.nm 2) (.bin .add (.var 2) (.lst (es [(.tup (es [(.b1 .str (.ix (.var 0) (.kon (.int 0)))), (.ix (.var 0) (.kon (.int 1))), (.ix (.var 0) (.kon (.int 2)))])), (.tup (es [(.ix (.var 0) (.kon (.int 0))), (.ix (.var 0) (.kon (.int 1))), (.lst (es [(.ix (.var 0) (.kon (.int 2)))]))])), (.bin .add (.var 0) (.tup (es [(.ix (.var 0) (.kon (.int 2)))]))), (.bin .add (.var 0) (.var 0))])))), (.asg (.nm 2) (.bin .add (.var 2) (.lst (es [(.tup (es [(.cmp .eq (.ix (.var 0) (.kon (.int 0))) (.kon (.int 1))), (.ix (.var 0) (.kon (.int 1))), (.ix (.var 0) (.kon (.int 2)))])), (.tup (es [(.ix (.var 0) (.kon (.int 0))), (.lst (es [(.ix (.var 0) (.kon (.int 1)))])), (.ix (.var 0) (.kon (.int 2)))])), (.tup (es [(.ix (.var 0) (.kon (.int 0))), (.cmp .eq (.ix (.var 0) (.kon (.int 2))) (.kon (.int 1))), (.ix (.var 0) (.kon (.int 1)))]))]))))]) (ss [(.asg (.nm 2) (.bin .add (.var 2) (.lst (es [(.cmp .eq (.var 0) (.kon (.int 1))), (.b1 .str (.var 0)), (.lst (es [(.var 0)])), (.cmp .eq (.var 0) (.kon (.int 0)))]))))])), (.ret (.ix (.var 2) (.bin .mod (.b1 .int (.var 1)) (.b1 .len (.var 2)))))])
def f24 : Fn := ⟨"_law_odd", none, ["grown", "pick", "odd"], 2, b24, false⟩
/-- 25: are_rows; 0=value 1=word -/
def b25 : Ss := (ss [(.ifs (.or (ts [(.not (.val (.call 26 (es [(.var 0)])))), (.val (.cmp .eq (.b1 .len (.var 0)) (.kon (.int 0)))), (.not (.val (.b1 .all (.comp (.seq (.var 0)) (.nm 1) [1] .yes (.call 27 (es [(.var 1)]))))))])) (ss [(.ret (.kon (.bl false)))]) (ss [])), (.ret (.b1 .all (.comp (.seq (.var 0)) (.nm 1) [1] .yes (.cmp .eq (.b1 .len (.var 1)) (.b1 .len (.ix (.var 0) (.kon (.int 0))))))))])
def f25 : Fn := ⟨"are_rows", none, ["value", "word"], 1, b25, false⟩
/-- 26: is_row; 0=value -/
def b26 : Ss := (ss [(.ret (.isi .row (.var 0)))])
def f26 : Fn := ⟨"is_row", none, ["value"], 1, b26, false⟩
/-- 27: is_word; 0=value 1=character -/
def b27 : Ss := (ss [(.ret (.and (es [(.isi .str (.var 0)), (.b1 .all (.comp (.seq (.var 0)) (.nm 1) [1] .yes (.cmp .isin (.var 1) (.kon (.str [48, 49])))))])))])
def f27 : Fn := ⟨"is_word", none, ["value", "character"], 1, b27, false⟩
def prg : Prg := ⟨[f0, f1, f2, f3, f4, f5, f6, f7, f8, f9, f10, f11, f12, f13, f14, f15, f16, f17, f18, f19, f20, f21, f22, f23, f24, f25, f26, f27], [⟨"AskGame", 18⟩], ["rows", "known"], [("MOST_ASKED", (.int 100))]⟩
end K94
set_option maxRecDepth 100000
set_option linter.all false
set_option autoImplicit false
namespace K94
open Pd
abbrev cls' (n : Nat) : Calls := ⟨fun j as t => call prg n j as t, fun c as t => mkC prg (fun j as t => call prg n j as t) c as t⟩
structure Pool where
  cells : List Int
  i : Int
  l : Int
  c : Int
  d : Int
def Pool.t (p : Pool) : T := [.lst [.lst (p.cells.map .int), .int p.i, .int p.l, .int p.c, .int p.d]]
structure Ok (p : Pool) (b : Int) : Prop where
  i : 0 ≤ p.i
  l : 0 ≤ p.l
  c : 0 ≤ p.c ∧ p.c < 2147483647
  d : 0 ≤ p.d ∧ p.d ≤ b
theorem c2 (n : Nat) (as : List D) (t : T) : call prg (n + 1) 2 as t = runF (cls' n) f2 as t := rfl
theorem pow18 : (10 : Int) ^ 18 = 1000000000000000000 := rfl
/-- a draw's second half -/
theorem tail (n : Nat) (x : Cell) (p : Pool) (b m : Int) (h : 2 ≤ m) (hm : m < 100000) (o : Ok p b) (hb : b < 1000000) :
    ∃ r p', execs (cls' n) (tl (tl b2)) [.val (.obj 0), .val (.int m), .un, x, .un] p.t = .ret (.int r) (Pool.t p') ∧ Ok p' (b + 2) ∧ 0 ≤ r ∧ r < m := by
  have h1 : ¬ m < 2 := by omega
  have h4 : 0 < m := by omega
  have hbm : bits m < 9000 := Nat.lt_trans (bits_lt m 17 (by omega) (by omega)) (by omega)
  obtain ⟨oi, ol, ⟨oc1, oc2⟩, od1, od2⟩ := o
  by_cases h2 : 0 < p.l
  · have h3 : ¬ p.l = 0 := by omega
    refine ⟨p.l % m, ⟨p.cells, p.i, p.l / m, p.c, p.d⟩, ?_, ⟨oi, Int.ediv_nonneg ol (by omega), ⟨oc1, oc2⟩, od1, by show p.d ≤ _; omega⟩, Int.emod_nonneg _ (by omega), Int.emod_lt_of_pos _ h4⟩
    simp [runF, ss, es, ts, gs, execs, ev_var, ev_kon, ev_glb, ev_bin, ev_neg, ev_cmp, ev_chn, ev_and, ev_or, ev_not, ev_ife, ev_call, ev_callk, ev_mth, ev_mk, ev_b1, ev_b2, ev_isi, ev_ix, ev_sl, ev_lst, ev_tup, ev_newL, ev_newD, ev_join, ev_fld, exec_asg, exec_setI, exec_setF, exec_aug, exec_mut, exec_ifs, exec_ret, exec_retn, exec_brk, exec_cont, exec_exp, exec_rai, exec_fg, exec_pas, evT, evs, evTAnd, evTOr, evAnd, evOr, evP, evSrc, bo, bnd, frzAll, esT, esTs, esO, esc, escs, esS, escS, opd, opn, look, peek, ofO, cmpD, truthD, thenK, sweep, fresh, asgK, asgT, asgTs, put, binD, b1D, b2D, ixD, ixN, atI_0, atI_1, atI_2, atI_3, atI_4, eqv, eqvs, shp, shps, setK, setX, setOb, isVar, unset, cellOf, frz, valOf, forL, forK, isiD, items, seqs, lenD, fldD, isIns, isNon, exec_for, tl, b2, Pool.t, h1, h2, h3, h4, hbm]
  · have h3 : p.l = 0 := by omega
    have e1 : bits p.c + bits p.c < 1000000 := by
      have := bits_lt p.c 31 (by omega) (by omega)
      omega
    have e2 : bits 69621 + bits (p.d + 1) < 1000000 := by
      have := bits_lt (p.d + 1) 31 (by omega) (by omega)
      have h6 : bits 69621 < 17 := bits_lt 69621 17 (by omega) (by decide)
      omega
    have g1 : 0 ≤ (p.c * p.c + 69621 * (p.d + 1) + 1) % 2147483647 := Int.emod_nonneg _ (by omega)
    have g2 : (p.c * p.c + 69621 * (p.d + 1) + 1) % 2147483647 < 2147483647 := Int.emod_lt_of_pos _ (by omega)
    generalize hc1 : (p.c * p.c + 69621 * (p.d + 1) + 1) % 2147483647 = c1 at g1 g2
    have e3 : bits c1 + bits c1 < 1000000 := by
      have := bits_lt c1 31 (by omega) (by omega)
      omega
    have e4 : bits 69621 + bits (p.d + 1 + 1) < 1000000 := by
      have := bits_lt (p.d + 1 + 1) 31 (by omega) (by omega)
      have h6 : bits 69621 < 17 := bits_lt 69621 17 (by omega) (by decide)
      omega
    have g3 : 0 ≤ (c1 * c1 + 69621 * (p.d + 1 + 1) + 1) % 2147483647 := Int.emod_nonneg _ (by omega)
    have g4 : (c1 * c1 + 69621 * (p.d + 1 + 1) + 1) % 2147483647 < 2147483647 := Int.emod_lt_of_pos _ (by omega)
    generalize hc2 : (c1 * c1 + 69621 * (p.d + 1 + 1) + 1) % 2147483647 = c2' at g3 g4
    have h32 : bits 32 < 9000 := Nat.lt_trans (bits_lt 32 6 (by omega) (by decide)) (by omega)
    refine ⟨c2' / 32 % m, ⟨p.cells, p.i, p.l, c2', p.d + 1 + 1⟩, ?_, ⟨oi, ol, ⟨g3, g4⟩, by show 0 ≤ p.d + 1 + 1; omega, by show p.d + 1 + 1 ≤ _; omega⟩, Int.emod_nonneg _ (by omega), Int.emod_lt_of_pos _ h4⟩
    simp [runF, ss, es, ts, gs, execs, ev_var, ev_kon, ev_glb, ev_bin, ev_neg, ev_cmp, ev_chn, ev_and, ev_or, ev_not, ev_ife, ev_call, ev_callk, ev_mth, ev_mk, ev_b1, ev_b2, ev_isi, ev_ix, ev_sl, ev_lst, ev_tup, ev_newL, ev_newD, ev_join, ev_fld, exec_asg, exec_setI, exec_setF, exec_aug, exec_mut, exec_ifs, exec_ret, exec_retn, exec_brk, exec_cont, exec_exp, exec_rai, exec_fg, exec_pas, evT, evs, evTAnd, evTOr, evAnd, evOr, evP, evSrc, bo, bnd, frzAll, esT, esTs, esO, esc, escs, esS, escS, opd, opn, look, peek, ofO, cmpD, truthD, thenK, sweep, fresh, asgK, asgT, asgTs, put, binD, b1D, b2D, ixD, ixN, atI_0, atI_1, atI_2, atI_3, atI_4, eqv, eqvs, shp, shps, setK, setX, setOb, isVar, unset, cellOf, frz, valOf, forL, forK, isiD, items, seqs, lenD, fldD, isIns, isNon, exec_for, tl, b2, Pool.t, h1, h3, h4, e1, e2, e3, e4, hc1, hc2, h32, range0, List.range_succ]
theorem draw (n : Nat) (p : Pool) (b m : Int) (hm : m < 100000) (o : Ok p b) (hb : b < 1000000) :
    ∃ r p', call prg (n + 1) 2 [.obj 0, .int m] p.t = .ok (.int r) (Pool.t p') ∧ Ok p' (b + 2) ∧ 0 ≤ r ∧ (r < m ∨ r = 0) := by
  by_cases h1 : m < 2
  · refine ⟨0, p, ?_, ⟨o.i, o.l, o.c, o.d.1, by have := o.d.2; omega⟩, Int.le_refl _, .inr rfl⟩
    rw [c2]
    simp [runF, ss, es, ts, gs, execs, ev_var, ev_kon, ev_glb, ev_bin, ev_neg, ev_cmp, ev_chn, ev_and, ev_or, ev_not, ev_ife, ev_call, ev_callk, ev_mth, ev_mk, ev_b1, ev_b2, ev_isi, ev_ix, ev_sl, ev_lst, ev_tup, ev_newL, ev_newD, ev_join, ev_fld, exec_asg, exec_setI, exec_setF, exec_aug, exec_mut, exec_ifs, exec_ret, exec_retn, exec_brk, exec_cont, exec_exp, exec_rai, exec_fg, exec_pas, evT, evs, evTAnd, evTOr, evAnd, evOr, evP, evSrc, bo, bnd, frzAll, esT, esTs, esO, esc, escs, esS, escS, opd, opn, look, peek, ofO, cmpD, truthD, thenK, sweep, fresh, asgK, asgT, asgTs, put, binD, b1D, b2D, ixD, ixN, atI_0, atI_1, atI_2, atI_3, atI_4, eqv, eqvs, shp, shps, setK, setX, setOb, isVar, unset, cellOf, frz, valOf, forL, forK, isiD, items, seqs, lenD, fldD, isIns, isNon, f2, b2, h1]
  · have e0 : execs (cls' n) b2 [.val (.obj 0), .val (.int m), .un, .un, .un] p.t = thenK (exec (cls' n) (hd b2) [.val (.obj 0), .val (.int m), .un, .un, .un] p.t) fun ρ t => thenK (exec (cls' n) (hd (tl b2)) ρ t) fun ρ t => execs (cls' n) (tl (tl b2)) ρ t := rfl
    -- the rest, from a pool and a cell
    have fin : ∀ (q : Pool) (x : Cell), Ok q b → thenK (exec (cls' n) (hd b2) [.val (.obj 0), .val (.int m), .un, .un, .un] p.t) (fun ρ t => thenK (exec (cls' n) (hd (tl b2)) ρ t) fun ρ t => execs (cls' n) (tl (tl b2)) ρ t) = execs (cls' n) (tl (tl b2)) [.val (.obj 0), .val (.int m), .un, x, .un] q.t →
        ∃ r p', call prg (n + 1) 2 [.obj 0, .int m] p.t = .ok (.int r) (Pool.t p') ∧ Ok p' (b + 2) ∧ 0 ≤ r ∧ (r < m ∨ r = 0) := fun q x oq e => by
      obtain ⟨r, p', e1, o', r1, r2⟩ := tail n x q b m (by omega) hm oq hb
      refine ⟨r, p', ?_, o', r1, .inl r2⟩
      have e2 : runF (cls' n) f2 [.obj 0, .int m] p.t = match execs (cls' n) b2 [.val (.obj 0), .val (.int m), .un, .un, .un] p.t with
        | .nx _ t' => sweep false p.t.length .non t'
        | .ret d t' => sweep false p.t.length d t'
        | .ex c as t' => .ex c as t'
        | _ => .no := rfl
      rw [c2, e2, e0, e, e1]
      rfl
    by_cases hf : p.l = 0 ∧ p.i < p.cells.length
    · obtain ⟨h2, h3⟩ := hf
      obtain ⟨k, hk⟩ := Int.eq_ofNat_of_zero_le o.i
      have hkl : k < p.cells.length := by omega
      have hcell : atI (p.cells.map D.int) p.i = some (.int p.cells[k]) := by
        rw [hk, atI_map, atI_nat, List.getElem?_eq_getElem hkl]; rfl
      generalize p.cells[k] = cell at hcell
      have e1 : bits p.c + bits p.c < 1000000 := by
        have := bits_lt p.c 31 (by omega) (by have := o.c; omega)
        omega
      have g1 : 0 ≤ (p.c * p.c + cell + (p.i + 1)) % 2147483647 := Int.emod_nonneg _ (by omega)
      have g2 : (p.c * p.c + cell + (p.i + 1)) % 2147483647 < 2147483647 := Int.emod_lt_of_pos _ (by omega)
      have oi := o.i
      by_cases hc : 1000000000000000000 ≤ (if cell < 0 then -cell else cell)
      · refine fin ⟨p.cells, p.i + 1, (if cell < 0 then -cell else cell), (p.c * p.c + cell + (p.i + 1)) % 2147483647, p.d⟩ (.val (.int cell)) ⟨by show 0 ≤ p.i + 1; omega, by show 0 ≤ (if cell < 0 then -cell else cell); omega, ⟨g1, g2⟩, o.d⟩ ?_
        generalize tl (tl b2) = rest
        simp [runF, ss, es, ts, gs, execs, ev_var, ev_kon, ev_glb, ev_bin, ev_neg, ev_cmp, ev_chn, ev_and, ev_or, ev_not, ev_ife, ev_call, ev_callk, ev_mth, ev_mk, ev_b1, ev_b2, ev_isi, ev_ix, ev_sl, ev_lst, ev_tup, ev_newL, ev_newD, ev_join, ev_fld, exec_asg, exec_setI, exec_setF, exec_aug, exec_mut, exec_ifs, exec_ret, exec_retn, exec_brk, exec_cont, exec_exp, exec_rai, exec_fg, exec_pas, evT, evs, evTAnd, evTOr, evAnd, evOr, evP, evSrc, bo, bnd, frzAll, esT, esTs, esO, esc, escs, esS, escS, opd, opn, look, peek, ofO, cmpD, truthD, thenK, sweep, fresh, asgK, asgT, asgTs, put, binD, b1D, b2D, ixD, ixN, atI_0, atI_1, atI_2, atI_3, atI_4, eqv, eqvs, shp, shps, setK, setX, setOb, isVar, unset, cellOf, frz, valOf, forL, forK, isiD, items, seqs, lenD, fldD, isIns, isNon, exec_for, hd, tl, b2, Pool.t, h1, h2, h3, hcell, e1, pow18, hc]
      · refine fin ⟨p.cells, p.i + 1, p.l, (p.c * p.c + cell + (p.i + 1)) % 2147483647, p.d⟩ (.val (.int cell)) ⟨by show 0 ≤ p.i + 1; omega, o.l, ⟨g1, g2⟩, o.d⟩ ?_
        generalize tl (tl b2) = rest
        simp [runF, ss, es, ts, gs, execs, ev_var, ev_kon, ev_glb, ev_bin, ev_neg, ev_cmp, ev_chn, ev_and, ev_or, ev_not, ev_ife, ev_call, ev_callk, ev_mth, ev_mk, ev_b1, ev_b2, ev_isi, ev_ix, ev_sl, ev_lst, ev_tup, ev_newL, ev_newD, ev_join, ev_fld, exec_asg, exec_setI, exec_setF, exec_aug, exec_mut, exec_ifs, exec_ret, exec_retn, exec_brk, exec_cont, exec_exp, exec_rai, exec_fg, exec_pas, evT, evs, evTAnd, evTOr, evAnd, evOr, evP, evSrc, bo, bnd, frzAll, esT, esTs, esO, esc, escs, esS, escS, opd, opn, look, peek, ofO, cmpD, truthD, thenK, sweep, fresh, asgK, asgT, asgTs, put, binD, b1D, b2D, ixD, ixN, atI_0, atI_1, atI_2, atI_3, atI_4, eqv, eqvs, shp, shps, setK, setX, setOb, isVar, unset, cellOf, frz, valOf, forL, forK, isiD, items, seqs, lenD, fldD, isIns, isNon, exec_for, hd, tl, b2, Pool.t, h1, h2, h3, hcell, e1, pow18, hc]
    · refine fin p .un o ?_
      generalize tl (tl b2) = rest
      by_cases h2 : p.l = 0
      · have h3 : ¬ p.i < p.cells.length := fun z => hf ⟨h2, z⟩
        simp [runF, ss, es, ts, gs, execs, ev_var, ev_kon, ev_glb, ev_bin, ev_neg, ev_cmp, ev_chn, ev_and, ev_or, ev_not, ev_ife, ev_call, ev_callk, ev_mth, ev_mk, ev_b1, ev_b2, ev_isi, ev_ix, ev_sl, ev_lst, ev_tup, ev_newL, ev_newD, ev_join, ev_fld, exec_asg, exec_setI, exec_setF, exec_aug, exec_mut, exec_ifs, exec_ret, exec_retn, exec_brk, exec_cont, exec_exp, exec_rai, exec_fg, exec_pas, evT, evs, evTAnd, evTOr, evAnd, evOr, evP, evSrc, bo, bnd, frzAll, esT, esTs, esO, esc, escs, esS, escS, opd, opn, look, peek, ofO, cmpD, truthD, thenK, sweep, fresh, asgK, asgT, asgTs, put, binD, b1D, b2D, ixD, ixN, atI_0, atI_1, atI_2, atI_3, atI_4, eqv, eqvs, shp, shps, setK, setX, setOb, isVar, unset, cellOf, frz, valOf, forL, forK, isiD, items, seqs, lenD, fldD, isIns, isNon, exec_for, hd, tl, b2, Pool.t, h1, h2, h3]
      · simp [runF, ss, es, ts, gs, execs, ev_var, ev_kon, ev_glb, ev_bin, ev_neg, ev_cmp, ev_chn, ev_and, ev_or, ev_not, ev_ife, ev_call, ev_callk, ev_mth, ev_mk, ev_b1, ev_b2, ev_isi, ev_ix, ev_sl, ev_lst, ev_tup, ev_newL, ev_newD, ev_join, ev_fld, exec_asg, exec_setI, exec_setF, exec_aug, exec_mut, exec_ifs, exec_ret, exec_retn, exec_brk, exec_cont, exec_exp, exec_rai, exec_fg, exec_pas, evT, evs, evTAnd, evTOr, evAnd, evOr, evP, evSrc, bo, bnd, frzAll, esT, esTs, esO, esc, escs, esS, escS, opd, opn, look, peek, ofO, cmpD, truthD, thenK, sweep, fresh, asgK, asgT, asgTs, put, binD, b1D, b2D, ixD, ixN, atI_0, atI_1, atI_2, atI_3, atI_4, eqv, eqvs, shp, shps, setK, setX, setOb, isVar, unset, cellOf, frz, valOf, forL, forK, isiD, items, seqs, lenD, fldD, isIns, isNon, exec_for, hd, tl, b2, Pool.t, h1, h2]
end K94
set_option maxRecDepth 100000
set_option linter.all false
set_option autoImplicit false
namespace K94
open Pd
abbrev DN (q : Nat) : D := .int (q : Int)
abbrev LN (l : List Nat) : List D := l.map DN
theorem cS (i : Nat) (f : Fn) (h : prg.fns[i]? = some f) (n : Nat) (as : List D) (t : T) : call prg (n + 1) i as t = runF (cls' n) f as t := by
  simp only [call, h]
def wAt (ws : List (List Nat)) (q : Nat) : List Nat := (ws[q]?).getD []
def cAt (w : List Nat) (k : Nat) : Nat := (w[k]?).getD 0
theorem wAt_mem {ws : List (List Nat)} {q : Nat} (h : q < ws.length) : wAt ws q ∈ ws := by
  unfold wAt; rw [List.getElem?_eq_getElem h]; exact List.getElem_mem h
theorem atI_W (ws : List (List Nat)) (q : Nat) (h : q < ws.length) : atI (ws.map D.str) (q : Int) = some (.str (wAt ws q)) := by
  unfold wAt
  rw [atI_map, atI_nat, List.getElem?_eq_getElem h]; rfl
theorem atI_w (w : List Nat) (q : Nat) (h : q < w.length) : atI w (q : Int) = some (cAt w q) := by
  unfold cAt
  rw [atI_nat, List.getElem?_eq_getElem h]; rfl
/-- the bit of word q at a point -/
def bit (ws : List (List Nat)) (pt q : Nat) : Nat := cAt (wAt ws q) pt
def side (ws : List (List Nat)) (pt b : Nat) (l : List Nat) : List Nat := l.filter fun q => bit ws pt q == b
theorem fm_filter (p : Nat → Bool) (gf : D → Option D) : ∀ l : List Nat, (∀ q ∈ l, gf (DN q) = if p q then some (DN q) else none) → (LN l).filterMap gf = LN (l.filter p)
  | [], _ => rfl
  | q :: l, h => by
    have ih := fm_filter p gf l fun z hz => h z (List.mem_cons_of_mem _ hz)
    have hq := h q List.mem_cons_self
    rw [LN, List.map_cons, List.filterMap_cons, hq, List.filter_cons]
    cases p q <;> simp [ih, LN] <;> exact ih
/-- words of one length -/
structure Wd (ws : List (List Nat)) (pl : Nat) : Prop where
  len : ∀ w ∈ ws, w.length = pl
  bit : ∀ w ∈ ws, ∀ x ∈ w, x = 48 ∨ x = 49
theorem c13 (n : Nat) (ws : List (List Nat)) (pl pt b : Nat) (l : List Nat) (t : T) (hw : Wd ws pl) (hp : pt < pl) (hl : ∀ q ∈ l, q < ws.length) :
    call prg (n + 1) 13 [.tup (ws.map .str), .lst (LN l), .int pt, .str [b]] t = .ok (.lst (LN (side ws pt b l))) t := by
  rw [cS 13 f13 rfl]
  have e : ev (cls' n) (.comp (.seq (.var 1)) (.nm 4) [4] (.val (.cmp .eq (.ix (.ix (.var 0) (.var 4)) (.var 2)) (.var 3))) (.var 4)) [.val (.tup (ws.map .str)), .val (.lst (LN l)), .val (.int pt), .val (.str [b]), .un] t = .ok (.lst (LN (side ws pt b l))) t := by
    rw [ev_comp_pure (t' := t) (xs := LN l) (fun d => match d with
      | .int q => if bit ws pt q.toNat == b then some d else none
      | _ => none) (by simp [runF, ss, es, ts, gs, execs, ev_var, ev_kon, ev_glb, ev_bin, ev_neg, ev_cmp, ev_chn, ev_and, ev_or, ev_not, ev_ife, ev_call, ev_callk, ev_mth, ev_mk, ev_b1, ev_b2, ev_isi, ev_ix, ev_sl, ev_lst, ev_tup, ev_newL, ev_newD, ev_join, ev_fld, exec_asg, exec_setI, exec_setF, exec_aug, exec_mut, exec_ifs, exec_ret, exec_retn, exec_brk, exec_cont, exec_exp, exec_rai, exec_fg, exec_pas, evT, evs, evTAnd, evTOr, evAnd, evOr, evP, evSrc, bo, bnd, frzAll, esT, esTs, esO, esc, escs, esS, escS, opd, opn, look, peek, ofO, cmpD, truthD, thenK, sweep, fresh, asgK, asgT, asgTs, put, binD, b1D, b2D, ixD, ixN, atI_0, atI_1, atI_2, atI_3, atI_4, eqv, eqvs, shp, shps, setK, setX, setOb, isVar, unset, cellOf, frz, valOf, forL, forK, isiD, items, seqs, lenD, fldD, isIns, isNon]) (fun x hx => ?_)]
    · rw [fm_filter (fun q => bit ws pt q == b) _ l (fun q hq => by simp)]
      rfl
    · obtain ⟨q, hq, rfl⟩ := List.mem_map.mp hx
      have h1 := atI_W ws q (hl q hq)
      have h2 := atI_w (wAt ws q) pt (by rw [hw.len _ (wAt_mem (hl q hq))]; exact hp)
      by_cases hb : bit ws pt q = b
      · have hb' : cAt (wAt ws q) pt = b := hb
        simp [turnC, runF, ss, es, ts, gs, execs, ev_var, ev_kon, ev_glb, ev_bin, ev_neg, ev_cmp, ev_chn, ev_and, ev_or, ev_not, ev_ife, ev_call, ev_callk, ev_mth, ev_mk, ev_b1, ev_b2, ev_isi, ev_ix, ev_sl, ev_lst, ev_tup, ev_newL, ev_newD, ev_join, ev_fld, exec_asg, exec_setI, exec_setF, exec_aug, exec_mut, exec_ifs, exec_ret, exec_retn, exec_brk, exec_cont, exec_exp, exec_rai, exec_fg, exec_pas, evT, evs, evTAnd, evTOr, evAnd, evOr, evP, evSrc, bo, bnd, frzAll, esT, esTs, esO, esc, escs, esS, escS, opd, opn, look, peek, ofO, cmpD, truthD, thenK, sweep, fresh, asgK, asgT, asgTs, put, binD, b1D, b2D, ixD, ixN, atI_0, atI_1, atI_2, atI_3, atI_4, eqv, eqvs, shp, shps, setK, setX, setOb, isVar, unset, cellOf, frz, valOf, forL, forK, isiD, items, seqs, lenD, fldD, isIns, isNon, h1, h2, hb', hb]
      · have hb' : ¬ cAt (wAt ws q) pt = b := hb
        simp [turnC, runF, ss, es, ts, gs, execs, ev_var, ev_kon, ev_glb, ev_bin, ev_neg, ev_cmp, ev_chn, ev_and, ev_or, ev_not, ev_ife, ev_call, ev_callk, ev_mth, ev_mk, ev_b1, ev_b2, ev_isi, ev_ix, ev_sl, ev_lst, ev_tup, ev_newL, ev_newD, ev_join, ev_fld, exec_asg, exec_setI, exec_setF, exec_aug, exec_mut, exec_ifs, exec_ret, exec_retn, exec_brk, exec_cont, exec_exp, exec_rai, exec_fg, exec_pas, evT, evs, evTAnd, evTOr, evAnd, evOr, evP, evSrc, bo, bnd, frzAll, esT, esTs, esO, esc, escs, esS, escS, opd, opn, look, peek, ofO, cmpD, truthD, thenK, sweep, fresh, asgK, asgT, asgTs, put, binD, b1D, b2D, ixD, ixN, atI_0, atI_1, atI_2, atI_3, atI_4, eqv, eqvs, shp, shps, setK, setX, setOb, isVar, unset, cellOf, frz, valOf, forL, forK, isiD, items, seqs, lenD, fldD, isIns, isNon, h1, h2, hb', hb]
  simp [runF, ss, es, ts, gs, execs, ev_var, ev_kon, ev_glb, ev_bin, ev_neg, ev_cmp, ev_chn, ev_and, ev_or, ev_not, ev_ife, ev_call, ev_callk, ev_mth, ev_mk, ev_b1, ev_b2, ev_isi, ev_ix, ev_sl, ev_lst, ev_tup, ev_newL, ev_newD, ev_join, ev_fld, exec_asg, exec_setI, exec_setF, exec_aug, exec_mut, exec_ifs, exec_ret, exec_retn, exec_brk, exec_cont, exec_exp, exec_rai, exec_fg, exec_pas, evT, evs, evTAnd, evTOr, evAnd, evOr, evP, evSrc, bo, bnd, frzAll, esT, esTs, esO, esc, escs, esS, escS, opd, opn, look, peek, ofO, cmpD, truthD, thenK, sweep, fresh, asgK, asgT, asgTs, put, binD, b1D, b2D, ixD, ixN, atI_0, atI_1, atI_2, atI_3, atI_4, eqv, eqvs, shp, shps, setK, setX, setOb, isVar, unset, cellOf, frz, valOf, forL, forK, isiD, items, seqs, lenD, fldD, isIns, isNon, f13, b13, e]
theorem len_LN (l : List Nat) : (LN l).length = l.length := List.length_map ..
/-- the points at which a lot parts -/
def parts (ws : List (List Nat)) (pl : Nat) (l : List Nat) : List Nat := (List.range pl).filter fun k => decide (0 < (side ws k 48 l).length ∧ (side ws k 48 l).length < l.length)
theorem c12 (n : Nat) (ws : List (List Nat)) (pl : Nat) (l : List Nat) (t : T) (hw : Wd ws pl) (h0 : 0 < ws.length) (hpl : pl ≤ 1000000) (hl : ∀ q ∈ l, q < ws.length) :
    call prg (n + 2) 12 [.tup (ws.map .str), .lst (LN l)] t = .ok (.lst (LN (parts ws pl l))) t := by
  rw [cS 12 f12 rfl]
  have e : ev (cls' (n + 1)) (.comp (.rng (.b1 .len (.ix (.var 0) (.kon (.int 0))))) (.nm 2) [2] (.val (.chn .lt .lt (.kon (.int 0)) (.b1 .len (.call 13 (es [(.var 0), (.var 1), (.var 2), (.kon (.str [48]))]))) (.b1 .len (.var 1)))) (.var 2)) [.val (.tup (ws.map .str)), .val (.lst (LN l)), .un] t = .ok (.lst (LN (parts ws pl l))) t := by
    have h1 := atI_W ws 0 h0
    have h2 : (wAt ws 0).length = pl := hw.len _ (wAt_mem h0)
    rw [ev_comp_pure (t' := t) (xs := range0 pl) (fun d => match d with
      | .int q => if 0 < (side ws q.toNat 48 l).length ∧ (side ws q.toNat 48 l).length < l.length then some d else none
      | _ => none) ?_ (fun x hx => ?_)]
    · have e0 : range0 (pl : Int) = LN (List.range pl) := by simp [range0, LN, DN]
      rw [e0, fm_filter (fun k => decide (0 < (side ws k 48 l).length ∧ (side ws k 48 l).length < l.length)) _ _ (fun q hq => by simp [DN])]
      rfl
    · have h3 : (pl : Int) ≤ 1000000 := by omega
      have h4 : -1000000 ≤ (pl : Int) := by omega
      have h1' : atI (ws.map D.str) 0 = some (.str (wAt ws 0)) := h1
      simp [runF, ss, es, ts, gs, execs, ev_var, ev_kon, ev_glb, ev_bin, ev_neg, ev_cmp, ev_chn, ev_and, ev_or, ev_not, ev_ife, ev_call, ev_callk, ev_mth, ev_mk, ev_b1, ev_b2, ev_isi, ev_ix, ev_sl, ev_lst, ev_tup, ev_newL, ev_newD, ev_join, ev_fld, exec_asg, exec_setI, exec_setF, exec_aug, exec_mut, exec_ifs, exec_ret, exec_retn, exec_brk, exec_cont, exec_exp, exec_rai, exec_fg, exec_pas, evT, evs, evTAnd, evTOr, evAnd, evOr, evP, evSrc, bo, bnd, frzAll, esT, esTs, esO, esc, escs, esS, escS, opd, opn, look, peek, ofO, cmpD, truthD, thenK, sweep, fresh, asgK, asgT, asgTs, put, binD, b1D, b2D, ixD, ixN, atI_0, atI_1, atI_2, atI_3, atI_4, eqv, eqvs, shp, shps, setK, setX, setOb, isVar, unset, cellOf, frz, valOf, forL, forK, isiD, items, seqs, lenD, fldD, isIns, isNon, h1', h2, h3, h4]
    · have e0 : range0 (pl : Int) = LN (List.range pl) := by simp [range0, LN, DN]
      rw [e0] at hx
      obtain ⟨k, hk, rfl⟩ := List.mem_map.mp hx
      have hk : k < pl := List.mem_range.mp hk
      have h3 := c13 n ws pl k 48 l t hw hk hl
      by_cases ha : 0 < (side ws k 48 l).length
      · by_cases hb : (side ws k 48 l).length < l.length
        · simp [turnC, runF, ss, es, ts, gs, execs, ev_var, ev_kon, ev_glb, ev_bin, ev_neg, ev_cmp, ev_chn, ev_and, ev_or, ev_not, ev_ife, ev_call, ev_callk, ev_mth, ev_mk, ev_b1, ev_b2, ev_isi, ev_ix, ev_sl, ev_lst, ev_tup, ev_newL, ev_newD, ev_join, ev_fld, exec_asg, exec_setI, exec_setF, exec_aug, exec_mut, exec_ifs, exec_ret, exec_retn, exec_brk, exec_cont, exec_exp, exec_rai, exec_fg, exec_pas, evT, evs, evTAnd, evTOr, evAnd, evOr, evP, evSrc, bo, bnd, frzAll, esT, esTs, esO, esc, escs, esS, escS, opd, opn, look, peek, ofO, cmpD, truthD, thenK, sweep, fresh, asgK, asgT, asgTs, put, binD, b1D, b2D, ixD, ixN, atI_0, atI_1, atI_2, atI_3, atI_4, eqv, eqvs, shp, shps, setK, setX, setOb, isVar, unset, cellOf, frz, valOf, forL, forK, isiD, items, seqs, lenD, fldD, isIns, isNon, h3, len_LN, ha, hb, DN]
        · simp [turnC, runF, ss, es, ts, gs, execs, ev_var, ev_kon, ev_glb, ev_bin, ev_neg, ev_cmp, ev_chn, ev_and, ev_or, ev_not, ev_ife, ev_call, ev_callk, ev_mth, ev_mk, ev_b1, ev_b2, ev_isi, ev_ix, ev_sl, ev_lst, ev_tup, ev_newL, ev_newD, ev_join, ev_fld, exec_asg, exec_setI, exec_setF, exec_aug, exec_mut, exec_ifs, exec_ret, exec_retn, exec_brk, exec_cont, exec_exp, exec_rai, exec_fg, exec_pas, evT, evs, evTAnd, evTOr, evAnd, evOr, evP, evSrc, bo, bnd, frzAll, esT, esTs, esO, esc, escs, esS, escS, opd, opn, look, peek, ofO, cmpD, truthD, thenK, sweep, fresh, asgK, asgT, asgTs, put, binD, b1D, b2D, ixD, ixN, atI_0, atI_1, atI_2, atI_3, atI_4, eqv, eqvs, shp, shps, setK, setX, setOb, isVar, unset, cellOf, frz, valOf, forL, forK, isiD, items, seqs, lenD, fldD, isIns, isNon, h3, len_LN, ha, hb, DN]
      · simp [turnC, runF, ss, es, ts, gs, execs, ev_var, ev_kon, ev_glb, ev_bin, ev_neg, ev_cmp, ev_chn, ev_and, ev_or, ev_not, ev_ife, ev_call, ev_callk, ev_mth, ev_mk, ev_b1, ev_b2, ev_isi, ev_ix, ev_sl, ev_lst, ev_tup, ev_newL, ev_newD, ev_join, ev_fld, exec_asg, exec_setI, exec_setF, exec_aug, exec_mut, exec_ifs, exec_ret, exec_retn, exec_brk, exec_cont, exec_exp, exec_rai, exec_fg, exec_pas, evT, evs, evTAnd, evTOr, evAnd, evOr, evP, evSrc, bo, bnd, frzAll, esT, esTs, esO, esc, escs, esS, escS, opd, opn, look, peek, ofO, cmpD, truthD, thenK, sweep, fresh, asgK, asgT, asgTs, put, binD, b1D, b2D, ixD, ixN, atI_0, atI_1, atI_2, atI_3, atI_4, eqv, eqvs, shp, shps, setK, setX, setOb, isVar, unset, cellOf, frz, valOf, forL, forK, isiD, items, seqs, lenD, fldD, isIns, isNon, h3, len_LN, ha, DN]
  simp only [es] at e
  simp [runF, ss, es, ts, gs, execs, ev_var, ev_kon, ev_glb, ev_bin, ev_neg, ev_cmp, ev_chn, ev_and, ev_or, ev_not, ev_ife, ev_call, ev_callk, ev_mth, ev_mk, ev_b1, ev_b2, ev_isi, ev_ix, ev_sl, ev_lst, ev_tup, ev_newL, ev_newD, ev_join, ev_fld, exec_asg, exec_setI, exec_setF, exec_aug, exec_mut, exec_ifs, exec_ret, exec_retn, exec_brk, exec_cont, exec_exp, exec_rai, exec_fg, exec_pas, evT, evs, evTAnd, evTOr, evAnd, evOr, evP, evSrc, bo, bnd, frzAll, esT, esTs, esO, esc, escs, esS, escS, opd, opn, look, peek, ofO, cmpD, truthD, thenK, sweep, fresh, asgK, asgT, asgTs, put, binD, b1D, b2D, ixD, ixN, atI_0, atI_1, atI_2, atI_3, atI_4, eqv, eqvs, shp, shps, setK, setX, setOb, isVar, unset, cellOf, frz, valOf, forL, forK, isiD, items, seqs, lenD, fldD, isIns, isNon, f12, b12, e]
end K94
set_option maxRecDepth 100000
set_option linter.all false
set_option autoImplicit false
namespace K94
open Pd
/-- plain data of a height -/
def Pl : Nat → D → Prop
  | _, .non => True
  | _, .bl _ => True
  | _, .int _ => True
  | _, .str _ => True
  | 0, .tup xs => xs = []
  | 0, .lst xs => xs = []
  | s + 1, .tup xs => ∀ x ∈ xs, Pl s x
  | s + 1, .lst xs => ∀ x ∈ xs, Pl s x
  | _, .scr _ => False
  | _, .obj _ => False
theorem shps_LN (k : Nat) : ∀ l : List Nat, shps k (LN l) = true
  | [] => by simp [shps]
  | q :: l => by
    have h := shps_LN k l
    rw [LN, List.map_cons]
    show (shp k (DN q) && shps k (LN l)) = true
    rw [h]; cases k <;> rfl
def isOne (l : List Nat) (q : Int) : Bool := match l with
  | [a] => decide ((a : Int) = q)
  | _ => false
theorem eqvs_one (l : List Nat) (q : Int) : eqvs (LN l) [.int q] = isOne l q := by
  cases l with
  | nil => rfl
  | cons a l =>
    cases l with
    | nil =>
      show (((a : Int) == q) && true) = decide ((a : Int) = q)
      rw [Bool.and_true]
      rfl
    | cons b l =>
      show (((a : Int) == q) && eqvs (LN (b :: l)) []) = false
      have : eqvs (LN (b :: l)) [] = false := rfl
      rw [this, Bool.and_false]
theorem eqvs_nil (l : List Nat) : eqvs (LN l) [] = l.isEmpty := by
  cases l <;> rfl
/-- is_integer, twice told -/
def isI : D → Bool
  | .int _ => true
  | _ => false
def noObj : D → Bool
  | .obj _ => false
  | _ => true
theorem c14 (n : Nat) (x : D) (t : T) (h : noObj x = true) : call prg (n + 1) 14 [x] t = .ok (.bl (isI x)) t := by
  rw [cS 14 f14 rfl]
  cases x <;> first | (simp [runF, ss, es, ts, gs, execs, ev_var, ev_kon, ev_glb, ev_bin, ev_neg, ev_cmp, ev_chn, ev_and, ev_or, ev_not, ev_ife, ev_call, ev_callk, ev_mth, ev_mk, ev_b1, ev_b2, ev_isi, ev_ix, ev_sl, ev_lst, ev_tup, ev_newL, ev_newD, ev_join, ev_fld, exec_asg, exec_setI, exec_setF, exec_aug, exec_mut, exec_ifs, exec_ret, exec_retn, exec_brk, exec_cont, exec_exp, exec_rai, exec_fg, exec_pas, evT, evs, evTAnd, evTOr, evAnd, evOr, evP, evSrc, bo, bnd, frzAll, esT, esTs, esO, esc, escs, esS, escS, opd, opn, look, peek, ofO, cmpD, truthD, thenK, sweep, fresh, asgK, asgT, asgTs, put, binD, b1D, b2D, ixD, ixN, atI_0, atI_1, atI_2, atI_3, atI_4, eqv, eqvs, shp, shps, setK, setX, setOb, isVar, unset, cellOf, frz, valOf, forL, forK, isiD, items, seqs, lenD, fldD, isIns, isNon, f14, b14, isI]; done) | cases h
theorem c22 (n : Nat) (x : D) (t : T) (h : noObj x = true) : call prg (n + 1) 22 [x] t = .ok (.bl (isI x)) t := by
  rw [cS 22 f22 rfl]
  cases x <;> first | (simp [runF, ss, es, ts, gs, execs, ev_var, ev_kon, ev_glb, ev_bin, ev_neg, ev_cmp, ev_chn, ev_and, ev_or, ev_not, ev_ife, ev_call, ev_callk, ev_mth, ev_mk, ev_b1, ev_b2, ev_isi, ev_ix, ev_sl, ev_lst, ev_tup, ev_newL, ev_newD, ev_join, ev_fld, exec_asg, exec_setI, exec_setF, exec_aug, exec_mut, exec_ifs, exec_ret, exec_retn, exec_brk, exec_cont, exec_exp, exec_rai, exec_fg, exec_pas, evT, evs, evTAnd, evTOr, evAnd, evOr, evP, evSrc, bo, bnd, frzAll, esT, esTs, esO, esc, escs, esS, escS, opd, opn, look, peek, ofO, cmpD, truthD, thenK, sweep, fresh, asgK, asgT, asgTs, put, binD, b1D, b2D, ixD, ixN, atI_0, atI_1, atI_2, atI_3, atI_4, eqv, eqvs, shp, shps, setK, setX, setOb, isVar, unset, cellOf, frz, valOf, forL, forK, isiD, items, seqs, lenD, fldD, isIns, isNon, f22, b22, isI]; done) | cases h
theorem c21 (n : Nat) (x : D) (lo hi : Int) (t : T) (h : noObj x = true) : call prg (n + 2) 21 [x, .int lo, .int hi] t = .ok (.bl (match x with | .int i => decide (lo ≤ i ∧ i ≤ hi) | _ => false)) t := by
  rw [cS 21 f21 rfl]
  have h1 := c22 n x t h
  cases x with
  | int i =>
    by_cases h2 : lo ≤ i
    · by_cases h3 : i ≤ hi
      · simp [runF, ss, es, ts, gs, execs, ev_var, ev_kon, ev_glb, ev_bin, ev_neg, ev_cmp, ev_chn, ev_and, ev_or, ev_not, ev_ife, ev_call, ev_callk, ev_mth, ev_mk, ev_b1, ev_b2, ev_isi, ev_ix, ev_sl, ev_lst, ev_tup, ev_newL, ev_newD, ev_join, ev_fld, exec_asg, exec_setI, exec_setF, exec_aug, exec_mut, exec_ifs, exec_ret, exec_retn, exec_brk, exec_cont, exec_exp, exec_rai, exec_fg, exec_pas, evT, evs, evTAnd, evTOr, evAnd, evOr, evP, evSrc, bo, bnd, frzAll, esT, esTs, esO, esc, escs, esS, escS, opd, opn, look, peek, ofO, cmpD, truthD, thenK, sweep, fresh, asgK, asgT, asgTs, put, binD, b1D, b2D, ixD, ixN, atI_0, atI_1, atI_2, atI_3, atI_4, eqv, eqvs, shp, shps, setK, setX, setOb, isVar, unset, cellOf, frz, valOf, forL, forK, isiD, items, seqs, lenD, fldD, isIns, isNon, f21, b21, h1, isI, h2, h3]
      · simp [runF, ss, es, ts, gs, execs, ev_var, ev_kon, ev_glb, ev_bin, ev_neg, ev_cmp, ev_chn, ev_and, ev_or, ev_not, ev_ife, ev_call, ev_callk, ev_mth, ev_mk, ev_b1, ev_b2, ev_isi, ev_ix, ev_sl, ev_lst, ev_tup, ev_newL, ev_newD, ev_join, ev_fld, exec_asg, exec_setI, exec_setF, exec_aug, exec_mut, exec_ifs, exec_ret, exec_retn, exec_brk, exec_cont, exec_exp, exec_rai, exec_fg, exec_pas, evT, evs, evTAnd, evTOr, evAnd, evOr, evP, evSrc, bo, bnd, frzAll, esT, esTs, esO, esc, escs, esS, escS, opd, opn, look, peek, ofO, cmpD, truthD, thenK, sweep, fresh, asgK, asgT, asgTs, put, binD, b1D, b2D, ixD, ixN, atI_0, atI_1, atI_2, atI_3, atI_4, eqv, eqvs, shp, shps, setK, setX, setOb, isVar, unset, cellOf, frz, valOf, forL, forK, isiD, items, seqs, lenD, fldD, isIns, isNon, f21, b21, h1, isI, h2, h3]
    · simp [runF, ss, es, ts, gs, execs, ev_var, ev_kon, ev_glb, ev_bin, ev_neg, ev_cmp, ev_chn, ev_and, ev_or, ev_not, ev_ife, ev_call, ev_callk, ev_mth, ev_mk, ev_b1, ev_b2, ev_isi, ev_ix, ev_sl, ev_lst, ev_tup, ev_newL, ev_newD, ev_join, ev_fld, exec_asg, exec_setI, exec_setF, exec_aug, exec_mut, exec_ifs, exec_ret, exec_retn, exec_brk, exec_cont, exec_exp, exec_rai, exec_fg, exec_pas, evT, evs, evTAnd, evTOr, evAnd, evOr, evP, evSrc, bo, bnd, frzAll, esT, esTs, esO, esc, escs, esS, escS, opd, opn, look, peek, ofO, cmpD, truthD, thenK, sweep, fresh, asgK, asgT, asgTs, put, binD, b1D, b2D, ixD, ixN, atI_0, atI_1, atI_2, atI_3, atI_4, eqv, eqvs, shp, shps, setK, setX, setOb, isVar, unset, cellOf, frz, valOf, forL, forK, isiD, items, seqs, lenD, fldD, isIns, isNon, f21, b21, h1, isI, h2]
  | obj _ => cases h
  | _ => simp [runF, ss, es, ts, gs, execs, ev_var, ev_kon, ev_glb, ev_bin, ev_neg, ev_cmp, ev_chn, ev_and, ev_or, ev_not, ev_ife, ev_call, ev_callk, ev_mth, ev_mk, ev_b1, ev_b2, ev_isi, ev_ix, ev_sl, ev_lst, ev_tup, ev_newL, ev_newD, ev_join, ev_fld, exec_asg, exec_setI, exec_setF, exec_aug, exec_mut, exec_ifs, exec_ret, exec_retn, exec_brk, exec_cont, exec_exp, exec_rai, exec_fg, exec_pas, evT, evs, evTAnd, evTOr, evAnd, evOr, evP, evSrc, bo, bnd, frzAll, esT, esTs, esO, esc, escs, esS, escS, opd, opn, look, peek, ofO, cmpD, truthD, thenK, sweep, fresh, asgK, asgT, asgTs, put, binD, b1D, b2D, ixD, ixN, atI_0, atI_1, atI_2, atI_3, atI_4, eqv, eqvs, shp, shps, setK, setX, setOb, isVar, unset, cellOf, frz, valOf, forL, forK, isiD, items, seqs, lenD, fldD, isIns, isNon, f21, b21, h1, isI]
section
variable (ws : List (List Nat)) (pl : Nat)
/-- the walk -/
def wk : Nat → D → List Nat → Int
  | 0, _, _ => 999
  | s + 1, x, l => match x with
    | .int q => if isOne l q then 0 else 999
    | .tup [.int p, a, b] => if 0 ≤ p ∧ p < pl then (if (side ws p.toNat 48 l).isEmpty || (side ws p.toNat 49 l).isEmpty then 999 else
        1 + (if wk s b (side ws p.toNat 49 l) > wk s a (side ws p.toNat 48 l) then wk s b (side ws p.toNat 49 l) else wk s a (side ws p.toNat 48 l))) else 999
    | _ => 999
/-- the leaves below -/
def bl : Nat → D → List Nat → Int → Option (List Nat)
  | 0, _, _, _ => none
  | s + 1, x, l, k => match x with
    | .int q => if 0 ≤ q ∧ q.toNat ∈ l then some [q.toNat] else none
    | .tup [.int p, a, b] => if 0 ≤ p ∧ p < pl ∧ k ≠ 0 then (match bl s a (side ws p.toNat 48 l) (k - 1), bl s b (side ws p.toNat 49 l) (k - 1) with
      | some f, some g => some (f ++ g)
      | _, _ => none) else none
    | _ => none
end
theorem side_lt {ws : List (List Nat)} {p b : Nat} {l : List Nat} (h : ∀ q ∈ l, q < ws.length) : ∀ q ∈ side ws p b l, q < ws.length := fun q hq => h q (List.mem_filter.mp hq).1
theorem Pl.noObj {s : Nat} {x : D} (h : Pl s x) : noObj x = true := by
  cases x <;> first | rfl | (cases s <;> exact h.elim)
theorem c5 (ws : List (List Nat)) (pl : Nat) (t : T) (hw : Wd ws pl) (h0 : 0 < ws.length) : ∀ (s n : Nat) (x : D) (l : List Nat), Pl s x → (∀ q ∈ l, q < ws.length) →
    call prg (n + s + 2) 5 [.tup (ws.map .str), x, .lst (LN l)] t = .ok (.int (wk ws pl (s + 1) x l)) t := by
  have h1 : atI (ws.map D.str) 0 = some (.str (wAt ws 0)) := atI_W ws 0 h0
  have h2 : (wAt ws 0).length = pl := hw.len _ (wAt_mem h0)
  intro s
  induction s with
  | zero =>
    intro n x l hx hl
    rw [cS 5 f5 rfl]
    have i1 := c14 n x t hx.noObj
    cases x with
    | int q =>
      cases hq : isOne l q <;> simp [runF, ss, es, ts, gs, execs, ev_var, ev_kon, ev_glb, ev_bin, ev_neg, ev_cmp, ev_chn, ev_and, ev_or, ev_not, ev_ife, ev_call, ev_callk, ev_mth, ev_mk, ev_b1, ev_b2, ev_isi, ev_ix, ev_sl, ev_lst, ev_tup, ev_newL, ev_newD, ev_join, ev_fld, exec_asg, exec_setI, exec_setF, exec_aug, exec_mut, exec_ifs, exec_ret, exec_retn, exec_brk, exec_cont, exec_exp, exec_rai, exec_fg, exec_pas, evT, evs, evTAnd, evTOr, evAnd, evOr, evP, evSrc, bo, bnd, frzAll, esT, esTs, esO, esc, escs, esS, escS, opd, opn, look, peek, ofO, cmpD, truthD, thenK, sweep, fresh, asgK, asgT, asgTs, put, binD, b1D, b2D, ixD, ixN, atI_0, atI_1, atI_2, atI_3, atI_4, eqv, eqvs, shp, shps, setK, setX, setOb, isVar, unset, cellOf, frz, valOf, forL, forK, isiD, items, seqs, lenD, fldD, isIns, isNon, f5, b5, i1, isI, shps_LN, eqvs_one, hq, wk]
    | tup xs =>
      have hx : xs = [] := hx
      subst hx
      simp [runF, ss, es, ts, gs, execs, ev_var, ev_kon, ev_glb, ev_bin, ev_neg, ev_cmp, ev_chn, ev_and, ev_or, ev_not, ev_ife, ev_call, ev_callk, ev_mth, ev_mk, ev_b1, ev_b2, ev_isi, ev_ix, ev_sl, ev_lst, ev_tup, ev_newL, ev_newD, ev_join, ev_fld, exec_asg, exec_setI, exec_setF, exec_aug, exec_mut, exec_ifs, exec_ret, exec_retn, exec_brk, exec_cont, exec_exp, exec_rai, exec_fg, exec_pas, evT, evs, evTAnd, evTOr, evAnd, evOr, evP, evSrc, bo, bnd, frzAll, esT, esTs, esO, esc, escs, esS, escS, opd, opn, look, peek, ofO, cmpD, truthD, thenK, sweep, fresh, asgK, asgT, asgTs, put, binD, b1D, b2D, ixD, ixN, atI_0, atI_1, atI_2, atI_3, atI_4, eqv, eqvs, shp, shps, setK, setX, setOb, isVar, unset, cellOf, frz, valOf, forL, forK, isiD, items, seqs, lenD, fldD, isIns, isNon, f5, b5, i1, isI, wk]
    | scr _ => exact hx.elim
    | obj _ => exact hx.elim
    | _ => simp [runF, ss, es, ts, gs, execs, ev_var, ev_kon, ev_glb, ev_bin, ev_neg, ev_cmp, ev_chn, ev_and, ev_or, ev_not, ev_ife, ev_call, ev_callk, ev_mth, ev_mk, ev_b1, ev_b2, ev_isi, ev_ix, ev_sl, ev_lst, ev_tup, ev_newL, ev_newD, ev_join, ev_fld, exec_asg, exec_setI, exec_setF, exec_aug, exec_mut, exec_ifs, exec_ret, exec_retn, exec_brk, exec_cont, exec_exp, exec_rai, exec_fg, exec_pas, evT, evs, evTAnd, evTOr, evAnd, evOr, evP, evSrc, bo, bnd, frzAll, esT, esTs, esO, esc, escs, esS, escS, opd, opn, look, peek, ofO, cmpD, truthD, thenK, sweep, fresh, asgK, asgT, asgTs, put, binD, b1D, b2D, ixD, ixN, atI_0, atI_1, atI_2, atI_3, atI_4, eqv, eqvs, shp, shps, setK, setX, setOb, isVar, unset, cellOf, frz, valOf, forL, forK, isiD, items, seqs, lenD, fldD, isIns, isNon, f5, b5, i1, isI, wk]
  | succ s ih =>
    intro n x l hx hl
    rw [show n + (s + 1) + 2 = (n + s + 2) + 1 by omega, cS 5 f5 rfl]
    have i1 := c14 (n + s + 1) x t hx.noObj
    have i1 : call prg (n + s + 2) 14 [x] t = .ok (.bl (isI x)) t := i1
    cases x with
    | int q =>
      cases hq : isOne l q <;> simp [runF, ss, es, ts, gs, execs, ev_var, ev_kon, ev_glb, ev_bin, ev_neg, ev_cmp, ev_chn, ev_and, ev_or, ev_not, ev_ife, ev_call, ev_callk, ev_mth, ev_mk, ev_b1, ev_b2, ev_isi, ev_ix, ev_sl, ev_lst, ev_tup, ev_newL, ev_newD, ev_join, ev_fld, exec_asg, exec_setI, exec_setF, exec_aug, exec_mut, exec_ifs, exec_ret, exec_retn, exec_brk, exec_cont, exec_exp, exec_rai, exec_fg, exec_pas, evT, evs, evTAnd, evTOr, evAnd, evOr, evP, evSrc, bo, bnd, frzAll, esT, esTs, esO, esc, escs, esS, escS, opd, opn, look, peek, ofO, cmpD, truthD, thenK, sweep, fresh, asgK, asgT, asgTs, put, binD, b1D, b2D, ixD, ixN, atI_0, atI_1, atI_2, atI_3, atI_4, eqv, eqvs, shp, shps, setK, setX, setOb, isVar, unset, cellOf, frz, valOf, forL, forK, isiD, items, seqs, lenD, fldD, isIns, isNon, f5, b5, i1, isI, shps_LN, eqvs_one, hq, wk]
    | tup xs =>
      have hx : ∀ x ∈ xs, Pl s x := hx
      by_cases h3 : xs.length = 3
      · match xs, h3, hx with
        | [x0, x1, x2], _, hx =>
          have p0 := hx x0 (by simp)
          have p1 := hx x1 (by simp)
          have p2 := hx x2 (by simp)
          have i2 := c14 (n + s + 1) x0 t p0.noObj
          have i2 : call prg (n + s + 2) 14 [x0] t = .ok (.bl (isI x0)) t := i2
          cases x0 with
          | int p =>
            by_cases hp : 0 ≤ p
            · by_cases hp2 : p < pl
              · obtain ⟨k, rfl⟩ := Int.eq_ofNat_of_zero_le hp
                have hk : k < pl := by omega
                have q1 := c13 (n + s + 1) ws pl k 48 l t hw hk hl
                have q2 := c13 (n + s + 1) ws pl k 49 l t hw hk hl
                have q1 : call prg (n + s + 2) 13 [.tup (ws.map .str), .lst (LN l), .int k, .str [48]] t = _ := q1
                have q2 : call prg (n + s + 2) 13 [.tup (ws.map .str), .lst (LN l), .int k, .str [49]] t = _ := q2
                have r1 := ih n x1 (side ws k 48 l) p1 (side_lt hl)
                have r2 := ih n x2 (side ws k 49 l) p2 (side_lt hl)
                have hkn : ¬ (k : Int) < 0 := by omega
                have hkp : ¬ (pl : Int) ≤ (k : Int) := by omega
                cases e1 : (side ws k 48 l).isEmpty
                · cases e2 : (side ws k 49 l).isEmpty
                  · simp [runF, ss, es, ts, gs, execs, ev_var, ev_kon, ev_glb, ev_bin, ev_neg, ev_cmp, ev_chn, ev_and, ev_or, ev_not, ev_ife, ev_call, ev_callk, ev_mth, ev_mk, ev_b1, ev_b2, ev_isi, ev_ix, ev_sl, ev_lst, ev_tup, ev_newL, ev_newD, ev_join, ev_fld, exec_asg, exec_setI, exec_setF, exec_aug, exec_mut, exec_ifs, exec_ret, exec_retn, exec_brk, exec_cont, exec_exp, exec_rai, exec_fg, exec_pas, evT, evs, evTAnd, evTOr, evAnd, evOr, evP, evSrc, bo, bnd, frzAll, esT, esTs, esO, esc, escs, esS, escS, opd, opn, look, peek, ofO, cmpD, truthD, thenK, sweep, fresh, asgK, asgT, asgTs, put, binD, b1D, b2D, ixD, ixN, atI_0, atI_1, atI_2, atI_3, atI_4, eqv, eqvs, shp, shps, setK, setX, setOb, isVar, unset, cellOf, frz, valOf, forL, forK, isiD, items, seqs, lenD, fldD, isIns, isNon, f5, b5, i1, i2, isI, h1, h2, hkn, hkp, q1, q2, shps_LN, eqvs_nil, e1, e2, r1, r2, wk, hk]
                  · simp [runF, ss, es, ts, gs, execs, ev_var, ev_kon, ev_glb, ev_bin, ev_neg, ev_cmp, ev_chn, ev_and, ev_or, ev_not, ev_ife, ev_call, ev_callk, ev_mth, ev_mk, ev_b1, ev_b2, ev_isi, ev_ix, ev_sl, ev_lst, ev_tup, ev_newL, ev_newD, ev_join, ev_fld, exec_asg, exec_setI, exec_setF, exec_aug, exec_mut, exec_ifs, exec_ret, exec_retn, exec_brk, exec_cont, exec_exp, exec_rai, exec_fg, exec_pas, evT, evs, evTAnd, evTOr, evAnd, evOr, evP, evSrc, bo, bnd, frzAll, esT, esTs, esO, esc, escs, esS, escS, opd, opn, look, peek, ofO, cmpD, truthD, thenK, sweep, fresh, asgK, asgT, asgTs, put, binD, b1D, b2D, ixD, ixN, atI_0, atI_1, atI_2, atI_3, atI_4, eqv, eqvs, shp, shps, setK, setX, setOb, isVar, unset, cellOf, frz, valOf, forL, forK, isiD, items, seqs, lenD, fldD, isIns, isNon, f5, b5, i1, i2, isI, h1, h2, hkn, hkp, q1, q2, shps_LN, eqvs_nil, e1, e2, wk, hk]
                · simp [runF, ss, es, ts, gs, execs, ev_var, ev_kon, ev_glb, ev_bin, ev_neg, ev_cmp, ev_chn, ev_and, ev_or, ev_not, ev_ife, ev_call, ev_callk, ev_mth, ev_mk, ev_b1, ev_b2, ev_isi, ev_ix, ev_sl, ev_lst, ev_tup, ev_newL, ev_newD, ev_join, ev_fld, exec_asg, exec_setI, exec_setF, exec_aug, exec_mut, exec_ifs, exec_ret, exec_retn, exec_brk, exec_cont, exec_exp, exec_rai, exec_fg, exec_pas, evT, evs, evTAnd, evTOr, evAnd, evOr, evP, evSrc, bo, bnd, frzAll, esT, esTs, esO, esc, escs, esS, escS, opd, opn, look, peek, ofO, cmpD, truthD, thenK, sweep, fresh, asgK, asgT, asgTs, put, binD, b1D, b2D, ixD, ixN, atI_0, atI_1, atI_2, atI_3, atI_4, eqv, eqvs, shp, shps, setK, setX, setOb, isVar, unset, cellOf, frz, valOf, forL, forK, isiD, items, seqs, lenD, fldD, isIns, isNon, f5, b5, i1, i2, isI, h1, h2, hkn, hkp, q1, q2, shps_LN, eqvs_nil, e1, wk, hk]
              · have hkn : ¬ p < 0 := by omega
                have hkp : (pl : Int) ≤ p := by omega
                simp [runF, ss, es, ts, gs, execs, ev_var, ev_kon, ev_glb, ev_bin, ev_neg, ev_cmp, ev_chn, ev_and, ev_or, ev_not, ev_ife, ev_call, ev_callk, ev_mth, ev_mk, ev_b1, ev_b2, ev_isi, ev_ix, ev_sl, ev_lst, ev_tup, ev_newL, ev_newD, ev_join, ev_fld, exec_asg, exec_setI, exec_setF, exec_aug, exec_mut, exec_ifs, exec_ret, exec_retn, exec_brk, exec_cont, exec_exp, exec_rai, exec_fg, exec_pas, evT, evs, evTAnd, evTOr, evAnd, evOr, evP, evSrc, bo, bnd, frzAll, esT, esTs, esO, esc, escs, esS, escS, opd, opn, look, peek, ofO, cmpD, truthD, thenK, sweep, fresh, asgK, asgT, asgTs, put, binD, b1D, b2D, ixD, ixN, atI_0, atI_1, atI_2, atI_3, atI_4, eqv, eqvs, shp, shps, setK, setX, setOb, isVar, unset, cellOf, frz, valOf, forL, forK, isiD, items, seqs, lenD, fldD, isIns, isNon, f5, b5, i1, i2, isI, h1, h2, hkn, hkp, wk, hp2]
            · have hkn : p < 0 := by omega
              simp [runF, ss, es, ts, gs, execs, ev_var, ev_kon, ev_glb, ev_bin, ev_neg, ev_cmp, ev_chn, ev_and, ev_or, ev_not, ev_ife, ev_call, ev_callk, ev_mth, ev_mk, ev_b1, ev_b2, ev_isi, ev_ix, ev_sl, ev_lst, ev_tup, ev_newL, ev_newD, ev_join, ev_fld, exec_asg, exec_setI, exec_setF, exec_aug, exec_mut, exec_ifs, exec_ret, exec_retn, exec_brk, exec_cont, exec_exp, exec_rai, exec_fg, exec_pas, evT, evs, evTAnd, evTOr, evAnd, evOr, evP, evSrc, bo, bnd, frzAll, esT, esTs, esO, esc, escs, esS, escS, opd, opn, look, peek, ofO, cmpD, truthD, thenK, sweep, fresh, asgK, asgT, asgTs, put, binD, b1D, b2D, ixD, ixN, atI_0, atI_1, atI_2, atI_3, atI_4, eqv, eqvs, shp, shps, setK, setX, setOb, isVar, unset, cellOf, frz, valOf, forL, forK, isiD, items, seqs, lenD, fldD, isIns, isNon, f5, b5, i1, i2, isI, hkn, wk, hp]
          | obj _ => cases s <;> exact p0.elim
          | scr _ => cases s <;> exact p0.elim
          | _ => simp [runF, ss, es, ts, gs, execs, ev_var, ev_kon, ev_glb, ev_bin, ev_neg, ev_cmp, ev_chn, ev_and, ev_or, ev_not, ev_ife, ev_call, ev_callk, ev_mth, ev_mk, ev_b1, ev_b2, ev_isi, ev_ix, ev_sl, ev_lst, ev_tup, ev_newL, ev_newD, ev_join, ev_fld, exec_asg, exec_setI, exec_setF, exec_aug, exec_mut, exec_ifs, exec_ret, exec_retn, exec_brk, exec_cont, exec_exp, exec_rai, exec_fg, exec_pas, evT, evs, evTAnd, evTOr, evAnd, evOr, evP, evSrc, bo, bnd, frzAll, esT, esTs, esO, esc, escs, esS, escS, opd, opn, look, peek, ofO, cmpD, truthD, thenK, sweep, fresh, asgK, asgT, asgTs, put, binD, b1D, b2D, ixD, ixN, atI_0, atI_1, atI_2, atI_3, atI_4, eqv, eqvs, shp, shps, setK, setX, setOb, isVar, unset, cellOf, frz, valOf, forL, forK, isiD, items, seqs, lenD, fldD, isIns, isNon, f5, b5, i1, i2, isI, wk]
      · have h3' : ¬ (xs.length : Int) = 3 := by omega
        have hwk : wk ws pl (s + 1 + 1) (.tup xs) l = 999 := by
          match xs, h3 with
          | [], _ => rfl
          | [_], _ => simp [wk]
          | [_, _], _ => simp [wk]
          | [_, _, _], h => exact absurd rfl h
          | _ :: _ :: _ :: _ :: _, _ => simp [wk]
        simp [runF, ss, es, ts, gs, execs, ev_var, ev_kon, ev_glb, ev_bin, ev_neg, ev_cmp, ev_chn, ev_and, ev_or, ev_not, ev_ife, ev_call, ev_callk, ev_mth, ev_mk, ev_b1, ev_b2, ev_isi, ev_ix, ev_sl, ev_lst, ev_tup, ev_newL, ev_newD, ev_join, ev_fld, exec_asg, exec_setI, exec_setF, exec_aug, exec_mut, exec_ifs, exec_ret, exec_retn, exec_brk, exec_cont, exec_exp, exec_rai, exec_fg, exec_pas, evT, evs, evTAnd, evTOr, evAnd, evOr, evP, evSrc, bo, bnd, frzAll, esT, esTs, esO, esc, escs, esS, escS, opd, opn, look, peek, ofO, cmpD, truthD, thenK, sweep, fresh, asgK, asgT, asgTs, put, binD, b1D, b2D, ixD, ixN, atI_0, atI_1, atI_2, atI_3, atI_4, eqv, eqvs, shp, shps, setK, setX, setOb, isVar, unset, cellOf, frz, valOf, forL, forK, isiD, items, seqs, lenD, fldD, isIns, isNon, f5, b5, i1, isI, h3', hwk]
    | scr _ => exact hx.elim
    | obj _ => exact hx.elim
    | _ => simp [runF, ss, es, ts, gs, execs, ev_var, ev_kon, ev_glb, ev_bin, ev_neg, ev_cmp, ev_chn, ev_and, ev_or, ev_not, ev_ife, ev_call, ev_callk, ev_mth, ev_mk, ev_b1, ev_b2, ev_isi, ev_ix, ev_sl, ev_lst, ev_tup, ev_newL, ev_newD, ev_join, ev_fld, exec_asg, exec_setI, exec_setF, exec_aug, exec_mut, exec_ifs, exec_ret, exec_retn, exec_brk, exec_cont, exec_exp, exec_rai, exec_fg, exec_pas, evT, evs, evTAnd, evTOr, evAnd, evOr, evP, evSrc, bo, bnd, frzAll, esT, esTs, esO, esc, escs, esS, escS, opd, opn, look, peek, ofO, cmpD, truthD, thenK, sweep, fresh, asgK, asgT, asgTs, put, binD, b1D, b2D, ixD, ixN, atI_0, atI_1, atI_2, atI_3, atI_4, eqv, eqvs, shp, shps, setK, setX, setOb, isVar, unset, cellOf, frz, valOf, forL, forK, isiD, items, seqs, lenD, fldD, isIns, isNon, f5, b5, i1, isI, wk]
end K94
set_option maxRecDepth 100000
set_option linter.all false
set_option autoImplicit false
namespace K94
open Pd
theorem all_flat (l : List Nat) : (LN l).all flat = true := by
  rw [LN, List.all_map, List.all_eq_true]
  intro x _; rfl
theorem any_eqv (l : List Nat) (q : Nat) : ((LN l).any fun y => eqv y (.int q)) = decide (q ∈ l) := by
  induction l with
  | nil => rfl
  | cons a l ih =>
    rw [LN, List.map_cons, List.any_cons]
    have ih : ((l.map DN).any fun y => eqv y (.int q)) = decide (q ∈ l) := ih
    rw [ih]
    show (((a : Int) == (q : Int)) || decide (q ∈ l)) = decide (q ∈ a :: l)
    by_cases h : a = q
    · subst h; simp
    · have h2 : ((a : Int) == (q : Int)) = false := by simp; omega
      have h3 : ¬ q = a := fun z => h z.symm
      simp [h2, h3]
theorem any_eqvI (l : List Nat) (q : Int) : ((LN l).any fun y => eqv y (.int q)) = decide (0 ≤ q ∧ q.toNat ∈ l) := by
  by_cases h : 0 ≤ q
  · obtain ⟨k, rfl⟩ := Int.eq_ofNat_of_zero_le h
    rw [any_eqv]; simp
  · have : ((LN l).any fun y => eqv y (.int q)) = false := by
      rw [List.any_eq_false]
      intro y hy
      obtain ⟨a, _, rfl⟩ := List.mem_map.mp hy
      show ¬ (((a : Int) == q) = true)
      simp; omega
    rw [this]; simp [h]
theorem inD_LN (l : List Nat) (q : Nat) : inD (.int q) (.tup (LN l)) = some (decide (q ∈ l)) := by
  show (if flat (.int q) && (LN l).all flat then some ((LN l).any fun y => eqv y (.int q)) else none) = _
  rw [all_flat, any_eqv]; rfl
theorem inD_LNI (l : List Nat) (q : Int) : inD (.int q) (.tup (LN l)) = some (decide (0 ≤ q ∧ q.toNat ∈ l)) := by
  show (if flat (.int q) && (LN l).all flat then some ((LN l).any fun y => eqv y (.int q)) else none) = _
  rw [all_flat, any_eqvI]; rfl
/-- the game's object -/
def game (ws : List (List Nat)) (d : D) : Ob := .ins 0 [(0, .tup (ws.map .str)), (1, d)]
theorem c23 (n g : Nat) (d : D) (ws : List (List Nat)) (pl p : Nat) (l : List Nat) (t : T) (hw : Wd ws pl) (hp : p < pl) (hl : ∀ q ∈ l, q < ws.length) (hg : t[g]? = some (game ws d)) :
    call prg (n + 1) 23 [.obj g, .tup (LN l), .int p] t = .ok (.tup [.tup (LN (side ws p 48 l)), .tup (LN (side ws p 49 l))]) t := by
  rw [cS 23 f23 rfl]
  have hg' : t[g]? = some (.ins 0 [(0, .tup (ws.map .str)), (1, d)]) := hg
  have e : ∀ c1 c2, ev (cls' n) (.comp (.seq (.var 1)) (.nm 4) [4] (.val (.cmp .eq (.ix (.ix (.fld (.var 0) 0) (.var 4)) (.var 2)) (.kon (.str [48])))) (.var 4)) [.val (.obj g), .val (.tup (LN l)), .val (.int p), c1, c2] t = .ok (.lst (LN (side ws p 48 l))) t := fun c1 c2 => by
    rw [ev_comp_pure (t' := t) (xs := LN l) (fun d => match d with
      | .int q => if bit ws p q.toNat == 48 then some d else none
      | _ => none) (by simp [runF, ss, es, ts, gs, execs, ev_var, ev_kon, ev_glb, ev_bin, ev_neg, ev_cmp, ev_chn, ev_and, ev_or, ev_not, ev_ife, ev_call, ev_callk, ev_mth, ev_mk, ev_b1, ev_b2, ev_isi, ev_ix, ev_sl, ev_lst, ev_tup, ev_newL, ev_newD, ev_join, ev_fld, exec_asg, exec_setI, exec_setF, exec_aug, exec_mut, exec_ifs, exec_ret, exec_retn, exec_brk, exec_cont, exec_exp, exec_rai, exec_fg, exec_pas, evT, evs, evTAnd, evTOr, evAnd, evOr, evP, evSrc, bo, bnd, frzAll, esT, esTs, esO, esc, escs, esS, escS, opd, opn, look, peek, ofO, cmpD, truthD, thenK, sweep, fresh, asgK, asgT, asgTs, put, binD, b1D, b2D, ixD, ixN, atI_0, atI_1, atI_2, atI_3, atI_4, eqv, eqvs, shp, shps, setK, setX, setOb, isVar, unset, cellOf, frz, valOf, forL, forK, isiD, items, seqs, lenD, fldD, isIns, isNon]) (fun x hx => ?_)]
    · rw [fm_filter (fun q => bit ws p q == 48) _ l (fun q hq => by simp)]
      rfl
    · obtain ⟨q, hq, rfl⟩ := List.mem_map.mp hx
      have h1 := atI_W ws q (hl q hq)
      have h2 := atI_w (wAt ws q) p (by rw [hw.len _ (wAt_mem (hl q hq))]; exact hp)
      by_cases hb : bit ws p q = 48
      · have hb' : cAt (wAt ws q) p = 48 := hb
        simp [turnC, runF, ss, es, ts, gs, execs, ev_var, ev_kon, ev_glb, ev_bin, ev_neg, ev_cmp, ev_chn, ev_and, ev_or, ev_not, ev_ife, ev_call, ev_callk, ev_mth, ev_mk, ev_b1, ev_b2, ev_isi, ev_ix, ev_sl, ev_lst, ev_tup, ev_newL, ev_newD, ev_join, ev_fld, exec_asg, exec_setI, exec_setF, exec_aug, exec_mut, exec_ifs, exec_ret, exec_retn, exec_brk, exec_cont, exec_exp, exec_rai, exec_fg, exec_pas, evT, evs, evTAnd, evTOr, evAnd, evOr, evP, evSrc, bo, bnd, frzAll, esT, esTs, esO, esc, escs, esS, escS, opd, opn, look, peek, ofO, cmpD, truthD, thenK, sweep, fresh, asgK, asgT, asgTs, put, binD, b1D, b2D, ixD, ixN, atI_0, atI_1, atI_2, atI_3, atI_4, eqv, eqvs, shp, shps, setK, setX, setOb, isVar, unset, cellOf, frz, valOf, forL, forK, isiD, items, seqs, lenD, fldD, isIns, isNon, List.lookup, hg', h1, h2, hb', hb]
      · have hb' : ¬ cAt (wAt ws q) p = 48 := hb
        simp [turnC, runF, ss, es, ts, gs, execs, ev_var, ev_kon, ev_glb, ev_bin, ev_neg, ev_cmp, ev_chn, ev_and, ev_or, ev_not, ev_ife, ev_call, ev_callk, ev_mth, ev_mk, ev_b1, ev_b2, ev_isi, ev_ix, ev_sl, ev_lst, ev_tup, ev_newL, ev_newD, ev_join, ev_fld, exec_asg, exec_setI, exec_setF, exec_aug, exec_mut, exec_ifs, exec_ret, exec_retn, exec_brk, exec_cont, exec_exp, exec_rai, exec_fg, exec_pas, evT, evs, evTAnd, evTOr, evAnd, evOr, evP, evSrc, bo, bnd, frzAll, esT, esTs, esO, esc, escs, esS, escS, opd, opn, look, peek, ofO, cmpD, truthD, thenK, sweep, fresh, asgK, asgT, asgTs, put, binD, b1D, b2D, ixD, ixN, atI_0, atI_1, atI_2, atI_3, atI_4, eqv, eqvs, shp, shps, setK, setX, setOb, isVar, unset, cellOf, frz, valOf, forL, forK, isiD, items, seqs, lenD, fldD, isIns, isNon, List.lookup, hg', h1, h2, hb', hb]
  have e2 : ∀ c2, ev (cls' n) (.comp (.seq (.var 1)) (.nm 4) [4] (.val (.cmp .notin (.var 4) (.var 3))) (.var 4)) [.val (.obj g), .val (.tup (LN l)), .val (.int p), .val (.tup (LN (side ws p 48 l))), c2] t = .ok (.lst (LN (side ws p 49 l))) t := fun c2 => by
    rw [ev_comp_pure (t' := t) (xs := LN l) (fun d => match d with
      | .int q => if bit ws p q.toNat == 49 then some d else none
      | _ => none) (by simp [runF, ss, es, ts, gs, execs, ev_var, ev_kon, ev_glb, ev_bin, ev_neg, ev_cmp, ev_chn, ev_and, ev_or, ev_not, ev_ife, ev_call, ev_callk, ev_mth, ev_mk, ev_b1, ev_b2, ev_isi, ev_ix, ev_sl, ev_lst, ev_tup, ev_newL, ev_newD, ev_join, ev_fld, exec_asg, exec_setI, exec_setF, exec_aug, exec_mut, exec_ifs, exec_ret, exec_retn, exec_brk, exec_cont, exec_exp, exec_rai, exec_fg, exec_pas, evT, evs, evTAnd, evTOr, evAnd, evOr, evP, evSrc, bo, bnd, frzAll, esT, esTs, esO, esc, escs, esS, escS, opd, opn, look, peek, ofO, cmpD, truthD, thenK, sweep, fresh, asgK, asgT, asgTs, put, binD, b1D, b2D, ixD, ixN, atI_0, atI_1, atI_2, atI_3, atI_4, eqv, eqvs, shp, shps, setK, setX, setOb, isVar, unset, cellOf, frz, valOf, forL, forK, isiD, items, seqs, lenD, fldD, isIns, isNon]) (fun x hx => ?_)]
    · rw [fm_filter (fun q => bit ws p q == 49) _ l (fun q hq => by simp)]
      rfl
    · obtain ⟨q, hq, rfl⟩ := List.mem_map.mp hx
      have h3 : bit ws p q = 48 ∨ bit ws p q = 49 := by
        refine hw.bit _ (wAt_mem (hl q hq)) _ ?_
        unfold bit cAt
        have hlt : p < (wAt ws q).length := by rw [hw.len _ (wAt_mem (hl q hq))]; exact hp
        rw [List.getElem?_eq_getElem hlt]
        exact List.getElem_mem hlt
      have h4 : (q ∈ side ws p 48 l) ↔ bit ws p q = 48 := by
        unfold side; rw [List.mem_filter]; simp [hq]
      rcases h3 with h3 | h3
      · have h5 := h4.mpr h3
        have h6 := inD_LN (side ws p 48 l) q
        simp [turnC, runF, ss, es, ts, gs, execs, ev_var, ev_kon, ev_glb, ev_bin, ev_neg, ev_cmp, ev_chn, ev_and, ev_or, ev_not, ev_ife, ev_call, ev_callk, ev_mth, ev_mk, ev_b1, ev_b2, ev_isi, ev_ix, ev_sl, ev_lst, ev_tup, ev_newL, ev_newD, ev_join, ev_fld, exec_asg, exec_setI, exec_setF, exec_aug, exec_mut, exec_ifs, exec_ret, exec_retn, exec_brk, exec_cont, exec_exp, exec_rai, exec_fg, exec_pas, evT, evs, evTAnd, evTOr, evAnd, evOr, evP, evSrc, bo, bnd, frzAll, esT, esTs, esO, esc, escs, esS, escS, opd, opn, look, peek, ofO, cmpD, truthD, thenK, sweep, fresh, asgK, asgT, asgTs, put, binD, b1D, b2D, ixD, ixN, atI_0, atI_1, atI_2, atI_3, atI_4, eqv, eqvs, shp, shps, setK, setX, setOb, isVar, unset, cellOf, frz, valOf, forL, forK, isiD, items, seqs, lenD, fldD, isIns, isNon, h6, h5, h3]
      · have h5 : q ∉ side ws p 48 l := fun z => by rw [h4.mp z] at h3; cases h3
        have h6 := inD_LN (side ws p 48 l) q
        simp [turnC, runF, ss, es, ts, gs, execs, ev_var, ev_kon, ev_glb, ev_bin, ev_neg, ev_cmp, ev_chn, ev_and, ev_or, ev_not, ev_ife, ev_call, ev_callk, ev_mth, ev_mk, ev_b1, ev_b2, ev_isi, ev_ix, ev_sl, ev_lst, ev_tup, ev_newL, ev_newD, ev_join, ev_fld, exec_asg, exec_setI, exec_setF, exec_aug, exec_mut, exec_ifs, exec_ret, exec_retn, exec_brk, exec_cont, exec_exp, exec_rai, exec_fg, exec_pas, evT, evs, evTAnd, evTOr, evAnd, evOr, evP, evSrc, bo, bnd, frzAll, esT, esTs, esO, esc, escs, esS, escS, opd, opn, look, peek, ofO, cmpD, truthD, thenK, sweep, fresh, asgK, asgT, asgTs, put, binD, b1D, b2D, ixD, ixN, atI_0, atI_1, atI_2, atI_3, atI_4, eqv, eqvs, shp, shps, setK, setX, setOb, isVar, unset, cellOf, frz, valOf, forL, forK, isiD, items, seqs, lenD, fldD, isIns, isNon, h6, h5, h3]
  simp [runF, ss, es, ts, gs, execs, ev_var, ev_kon, ev_glb, ev_bin, ev_neg, ev_cmp, ev_chn, ev_and, ev_or, ev_not, ev_ife, ev_call, ev_callk, ev_mth, ev_mk, ev_b1, ev_b2, ev_isi, ev_ix, ev_sl, ev_lst, ev_tup, ev_newL, ev_newD, ev_join, ev_fld, exec_asg, exec_setI, exec_setF, exec_aug, exec_mut, exec_ifs, exec_ret, exec_retn, exec_brk, exec_cont, exec_exp, exec_rai, exec_fg, exec_pas, evT, evs, evTAnd, evTOr, evAnd, evOr, evP, evSrc, bo, bnd, frzAll, esT, esTs, esO, esc, escs, esS, escS, opd, opn, look, peek, ofO, cmpD, truthD, thenK, sweep, fresh, asgK, asgT, asgTs, put, binD, b1D, b2D, ixD, ixN, atI_0, atI_1, atI_2, atI_3, atI_4, eqv, eqvs, shp, shps, setK, setX, setOb, isVar, unset, cellOf, frz, valOf, forL, forK, isiD, items, seqs, lenD, fldD, isIns, isNon, f23, b23, e, e2]
theorem bl_len (ws : List (List Nat)) (pl : Nat) : ∀ (s : Nat) (x : D) (l : List Nat) (k : Int) (L : List Nat), bl ws pl s x l k = some L → L.length ≤ 2 ^ s := by
  intro s
  induction s with
  | zero => intro x l k L h; cases h
  | succ s ih =>
    intro x l k L h
    have one : 1 ≤ 2 ^ (s + 1) := Nat.one_le_two_pow
    unfold bl at h
    split at h
    · split at h
      · cases h; exact one
      · cases h
    · split at h
      · split at h
        · rename_i f g e1 e2
          cases h
          have := ih _ _ _ _ e1
          have := ih _ _ _ _ e2
          rw [List.length_append, Nat.pow_succ]; omega
        · cases h
      · cases h
    · cases h
theorem c17 (ws : List (List Nat)) (pl g : Nat) (d : D) (t : T) (hw : Wd ws pl) (h0 : 0 < ws.length) (hg : t[g]? = some (game ws d)) : ∀ (s n : Nat) (x : D) (l : List Nat) (k : Int), s ≤ 20 → Pl s x → (∀ q ∈ l, q < ws.length) →
    call prg (n + s + 3) 17 [.obj g, x, .tup (LN l), .int k] t = .ok (match bl ws pl (s + 1) x l k with | some L => .lst (LN L) | none => .non) t := by
  have hg' : t[g]? = some (.ins 0 [(0, .tup (ws.map .str)), (1, d)]) := hg
  have h1 : atI (ws.map D.str) 0 = some (.str (wAt ws 0)) := atI_W ws 0 h0
  have h2 : (wAt ws 0).length = pl := hw.len _ (wAt_mem h0)
  -- an int
  have leaf : ∀ (s n : Nat) (q : Int) (l : List Nat) (k : Int), call prg (n + 1 + 1) 17 [.obj g, .int q, .tup (LN l), .int k] t = .ok (match bl ws pl (s + 1) (.int q) l k with | some L => .lst (LN L) | none => .non) t := fun s n q l k => by
    rw [cS 17 f17 rfl]
    have i1 := c22 n (.int q) t rfl
    have ha := inD_LNI l q
    by_cases hq : 0 ≤ q ∧ q.toNat ∈ l
    · have e : ((q.toNat : Nat) : Int) = q := by omega
      simp [runF, ss, es, ts, gs, execs, ev_var, ev_kon, ev_glb, ev_bin, ev_neg, ev_cmp, ev_chn, ev_and, ev_or, ev_not, ev_ife, ev_call, ev_callk, ev_mth, ev_mk, ev_b1, ev_b2, ev_isi, ev_ix, ev_sl, ev_lst, ev_tup, ev_newL, ev_newD, ev_join, ev_fld, exec_asg, exec_setI, exec_setF, exec_aug, exec_mut, exec_ifs, exec_ret, exec_retn, exec_brk, exec_cont, exec_exp, exec_rai, exec_fg, exec_pas, evT, evs, evTAnd, evTOr, evAnd, evOr, evP, evSrc, bo, bnd, frzAll, esT, esTs, esO, esc, escs, esS, escS, opd, opn, look, peek, ofO, cmpD, truthD, thenK, sweep, fresh, asgK, asgT, asgTs, put, binD, b1D, b2D, ixD, ixN, atI_0, atI_1, atI_2, atI_3, atI_4, eqv, eqvs, shp, shps, setK, setX, setOb, isVar, unset, cellOf, frz, valOf, forL, forK, isiD, items, seqs, lenD, fldD, isIns, isNon, f17, b17, i1, isI, ha, hq, bl, e]
    · simp [runF, ss, es, ts, gs, execs, ev_var, ev_kon, ev_glb, ev_bin, ev_neg, ev_cmp, ev_chn, ev_and, ev_or, ev_not, ev_ife, ev_call, ev_callk, ev_mth, ev_mk, ev_b1, ev_b2, ev_isi, ev_ix, ev_sl, ev_lst, ev_tup, ev_newL, ev_newD, ev_join, ev_fld, exec_asg, exec_setI, exec_setF, exec_aug, exec_mut, exec_ifs, exec_ret, exec_retn, exec_brk, exec_cont, exec_exp, exec_rai, exec_fg, exec_pas, evT, evs, evTAnd, evTOr, evAnd, evOr, evP, evSrc, bo, bnd, frzAll, esT, esTs, esO, esc, escs, esS, escS, opd, opn, look, peek, ofO, cmpD, truthD, thenK, sweep, fresh, asgK, asgT, asgTs, put, binD, b1D, b2D, ixD, ixN, atI_0, atI_1, atI_2, atI_3, atI_4, eqv, eqvs, shp, shps, setK, setX, setOb, isVar, unset, cellOf, frz, valOf, forL, forK, isiD, items, seqs, lenD, fldD, isIns, isNon, f17, b17, i1, isI, ha, hq, bl]
  intro s
  induction s with
  | zero =>
    intro n x l k _ hx hl
    cases x with
    | int q => exact leaf 0 (n + 1) q l k
    | tup xs =>
      rw [cS 17 f17 rfl]
      have i1 := c22 (n + 1) (.tup xs) t rfl
      have hx : xs = [] := hx
      subst hx
      simp [runF, ss, es, ts, gs, execs, ev_var, ev_kon, ev_glb, ev_bin, ev_neg, ev_cmp, ev_chn, ev_and, ev_or, ev_not, ev_ife, ev_call, ev_callk, ev_mth, ev_mk, ev_b1, ev_b2, ev_isi, ev_ix, ev_sl, ev_lst, ev_tup, ev_newL, ev_newD, ev_join, ev_fld, exec_asg, exec_setI, exec_setF, exec_aug, exec_mut, exec_ifs, exec_ret, exec_retn, exec_brk, exec_cont, exec_exp, exec_rai, exec_fg, exec_pas, evT, evs, evTAnd, evTOr, evAnd, evOr, evP, evSrc, bo, bnd, frzAll, esT, esTs, esO, esc, escs, esS, escS, opd, opn, look, peek, ofO, cmpD, truthD, thenK, sweep, fresh, asgK, asgT, asgTs, put, binD, b1D, b2D, ixD, ixN, atI_0, atI_1, atI_2, atI_3, atI_4, eqv, eqvs, shp, shps, setK, setX, setOb, isVar, unset, cellOf, frz, valOf, forL, forK, isiD, items, seqs, lenD, fldD, isIns, isNon, f17, b17, i1, isI, bl]
    | scr _ => exact hx.elim
    | obj _ => exact hx.elim
    | non =>
      rw [cS 17 f17 rfl]
      have i1 := c22 (n + 1) .non t rfl
      simp [runF, ss, es, ts, gs, execs, ev_var, ev_kon, ev_glb, ev_bin, ev_neg, ev_cmp, ev_chn, ev_and, ev_or, ev_not, ev_ife, ev_call, ev_callk, ev_mth, ev_mk, ev_b1, ev_b2, ev_isi, ev_ix, ev_sl, ev_lst, ev_tup, ev_newL, ev_newD, ev_join, ev_fld, exec_asg, exec_setI, exec_setF, exec_aug, exec_mut, exec_ifs, exec_ret, exec_retn, exec_brk, exec_cont, exec_exp, exec_rai, exec_fg, exec_pas, evT, evs, evTAnd, evTOr, evAnd, evOr, evP, evSrc, bo, bnd, frzAll, esT, esTs, esO, esc, escs, esS, escS, opd, opn, look, peek, ofO, cmpD, truthD, thenK, sweep, fresh, asgK, asgT, asgTs, put, binD, b1D, b2D, ixD, ixN, atI_0, atI_1, atI_2, atI_3, atI_4, eqv, eqvs, shp, shps, setK, setX, setOb, isVar, unset, cellOf, frz, valOf, forL, forK, isiD, items, seqs, lenD, fldD, isIns, isNon, f17, b17, i1, isI, bl]
    | bl b =>
      rw [cS 17 f17 rfl]
      have i1 := c22 (n + 1) (.bl b) t rfl
      simp [runF, ss, es, ts, gs, execs, ev_var, ev_kon, ev_glb, ev_bin, ev_neg, ev_cmp, ev_chn, ev_and, ev_or, ev_not, ev_ife, ev_call, ev_callk, ev_mth, ev_mk, ev_b1, ev_b2, ev_isi, ev_ix, ev_sl, ev_lst, ev_tup, ev_newL, ev_newD, ev_join, ev_fld, exec_asg, exec_setI, exec_setF, exec_aug, exec_mut, exec_ifs, exec_ret, exec_retn, exec_brk, exec_cont, exec_exp, exec_rai, exec_fg, exec_pas, evT, evs, evTAnd, evTOr, evAnd, evOr, evP, evSrc, bo, bnd, frzAll, esT, esTs, esO, esc, escs, esS, escS, opd, opn, look, peek, ofO, cmpD, truthD, thenK, sweep, fresh, asgK, asgT, asgTs, put, binD, b1D, b2D, ixD, ixN, atI_0, atI_1, atI_2, atI_3, atI_4, eqv, eqvs, shp, shps, setK, setX, setOb, isVar, unset, cellOf, frz, valOf, forL, forK, isiD, items, seqs, lenD, fldD, isIns, isNon, f17, b17, i1, isI, bl]
    | str z =>
      rw [cS 17 f17 rfl]
      have i1 := c22 (n + 1) (.str z) t rfl
      simp [runF, ss, es, ts, gs, execs, ev_var, ev_kon, ev_glb, ev_bin, ev_neg, ev_cmp, ev_chn, ev_and, ev_or, ev_not, ev_ife, ev_call, ev_callk, ev_mth, ev_mk, ev_b1, ev_b2, ev_isi, ev_ix, ev_sl, ev_lst, ev_tup, ev_newL, ev_newD, ev_join, ev_fld, exec_asg, exec_setI, exec_setF, exec_aug, exec_mut, exec_ifs, exec_ret, exec_retn, exec_brk, exec_cont, exec_exp, exec_rai, exec_fg, exec_pas, evT, evs, evTAnd, evTOr, evAnd, evOr, evP, evSrc, bo, bnd, frzAll, esT, esTs, esO, esc, escs, esS, escS, opd, opn, look, peek, ofO, cmpD, truthD, thenK, sweep, fresh, asgK, asgT, asgTs, put, binD, b1D, b2D, ixD, ixN, atI_0, atI_1, atI_2, atI_3, atI_4, eqv, eqvs, shp, shps, setK, setX, setOb, isVar, unset, cellOf, frz, valOf, forL, forK, isiD, items, seqs, lenD, fldD, isIns, isNon, f17, b17, i1, isI, bl]
    | lst z =>
      rw [cS 17 f17 rfl]
      have i1 := c22 (n + 1) (.lst z) t rfl
      simp [runF, ss, es, ts, gs, execs, ev_var, ev_kon, ev_glb, ev_bin, ev_neg, ev_cmp, ev_chn, ev_and, ev_or, ev_not, ev_ife, ev_call, ev_callk, ev_mth, ev_mk, ev_b1, ev_b2, ev_isi, ev_ix, ev_sl, ev_lst, ev_tup, ev_newL, ev_newD, ev_join, ev_fld, exec_asg, exec_setI, exec_setF, exec_aug, exec_mut, exec_ifs, exec_ret, exec_retn, exec_brk, exec_cont, exec_exp, exec_rai, exec_fg, exec_pas, evT, evs, evTAnd, evTOr, evAnd, evOr, evP, evSrc, bo, bnd, frzAll, esT, esTs, esO, esc, escs, esS, escS, opd, opn, look, peek, ofO, cmpD, truthD, thenK, sweep, fresh, asgK, asgT, asgTs, put, binD, b1D, b2D, ixD, ixN, atI_0, atI_1, atI_2, atI_3, atI_4, eqv, eqvs, shp, shps, setK, setX, setOb, isVar, unset, cellOf, frz, valOf, forL, forK, isiD, items, seqs, lenD, fldD, isIns, isNon, f17, b17, i1, isI, bl]
  | succ s ih =>
    intro n x l k hs hx hl
    have eN : n + (s + 1) + 3 = (n + s + 3) + 1 := by omega
    have i1 := c22 (n + s + 2) x t hx.noObj
    have i1 : call prg (n + s + 3) 22 [x] t = .ok (.bl (isI x)) t := i1
    cases x with
    | int q =>
      have := leaf (s + 1) (n + s + 2) q l k
      exact this
    | tup xs =>
      rw [eN, cS 17 f17 rfl]
      have hx : ∀ x ∈ xs, Pl s x := hx
      by_cases h3 : xs.length = 3
      · match xs, h3, hx with
        | [x0, x1, x2], _, hx =>
          have p0 := hx x0 (by simp)
          have p1 := hx x1 (by simp)
          have p2 := hx x2 (by simp)
          have i2 := c21 (n + s + 1) x0 0 ((pl : Int) - 1) t p0.noObj
          have i2 : call prg (n + s + 3) 21 [x0, .int 0, .int ((pl : Int) - 1)] t = _ := i2
          cases x0 with
          | int p =>
            by_cases hp : 0 ≤ p ∧ p ≤ (pl : Int) - 1
            · obtain ⟨m, rfl⟩ := Int.eq_ofNat_of_zero_le hp.1
              have hm : m < pl := by omega
              have q1 := c23 (n + s + 2) g d ws pl m l t hw hm hl hg
              have q1 : call prg (n + s + 3) 23 [.obj g, .tup (LN l), .int m] t = _ := q1
              have r1 := ih n x1 (side ws m 48 l) (k - 1) (by omega) p1 (side_lt hl)
              have r2 := ih n x2 (side ws m 49 l) (k - 1) (by omega) p2 (side_lt hl)
              have hk1 : (m : Int) ≤ (pl : Int) - 1 := hp.2
              have hb : bl ws pl (s + 1 + 1) (.tup [.int m, x1, x2]) l k = if 0 ≤ (m : Int) ∧ (m : Int) < pl ∧ k ≠ 0 then (match bl ws pl (s + 1) x1 (side ws m 48 l) (k - 1), bl ws pl (s + 1) x2 (side ws m 49 l) (k - 1) with
                | some f, some g => some (f ++ g)
                | _, _ => none) else none := rfl
              by_cases hk : k = 0
              · subst hk
                simp [runF, ss, es, ts, gs, execs, ev_var, ev_kon, ev_glb, ev_bin, ev_neg, ev_cmp, ev_chn, ev_and, ev_or, ev_not, ev_ife, ev_call, ev_callk, ev_mth, ev_mk, ev_b1, ev_b2, ev_isi, ev_ix, ev_sl, ev_lst, ev_tup, ev_newL, ev_newD, ev_join, ev_fld, exec_asg, exec_setI, exec_setF, exec_aug, exec_mut, exec_ifs, exec_ret, exec_retn, exec_brk, exec_cont, exec_exp, exec_rai, exec_fg, exec_pas, evT, evs, evTAnd, evTOr, evAnd, evOr, evP, evSrc, bo, bnd, frzAll, esT, esTs, esO, esc, escs, esS, escS, opd, opn, look, peek, ofO, cmpD, truthD, thenK, sweep, fresh, asgK, asgT, asgTs, put, binD, b1D, b2D, ixD, ixN, atI_0, atI_1, atI_2, atI_3, atI_4, eqv, eqvs, shp, shps, setK, setX, setOb, isVar, unset, cellOf, frz, valOf, forL, forK, isiD, items, seqs, lenD, fldD, isIns, isNon, f17, b17, i1, i2, isI, List.lookup, hg', h1, h2, hk1, hb]
              · cases e1 : bl ws pl (s + 1) x1 (side ws m 48 l) (k - 1) with
                | none =>
                  cases e2 : bl ws pl (s + 1) x2 (side ws m 49 l) (k - 1) with
                  | none => simp [runF, ss, es, ts, gs, execs, ev_var, ev_kon, ev_glb, ev_bin, ev_neg, ev_cmp, ev_chn, ev_and, ev_or, ev_not, ev_ife, ev_call, ev_callk, ev_mth, ev_mk, ev_b1, ev_b2, ev_isi, ev_ix, ev_sl, ev_lst, ev_tup, ev_newL, ev_newD, ev_join, ev_fld, exec_asg, exec_setI, exec_setF, exec_aug, exec_mut, exec_ifs, exec_ret, exec_retn, exec_brk, exec_cont, exec_exp, exec_rai, exec_fg, exec_pas, evT, evs, evTAnd, evTOr, evAnd, evOr, evP, evSrc, bo, bnd, frzAll, esT, esTs, esO, esc, escs, esS, escS, opd, opn, look, peek, ofO, cmpD, truthD, thenK, sweep, fresh, asgK, asgT, asgTs, put, binD, b1D, b2D, ixD, ixN, atI_0, atI_1, atI_2, atI_3, atI_4, eqv, eqvs, shp, shps, setK, setX, setOb, isVar, unset, cellOf, frz, valOf, forL, forK, isiD, items, seqs, lenD, fldD, isIns, isNon, f17, b17, i1, i2, isI, List.lookup, hg', h1, h2, hk1, hk, q1, r1, r2, e1, e2, hb, hm]
                  | some L2 => simp [runF, ss, es, ts, gs, execs, ev_var, ev_kon, ev_glb, ev_bin, ev_neg, ev_cmp, ev_chn, ev_and, ev_or, ev_not, ev_ife, ev_call, ev_callk, ev_mth, ev_mk, ev_b1, ev_b2, ev_isi, ev_ix, ev_sl, ev_lst, ev_tup, ev_newL, ev_newD, ev_join, ev_fld, exec_asg, exec_setI, exec_setF, exec_aug, exec_mut, exec_ifs, exec_ret, exec_retn, exec_brk, exec_cont, exec_exp, exec_rai, exec_fg, exec_pas, evT, evs, evTAnd, evTOr, evAnd, evOr, evP, evSrc, bo, bnd, frzAll, esT, esTs, esO, esc, escs, esS, escS, opd, opn, look, peek, ofO, cmpD, truthD, thenK, sweep, fresh, asgK, asgT, asgTs, put, binD, b1D, b2D, ixD, ixN, atI_0, atI_1, atI_2, atI_3, atI_4, eqv, eqvs, shp, shps, setK, setX, setOb, isVar, unset, cellOf, frz, valOf, forL, forK, isiD, items, seqs, lenD, fldD, isIns, isNon, f17, b17, i1, i2, isI, List.lookup, hg', h1, h2, hk1, hk, q1, r1, r2, e1, e2, hb, hm]
                | some L1 =>
                  cases e2 : bl ws pl (s + 1) x2 (side ws m 49 l) (k - 1) with
                  | none => simp [runF, ss, es, ts, gs, execs, ev_var, ev_kon, ev_glb, ev_bin, ev_neg, ev_cmp, ev_chn, ev_and, ev_or, ev_not, ev_ife, ev_call, ev_callk, ev_mth, ev_mk, ev_b1, ev_b2, ev_isi, ev_ix, ev_sl, ev_lst, ev_tup, ev_newL, ev_newD, ev_join, ev_fld, exec_asg, exec_setI, exec_setF, exec_aug, exec_mut, exec_ifs, exec_ret, exec_retn, exec_brk, exec_cont, exec_exp, exec_rai, exec_fg, exec_pas, evT, evs, evTAnd, evTOr, evAnd, evOr, evP, evSrc, bo, bnd, frzAll, esT, esTs, esO, esc, escs, esS, escS, opd, opn, look, peek, ofO, cmpD, truthD, thenK, sweep, fresh, asgK, asgT, asgTs, put, binD, b1D, b2D, ixD, ixN, atI_0, atI_1, atI_2, atI_3, atI_4, eqv, eqvs, shp, shps, setK, setX, setOb, isVar, unset, cellOf, frz, valOf, forL, forK, isiD, items, seqs, lenD, fldD, isIns, isNon, f17, b17, i1, i2, isI, List.lookup, hg', h1, h2, hk1, hk, q1, r1, r2, e1, e2, hb, hm]
                  | some L2 =>
                    have hz' : L1.length + L2.length ≤ sz := by
                      have g1 := bl_len ws pl _ _ _ _ _ e1
                      have g2 := bl_len ws pl _ _ _ _ _ e2
                      have g3 : (2 : Nat) ^ (s + 1) ≤ 2 ^ 20 := Nat.pow_le_pow_right (by omega) (by omega)
                      have g4 : (2 : Nat) ^ 20 = 1048576 := rfl
                      show L1.length + L2.length ≤ 16777216
                      omega
                    simp [runF, ss, es, ts, gs, execs, ev_var, ev_kon, ev_glb, ev_bin, ev_neg, ev_cmp, ev_chn, ev_and, ev_or, ev_not, ev_ife, ev_call, ev_callk, ev_mth, ev_mk, ev_b1, ev_b2, ev_isi, ev_ix, ev_sl, ev_lst, ev_tup, ev_newL, ev_newD, ev_join, ev_fld, exec_asg, exec_setI, exec_setF, exec_aug, exec_mut, exec_ifs, exec_ret, exec_retn, exec_brk, exec_cont, exec_exp, exec_rai, exec_fg, exec_pas, evT, evs, evTAnd, evTOr, evAnd, evOr, evP, evSrc, bo, bnd, frzAll, esT, esTs, esO, esc, escs, esS, escS, opd, opn, look, peek, ofO, cmpD, truthD, thenK, sweep, fresh, asgK, asgT, asgTs, put, binD, b1D, b2D, ixD, ixN, atI_0, atI_1, atI_2, atI_3, atI_4, eqv, eqvs, shp, shps, setK, setX, setOb, isVar, unset, cellOf, frz, valOf, forL, forK, isiD, items, seqs, lenD, fldD, isIns, isNon, f17, b17, i1, i2, isI, List.lookup, hg', h1, h2, hk1, hk, q1, r1, r2, e1, e2, hb, hm, hz']
            · have hp' : ¬ (0 ≤ p ∧ p < pl ∧ k ≠ 0) := fun z => hp ⟨z.1, by omega⟩
              have hb : bl ws pl (s + 1 + 1) (.tup [.int p, x1, x2]) l k = none := by
                show (if 0 ≤ p ∧ p < (pl : Int) ∧ k ≠ 0 then _ else none) = none
                rw [if_neg hp']
              simp [runF, ss, es, ts, gs, execs, ev_var, ev_kon, ev_glb, ev_bin, ev_neg, ev_cmp, ev_chn, ev_and, ev_or, ev_not, ev_ife, ev_call, ev_callk, ev_mth, ev_mk, ev_b1, ev_b2, ev_isi, ev_ix, ev_sl, ev_lst, ev_tup, ev_newL, ev_newD, ev_join, ev_fld, exec_asg, exec_setI, exec_setF, exec_aug, exec_mut, exec_ifs, exec_ret, exec_retn, exec_brk, exec_cont, exec_exp, exec_rai, exec_fg, exec_pas, evT, evs, evTAnd, evTOr, evAnd, evOr, evP, evSrc, bo, bnd, frzAll, esT, esTs, esO, esc, escs, esS, escS, opd, opn, look, peek, ofO, cmpD, truthD, thenK, sweep, fresh, asgK, asgT, asgTs, put, binD, b1D, b2D, ixD, ixN, atI_0, atI_1, atI_2, atI_3, atI_4, eqv, eqvs, shp, shps, setK, setX, setOb, isVar, unset, cellOf, frz, valOf, forL, forK, isiD, items, seqs, lenD, fldD, isIns, isNon, f17, b17, i1, i2, isI, List.lookup, hg', h1, h2, hp, hb]
          | obj _ => cases s <;> exact p0.elim
          | scr _ => cases s <;> exact p0.elim
          | _ => simp [runF, ss, es, ts, gs, execs, ev_var, ev_kon, ev_glb, ev_bin, ev_neg, ev_cmp, ev_chn, ev_and, ev_or, ev_not, ev_ife, ev_call, ev_callk, ev_mth, ev_mk, ev_b1, ev_b2, ev_isi, ev_ix, ev_sl, ev_lst, ev_tup, ev_newL, ev_newD, ev_join, ev_fld, exec_asg, exec_setI, exec_setF, exec_aug, exec_mut, exec_ifs, exec_ret, exec_retn, exec_brk, exec_cont, exec_exp, exec_rai, exec_fg, exec_pas, evT, evs, evTAnd, evTOr, evAnd, evOr, evP, evSrc, bo, bnd, frzAll, esT, esTs, esO, esc, escs, esS, escS, opd, opn, look, peek, ofO, cmpD, truthD, thenK, sweep, fresh, asgK, asgT, asgTs, put, binD, b1D, b2D, ixD, ixN, atI_0, atI_1, atI_2, atI_3, atI_4, eqv, eqvs, shp, shps, setK, setX, setOb, isVar, unset, cellOf, frz, valOf, forL, forK, isiD, items, seqs, lenD, fldD, isIns, isNon, f17, b17, i1, i2, isI, List.lookup, hg', h1, h2, bl]
      · have h3' : ¬ (xs.length : Int) = 3 := by omega
        have hwk : bl ws pl (s + 1 + 1) (.tup xs) l k = none := by
          match xs, h3 with
          | [], _ => rfl
          | [_], _ => simp [bl]
          | [_, _], _ => simp [bl]
          | [_, _, _], h => exact absurd rfl h
          | _ :: _ :: _ :: _ :: _, _ => simp [bl]
        simp [runF, ss, es, ts, gs, execs, ev_var, ev_kon, ev_glb, ev_bin, ev_neg, ev_cmp, ev_chn, ev_and, ev_or, ev_not, ev_ife, ev_call, ev_callk, ev_mth, ev_mk, ev_b1, ev_b2, ev_isi, ev_ix, ev_sl, ev_lst, ev_tup, ev_newL, ev_newD, ev_join, ev_fld, exec_asg, exec_setI, exec_setF, exec_aug, exec_mut, exec_ifs, exec_ret, exec_retn, exec_brk, exec_cont, exec_exp, exec_rai, exec_fg, exec_pas, evT, evs, evTAnd, evTOr, evAnd, evOr, evP, evSrc, bo, bnd, frzAll, esT, esTs, esO, esc, escs, esS, escS, opd, opn, look, peek, ofO, cmpD, truthD, thenK, sweep, fresh, asgK, asgT, asgTs, put, binD, b1D, b2D, ixD, ixN, atI_0, atI_1, atI_2, atI_3, atI_4, eqv, eqvs, shp, shps, setK, setX, setOb, isVar, unset, cellOf, frz, valOf, forL, forK, isiD, items, seqs, lenD, fldD, isIns, isNon, f17, b17, i1, isI, h3', hwk]
    | scr _ => exact hx.elim
    | obj _ => exact hx.elim
    | _ =>
      rw [eN, cS 17 f17 rfl]
      simp [runF, ss, es, ts, gs, execs, ev_var, ev_kon, ev_glb, ev_bin, ev_neg, ev_cmp, ev_chn, ev_and, ev_or, ev_not, ev_ife, ev_call, ev_callk, ev_mth, ev_mk, ev_b1, ev_b2, ev_isi, ev_ix, ev_sl, ev_lst, ev_tup, ev_newL, ev_newD, ev_join, ev_fld, exec_asg, exec_setI, exec_setF, exec_aug, exec_mut, exec_ifs, exec_ret, exec_retn, exec_brk, exec_cont, exec_exp, exec_rai, exec_fg, exec_pas, evT, evs, evTAnd, evTOr, evAnd, evOr, evP, evSrc, bo, bnd, frzAll, esT, esTs, esO, esc, escs, esS, escS, opd, opn, look, peek, ofO, cmpD, truthD, thenK, sweep, fresh, asgK, asgT, asgTs, put, binD, b1D, b2D, ixD, ixN, atI_0, atI_1, atI_2, atI_3, atI_4, eqv, eqvs, shp, shps, setK, setX, setOb, isVar, unset, cellOf, frz, valOf, forL, forK, isiD, items, seqs, lenD, fldD, isIns, isNon, f17, b17, i1, isI, bl]
end K94
set_option maxRecDepth 100000
set_option linter.all false
set_option autoImplicit false
namespace K94
open Pd
theorem wk_nonneg (ws : List (List Nat)) (pl : Nat) : ∀ (s : Nat) (x : D) (l : List Nat), 0 ≤ wk ws pl s x l := by
  intro s
  induction s with
  | zero => intro x l; show (0 : Int) ≤ 999; omega
  | succ s ih =>
    intro x l
    unfold wk
    split
    · split <;> omega
    · rename_i p a b
      split
      · split
        · omega
        · have h1 := ih a (side ws p.toNat 48 l)
          have h2 := ih b (side ws p.toNat 49 l)
          split <;> omega
      · omega
    · omega
theorem bl_sub (ws : List (List Nat)) (pl : Nat) : ∀ (s : Nat) (x : D) (l : List Nat) (k : Int) (L : List Nat), bl ws pl s x l k = some L → L ≠ [] ∧ ∀ q ∈ L, q ∈ l := by
  intro s
  induction s with
  | zero => intro x l k L h; cases h
  | succ s ih =>
    intro x l k L h
    unfold bl at h
    split at h
    · split at h
      · rename_i hq
        cases h
        exact ⟨by simp, fun q hq' => by rw [List.mem_singleton.mp hq']; exact hq.2⟩
      · cases h
    · split at h
      · split at h
        · rename_i f g e1 e2
          cases h
          have h1 := ih _ _ _ _ e1
          have h2 := ih _ _ _ _ e2
          refine ⟨fun z => h1.1 (List.append_eq_nil_iff.mp z).1, fun q hq => ?_⟩
          rcases List.mem_append.mp hq with hq | hq
          · exact (List.mem_filter.mp (h1.2 q hq)).1
          · exact (List.mem_filter.mp (h2.2 q hq)).1
        · cases h
      · cases h
    · cases h
theorem bit_or {ws : List (List Nat)} {pl p q : Nat} (hw : Wd ws pl) (hq : q < ws.length) (hp : p < pl) : bit ws p q = 48 ∨ bit ws p q = 49 := by
  refine hw.bit _ (wAt_mem hq) _ ?_
  unfold bit cAt
  have hlt : p < (wAt ws q).length := by rw [hw.len _ (wAt_mem hq)]; exact hp
  rw [List.getElem?_eq_getElem hlt]
  exact List.getElem_mem hlt
theorem side_perm {ws : List (List Nat)} {pl p : Nat} {l : List Nat} (hw : Wd ws pl) (hp : p < pl) (hl : ∀ q ∈ l, q < ws.length) : (side ws p 48 l ++ side ws p 49 l).Perm l := by
  have e : side ws p 49 l = l.filter fun q => !(bit ws p q == 48) := by
    unfold side
    apply List.filter_congr
    intro q hq
    rcases bit_or hw (hl q hq) hp with h | h <;> simp [h]
  rw [e]
  exact List.filter_append_perm _ l
theorem perm_sides {ws : List (List Nat)} {pl p : Nat} {l f g : List Nat} (hw : Wd ws pl) (hp : p < pl) (hl : ∀ q ∈ l, q < ws.length) (hf : ∀ q ∈ f, q ∈ side ws p 48 l) (hg : ∀ q ∈ g, q ∈ side ws p 49 l) :
    (f ++ g).Perm l ↔ f.Perm (side ws p 48 l) ∧ g.Perm (side ws p 49 l) := by
  have f48 : ∀ q ∈ f, bit ws p q = 48 := fun q hq => by have := (List.mem_filter.mp (hf q hq)).2; simpa using this
  have g49 : ∀ q ∈ g, bit ws p q = 49 := fun q hq => by have := (List.mem_filter.mp (hg q hq)).2; simpa using this
  constructor
  · intro h
    have h1 := h.filter (fun q => bit ws p q == 48)
    have h2 := h.filter (fun q => bit ws p q == 49)
    rw [List.filter_append] at h1 h2
    rw [List.filter_eq_self.mpr (fun q hq => by simp [f48 q hq]), List.filter_eq_nil_iff.mpr (fun q hq => by simp [g49 q hq]), List.append_nil] at h1
    rw [List.filter_eq_nil_iff.mpr (fun q hq => by simp [f48 q hq]), List.filter_eq_self.mpr (fun q hq => by simp [g49 q hq]), List.nil_append] at h2
    exact ⟨h1, h2⟩
  · rintro ⟨h1, h2⟩
    exact (h1.append h2).trans (side_perm hw hp hl)
theorem same (ws : List (List Nat)) (pl : Nat) (hw : Wd ws pl) : ∀ (s : Nat) (x : D) (l : List Nat) (k : Int), (∀ q ∈ l, q < ws.length) → 0 ≤ k → k ≤ 100 → ((∃ L, bl ws pl s x l k = some L ∧ L.Perm l) ↔ wk ws pl s x l ≤ k) := by
  intro s
  induction s with
  | zero =>
    intro x l k _ h0 h1
    constructor
    · rintro ⟨L, h, _⟩; cases h
    · intro h; exfalso; have : (999 : Int) ≤ k := h; omega
  | succ s ih =>
    intro x l k hl h0 h1
    have no : bl ws pl (s + 1) x l k = none → wk ws pl (s + 1) x l = 999 → ((∃ L, bl ws pl (s + 1) x l k = some L ∧ L.Perm l) ↔ wk ws pl (s + 1) x l ≤ k) := fun e1 e2 => by
      rw [e1, e2]
      exact ⟨fun ⟨L, h, _⟩ => (by cases h), fun h => by omega⟩
    have int : ∀ q : Int, x = .int q → ((∃ L, bl ws pl (s + 1) x l k = some L ∧ L.Perm l) ↔ wk ws pl (s + 1) x l ≤ k) := fun q hx => by
      subst hx
      have e1 : bl ws pl (s + 1) (.int q) l k = if 0 ≤ q ∧ q.toNat ∈ l then some [q.toNat] else none := rfl
      have e2 : wk ws pl (s + 1) (.int q) l = if isOne l q then 0 else 999 := rfl
      rw [e1, e2]
      constructor
      · rintro ⟨L, h, hp⟩
        split at h
        · rename_i hq
          cases h
          have hl1 : l = [q.toNat] := List.perm_singleton.mp hp.symm
          have : isOne l q = true := by
            rw [hl1]
            show decide (((q.toNat : Nat) : Int) = q) = true
            simp; omega
          rw [if_pos this]; omega
        · cases h
      · intro h
        by_cases ho : isOne l q = true
        · cases l with
          | nil => cases ho
          | cons a r =>
            cases r with
            | cons _ _ => cases ho
            | nil =>
              have ha : (a : Int) = q := of_decide_eq_true ho
              have hq : q.toNat = a := by omega
              refine ⟨[a], ?_, List.Perm.refl _⟩
              rw [if_pos ⟨by omega, by rw [hq]; exact List.mem_singleton_self a⟩, hq]
        · rw [if_neg ho] at h; omega
    have node : ∀ (p : Int) (a b : D), x = .tup [.int p, a, b] → ((∃ L, bl ws pl (s + 1) x l k = some L ∧ L.Perm l) ↔ wk ws pl (s + 1) x l ≤ k) := fun p a b hx => by
      subst hx
      have e1 : bl ws pl (s + 1) (.tup [.int p, a, b]) l k = if 0 ≤ p ∧ p < pl ∧ k ≠ 0 then (match bl ws pl s a (side ws p.toNat 48 l) (k - 1), bl ws pl s b (side ws p.toNat 49 l) (k - 1) with
        | some f, some g => some (f ++ g)
        | _, _ => none) else none := rfl
      have e2 : wk ws pl (s + 1) (.tup [.int p, a, b]) l = if 0 ≤ p ∧ p < pl then (if (side ws p.toNat 48 l).isEmpty || (side ws p.toNat 49 l).isEmpty then 999 else
        1 + (if wk ws pl s b (side ws p.toNat 49 l) > wk ws pl s a (side ws p.toNat 48 l) then wk ws pl s b (side ws p.toNat 49 l) else wk ws pl s a (side ws p.toNat 48 l))) else 999 := rfl
      by_cases hp : 0 ≤ p ∧ p < pl
      · have hpn : p.toNat < pl := by omega
        have n1 := wk_nonneg ws pl s a (side ws p.toNat 48 l)
        have n2 := wk_nonneg ws pl s b (side ws p.toNat 49 l)
        rw [e1, e2, if_pos hp]
        by_cases hk : k = 0
        · rw [if_neg (fun z => z.2.2 hk)]
          constructor
          · rintro ⟨L, h, _⟩; cases h
          · intro h
            exfalso
            split at h
            · omega
            · split at h <;> omega
        · rw [if_pos ⟨hp.1, hp.2, hk⟩]
          have i1 := ih a (side ws p.toNat 48 l) (k - 1) (side_lt hl) (by omega) (by omega)
          have i2 := ih b (side ws p.toNat 49 l) (k - 1) (side_lt hl) (by omega) (by omega)
          constructor
          · rintro ⟨L, h, hL⟩
            split at h
            · rename_i f g ef eg
              cases h
              have s1 := bl_sub ws pl _ _ _ _ _ ef
              have s2 := bl_sub ws pl _ _ _ _ _ eg
              obtain ⟨q1, q2⟩ := (perm_sides hw hpn hl s1.2 s2.2).mp hL
              have w1 := i1.mp ⟨f, ef, q1⟩
              have w2 := i2.mp ⟨g, eg, q2⟩
              have t1 : (side ws p.toNat 48 l).isEmpty = false := by
                cases hs : side ws p.toNat 48 l with
                | nil => rw [hs] at q1; exact absurd (List.perm_nil.mp q1) s1.1
                | cons _ _ => rfl
              have t2 : (side ws p.toNat 49 l).isEmpty = false := by
                cases hs : side ws p.toNat 49 l with
                | nil => rw [hs] at q2; exact absurd (List.perm_nil.mp q2) s2.1
                | cons _ _ => rfl
              rw [t1, t2]
              simp only [Bool.or_self, Bool.false_eq_true, if_false]
              split <;> omega
            · cases h
          · intro h
            split at h
            · omega
            · have w : wk ws pl s a (side ws p.toNat 48 l) ≤ k - 1 ∧ wk ws pl s b (side ws p.toNat 49 l) ≤ k - 1 := by
                split at h <;> constructor <;> omega
              obtain ⟨f, ef, q1⟩ := i1.mpr w.1
              obtain ⟨g, eg, q2⟩ := i2.mpr w.2
              have s1 := bl_sub ws pl _ _ _ _ _ ef
              have s2 := bl_sub ws pl _ _ _ _ _ eg
              exact ⟨f ++ g, by rw [ef, eg], (perm_sides hw hpn hl s1.2 s2.2).mpr ⟨q1, q2⟩⟩
      · refine no ?_ ?_
        · rw [e1, if_neg fun z => hp ⟨z.1, z.2.1⟩]
        · rw [e2, if_neg hp]
    cases x with
    | int q => exact int q rfl
    | tup xs =>
      match xs with
      | [.int p, a, b] => exact node p a b rfl
      | [] => exact no rfl rfl
      | [_] => exact no (by simp [bl]) (by simp [wk])
      | [_, _] => exact no (by simp [bl]) (by simp [wk])
      | _ :: _ :: _ :: _ :: _ => exact no (by simp [bl]) (by simp [wk])
      | [.non, _, _] => exact no rfl rfl
      | [.bl _, _, _] => exact no rfl rfl
      | [.str _, _, _] => exact no rfl rfl
      | [.tup _, _, _] => exact no rfl rfl
      | [.lst _, _, _] => exact no rfl rfl
      | [.scr _, _, _] => exact no rfl rfl
      | [.obj _, _, _] => exact no rfl rfl
    | _ => exact no rfl rfl
end K94
set_option maxRecDepth 100000
set_option linter.all false
set_option autoImplicit false
namespace K94
open Pd
theorem compL_map (f : D → T → R (Option D)) (h : D → D) (t : T) : ∀ xs : List D, (∀ x ∈ xs, f x t = .ok (some (h x)) t) → compL f xs t = .ok (xs.map h) t
  | [], _ => rfl
  | x :: xs, e => by
    have ih := compL_map f h t xs fun y hy => e y (List.mem_cons_of_mem _ hy)
    simp only [compL, e x List.mem_cons_self, bnd_ok, ih, List.map_cons]
theorem ev_comp_map {cl : Calls} {s : Src} {g : Tg} {own : List Nat} {c : Tt} {e : E} {ρ : Env} {t t' : T} {xs : List D} (h : D → D) (h1 : evSrc cl s true ρ t = .ok xs t') (h2 : ∀ x ∈ xs, turnC cl g own c e ρ x t' = .ok (some (h x)) t') : ev cl (.comp s g own c e) ρ t = .ok (.lst (xs.map h)) t' := by
  rw [ev_comp, h1]
  simp only [bnd_ok]
  rw [compL_map _ h t' xs h2]
  rfl
theorem boolsOf_true {α : Type} (l : List α) : boolsOf (l.map fun _ => D.bl true) = some (l.map fun _ => true) := by
  induction l with
  | nil => rfl
  | cons a l ih => rw [List.map_cons, boolsOf, ih]; rfl
theorem all_true {α : Type} (l : List α) : (l.map fun _ => true).all id = true := by
  induction l with
  | nil => rfl
  | cons a l ih => rw [List.map_cons, List.all_cons, ih]; rfl
theorem strsOf_map (ws : List (List Nat)) : strsOf (ws.map .str) = some ws := by
  induction ws with
  | nil => rfl
  | cons a l ih => rw [List.map_cons, strsOf, ih]; rfl
theorem intsOf_map (ns : List Int) : intsOf (ns.map .int) = some ns := by
  induction ns with
  | nil => rfl
  | cons a l ih => rw [List.map_cons, intsOf, ih]; rfl
theorem once_nodup : ∀ (ws σ : List (List Nat)), (σ ++ ws).Nodup → ws.foldl onceS σ = σ ++ ws
  | [], σ, _ => by simp
  | w :: ws, σ, h => by
    have hn : σ.any (fun x => x == w) = false := by
      rw [List.any_eq_false]
      intro x hx e
      have e : x = w := by simpa using e
      subst e
      exact (List.nodup_append.mp h).2.2 x hx x List.mem_cons_self rfl
    rw [List.foldl_cons]
    have e : onceS σ w = σ ++ [w] := by unfold onceS; rw [hn]; rfl
    rw [e, once_nodup ws (σ ++ [w]) (by rw [List.append_assoc]; exact h), List.append_assoc]
    rfl
/-- rows as a tuple or a list -/
def mkR (κ : Bool) (ws : List (List Nat)) : D := if κ then .tup (ws.map .str) else .lst (ws.map .str)
theorem ev_comp_allT {cl : Calls} {s : Src} {g : Tg} {own : List Nat} {c : Tt} {e : E} {ρ : Env} {t t' : T} {xs : List D} (h1 : evSrc cl s true ρ t = .ok xs t') (h2 : ∀ x ∈ xs, turnC cl g own c e ρ x t' = .ok (some (.bl true)) t') :
    ∃ zs bs, ev cl (.comp s g own c e) ρ t = .ok (.lst zs) t' ∧ boolsOf zs = some bs ∧ bs.all id = true :=
  ⟨_, _, ev_comp_map (fun _ => D.bl true) h1 h2, boolsOf_true xs, all_true xs⟩
theorem c27 (n : Nat) (w : List Nat) (t : T) (h : ∀ x ∈ w, x = 48 ∨ x = 49) : call prg (n + 1) 27 [.str w] t = .ok (.bl true) t := by
  rw [cS 27 f27 rfl]
  obtain ⟨zs, bs, e, e2, e3⟩ := ev_comp_allT (cl := cls' n) (s := .seq (.var 0)) (g := .nm 1) (own := [1]) (c := .yes) (e := .cmp .isin (.var 1) (.kon (.str [48, 49]))) (ρ := [.val (.str w), .un]) (t := t) (t' := t) (xs := w.map fun x => D.str [x]) (by simp [runF, ss, es, ts, gs, execs, ev_var, ev_kon, ev_glb, ev_bin, ev_neg, ev_cmp, ev_chn, ev_and, ev_or, ev_not, ev_ife, ev_call, ev_callk, ev_mth, ev_mk, ev_b1, ev_b2, ev_isi, ev_ix, ev_sl, ev_lst, ev_tup, ev_newL, ev_newD, ev_join, ev_fld, exec_asg, exec_setI, exec_setF, exec_aug, exec_mut, exec_ifs, exec_ret, exec_retn, exec_brk, exec_cont, exec_exp, exec_rai, exec_fg, exec_pas, evT, evs, evTAnd, evTOr, evAnd, evOr, evP, evSrc, bo, bnd, frzAll, esT, esTs, esO, esc, escs, esS, escS, opd, opn, look, peek, ofO, cmpD, truthD, thenK, sweep, fresh, asgK, asgT, asgTs, put, binD, b1D, b2D, ixD, ixN, atI_0, atI_1, atI_2, atI_3, atI_4, eqv, eqvs, shp, shps, setK, setX, setOb, isVar, unset, cellOf, frz, valOf, forL, forK, isiD, items, seqs, lenD, fldD, isIns, isNon]) (fun x hx => by
    obtain ⟨y, hy, rfl⟩ := List.mem_map.mp hx
    have := h y hy
    simp [turnC, runF, ss, es, ts, gs, execs, ev_var, ev_kon, ev_glb, ev_bin, ev_neg, ev_cmp, ev_chn, ev_and, ev_or, ev_not, ev_ife, ev_call, ev_callk, ev_mth, ev_mk, ev_b1, ev_b2, ev_isi, ev_ix, ev_sl, ev_lst, ev_tup, ev_newL, ev_newD, ev_join, ev_fld, exec_asg, exec_setI, exec_setF, exec_aug, exec_mut, exec_ifs, exec_ret, exec_retn, exec_brk, exec_cont, exec_exp, exec_rai, exec_fg, exec_pas, evT, evs, evTAnd, evTOr, evAnd, evOr, evP, evSrc, bo, bnd, frzAll, esT, esTs, esO, esc, escs, esS, escS, opd, opn, look, peek, ofO, cmpD, truthD, thenK, sweep, fresh, asgK, asgT, asgTs, put, binD, b1D, b2D, ixD, ixN, atI_0, atI_1, atI_2, atI_3, atI_4, eqv, eqvs, shp, shps, setK, setX, setOb, isVar, unset, cellOf, frz, valOf, forL, forK, isiD, items, seqs, lenD, fldD, isIns, isNon, inD, this])
  simp [runF, ss, es, ts, gs, execs, ev_var, ev_kon, ev_glb, ev_bin, ev_neg, ev_cmp, ev_chn, ev_and, ev_or, ev_not, ev_ife, ev_call, ev_callk, ev_mth, ev_mk, ev_b1, ev_b2, ev_isi, ev_ix, ev_sl, ev_lst, ev_tup, ev_newL, ev_newD, ev_join, ev_fld, exec_asg, exec_setI, exec_setF, exec_aug, exec_mut, exec_ifs, exec_ret, exec_retn, exec_brk, exec_cont, exec_exp, exec_rai, exec_fg, exec_pas, evT, evs, evTAnd, evTOr, evAnd, evOr, evP, evSrc, bo, bnd, frzAll, esT, esTs, esO, esc, escs, esS, escS, opd, opn, look, peek, ofO, cmpD, truthD, thenK, sweep, fresh, asgK, asgT, asgTs, put, binD, b1D, b2D, ixD, ixN, atI_0, atI_1, atI_2, atI_3, atI_4, eqv, eqvs, shp, shps, setK, setX, setOb, isVar, unset, cellOf, frz, valOf, forL, forK, isiD, items, seqs, lenD, fldD, isIns, isNon, f27, b27, e, e2, e3]
theorem c26 (n : Nat) (κ : Bool) (ws : List (List Nat)) (t : T) : call prg (n + 1) 26 [mkR κ ws] t = .ok (.bl true) t := by
  rw [cS 26 f26 rfl]
  cases κ <;> simp [runF, ss, es, ts, gs, execs, ev_var, ev_kon, ev_glb, ev_bin, ev_neg, ev_cmp, ev_chn, ev_and, ev_or, ev_not, ev_ife, ev_call, ev_callk, ev_mth, ev_mk, ev_b1, ev_b2, ev_isi, ev_ix, ev_sl, ev_lst, ev_tup, ev_newL, ev_newD, ev_join, ev_fld, exec_asg, exec_setI, exec_setF, exec_aug, exec_mut, exec_ifs, exec_ret, exec_retn, exec_brk, exec_cont, exec_exp, exec_rai, exec_fg, exec_pas, evT, evs, evTAnd, evTOr, evAnd, evOr, evP, evSrc, bo, bnd, frzAll, esT, esTs, esO, esc, escs, esS, escS, opd, opn, look, peek, ofO, cmpD, truthD, thenK, sweep, fresh, asgK, asgT, asgTs, put, binD, b1D, b2D, ixD, ixN, atI_0, atI_1, atI_2, atI_3, atI_4, eqv, eqvs, shp, shps, setK, setX, setOb, isVar, unset, cellOf, frz, valOf, forL, forK, isiD, items, seqs, lenD, fldD, isIns, isNon, f26, b26, mkR]
theorem c25 (n pl : Nat) (κ : Bool) (ws : List (List Nat)) (t : T) (hw : Wd ws pl) (h0 : 0 < ws.length) : call prg (n + 2) 25 [mkR κ ws] t = .ok (.bl true) t := by
  rw [cS 25 f25 rfl]
  have i1 := c26 n κ ws t
  have h1 : atI (ws.map D.str) 0 = some (.str (wAt ws 0)) := atI_W ws 0 h0
  have h2 : (wAt ws 0).length = pl := hw.len _ (wAt_mem h0)
  have h3 : ¬ ws.length = 0 := by omega
  have h3' : ¬ ws = [] := fun z => h3 (by rw [z]; rfl)
  have src : evSrc (cls' (n + 1)) (.seq (.var 0)) true [.val (mkR κ ws), .un] t = .ok (ws.map .str) t := by
    cases κ <;> simp [runF, ss, es, ts, gs, execs, ev_var, ev_kon, ev_glb, ev_bin, ev_neg, ev_cmp, ev_chn, ev_and, ev_or, ev_not, ev_ife, ev_call, ev_callk, ev_mth, ev_mk, ev_b1, ev_b2, ev_isi, ev_ix, ev_sl, ev_lst, ev_tup, ev_newL, ev_newD, ev_join, ev_fld, exec_asg, exec_setI, exec_setF, exec_aug, exec_mut, exec_ifs, exec_ret, exec_retn, exec_brk, exec_cont, exec_exp, exec_rai, exec_fg, exec_pas, evT, evs, evTAnd, evTOr, evAnd, evOr, evP, evSrc, bo, bnd, frzAll, esT, esTs, esO, esc, escs, esS, escS, opd, opn, look, peek, ofO, cmpD, truthD, thenK, sweep, fresh, asgK, asgT, asgTs, put, binD, b1D, b2D, ixD, ixN, atI_0, atI_1, atI_2, atI_3, atI_4, eqv, eqvs, shp, shps, setK, setX, setOb, isVar, unset, cellOf, frz, valOf, forL, forK, isiD, items, seqs, lenD, fldD, isIns, isNon, mkR]
  obtain ⟨zs, bs, e, e2, e3⟩ := ev_comp_allT (cl := cls' (n + 1)) (s := .seq (.var 0)) (g := .nm 1) (own := [1]) (c := .yes) (e := .call 27 (es [.var 1])) (ρ := [.val (mkR κ ws), .un]) (t := t) (t' := t) (xs := ws.map .str) src (fun x hx => by
    obtain ⟨w, hm, rfl⟩ := List.mem_map.mp hx
    have i2 := c27 n w t (hw.bit w hm)
    simp [turnC, runF, ss, es, ts, gs, execs, ev_var, ev_kon, ev_glb, ev_bin, ev_neg, ev_cmp, ev_chn, ev_and, ev_or, ev_not, ev_ife, ev_call, ev_callk, ev_mth, ev_mk, ev_b1, ev_b2, ev_isi, ev_ix, ev_sl, ev_lst, ev_tup, ev_newL, ev_newD, ev_join, ev_fld, exec_asg, exec_setI, exec_setF, exec_aug, exec_mut, exec_ifs, exec_ret, exec_retn, exec_brk, exec_cont, exec_exp, exec_rai, exec_fg, exec_pas, evT, evs, evTAnd, evTOr, evAnd, evOr, evP, evSrc, bo, bnd, frzAll, esT, esTs, esO, esc, escs, esS, escS, opd, opn, look, peek, ofO, cmpD, truthD, thenK, sweep, fresh, asgK, asgT, asgTs, put, binD, b1D, b2D, ixD, ixN, atI_0, atI_1, atI_2, atI_3, atI_4, eqv, eqvs, shp, shps, setK, setX, setOb, isVar, unset, cellOf, frz, valOf, forL, forK, isiD, items, seqs, lenD, fldD, isIns, isNon, i2])
  obtain ⟨zs', bs', e', e2', e3'⟩ := ev_comp_allT (cl := cls' (n + 1)) (s := .seq (.var 0)) (g := .nm 1) (own := [1]) (c := .yes) (e := .cmp .eq (.b1 .len (.var 1)) (.b1 .len (.ix (.var 0) (.kon (.int 0))))) (ρ := [.val (mkR κ ws), .un]) (t := t) (t' := t) (xs := ws.map .str) src (fun x hx => by
    obtain ⟨w, hm, rfl⟩ := List.mem_map.mp hx
    have h4 := hw.len w hm
    cases κ <;> simp [turnC, runF, ss, es, ts, gs, execs, ev_var, ev_kon, ev_glb, ev_bin, ev_neg, ev_cmp, ev_chn, ev_and, ev_or, ev_not, ev_ife, ev_call, ev_callk, ev_mth, ev_mk, ev_b1, ev_b2, ev_isi, ev_ix, ev_sl, ev_lst, ev_tup, ev_newL, ev_newD, ev_join, ev_fld, exec_asg, exec_setI, exec_setF, exec_aug, exec_mut, exec_ifs, exec_ret, exec_retn, exec_brk, exec_cont, exec_exp, exec_rai, exec_fg, exec_pas, evT, evs, evTAnd, evTOr, evAnd, evOr, evP, evSrc, bo, bnd, frzAll, esT, esTs, esO, esc, escs, esS, escS, opd, opn, look, peek, ofO, cmpD, truthD, thenK, sweep, fresh, asgK, asgT, asgTs, put, binD, b1D, b2D, ixD, ixN, atI_0, atI_1, atI_2, atI_3, atI_4, eqv, eqvs, shp, shps, setK, setX, setOb, isVar, unset, cellOf, frz, valOf, forL, forK, isiD, items, seqs, lenD, fldD, isIns, isNon, mkR, h1, h2, h4])
  simp only [es] at e
  cases κ
  · have i1' : call prg (n + 1) 26 [.lst (ws.map .str)] t = .ok (.bl true) t := i1
    simp only [mkR, Bool.false_eq_true, if_false] at e e'
    simp [runF, ss, es, ts, gs, execs, ev_var, ev_kon, ev_glb, ev_bin, ev_neg, ev_cmp, ev_chn, ev_and, ev_or, ev_not, ev_ife, ev_call, ev_callk, ev_mth, ev_mk, ev_b1, ev_b2, ev_isi, ev_ix, ev_sl, ev_lst, ev_tup, ev_newL, ev_newD, ev_join, ev_fld, exec_asg, exec_setI, exec_setF, exec_aug, exec_mut, exec_ifs, exec_ret, exec_retn, exec_brk, exec_cont, exec_exp, exec_rai, exec_fg, exec_pas, evT, evs, evTAnd, evTOr, evAnd, evOr, evP, evSrc, bo, bnd, frzAll, esT, esTs, esO, esc, escs, esS, escS, opd, opn, look, peek, ofO, cmpD, truthD, thenK, sweep, fresh, asgK, asgT, asgTs, put, binD, b1D, b2D, ixD, ixN, atI_0, atI_1, atI_2, atI_3, atI_4, eqv, eqvs, shp, shps, setK, setX, setOb, isVar, unset, cellOf, frz, valOf, forL, forK, isiD, items, seqs, lenD, fldD, isIns, isNon, f25, b25, mkR, i1', h3, h3', e, e2, e3, e', e2', e3']
  · have i1' : call prg (n + 1) 26 [.tup (ws.map .str)] t = .ok (.bl true) t := i1
    simp only [mkR, if_true] at e e'
    simp [runF, ss, es, ts, gs, execs, ev_var, ev_kon, ev_glb, ev_bin, ev_neg, ev_cmp, ev_chn, ev_and, ev_or, ev_not, ev_ife, ev_call, ev_callk, ev_mth, ev_mk, ev_b1, ev_b2, ev_isi, ev_ix, ev_sl, ev_lst, ev_tup, ev_newL, ev_newD, ev_join, ev_fld, exec_asg, exec_setI, exec_setF, exec_aug, exec_mut, exec_ifs, exec_ret, exec_retn, exec_brk, exec_cont, exec_exp, exec_rai, exec_fg, exec_pas, evT, evs, evTAnd, evTOr, evAnd, evOr, evP, evSrc, bo, bnd, frzAll, esT, esTs, esO, esc, escs, esS, escS, opd, opn, look, peek, ofO, cmpD, truthD, thenK, sweep, fresh, asgK, asgT, asgTs, put, binD, b1D, b2D, ixD, ixN, atI_0, atI_1, atI_2, atI_3, atI_4, eqv, eqvs, shp, shps, setK, setX, setOb, isVar, unset, cellOf, frz, valOf, forL, forK, isiD, items, seqs, lenD, fldD, isIns, isNon, f25, b25, mkR, i1', h3, h3', e, e2, e3, e', e2', e3']
theorem c20 (n pl : Nat) (κ : Bool) (ws : List (List Nat)) (t : T) (hw : Wd ws pl) (h0 : 0 < ws.length) : call prg (n + 3) 20 [mkR κ ws] t = .ok .non t := by
  rw [cS 20 f20 rfl]
  have i1 := c25 n pl κ ws t hw h0
  simp [runF, ss, es, ts, gs, execs, ev_var, ev_kon, ev_glb, ev_bin, ev_neg, ev_cmp, ev_chn, ev_and, ev_or, ev_not, ev_ife, ev_call, ev_callk, ev_mth, ev_mk, ev_b1, ev_b2, ev_isi, ev_ix, ev_sl, ev_lst, ev_tup, ev_newL, ev_newD, ev_join, ev_fld, exec_asg, exec_setI, exec_setF, exec_aug, exec_mut, exec_ifs, exec_ret, exec_retn, exec_brk, exec_cont, exec_exp, exec_rai, exec_fg, exec_pas, evT, evs, evTAnd, evTOr, evAnd, evOr, evP, evSrc, bo, bnd, frzAll, esT, esTs, esO, esc, escs, esS, escS, opd, opn, look, peek, ofO, cmpD, truthD, thenK, sweep, fresh, asgK, asgT, asgTs, put, binD, b1D, b2D, ixD, ixN, atI_0, atI_1, atI_2, atI_3, atI_4, eqv, eqvs, shp, shps, setK, setX, setOb, isVar, unset, cellOf, frz, valOf, forL, forK, isiD, items, seqs, lenD, fldD, isIns, isNon, f20, b20, i1]
theorem c15 (n pl : Nat) (κ : Bool) (ws : List (List Nat)) (t : T) (hw : Wd ws pl) (h0 : 0 < ws.length) (h9 : ws.length ≤ 1000) (nd : ws.Nodup) : call prg (n + 4) 15 [mkR κ ws] t = .ok .non t := by
  rw [cS 15 f15 rfl]
  have i1 := c20 n pl κ ws t hw h0
  have e := once_nodup ws [] (by simpa using nd)
  rw [List.nil_append] at e
  have e1 := strsOf_map ws
  cases κ
  · have i1' : call prg (n + 3) 20 [.lst (ws.map .str)] t = .ok .non t := i1
    simp [runF, ss, es, ts, gs, execs, ev_var, ev_kon, ev_glb, ev_bin, ev_neg, ev_cmp, ev_chn, ev_and, ev_or, ev_not, ev_ife, ev_call, ev_callk, ev_mth, ev_mk, ev_b1, ev_b2, ev_isi, ev_ix, ev_sl, ev_lst, ev_tup, ev_newL, ev_newD, ev_join, ev_fld, exec_asg, exec_setI, exec_setF, exec_aug, exec_mut, exec_ifs, exec_ret, exec_retn, exec_brk, exec_cont, exec_exp, exec_rai, exec_fg, exec_pas, evT, evs, evTAnd, evTOr, evAnd, evOr, evP, evSrc, bo, bnd, frzAll, esT, esTs, esO, esc, escs, esS, escS, opd, opn, look, peek, ofO, cmpD, truthD, thenK, sweep, fresh, asgK, asgT, asgTs, put, binD, b1D, b2D, ixD, ixN, atI_0, atI_1, atI_2, atI_3, atI_4, eqv, eqvs, shp, shps, setK, setX, setOb, isVar, unset, cellOf, frz, valOf, forL, forK, isiD, items, seqs, lenD, fldD, isIns, isNon, f15, b15, mkR, i1', e, e1, h9]
  · have i1' : call prg (n + 3) 20 [.tup (ws.map .str)] t = .ok .non t := i1
    simp [runF, ss, es, ts, gs, execs, ev_var, ev_kon, ev_glb, ev_bin, ev_neg, ev_cmp, ev_chn, ev_and, ev_or, ev_not, ev_ife, ev_call, ev_callk, ev_mth, ev_mk, ev_b1, ev_b2, ev_isi, ev_ix, ev_sl, ev_lst, ev_tup, ev_newL, ev_newD, ev_join, ev_fld, exec_asg, exec_setI, exec_setF, exec_aug, exec_mut, exec_ifs, exec_ret, exec_retn, exec_brk, exec_cont, exec_exp, exec_rai, exec_fg, exec_pas, evT, evs, evTAnd, evTOr, evAnd, evOr, evP, evSrc, bo, bnd, frzAll, esT, esTs, esO, esc, escs, esS, escS, opd, opn, look, peek, ofO, cmpD, truthD, thenK, sweep, fresh, asgK, asgT, asgTs, put, binD, b1D, b2D, ixD, ixN, atI_0, atI_1, atI_2, atI_3, atI_4, eqv, eqvs, shp, shps, setK, setX, setOb, isVar, unset, cellOf, frz, valOf, forL, forK, isiD, items, seqs, lenD, fldD, isIns, isNon, f15, b15, mkR, i1', e, e1, h9]
theorem c16 (n : Nat) (k : Int) (t : T) (h0 : 0 ≤ k) (h1 : k ≤ 100) : call prg (n + 3) 16 [.int k, .int 0, .int 100] t = .ok .non t := by
  rw [cS 16 f16 rfl]
  have i1 := c21 n (.int k) 0 100 t rfl
  simp [runF, ss, es, ts, gs, execs, ev_var, ev_kon, ev_glb, ev_bin, ev_neg, ev_cmp, ev_chn, ev_and, ev_or, ev_not, ev_ife, ev_call, ev_callk, ev_mth, ev_mk, ev_b1, ev_b2, ev_isi, ev_ix, ev_sl, ev_lst, ev_tup, ev_newL, ev_newD, ev_join, ev_fld, exec_asg, exec_setI, exec_setF, exec_aug, exec_mut, exec_ifs, exec_ret, exec_retn, exec_brk, exec_cont, exec_exp, exec_rai, exec_fg, exec_pas, evT, evs, evTAnd, evTOr, evAnd, evOr, evP, evSrc, bo, bnd, frzAll, esT, esTs, esO, esc, escs, esS, escS, opd, opn, look, peek, ofO, cmpD, truthD, thenK, sweep, fresh, asgK, asgT, asgTs, put, binD, b1D, b2D, ixD, ixN, atI_0, atI_1, atI_2, atI_3, atI_4, eqv, eqvs, shp, shps, setK, setX, setOb, isVar, unset, cellOf, frz, valOf, forL, forK, isiD, items, seqs, lenD, fldD, isIns, isNon, f16, b16, i1, h0, h1]
theorem eqvs_ints : ∀ (a b : List Int), eqvs (a.map .int) (b.map .int) = decide (a = b)
  | [], [] => rfl
  | [], _ :: _ => rfl
  | _ :: _, [] => rfl
  | x :: a, y :: b => by
    show ((x == y) && eqvs (a.map .int) (b.map .int)) = decide (x :: a = y :: b)
    rw [eqvs_ints a b]
    by_cases h : x = y
    · subst h; simp
    · simp [h]
theorem shps_ints (k : Nat) : ∀ l : List Int, shps k (l.map .int) = true
  | [] => by simp [shps]
  | q :: l => by
    show (shp k (.int q) && shps k (l.map .int)) = true
    rw [shps_ints k l]; cases k <;> rfl
theorem sorted_perm (L : List Nat) (m : Nat) : ((L.map fun q : Nat => (q : Int)).mergeSort (fun a b => decide (a ≤ b)) = (List.range m).map fun q : Nat => (q : Int)) ↔ L.Perm (List.range m) := by
  constructor
  · intro h
    have p := List.mergeSort_perm (L.map fun q : Nat => (q : Int)) (fun a b => decide (a ≤ b))
    rw [h] at p
    have p := p.map Int.toNat
    rw [List.map_map, List.map_map] at p
    have e : (Int.toNat ∘ fun q : Nat => (q : Int)) = id := by funext q; simp
    rw [e, List.map_id, List.map_id] at p
    exact p.symm
  · intro h
    refine List.Perm.eq_of_pairwise (le := fun a b : Int => a ≤ b) (fun a b _ _ h1 h2 => by omega) ?_ ?_ ((List.mergeSort_perm _ _).trans (h.map _))
    · have := List.pairwise_mergeSort (le := fun a b : Int => decide (a ≤ b)) (by intro a b c h1 h2; simp at *; omega) (by intro a b; simp; omega) (L.map fun q : Nat => (q : Int))
      exact this.imp (by intro a b h; simpa using h)
    · have := List.pairwise_lt_range (n := m)
      rw [List.pairwise_map]
      exact this.imp (by intro a b h; omega)
end K94
set_option maxRecDepth 100000
set_option linter.all false
set_option autoImplicit false
namespace K94
open Pd
theorem c18 (n : Nat) (κ : Bool) (ws : List (List Nat)) (o : Ob) : call prg (n + 1) 18 [.obj 1, mkR κ ws] [o, .ins 0 []] = .ok .non [o, game ws (.obj 2), .dct []] := by
  rw [cS 18 f18 rfl]
  cases κ <;> simp [runF, ss, es, ts, gs, execs, ev_var, ev_kon, ev_glb, ev_bin, ev_neg, ev_cmp, ev_chn, ev_and, ev_or, ev_not, ev_ife, ev_call, ev_callk, ev_mth, ev_mk, ev_b1, ev_b2, ev_isi, ev_ix, ev_sl, ev_lst, ev_tup, ev_newL, ev_newD, ev_join, ev_fld, exec_asg, exec_setI, exec_setF, exec_aug, exec_mut, exec_ifs, exec_ret, exec_retn, exec_brk, exec_cont, exec_exp, exec_rai, exec_fg, exec_pas, evT, evs, evTAnd, evTOr, evAnd, evOr, evP, evSrc, bo, bnd, frzAll, esT, esTs, esO, esc, escs, esS, escS, opd, opn, look, peek, ofO, cmpD, truthD, thenK, sweep, fresh, asgK, asgT, asgTs, put, binD, b1D, b2D, ixD, ixN, atI_0, atI_1, atI_2, atI_3, atI_4, eqv, eqvs, shp, shps, setK, setX, setOb, isVar, unset, cellOf, frz, valOf, forL, forK, isiD, items, seqs, lenD, fldD, isIns, isNon, f18, b18, mkR, setFK, fput, game]
theorem mk0 (n : Nat) (κ : Bool) (ws : List (List Nat)) (o : Ob) : (cls' (n + 1)).cn 0 [mkR κ ws] [o] = .ok (.obj 1) [o, game ws (.obj 2), .dct []] := by
  show mkC prg (fun j as t => call prg (n + 1) j as t) 0 [mkR κ ws] [o] = _
  have i1 := c18 n κ ws o
  have e : prg.cls[0]? = some ⟨"AskGame", 18⟩ := rfl
  simp [mkC, e, i1, bnd]
theorem Pl.mono : ∀ {s : Nat} {x : D}, Pl s x → Pl (s + 1) x
  | 0, .tup xs, h => by
    have h : xs = [] := h
    subst h; intro x hx; simp at hx
  | 0, .lst xs, h => by
    have h : xs = [] := h
    subst h; intro x hx; simp at hx
  | s + 1, .tup xs, h => fun x hx => Pl.mono (show Pl s x from h x hx)
  | s + 1, .lst xs, h => fun x hx => Pl.mono (show Pl s x from h x hx)
  | 0, .non, _ => trivial
  | 0, .bl _, _ => trivial
  | 0, .int _, _ => trivial
  | 0, .str _, _ => trivial
  | 0, .scr _, h => h.elim
  | 0, .obj _, h => h.elim
  | _ + 1, .non, _ => trivial
  | _ + 1, .bl _, _ => trivial
  | _ + 1, .int _, _ => trivial
  | _ + 1, .str _, _ => trivial
  | _ + 1, .scr _, h => h.elim
  | _ + 1, .obj _, h => h.elim
theorem range0_LN (m : Nat) : range0 (m : Int) = LN (List.range m) := by simp [range0, LN, DN]
theorem LN_ints (L : List Nat) : LN L = (L.map fun q : Nat => (q : Int)).map .int := by
  rw [LN, List.map_map]; rfl
/-- the judge -/
theorem c7 (s n pl : Nat) (κ : Bool) (ws : List (List Nat)) (o : Ob) (x : D) (k : Int) (hs : s ≤ 20) (hw : Wd ws pl) (h0 : 0 < ws.length) (h9 : ws.length ≤ 1000) (nd : ws.Nodup) (ho : lowO 1 o = true) (hx : Pl s x) (k0 : 0 ≤ k) (k1 : k ≤ 100) :
    call prg (n + s + 6) 7 [mkR κ ws, x, .int k] [o] = .ok (.bl (decide (wk ws pl (s + 1) x (List.range ws.length) ≤ k))) [o] := by
  rw [cS 7 f7 rfl]
  have i1 := c15 (n + s + 1) pl κ ws [o] hw h0 h9 nd
  have i2 := c16 (n + s + 2) k [o] k0 k1
  have i3 := mk0 (n + s + 4) κ ws o
  have i4 := c17 ws pl 1 (.obj 2) [o, game ws (.obj 2), .dct []] hw h0 rfl s (n + 2) x (List.range ws.length) k hs hx (fun q hq => List.mem_range.mp hq)
  have i1 : call prg (n + s + 5) 15 [mkR κ ws] [o] = .ok .non [o] := i1
  have i2 : call prg (n + s + 5) 16 [.int k, .int 0, .int 100] [o] = .ok .non [o] := i2
  rw [show n + 2 + s + 3 = n + s + 5 by omega] at i4
  have hS := same ws pl hw (s + 1) x (List.range ws.length) k (fun q hq => List.mem_range.mp hq) k0 k1
  have hr := range0_LN ws.length
  have hl1 : (-1000000 : Int) ≤ ws.length := by omega
  have hl2 : (ws.length : Int) ≤ 1000000 := by omega
  have hlen : ∀ t, lenD t (mkR κ ws) = some ws.length := fun t => by cases κ <;> simp [mkR, lenD]
  have i3 : mkC prg (fun j as t => call prg (n + s + 5) j as t) 0 [mkR κ ws] [o] = .ok (.obj 1) [o, game ws (.obj 2), .dct []] := i3
  cases hb : bl ws pl (s + 1) x (List.range ws.length) k with
  | none =>
    rw [hb] at i4
    have hw' : ¬ wk ws pl (s + 1) x (List.range ws.length) ≤ k := fun z => by
      obtain ⟨L, h, _⟩ := hS.mpr z
      rw [hb] at h; cases h
    cases κ
    · simp only [mkR, Bool.false_eq_true, if_false] at i1 i3
      simp [runF, ss, es, ts, gs, execs, ev_var, ev_kon, ev_glb, ev_bin, ev_neg, ev_cmp, ev_chn, ev_and, ev_or, ev_not, ev_ife, ev_call, ev_callk, ev_mth, ev_mk, ev_b1, ev_b2, ev_isi, ev_ix, ev_sl, ev_lst, ev_tup, ev_newL, ev_newD, ev_join, ev_fld, exec_asg, exec_setI, exec_setF, exec_aug, exec_mut, exec_ifs, exec_ret, exec_retn, exec_brk, exec_cont, exec_exp, exec_rai, exec_fg, exec_pas, evT, evs, evTAnd, evTOr, evAnd, evOr, evP, evSrc, bo, bnd, frzAll, esT, esTs, esO, esc, escs, esS, escS, opd, opn, look, peek, ofO, cmpD, truthD, thenK, sweep, fresh, asgK, asgT, asgTs, put, binD, b1D, b2D, ixD, ixN, atI_0, atI_1, atI_2, atI_3, atI_4, eqv, eqvs, shp, shps, setK, setX, setOb, isVar, unset, cellOf, frz, valOf, forL, forK, isiD, items, seqs, lenD, fldD, isIns, isNon, f7, b7, mkR, i1, i2, i3, hl1, hl2, hr, i4, low, ho, hw']
    · simp only [mkR, if_true] at i1 i3
      simp [runF, ss, es, ts, gs, execs, ev_var, ev_kon, ev_glb, ev_bin, ev_neg, ev_cmp, ev_chn, ev_and, ev_or, ev_not, ev_ife, ev_call, ev_callk, ev_mth, ev_mk, ev_b1, ev_b2, ev_isi, ev_ix, ev_sl, ev_lst, ev_tup, ev_newL, ev_newD, ev_join, ev_fld, exec_asg, exec_setI, exec_setF, exec_aug, exec_mut, exec_ifs, exec_ret, exec_retn, exec_brk, exec_cont, exec_exp, exec_rai, exec_fg, exec_pas, evT, evs, evTAnd, evTOr, evAnd, evOr, evP, evSrc, bo, bnd, frzAll, esT, esTs, esO, esc, escs, esS, escS, opd, opn, look, peek, ofO, cmpD, truthD, thenK, sweep, fresh, asgK, asgT, asgTs, put, binD, b1D, b2D, ixD, ixN, atI_0, atI_1, atI_2, atI_3, atI_4, eqv, eqvs, shp, shps, setK, setX, setOb, isVar, unset, cellOf, frz, valOf, forL, forK, isiD, items, seqs, lenD, fldD, isIns, isNon, f7, b7, mkR, i1, i2, i3, hl1, hl2, hr, i4, low, ho, hw']
  | some L =>
    rw [hb] at i4
    have i5 := intsOf_map (L.map fun q : Nat => (q : Int))
    rw [← LN_ints] at i5
    have i6 := eqvs_ints ((L.map fun q : Nat => (q : Int)).mergeSort (fun a b => decide (a ≤ b))) ((List.range ws.length).map fun q : Nat => (q : Int))
    rw [← LN_ints] at i6
    have i7 := shps_ints 59 ((L.map fun q : Nat => (q : Int)).mergeSort (fun a b => decide (a ≤ b)))
    have i8 := shps_LN 59 (List.range ws.length)
    have hd : decide ((L.map fun q : Nat => (q : Int)).mergeSort (fun a b => decide (a ≤ b)) = (List.range ws.length).map fun q : Nat => (q : Int)) = decide (wk ws pl (s + 1) x (List.range ws.length) ≤ k) := by
      refine decide_eq_decide.mpr ((sorted_perm L ws.length).trans ⟨fun p => hS.mp ⟨L, hb, p⟩, fun z => ?_⟩)
      obtain ⟨L', h, p⟩ := hS.mpr z
      rw [hb] at h; cases h; exact p
    rw [hd] at i6
    cases κ
    · simp only [mkR, Bool.false_eq_true, if_false] at i1 i3
      simp [runF, ss, es, ts, gs, execs, ev_var, ev_kon, ev_glb, ev_bin, ev_neg, ev_cmp, ev_chn, ev_and, ev_or, ev_not, ev_ife, ev_call, ev_callk, ev_mth, ev_mk, ev_b1, ev_b2, ev_isi, ev_ix, ev_sl, ev_lst, ev_tup, ev_newL, ev_newD, ev_join, ev_fld, exec_asg, exec_setI, exec_setF, exec_aug, exec_mut, exec_ifs, exec_ret, exec_retn, exec_brk, exec_cont, exec_exp, exec_rai, exec_fg, exec_pas, evT, evs, evTAnd, evTOr, evAnd, evOr, evP, evSrc, bo, bnd, frzAll, esT, esTs, esO, esc, escs, esS, escS, opd, opn, look, peek, ofO, cmpD, truthD, thenK, sweep, fresh, asgK, asgT, asgTs, put, binD, b1D, b2D, ixD, ixN, atI_0, atI_1, atI_2, atI_3, atI_4, eqv, eqvs, shp, shps, setK, setX, setOb, isVar, unset, cellOf, frz, valOf, forL, forK, isiD, items, seqs, lenD, fldD, isIns, isNon, f7, b7, mkR, i1, i2, i3, hl1, hl2, hr, i4, low, ho, i5, i6, i7, i8]
    · simp only [mkR, if_true] at i1 i3
      simp [runF, ss, es, ts, gs, execs, ev_var, ev_kon, ev_glb, ev_bin, ev_neg, ev_cmp, ev_chn, ev_and, ev_or, ev_not, ev_ife, ev_call, ev_callk, ev_mth, ev_mk, ev_b1, ev_b2, ev_isi, ev_ix, ev_sl, ev_lst, ev_tup, ev_newL, ev_newD, ev_join, ev_fld, exec_asg, exec_setI, exec_setF, exec_aug, exec_mut, exec_ifs, exec_ret, exec_retn, exec_brk, exec_cont, exec_exp, exec_rai, exec_fg, exec_pas, evT, evs, evTAnd, evTOr, evAnd, evOr, evP, evSrc, bo, bnd, frzAll, esT, esTs, esO, esc, escs, esS, escS, opd, opn, look, peek, ofO, cmpD, truthD, thenK, sweep, fresh, asgK, asgT, asgTs, put, binD, b1D, b2D, ixD, ixN, atI_0, atI_1, atI_2, atI_3, atI_4, eqv, eqvs, shp, shps, setK, setX, setOb, isVar, unset, cellOf, frz, valOf, forL, forK, isiD, items, seqs, lenD, fldD, isIns, isNon, f7, b7, mkR, i1, i2, i3, hl1, hl2, hr, i4, low, ho, i5, i6, i7, i8]
end K94
set_option maxRecDepth 100000
set_option linter.all false
set_option autoImplicit false
namespace K94
open Pd
inductive Tr where
  | leaf (q : Nat)
  | node (p : Nat) (l r : Tr)
def Tr.D : Tr → Pd.D
  | .leaf q => .int q
  | .node p l r => .tup [.int p, l.D, r.D]
def Tr.ht : Tr → Nat
  | .leaf _ => 0
  | .node _ l r => max l.ht r.ht + 1
def Tr.In (pl m : Nat) : Tr → Prop
  | .leaf q => q < m
  | .node p l r => p < pl ∧ l.In pl m ∧ r.In pl m
theorem Pl.le {s s' : Nat} (h : s ≤ s') {x : D} (p : Pl s x) : Pl s' x := by
  induction h with
  | refl => exact p
  | step _ ih => exact ih.mono
theorem Pl.int (s : Nat) (i : Int) : Pl s (.int i) := by cases s <;> trivial
theorem Pl.bl (s : Nat) (i : Bool) : Pl s (.bl i) := by cases s <;> trivial
theorem Pl.str (s : Nat) (i : List Nat) : Pl s (.str i) := by cases s <;> trivial
theorem Pl.non (s : Nat) : Pl s .non := by cases s <;> trivial
theorem Pl.tr : ∀ (tr : Tr) (s : Nat), tr.ht ≤ s → Pl s tr.D
  | .leaf q, s, _ => Pl.int s q
  | .node p l r, 0, h => by simp [Tr.ht] at h
  | .node p l r, s + 1, h => by
    have h : max l.ht r.ht + 1 ≤ s + 1 := h
    intro x hx
    simp only [List.mem_cons, List.not_mem_nil, or_false] at hx
    rcases hx with rfl | rfl | rfl
    · exact Pl.int s p
    · exact Pl.tr l s (by omega)
    · exact Pl.tr r s (by omega)
theorem Pl.tup {s : Nat} {xs : List D} (h : ∀ x ∈ xs, Pl s x) : Pl (s + 1) (.tup xs) := h
theorem Pl.lst {s : Nat} {xs : List D} (h : ∀ x ∈ xs, Pl s x) : Pl (s + 1) (.lst xs) := h
theorem shp_tr : ∀ (tr : Tr) (k : Nat), tr.ht ≤ k → shp k tr.D = true
  | .leaf q, k, _ => by cases k <;> rfl
  | .node p l r, 0, h => by simp [Tr.ht] at h
  | .node p l r, k + 1, h => by
    have h : max l.ht r.ht + 1 ≤ k + 1 := h
    show (shp k (.int p) && (shp k l.D && (shp k r.D && true))) = true
    rw [shp_tr l k (by omega), shp_tr r k (by omega)]
    cases k <;> rfl
theorem atI_in {α : Type} (xs : List α) (i : Int) (h0 : 0 ≤ i) (h1 : i < xs.length) : ∃ x ∈ xs, atI xs i = some x := by
  obtain ⟨k, rfl⟩ := Int.eq_ofNat_of_zero_le h0
  have hk : k < xs.length := by omega
  exact ⟨xs[k], List.getElem_mem hk, by rw [atI_nat, List.getElem?_eq_getElem hk]⟩
theorem tr_noObj (tr : Tr) : noObj tr.D = true := by cases tr <;> rfl
def odd1 (g : D) : List D := [.non, .bl true, .bl false, .lst [g], .tup [g], .tup [.int 0, g], .tup [.int 0, g, g, g], .str [48], .str [], .int (-1), .int 8, .int 99, .tup [.non, g, g], .tup [.str [48], g, .int 0], .tup [.int 0, g, .non], .tup [.int 0, .lst [.int 0, .int 1], g], .tup [.tup [.int 0], g, g], .tup [.bl true, g, g], .tup [], .lst [.int 0, .int 1, .int 2]]
def odd2 (p : Nat) (a b : D) : List D := [.lst [.int p, a, b], .lst [.int p, a, b], .tup [a, .int p, b], .tup [.int p, a], .tup [.str [48 + p], a, b], .tup [.int p, a, .lst [b]], .tup [.int p, a, b, b], .tup [.int p, a, b, .int p, a, b], .tup [.bl ((p : Int) == 1), a, b], .tup [.int p, .lst [a], b], .tup [.int p, .bl (eqv b (.int 1)), a]]
def odd3 (q : Nat) : List D := [.bl ((q : Int) == 1), .str [48 + q], .lst [.int q], .bl ((q : Int) == 0)]
theorem c24n (n p : Nat) (l r : Tr) (k : Int) (t : T) (hp : p < 10) (hr : r.ht ≤ 40) : call prg (n + 1) 24 [(Tr.node p l r).D, .int k] t = ofO (atI (odd1 (Tr.node p l r).D ++ odd2 p l.D r.D) (k % 31)) t := by
  rw [cS 24 f24 rfl]
  have h1 := shp_tr r 60 (by omega)
  have h2 : (p : Int) < 10 := by omega
  simp [runF, ss, es, ts, gs, execs, ev_var, ev_kon, ev_glb, ev_bin, ev_neg, ev_cmp, ev_chn, ev_and, ev_or, ev_not, ev_ife, ev_call, ev_callk, ev_mth, ev_mk, ev_b1, ev_b2, ev_isi, ev_ix, ev_sl, ev_lst, ev_tup, ev_newL, ev_newD, ev_join, ev_fld, exec_asg, exec_setI, exec_setF, exec_aug, exec_mut, exec_ifs, exec_ret, exec_retn, exec_brk, exec_cont, exec_exp, exec_rai, exec_fg, exec_pas, evT, evs, evTAnd, evTOr, evAnd, evOr, evP, evSrc, bo, bnd, frzAll, esT, esTs, esO, esc, escs, esS, escS, opd, opn, look, peek, ofO, cmpD, truthD, thenK, sweep, fresh, asgK, asgT, asgTs, put, binD, b1D, b2D, ixD, ixN, atI_0, atI_1, atI_2, atI_3, atI_4, eqv, eqvs, shp, shps, setK, setX, setOb, isVar, unset, cellOf, frz, valOf, forL, forK, isiD, items, seqs, lenD, fldD, isIns, isNon, f24, b24, Tr.D, sz, h1, h2, odd1, odd2]
  cases atI _ (k % 31) <;> simp
theorem c24l (n q : Nat) (k : Int) (t : T) (hq : q < 10) : call prg (n + 1) 24 [(Tr.leaf q).D, .int k] t = ofO (atI (odd1 (Tr.leaf q).D ++ odd3 q) (k % 24)) t := by
  rw [cS 24 f24 rfl]
  have h2 : (q : Int) < 10 := by omega
  simp [runF, ss, es, ts, gs, execs, ev_var, ev_kon, ev_glb, ev_bin, ev_neg, ev_cmp, ev_chn, ev_and, ev_or, ev_not, ev_ife, ev_call, ev_callk, ev_mth, ev_mk, ev_b1, ev_b2, ev_isi, ev_ix, ev_sl, ev_lst, ev_tup, ev_newL, ev_newD, ev_join, ev_fld, exec_asg, exec_setI, exec_setF, exec_aug, exec_mut, exec_ifs, exec_ret, exec_retn, exec_brk, exec_cont, exec_exp, exec_rai, exec_fg, exec_pas, evT, evs, evTAnd, evTOr, evAnd, evOr, evP, evSrc, bo, bnd, frzAll, esT, esTs, esO, esc, escs, esS, escS, opd, opn, look, peek, ofO, cmpD, truthD, thenK, sweep, fresh, asgK, asgT, asgTs, put, binD, b1D, b2D, ixD, ixN, atI_0, atI_1, atI_2, atI_3, atI_4, eqv, eqvs, shp, shps, setK, setX, setOb, isVar, unset, cellOf, frz, valOf, forL, forK, isiD, items, seqs, lenD, fldD, isIns, isNon, f24, b24, Tr.D, sz, h2, odd1, odd3]
  cases atI _ (k % 24) <;> simp
end K94
set_option maxRecDepth 100000
set_option linter.all false
set_option autoImplicit false
namespace K94
open Pd
theorem Pl_tup (s : Nat) (xs : List D) : Pl (s + 1) (.tup xs) ↔ ∀ x ∈ xs, Pl s x := Iff.rfl
theorem Pl_lst (s : Nat) (xs : List D) : Pl (s + 1) (.lst xs) ↔ ∀ x ∈ xs, Pl s x := Iff.rfl
theorem c24 (n pl m : Nat) (tr : Tr) (k : Int) (t : T) (hpl : pl ≤ 10) (hm : m ≤ 10) (hi : tr.In pl m) (hh : tr.ht ≤ 15) (h0 : 0 ≤ k) : ∃ x, call prg (n + 1) 24 [tr.D, .int k] t = .ok x t ∧ Pl (tr.ht + 2) x := by
  have hg := Pl.tr tr (tr.ht + 1) (by omega)
  cases tr with
  | leaf q =>
    have hq : q < m := hi
    rw [c24l n q k t (by omega)]
    obtain ⟨x, hx, e⟩ := atI_in (odd1 (Tr.leaf q).D ++ odd3 q) (k % 24) (Int.emod_nonneg _ (by omega)) (by
      have := Int.emod_lt_of_pos k (show (0 : Int) < 24 by omega)
      simpa [odd1, odd3] using this)
    refine ⟨x, by rw [e]; rfl, ?_⟩
    revert x
    have hall : ∀ x ∈ odd1 (Tr.leaf q).D ++ odd3 q, Pl ((Tr.leaf q).ht + 2) x := by
      generalize (Tr.leaf q).D = g at hg
      simp [odd1, odd3, Pl_tup, Pl_lst, Pl.int, Pl.bl, Pl.str, Pl.non, hg]
    intro x hx _
    exact hall x hx
  | node p l r =>
    have hp : p < pl := hi.1
    have hh' : max l.ht r.ht + 1 ≤ 15 := hh
    rw [c24n n p l r k t (by omega) (by omega)]
    obtain ⟨x, hx, e⟩ := atI_in (odd1 (Tr.node p l r).D ++ odd2 p l.D r.D) (k % 31) (Int.emod_nonneg _ (by omega)) (by
      have := Int.emod_lt_of_pos k (show (0 : Int) < 31 by omega)
      simpa [odd1, odd2] using this)
    refine ⟨x, by rw [e]; rfl, ?_⟩
    have ha := Pl.tr l ((Tr.node p l r).ht + 1) (by show l.ht ≤ max l.ht r.ht + 1 + 1; omega)
    have hb := Pl.tr r ((Tr.node p l r).ht + 1) (by show r.ht ≤ max l.ht r.ht + 1 + 1; omega)
    have ha' := Pl.tr l ((Tr.node p l r).ht) (by show l.ht ≤ max l.ht r.ht + 1; omega)
    have hb' := Pl.tr r ((Tr.node p l r).ht) (by show r.ht ≤ max l.ht r.ht + 1; omega)
    have hall : ∀ x ∈ odd1 (Tr.node p l r).D ++ odd2 p l.D r.D, Pl ((Tr.node p l r).ht + 2) x := by
      generalize (Tr.node p l r).D = g at hg
      simp [odd1, odd2, Pl_tup, Pl_lst, Pl.int, Pl.bl, Pl.str, Pl.non, hg, ha, hb, ha', hb']
    exact hall x hx
theorem c19 (n pl : Nat) (ws : List (List Nat)) (tr : Tr) (kd k : Int) (t : T) (hw : Wd ws pl) (hw0 : 0 < ws.length) (hpl : pl ≤ 10) (hm : ws.length ≤ 10) (hi : tr.In pl ws.length) (hh : tr.ht ≤ 15) (h0 : 0 ≤ k) : ∃ x, call prg (n + 2) 19 [.tup (ws.map .str), tr.D, .int kd, .int k] t = .ok x t ∧ Pl (tr.ht + 2) x := by
  have h1 : atI (ws.map D.str) 0 = some (.str (wAt ws 0)) := atI_W ws 0 hw0
  have h2 : (wAt ws 0).length = pl := hw.len _ (wAt_mem hw0)
  rw [cS 19 f19 rfl]
  by_cases k0 : kd = 0
  · obtain ⟨x, e, hx⟩ := c24 n pl ws.length tr k t hpl hm hi hh h0
    refine ⟨x, ?_, hx⟩
    simp [runF, ss, es, ts, gs, execs, ev_var, ev_kon, ev_glb, ev_bin, ev_neg, ev_cmp, ev_chn, ev_and, ev_or, ev_not, ev_ife, ev_call, ev_callk, ev_mth, ev_mk, ev_b1, ev_b2, ev_isi, ev_ix, ev_sl, ev_lst, ev_tup, ev_newL, ev_newD, ev_join, ev_fld, exec_asg, exec_setI, exec_setF, exec_aug, exec_mut, exec_ifs, exec_ret, exec_retn, exec_brk, exec_cont, exec_exp, exec_rai, exec_fg, exec_pas, evT, evs, evTAnd, evTOr, evAnd, evOr, evP, evSrc, bo, bnd, frzAll, esT, esTs, esO, esc, escs, esS, escS, opd, opn, look, peek, ofO, cmpD, truthD, thenK, sweep, fresh, asgK, asgT, asgTs, put, binD, b1D, b2D, ixD, ixN, atI_0, atI_1, atI_2, atI_3, atI_4, eqv, eqvs, shp, shps, setK, setX, setOb, isVar, unset, cellOf, frz, valOf, forL, forK, isiD, items, seqs, lenD, fldD, isIns, isNon, f19, b19, k0, e]
  · have hg := Pl.tr tr (tr.ht + 1) (by omega)
    have hwl : 0 < (ws.length : Int) := by omega
    have hp1 : 0 < (pl : Int) + 1 := by omega
    have hp2 : 0 < (pl : Int) + 2 := by omega
    cases tr with
    | leaf q =>
      by_cases k1 : kd = 1
      · exact ⟨.int (((q : Int) + 1 + k) % ws.length), by simp [runF, ss, es, ts, gs, execs, ev_var, ev_kon, ev_glb, ev_bin, ev_neg, ev_cmp, ev_chn, ev_and, ev_or, ev_not, ev_ife, ev_call, ev_callk, ev_mth, ev_mk, ev_b1, ev_b2, ev_isi, ev_ix, ev_sl, ev_lst, ev_tup, ev_newL, ev_newD, ev_join, ev_fld, exec_asg, exec_setI, exec_setF, exec_aug, exec_mut, exec_ifs, exec_ret, exec_retn, exec_brk, exec_cont, exec_exp, exec_rai, exec_fg, exec_pas, evT, evs, evTAnd, evTOr, evAnd, evOr, evP, evSrc, bo, bnd, frzAll, esT, esTs, esO, esc, escs, esS, escS, opd, opn, look, peek, ofO, cmpD, truthD, thenK, sweep, fresh, asgK, asgT, asgTs, put, binD, b1D, b2D, ixD, ixN, atI_0, atI_1, atI_2, atI_3, atI_4, eqv, eqvs, shp, shps, setK, setX, setOb, isVar, unset, cellOf, frz, valOf, forL, forK, isiD, items, seqs, lenD, fldD, isIns, isNon, f19, b19, k0, k1, Tr.D, hwl, hw0], Pl.int _ _⟩
      · by_cases k2 : kd = 2
        · exact ⟨_, by simp [runF, ss, es, ts, gs, execs, ev_var, ev_kon, ev_glb, ev_bin, ev_neg, ev_cmp, ev_chn, ev_and, ev_or, ev_not, ev_ife, ev_call, ev_callk, ev_mth, ev_mk, ev_b1, ev_b2, ev_isi, ev_ix, ev_sl, ev_lst, ev_tup, ev_newL, ev_newD, ev_join, ev_fld, exec_asg, exec_setI, exec_setF, exec_aug, exec_mut, exec_ifs, exec_ret, exec_retn, exec_brk, exec_cont, exec_exp, exec_rai, exec_fg, exec_pas, evT, evs, evTAnd, evTOr, evAnd, evOr, evP, evSrc, bo, bnd, frzAll, esT, esTs, esO, esc, escs, esS, escS, opd, opn, look, peek, ofO, cmpD, truthD, thenK, sweep, fresh, asgK, asgT, asgTs, put, binD, b1D, b2D, ixD, ixN, atI_0, atI_1, atI_2, atI_3, atI_4, eqv, eqvs, shp, shps, setK, setX, setOb, isVar, unset, cellOf, frz, valOf, forL, forK, isiD, items, seqs, lenD, fldD, isIns, isNon, f19, b19, k0, k1, k2, Tr.D, hwl, hw0, h1, h2, hp1]; rfl, by simp [Pl_tup, Pl.int]⟩
        · by_cases k3 : kd = 3
          · exact ⟨_, by simp [runF, ss, es, ts, gs, execs, ev_var, ev_kon, ev_glb, ev_bin, ev_neg, ev_cmp, ev_chn, ev_and, ev_or, ev_not, ev_ife, ev_call, ev_callk, ev_mth, ev_mk, ev_b1, ev_b2, ev_isi, ev_ix, ev_sl, ev_lst, ev_tup, ev_newL, ev_newD, ev_join, ev_fld, exec_asg, exec_setI, exec_setF, exec_aug, exec_mut, exec_ifs, exec_ret, exec_retn, exec_brk, exec_cont, exec_exp, exec_rai, exec_fg, exec_pas, evT, evs, evTAnd, evTOr, evAnd, evOr, evP, evSrc, bo, bnd, frzAll, esT, esTs, esO, esc, escs, esS, escS, opd, opn, look, peek, ofO, cmpD, truthD, thenK, sweep, fresh, asgK, asgT, asgTs, put, binD, b1D, b2D, ixD, ixN, atI_0, atI_1, atI_2, atI_3, atI_4, eqv, eqvs, shp, shps, setK, setX, setOb, isVar, unset, cellOf, frz, valOf, forL, forK, isiD, items, seqs, lenD, fldD, isIns, isNon, f19, b19, k0, k1, k2, k3, Tr.D, hwl, hw0, h1, h2, hp1]; rfl, by simp [Pl_tup, Pl.int]⟩
          · exact ⟨_, by simp [runF, ss, es, ts, gs, execs, ev_var, ev_kon, ev_glb, ev_bin, ev_neg, ev_cmp, ev_chn, ev_and, ev_or, ev_not, ev_ife, ev_call, ev_callk, ev_mth, ev_mk, ev_b1, ev_b2, ev_isi, ev_ix, ev_sl, ev_lst, ev_tup, ev_newL, ev_newD, ev_join, ev_fld, exec_asg, exec_setI, exec_setF, exec_aug, exec_mut, exec_ifs, exec_ret, exec_retn, exec_brk, exec_cont, exec_exp, exec_rai, exec_fg, exec_pas, evT, evs, evTAnd, evTOr, evAnd, evOr, evP, evSrc, bo, bnd, frzAll, esT, esTs, esO, esc, escs, esS, escS, opd, opn, look, peek, ofO, cmpD, truthD, thenK, sweep, fresh, asgK, asgT, asgTs, put, binD, b1D, b2D, ixD, ixN, atI_0, atI_1, atI_2, atI_3, atI_4, eqv, eqvs, shp, shps, setK, setX, setOb, isVar, unset, cellOf, frz, valOf, forL, forK, isiD, items, seqs, lenD, fldD, isIns, isNon, f19, b19, k0, k1, k2, k3, Tr.D]; rfl, Pl.int _ _⟩
    | node p l r =>
      have hp : p < pl := hi.1
      have hpl0 : 0 < (pl : Int) := by omega
      have hpn : 0 < pl := by omega
      have ha := Pl.tr l ((Tr.node p l r).ht + 1) (by show l.ht ≤ max l.ht r.ht + 1 + 1; omega)
      have hb := Pl.tr r ((Tr.node p l r).ht + 1) (by show r.ht ≤ max l.ht r.ht + 1 + 1; omega)
      have hgD : (Tr.node p l r).D = .tup [.int p, l.D, r.D] := rfl
      rw [hgD] at hg
      by_cases k1 : kd = 1
      · exact ⟨_, by simp [runF, ss, es, ts, gs, execs, ev_var, ev_kon, ev_glb, ev_bin, ev_neg, ev_cmp, ev_chn, ev_and, ev_or, ev_not, ev_ife, ev_call, ev_callk, ev_mth, ev_mk, ev_b1, ev_b2, ev_isi, ev_ix, ev_sl, ev_lst, ev_tup, ev_newL, ev_newD, ev_join, ev_fld, exec_asg, exec_setI, exec_setF, exec_aug, exec_mut, exec_ifs, exec_ret, exec_retn, exec_brk, exec_cont, exec_exp, exec_rai, exec_fg, exec_pas, evT, evs, evTAnd, evTOr, evAnd, evOr, evP, evSrc, bo, bnd, frzAll, esT, esTs, esO, esc, escs, esS, escS, opd, opn, look, peek, ofO, cmpD, truthD, thenK, sweep, fresh, asgK, asgT, asgTs, put, binD, b1D, b2D, ixD, ixN, atI_0, atI_1, atI_2, atI_3, atI_4, eqv, eqvs, shp, shps, setK, setX, setOb, isVar, unset, cellOf, frz, valOf, forL, forK, isiD, items, seqs, lenD, fldD, isIns, isNon, f19, b19, k0, k1, Tr.D]; rfl, by simp [Pl_tup, Pl.int, ha, hb]⟩
      · by_cases k2 : kd = 2
        · exact ⟨_, by simp [runF, ss, es, ts, gs, execs, ev_var, ev_kon, ev_glb, ev_bin, ev_neg, ev_cmp, ev_chn, ev_and, ev_or, ev_not, ev_ife, ev_call, ev_callk, ev_mth, ev_mk, ev_b1, ev_b2, ev_isi, ev_ix, ev_sl, ev_lst, ev_tup, ev_newL, ev_newD, ev_join, ev_fld, exec_asg, exec_setI, exec_setF, exec_aug, exec_mut, exec_ifs, exec_ret, exec_retn, exec_brk, exec_cont, exec_exp, exec_rai, exec_fg, exec_pas, evT, evs, evTAnd, evTOr, evAnd, evOr, evP, evSrc, bo, bnd, frzAll, esT, esTs, esO, esc, escs, esS, escS, opd, opn, look, peek, ofO, cmpD, truthD, thenK, sweep, fresh, asgK, asgT, asgTs, put, binD, b1D, b2D, ixD, ixN, atI_0, atI_1, atI_2, atI_3, atI_4, eqv, eqvs, shp, shps, setK, setX, setOb, isVar, unset, cellOf, frz, valOf, forL, forK, isiD, items, seqs, lenD, fldD, isIns, isNon, f19, b19, k0, k1, k2, Tr.D, h1, h2, hp2]; rfl, by simp [Pl_tup, Pl.int, ha, hb]⟩
        · by_cases k3 : kd = 3
          · exact ⟨.tup [.int (k % pl), .tup [.int p, l.D, r.D], l.D], by simp [runF, ss, es, ts, gs, execs, ev_var, ev_kon, ev_glb, ev_bin, ev_neg, ev_cmp, ev_chn, ev_and, ev_or, ev_not, ev_ife, ev_call, ev_callk, ev_mth, ev_mk, ev_b1, ev_b2, ev_isi, ev_ix, ev_sl, ev_lst, ev_tup, ev_newL, ev_newD, ev_join, ev_fld, exec_asg, exec_setI, exec_setF, exec_aug, exec_mut, exec_ifs, exec_ret, exec_retn, exec_brk, exec_cont, exec_exp, exec_rai, exec_fg, exec_pas, evT, evs, evTAnd, evTOr, evAnd, evOr, evP, evSrc, bo, bnd, frzAll, esT, esTs, esO, esc, escs, esS, escS, opd, opn, look, peek, ofO, cmpD, truthD, thenK, sweep, fresh, asgK, asgT, asgTs, put, binD, b1D, b2D, ixD, ixN, atI_0, atI_1, atI_2, atI_3, atI_4, eqv, eqvs, shp, shps, setK, setX, setOb, isVar, unset, cellOf, frz, valOf, forL, forK, isiD, items, seqs, lenD, fldD, isIns, isNon, f19, b19, k0, k1, k2, k3, Tr.D, h1, h2, hpl0, hpn], Pl.tup (by simp [Pl.int, hg, ha])⟩
          · by_cases k4 : kd = 4
            · have hk2 : k % 2 = 0 ∨ k % 2 = 1 := by omega
              rcases hk2 with hk2 | hk2
              · exact ⟨l.D, by simp [runF, ss, es, ts, gs, execs, ev_var, ev_kon, ev_glb, ev_bin, ev_neg, ev_cmp, ev_chn, ev_and, ev_or, ev_not, ev_ife, ev_call, ev_callk, ev_mth, ev_mk, ev_b1, ev_b2, ev_isi, ev_ix, ev_sl, ev_lst, ev_tup, ev_newL, ev_newD, ev_join, ev_fld, exec_asg, exec_setI, exec_setF, exec_aug, exec_mut, exec_ifs, exec_ret, exec_retn, exec_brk, exec_cont, exec_exp, exec_rai, exec_fg, exec_pas, evT, evs, evTAnd, evTOr, evAnd, evOr, evP, evSrc, bo, bnd, frzAll, esT, esTs, esO, esc, escs, esS, escS, opd, opn, look, peek, ofO, cmpD, truthD, thenK, sweep, fresh, asgK, asgT, asgTs, put, binD, b1D, b2D, ixD, ixN, atI_0, atI_1, atI_2, atI_3, atI_4, eqv, eqvs, shp, shps, setK, setX, setOb, isVar, unset, cellOf, frz, valOf, forL, forK, isiD, items, seqs, lenD, fldD, isIns, isNon, f19, b19, k0, k1, k2, k3, k4, Tr.D, hk2], ha.mono⟩
              · exact ⟨r.D, by simp [runF, ss, es, ts, gs, execs, ev_var, ev_kon, ev_glb, ev_bin, ev_neg, ev_cmp, ev_chn, ev_and, ev_or, ev_not, ev_ife, ev_call, ev_callk, ev_mth, ev_mk, ev_b1, ev_b2, ev_isi, ev_ix, ev_sl, ev_lst, ev_tup, ev_newL, ev_newD, ev_join, ev_fld, exec_asg, exec_setI, exec_setF, exec_aug, exec_mut, exec_ifs, exec_ret, exec_retn, exec_brk, exec_cont, exec_exp, exec_rai, exec_fg, exec_pas, evT, evs, evTAnd, evTOr, evAnd, evOr, evP, evSrc, bo, bnd, frzAll, esT, esTs, esO, esc, escs, esS, escS, opd, opn, look, peek, ofO, cmpD, truthD, thenK, sweep, fresh, asgK, asgT, asgTs, put, binD, b1D, b2D, ixD, ixN, atI_0, atI_1, atI_2, atI_3, atI_4, eqv, eqvs, shp, shps, setK, setX, setOb, isVar, unset, cellOf, frz, valOf, forL, forK, isiD, items, seqs, lenD, fldD, isIns, isNon, f19, b19, k0, k1, k2, k3, k4, Tr.D, hk2], hb.mono⟩
            · by_cases k5 : kd = 5
              · exact ⟨_, by simp [runF, ss, es, ts, gs, execs, ev_var, ev_kon, ev_glb, ev_bin, ev_neg, ev_cmp, ev_chn, ev_and, ev_or, ev_not, ev_ife, ev_call, ev_callk, ev_mth, ev_mk, ev_b1, ev_b2, ev_isi, ev_ix, ev_sl, ev_lst, ev_tup, ev_newL, ev_newD, ev_join, ev_fld, exec_asg, exec_setI, exec_setF, exec_aug, exec_mut, exec_ifs, exec_ret, exec_retn, exec_brk, exec_cont, exec_exp, exec_rai, exec_fg, exec_pas, evT, evs, evTAnd, evTOr, evAnd, evOr, evP, evSrc, bo, bnd, frzAll, esT, esTs, esO, esc, escs, esS, escS, opd, opn, look, peek, ofO, cmpD, truthD, thenK, sweep, fresh, asgK, asgT, asgTs, put, binD, b1D, b2D, ixD, ixN, atI_0, atI_1, atI_2, atI_3, atI_4, eqv, eqvs, shp, shps, setK, setX, setOb, isVar, unset, cellOf, frz, valOf, forL, forK, isiD, items, seqs, lenD, fldD, isIns, isNon, f19, b19, k0, k1, k2, k3, k4, k5, Tr.D]; rfl, by simp [Pl_tup, Pl.int, ha, hb]⟩
              · by_cases k6 : kd = 6
                · exact ⟨_, by simp [runF, ss, es, ts, gs, execs, ev_var, ev_kon, ev_glb, ev_bin, ev_neg, ev_cmp, ev_chn, ev_and, ev_or, ev_not, ev_ife, ev_call, ev_callk, ev_mth, ev_mk, ev_b1, ev_b2, ev_isi, ev_ix, ev_sl, ev_lst, ev_tup, ev_newL, ev_newD, ev_join, ev_fld, exec_asg, exec_setI, exec_setF, exec_aug, exec_mut, exec_ifs, exec_ret, exec_retn, exec_brk, exec_cont, exec_exp, exec_rai, exec_fg, exec_pas, evT, evs, evTAnd, evTOr, evAnd, evOr, evP, evSrc, bo, bnd, frzAll, esT, esTs, esO, esc, escs, esS, escS, opd, opn, look, peek, ofO, cmpD, truthD, thenK, sweep, fresh, asgK, asgT, asgTs, put, binD, b1D, b2D, ixD, ixN, atI_0, atI_1, atI_2, atI_3, atI_4, eqv, eqvs, shp, shps, setK, setX, setOb, isVar, unset, cellOf, frz, valOf, forL, forK, isiD, items, seqs, lenD, fldD, isIns, isNon, f19, b19, k0, k1, k2, k3, k4, k5, k6, Tr.D, h1, h2]; rfl, by simp [Pl_tup, Pl.int, ha, hb]⟩
                · exact ⟨_, by simp [runF, ss, es, ts, gs, execs, ev_var, ev_kon, ev_glb, ev_bin, ev_neg, ev_cmp, ev_chn, ev_and, ev_or, ev_not, ev_ife, ev_call, ev_callk, ev_mth, ev_mk, ev_b1, ev_b2, ev_isi, ev_ix, ev_sl, ev_lst, ev_tup, ev_newL, ev_newD, ev_join, ev_fld, exec_asg, exec_setI, exec_setF, exec_aug, exec_mut, exec_ifs, exec_ret, exec_retn, exec_brk, exec_cont, exec_exp, exec_rai, exec_fg, exec_pas, evT, evs, evTAnd, evTOr, evAnd, evOr, evP, evSrc, bo, bnd, frzAll, esT, esTs, esO, esc, escs, esS, escS, opd, opn, look, peek, ofO, cmpD, truthD, thenK, sweep, fresh, asgK, asgT, asgTs, put, binD, b1D, b2D, ixD, ixN, atI_0, atI_1, atI_2, atI_3, atI_4, eqv, eqvs, shp, shps, setK, setX, setOb, isVar, unset, cellOf, frz, valOf, forL, forK, isiD, items, seqs, lenD, fldD, isIns, isNon, f19, b19, k0, k1, k2, k3, k4, k5, k6, Tr.D, hwl, hw0]; rfl, by simp [Pl_tup, Pl.int, ha, hb]⟩
theorem c8 (n pl : Nat) (ws : List (List Nat)) (kd k : Int) (t : T) (hw : Wd ws pl) (hw0 : 0 < ws.length) (hpl : pl ≤ 10) (hm : ws.length ≤ 10) (h0 : 0 ≤ k) : ∀ (tr : Tr) (ways : List Int), tr.In pl ws.length → tr.ht ≤ 15 → ∃ x, call prg (n + tr.ht + 3) 8 [.tup (ws.map .str), tr.D, .lst (ways.map .int), .int kd, .int k] t = .ok x t ∧ Pl (tr.ht + 2) x
  | .leaf q, ways, hi, hh => by
    obtain ⟨x, e, hx⟩ := c19 n pl ws (.leaf q) kd k t hw hw0 hpl hm hi hh h0
    refine ⟨x, ?_, hx⟩
    show call prg (n + 2 + 1) 8 _ t = _
    rw [cS 8 f8 rfl]
    have e : call prg (n + 2) 19 [.tup (ws.map .str), .int q, .int kd, .int k] t = .ok x t := e
    simp [runF, ss, es, ts, gs, execs, ev_var, ev_kon, ev_glb, ev_bin, ev_neg, ev_cmp, ev_chn, ev_and, ev_or, ev_not, ev_ife, ev_call, ev_callk, ev_mth, ev_mk, ev_b1, ev_b2, ev_isi, ev_ix, ev_sl, ev_lst, ev_tup, ev_newL, ev_newD, ev_join, ev_fld, exec_asg, exec_setI, exec_setF, exec_aug, exec_mut, exec_ifs, exec_ret, exec_retn, exec_brk, exec_cont, exec_exp, exec_rai, exec_fg, exec_pas, evT, evs, evTAnd, evTOr, evAnd, evOr, evP, evSrc, bo, bnd, frzAll, esT, esTs, esO, esc, escs, esS, escS, opd, opn, look, peek, ofO, cmpD, truthD, thenK, sweep, fresh, asgK, asgT, asgTs, put, binD, b1D, b2D, ixD, ixN, atI_0, atI_1, atI_2, atI_3, atI_4, eqv, eqvs, shp, shps, setK, setX, setOb, isVar, unset, cellOf, frz, valOf, forL, forK, isiD, items, seqs, lenD, fldD, isIns, isNon, f8, b8, Tr.D, e]
  | .node p l r, ways, hi, hh => by
    have hh' : max l.ht r.ht + 1 ≤ 15 := hh
    have eN : n + (Tr.node p l r).ht + 3 = (n + max l.ht r.ht + 3) + 1 := by show n + (max l.ht r.ht + 1) + 3 = _; omega
    have ha := Pl.tr l ((Tr.node p l r).ht + 1) (by show l.ht ≤ max l.ht r.ht + 1 + 1; omega)
    have hb := Pl.tr r ((Tr.node p l r).ht + 1) (by show r.ht ≤ max l.ht r.ht + 1 + 1; omega)
    rw [eN, cS 8 f8 rfl]
    cases ways with
    | nil =>
      obtain ⟨x, e, hx⟩ := c19 (n + max l.ht r.ht + 1) pl ws (.node p l r) kd k t hw hw0 hpl hm hi hh h0
      refine ⟨x, ?_, hx⟩
      have e : call prg (n + max l.ht r.ht + 3) 19 [.tup (ws.map .str), .tup [.int p, l.D, r.D], .int kd, .int k] t = .ok x t := e
      simp [runF, ss, es, ts, gs, execs, ev_var, ev_kon, ev_glb, ev_bin, ev_neg, ev_cmp, ev_chn, ev_and, ev_or, ev_not, ev_ife, ev_call, ev_callk, ev_mth, ev_mk, ev_b1, ev_b2, ev_isi, ev_ix, ev_sl, ev_lst, ev_tup, ev_newL, ev_newD, ev_join, ev_fld, exec_asg, exec_setI, exec_setF, exec_aug, exec_mut, exec_ifs, exec_ret, exec_retn, exec_brk, exec_cont, exec_exp, exec_rai, exec_fg, exec_pas, evT, evs, evTAnd, evTOr, evAnd, evOr, evP, evSrc, bo, bnd, frzAll, esT, esTs, esO, esc, escs, esS, escS, opd, opn, look, peek, ofO, cmpD, truthD, thenK, sweep, fresh, asgK, asgT, asgTs, put, binD, b1D, b2D, ixD, ixN, atI_0, atI_1, atI_2, atI_3, atI_4, eqv, eqvs, shp, shps, setK, setX, setOb, isVar, unset, cellOf, frz, valOf, forL, forK, isiD, items, seqs, lenD, fldD, isIns, isNon, f8, b8, Tr.D, e]
    | cons a ways =>
      have hs := shps_ints 59 ways
      have htk : (ways.map D.int).take ways.length = ways.map .int := List.take_of_length_le (by rw [List.length_map]; exact Nat.le_refl _)
      by_cases ha0 : a = 0
      · obtain ⟨x, e, hx⟩ := c8 (n + (max l.ht r.ht - l.ht)) pl ws kd k t hw hw0 hpl hm h0 l ways hi.2.1 (by omega)
        rw [show n + (max l.ht r.ht - l.ht) + l.ht + 3 = n + max l.ht r.ht + 3 by omega] at e
        refine ⟨.tup [.int p, x, r.D], ?_, Pl.tup ?_⟩
        · simp [runF, ss, es, ts, gs, execs, ev_var, ev_kon, ev_glb, ev_bin, ev_neg, ev_cmp, ev_chn, ev_and, ev_or, ev_not, ev_ife, ev_call, ev_callk, ev_mth, ev_mk, ev_b1, ev_b2, ev_isi, ev_ix, ev_sl, ev_lst, ev_tup, ev_newL, ev_newD, ev_join, ev_fld, exec_asg, exec_setI, exec_setF, exec_aug, exec_mut, exec_ifs, exec_ret, exec_retn, exec_brk, exec_cont, exec_exp, exec_rai, exec_fg, exec_pas, evT, evs, evTAnd, evTOr, evAnd, evOr, evP, evSrc, bo, bnd, frzAll, esT, esTs, esO, esc, escs, esS, escS, opd, opn, look, peek, ofO, cmpD, truthD, thenK, sweep, fresh, asgK, asgT, asgTs, put, binD, b1D, b2D, ixD, ixN, atI_0, atI_1, atI_2, atI_3, atI_4, eqv, eqvs, shp, shps, setK, setX, setOb, isVar, unset, cellOf, frz, valOf, forL, forK, isiD, items, seqs, lenD, fldD, isIns, isNon, f8, b8, Tr.D, hs, ha0, sIx, cut, cutD, htk, e]
        · have hx' : Pl ((Tr.node p l r).ht + 1) x := hx.le (by show l.ht + 2 ≤ max l.ht r.ht + 1 + 1; omega)
          simp [Pl.int, hx', hb]
      · obtain ⟨x, e, hx⟩ := c8 (n + (max l.ht r.ht - r.ht)) pl ws kd k t hw hw0 hpl hm h0 r ways hi.2.2 (by omega)
        rw [show n + (max l.ht r.ht - r.ht) + r.ht + 3 = n + max l.ht r.ht + 3 by omega] at e
        refine ⟨.tup [.int p, l.D, x], ?_, Pl.tup ?_⟩
        · simp [runF, ss, es, ts, gs, execs, ev_var, ev_kon, ev_glb, ev_bin, ev_neg, ev_cmp, ev_chn, ev_and, ev_or, ev_not, ev_ife, ev_call, ev_callk, ev_mth, ev_mk, ev_b1, ev_b2, ev_isi, ev_ix, ev_sl, ev_lst, ev_tup, ev_newL, ev_newD, ev_join, ev_fld, exec_asg, exec_setI, exec_setF, exec_aug, exec_mut, exec_ifs, exec_ret, exec_retn, exec_brk, exec_cont, exec_exp, exec_rai, exec_fg, exec_pas, evT, evs, evTAnd, evTOr, evAnd, evOr, evP, evSrc, bo, bnd, frzAll, esT, esTs, esO, esc, escs, esS, escS, opd, opn, look, peek, ofO, cmpD, truthD, thenK, sweep, fresh, asgK, asgT, asgTs, put, binD, b1D, b2D, ixD, ixN, atI_0, atI_1, atI_2, atI_3, atI_4, eqv, eqvs, shp, shps, setK, setX, setOb, isVar, unset, cellOf, frz, valOf, forL, forK, isiD, items, seqs, lenD, fldD, isIns, isNon, f8, b8, Tr.D, hs, ha0, sIx, cut, cutD, htk, e]
        · have hx' : Pl ((Tr.node p l r).ht + 1) x := hx.le (by show r.ht + 2 ≤ max l.ht r.ht + 1 + 1; omega)
          simp [Pl.int, hx', ha]
theorem c10 (n pl m : Nat) (a b : Nat) (t : T) (ha : a < m) (hb : b < m) : ∀ (tr : Tr), tr.In pl m → ∃ tr' : Tr, call prg (n + tr.ht + 1) 10 [tr.D, .int a, .int b] t = .ok tr'.D t ∧ tr'.In pl m ∧ tr'.ht = tr.ht
  | .leaf q, hi => by
    show ∃ tr' : Tr, call prg (n + 1) 10 _ t = _ ∧ _
    rw [cS 10 f10 rfl]
    by_cases h1 : q = a
    · exact ⟨.leaf b, by simp [runF, ss, es, ts, gs, execs, ev_var, ev_kon, ev_glb, ev_bin, ev_neg, ev_cmp, ev_chn, ev_and, ev_or, ev_not, ev_ife, ev_call, ev_callk, ev_mth, ev_mk, ev_b1, ev_b2, ev_isi, ev_ix, ev_sl, ev_lst, ev_tup, ev_newL, ev_newD, ev_join, ev_fld, exec_asg, exec_setI, exec_setF, exec_aug, exec_mut, exec_ifs, exec_ret, exec_retn, exec_brk, exec_cont, exec_exp, exec_rai, exec_fg, exec_pas, evT, evs, evTAnd, evTOr, evAnd, evOr, evP, evSrc, bo, bnd, frzAll, esT, esTs, esO, esc, escs, esS, escS, opd, opn, look, peek, ofO, cmpD, truthD, thenK, sweep, fresh, asgK, asgT, asgTs, put, binD, b1D, b2D, ixD, ixN, atI_0, atI_1, atI_2, atI_3, atI_4, eqv, eqvs, shp, shps, setK, setX, setOb, isVar, unset, cellOf, frz, valOf, forL, forK, isiD, items, seqs, lenD, fldD, isIns, isNon, f10, b10, Tr.D, h1], hb, rfl⟩
    · by_cases h2 : q = b
      · refine ⟨.leaf a, ?_, ha, rfl⟩
        have h3 : ¬ (q : Int) = a := by omega
        have h4 : (q : Int) = b := by omega
        have h5 : ¬ (b : Int) = a := by omega
        simp [runF, ss, es, ts, gs, execs, ev_var, ev_kon, ev_glb, ev_bin, ev_neg, ev_cmp, ev_chn, ev_and, ev_or, ev_not, ev_ife, ev_call, ev_callk, ev_mth, ev_mk, ev_b1, ev_b2, ev_isi, ev_ix, ev_sl, ev_lst, ev_tup, ev_newL, ev_newD, ev_join, ev_fld, exec_asg, exec_setI, exec_setF, exec_aug, exec_mut, exec_ifs, exec_ret, exec_retn, exec_brk, exec_cont, exec_exp, exec_rai, exec_fg, exec_pas, evT, evs, evTAnd, evTOr, evAnd, evOr, evP, evSrc, bo, bnd, frzAll, esT, esTs, esO, esc, escs, esS, escS, opd, opn, look, peek, ofO, cmpD, truthD, thenK, sweep, fresh, asgK, asgT, asgTs, put, binD, b1D, b2D, ixD, ixN, atI_0, atI_1, atI_2, atI_3, atI_4, eqv, eqvs, shp, shps, setK, setX, setOb, isVar, unset, cellOf, frz, valOf, forL, forK, isiD, items, seqs, lenD, fldD, isIns, isNon, f10, b10, Tr.D, h4, h5]
      · refine ⟨.leaf q, ?_, hi, rfl⟩
        have h3 : ¬ (q : Int) = a := by omega
        have h4 : ¬ (q : Int) = b := by omega
        simp [runF, ss, es, ts, gs, execs, ev_var, ev_kon, ev_glb, ev_bin, ev_neg, ev_cmp, ev_chn, ev_and, ev_or, ev_not, ev_ife, ev_call, ev_callk, ev_mth, ev_mk, ev_b1, ev_b2, ev_isi, ev_ix, ev_sl, ev_lst, ev_tup, ev_newL, ev_newD, ev_join, ev_fld, exec_asg, exec_setI, exec_setF, exec_aug, exec_mut, exec_ifs, exec_ret, exec_retn, exec_brk, exec_cont, exec_exp, exec_rai, exec_fg, exec_pas, evT, evs, evTAnd, evTOr, evAnd, evOr, evP, evSrc, bo, bnd, frzAll, esT, esTs, esO, esc, escs, esS, escS, opd, opn, look, peek, ofO, cmpD, truthD, thenK, sweep, fresh, asgK, asgT, asgTs, put, binD, b1D, b2D, ixD, ixN, atI_0, atI_1, atI_2, atI_3, atI_4, eqv, eqvs, shp, shps, setK, setX, setOb, isVar, unset, cellOf, frz, valOf, forL, forK, isiD, items, seqs, lenD, fldD, isIns, isNon, f10, b10, Tr.D, h3, h4]
  | .node p l r, hi => by
    have eN : n + (Tr.node p l r).ht + 1 = (n + max l.ht r.ht + 1) + 1 := by show n + (max l.ht r.ht + 1) + 1 = _; omega
    obtain ⟨l', e1, i1, j1⟩ := c10 (n + (max l.ht r.ht - l.ht)) pl m a b t ha hb l hi.2.1
    obtain ⟨r', e2, i2, j2⟩ := c10 (n + (max l.ht r.ht - r.ht)) pl m a b t ha hb r hi.2.2
    rw [show n + (max l.ht r.ht - l.ht) + l.ht + 1 = n + max l.ht r.ht + 1 by omega] at e1
    rw [show n + (max l.ht r.ht - r.ht) + r.ht + 1 = n + max l.ht r.ht + 1 by omega] at e2
    refine ⟨.node p l' r', ?_, ⟨hi.1, i1, i2⟩, by show max l'.ht r'.ht + 1 = max l.ht r.ht + 1; rw [j1, j2]⟩
    rw [eN, cS 10 f10 rfl]
    simp [runF, ss, es, ts, gs, execs, ev_var, ev_kon, ev_glb, ev_bin, ev_neg, ev_cmp, ev_chn, ev_and, ev_or, ev_not, ev_ife, ev_call, ev_callk, ev_mth, ev_mk, ev_b1, ev_b2, ev_isi, ev_ix, ev_sl, ev_lst, ev_tup, ev_newL, ev_newD, ev_join, ev_fld, exec_asg, exec_setI, exec_setF, exec_aug, exec_mut, exec_ifs, exec_ret, exec_retn, exec_brk, exec_cont, exec_exp, exec_rai, exec_fg, exec_pas, evT, evs, evTAnd, evTOr, evAnd, evOr, evP, evSrc, bo, bnd, frzAll, esT, esTs, esO, esc, escs, esS, escS, opd, opn, look, peek, ofO, cmpD, truthD, thenK, sweep, fresh, asgK, asgT, asgTs, put, binD, b1D, b2D, ixD, ixN, atI_0, atI_1, atI_2, atI_3, atI_4, eqv, eqvs, shp, shps, setK, setX, setOb, isVar, unset, cellOf, frz, valOf, forL, forK, isiD, items, seqs, lenD, fldD, isIns, isNon, f10, b10, Tr.D, e1, e2]
end K94
set_option maxRecDepth 100000
set_option linter.all false
set_option autoImplicit false
namespace K94
open Pd
theorem c6 (n : Nat) (a b : Bool) (t : T) : call prg (n + 1) 6 [.bl a, .bl b] t = .ok (.bl (a == b)) t := by
  rw [cS 6 f6 rfl]
  cases a <;> cases b <;> simp [runF, ss, es, ts, gs, execs, ev_var, ev_kon, ev_glb, ev_bin, ev_neg, ev_cmp, ev_chn, ev_and, ev_or, ev_not, ev_ife, ev_call, ev_callk, ev_mth, ev_mk, ev_b1, ev_b2, ev_isi, ev_ix, ev_sl, ev_lst, ev_tup, ev_newL, ev_newD, ev_join, ev_fld, exec_asg, exec_setI, exec_setF, exec_aug, exec_mut, exec_ifs, exec_ret, exec_retn, exec_brk, exec_cont, exec_exp, exec_rai, exec_fg, exec_pas, evT, evs, evTAnd, evTOr, evAnd, evOr, evP, evSrc, bo, bnd, frzAll, esT, esTs, esO, esc, escs, esS, escS, opd, opn, look, peek, ofO, cmpD, truthD, thenK, sweep, fresh, asgK, asgT, asgTs, put, binD, b1D, b2D, ixD, ixN, atI_0, atI_1, atI_2, atI_3, atI_4, eqv, eqvs, shp, shps, setK, setX, setOb, isVar, unset, cellOf, frz, valOf, forL, forK, isiD, items, seqs, lenD, fldD, isIns, isNon, f6, b6]
theorem eqvs_strs : ∀ ws : List (List Nat), eqvs (ws.map .str) (ws.map .str) = true
  | [] => rfl
  | w :: ws => by
    show ((w == w) && eqvs (ws.map .str) (ws.map .str)) = true
    rw [eqvs_strs ws]; simp
theorem shps_strs (k : Nat) : ∀ ws : List (List Nat), shps k (ws.map .str) = true
  | [] => by simp [shps]
  | w :: ws => by
    show (shp k (.str w) && shps k (ws.map .str)) = true
    rw [shps_strs k ws]; cases k <;> rfl
theorem c9 (s n pl : Nat) (ws : List (List Nat)) (o : Ob) (x : D) (k : Int) (hs : s ≤ 20) (hw : Wd ws pl) (h0 : 0 < ws.length) (h9 : ws.length ≤ 1000) (nd : ws.Nodup) (ho : lowO 1 o = true) (hx : Pl s x) (k0 : 0 ≤ k) (k1 : k ≤ 100) :
    call prg (n + s + 7) 9 [.tup (ws.map .str), x, .int k] [o] = .ok (.bl true) [o] := by
  rw [cS 9 f9 rfl]
  have i1 := c5 ws pl [o] hw h0 s (n + 4) x (List.range ws.length) hx (fun q hq => List.mem_range.mp hq)
  rw [show n + 4 + s + 2 = n + s + 6 by omega] at i1
  have i2 := c7 s n pl false ws o x k hs hw h0 h9 nd ho hx k0 k1
  simp only [mkR, Bool.false_eq_true, if_false] at i2
  have i3 := fun a b => c6 (n + s + 5) a b [o]
  have hr := range0_LN ws.length
  have hl1 : (-1000000 : Int) ≤ ws.length := by omega
  have hl2 : (ws.length : Int) ≤ 1000000 := by omega
  have i4 := eqvs_strs ws
  have i5 := shps_strs 59 ws
  simp [runF, ss, es, ts, gs, execs, ev_var, ev_kon, ev_glb, ev_bin, ev_neg, ev_cmp, ev_chn, ev_and, ev_or, ev_not, ev_ife, ev_call, ev_callk, ev_mth, ev_mk, ev_b1, ev_b2, ev_isi, ev_ix, ev_sl, ev_lst, ev_tup, ev_newL, ev_newD, ev_join, ev_fld, exec_asg, exec_setI, exec_setF, exec_aug, exec_mut, exec_ifs, exec_ret, exec_retn, exec_brk, exec_cont, exec_exp, exec_rai, exec_fg, exec_pas, evT, evs, evTAnd, evTOr, evAnd, evOr, evP, evSrc, bo, bnd, frzAll, esT, esTs, esO, esc, escs, esS, escS, opd, opn, look, peek, ofO, cmpD, truthD, thenK, sweep, fresh, asgK, asgT, asgTs, put, binD, b1D, b2D, ixD, ixN, atI_0, atI_1, atI_2, atI_3, atI_4, eqv, eqvs, shp, shps, setK, setX, setOb, isVar, unset, cellOf, frz, valOf, forL, forK, isiD, items, seqs, lenD, fldD, isIns, isNon, f9, b9, i1, i2, i3, hr, hl1, hl2, i4, i5]
section
variable (ws : List (List Nat)) (pl : Nat)
def Good (l : List Nat) (tr : Tr) : Prop := ∀ s, tr.ht ≤ s → wk ws pl (s + 1) tr.D l = tr.ht
end
theorem good_leaf (ws : List (List Nat)) (pl q : Nat) : Good ws pl [q] (.leaf q) := fun s _ => by
  show (if isOne [q] (q : Int) then (0 : Int) else 999) = 0
  simp [isOne]
theorem good_node (ws : List (List Nat)) (pl p : Nat) (l : List Nat) (a b : Tr) (hp : p < pl) (h1 : side ws p 48 l ≠ []) (h2 : side ws p 49 l ≠ []) (ga : Good ws pl (side ws p 48 l) a) (gb : Good ws pl (side ws p 49 l) b) : Good ws pl l (.node p a b) := fun s hs => by
  have hs : max a.ht b.ht + 1 ≤ s := hs
  obtain ⟨s', rfl⟩ : ∃ s', s = s' + 1 := ⟨s - 1, by omega⟩
  have e1 := ga s' (by omega)
  have e2 := gb s' (by omega)
  have z1 : (side ws p 48 l).isEmpty = false := by cases h : side ws p 48 l with
    | nil => exact absurd h h1
    | cons _ _ => rfl
  have z2 : (side ws p 49 l).isEmpty = false := by cases h : side ws p 49 l with
    | nil => exact absurd h h2
    | cons _ _ => rfl
  have e : wk ws pl (s' + 1 + 1) (Tr.node p a b).D l = if 0 ≤ (p : Int) ∧ (p : Int) < pl then (if (side ws p 48 l).isEmpty || (side ws p 49 l).isEmpty then 999 else
        1 + (if wk ws pl (s' + 1) b.D (side ws p 49 l) > wk ws pl (s' + 1) a.D (side ws p 48 l) then wk ws pl (s' + 1) b.D (side ws p 49 l) else wk ws pl (s' + 1) a.D (side ws p 48 l))) else 999 := rfl
  rw [e, if_pos ⟨by omega, by omega⟩, z1, z2, e1, e2]
  show 1 + _ = ((max a.ht b.ht + 1 : Nat) : Int)
  split <;> omega
theorem parts_ne (ws : List (List Nat)) (pl : Nat) (l : List Nat) (hw : Wd ws pl) (nd : ws.Nodup) (hl : ∀ q ∈ l, q < ws.length) (ndl : l.Nodup) (h2 : 2 ≤ l.length) : parts ws pl l ≠ [] := by
  intro h
  match l, h2, hl, ndl, h with
  | q1 :: q2 :: r, _, hl, ndl, h =>
    have m1 := hl q1 (by simp)
    have m2 := hl q2 (by simp)
    have key : ∀ k, k < pl → bit ws k q1 = bit ws k q2 := fun k hk => by
      have hn : ¬ (0 < (side ws k 48 (q1 :: q2 :: r)).length ∧ (side ws k 48 (q1 :: q2 :: r)).length < (q1 :: q2 :: r).length) := fun z => by
        have : k ∈ parts ws pl (q1 :: q2 :: r) := List.mem_filter.mpr ⟨List.mem_range.mpr hk, by simpa using z⟩
        rw [h] at this; cases this
      have pos : ∀ q ∈ (q1 :: q2 :: r), bit ws k q = 48 → 0 < (side ws k 48 (q1 :: q2 :: r)).length := fun q hq hb => by
        have : q ∈ side ws k 48 (q1 :: q2 :: r) := List.mem_filter.mpr ⟨hq, by simp [hb]⟩
        exact List.length_pos_of_mem this
      have lt : ∀ q ∈ (q1 :: q2 :: r), bit ws k q = 49 → (side ws k 48 (q1 :: q2 :: r)).length < (q1 :: q2 :: r).length := fun q hq hb => by
        unfold side
        exact List.length_filter_lt_length_iff_exists.mpr ⟨q, hq, by simp [hb]⟩
      rcases bit_or hw m1 hk with b1 | b1 <;> rcases bit_or hw m2 hk with b2 | b2
      · rw [b1, b2]
      · exact absurd ⟨pos q1 (by simp) b1, lt q2 (by simp) b2⟩ hn
      · exact absurd ⟨pos q2 (by simp) b2, lt q1 (by simp) b1⟩ hn
      · rw [b1, b2]
    have e : wAt ws q1 = wAt ws q2 := by
      have l1 := hw.len _ (wAt_mem m1)
      have l2 := hw.len _ (wAt_mem m2)
      refine List.ext_getElem (by rw [l1, l2]) fun i h1 h2 => ?_
      have := key i (by rw [← l1]; exact h1)
      unfold bit cAt at this
      rw [List.getElem?_eq_getElem h1, List.getElem?_eq_getElem h2] at this
      exact this
    unfold wAt at e
    rw [List.getElem?_eq_getElem m1, List.getElem?_eq_getElem m2] at e
    have := (List.getElem_inj nd).mp e
    rw [List.nodup_cons] at ndl
    exact ndl.1 (by rw [this]; simp)
theorem side_sum {ws : List (List Nat)} {pl p : Nat} {l : List Nat} (hw : Wd ws pl) (hp : p < pl) (hl : ∀ q ∈ l, q < ws.length) : (side ws p 48 l).length + (side ws p 49 l).length = l.length := by
  have := (side_perm hw hp hl).length_eq
  rwa [List.length_append] at this
theorem c4 (n pl : Nat) (ws : List (List Nat)) (hw : Wd ws pl) (h0 : 0 < ws.length) (nd : ws.Nodup) (hpl : pl ≤ 1000) : ∀ (N : Nat) (l : List Nat) (p : Pool) (b : Int), l.length ≤ N → l ≠ [] → l.Nodup → (∀ q ∈ l, q < ws.length) → Ok p b → b + 2 * l.length < 1000000 →
    ∃ tr p', call prg (n + N + 3) 4 [.obj 0, .tup (ws.map .str), .lst (LN l)] p.t = .ok tr.D (Pool.t p') ∧ Ok p' (b + 2 * l.length - 2) ∧ tr.In pl ws.length ∧ tr.ht + 1 ≤ l.length ∧ Good ws pl l tr := by
  intro N
  induction N with
  | zero => intro l p b h1 h2; exact absurd (List.length_eq_zero_iff.mp (by omega)) h2
  | succ N ih =>
    intro l p b hN hne ndl hl o hb
    rw [show n + (N + 1) + 3 = n + N + 3 + 1 by omega, cS 4 f4 rfl]
    by_cases h1 : l.length = 1
    · obtain ⟨q, rfl⟩ := List.length_eq_one_iff.mp h1
      refine ⟨.leaf q, p, ?_, ⟨o.i, o.l, o.c, o.d.1, by have := o.d.2; simp; omega⟩, hl q (by simp), by simp [Tr.ht], good_leaf ws pl q⟩
      simp [runF, ss, es, ts, gs, execs, ev_var, ev_kon, ev_glb, ev_bin, ev_neg, ev_cmp, ev_chn, ev_and, ev_or, ev_not, ev_ife, ev_call, ev_callk, ev_mth, ev_mk, ev_b1, ev_b2, ev_isi, ev_ix, ev_sl, ev_lst, ev_tup, ev_newL, ev_newD, ev_join, ev_fld, exec_asg, exec_setI, exec_setF, exec_aug, exec_mut, exec_ifs, exec_ret, exec_retn, exec_brk, exec_cont, exec_exp, exec_rai, exec_fg, exec_pas, evT, evs, evTAnd, evTOr, evAnd, evOr, evP, evSrc, bo, bnd, frzAll, esT, esTs, esO, esc, escs, esS, escS, opd, opn, look, peek, ofO, cmpD, truthD, thenK, sweep, fresh, asgK, asgT, asgTs, put, binD, b1D, b2D, ixD, ixN, atI_0, atI_1, atI_2, atI_3, atI_4, eqv, eqvs, shp, shps, setK, setX, setOb, isVar, unset, cellOf, frz, valOf, forL, forK, isiD, items, seqs, lenD, fldD, isIns, isNon, f4, b4, Tr.D]
    · have h2 : 2 ≤ l.length := by
        have : l.length ≠ 0 := fun z => hne (List.length_eq_zero_iff.mp z)
        omega
      have h1' : ¬ (l.length : Int) = 1 := by omega
      have pne := parts_ne ws pl l hw nd hl ndl h2
      have plen : 0 < (parts ws pl l).length := by
        cases hp : parts ws pl l with
        | nil => exact absurd hp pne
        | cons _ _ => simp
      have ple : (parts ws pl l).length ≤ pl := by
        have := List.length_filter_le (fun k => decide (0 < (side ws k 48 l).length ∧ (side ws k 48 l).length < l.length)) (List.range pl)
        rw [List.length_range] at this
        exact this
      have i1 := c12 (n + N + 1) ws pl l p.t hw h0 (by omega) hl
      obtain ⟨r, p1, e1, o1, r0, r1⟩ := draw (n + N + 2) p b ((parts ws pl l).length : Nat) (by omega) o (by omega)
      have i1 : call prg (n + N + 3) 12 [.tup (ws.map .str), .lst (LN l)] p.t = _ := i1
      have e1 : call prg (n + N + 3) 2 [.obj 0, .int ((parts ws pl l).length : Nat)] p.t = _ := e1
      obtain ⟨kk, rfl⟩ := Int.eq_ofNat_of_zero_le r0
      have hkk : kk < (parts ws pl l).length := by omega
      have a1 : atI (LN (parts ws pl l)) (kk : Int) = some (DN (parts ws pl l)[kk]) := by
        rw [atI_map, atI_nat, List.getElem?_eq_getElem hkk]; rfl
      have hk := List.getElem_mem hkk
      generalize (parts ws pl l)[kk] = k at a1 hk
      obtain ⟨hk1, hk2⟩ := List.mem_filter.mp hk
      have hk1 : k < pl := List.mem_range.mp hk1
      have hk2 : 0 < (side ws k 48 l).length ∧ (side ws k 48 l).length < l.length := by simpa using hk2
      have sm := side_sum hw hk1 hl
      have ne1 : side ws k 48 l ≠ [] := fun z => by rw [z] at hk2; simp at hk2
      have ne2 : side ws k 49 l ≠ [] := fun z => by rw [z] at sm; simp at sm; omega
      have j1 := fun t => c13 (n + N + 2) ws pl k 48 l t hw hk1 hl
      have j2 := fun t => c13 (n + N + 2) ws pl k 49 l t hw hk1 hl
      have j1 : ∀ t, call prg (n + N + 3) 13 [.tup (ws.map .str), .lst (LN l), .int k, .str [48]] t = .ok (.lst (LN (side ws k 48 l))) t := j1
      have j2 : ∀ t, call prg (n + N + 3) 13 [.tup (ws.map .str), .lst (LN l), .int k, .str [49]] t = .ok (.lst (LN (side ws k 49 l))) t := j2
      obtain ⟨ta, p2, g1, o2, in1, ht1, gd1⟩ := ih (side ws k 48 l) p1 (b + 2) (by omega) ne1 (ndl.sublist List.filter_sublist) (side_lt hl) o1 (by omega)
      obtain ⟨tb, p3, g2, o3, in2, ht2, gd2⟩ := ih (side ws k 49 l) p2 (b + 2 + 2 * (side ws k 48 l).length - 2) (by omega) ne2 (ndl.sublist List.filter_sublist) (side_lt hl) o2 (by omega)
      refine ⟨.node k ta tb, p3, ?_, ⟨o3.i, o3.l, o3.c, o3.d.1, ?_⟩, ⟨hk1, in1, in2⟩, by show max ta.ht tb.ht + 1 + 1 ≤ _; omega, good_node ws pl k l ta tb hk1 ne1 ne2 gd1 gd2⟩
      · have z : (LN (parts ws pl l)).length = (parts ws pl l).length := len_LN _
        have z2 : (LN l).length = l.length := len_LN _
        have h1n : ¬ l.length = 1 := h1
        simp [runF, ss, es, ts, gs, execs, ev_var, ev_kon, ev_glb, ev_bin, ev_neg, ev_cmp, ev_chn, ev_and, ev_or, ev_not, ev_ife, ev_call, ev_callk, ev_mth, ev_mk, ev_b1, ev_b2, ev_isi, ev_ix, ev_sl, ev_lst, ev_tup, ev_newL, ev_newD, ev_join, ev_fld, exec_asg, exec_setI, exec_setF, exec_aug, exec_mut, exec_ifs, exec_ret, exec_retn, exec_brk, exec_cont, exec_exp, exec_rai, exec_fg, exec_pas, evT, evs, evTAnd, evTOr, evAnd, evOr, evP, evSrc, bo, bnd, frzAll, esT, esTs, esO, esc, escs, esS, escS, opd, opn, look, peek, ofO, cmpD, truthD, thenK, sweep, fresh, asgK, asgT, asgTs, put, binD, b1D, b2D, ixD, ixN, atI_0, atI_1, atI_2, atI_3, atI_4, eqv, eqvs, shp, shps, setK, setX, setOb, isVar, unset, cellOf, frz, valOf, forL, forK, isiD, items, seqs, lenD, fldD, isIns, isNon, f4, b4, Tr.D, h1n, h1', i1, e1, a1, j1, j2, g1, g2, DN]
      · have := o3.d.2
        omega
end K94
set_option maxRecDepth 100000
set_option linter.all false
set_option autoImplicit false
namespace K94
open Pd
/-- a number's word -/
def wordN (pl x : Nat) : List Nat := (List.range pl).map fun k => 48 + x / 2 ^ (pl - 1 - k) % 2
theorem flatten_one {α : Type} (f : Nat → α) : ∀ l : List Nat, (l.map fun k => [f k]).flatten = l.map f
  | [] => rfl
  | a :: l => by rw [List.map_cons, List.flatten_cons, flatten_one f l]; rfl
theorem c11 (n pl x : Nat) (t : T) (hpl : pl ≤ 1000) : call prg (n + 1) 11 [.int x, .int pl] t = .ok (.str (wordN pl x)) t := by
  rw [cS 11 f11 rfl]
  have hr := range0_LN pl
  have e : ev (cls' n) (.comp (.rng (.var 1)) (.nm 2) [2] .yes (.ix (.kon (.str [48, 49])) (.bin .band (.bin .shr (.var 0) (.bin .sub (.bin .sub (.var 1) (.kon (.int 1))) (.var 2))) (.kon (.int 1))))) [.val (.int x), .val (.int pl), .un] t = .ok (.lst (((List.range pl).map fun k => [48 + x / 2 ^ (pl - 1 - k) % 2]).map .str)) t := by
    have e0 : ((List.range pl).map fun k => [48 + x / 2 ^ (pl - 1 - k) % 2]).map D.str = (LN (List.range pl)).map fun d => match d with
      | .int k => .str [48 + x / 2 ^ (pl - 1 - k.toNat) % 2]
      | d => d := by
      rw [LN, List.map_map, List.map_map]
      apply List.map_congr_left
      intro k _
      simp
    rw [e0]
    refine ev_comp_map _ ?_ fun d hd => ?_
    · have h1 : (pl : Int) ≤ 1000000 := by omega
      have h2 : -1000000 ≤ (pl : Int) := by omega
      simp [runF, ss, es, ts, gs, execs, ev_var, ev_kon, ev_glb, ev_bin, ev_neg, ev_cmp, ev_chn, ev_and, ev_or, ev_not, ev_ife, ev_call, ev_callk, ev_mth, ev_mk, ev_b1, ev_b2, ev_isi, ev_ix, ev_sl, ev_lst, ev_tup, ev_newL, ev_newD, ev_join, ev_fld, exec_asg, exec_setI, exec_setF, exec_aug, exec_mut, exec_ifs, exec_ret, exec_retn, exec_brk, exec_cont, exec_exp, exec_rai, exec_fg, exec_pas, evT, evs, evTAnd, evTOr, evAnd, evOr, evP, evSrc, bo, bnd, frzAll, esT, esTs, esO, esc, escs, esS, escS, opd, opn, look, peek, ofO, cmpD, truthD, thenK, sweep, fresh, asgK, asgT, asgTs, put, binD, b1D, b2D, ixD, ixN, atI_0, atI_1, atI_2, atI_3, atI_4, eqv, eqvs, shp, shps, setK, setX, setOb, isVar, unset, cellOf, frz, valOf, forL, forK, isiD, items, seqs, lenD, fldD, isIns, isNon, h1, h2, hr]
    · obtain ⟨k, hk, rfl⟩ := List.mem_map.mp hd
      have hk : k < pl := List.mem_range.mp hk
      obtain ⟨m, e2, e5⟩ : ∃ m : Nat, (pl : Int) - 1 - k = (m : Int) ∧ pl - 1 - k = m := ⟨pl - 1 - k, by omega, rfl⟩
      have e3 : (x : Int) / 2 ^ m = ((x / 2 ^ m : Nat) : Int) := by
        rw [Int.natCast_ediv, Int.natCast_pow]; rfl
      generalize hy : x / 2 ^ m = y at e3
      have e4 : atI [48, 49] ((y % 2 : Nat) : Int) = some (48 + y % 2) := by
        rw [atI_nat]
        have : y % 2 = 0 ∨ y % 2 = 1 := by omega
        rcases this with h | h <;> rw [h] <;> rfl
      have e6 : (DN k : D) = .int k := rfl
      have e7 : y &&& 1 = y % 2 := Nat.and_one_is_mod y
      generalize hz : y % 2 = z at e4 e7
      simp [turnC, runF, ss, es, ts, gs, execs, ev_var, ev_kon, ev_glb, ev_bin, ev_neg, ev_cmp, ev_chn, ev_and, ev_or, ev_not, ev_ife, ev_call, ev_callk, ev_mth, ev_mk, ev_b1, ev_b2, ev_isi, ev_ix, ev_sl, ev_lst, ev_tup, ev_newL, ev_newD, ev_join, ev_fld, exec_asg, exec_setI, exec_setF, exec_aug, exec_mut, exec_ifs, exec_ret, exec_retn, exec_brk, exec_cont, exec_exp, exec_rai, exec_fg, exec_pas, evT, evs, evTAnd, evTOr, evAnd, evOr, evP, evSrc, bo, bnd, frzAll, esT, esTs, esO, esc, escs, esS, escS, opd, opn, look, peek, ofO, cmpD, truthD, thenK, sweep, fresh, asgK, asgT, asgTs, put, binD, b1D, b2D, ixD, ixN, atI_0, atI_1, atI_2, atI_3, atI_4, eqv, eqvs, shp, shps, setK, setX, setOb, isVar, unset, cellOf, frz, valOf, forL, forK, isiD, items, seqs, lenD, fldD, isIns, isNon, e2, e3, e4, e5, e7, hy, hz]
  have hs := strsOf_map ((List.range pl).map fun k => [48 + x / 2 ^ (pl - 1 - k) % 2])
  have hf := flatten_one (fun k => 48 + x / 2 ^ (pl - 1 - k) % 2) (List.range pl)
  have hl : ((List.range pl).map fun k => 48 + x / 2 ^ (pl - 1 - k) % 2).length ≤ sz := by
    rw [List.length_map, List.length_range]; unfold sz; omega
  generalize ((List.range pl).map fun k => [48 + x / 2 ^ (pl - 1 - k) % 2]) = zz at e hs hf
  generalize hzs : zz.map D.str = zs at e hs
  have hl2 : zz.flatten.length ≤ sz := by rw [hf]; exact hl
  have hl3 : (zz.map List.length).sum ≤ sz := by rw [← List.length_flatten]; exact hl2
  simp [runF, ss, es, ts, gs, execs, ev_var, ev_kon, ev_glb, ev_bin, ev_neg, ev_cmp, ev_chn, ev_and, ev_or, ev_not, ev_ife, ev_call, ev_callk, ev_mth, ev_mk, ev_b1, ev_b2, ev_isi, ev_ix, ev_sl, ev_lst, ev_tup, ev_newL, ev_newD, ev_join, ev_fld, exec_asg, exec_setI, exec_setF, exec_aug, exec_mut, exec_ifs, exec_ret, exec_retn, exec_brk, exec_cont, exec_exp, exec_rai, exec_fg, exec_pas, evT, evs, evTAnd, evTOr, evAnd, evOr, evP, evSrc, bo, bnd, frzAll, esT, esTs, esO, esc, escs, esS, escS, opd, opn, look, peek, ofO, cmpD, truthD, thenK, sweep, fresh, asgK, asgT, asgTs, put, binD, b1D, b2D, ixD, ixN, atI_0, atI_1, atI_2, atI_3, atI_4, eqv, eqvs, shp, shps, setK, setX, setOb, isVar, unset, cellOf, frz, valOf, forL, forK, isiD, items, seqs, lenD, fldD, isIns, isNon, f11, b11, e, hs, hf, hl3, wordN]
end K94
set_option maxRecDepth 100000
set_option linter.all false
set_option autoImplicit false
namespace K94
open Pd
theorem forL_inv {f : D → Env → T → Out} {fg : List Nat} (I : Nat → Env → T → Prop) : ∀ (xs : List D) (i0 : Nat) (ρ : Env) (t : T), I i0 ρ t → (∀ i x ρ t, xs[i]? = some x → I (i0 + i) ρ t → ∃ ρ' t', f x ρ t = .nx ρ' t' ∧ I (i0 + i + 1) (unset ρ' fg) t') → ∃ ρ' t', forL f fg xs ρ t = .nx ρ' t' ∧ I (i0 + xs.length) ρ' t'
  | [], i0, ρ, t, h, _ => ⟨ρ, t, rfl, h⟩
  | x :: xs, i0, ρ, t, h, st => by
    obtain ⟨ρ1, t1, e1, h1⟩ := st 0 x ρ t rfl h
    obtain ⟨ρ2, t2, e2, h2⟩ := forL_inv I xs (i0 + 1) (unset ρ1 fg) t1 h1 fun i y ρ t hy hI => by
      obtain ⟨ρ', t', e, h'⟩ := st (i + 1) y ρ t (by simpa using hy) (by rw [← Nat.add_assoc, Nat.add_right_comm]; exact hI)
      refine ⟨ρ', t', e, ?_⟩
      rw [show i0 + 1 + i + 1 = i0 + (i + 1) + 1 by omega]; exact h'
    refine ⟨ρ2, t2, ?_, ?_⟩
    · simp only [forL, e1]; exact e2
    · rw [List.length_cons, show i0 + (xs.length + 1) = i0 + 1 + xs.length by omega]; exact h2
theorem inD_LNl (l : List Nat) (q : Nat) : inD (.int q) (.lst (LN l)) = some (decide (q ∈ l)) := by
  show (if flat (.int q) && (LN l).all flat then some ((LN l).any fun y => eqv y (.int q)) else none) = _
  rw [all_flat, any_eqv]; rfl
/-- one turn, nine turns -/
def stp (nums : List Nat) (M y : Nat) : Nat := if y ∈ nums then (y + 1) % M else y
def itr (nums : List Nat) (M y : Nat) : Nat → Nat
  | 0 => y
  | i + 1 => stp nums M (itr nums M y i)
theorem nodup_sub_len : ∀ (l m : List Nat), l.Nodup → (∀ x ∈ l, x ∈ m) → l.length ≤ m.length
  | [], m, _, _ => Nat.zero_le _
  | a :: l, m, nd, h => by
    have ha := h a (by simp)
    rw [List.nodup_cons] at nd
    have := nodup_sub_len l (m.erase a) nd.2 fun x hx => (List.mem_erase_of_ne (fun z => nd.1 (by rw [← z]; exact hx))).mpr (h x (by simp [hx]))
    rw [List.length_erase_of_mem ha] at this
    have hp : 0 < m.length := List.length_pos_of_mem ha
    rw [List.length_cons]; omega
theorem itr_free {nums : List Nat} {M y : Nat} (hM : nums.length < M) (hy : y < M) (h7 : nums.length ≤ 8) : itr nums M y 9 ∉ nums ∧ itr nums M y 9 < M := by
  have lt : ∀ i, itr nums M y i < M := fun i => by
    induction i with
    | zero => exact hy
    | succ i ih =>
      show stp nums M (itr nums M y i) < M
      unfold stp
      split
      · exact Nat.mod_lt _ (by omega)
      · exact ih
  refine ⟨fun h => ?_, lt 9⟩
  have back : ∀ i, i ≤ 9 → itr nums M y (9 - i) ∈ nums := fun i => by
    induction i with
    | zero => intro _; exact h
    | succ i ih =>
      intro hi
      have := ih (by omega)
      rw [show 9 - i = (9 - (i + 1)) + 1 by omega] at this
      cases Decidable.em (itr nums M y (9 - (i + 1)) ∈ nums) with
      | inl z => exact z
      | inr z =>
        have e : itr nums M y (9 - (i + 1) + 1) = itr nums M y (9 - (i + 1)) := if_neg z
        rw [e] at this; exact absurd this z
  have all : ∀ i, i ≤ 9 → itr nums M y i ∈ nums := fun i hi => by
    have := back (9 - i) (by omega)
    rwa [show 9 - (9 - i) = i by omega] at this
  have form : ∀ i, i ≤ 9 → itr nums M y i = (y + i) % M := fun i => by
    induction i with
    | zero => intro _; show y = (y + 0) % M; rw [Nat.add_zero, Nat.mod_eq_of_lt hy]
    | succ i ih =>
      intro hi
      have e : itr nums M y (i + 1) = (itr nums M y i + 1) % M := if_pos (all i (by omega))
      rw [e, ih (by omega)]
      rw [Nat.mod_add_mod]; rfl
  have nd : ((List.range (nums.length + 1)).map fun j => (y + j) % M).Nodup := by
    rw [List.nodup_iff_pairwise_ne, List.pairwise_map]
    refine (List.pairwise_lt_range (n := nums.length + 1)).imp_of_mem ?_
    intro a b ha hb hab
    have ha := List.mem_range.mp ha
    have hb := List.mem_range.mp hb
    intro e
    have h1 : y + a < 2 * M := by omega
    have h2 : y + b < 2 * M := by omega
    have m1 : (y + a) % M = if y + a < M then y + a else y + a - M := by
      split
      · exact Nat.mod_eq_of_lt (by assumption)
      · rw [Nat.mod_eq_sub_mod (by omega), Nat.mod_eq_of_lt (by omega)]
    have m2 : (y + b) % M = if y + b < M then y + b else y + b - M := by
      split
      · exact Nat.mod_eq_of_lt (by assumption)
      · rw [Nat.mod_eq_sub_mod (by omega), Nat.mod_eq_of_lt (by omega)]
    rw [m1, m2] at e
    split at e <;> split at e <;> omega
  have := nodup_sub_len _ nums nd fun x hx => by
    obtain ⟨j, hj, rfl⟩ := List.mem_map.mp hx
    have hj := List.mem_range.mp hj
    rw [← form j (by omega)]
    exact all j (by omega)
  rw [List.length_map, List.length_range] at this
  omega
def inBody : Ss := ss [(.ifs (.val (.cmp .isin (.var 6) (.var 3))) (ss [(.asg (.nm 6) (.bin .mod (.b1 .int (.bin .add (.var 6) (.kon (.int 1)))) (.bin .shl (.kon (.int 1)) (.var 2))))]) (ss []))]
theorem inner (cl : Calls) (nums : List Nat) (M pl y : Nat) (c0 c1 c4 c5 : Cell) (t : T) (hM : M = 2 ^ pl) (hpl : pl ≤ 1000) : ∃ ρ' t', forL (forK (.nm 7) fun ρ t => execs cl inBody ρ t) [7] (range0 9) [c0, c1, .val (.int pl), .own (LN nums), c4, c5, .val (.int y), .un] t = .nx ρ' t' ∧ ρ' = [c0, c1, .val (.int pl), .own (LN nums), c4, c5, .val (.int (itr nums M y 9)), .un] ∧ t' = t := by
  have hM0 : 0 < M := by rw [hM]; exact Nat.two_pow_pos pl
  have h := forL_inv (f := forK (.nm 7) fun ρ t => execs cl inBody ρ t) (fg := [7]) (fun i ρ t' => ρ = [c0, c1, .val (.int pl), .own (LN nums), c4, c5, .val (.int (itr nums M y i)), .un] ∧ t' = t) (range0 9) 0 [c0, c1, .val (.int pl), .own (LN nums), c4, c5, .val (.int y), .un] t ⟨rfl, rfl⟩ (fun i x ρ t' hx hI => by
    obtain ⟨rfl, rfl⟩ := hI
    rw [Nat.zero_add]
    have h1 := inD_LNl nums (itr nums M y i)
    have h2 : (2 : Int) ^ pl = (M : Int) := by rw [hM, Int.natCast_pow]; rfl
    have h3 : (pl : Int) ≤ 1000000 := by omega
    have h4 : (0 : Int) < M := by omega
    generalize hz : itr nums M y i = z at h1
    by_cases hm : z ∈ nums
    · have e : itr nums M y (i + 1) = (z + 1) % M := by
        show stp nums M (itr nums M y i) = _
        rw [hz]; exact if_pos hm
      obtain ⟨v, e2, e3⟩ : ∃ v : Nat, ((z : Int) + 1) % M = (v : Int) ∧ (z + 1) % M = v := ⟨(z + 1) % M, by rw [Int.natCast_emod]; rfl, rfl⟩
      refine ⟨[c0, c1, .val (.int pl), .own (LN nums), c4, c5, .val (.int v), .val x], t', by simp [runF, ss, es, ts, gs, execs, ev_var, ev_kon, ev_glb, ev_bin, ev_neg, ev_cmp, ev_chn, ev_and, ev_or, ev_not, ev_ife, ev_call, ev_callk, ev_mth, ev_mk, ev_b1, ev_b2, ev_isi, ev_ix, ev_sl, ev_lst, ev_tup, ev_newL, ev_newD, ev_join, ev_fld, exec_asg, exec_setI, exec_setF, exec_aug, exec_mut, exec_ifs, exec_ret, exec_retn, exec_brk, exec_cont, exec_exp, exec_rai, exec_fg, exec_pas, evT, evs, evTAnd, evTOr, evAnd, evOr, evP, evSrc, bo, bnd, frzAll, esT, esTs, esO, esc, escs, esS, escS, opd, opn, look, peek, ofO, cmpD, truthD, thenK, sweep, fresh, asgK, asgT, asgTs, put, binD, b1D, b2D, ixD, ixN, atI_0, atI_1, atI_2, atI_3, atI_4, eqv, eqvs, shp, shps, setK, setX, setOb, isVar, unset, cellOf, frz, valOf, forL, forK, isiD, items, seqs, lenD, fldD, isIns, isNon, inBody, h1, hm, h2, h3, h4, hM0, e2], ?_, rfl⟩
      rw [e, e3]; rfl
    · have e : itr nums M y (i + 1) = z := by
        show stp nums M (itr nums M y i) = _
        rw [hz]; exact if_neg hm
      refine ⟨[c0, c1, .val (.int pl), .own (LN nums), c4, c5, .val (.int z), .val x], t', by simp [runF, ss, es, ts, gs, execs, ev_var, ev_kon, ev_glb, ev_bin, ev_neg, ev_cmp, ev_chn, ev_and, ev_or, ev_not, ev_ife, ev_call, ev_callk, ev_mth, ev_mk, ev_b1, ev_b2, ev_isi, ev_ix, ev_sl, ev_lst, ev_tup, ev_newL, ev_newD, ev_join, ev_fld, exec_asg, exec_setI, exec_setF, exec_aug, exec_mut, exec_ifs, exec_ret, exec_retn, exec_brk, exec_cont, exec_exp, exec_rai, exec_fg, exec_pas, evT, evs, evTAnd, evTOr, evAnd, evOr, evP, evSrc, bo, bnd, frzAll, esT, esTs, esO, esc, escs, esS, escS, opd, opn, look, peek, ofO, cmpD, truthD, thenK, sweep, fresh, asgK, asgT, asgTs, put, binD, b1D, b2D, ixD, ixN, atI_0, atI_1, atI_2, atI_3, atI_4, eqv, eqvs, shp, shps, setK, setX, setOb, isVar, unset, cellOf, frz, valOf, forL, forK, isiD, items, seqs, lenD, fldD, isIns, isNon, inBody, h1, hm], ?_, rfl⟩
      rw [e]; rfl)
  obtain ⟨ρ', t', e, h1, h2⟩ := h
  exact ⟨ρ', t', e, h1, h2⟩
end K94
set_option maxRecDepth 100000
set_option linter.all false
set_option autoImplicit false
namespace K94
open Pd
def s1 : S := .asg (.nm 6) (.call 2 (es [(.var 0), (.bin .shl (.kon (.int 1)) (.var 2))]))
def s2 : S := .ifs (.and (ts [(.val (.var 4)), (.val (.cmp .gt (.var 5) (.kon (.int 0))))])) (ss [(.asg (.nm 6) (.bin .bxor (.ix (.var 3) (.call 2 (es [(.var 0), (.var 5)]))) (.bin .shl (.kon (.int 1)) (.call 2 (es [(.var 0), (.var 2)])))))]) (ss [])
def s3 : S := .for (.nm 7) (.rng (.kon (.int 9))) inBody [7]
def s4 : S := .mut .append 3 (es [(.var 6)])
def outBody : Ss := ss [s1, s2, s3, s4]
theorem b3_eq : b3 = ss [(.asg (.nm 3) (.lst (es []))), (.asg (.nm 4) (.cmp .eq (.call 2 (es [(.var 0), (.kon (.int 3))])) (.kon (.int 0)))), (.for (.nm 5) (.rng (.var 1)) outBody [5, 7]), (.ret (.comp (.seq (.var 3)) (.nm 6) [6] .yes (.call 11 (es [(.var 6), (.var 2)]))))] := rfl
structure RowsI (b : Int) (pl : Nat) (i : Nat) (nums : List Nat) (p : Pool) : Prop where
  len : nums.length = i
  nd : nums.Nodup
  lt : ∀ x ∈ nums, x < 2 ^ pl
  ok : Ok p (b + 6 * i)
theorem turn (n pl many k : Nat) (near : Bool) (nums : List Nat) (p : Pool) (b : Int) (c6 : Cell) (hpl : pl ≤ 8) (hm : many ≤ 8) (hm2 : many ≤ 2 ^ pl) (hk : k < many) (hb : b < 900000) (hI : RowsI b pl k nums p) :
    ∃ nums' p' y, execs (cls' (n + 1)) outBody [.val (.obj 0), .val (.int many), .val (.int pl), .own (LN nums), .val (.bl near), .val (.int k), c6, .un] p.t = .nx [.val (.obj 0), .val (.int many), .val (.int pl), .own (LN nums'), .val (.bl near), .val (.int k), .val (.int y), .un] (Pool.t p') ∧ RowsI b pl (k + 1) nums' p' := by
  have hM : (2 : Nat) ^ pl ≤ 2 ^ 8 := Nat.pow_le_pow_right (by omega) hpl
  have hM0 : 0 < (2 : Nat) ^ pl := Nat.two_pow_pos pl
  have hP : (2 : Int) ^ pl = ((2 ^ pl : Nat) : Int) := by rw [Int.natCast_pow]; rfl
  obtain ⟨r, p1, e1, o1, r0, r1⟩ := draw n p (b + 6 * k) ((2 ^ pl : Nat) : Int) (by omega) hI.ok (by omega)
  obtain ⟨y1, rfl⟩ := Int.eq_ofNat_of_zero_le r0
  have hy1 : y1 < 2 ^ pl := by omega
  have h3 : (pl : Int) ≤ 1000000 := by omega
  have hbig : (1 : Int).natAbs < 2 ^ 64 := by decide
  have x1 : exec (cls' (n + 1)) s1 [.val (.obj 0), .val (.int many), .val (.int pl), .own (LN nums), .val (.bl near), .val (.int k), c6, .un] p.t = .nx [.val (.obj 0), .val (.int many), .val (.int pl), .own (LN nums), .val (.bl near), .val (.int k), .val (.int y1), .un] (Pool.t p1) := by
    have e1 : call prg (n + 1) 2 [.obj 0, .int ((2 ^ pl : Nat) : Int)] p.t = .ok (.int y1) (Pool.t p1) := e1
    rw [← hP] at e1
    simp [runF, ss, es, ts, gs, execs, ev_var, ev_kon, ev_glb, ev_bin, ev_neg, ev_cmp, ev_chn, ev_and, ev_or, ev_not, ev_ife, ev_call, ev_callk, ev_mth, ev_mk, ev_b1, ev_b2, ev_isi, ev_ix, ev_sl, ev_lst, ev_tup, ev_newL, ev_newD, ev_join, ev_fld, exec_asg, exec_setI, exec_setF, exec_aug, exec_mut, exec_ifs, exec_ret, exec_retn, exec_brk, exec_cont, exec_exp, exec_rai, exec_fg, exec_pas, evT, evs, evTAnd, evTOr, evAnd, evOr, evP, evSrc, bo, bnd, frzAll, esT, esTs, esO, esc, escs, esS, escS, opd, opn, look, peek, ofO, cmpD, truthD, thenK, sweep, fresh, asgK, asgT, asgTs, put, binD, b1D, b2D, ixD, ixN, atI_0, atI_1, atI_2, atI_3, atI_4, eqv, eqvs, shp, shps, setK, setX, setOb, isVar, unset, cellOf, frz, valOf, forL, forK, isiD, items, seqs, lenD, fldD, isIns, isNon, s1, h3, e1]
  have x2 : ∃ y p2, exec (cls' (n + 1)) s2 [.val (.obj 0), .val (.int many), .val (.int pl), .own (LN nums), .val (.bl near), .val (.int k), .val (.int y1), .un] (Pool.t p1) = .nx [.val (.obj 0), .val (.int many), .val (.int pl), .own (LN nums), .val (.bl near), .val (.int k), .val (.int ((y : Nat) : Int)), .un] (Pool.t p2) ∧ y < 2 ^ pl ∧ Ok p2 (b + 6 * k + 6) := by
    have weak : ∀ {q : Pool} {c : Int}, Ok q c → c ≤ b + 6 * k + 6 → Ok q (b + 6 * k + 6) := fun o h => ⟨o.i, o.l, o.c, o.d.1, by have := o.d.2; omega⟩
    cases near with
    | false => exact ⟨y1, p1, by simp [runF, ss, es, ts, gs, execs, ev_var, ev_kon, ev_glb, ev_bin, ev_neg, ev_cmp, ev_chn, ev_and, ev_or, ev_not, ev_ife, ev_call, ev_callk, ev_mth, ev_mk, ev_b1, ev_b2, ev_isi, ev_ix, ev_sl, ev_lst, ev_tup, ev_newL, ev_newD, ev_join, ev_fld, exec_asg, exec_setI, exec_setF, exec_aug, exec_mut, exec_ifs, exec_ret, exec_retn, exec_brk, exec_cont, exec_exp, exec_rai, exec_fg, exec_pas, evT, evs, evTAnd, evTOr, evAnd, evOr, evP, evSrc, bo, bnd, frzAll, esT, esTs, esO, esc, escs, esS, escS, opd, opn, look, peek, ofO, cmpD, truthD, thenK, sweep, fresh, asgK, asgT, asgTs, put, binD, b1D, b2D, ixD, ixN, atI_0, atI_1, atI_2, atI_3, atI_4, eqv, eqvs, shp, shps, setK, setX, setOb, isVar, unset, cellOf, frz, valOf, forL, forK, isiD, items, seqs, lenD, fldD, isIns, isNon, s2], hy1, weak o1 (by omega)⟩
    | true =>
      by_cases hk0 : 0 < k
      · obtain ⟨r2, p2, e2, o2, r20, r21⟩ := draw n p1 (b + 6 * k + 2) (k : Int) (by omega) o1 (by omega)
        obtain ⟨i2, rfl⟩ := Int.eq_ofNat_of_zero_le r20
        have hi2 : i2 < nums.length := by rw [hI.len]; omega
        have hpl1 : 1 ≤ pl := by
          rcases Nat.eq_zero_or_pos pl with h | h
          · rw [h] at hm2; simp at hm2; omega
          · exact h
        obtain ⟨r3, p3, e3, o3, r30, r31⟩ := draw n p2 (b + 6 * k + 2 + 2) (pl : Int) (by omega) o2 (by omega)
        obtain ⟨j, rfl⟩ := Int.eq_ofNat_of_zero_le r30
        have hj : j < pl := by omega
        have a1 : atI (LN nums) (i2 : Int) = some (DN nums[i2]) := by
          rw [atI_map, atI_nat, List.getElem?_eq_getElem hi2]; rfl
        have hz := hI.lt _ (List.getElem_mem hi2)
        generalize nums[i2] = z at a1 hz
        have hj2 : (2 : Nat) ^ j < 2 ^ pl := Nat.pow_lt_pow_right (by omega) hj
        have hJ : (2 : Int) ^ j = ((2 ^ j : Nat) : Int) := by rw [Int.natCast_pow]; rfl
        have hx : z ^^^ 2 ^ j < 2 ^ pl := Nat.xor_lt_two_pow hz hj2
        have hj3 : (j : Int) ≤ 1000000 := by omega
        have hj4 : (0 : Int) ≤ 2 ^ j := by rw [hJ]; exact Int.natCast_nonneg _
        have hj5 : ((2 : Int) ^ j).toNat = 2 ^ j := by rw [hJ]; rfl
        have e2 : call prg (n + 1) 2 [.obj 0, .int (k : Int)] p1.t = .ok (.int i2) (Pool.t p2) := e2
        have e3 : call prg (n + 1) 2 [.obj 0, .int (pl : Int)] p2.t = .ok (.int j) (Pool.t p3) := e3
        generalize hy : z ^^^ 2 ^ j = y at hx
        refine ⟨y, p3, ?_, hx, weak o3 (by omega)⟩
        simp [runF, ss, es, ts, gs, execs, ev_var, ev_kon, ev_glb, ev_bin, ev_neg, ev_cmp, ev_chn, ev_and, ev_or, ev_not, ev_ife, ev_call, ev_callk, ev_mth, ev_mk, ev_b1, ev_b2, ev_isi, ev_ix, ev_sl, ev_lst, ev_tup, ev_newL, ev_newD, ev_join, ev_fld, exec_asg, exec_setI, exec_setF, exec_aug, exec_mut, exec_ifs, exec_ret, exec_retn, exec_brk, exec_cont, exec_exp, exec_rai, exec_fg, exec_pas, evT, evs, evTAnd, evTOr, evAnd, evOr, evP, evSrc, bo, bnd, frzAll, esT, esTs, esO, esc, escs, esS, escS, opd, opn, look, peek, ofO, cmpD, truthD, thenK, sweep, fresh, asgK, asgT, asgTs, put, binD, b1D, b2D, ixD, ixN, atI_0, atI_1, atI_2, atI_3, atI_4, eqv, eqvs, shp, shps, setK, setX, setOb, isVar, unset, cellOf, frz, valOf, forL, forK, isiD, items, seqs, lenD, fldD, isIns, isNon, s2, hk0, e2, e3, a1, hj3, hj4, hj5, hy, DN]
      · have hk0' : ¬ (0 : Int) < (k : Int) := by omega
        exact ⟨y1, p1, by simp [runF, ss, es, ts, gs, execs, ev_var, ev_kon, ev_glb, ev_bin, ev_neg, ev_cmp, ev_chn, ev_and, ev_or, ev_not, ev_ife, ev_call, ev_callk, ev_mth, ev_mk, ev_b1, ev_b2, ev_isi, ev_ix, ev_sl, ev_lst, ev_tup, ev_newL, ev_newD, ev_join, ev_fld, exec_asg, exec_setI, exec_setF, exec_aug, exec_mut, exec_ifs, exec_ret, exec_retn, exec_brk, exec_cont, exec_exp, exec_rai, exec_fg, exec_pas, evT, evs, evTAnd, evTOr, evAnd, evOr, evP, evSrc, bo, bnd, frzAll, esT, esTs, esO, esc, escs, esS, escS, opd, opn, look, peek, ofO, cmpD, truthD, thenK, sweep, fresh, asgK, asgT, asgTs, put, binD, b1D, b2D, ixD, ixN, atI_0, atI_1, atI_2, atI_3, atI_4, eqv, eqvs, shp, shps, setK, setX, setOb, isVar, unset, cellOf, frz, valOf, forL, forK, isiD, items, seqs, lenD, fldD, isIns, isNon, s2, hk0], hy1, weak o1 (by omega)⟩
  obtain ⟨y, p2, x2, hy, o2⟩ := x2
  obtain ⟨ρ', t', e3, h3a, h3b⟩ := inner (cls' (n + 1)) nums (2 ^ pl) pl y (.val (.obj 0)) (.val (.int many)) (.val (.bl near)) (.val (.int k)) (Pool.t p2) rfl (by omega)
  subst h3a h3b
  obtain ⟨f1, f2⟩ := itr_free (nums := nums) (M := 2 ^ pl) (y := y) (by rw [hI.len]; omega) hy (by rw [hI.len]; omega)
  generalize itr nums (2 ^ pl) y 9 = z at e3 f1 f2
  have x3 : exec (cls' (n + 1)) s3 [.val (.obj 0), .val (.int many), .val (.int pl), .own (LN nums), .val (.bl near), .val (.int k), .val (.int y), .un] (Pool.t p2) = .nx [.val (.obj 0), .val (.int many), .val (.int pl), .own (LN nums), .val (.bl near), .val (.int k), .val (.int z), .un] (Pool.t p2) := by
    have : exec (cls' (n + 1)) s3 [.val (.obj 0), .val (.int many), .val (.int pl), .own (LN nums), .val (.bl near), .val (.int k), .val (.int y), .un] (Pool.t p2) = forL (forK (.nm 7) fun ρ t => execs (cls' (n + 1)) inBody ρ t) [7] (range0 9) [.val (.obj 0), .val (.int many), .val (.int pl), .own (LN nums), .val (.bl near), .val (.int k), .val (.int y), .un] (Pool.t p2) := rfl
    rw [this]; exact e3
  have x4 : exec (cls' (n + 1)) s4 [.val (.obj 0), .val (.int many), .val (.int pl), .own (LN nums), .val (.bl near), .val (.int k), .val (.int z), .un] (Pool.t p2) = .nx [.val (.obj 0), .val (.int many), .val (.int pl), .own (LN (nums ++ [z])), .val (.bl near), .val (.int k), .val (.int z), .un] (Pool.t p2) := by
    have hl : (LN nums).length < sz := by rw [len_LN, hI.len]; unfold sz; omega
    have hl2 : nums.length < sz := by rw [hI.len]; unfold sz; omega
    simp [runF, ss, es, ts, gs, execs, ev_var, ev_kon, ev_glb, ev_bin, ev_neg, ev_cmp, ev_chn, ev_and, ev_or, ev_not, ev_ife, ev_call, ev_callk, ev_mth, ev_mk, ev_b1, ev_b2, ev_isi, ev_ix, ev_sl, ev_lst, ev_tup, ev_newL, ev_newD, ev_join, ev_fld, exec_asg, exec_setI, exec_setF, exec_aug, exec_mut, exec_ifs, exec_ret, exec_retn, exec_brk, exec_cont, exec_exp, exec_rai, exec_fg, exec_pas, evT, evs, evTAnd, evTOr, evAnd, evOr, evP, evSrc, bo, bnd, frzAll, esT, esTs, esO, esc, escs, esS, escS, opd, opn, look, peek, ofO, cmpD, truthD, thenK, sweep, fresh, asgK, asgT, asgTs, put, binD, b1D, b2D, ixD, ixN, atI_0, atI_1, atI_2, atI_3, atI_4, eqv, eqvs, shp, shps, setK, setX, setOb, isVar, unset, cellOf, frz, valOf, forL, forK, isiD, items, seqs, lenD, fldD, isIns, isNon, s4, mutK, muD, hl2, DN]
  refine ⟨nums ++ [z], p2, (z : Int), ?_, ⟨by rw [List.length_append, hI.len]; rfl, ?_, fun x hx => ?_, ?_⟩⟩
  · have e0 : ∀ ρ t, execs (cls' (n + 1)) outBody ρ t = thenK (exec (cls' (n + 1)) s1 ρ t) fun ρ t => thenK (exec (cls' (n + 1)) s2 ρ t) fun ρ t => thenK (exec (cls' (n + 1)) s3 ρ t) fun ρ t => thenK (exec (cls' (n + 1)) s4 ρ t) fun ρ t => .nx ρ t := fun _ _ => rfl
    rw [e0, x1]
    simp only [thenK]
    rw [x2]
    simp only [thenK]
    rw [x3]
    simp only [thenK]
    rw [x4]
  · refine List.nodup_append.mpr ⟨hI.nd, by simp, fun a ha c hc e => ?_⟩
    rw [List.mem_singleton.mp hc] at e
    subst e
    exact f1 ha
  · rcases List.mem_append.mp hx with hx | hx
    · exact hI.lt x hx
    · rw [List.mem_singleton.mp hx]; exact f2
  · exact ⟨o2.i, o2.l, o2.c, o2.d.1, by have := o2.d.2; omega⟩
end K94
set_option maxRecDepth 100000
set_option linter.all false
set_option autoImplicit false
namespace K94
open Pd
theorem wordN_len (pl x : Nat) : (wordN pl x).length = pl := by unfold wordN; rw [List.length_map, List.length_range]
theorem wordN_bit (pl x : Nat) : ∀ y ∈ wordN pl x, y = 48 ∨ y = 49 := by
  intro y hy
  obtain ⟨k, _, rfl⟩ := List.mem_map.mp hy
  omega
theorem wordN_inj {pl x y : Nat} (hx : x < 2 ^ pl) (hy : y < 2 ^ pl) (h : wordN pl x = wordN pl y) : x = y := by
  apply Nat.eq_of_testBit_eq
  intro j
  by_cases hj : j < pl
  · have e : (wordN pl x)[pl - 1 - j]? = (wordN pl y)[pl - 1 - j]? := by rw [h]
    unfold wordN at e
    rw [List.getElem?_map, List.getElem?_map, List.getElem?_range (by omega)] at e
    simp only [Option.map_some, Option.some.injEq] at e
    rw [show pl - 1 - (pl - 1 - j) = j by omega] at e
    rw [Nat.testBit_eq_decide_div_mod_eq, Nat.testBit_eq_decide_div_mod_eq]
    have : x / 2 ^ j % 2 = y / 2 ^ j % 2 := by omega
    rw [this]
  · have hp : (2 : Nat) ^ pl ≤ 2 ^ j := Nat.pow_le_pow_right (by omega) (by omega)
    rw [Nat.testBit_lt_two_pow (by omega), Nat.testBit_lt_two_pow (by omega)]
theorem words_wd (pl : Nat) (nums : List Nat) : Wd (nums.map (wordN pl)) pl :=
  ⟨fun w hw => by obtain ⟨x, _, rfl⟩ := List.mem_map.mp hw; exact wordN_len pl x, fun w hw => by obtain ⟨x, _, rfl⟩ := List.mem_map.mp hw; exact wordN_bit pl x⟩
theorem words_nd {pl : Nat} {nums : List Nat} (nd : nums.Nodup) (h : ∀ x ∈ nums, x < 2 ^ pl) : (nums.map (wordN pl)).Nodup := by
  rw [List.nodup_iff_pairwise_ne, List.pairwise_map]
  refine List.Pairwise.imp_of_mem (fun {a b} ha hb hab e => hab (wordN_inj (h a ha) (h b hb) e)) (List.nodup_iff_pairwise_ne.mp nd)
theorem c3 (n pl many : Nat) (p : Pool) (b : Int) (hpl : pl ≤ 8) (hm : many ≤ 8) (hm2 : many ≤ 2 ^ pl) (hb : b < 800000) (o : Ok p b) :
    ∃ (nums : List Nat) (p' : Pool), call prg (n + 2) 3 [.obj 0, .int many, .int pl] p.t = .ok (.lst ((nums.map (wordN pl)).map .str)) (Pool.t p') ∧ nums.length = many ∧ nums.Nodup ∧ (∀ x ∈ nums, x < 2 ^ pl) ∧ Ok p' (b + 2 + 6 * many) := by
  rw [cS 3 f3 rfl]
  obtain ⟨r, p1, e1, o1, r0, r1⟩ := draw n p b 3 (by omega) o (by omega)
  have hr := range0_LN many
  have h1 : (many : Int) ≤ 1000000 := by omega
  have h2 : (-1000000 : Int) ≤ many := by omega
  obtain ⟨ρ', t', e2, nums, p2, c6, hρ, ht, hI⟩ := forL_inv (f := forK (.nm 5) fun ρ t => execs (cls' (n + 1)) outBody ρ t) (fg := [5, 7])
    (fun i ρ t => ∃ nums p' c6, ρ = [.val (.obj 0), .val (.int many), .val (.int pl), .own (LN nums), .val (.bl (r == 0)), .un, c6, .un] ∧ t = Pool.t p' ∧ RowsI (b + 2) pl i nums p')
    (LN (List.range many)) 0 [.val (.obj 0), .val (.int many), .val (.int pl), .own [], .val (.bl (r == 0)), .un, .un, .un] (Pool.t p1) ⟨[], p1, .un, rfl, rfl, rfl, List.nodup_nil, fun x hx => (by cases hx), by simpa using o1⟩ (fun i x ρ t hx hI => by
      obtain ⟨nums, p', c6, rfl, rfl, hI⟩ := hI
      rw [Nat.zero_add] at hI ⊢
      rw [LN, List.getElem?_map] at hx
      obtain ⟨k, hk, rfl⟩ := Option.map_eq_some_iff.mp hx
      have hk2 := List.getElem?_eq_some_iff.mp hk
      obtain ⟨hk3, hk4⟩ := hk2
      rw [List.length_range] at hk3
      have hk5 : k = i := by simpa using hk4.symm
      subst hk5
      obtain ⟨nums', p'', y, e, hI'⟩ := turn n pl many k (r == 0) nums p' (b + 2) c6 hpl hm hm2 hk3 (by omega) hI
      refine ⟨[.val (.obj 0), .val (.int many), .val (.int pl), .own (LN nums'), .val (.bl (r == 0)), .val (.int k), .val (.int y), .un], Pool.t p'', ?_, nums', p'', .val (.int y), rfl, rfl, hI'⟩
      have : forK (.nm 5) (fun ρ t => execs (cls' (n + 1)) outBody ρ t) (DN k) [.val (.obj 0), .val (.int many), .val (.int pl), .own (LN nums), .val (.bl (r == 0)), .un, c6, .un] p'.t = execs (cls' (n + 1)) outBody [.val (.obj 0), .val (.int many), .val (.int pl), .own (LN nums), .val (.bl (r == 0)), .val (.int k), c6, .un] p'.t := rfl
      rw [this]; exact e)
  subst hρ ht
  rw [len_LN, List.length_range, Nat.zero_add] at hI
  refine ⟨nums, p2, ?_, hI.len, hI.nd, hI.lt, hI.ok⟩
  have e3 : ev (cls' (n + 1)) (.comp (.seq (.var 3)) (.nm 6) [6] .yes (.call 11 (es [(.var 6), (.var 2)]))) [.val (.obj 0), .val (.int many), .val (.int pl), .own (LN nums), .val (.bl (r == 0)), .un, c6, .un] (Pool.t p2) = .ok (.lst ((nums.map (wordN pl)).map .str)) (Pool.t p2) := by
    have e0 : (nums.map (wordN pl)).map D.str = (LN nums).map fun d => match d with
      | .int k => .str (wordN pl k.toNat)
      | d => d := by
      rw [LN, List.map_map, List.map_map]
      apply List.map_congr_left
      intro k _
      simp
    rw [e0]
    refine ev_comp_map _ (by simp [runF, ss, es, ts, gs, execs, ev_var, ev_kon, ev_glb, ev_bin, ev_neg, ev_cmp, ev_chn, ev_and, ev_or, ev_not, ev_ife, ev_call, ev_callk, ev_mth, ev_mk, ev_b1, ev_b2, ev_isi, ev_ix, ev_sl, ev_lst, ev_tup, ev_newL, ev_newD, ev_join, ev_fld, exec_asg, exec_setI, exec_setF, exec_aug, exec_mut, exec_ifs, exec_ret, exec_retn, exec_brk, exec_cont, exec_exp, exec_rai, exec_fg, exec_pas, evT, evs, evTAnd, evTOr, evAnd, evOr, evP, evSrc, bo, bnd, frzAll, esT, esTs, esO, esc, escs, esS, escS, opd, opn, look, peek, ofO, cmpD, truthD, thenK, sweep, fresh, asgK, asgT, asgTs, put, binD, b1D, b2D, ixD, ixN, atI_0, atI_1, atI_2, atI_3, atI_4, eqv, eqvs, shp, shps, setK, setX, setOb, isVar, unset, cellOf, frz, valOf, forL, forK, isiD, items, seqs, lenD, fldD, isIns, isNon]) fun d hd => ?_
    obtain ⟨k, hk, rfl⟩ := List.mem_map.mp hd
    have i1 := c11 n pl k (Pool.t p2) (by omega)
    simp [turnC, runF, ss, es, ts, gs, execs, ev_var, ev_kon, ev_glb, ev_bin, ev_neg, ev_cmp, ev_chn, ev_and, ev_or, ev_not, ev_ife, ev_call, ev_callk, ev_mth, ev_mk, ev_b1, ev_b2, ev_isi, ev_ix, ev_sl, ev_lst, ev_tup, ev_newL, ev_newD, ev_join, ev_fld, exec_asg, exec_setI, exec_setF, exec_aug, exec_mut, exec_ifs, exec_ret, exec_retn, exec_brk, exec_cont, exec_exp, exec_rai, exec_fg, exec_pas, evT, evs, evTAnd, evTOr, evAnd, evOr, evP, evSrc, bo, bnd, frzAll, esT, esTs, esO, esc, escs, esS, escS, opd, opn, look, peek, ofO, cmpD, truthD, thenK, sweep, fresh, asgK, asgT, asgTs, put, binD, b1D, b2D, ixD, ixN, atI_0, atI_1, atI_2, atI_3, atI_4, eqv, eqvs, shp, shps, setK, setX, setOb, isVar, unset, cellOf, frz, valOf, forL, forK, isiD, items, seqs, lenD, fldD, isIns, isNon, i1]
  simp only [es] at e3
  have e4 := e2
  rw [← hr] at e4
  have a1 : execs (cls' (n + 1)) b3 [.val (.obj 0), .val (.int many), .val (.int pl), .un, .un, .un, .un, .un] p.t = thenK (exec (cls' (n + 1)) (.for (.nm 5) (.rng (.var 1)) outBody [5, 7]) [.val (.obj 0), .val (.int many), .val (.int pl), .own [], .val (.bl (r == 0)), .un, .un, .un] (Pool.t p1)) fun ρ t => thenK (exec (cls' (n + 1)) (.ret (.comp (.seq (.var 3)) (.nm 6) [6] .yes (.call 11 (es [(.var 6), (.var 2)])))) ρ t) fun ρ t => .nx ρ t := by
    rw [b3_eq]
    generalize hF : S.for (.nm 5) (.rng (.var 1)) outBody [5, 7] = sF
    generalize hR : S.ret (.comp (.seq (.var 3)) (.nm 6) [6] .yes (.call 11 (es [(.var 6), (.var 2)]))) = sR
    simp [runF, ss, es, ts, gs, execs, ev_var, ev_kon, ev_glb, ev_bin, ev_neg, ev_cmp, ev_chn, ev_and, ev_or, ev_not, ev_ife, ev_call, ev_callk, ev_mth, ev_mk, ev_b1, ev_b2, ev_isi, ev_ix, ev_sl, ev_lst, ev_tup, ev_newL, ev_newD, ev_join, ev_fld, exec_asg, exec_setI, exec_setF, exec_aug, exec_mut, exec_ifs, exec_ret, exec_retn, exec_brk, exec_cont, exec_exp, exec_rai, exec_fg, exec_pas, evT, evs, evTAnd, evTOr, evAnd, evOr, evP, evSrc, bo, bnd, frzAll, esT, esTs, esO, esc, escs, esS, escS, opd, opn, look, peek, ofO, cmpD, truthD, thenK, sweep, fresh, asgK, asgT, asgTs, put, binD, b1D, b2D, ixD, ixN, atI_0, atI_1, atI_2, atI_3, atI_4, eqv, eqvs, shp, shps, setK, setX, setOb, isVar, unset, cellOf, frz, valOf, forL, forK, isiD, items, seqs, lenD, fldD, isIns, isNon, e1]
  have a2 : exec (cls' (n + 1)) (.for (.nm 5) (.rng (.var 1)) outBody [5, 7]) [.val (.obj 0), .val (.int many), .val (.int pl), .own [], .val (.bl (r == 0)), .un, .un, .un] (Pool.t p1) = .nx [.val (.obj 0), .val (.int many), .val (.int pl), .own (LN nums), .val (.bl (r == 0)), .un, c6, .un] (Pool.t p2) := by
    rw [exec_for]
    simp [runF, ss, es, ts, gs, execs, ev_var, ev_kon, ev_glb, ev_bin, ev_neg, ev_cmp, ev_chn, ev_and, ev_or, ev_not, ev_ife, ev_call, ev_callk, ev_mth, ev_mk, ev_b1, ev_b2, ev_isi, ev_ix, ev_sl, ev_lst, ev_tup, ev_newL, ev_newD, ev_join, ev_fld, exec_asg, exec_setI, exec_setF, exec_aug, exec_mut, exec_ifs, exec_ret, exec_retn, exec_brk, exec_cont, exec_exp, exec_rai, exec_fg, exec_pas, evT, evs, evTAnd, evTOr, evAnd, evOr, evP, evSrc, bo, bnd, frzAll, esT, esTs, esO, esc, escs, esS, escS, opd, opn, look, peek, ofO, cmpD, truthD, thenK, sweep, fresh, asgK, asgT, asgTs, put, binD, b1D, b2D, ixD, ixN, atI_0, atI_1, atI_2, atI_3, atI_4, eqv, eqvs, shp, shps, setK, setX, setOb, isVar, unset, cellOf, frz, valOf, forL, forK, isiD, items, seqs, lenD, fldD, isIns, isNon, h1, h2]
    exact e4
  have a3 : runF (cls' (n + 1)) f3 [.obj 0, .int many, .int pl] p.t = match execs (cls' (n + 1)) b3 [.val (.obj 0), .val (.int many), .val (.int pl), .un, .un, .un, .un, .un] p.t with
        | .nx _ t' => sweep false p.t.length .non t'
        | .ret d t' => sweep false p.t.length d t'
        | .ex c as t' => .ex c as t'
        | _ => .no := rfl
  rw [a3, a1, a2]
  simp [runF, ss, es, ts, gs, execs, ev_var, ev_kon, ev_glb, ev_bin, ev_neg, ev_cmp, ev_chn, ev_and, ev_or, ev_not, ev_ife, ev_call, ev_callk, ev_mth, ev_mk, ev_b1, ev_b2, ev_isi, ev_ix, ev_sl, ev_lst, ev_tup, ev_newL, ev_newD, ev_join, ev_fld, exec_asg, exec_setI, exec_setF, exec_aug, exec_mut, exec_ifs, exec_ret, exec_retn, exec_brk, exec_cont, exec_exp, exec_rai, exec_fg, exec_pas, evT, evs, evTAnd, evTOr, evAnd, evOr, evP, evSrc, bo, bnd, frzAll, esT, esTs, esO, esc, escs, esS, escS, opd, opn, look, peek, ofO, cmpD, truthD, thenK, sweep, fresh, asgK, asgT, asgTs, put, binD, b1D, b2D, ixD, ixN, atI_0, atI_1, atI_2, atI_3, atI_4, eqv, eqvs, shp, shps, setK, setX, setOb, isVar, unset, cellOf, frz, valOf, forL, forK, isiD, items, seqs, lenD, fldD, isIns, isNon, e3]
end K94
set_option maxRecDepth 100000
set_option linter.all false
set_option autoImplicit false
namespace K94
open Pd
def Pool.o (p : Pool) : Ob := .lst [.lst (p.cells.map .int), .int p.i, .int p.l, .int p.c, .int p.d]
theorem lows_ints (k : Nat) : ∀ l : List Int, lows k (l.map .int) = true
  | [] => rfl
  | a :: l => by
    show (low k (.int a) && lows k (l.map .int)) = true
    rw [lows_ints k l]; rfl
theorem low_pool (p : Pool) : lowO 1 p.o = true := by
  have h := lows_ints 1 p.cells
  simp [Pool.o, lowO, lows, low, h]
theorem compL_st (f : D → T → R (Option D)) (I : Nat → T → Prop) (P : D → Prop) : ∀ (xs : List D) (i0 : Nat) (t : T), I i0 t → (∀ i x t, i < i0 + xs.length → I i t → x ∈ xs → ∃ d t', f x t = .ok (some d) t' ∧ I (i + 1) t' ∧ P d) → ∃ ds t', compL f xs t = .ok ds t' ∧ I (i0 + xs.length) t' ∧ ∀ d ∈ ds, P d
  | [], i0, t, h, _ => ⟨[], t, rfl, h, fun d hd => by cases hd⟩
  | x :: xs, i0, t, h, st => by
    obtain ⟨d, t1, e1, h1, p1⟩ := st i0 x t (by simp) h List.mem_cons_self
    obtain ⟨ds, t2, e2, h2, p2⟩ := compL_st f I P xs (i0 + 1) t1 h1 fun i y t hi hI hy => st i y t (by rw [List.length_cons]; omega) hI (List.mem_cons_of_mem _ hy)
    refine ⟨d :: ds, t2, by simp only [compL, e1, bnd_ok, e2], ?_, fun z hz => ?_⟩
    · rw [List.length_cons, show i0 + (xs.length + 1) = i0 + 1 + xs.length by omega]; exact h2
    · rcases List.mem_cons.mp hz with rfl | hz
      · exact p1
      · exact p2 z hz
theorem ints_of : ∀ ds : List D, (∀ d ∈ ds, ∃ r : Int, d = .int r) → ∃ l : List Int, ds = l.map .int
  | [], _ => ⟨[], rfl⟩
  | d :: ds, h => by
    obtain ⟨r, rfl⟩ := h d List.mem_cons_self
    obtain ⟨l, rfl⟩ := ints_of ds fun x hx => h x (List.mem_cons_of_mem _ hx)
    exact ⟨r :: l, rfl⟩
theorem inD_W (w : List Nat) (ws : List (List Nat)) : inD (.str w) (.tup (ws.map .str)) = some (decide (w ∈ ws)) := by
  have h1 : (ws.map D.str).all flat = true := by
    rw [List.all_map, List.all_eq_true]; intro x _; rfl
  have h2 : ((ws.map D.str).any fun y => eqv y (.str w)) = decide (w ∈ ws) := by
    clear h1
    induction ws with
    | nil => rfl
    | cons a l ih =>
      rw [List.map_cons, List.any_cons, ih]
      show ((a == w) || decide (w ∈ l)) = decide (w ∈ a :: l)
      by_cases h : a = w
      · subst h; simp
      · have h3 : ¬ w = a := fun z => h z.symm
        simp [h, h3]
  show (if flat (.str w) && (ws.map D.str).all flat then some ((ws.map D.str).any fun y => eqv y (.str w)) else none) = _
  rw [h1, h2]; rfl
theorem cut_take {α : Type} (w : List α) (k : Nat) (h : k ≤ w.length) : cut w none (some (k : Int)) = w.take k := by
  unfold cut sIx
  have : ¬ ((k : Int) < 0) := by omega
  simp [this]
theorem cut_drop {α : Type} (w : List α) (k : Nat) (h : k ≤ w.length) : cut w (some (k : Int)) none = w.drop k := by
  unfold cut sIx
  have : ¬ ((k : Int) < 0) := by omega
  simp only [this, if_false]
  have e : min ((k : Int).toNat) w.length = k := by simp; omega
  rw [e]
  exact List.take_of_length_le (by simp)
abbrev W (ws : List (List Nat)) : D := .tup (ws.map .str)
/-- the frame behind the sixth statement -/
def fr (ns : List Int) (pl : Nat) (ws : List (List Nat)) (tr : Tr) (c7 c8 c9 c10 c11 c12 c13 c14 c15 : Cell) : Env :=
  [.val (.scr ns), .val (.obj 0), .val (.int pl), .val (W ws), .val (.lst (LN (List.range ws.length))), .val tr.D, .val (.int tr.ht), c7, c8, c9, c10, c11, c12, c13, c14, c15, .un]
structure Ctx (pl : Nat) (ws : List (List Nat)) (tr : Tr) : Prop where
  wd : Wd ws pl
  nd : ws.Nodup
  pos : 0 < ws.length
  le : ws.length ≤ 8
  p8 : pl ≤ 8
  inn : tr.In pl ws.length
  ht : tr.ht + 1 ≤ ws.length
  good : Good ws pl (List.range ws.length) tr
theorem judge (n pl : Nat) (ws : List (List Nat)) (tr : Tr) (C : Ctx pl ws tr) (p : Pool) (v : Int) (h0 : 0 ≤ v) (h1 : v ≤ 100) : call prg (n + 30) 7 [W ws, tr.D, .int v] p.t = .ok (.bl (decide ((tr.ht : Int) ≤ v))) p.t := by
  have h := c7 20 (n + 4) pl true ws p.o tr.D v (by omega) C.wd C.pos (by have := C.le; omega) C.nd (low_pool p) (Pl.tr tr 20 (by have := C.ht; have := C.le; omega)) h0 h1
  rw [C.good 20 (by have := C.ht; have := C.le; omega)] at h
  exact h
theorem asked (n pl : Nat) (ws : List (List Nat)) (wd : Wd ws pl) (pos : 0 < ws.length) (le : ws.length ≤ 8) (nd : ws.Nodup) (x : D) (hx : Pl 20 x) (p : Pool) (v : Int) (h0 : 0 ≤ v) (h1 : v ≤ 100) : call prg (n + 30) 9 [W ws, x, .int v] p.t = .ok (.bl true) p.t :=
  c9 20 (n + 3) pl ws p.o x v (by omega) wd pos (by omega) nd (low_pool p) hx h0 h1
def q6 : S := hd (tl (tl (tl (tl (tl (tl b0))))))
def q7 : S := hd (tl (tl (tl (tl (tl (tl (tl b0)))))))
def q8 : S := hd (tl (tl (tl (tl (tl (tl (tl (tl b0))))))))
def q9 : S := hd (tl (tl (tl (tl (tl (tl (tl (tl (tl b0)))))))))
def q11 : S := hd (tl (tl (tl (tl (tl (tl (tl (tl (tl (tl (tl b0)))))))))))
theorem st6 (n pl : Nat) (ns : List Int) (ws : List (List Nat)) (tr : Tr) (C : Ctx pl ws tr) (p : Pool) (b : Int) (o : Ok p b) (hb : b < 900000) : ∃ p', exec (cls' (n + 30)) q6 (fr ns pl ws tr .un .un .un .un .un .un .un .un .un) p.t = .nx (fr ns pl ws tr .un .un .un .un .un .un .un .un .un) (Pool.t p') ∧ Ok p' (b + 2) := by
  have hht : (tr.ht : Int) ≤ 7 := by have := C.ht; have := C.le; omega
  obtain ⟨r, p1, e1, o1, r0, r1⟩ := draw (n + 29) p b (100 - tr.ht) (by omega) o (by omega)
  have e1 : call prg (n + 30) 2 [.obj 0, .int (100 - tr.ht)] p.t = _ := e1
  have j1 := judge n pl ws tr C p1 tr.ht (by omega) (by omega)
  have j2 := judge n pl ws tr C p1 (tr.ht + 1 + r) (by omega) (by omega)
  have j3 := judge n pl ws tr C p1 100 (by omega) (by omega)
  have s := fun a b t => c6 (n + 29) a b t
  have s : ∀ a b t, call prg (n + 30) 6 [.bl a, .bl b] t = .ok (.bl (a == b)) t := s
  have d1 : (tr.ht : Int) ≤ tr.ht + 1 + r := by omega
  have d2 : (tr.ht : Int) ≤ 100 := by omega
  refine ⟨p1, ?_, o1⟩
  simp [d1, d2] at j1 j2 j3
  simp [runF, ss, es, ts, gs, execs, ev_var, ev_kon, ev_glb, ev_bin, ev_neg, ev_cmp, ev_chn, ev_and, ev_or, ev_not, ev_ife, ev_call, ev_callk, ev_mth, ev_mk, ev_b1, ev_b2, ev_isi, ev_ix, ev_sl, ev_lst, ev_tup, ev_newL, ev_newD, ev_join, ev_fld, exec_asg, exec_setI, exec_setF, exec_aug, exec_mut, exec_ifs, exec_ret, exec_retn, exec_brk, exec_cont, exec_exp, exec_rai, exec_fg, exec_pas, evT, evs, evTAnd, evTOr, evAnd, evOr, evP, evSrc, bo, bnd, frzAll, esT, esTs, esO, esc, escs, esS, escS, opd, opn, look, peek, ofO, cmpD, truthD, thenK, sweep, fresh, asgK, asgT, asgTs, put, binD, b1D, b2D, ixD, ixN, atI_0, atI_1, atI_2, atI_3, atI_4, eqv, eqvs, shp, shps, setK, setX, setOb, isVar, unset, cellOf, frz, valOf, forL, forK, isiD, items, seqs, lenD, fldD, isIns, isNon, exec_for, q6, hd, tl, b0, fr, e1, j1, j2, j3, s]
theorem st7 (n pl : Nat) (ns : List Int) (ws : List (List Nat)) (tr : Tr) (C : Ctx pl ws tr) (p : Pool) (b : Int) (o : Ok p b) (hb : b < 900000) : ∃ p', exec (cls' (n + 30)) q7 (fr ns pl ws tr .un .un .un .un .un .un .un .un .un) p.t = .nx (fr ns pl ws tr .un .un .un .un .un .un .un .un .un) (Pool.t p') ∧ Ok p' (b + 2) := by
  have hht : (tr.ht : Int) ≤ 7 := by have := C.ht; have := C.le; omega
  have s := fun a b t => c6 (n + 29) a b t
  have s : ∀ a b t, call prg (n + 30) 6 [.bl a, .bl b] t = .ok (.bl (a == b)) t := s
  by_cases h : 0 < tr.ht
  · obtain ⟨r, p1, e1, o1, r0, r1⟩ := draw (n + 29) p b tr.ht (by omega) o (by omega)
    have e1 : call prg (n + 30) 2 [.obj 0, .int tr.ht] p.t = _ := e1
    have j1 := judge n pl ws tr C p1 r (by omega) (by omega)
    have d1 : ¬ (tr.ht : Int) ≤ r := by omega
    refine ⟨p1, ?_, o1⟩
    simp [d1] at j1
    simp [runF, ss, es, ts, gs, execs, ev_var, ev_kon, ev_glb, ev_bin, ev_neg, ev_cmp, ev_chn, ev_and, ev_or, ev_not, ev_ife, ev_call, ev_callk, ev_mth, ev_mk, ev_b1, ev_b2, ev_isi, ev_ix, ev_sl, ev_lst, ev_tup, ev_newL, ev_newD, ev_join, ev_fld, exec_asg, exec_setI, exec_setF, exec_aug, exec_mut, exec_ifs, exec_ret, exec_retn, exec_brk, exec_cont, exec_exp, exec_rai, exec_fg, exec_pas, evT, evs, evTAnd, evTOr, evAnd, evOr, evP, evSrc, bo, bnd, frzAll, esT, esTs, esO, esc, escs, esS, escS, opd, opn, look, peek, ofO, cmpD, truthD, thenK, sweep, fresh, asgK, asgT, asgTs, put, binD, b1D, b2D, ixD, ixN, atI_0, atI_1, atI_2, atI_3, atI_4, eqv, eqvs, shp, shps, setK, setX, setOb, isVar, unset, cellOf, frz, valOf, forL, forK, isiD, items, seqs, lenD, fldD, isIns, isNon, q7, hd, tl, b0, fr, e1, j1, s, h]
  · refine ⟨p, ?_, ⟨o.i, o.l, o.c, o.d.1, by have := o.d.2; omega⟩⟩
    simp [runF, ss, es, ts, gs, execs, ev_var, ev_kon, ev_glb, ev_bin, ev_neg, ev_cmp, ev_chn, ev_and, ev_or, ev_not, ev_ife, ev_call, ev_callk, ev_mth, ev_mk, ev_b1, ev_b2, ev_isi, ev_ix, ev_sl, ev_lst, ev_tup, ev_newL, ev_newD, ev_join, ev_fld, exec_asg, exec_setI, exec_setF, exec_aug, exec_mut, exec_ifs, exec_ret, exec_retn, exec_brk, exec_cont, exec_exp, exec_rai, exec_fg, exec_pas, evT, evs, evTAnd, evTOr, evAnd, evOr, evP, evSrc, bo, bnd, frzAll, esT, esTs, esO, esc, escs, esS, escS, opd, opn, look, peek, ofO, cmpD, truthD, thenK, sweep, fresh, asgK, asgT, asgTs, put, binD, b1D, b2D, ixD, ixN, atI_0, atI_1, atI_2, atI_3, atI_4, eqv, eqvs, shp, shps, setK, setX, setOb, isVar, unset, cellOf, frz, valOf, forL, forK, isiD, items, seqs, lenD, fldD, isIns, isNon, q7, hd, tl, b0, fr, h]
end K94
set_option maxRecDepth 100000
set_option linter.all false
set_option autoImplicit false
namespace K94
open Pd
def t1 : S := .asg (.nm 9) (.comp (.rng (.call 2 (es [(.var 1), (.kon (.int 4))]))) (.nm 16) [16] .yes (.call 2 (es [(.var 1), (.kon (.int 2))])))
def t2 : S := .asg (.nm 10) (.call 8 (es [(.var 3), (.var 5), (.var 9), (.call 2 (es [(.var 1), (.kon (.int 8))])), (.call 2 (es [(.var 1), (.kon (.int 9973))]))]))
def t3 : S := .ifs (.not (.val (.call 9 (es [(.var 3), (.var 10), (.ix (.lst (es [(.kon (.int 100)), (.var 6), (.bin .add (.var 6) (.kon (.int 1)))])) (.call 2 (es [(.var 1), (.kon (.int 3))])))])))) (ss [(.ret (.kon (.bl false)))]) (ss [])
theorem q8_eq : q8 = .for (.nm 8) (.rng (.kon (.int 2))) (ss [t1, t2, t3]) [8, 9, 10] := rfl
theorem x1 (n pl : Nat) (ns : List Int) (ws : List (List Nat)) (tr : Tr) (p : Pool) (b : Int) (o : Ok p b) (hb : b < 900000) (c8 : Cell) : ∃ (l : List Int) (p' : Pool), exec (cls' (n + 30)) t1 (fr ns pl ws tr .un c8 .un .un .un .un .un .un .un) p.t = .nx (fr ns pl ws tr .un c8 (.own (l.map .int)) .un .un .un .un .un .un) (Pool.t p') ∧ Ok p' (b + 10) := by
  obtain ⟨r, p1, e1, o1, r0, r1⟩ := draw (n + 29) p b 4 (by omega) o (by omega)
  have e1 : call prg (n + 30) 2 [.obj 0, .int 4] p.t = _ := e1
  obtain ⟨m, rfl⟩ := Int.eq_ofNat_of_zero_le r0
  have hm : m < 4 := by omega
  have hr := range0_LN m
  obtain ⟨ds, t', e2, ⟨p2, rfl, o2⟩, hd⟩ := compL_st (turnC (cls' (n + 30)) (.nm 16) [16] .yes (.call 2 (es [(.var 1), (.kon (.int 2))])) (fr ns pl ws tr .un c8 .un .un .un .un .un .un .un)) (fun i t => ∃ p' : Pool, t = p'.t ∧ Ok p' (b + 2 + 2 * i)) (fun d => ∃ r : Int, d = .int r) (LN (List.range m)) 0 p1.t ⟨p1, rfl, by simpa using o1⟩ (fun i x t hi hI hx => by
    obtain ⟨p', rfl, o'⟩ := hI
    rw [len_LN, List.length_range] at hi
    · obtain ⟨r', p2, e', o2, _, _⟩ := draw (n + 29) p' (b + 2 + 2 * i) 2 (by omega) o' (by omega)
      have e' : call prg (n + 30) 2 [.obj 0, .int 2] p'.t = _ := e'
      obtain ⟨k, hk, rfl⟩ := List.mem_map.mp hx
      refine ⟨.int r', p2.t, by simp [turnC, runF, ss, es, ts, gs, execs, ev_var, ev_kon, ev_glb, ev_bin, ev_neg, ev_cmp, ev_chn, ev_and, ev_or, ev_not, ev_ife, ev_call, ev_callk, ev_mth, ev_mk, ev_b1, ev_b2, ev_isi, ev_ix, ev_sl, ev_lst, ev_tup, ev_newL, ev_newD, ev_join, ev_fld, exec_asg, exec_setI, exec_setF, exec_aug, exec_mut, exec_ifs, exec_ret, exec_retn, exec_brk, exec_cont, exec_exp, exec_rai, exec_fg, exec_pas, evT, evs, evTAnd, evTOr, evAnd, evOr, evP, evSrc, bo, bnd, frzAll, esT, esTs, esO, esc, escs, esS, escS, opd, opn, look, peek, ofO, cmpD, truthD, thenK, sweep, fresh, asgK, asgT, asgTs, put, binD, b1D, b2D, ixD, ixN, atI_0, atI_1, atI_2, atI_3, atI_4, eqv, eqvs, shp, shps, setK, setX, setOb, isVar, unset, cellOf, frz, valOf, forL, forK, isiD, items, seqs, lenD, fldD, isIns, isNon, fr, e'], ⟨p2, rfl, ?_⟩, ⟨r', rfl⟩⟩
      exact ⟨o2.i, o2.l, o2.c, o2.d.1, by have := o2.d.2; omega⟩
    )
  obtain ⟨l, rfl⟩ := ints_of ds hd
  rw [len_LN, List.length_range] at o2
  refine ⟨l, p2, ?_, ⟨o2.i, o2.l, o2.c, o2.d.1, by have := o2.d.2; omega⟩⟩
  have h1 : (m : Int) ≤ 1000000 := by omega
  have h2 : (-1000000 : Int) ≤ m := by omega
  have e3 : ev (cls' (n + 30)) (.comp (.rng (.call 2 (es [(.var 1), (.kon (.int 4))]))) (.nm 16) [16] .yes (.call 2 (es [(.var 1), (.kon (.int 2))]))) (fr ns pl ws tr .un c8 .un .un .un .un .un .un .un) p.t = .ok (.lst (l.map .int)) p2.t := by
    rw [ev_comp]
    have e4 : evSrc (cls' (n + 30)) (.rng (.call 2 (es [(.var 1), (.kon (.int 4))]))) true (fr ns pl ws tr .un c8 .un .un .un .un .un .un .un) p.t = .ok (LN (List.range m)) p1.t := by
      simp [runF, ss, es, ts, gs, execs, ev_var, ev_kon, ev_glb, ev_bin, ev_neg, ev_cmp, ev_chn, ev_and, ev_or, ev_not, ev_ife, ev_call, ev_callk, ev_mth, ev_mk, ev_b1, ev_b2, ev_isi, ev_ix, ev_sl, ev_lst, ev_tup, ev_newL, ev_newD, ev_join, ev_fld, exec_asg, exec_setI, exec_setF, exec_aug, exec_mut, exec_ifs, exec_ret, exec_retn, exec_brk, exec_cont, exec_exp, exec_rai, exec_fg, exec_pas, evT, evs, evTAnd, evTOr, evAnd, evOr, evP, evSrc, bo, bnd, frzAll, esT, esTs, esO, esc, escs, esS, escS, opd, opn, look, peek, ofO, cmpD, truthD, thenK, sweep, fresh, asgK, asgT, asgTs, put, binD, b1D, b2D, ixD, ixN, atI_0, atI_1, atI_2, atI_3, atI_4, eqv, eqvs, shp, shps, setK, setX, setOb, isVar, unset, cellOf, frz, valOf, forL, forK, isiD, items, seqs, lenD, fldD, isIns, isNon, fr, e1, h1, h2, hr]
    rw [e4]
    simp only [bnd_ok]
    rw [e2]
    rfl
  have e5 : exec (cls' (n + 30)) t1 (fr ns pl ws tr .un c8 .un .un .un .un .un .un .un) p.t = bo (ev (cls' (n + 30)) (.comp (.rng (.call 2 (es [(.var 1), (.kon (.int 4))]))) (.nm 16) [16] .yes (.call 2 (es [(.var 1), (.kon (.int 2))]))) (fr ns pl ws tr .un c8 .un .un .un .un .un .un .un) p.t) fun d t => asgK true (.nm 9) (fr ns pl ws tr .un c8 .un .un .un .un .un .un .un) d t := by
    simp [t1, exec_asg, esc, esS, esO, escs, esT, es, frzAll, fresh, fr, look, put, frz]
  rw [e5, e3]
  simp [runF, ss, es, ts, gs, execs, ev_var, ev_kon, ev_glb, ev_bin, ev_neg, ev_cmp, ev_chn, ev_and, ev_or, ev_not, ev_ife, ev_call, ev_callk, ev_mth, ev_mk, ev_b1, ev_b2, ev_isi, ev_ix, ev_sl, ev_lst, ev_tup, ev_newL, ev_newD, ev_join, ev_fld, exec_asg, exec_setI, exec_setF, exec_aug, exec_mut, exec_ifs, exec_ret, exec_retn, exec_brk, exec_cont, exec_exp, exec_rai, exec_fg, exec_pas, evT, evs, evTAnd, evTOr, evAnd, evOr, evP, evSrc, bo, bnd, frzAll, esT, esTs, esO, esc, escs, esS, escS, opd, opn, look, peek, ofO, cmpD, truthD, thenK, sweep, fresh, asgK, asgT, asgTs, put, binD, b1D, b2D, ixD, ixN, atI_0, atI_1, atI_2, atI_3, atI_4, eqv, eqvs, shp, shps, setK, setX, setOb, isVar, unset, cellOf, frz, valOf, forL, forK, isiD, items, seqs, lenD, fldD, isIns, isNon, fr]
theorem st8 (n pl : Nat) (ns : List Int) (ws : List (List Nat)) (tr : Tr) (C : Ctx pl ws tr) (p : Pool) (b : Int) (o : Ok p b) (hb : b < 800000) : ∃ p', exec (cls' (n + 30)) q8 (fr ns pl ws tr .un .un .un .un .un .un .un .un .un) p.t = .nx (fr ns pl ws tr .un .un .un .un .un .un .un .un .un) (Pool.t p') ∧ Ok p' (b + 40) := by
  have hht : tr.ht ≤ 7 := by have := C.ht; have := C.le; omega
  -- one turn
  have one : ∀ (p : Pool) (b : Int) (k : Int), Ok p b → b < 850000 → ∃ c9 c10 p', execs (cls' (n + 30)) (ss [t1, t2, t3]) (fr ns pl ws tr .un (.val (.int k)) .un .un .un .un .un .un .un) p.t = .nx (fr ns pl ws tr .un (.val (.int k)) c9 c10 .un .un .un .un .un) (Pool.t p') ∧ Ok p' (b + 20) := fun p b k o hb => by
    obtain ⟨l, p1, e1, o1⟩ := x1 n pl ns ws tr p b o (by omega) (.val (.int k))
    obtain ⟨r2, p2, e2, o2, r20, _⟩ := draw (n + 29) p1 (b + 10) 8 (by omega) o1 (by omega)
    obtain ⟨r3, p3, e3, o3, r30, _⟩ := draw (n + 29) p2 (b + 10 + 2) 9973 (by omega) o2 (by omega)
    have e2 : call prg (n + 30) 2 [.obj 0, .int 8] p1.t = _ := e2
    have e3 : call prg (n + 30) 2 [.obj 0, .int 9973] p2.t = _ := e3
    obtain ⟨x, e4, hx⟩ := c8 (n + (27 - tr.ht)) pl ws r2 r3 p3.t C.wd C.pos (by have := C.p8; omega) (by have := C.le; omega) r30 tr l C.inn (by omega)
    rw [show n + (27 - tr.ht) + tr.ht + 3 = n + 30 by omega] at e4
    have hx : Pl 20 x := hx.le (by omega)
    obtain ⟨r5, p5, e5, o5, r50, r51⟩ := draw (n + 29) p3 (b + 10 + 2 + 2) 3 (by omega) o3 (by omega)
    have e5 : call prg (n + 30) 2 [.obj 0, .int 3] p3.t = _ := e5
    have f2 : exec (cls' (n + 30)) t2 (fr ns pl ws tr .un (.val (.int k)) (.own (l.map .int)) .un .un .un .un .un .un) p1.t = .nx (fr ns pl ws tr .un (.val (.int k)) (.val (.lst (l.map .int))) (.val x) .un .un .un .un .un) p3.t := by
      simp [runF, ss, es, ts, gs, execs, ev_var, ev_kon, ev_glb, ev_bin, ev_neg, ev_cmp, ev_chn, ev_and, ev_or, ev_not, ev_ife, ev_call, ev_callk, ev_mth, ev_mk, ev_b1, ev_b2, ev_isi, ev_ix, ev_sl, ev_lst, ev_tup, ev_newL, ev_newD, ev_join, ev_fld, exec_asg, exec_setI, exec_setF, exec_aug, exec_mut, exec_ifs, exec_ret, exec_retn, exec_brk, exec_cont, exec_exp, exec_rai, exec_fg, exec_pas, evT, evs, evTAnd, evTOr, evAnd, evOr, evP, evSrc, bo, bnd, frzAll, esT, esTs, esO, esc, escs, esS, escS, opd, opn, look, peek, ofO, cmpD, truthD, thenK, sweep, fresh, asgK, asgT, asgTs, put, binD, b1D, b2D, ixD, ixN, atI_0, atI_1, atI_2, atI_3, atI_4, eqv, eqvs, shp, shps, setK, setX, setOb, isVar, unset, cellOf, frz, valOf, forL, forK, isiD, items, seqs, lenD, fldD, isIns, isNon, t2, fr, e2, e3, e4]
    have bnd : ∃ v : Int, atI [D.int 100, .int tr.ht, .int (tr.ht + 1)] r5 = some (.int v) ∧ 0 ≤ v ∧ v ≤ 100 := by
      have h5 : r5 = 0 ∨ r5 = 1 ∨ r5 = 2 := by omega
      rcases h5 with rfl | rfl | rfl
      · exact ⟨100, atI_0 _ _, by omega, by omega⟩
      · exact ⟨tr.ht, atI_1 _ _ _, by omega, by omega⟩
      · exact ⟨tr.ht + 1, atI_2 _ _ _ _, by omega, by omega⟩
    obtain ⟨v, hv, v0, v1⟩ := bnd
    have a1 := asked n pl ws C.wd C.pos C.le C.nd x hx p5 v v0 v1
    have f3 : exec (cls' (n + 30)) t3 (fr ns pl ws tr .un (.val (.int k)) (.val (.lst (l.map .int))) (.val x) .un .un .un .un .un) p3.t = .nx (fr ns pl ws tr .un (.val (.int k)) (.val (.lst (l.map .int))) (.val x) .un .un .un .un .un) p5.t := by
      simp [runF, ss, es, ts, gs, execs, ev_var, ev_kon, ev_glb, ev_bin, ev_neg, ev_cmp, ev_chn, ev_and, ev_or, ev_not, ev_ife, ev_call, ev_callk, ev_mth, ev_mk, ev_b1, ev_b2, ev_isi, ev_ix, ev_sl, ev_lst, ev_tup, ev_newL, ev_newD, ev_join, ev_fld, exec_asg, exec_setI, exec_setF, exec_aug, exec_mut, exec_ifs, exec_ret, exec_retn, exec_brk, exec_cont, exec_exp, exec_rai, exec_fg, exec_pas, evT, evs, evTAnd, evTOr, evAnd, evOr, evP, evSrc, bo, bnd, frzAll, esT, esTs, esO, esc, escs, esS, escS, opd, opn, look, peek, ofO, cmpD, truthD, thenK, sweep, fresh, asgK, asgT, asgTs, put, binD, b1D, b2D, ixD, ixN, atI_0, atI_1, atI_2, atI_3, atI_4, eqv, eqvs, shp, shps, setK, setX, setOb, isVar, unset, cellOf, frz, valOf, forL, forK, isiD, items, seqs, lenD, fldD, isIns, isNon, t3, fr, e5, hv, a1]
    refine ⟨.val (.lst (l.map .int)), .val x, p5, ?_, ⟨o5.i, o5.l, o5.c, o5.d.1, by have := o5.d.2; omega⟩⟩
    have e0 : ∀ ρ t, execs (cls' (n + 30)) (ss [t1, t2, t3]) ρ t = thenK (exec (cls' (n + 30)) t1 ρ t) fun ρ t => thenK (exec (cls' (n + 30)) t2 ρ t) fun ρ t => thenK (exec (cls' (n + 30)) t3 ρ t) fun ρ t => .nx ρ t := fun _ _ => rfl
    rw [e0, e1]
    simp only [thenK]
    rw [f2]
    simp only [thenK]
    rw [f3]
  obtain ⟨c9, c10, p1, e1, o1⟩ := one p b 0 o (by omega)
  obtain ⟨c9', c10', p2, e2, o2⟩ := one p1 (b + 20) 1 o1 (by omega)
  refine ⟨p2, ?_, ⟨o2.i, o2.l, o2.c, o2.d.1, by have := o2.d.2; omega⟩⟩
  rw [q8_eq, exec_for]
  have hsrc : evSrc (cls' (n + 30)) (.rng (.kon (.int 2))) false (frzAll (fr ns pl ws tr .un .un .un .un .un .un .un .un .un) (escS (.rng (.kon (.int 2))))) p.t = .ok [.int 0, .int 1] p.t := by
    simp [runF, ss, es, ts, gs, execs, ev_var, ev_kon, ev_glb, ev_bin, ev_neg, ev_cmp, ev_chn, ev_and, ev_or, ev_not, ev_ife, ev_call, ev_callk, ev_mth, ev_mk, ev_b1, ev_b2, ev_isi, ev_ix, ev_sl, ev_lst, ev_tup, ev_newL, ev_newD, ev_join, ev_fld, exec_asg, exec_setI, exec_setF, exec_aug, exec_mut, exec_ifs, exec_ret, exec_retn, exec_brk, exec_cont, exec_exp, exec_rai, exec_fg, exec_pas, evT, evs, evTAnd, evTOr, evAnd, evOr, evP, evSrc, bo, bnd, frzAll, esT, esTs, esO, esc, escs, esS, escS, opd, opn, look, peek, ofO, cmpD, truthD, thenK, sweep, fresh, asgK, asgT, asgTs, put, binD, b1D, b2D, ixD, ixN, atI_0, atI_1, atI_2, atI_3, atI_4, eqv, eqvs, shp, shps, setK, setX, setOb, isVar, unset, cellOf, frz, valOf, forL, forK, isiD, items, seqs, lenD, fldD, isIns, isNon, range0, List.range_succ]
  rw [hsrc]
  have hfr : frzAll (fr ns pl ws tr .un .un .un .un .un .un .un .un .un) (escS (.rng (.kon (.int 2)))) = fr ns pl ws tr .un .un .un .un .un .un .un .un .un := rfl
  rw [hfr]
  have g1 : forK (.nm 8) (fun ρ t => execs (cls' (n + 30)) (ss [t1, t2, t3]) ρ t) (.int 0) (fr ns pl ws tr .un .un .un .un .un .un .un .un .un) p.t = _ := e1
  have g2 : forK (.nm 8) (fun ρ t => execs (cls' (n + 30)) (ss [t1, t2, t3]) ρ t) (.int 1) (fr ns pl ws tr .un .un .un .un .un .un .un .un .un) p1.t = _ := e2
  have u1 : unset (fr ns pl ws tr .un (.val (.int 0)) c9 c10 .un .un .un .un .un) [8, 9, 10] = fr ns pl ws tr .un .un .un .un .un .un .un .un .un := rfl
  have u2 : unset (fr ns pl ws tr .un (.val (.int 1)) c9' c10' .un .un .un .un .un) [8, 9, 10] = fr ns pl ws tr .un .un .un .un .un .un .un .un .un := rfl
  simp only [bo_ok, forL, g1, u1, g2, u2]
theorem st9 (n pl : Nat) (ns : List Int) (ws : List (List Nat)) (tr : Tr) (C : Ctx pl ws tr) (p : Pool) (b : Int) (o : Ok p b) (hb : b < 900000) : ∃ c11 c12 p', exec (cls' (n + 30)) q9 (fr ns pl ws tr .un .un .un .un .un .un .un .un .un) p.t = .nx (fr ns pl ws tr .un .un .un .un c11 c12 .un .un .un) (Pool.t p') ∧ Ok p' (b + 4) := by
  by_cases h : 1 < ws.length
  · obtain ⟨r1, p1, e1, o1, r10, r11⟩ := draw (n + 29) p b ws.length (by have := C.le; omega) o (by omega)
    obtain ⟨r2, p2, e2, o2, r20, r21⟩ := draw (n + 29) p1 (b + 2) ((ws.length : Int) - 1) (by have := C.le; omega) o1 (by omega)
    have e1 : call prg (n + 30) 2 [.obj 0, .int ws.length] p.t = _ := e1
    have e2 : call prg (n + 30) 2 [.obj 0, .int ((ws.length : Int) - 1)] p1.t = _ := e2
    obtain ⟨a, rfl⟩ := Int.eq_ofNat_of_zero_le r10
    have ha : a < ws.length := by omega
    have hw0 : (0 : Int) < ws.length := by omega
    have hw0' : 0 < ws.length := C.pos
    obtain ⟨m, hm⟩ := Int.eq_ofNat_of_zero_le (Int.emod_nonneg ((a : Int) + 1 + r2) (show (ws.length : Int) ≠ 0 by omega))
    have hm2 : m < ws.length := by
      have := Int.emod_lt_of_pos ((a : Int) + 1 + r2) hw0
      omega
    have hht : tr.ht ≤ 7 := by have := C.ht; have := C.le; omega
    obtain ⟨tr', e3, i3, j3⟩ := c10 (n + (29 - tr.ht)) pl ws.length a m p2.t ha hm2 tr C.inn
    rw [show n + (29 - tr.ht) + tr.ht + 1 = n + 30 by omega] at e3
    have a1 := asked n pl ws C.wd C.pos C.le C.nd tr'.D (Pl.tr tr' 20 (by omega)) p2 100 (by omega) (by omega)
    refine ⟨.val (.int a), .val (.int m), p2, ?_, ⟨o2.i, o2.l, o2.c, o2.d.1, by have := o2.d.2; omega⟩⟩
    have h' : (1 : Int) < ws.length := by omega
    simp [runF, ss, es, ts, gs, execs, ev_var, ev_kon, ev_glb, ev_bin, ev_neg, ev_cmp, ev_chn, ev_and, ev_or, ev_not, ev_ife, ev_call, ev_callk, ev_mth, ev_mk, ev_b1, ev_b2, ev_isi, ev_ix, ev_sl, ev_lst, ev_tup, ev_newL, ev_newD, ev_join, ev_fld, exec_asg, exec_setI, exec_setF, exec_aug, exec_mut, exec_ifs, exec_ret, exec_retn, exec_brk, exec_cont, exec_exp, exec_rai, exec_fg, exec_pas, evT, evs, evTAnd, evTOr, evAnd, evOr, evP, evSrc, bo, bnd, frzAll, esT, esTs, esO, esc, escs, esS, escS, opd, opn, look, peek, ofO, cmpD, truthD, thenK, sweep, fresh, asgK, asgT, asgTs, put, binD, b1D, b2D, ixD, ixN, atI_0, atI_1, atI_2, atI_3, atI_4, eqv, eqvs, shp, shps, setK, setX, setOb, isVar, unset, cellOf, frz, valOf, forL, forK, isiD, items, seqs, lenD, fldD, isIns, isNon, q9, hd, tl, b0, fr, h', h, e1, e2, hw0, hw0', hm, e3, a1]
  · refine ⟨.un, .un, p, ?_, ⟨o.i, o.l, o.c, o.d.1, by have := o.d.2; omega⟩⟩
    have h' : ¬ (1 : Int) < ws.length := by omega
    simp [runF, ss, es, ts, gs, execs, ev_var, ev_kon, ev_glb, ev_bin, ev_neg, ev_cmp, ev_chn, ev_and, ev_or, ev_not, ev_ife, ev_call, ev_callk, ev_mth, ev_mk, ev_b1, ev_b2, ev_isi, ev_ix, ev_sl, ev_lst, ev_tup, ev_newL, ev_newD, ev_join, ev_fld, exec_asg, exec_setI, exec_setF, exec_aug, exec_mut, exec_ifs, exec_ret, exec_retn, exec_brk, exec_cont, exec_exp, exec_rai, exec_fg, exec_pas, evT, evs, evTAnd, evTOr, evAnd, evOr, evP, evSrc, bo, bnd, frzAll, esT, esTs, esO, esc, escs, esS, escS, opd, opn, look, peek, ofO, cmpD, truthD, thenK, sweep, fresh, asgK, asgT, asgTs, put, binD, b1D, b2D, ixD, ixN, atI_0, atI_1, atI_2, atI_3, atI_4, eqv, eqvs, shp, shps, setK, setX, setOb, isVar, unset, cellOf, frz, valOf, forL, forK, isiD, items, seqs, lenD, fldD, isIns, isNon, q9, hd, tl, b0, fr, h', h]
end K94
set_option maxRecDepth 100000
set_option linter.all false
set_option autoImplicit false
namespace K94
open Pd
theorem st11 (n pl : Nat) (ns : List Int) (ws : List (List Nat)) (tr : Tr) (C : Ctx pl ws tr) (p : Pool) (b : Int) (o : Ok p b) (hb : b < 900000) : ∃ c11 c13 c14 c15 p', exec (cls' (n + 30)) q11 (fr ns pl ws tr .un .un .un .un .un .un .un .un .un) p.t = .nx (fr ns pl ws tr .un .un .un .un c11 .un c13 c14 c15) (Pool.t p') ∧ Ok p' (b + 6) := by
  by_cases h : 0 < pl
  · obtain ⟨r1, p1, e1, o1, r10, r11⟩ := draw (n + 29) p b ws.length (by have := C.le; omega) o (by omega)
    obtain ⟨r2, p2, e2, o2, r20, r21⟩ := draw (n + 29) p1 (b + 2) pl (by have := C.p8; omega) o1 (by omega)
    have e1 : call prg (n + 30) 2 [.obj 0, .int ws.length] p.t = _ := e1
    have e2 : call prg (n + 30) 2 [.obj 0, .int pl] p1.t = _ := e2
    obtain ⟨a, rfl⟩ := Int.eq_ofNat_of_zero_le r10
    obtain ⟨k, rfl⟩ := Int.eq_ofNat_of_zero_le r20
    have ha : a < ws.length := by have := C.pos; omega
    have hk : k < pl := by omega
    have wl : (wAt ws a).length = pl := C.wd.len _ (wAt_mem ha)
    have w1 := atI_W ws a ha
    have w2 := atI_w (wAt ws a) k (by rw [wl]; exact hk)
    have hbit : cAt (wAt ws a) k = 48 ∨ cAt (wAt ws a) k = 49 := bit_or C.wd ha hk
    have tk : cut (wAt ws a) none (some (k : Int)) = (wAt ws a).take k := cut_take _ k (by omega)
    have dr : cut (wAt ws a) (some ((k : Int) + 1)) none = (wAt ws a).drop (k + 1) := by
      have := cut_drop (wAt ws a) (k + 1) (by omega)
      rw [← this]; rfl
    have hlen1 : (wAt ws a).take k = (wAt ws a).take k := rfl
    have l1 : ((wAt ws a).take k).length = k := by rw [List.length_take]; omega
    have l2 : ((wAt ws a).drop (k + 1)).length = pl - (k + 1) := by rw [List.length_drop, wl]
    have p8 := C.p8
    obtain ⟨z, hz, hz2⟩ : ∃ z : Nat, atI [49, 48] ((cAt (wAt ws a) k : Int) - 48) = some z ∧ (z = 48 ∨ z = 49) := by
      rcases hbit with h' | h' <;> rw [h']
      · exact ⟨49, atI_0 _ _, .inr rfl⟩
      · exact ⟨48, atI_1 _ _ _, .inl rfl⟩
    have hc1 : 48 ≤ cAt (wAt ws a) k ∧ cAt (wAt ws a) k ≤ 57 := by omega
    generalize hx : (wAt ws a).take k = xs at tk l1
    generalize hy : (wAt ws a).drop (k + 1) = ys at dr l2
    have s1 : xs.length + 1 ≤ sz := by unfold sz; omega
    have s2 : xs.length + 1 + ys.length ≤ sz := by unfold sz; omega
    have s2' : xs.length + (ys.length + 1) ≤ sz := by unfold sz; omega
    have iw := inD_W (xs ++ z :: ys) ws
    have h' : (0 : Int) < pl := by omega
    by_cases hm : xs ++ z :: ys ∈ ws
    · refine ⟨.val (.int a), .val (.int k), .val (.str (xs ++ z :: ys)), .un, p2, ?_, ⟨o2.i, o2.l, o2.c, o2.d.1, by have := o2.d.2; omega⟩⟩
      simp [runF, ss, es, ts, gs, execs, ev_var, ev_kon, ev_glb, ev_bin, ev_neg, ev_cmp, ev_chn, ev_and, ev_or, ev_not, ev_ife, ev_call, ev_callk, ev_mth, ev_mk, ev_b1, ev_b2, ev_isi, ev_ix, ev_sl, ev_lst, ev_tup, ev_newL, ev_newD, ev_join, ev_fld, exec_asg, exec_setI, exec_setF, exec_aug, exec_mut, exec_ifs, exec_ret, exec_retn, exec_brk, exec_cont, exec_exp, exec_rai, exec_fg, exec_pas, evT, evs, evTAnd, evTOr, evAnd, evOr, evP, evSrc, bo, bnd, frzAll, esT, esTs, esO, esc, escs, esS, escS, opd, opn, look, peek, ofO, cmpD, truthD, thenK, sweep, fresh, asgK, asgT, asgTs, put, binD, b1D, b2D, ixD, ixN, atI_0, atI_1, atI_2, atI_3, atI_4, eqv, eqvs, shp, shps, setK, setX, setOb, isVar, unset, cellOf, frz, valOf, forL, forK, isiD, items, seqs, lenD, fldD, isIns, isNon, q11, hd, tl, b0, fr, h, h', e1, e2, w1, w2, cutD, tk, dr, hz, hc1, s1, s2, s2', iw, hm]
    · obtain ⟨r3, p3, e3, o3, r30, r31⟩ := draw (n + 29) p2 (b + 2 + 2) 2 (by omega) o2 (by omega)
      have e3 : call prg (n + 30) 2 [.obj 0, .int 2] p2.t = _ := e3
      have tkW : cut (ws.map D.str) none (some (a : Int)) = (ws.take a).map .str := by
        rw [cut_take _ a (by rw [List.length_map]; omega), List.map_take]
      have drW : cut (ws.map D.str) (some ((a : Int) + 1)) none = (ws.drop (a + 1)).map .str := by
        have := cut_drop (ws.map D.str) (a + 1) (by rw [List.length_map]; omega)
        rw [List.map_drop, ← this]; rfl
      have sub : (ws.take a ++ ws.drop (a + 1)).Sublist ws := by
        conv => rhs; rw [← List.take_append_drop a ws]
        refine List.Sublist.append (List.Sublist.refl _) ?_
        rw [← List.drop_drop]
        exact List.drop_sublist _ _
      have le1 : (ws.take a).length = a := by rw [List.length_take]; omega
      have le2 : (ws.drop (a + 1)).length = ws.length - (a + 1) := List.length_drop ..
      have len' : (ws.take a ++ (xs ++ z :: ys) :: ws.drop (a + 1)).length = ws.length := by
        rw [List.length_append, List.length_cons, le1, le2]; omega
      have mem' : ∀ w ∈ (ws.take a ++ (xs ++ z :: ys) :: ws.drop (a + 1)), w ∈ ws ∨ w = xs ++ z :: ys := fun w hw => by
        rcases List.mem_append.mp hw with hw | hw
        · exact .inl (List.mem_of_mem_take hw)
        · rcases List.mem_cons.mp hw with hw | hw
          · exact .inr hw
          · exact .inl (List.mem_of_mem_drop hw)
      have wd' : Wd (ws.take a ++ (xs ++ z :: ys) :: ws.drop (a + 1)) pl := by
        refine ⟨fun w hw => ?_, fun w hw y hy' => ?_⟩
        · rcases mem' w hw with hw | rfl
          · exact C.wd.len w hw
          · rw [List.length_append, List.length_cons, l1, l2]; omega
        · rcases mem' w hw with hw | rfl
          · exact C.wd.bit w hw y hy'
          · rcases List.mem_append.mp hy' with hy' | hy'
            · rw [← hx] at hy'; exact C.wd.bit _ (wAt_mem ha) y (List.mem_of_mem_take hy')
            · rcases List.mem_cons.mp hy' with hy' | hy'
              · rw [hy']; exact hz2
              · rw [← hy] at hy'; exact C.wd.bit _ (wAt_mem ha) y (List.mem_of_mem_drop hy')
      have nd' : (ws.take a ++ (xs ++ z :: ys) :: ws.drop (a + 1)).Nodup := by
        have nd0 := C.nd.sublist sub
        have pr : (ws.take a ++ (xs ++ z :: ys) :: ws.drop (a + 1)).Perm ((xs ++ z :: ys) :: (ws.take a ++ ws.drop (a + 1))) := List.perm_middle
        refine pr.nodup_iff.mpr (List.nodup_cons.mpr ⟨fun hw => hm (sub.subset hw), nd0⟩)
      have hht : tr.ht ≤ 7 := by have := C.ht; have := C.le; omega
      have bnd : ∃ v : Int, atI [D.int 100, .int tr.ht] r3 = some (.int v) ∧ 0 ≤ v ∧ v ≤ 100 := by
        have h5 : r3 = 0 ∨ r3 = 1 := by omega
        rcases h5 with rfl | rfl
        · exact ⟨100, atI_0 _ _, by omega, by omega⟩
        · exact ⟨tr.ht, atI_1 _ _ _, by omega, by omega⟩
      obtain ⟨v, hv, v0, v1⟩ := bnd
      have a1 := asked n pl _ wd' (by rw [len']; exact C.pos) (by rw [len']; exact C.le) nd' tr.D (Pl.tr tr 20 (by omega)) p3 v v0 v1
      have lw : ((ws.take a).map D.str).length = a := by rw [List.length_map]; exact le1
      have lw2 : ((ws.drop (a + 1)).map D.str).length = ws.length - (a + 1) := by rw [List.length_map]; exact le2
      have hW : (ws.take a ++ (xs ++ z :: ys) :: ws.drop (a + 1)).map D.str = (ws.take a).map .str ++ .str (xs ++ z :: ys) :: (ws.drop (a + 1)).map .str := by
        rw [List.map_append, List.map_cons]
      simp only [W] at a1
      rw [hW] at a1
      have hle := C.le
      generalize hA : (ws.take a).map D.str = A at tkW a1 lw
      generalize hB : (ws.drop (a + 1)).map D.str = B at drW a1 lw2
      have z1 : A.length + 1 ≤ sz := by unfold sz; omega
      have z2 : A.length + (B.length + 1) ≤ sz := by unfold sz; omega
      have z3 : A.length + 1 + B.length ≤ sz := by unfold sz; omega
      refine ⟨.val (.int a), .val (.int k), .val (.str (xs ++ z :: ys)), .un, p3, ?_, ⟨o3.i, o3.l, o3.c, o3.d.1, by have := o3.d.2; omega⟩⟩
      simp [runF, ss, es, ts, gs, execs, ev_var, ev_kon, ev_glb, ev_bin, ev_neg, ev_cmp, ev_chn, ev_and, ev_or, ev_not, ev_ife, ev_call, ev_callk, ev_mth, ev_mk, ev_b1, ev_b2, ev_isi, ev_ix, ev_sl, ev_lst, ev_tup, ev_newL, ev_newD, ev_join, ev_fld, exec_asg, exec_setI, exec_setF, exec_aug, exec_mut, exec_ifs, exec_ret, exec_retn, exec_brk, exec_cont, exec_exp, exec_rai, exec_fg, exec_pas, evT, evs, evTAnd, evTOr, evAnd, evOr, evP, evSrc, bo, bnd, frzAll, esT, esTs, esO, esc, escs, esS, escS, opd, opn, look, peek, ofO, cmpD, truthD, thenK, sweep, fresh, asgK, asgT, asgTs, put, binD, b1D, b2D, ixD, ixN, atI_0, atI_1, atI_2, atI_3, atI_4, eqv, eqvs, shp, shps, setK, setX, setOb, isVar, unset, cellOf, frz, valOf, forL, forK, isiD, items, seqs, lenD, fldD, isIns, isNon, q11, hd, tl, b0, fr, h, h', e1, e2, w1, w2, cutD, tk, dr, hz, hc1, s1, s2, s2', iw, hm, tkW, drW, z1, z2, z3, e3, hv, a1]
  · refine ⟨.un, .un, .un, .un, p, ?_, ⟨o.i, o.l, o.c, o.d.1, by have := o.d.2; omega⟩⟩
    have h' : ¬ (0 : Int) < pl := by omega
    simp [runF, ss, es, ts, gs, execs, ev_var, ev_kon, ev_glb, ev_bin, ev_neg, ev_cmp, ev_chn, ev_and, ev_or, ev_not, ev_ife, ev_call, ev_callk, ev_mth, ev_mk, ev_b1, ev_b2, ev_isi, ev_ix, ev_sl, ev_lst, ev_tup, ev_newL, ev_newD, ev_join, ev_fld, exec_asg, exec_setI, exec_setF, exec_aug, exec_mut, exec_ifs, exec_ret, exec_retn, exec_brk, exec_cont, exec_exp, exec_rai, exec_fg, exec_pas, evT, evs, evTAnd, evTOr, evAnd, evOr, evP, evSrc, bo, bnd, frzAll, esT, esTs, esO, esc, escs, esS, escS, opd, opn, look, peek, ofO, cmpD, truthD, thenK, sweep, fresh, asgK, asgT, asgTs, put, binD, b1D, b2D, ixD, ixN, atI_0, atI_1, atI_2, atI_3, atI_4, eqv, eqvs, shp, shps, setK, setX, setOb, isVar, unset, cellOf, frz, valOf, forL, forK, isiD, items, seqs, lenD, fldD, isIns, isNon, q11, hd, tl, b0, fr, h, h']
/-- the head: places, words, living, grown, depth -/
theorem start (n : Nat) (ns : List Int) (h : ns.length ≤ 1000) : ∃ pl ws tr p', Ctx pl ws tr ∧ Ok p' 200 ∧ execs (cls' (n + 30)) b0 [.val (.scr ns), .un, .un, .un, .un, .un, .un, .un, .un, .un, .un, .un, .un, .un, .un, .un, .un] [] =
    execs (cls' (n + 30)) (tl (tl (tl (tl (tl (tl b0)))))) (fr ns pl ws tr .un .un .un .un .un .un .un .un .un) (Pool.t p') := by
  have p0 : Ok ⟨ns, 0, 0, 40692, 0⟩ 0 := ⟨Int.le_refl _, Int.le_refl _, ⟨by show (0 : Int) ≤ 40692; omega, by show (40692 : Int) < 2147483647; omega⟩, Int.le_refl _, Int.le_refl _⟩
  have e0 : call prg (n + 30) 1 [.scr ns] [] = .ok (.obj 0) (Pool.t ⟨ns, 0, 0, 40692, 0⟩) := by
    rw [cS 1 f1 rfl]
    simp [runF, ss, es, ts, gs, execs, ev_var, ev_kon, ev_glb, ev_bin, ev_neg, ev_cmp, ev_chn, ev_and, ev_or, ev_not, ev_ife, ev_call, ev_callk, ev_mth, ev_mk, ev_b1, ev_b2, ev_isi, ev_ix, ev_sl, ev_lst, ev_tup, ev_newL, ev_newD, ev_join, ev_fld, exec_asg, exec_setI, exec_setF, exec_aug, exec_mut, exec_ifs, exec_ret, exec_retn, exec_brk, exec_cont, exec_exp, exec_rai, exec_fg, exec_pas, evT, evs, evTAnd, evTOr, evAnd, evOr, evP, evSrc, bo, bnd, frzAll, esT, esTs, esO, esc, escs, esS, escS, opd, opn, look, peek, ofO, cmpD, truthD, thenK, sweep, fresh, asgK, asgT, asgTs, put, binD, b1D, b2D, ixD, ixN, atI_0, atI_1, atI_2, atI_3, atI_4, eqv, eqvs, shp, shps, setK, setX, setOb, isVar, unset, cellOf, frz, valOf, forL, forK, isiD, items, seqs, lenD, fldD, isIns, isNon, f1, b1, Pool.t]
  obtain ⟨r1, p1, e1, o1, r10, r11⟩ := draw (n + 29) ⟨ns, 0, 0, 40692, 0⟩ 0 9 (by omega) p0 (by omega)
  have e1 : call prg (n + 30) 2 [.obj 0, .int 9] (Pool.t ⟨ns, 0, 0, 40692, 0⟩) = _ := e1
  obtain ⟨pl, rfl⟩ := Int.eq_ofNat_of_zero_le r10
  have hpl : pl ≤ 8 := by omega
  have hM0 : 0 < (2 : Nat) ^ pl := Nat.two_pow_pos pl
  have hP : (2 : Int) ^ pl = ((2 ^ pl : Nat) : Int) := by rw [Int.natCast_pow]; rfl
  obtain ⟨r2, p2, e2, o2, r20, r21⟩ := draw (n + 29) p1 (0 + 2) (if ((2 ^ pl : Nat) : Int) < 8 then ((2 ^ pl : Nat) : Int) else 8) (by split <;> omega) o1 (by omega)
  have e2 : call prg (n + 30) 2 [.obj 0, .int (if ((2 ^ pl : Nat) : Int) < 8 then ((2 ^ pl : Nat) : Int) else 8)] p1.t = _ := e2
  obtain ⟨m, hm⟩ : ∃ m : Nat, 1 + r2 = (m : Int) := Int.eq_ofNat_of_zero_le (by omega)
  have hm8 : 1 ≤ m ∧ m ≤ 8 ∧ m ≤ 2 ^ pl := by
    split at r21 <;> omega
  obtain ⟨nums, p3, e3, l3, nd3, lt3, o3⟩ := c3 (n + 28) pl m p2 (0 + 2 + 2) hpl hm8.2.1 hm8.2.2 (by omega) o2
  have e3 : call prg (n + 30) 3 [.obj 0, .int m, .int pl] p2.t = _ := e3
  have wd := words_wd pl nums
  have wnd := words_nd nd3 lt3
  have wlen : (nums.map (wordN pl)).length = m := by rw [List.length_map]; exact l3
  generalize nums.map (wordN pl) = ws at e3 wd wnd wlen
  obtain ⟨tr, p4, e4, o4, i4, h4, g4⟩ := c4 (n + 19) pl ws wd (by omega) wnd (by omega) 8 (List.range ws.length) p3 (0 + 2 + 2 + 2 + 6 * m) (by rw [List.length_range]; omega) (fun z => by have := congrArg List.length z; rw [List.length_range] at this; have this : ws.length = 0 := this; omega) List.nodup_range (fun q hq => List.mem_range.mp hq) o3 (by rw [List.length_range]; omega)
  rw [List.length_range] at o4 h4
  have e4 : call prg (n + 30) 4 [.obj 0, .tup (ws.map .str), .lst (LN (List.range ws.length))] p3.t = _ := e4
  have C : Ctx pl ws tr := ⟨wd, wnd, by omega, by omega, hpl, i4, h4, g4⟩
  have e5 := c5 ws pl p4.t wd C.pos 20 (n + 8) tr.D (List.range ws.length) (Pl.tr tr 20 (by omega)) (fun q hq => List.mem_range.mp hq)
  rw [g4 20 (by omega)] at e5
  have e5 : call prg (n + 30) 5 [.tup (ws.map .str), tr.D, .lst (LN (List.range ws.length))] p4.t = .ok (.int tr.ht) p4.t := e5
  refine ⟨pl, ws, tr, p4, C, ⟨o4.i, o4.l, o4.c, o4.d.1, by have := o4.d.2; omega⟩, ?_⟩
  have hr := range0_LN ws.length
  have q1 : (-1000000 : Int) ≤ ws.length := by omega
  have q2 : (ws.length : Int) ≤ 1000000 := by omega
  have q3 : (pl : Int) ≤ 1000000 := by omega
  have q4 : (1 : Int).natAbs < 18446744073709551616 := by decide
  rw [← hP] at e2
  have ec : execs (cls' (n + 30)) b0 [.val (.scr ns), .un, .un, .un, .un, .un, .un, .un, .un, .un, .un, .un, .un, .un, .un, .un, .un] [] = thenK (exec (cls' (n + 30)) (hd b0) [.val (.scr ns), .un, .un, .un, .un, .un, .un, .un, .un, .un, .un, .un, .un, .un, .un, .un, .un] []) fun ρ t => thenK (exec (cls' (n + 30)) (hd (tl b0)) ρ t) fun ρ t => thenK (exec (cls' (n + 30)) (hd (tl (tl b0))) ρ t) fun ρ t => thenK (exec (cls' (n + 30)) (hd (tl (tl (tl b0)))) ρ t) fun ρ t => thenK (exec (cls' (n + 30)) (hd (tl (tl (tl (tl b0))))) ρ t) fun ρ t => thenK (exec (cls' (n + 30)) (hd (tl (tl (tl (tl (tl b0)))))) ρ t) fun ρ t => execs (cls' (n + 30)) (tl (tl (tl (tl (tl (tl b0)))))) ρ t := rfl
  rw [ec]
  generalize tl (tl (tl (tl (tl (tl b0))))) = rest
  simp [runF, ss, es, ts, gs, execs, ev_var, ev_kon, ev_glb, ev_bin, ev_neg, ev_cmp, ev_chn, ev_and, ev_or, ev_not, ev_ife, ev_call, ev_callk, ev_mth, ev_mk, ev_b1, ev_b2, ev_isi, ev_ix, ev_sl, ev_lst, ev_tup, ev_newL, ev_newD, ev_join, ev_fld, exec_asg, exec_setI, exec_setF, exec_aug, exec_mut, exec_ifs, exec_ret, exec_retn, exec_brk, exec_cont, exec_exp, exec_rai, exec_fg, exec_pas, evT, evs, evTAnd, evTOr, evAnd, evOr, evP, evSrc, bo, bnd, frzAll, esT, esTs, esO, esc, escs, esS, escS, opd, opn, look, peek, ofO, cmpD, truthD, thenK, sweep, fresh, asgK, asgT, asgTs, put, binD, b1D, b2D, ixD, ixN, atI_0, atI_1, atI_2, atI_3, atI_4, eqv, eqvs, shp, shps, setK, setX, setOb, isVar, unset, cellOf, frz, valOf, forL, forK, isiD, items, seqs, lenD, fldD, isIns, isNon, hd, tl, b0, fr, e0, e1, q3, q4, e2, hm, e3, hr, q1, q2, e4, e5]
/-- the law -/
theorem law (n : Nat) (ns : List Int) (h : ns.length ≤ 1000) : ∃ t', call prg (n + 31) 0 [.scr ns] [] = .ok (.bl true) t' := by
  obtain ⟨pl, ws, tr, p, C, o, e⟩ := start n ns h
  obtain ⟨p6, e6, o6⟩ := st6 n pl ns ws tr C p 200 o (by omega)
  obtain ⟨p7, e7, o7⟩ := st7 n pl ns ws tr C p6 (200 + 2) o6 (by omega)
  obtain ⟨p8, e8, o8⟩ := st8 n pl ns ws tr C p7 (200 + 2 + 2) o7 (by omega)
  obtain ⟨a9, b9, p9, e9, o9⟩ := st9 n pl ns ws tr C p8 (200 + 2 + 2 + 40) o8 (by omega)
  obtain ⟨a11, b11, c11, d11, p11, e11, o11⟩ := st11 n pl ns ws tr C p9 (200 + 2 + 2 + 40 + 4) o9 (by omega)
  refine ⟨p11.t, ?_⟩
  have ec : execs (cls' (n + 30)) (tl (tl (tl (tl (tl (tl b0)))))) (fr ns pl ws tr .un .un .un .un .un .un .un .un .un) (Pool.t p) = thenK (exec (cls' (n + 30)) q6 (fr ns pl ws tr .un .un .un .un .un .un .un .un .un) (Pool.t p)) fun ρ t => thenK (exec (cls' (n + 30)) q7 ρ t) fun ρ t => thenK (exec (cls' (n + 30)) q8 ρ t) fun ρ t => thenK (exec (cls' (n + 30)) q9 ρ t) fun ρ t => thenK (.nx (unset ρ [11, 12]) t) fun ρ t => thenK (exec (cls' (n + 30)) q11 ρ t) fun ρ t => thenK (.nx (unset ρ [11, 13, 14, 15]) t) fun ρ t => .ret (.bl true) t := rfl
  have e2 : runF (cls' (n + 30)) f0 [.scr ns] [] = match execs (cls' (n + 30)) b0 [.val (.scr ns), .un, .un, .un, .un, .un, .un, .un, .un, .un, .un, .un, .un, .un, .un, .un, .un] [] with
        | .nx _ t' => sweep false 0 .non t'
        | .ret d t' => sweep false 0 d t'
        | .ex c as t' => .ex c as t'
        | _ => .no := rfl
  rw [show n + 31 = n + 30 + 1 from rfl, cS 0 f0 rfl, e2, e, ec, e6]
  simp only [thenK]
  rw [e7]
  simp only [thenK]
  rw [e8]
  simp only [thenK]
  rw [e9]
  simp only [thenK]
  have u1 : unset (fr ns pl ws tr .un .un .un .un a9 b9 .un .un .un) [11, 12] = fr ns pl ws tr .un .un .un .un .un .un .un .un .un := rfl
  rw [u1, e11]
  rfl
end K94
open PySem PySem.W PyProof.Rows
set_option Elab.async false
set_option maxRecDepth 100000
set_option maxHeartbeats 0 in
theorem PySem.Challenge.cw_everybudget_k94_whole_judge_of_asked_tre_holds : PySem.Challenge.rw_everybudget_k94_whole_judge_of_asked_tre.Holds := by
  w_on; o_law; k_head; (case hw => w_witness2)
  k_fill
  refine L2.walk_of (l := PySem.Challenge.rw_everybudget_k94_whole_judge_of_asked_tre) (n := 63) (k := 62) (x := "script") (CX := fun _ => L2.CX0) (sp := fun w => fun vs H Q _ => ∃ (a : Addr) (ns : List Int), vs = [.ref a] ∧ L2.SqL _ H a (ns.map L2.V.int) ∧ ns.length ≤ 63 ∧ ∀ H', Q (.bl true) H') rfl (by decide) rfl ⟨rfl, by decide, by decide⟩ (fun w h Y => PySem.W.kIn_of Y) ?F (fun _ _ a ns hl _ hS => ⟨a, ns, rfl, hS, hl, fun _ => rfl⟩) (fun _ _ _ _ _ h => h)
  case F =>
    intro w mg fa h KX G hmg
    exact Pd.law_ok (P := K94.prg) (n := 31) (i := 0) (f := K94.f0) (x := "script") (by kernel_rfl) KX G rfl rfl rfl rfl hmg (fun vs H Q E ⟨a, ns, e, hS, hl, q⟩ => ⟨a, ns, e, hS, by omega, K94.law 0 ns (by omega), q⟩)
