import PyProof.Rows.All
import Wide.All
import OpenK.AllK
import Wide.FinOn
import HandS.ForMost
import HandS.TupAny
import HandS.Style
import HandS.Deep
import HandS.TupSets
import KE.KDictKeyed
import KE.KDictDisplayH
import KE.GoesMore
import KE.KDictWalk
import HandS.Zip
import KE.KDictCopyH
import HandS.Ends
import PySem.Challenge.RW_turnedweights_k49_whole_webs_without_a_p
set_option Elab.async false
set_option linter.all false
/-! TwA: a small language of pure data for the fragment of Python that the laws use, and its evaluator. -/
namespace TW
open PySem

abbrev D := PyData
instance : Inhabited PyData := ⟨.none⟩

/-- the state of the law's source of draws -/
structure Src where
  cells : List Int
  left : Int
  mixed : Int
  turn : Int

inductive Bo where
  | add | sub | mul | mod | fd
  deriving DecidableEq, Repr
inductive Co where
  | eq | ne | lt | le | gt | ge | isIn | notIn | isN | notN
  deriving DecidableEq, Repr
inductive B1 where
  | len | tuple | list | sorted | abs | int | repr
  deriving DecidableEq, Repr
inductive Tg where
  | nm (i : Nat) | tp (is : List Nat)
  deriving DecidableEq, Repr

mutual
inductive Ex where
  | var (i : Nat) | int (n : Int) | str (x : Str) | bl (b : Bool) | non
  | tup (es : Exs) | lst (es : Exs)
  | bin (o : Bo) (a b : Ex) | neg (a : Ex)
  | cmp (o : Co) (a b : Ex) | chain (o o' : Co) (a b c : Ex)
  | and (a b : Ex) | or (a b : Ex) | one (a : Ex) | not (a : Ex)
  | ife (c a b : Ex)
  | ix (a b : Ex) | sl (a : Ex) (lo hi : Oe) | rev (a : Ex)
  | call (f : Nat) (es : Exs) | pick (a : Ex)
  | b1 (f : B1) (a : Ex)
  | lc (elt : Ex) (tg : Tg) (it : It) (cond : Oe) (own : List Nat)
  | dic (ks vs : Exs)
inductive Exs where
  | nil | cons (e : Ex) (es : Exs)
inductive Oe where
  | no | so (e : Ex)
inductive It where
  | dat (e : Ex) | rng1 (a : Ex) | rng2 (a b : Ex) | enu (a : Ex) | zip (a b : Ex)
end
mutual
inductive St where
  | asg (tg : Tg) (e : Ex) | par (is : List Nat) (es : Exs)
  | app (i : Nat) (e : Ex) | ext (i : Nat) (e : Ex) | upd (i : Nat) (e : Ex)
  | set1 (i : Nat) (a e : Ex) | set2 (i : Nat) (a b e : Ex)
  | set22 (i : Nat) (a b : Ex) (j : Nat) (c d : Ex) (e f : Ex)
  | ife (c : Ex) (a b : Sts) | whl (c : Ex) (b : Sts) | loop (tg : Tg) (it : It) (b : Sts)
  | ret (e : Ex)
inductive Sts where
  | nil | cons (s : St) (ss : Sts)
end

/-! ### operations on data -/
abbrev LINE : Nat := 16777216
abbrev DEnv := List (Option D)
abbrev Rs := Option (D × Src)

def mulOk (a b : Int) : Bool := (decide (-(2 ^ 64) < a) && decide (a < 2 ^ 64)) || (decide (-(2 ^ 64) < b) && decide (b < 2 ^ 64))
def bop : Bo → D → D → Option D
  | .add, .int a, .int b => some (.int (a + b))
  | .add, .str x, .str y => if x.length + y.length ≤ LINE then some (.str (x ++ y)) else none
  | .add, .list xs, .list ys => if xs.length + ys.length ≤ LINE then some (.list (xs ++ ys)) else none
  | .add, .tuple xs, .tuple ys => if xs.length + ys.length ≤ LINE then some (.tuple (xs ++ ys)) else none
  | .sub, .int a, .int b => some (.int (a - b))
  | .mul, .int a, .int b => if mulOk a b then some (.int (a * b)) else none
  | .mul, .list xs, .int k => if decide (-(2 ^ 63) ≤ k) && decide (k < 2 ^ 63) && decide (xs.length * k.toNat ≤ LINE) then some (.list (List.replicate k.toNat xs).flatten) else none
  | .mod, .int a, .int b => if 0 < b then some (.int (a % b)) else none
  | .fd, .int a, .int b => if 0 < b ∧ b < 1073741824 then some (.int (a / b)) else none
  | _, _, _ => none
def shp (d : D) : Bool := SeqAt.shaped d
mutual
/-- hashable plain data: ints, texts, tuples of such -/
def plain : D → Bool
  | .int _ => true
  | .str _ => true
  | .tuple xs => plains xs
  | _ => false
def plains : List D → Bool
  | [] => true
  | x :: xs => plain x && plains xs
end
mutual
/-- data as a key -/
def keyOf : D → NestedKey
  | .int i => .num i
  | .str x => .text x
  | .tuple xs => .tup (keysOf xs)
  | _ => .none
def keysOf : List D → List NestedKey
  | [] => []
  | x :: xs => keyOf x :: keysOf xs
end
/-- a dict's key: a tuple of plain data -/
def kOk : D → Bool
  | .tuple xs => plains xs && decide ((NestedKey.tup (keysOf xs)).depth ≤ 8)
  | _ => false
mutual
/-- no text within -/
def noTx : NestedKey → Bool
  | .num _ => true
  | .tup ks => noTxs ks
  | _ => false
def noTxs : List NestedKey → Bool
  | [] => true
  | k :: ks => noTx k && noTxs ks
end
mutual
/-- the hash of a key without texts -/
def hashZ : NestedKey → Int
  | .num i => hashInt i
  | .tup ks => reduceHash (Builtin.Tuple.tupleHashOf (hashZs ks))
  | _ => 0
def hashZs : List NestedKey → List Int
  | [] => []
  | k :: ks => hashZ k :: hashZs ks
end
def hashOk (ys : List (D × D)) : Bool := ys.all (fun p => noTx (keyOf p.1)) && decide ((ys.map fun p => hashZ (keyOf p.1)).Nodup)
def sameKey (a b : D) : Bool := decide (keyOf a = keyOf b)
def dFind (kvs : List (D × D)) (k : D) : Option D := (kvs.find? fun p => sameKey p.1 k).map (·.2)
def dPut (kvs : List (D × D)) (k v : D) : List (D × D) :=
  if kvs.any (fun p => sameKey p.1 k) then kvs.map (fun p => if sameKey p.1 k then (p.1, v) else p) else kvs ++ [(k, v)]
def iCmp (g : Int → Int → Bool) : D → D → Option Bool
  | .int a, .int b => some (g a b)
  | _, _ => none
def dIn (x : D) : D → Option Bool
  | .list ys => if shp x && shp (.list ys) then some (ys.any fun z => PyData.eqv z x) else none
  | .tuple ys => if shp x && shp (.tuple ys) then some (ys.any fun z => PyData.eqv z x) else none
  | .dict kvs => if kOk x then some (dFind kvs x).isSome else none
  | _ => none
def isNone : D → Bool
  | .none => true
  | _ => false
def cop (o : Co) (a b : D) : Option Bool := match o with
  | .lt => iCmp (fun i j => decide (i < j)) a b
  | .le => iCmp (fun i j => decide (i ≤ j)) a b
  | .gt => iCmp (fun i j => decide (j < i)) a b
  | .ge => iCmp (fun i j => decide (j ≤ i)) a b
  | .eq => if shp a && shp b then some (PyData.eqv a b) else none
  | .ne => if shp a && shp b then some (!PyData.eqv a b) else none
  | .isIn => dIn a b
  | .notIn => (dIn a b).map fun r => !r
  | .isN => if isNone b then some (isNone a) else none
  | .notN => if isNone b then some (!isNone a) else none
def dIx : D → D → Option D
  | .list xs, .int i => L2.atI xs i
  | .tuple xs, .int i => L2.atI xs i
  | .dict kvs, k => if kOk k then dFind kvs k else none
  | _, _ => none
def cutD (xs : List D) (lo hi : Option Int) : List D := (xs.drop (HT.sIx xs.length 0 lo)).take (HT.sIx xs.length xs.length hi - HT.sIx xs.length 0 lo)
def dSl : D → Option Int → Option Int → Option D
  | .list xs, lo, hi => some (.list (cutD xs lo hi))
  | .tuple xs, lo, hi => some (.tuple (cutD xs lo hi))
  | _, _, _ => none
/-- ints of a tuple -/
def tupInts : List D → Option (List Int)
  | [] => some []
  | .int i :: r => (tupInts r).map (i :: ·)
  | _ :: _ => none
def rowInts : List D → Option (List (List Int))
  | [] => some []
  | .tuple xs :: r => match tupInts xs, rowInts r with
    | some a, some b => some (a :: b)
    | _, _ => none
  | _ :: _ => none
def leI (x y : List Int) : Bool := decide (TS.code 1000 x ≤ TS.code 1000 y)
def insI (x : List Int) : List (List Int) → List (List Int)
  | [] => [x]
  | y :: r => if leI x y then x :: y :: r else y :: insI x r
def sortI : List (List Int) → List (List Int)
  | [] => []
  | x :: r => insI x (sortI r)
def ofInts (xs : List Int) : D := .tuple (xs.map .int)
/-- rows of one length, bounded -/
def rowsOk (d : Nat) (rows : List (List Int)) : Bool := decide (1 ≤ d) && rows.all fun r => r.length == d && r.all fun x => decide (0 ≤ x) && decide (x < 1000)
def dSort (xs : List D) : Option (List D) :=
  match rowInts xs with
  | some rows => if rows.length < 64 && rowsOk ((rows.head?.getD []).length) rows then some ((sortI rows).map ofInts) else (if rows.isEmpty then some [] else none)
  | none => none
def isRef : D → Bool
  | .list _ => true
  | .tuple _ => true
  | _ => false
def bu1 : B1 → D → Option D
  | .len, .list xs => some (.int xs.length)
  | .len, .tuple xs => some (.int xs.length)
  | .tuple, .list xs => some (.tuple xs)
  | .tuple, .tuple xs => some (.tuple xs)
  | .list, .list xs => some (.list xs)
  | .list, .tuple xs => some (.list xs)
  | .sorted, .list xs => (dSort xs).map .list
  | .abs, .int i => some (.int (if i < 0 then -i else i))
  | .int, .int i => some (.int i)
  | .int, .bool b => some (.int (if b then 1 else 0))
  | .repr, d => if isRef d && d.showable && !d.hasDict && decide (d.depth ≤ 60) && decide (d.shown.length ≤ LINE) then some (.str d.shown) else none
  | _, _ => none

def setTg : Tg → D → DEnv → Option DEnv
  | .nm i, d, ρ => some (ρ.set i (some d))
  | .tp is, .tuple ds, ρ => if is.length = ds.length then some ((is.zip ds).foldl (fun ρ p => ρ.set p.1 (some p.2)) ρ) else none
  | .tp _, _, _ => none
def wipeE (ρ : DEnv) : List Nat → DEnv
  | [] => ρ
  | v :: vs => (wipeE ρ vs).set v none
def rangeD (lo : Int) : Nat → List D
  | 0 => []
  | n + 1 => .int lo :: rangeD (lo + 1) n
def enumD (i : Int) : List D → List D
  | [] => []
  | x :: r => .tuple [.int i, x] :: enumD (i + 1) r
def zipD : List D → List D → List D
  | x :: xs, y :: ys => .tuple [x, y] :: zipD xs ys
  | _, _ => []
def itemsOf : D → Option (List D)
  | .list xs => some xs
  | .tuple xs => some xs
  | .dict kvs => some (kvs.map (·.1))
  | _ => none
def rngOk (i : Int) : Bool := decide (-(2 ^ 62) ≤ i) && decide (i < 2 ^ 62)

/-- the law's draw -/
def findCell : Int → List Int → Int × List Int
  | left, cells => if left < 2 then match cells.getLast? with
      | some c => if h : cells = [] then (left, []) else findCell c cells.dropLast
      | none => (left, cells)
    else (left, cells)
termination_by _ cells => cells.length
decreasing_by simp [List.length_dropLast]; cases cells <;> simp_all
def drawn (m : Int) (S : Src) : Int × Src :=
  if m < 2 then (0, S) else
  let (left, cells) := findCell S.left S.cells
  if left > 1 then (left % m, { S with left := left / m, cells := cells })
  else
    let lap := S.turn + 1
    let s1 := (S.mixed + lap * 104729) % 998244353
    let s2 := (s1 * s1 + lap * 17) % 2147483647
    ((s2 / 16) % m, { S with left := left, cells := cells, turn := lap })

structure Ctx where
  cl : Nat → List D → Src → Rs
  fuel : Nat

/-! ### the evaluator -/
def lcGo (f : DEnv → Src → Rs) (c : DEnv → Src → Rs) (tg : Tg) (ρ : DEnv) : List D → Src → Option (List D × Src)
  | [], S => some ([], S)
  | x :: xs, S => match setTg tg x ρ with
    | none => none
    | some ρ1 => match c ρ1 S with
      | some (.bool true, S1) => match f ρ1 S1 with
        | none => none
        | some (y, S2) => match lcGo f c tg ρ xs S2 with
          | none => none
          | some (ys, S3) => some (y :: ys, S3)
      | some (.bool false, S1) => lcGo f c tg ρ xs S1
      | _ => none
mutual
def evE (C : Ctx) : Ex → DEnv → Src → Rs
  | .var i, ρ, S => match ρ[i]? with
    | some (some d) => some (d, S)
    | _ => none
  | .int n, _, S => some (.int n, S)
  | .str x, _, S => some (.str x, S)
  | .bl b, _, S => some (.bool b, S)
  | .non, _, S => some (.none, S)
  | .tup es, ρ, S => match evs C es ρ S with
    | some (ds, S1) => if ds.length ≤ LINE then some (.tuple ds, S1) else none
    | none => none
  | .lst es, ρ, S => match evs C es ρ S with
    | some (ds, S1) => if ds.length ≤ LINE then some (.list ds, S1) else none
    | none => none
  | .bin o a b, ρ, S => match evE C a ρ S with
    | some (x, S1) => match evE C b ρ S1 with
      | some (y, S2) => (bop o x y).map (·, S2)
      | none => none
    | none => none
  | .neg a, ρ, S => match evE C a ρ S with
    | some (.int i, S1) => some (.int (-i), S1)
    | _ => none
  | .cmp o a b, ρ, S => match evE C a ρ S with
    | some (x, S1) => match evE C b ρ S1 with
      | some (y, S2) => (cop o x y).map fun r => (.bool r, S2)
      | none => none
    | none => none
  | .chain o o' a b c, ρ, S => match evE C a ρ S with
    | some (x, S1) => match evE C b ρ S1 with
      | some (y, S2) => match cop o x y with
        | some true => match evE C c ρ S2 with
          | some (z, S3) => (cop o' y z).map fun r => (.bool r, S3)
          | none => none
        | some false => some (.bool false, S2)
        | none => none
      | none => none
    | none => none
  | .and a b, ρ, S => match evE C a ρ S with
    | some (.bool true, S1) => evE C b ρ S1
    | some (.bool false, S1) => some (.bool false, S1)
    | _ => none
  | .or a b, ρ, S => match evE C a ρ S with
    | some (.bool false, S1) => evE C b ρ S1
    | some (.bool true, S1) => some (.bool true, S1)
    | _ => none
  | .one a, ρ, S => evE C a ρ S
  | .not a, ρ, S => match evE C a ρ S with
    | some (.bool b, S1) => some (.bool !b, S1)
    | _ => none
  | .ife c a b, ρ, S => match evE C c ρ S with
    | some (.bool true, S1) => evE C a ρ S1
    | some (.bool false, S1) => evE C b ρ S1
    | _ => none
  | .ix a b, ρ, S => match evE C a ρ S with
    | some (x, S1) => match evE C b ρ S1 with
      | some (y, S2) => (dIx x y).map (·, S2)
      | none => none
    | none => none
  | .sl a lo hi, ρ, S => match evE C a ρ S with
    | some (x, S1) => match evO C lo ρ S1 with
      | some (l, S2) => match evO C hi ρ S2 with
        | some (u, S3) => (dSl x l u).map (·, S3)
        | none => none
      | none => none
    | none => none
  | .rev a, ρ, S => match evE C a ρ S with
    | some (.list xs, S1) => some (.list xs.reverse, S1)
    | _ => none
  | .call f es, ρ, S => match evs C es ρ S with
    | some (ds, S1) => C.cl f ds S1
    | none => none
  | .pick a, ρ, S => match evE C a ρ S with
    | some (.int m, S1) => if m < 1073741824 then some (.int (drawn m S1).1, (drawn m S1).2) else none
    | _ => none
  | .b1 f a, ρ, S => match evE C a ρ S with
    | some (x, S1) => (bu1 f x).map (·, S1)
    | none => none
  | .lc elt tg it cond own, ρ, S => match evI C it ρ S with
    | some (ds, S1) => match lcGo (fun ρ S => evE C elt ρ S) (fun ρ S => evT C cond ρ S) tg (wipeE ρ own) ds S1 with
      | some (ys, S2) => some (.list ys, S2)
      | none => none
    | none => none
  | .dic ks vs, ρ, S => match ks, vs with
    | .nil, .nil => some (.dict [], S)
    | .cons k .nil, .cons v .nil => match evE C k ρ S with
      | some (kd, S1) => match evE C v ρ S1 with
        | some (vd, S2) => if kOk kd then some (.dict [(kd, vd)], S2) else none
        | none => none
      | none => none
    | _, _ => none
def evs (C : Ctx) : Exs → DEnv → Src → Option (List D × Src)
  | .nil, _, S => some ([], S)
  | .cons e es, ρ, S => match evE C e ρ S with
    | some (x, S1) => match evs C es ρ S1 with
      | some (xs, S2) => some (x :: xs, S2)
      | none => none
    | none => none
/-- a part of a slice -/
def evO (C : Ctx) : Oe → DEnv → Src → Option (Option Int × Src)
  | .no, _, S => some (none, S)
  | .so e, ρ, S => match evE C e ρ S with
    | some (.int i, S1) => some (some i, S1)
    | _ => none
/-- a comprehension's test -/
def evT (C : Ctx) : Oe → DEnv → Src → Rs
  | .no, _, S => some (.bool true, S)
  | .so e, ρ, S => evE C e ρ S
/-- what is walked -/
def evI (C : Ctx) : It → DEnv → Src → Option (List D × Src)
  | .dat e, ρ, S => match evE C e ρ S with
    | some (x, S1) => (itemsOf x).map (·, S1)
    | none => none
  | .rng1 a, ρ, S => match evE C a ρ S with
    | some (.int j, S1) => if rngOk j && decide (j.toNat ≤ LINE) then some (rangeD 0 j.toNat, S1) else none
    | _ => none
  | .rng2 a b, ρ, S => match evE C a ρ S with
    | some (.int i, S1) => match evE C b ρ S1 with
      | some (.int j, S2) => if rngOk i && rngOk j && decide ((j - i).toNat ≤ LINE) then some (rangeD i (j - i).toNat, S2) else none
      | _ => none
    | _ => none
  | .enu a, ρ, S => match evE C a ρ S with
    | some (.list xs, S1) => some (enumD 0 xs, S1)
    | some (.tuple xs, S1) => some (enumD 0 xs, S1)
    | _ => none
  | .zip a b, ρ, S => match evE C a ρ S with
    | some (x, S1) => match evE C b ρ S1 with
      | some (y, S2) => match x, y with
        | .list xs, .list ys => some (zipD xs ys, S2)
        | .tuple xs, .tuple ys => some (zipD xs ys, S2)
        | _, _ => none
      | none => none
    | none => none
end

inductive Fl where
  | nx | rt (d : D)
abbrev Ss := Option (Fl × DEnv × Src)
def forGo (b : DEnv → Src → Ss) (tg : Tg) : List D → DEnv → Src → Ss
  | [], ρ, S => some (.nx, ρ, S)
  | x :: xs, ρ, S => match setTg tg x ρ with
    | none => none
    | some ρ1 => match b ρ1 S with
      | some (.nx, ρ2, S2) => forGo b tg xs ρ2 S2
      | some (.rt d, ρ2, S2) => some (.rt d, ρ2, S2)
      | none => none
def whlGo (c : DEnv → Src → Rs) (b : DEnv → Src → Ss) : Nat → DEnv → Src → Ss
  | 0, _, _ => none
  | n + 1, ρ, S => match c ρ S with
    | some (.bool true, S1) => match b ρ S1 with
      | some (.nx, ρ2, S2) => whlGo c b n ρ2 S2
      | some (.rt d, ρ2, S2) => some (.rt d, ρ2, S2)
      | none => none
    | some (.bool false, S1) => some (.nx, ρ, S1)
    | _ => none
def setAll : List Nat → List D → DEnv → Option DEnv
  | [], [], ρ => some ρ
  | i :: is, d :: ds, ρ => if i < ρ.length then setAll is ds (ρ.set i (some d)) else none
  | _, _, _ => none
def getL (ρ : DEnv) (i : Nat) : Option (List D) := match ρ[i]? with
  | some (some (.list xs)) => some xs
  | _ => none
def setIx (xs : List D) (k : Int) (d : D) : Option (List D) := (L2.ixN xs.length k).map fun j => xs.set j d
def set2Ix (xs : List D) (k l : Int) (d : D) : Option (List D) := match L2.ixN xs.length k with
  | some j => match xs[j]? with
    | some (.list ys) => match setIx ys l d with
      | some zs => some (xs.set j (.list zs))
      | none => none
    | _ => none
  | none => none
mutual
def evS (C : Ctx) : St → DEnv → Src → Ss
  | .asg tg e, ρ, S => match evE C e ρ S with
    | some (d, S1) => (setTg tg d ρ).map (.nx, ·, S1)
    | none => none
  | .par is es, ρ, S => match evs C es ρ S with
    | some (ds, S1) => (setAll is ds ρ).map (.nx, ·, S1)
    | none => none
  | .app i e, ρ, S => match getL ρ i with
    | some xs => match evE C e ρ S with
      | some (d, S1) => if xs.length < LINE then some (.nx, ρ.set i (some (.list (xs ++ [d]))), S1) else none
      | none => none
    | none => none
  | .ext i e, ρ, S => match getL ρ i with
    | some xs => match evE C e ρ S with
      | some (.list ys, S1) => if xs.length + ys.length ≤ LINE then some (.nx, ρ.set i (some (.list (xs ++ ys))), S1) else none
      | _ => none
    | none => none
  | .upd i e, ρ, S => match ρ[i]? with
    | some (some (.dict xs)) => match evE C e ρ S with
      | some (.dict ys, S1) => if decide (xs.length + ys.length < LINE) && (!xs.isEmpty || hashOk ys) then some (.nx, ρ.set i (some (.dict (ys.foldl (fun m p => dPut m p.1 p.2) xs))), S1) else none
      | _ => none
    | _ => none
  | .set1 i a e, ρ, S => match evE C e ρ S with
    | some (d, S1) => match evE C a ρ S1 with
      | some (k, S2) => match ρ[i]?, k with
        | some (some (.list xs)), .int k => (setIx xs k d).map fun zs => (.nx, ρ.set i (some (.list zs)), S2)
        | some (some (.dict kvs)), k => if kOk k && decide (kvs.length < LINE) then some (.nx, ρ.set i (some (.dict (dPut kvs k d))), S2) else none
        | _, _ => none
      | none => none
    | none => none
  | .set2 i a b e, ρ, S => match evE C e ρ S with
    | some (d, S1) => match evE C a ρ S1 with
      | some (.int k, S2) => match evE C b ρ S2 with
        | some (.int l, S3) => match getL ρ i with
          | some xs => (set2Ix xs k l d).map fun zs => (.nx, ρ.set i (some (.list zs)), S3)
          | none => none
        | _ => none
      | _ => none
    | none => none
  | .set22 i a b j c d e f, ρ, S => match evE C e ρ S with
    | some (x, S1) => match evE C f ρ S1 with
      | some (y, S2) => match evE C a ρ S2 with
        | some (.int k, S3) => match evE C b ρ S3 with
          | some (.int l, S4) => match getL ρ i with
            | some xs => match set2Ix xs k l x with
              | some zs => match evE C c (ρ.set i (some (.list zs))) S4 with
                | some (.int k2, S5) => match evE C d (ρ.set i (some (.list zs))) S5 with
                  | some (.int l2, S6) => match getL (ρ.set i (some (.list zs))) j with
                    | some us => (set2Ix us k2 l2 y).map fun ws => (.nx, (ρ.set i (some (.list zs))).set j (some (.list ws)), S6)
                    | none => none
                  | _ => none
                | _ => none
              | none => none
            | none => none
          | _ => none
        | _ => none
      | none => none
    | none => none
  | .ife c a b, ρ, S => match evE C c ρ S with
    | some (.bool true, S1) => evSs C a ρ S1
    | some (.bool false, S1) => evSs C b ρ S1
    | _ => none
  | .whl c b, ρ, S => whlGo (fun ρ S => evE C c ρ S) (fun ρ S => evSs C b ρ S) C.fuel ρ S
  | .loop tg it b, ρ, S => match evI C it ρ S with
    | some (ds, S1) => forGo (fun ρ S => evSs C b ρ S) tg ds ρ S1
    | none => none
  | .ret e, ρ, S => match evE C e ρ S with
    | some (d, S1) => some (.rt d, ρ, S1)
    | none => none
def evSs (C : Ctx) : Sts → DEnv → Src → Ss
  | .nil, ρ, S => some (.nx, ρ, S)
  | .cons s ss, ρ, S => match evS C s ρ S with
    | some (.nx, ρ1, S1) => evSs C ss ρ1 S1
    | some (.rt d, ρ1, S1) => some (.rt d, ρ1, S1)
    | none => none
end

/-- a def of the program: its parameters (the source, if it has one, is the first of ps), its names, its body; ret: what a caller owns of the result; lf: no list in the result -/
structure Fn where
  name : Str
  ps : List Str
  src : Bool
  N : List Str
  body : Sts
  ret : Nat := 0
def startE (f : Fn) (ds : List D) : DEnv := (if f.src then [none] else []) ++ ds.map some ++ List.replicate (f.N.length - f.ps.length) none
def evCall (T : List Fn) (fuel : Nat) : Nat → Nat → List D → Src → Rs
  | 0, _, _, _ => none
  | k + 1, i, ds, S => match T[i]? with
    | none => none
    | some f => if (if f.src then 1 else 0) + ds.length = f.ps.length then
        match evSs ⟨evCall T fuel k, fuel⟩ f.body (startE f ds) S with
        | some (.rt d, _, S1) => some (d, S1)
        | some (.nx, _, S1) => some (.none, S1)
        | none => none
      else none
end TW
set_option maxRecDepth 20000
/-! TwB: data and the abstract heap. -/
namespace TW
open PySem PySem.Spec PyProof.Rows L2

/-- what never changes -/
def Imm : HO → Prop
  | .tup _ => True
  | .frz _ _ => True
  | _ => False
/-- all that stood stands, but what is at X and may change -/
structure Ext (X : Addr → Prop) (H H' : Hp) : Prop where
  keep : ∀ b o, H b = some o → ¬ X b → H' b = some o
  imm : ∀ b o, H b = some o → Imm o → H' b = some o
theorem Ext.refl {X : Addr → Prop} (H : Hp) : Ext X H H := ⟨fun _ _ h _ => h, fun _ _ h _ => h⟩
theorem Ext.trans {X : Addr → Prop} {H H1 H2 : Hp} (a : Ext X H H1) (b : Ext X H1 H2) : Ext X H H2 :=
  ⟨fun c o h n => b.keep c o (a.keep c o h n) n, fun c o h m => b.imm c o (a.imm c o h m) m⟩
theorem Ext.mono {X Y : Addr → Prop} {H H' : Hp} (a : Ext X H H') (h : ∀ b, X b → Y b) : Ext Y H H' :=
  ⟨fun c o e n => a.keep c o e fun q => n (h c q), a.imm⟩
theorem Ext.new {X : Addr → Prop} {H : Hp} {p : Addr} {o : HO} (h : H p = none) : Ext X H (upd H p o) :=
  ⟨fun b u e _ => by rw [upd_ne (ne_of_none e h)]; exact e, fun b u e _ => by rw [upd_ne (ne_of_none e h)]; exact e⟩
theorem Ext.at {X : Addr → Prop} {H : Hp} {p : Addr} {o u : HO} (h : H p = some o) (n : ¬ Imm o) (x : X p) : Ext X H (upd H p u) :=
  ⟨fun b v e q => by rw [upd_ne (fun z => q (by rw [z]; exact x))]; exact e, fun b v e m => by
    rw [upd_ne (fun z => by subst z; rw [h] at e; cases e; exact n m)]
    exact e⟩
theorem Ext.of_same {X : Addr → Prop} {H H' : Hp} (s : Same H H') : Ext X H H' := ⟨fun b o e _ => s b o e, fun b o e _ => s b o e⟩
theorem Ext.free {X : Addr → Prop} {H H' : Hp} (e : Ext X H H') {a : Addr} (hx : ∀ b, X b → ∃ o, H' b = some o) (h : H' a = none) : H a = none := by
  cases q : H a with
  | none => rfl
  | some o =>
    by_cases hX : X a
    · obtain ⟨u, hu⟩ := hx a hX
      rw [hu] at h; cases h
    · rw [e.keep a o q hX] at h; cases h

theorem Ext.sqT {X : Addr → Prop} {H H' : Hp} {a : Addr} {vs : List V} (e : Ext X H H') (h : H a = some (.tup vs)) : H' a = some (.tup vs) := e.imm _ _ h trivial
mutual
/-- plain data: ints, texts, tuples of such -/
inductive PlR (K : PySem.W.Frag) (H : Hp) : V → D → Prop
  | int (i : Int) : PlR K H (.int i) (.int i)
  | str (x : Str) : PlR K H (.str x) (.str x)
  | tup {a : Addr} {vs : List V} {ds : List D} : H a = some (.tup vs) → ds.length ≤ LINE → PlRs K H vs ds → PlR K H (.ref a) (.tuple ds)
inductive PlRs (K : PySem.W.Frag) (H : Hp) : List V → List D → Prop
  | nil : PlRs K H [] []
  | cons {v : V} {vs : List V} {d : D} {ds : List D} : PlR K H v d → PlRs K H vs ds → PlRs K H (v :: vs) (d :: ds)
end
mutual
theorem PlR.ext {K : PySem.W.Frag} {X : Addr → Prop} {H H' : Hp} (e : Ext X H H') : ∀ (d : D) (v : V), PlR K H v d → PlR K H' v d
  | _, _, .int i => .int i
  | _, _, .str x => .str x
  | _, _, .tup h l r => .tup (e.sqT h) l (PlRs.ext e _ _ r)
theorem PlRs.ext {K : PySem.W.Frag} {X : Addr → Prop} {H H' : Hp} (e : Ext X H H') : ∀ (ds : List D) (vs : List V), PlRs K H vs ds → PlRs K H' vs ds
  | _, _, .nil => .nil
  | _, _, .cons h r => .cons (PlR.ext e _ _ h) (PlRs.ext e _ _ r)
end

section
variable (P : Program) (w : World)
/-- the entries of a dict whose keys are nested tuples -/
def DRaw (a : Addr) (xs : List (NestedKey × Addr × Value)) (ep : Nat) (h : Heap) : Prop := (a == sysModules) = false ∧ ∃ o es, h.get? a = some o ∧ o.ExactDict ∧ o.data = .dict es ep ∧
  es.toList = xs.map (entryOfKey (nestedKind P w)) ∧ (xs.map (·.1)).Nodup
def dictO (a : Addr) (xs : List (NestedKey × Addr × Value)) (ep : Nat) : HO := .ext (DRaw P w a xs ep)
end
/-- a key's entry -/
def KeyAt (K : PySem.W.Frag) (H : Hp) (x : NestedKey × Addr × Value) (k : D) : Prop := x.1 = keyOf k ∧ kOk k = true ∧ PlR K H (.ref x.2.1) k
/-- the dict at a: its keys, its values -/
structure DcAt (P : Program) (w : World) (K : PySem.W.Frag) (H : Hp) (a : Addr) (ks : List D) (vs : List V) : Prop where
  ex : ∃ (xs : List (NestedKey × Addr × Value)) (ep : Nat), H a = some (dictO P w a xs ep) ∧ xs.length ≤ LINE ∧ Paired (KeyAt K H) xs ks ∧ Paired (fun v x => RelV v x.2.2) vs xs
theorem KeyAt.ext {K : PySem.W.Frag} {X : Addr → Prop} {H H' : Hp} (e : Ext X H H') {x : NestedKey × Addr × Value} {k : D} (h : KeyAt K H x k) : KeyAt K H' x k := ⟨h.1, h.2.1, PlR.ext e _ _ h.2.2⟩
theorem DcAt.ext {P : Program} {w : World} {K : PySem.W.Frag} {X : Addr → Prop} {H H' : Hp} (e : Ext X H H') {a : Addr} {ks : List D} {vs : List V} (n : ¬ X a) (h : DcAt P w K H a ks vs) : DcAt P w K H' a ks vs := by
  obtain ⟨xs, ep, h1, h2, h3, h4⟩ := h.ex
  exact ⟨xs, ep, e.keep _ _ h1 n, h2, Paired.mapP h3 fun _ _ q => q.ext e, h4⟩

/-- the world in which we read -/
structure Wd where
  P : Program
  w : World
  K : PySem.W.Frag

mutual
/-- the value v is the data d; none of its lists and dicts is in Y, those at depth n and below are none of Z -/
inductive DR (U : Wd) (Y Z : Addr → Prop) (H : Hp) : Nat → V → D → Prop
  | non {n : Nat} : DR U Y Z H n .non .none
  | bl {n : Nat} (b : Bool) : DR U Y Z H n (.bl b) (.bool b)
  | int {n : Nat} (i : Int) : DR U Y Z H n (.int i) (.int i)
  | str {n : Nat} (x : Str) : DR U Y Z H n (.str x) (.str x)
  | lst {n : Nat} {a : Addr} {vs : List V} {ds : List D} : H a = some (.lst vs) → ¬ Y a → (n = 0 → ¬ Z a) → ds.length ≤ LINE → DRs U Y Z H (n - 1) vs ds → DR U Y Z H n (.ref a) (.list ds)
  | tup {n : Nat} {a : Addr} {vs : List V} {ds : List D} : H a = some (.tup vs) → ds.length ≤ LINE → DRs U Y Z H (n - 1) vs ds → DR U Y Z H n (.ref a) (.tuple ds)
  | dct {n : Nat} {a : Addr} {vs : List V} {ks ds : List D} : DcAt U.P U.w U.K H a ks vs → ¬ Y a → (n = 0 → ¬ Z a) → ks.length = ds.length → DRs U Y Z H (n - 1) vs ds → DR U Y Z H n (.ref a) (.dict (ks.zip ds))
inductive DRs (U : Wd) (Y Z : Addr → Prop) (H : Hp) : Nat → List V → List D → Prop
  | nil {n : Nat} : DRs U Y Z H n [] []
  | cons {n : Nat} {v : V} {vs : List V} {d : D} {ds : List D} : DR U Y Z H n v d → DRs U Y Z H n vs ds → DRs U Y Z H n (v :: vs) (d :: ds)
end
section
variable {U : Wd} {Y Z Z' : Addr → Prop} {H H' : Hp}
mutual
theorem DR.mono (hz : ∀ a, Z' a → Z a) : ∀ (d : D) (v : V) (n m : Nat), n ≤ m → DR U Y Z H n v d → DR U Y Z' H m v d
  | _, _, _, _, _, .non => .non
  | _, _, _, _, _, .bl b => .bl b
  | _, _, _, _, _, .int i => .int i
  | _, _, _, _, _, .str x => .str x
  | _, _, n, m, q, .lst h y z l r => .lst h y (fun e x => z (by omega) (hz _ x)) l (DRs.mono hz _ _ _ _ (by omega) r)
  | _, _, n, m, q, .tup h l r => .tup h l (DRs.mono hz _ _ _ _ (by omega) r)
  | _, _, n, m, q, .dct h y z l r => .dct h y (fun e x => z (by omega) (hz _ x)) l (DRs.mono hz _ _ _ _ (by omega) r)
theorem DRs.mono (hz : ∀ a, Z' a → Z a) : ∀ (ds : List D) (vs : List V) (n m : Nat), n ≤ m → DRs U Y Z H n vs ds → DRs U Y Z' H m vs ds
  | _, _, _, _, _, .nil => .nil
  | _, _, _, _, q, .cons h r => .cons (DR.mono hz _ _ _ _ q h) (DRs.mono hz _ _ _ _ q r)
end
mutual
/-- what may change is none of its parts -/
theorem DR.ext (e : Ext Y H H') : ∀ (d : D) (v : V) (n : Nat), DR U Y Z H n v d → DR U Y Z H' n v d
  | _, _, _, .non => .non
  | _, _, _, .bl b => .bl b
  | _, _, _, .int i => .int i
  | _, _, _, .str x => .str x
  | _, _, _, .lst h y z l r => .lst (e.keep _ _ h y) y z l (DRs.ext e _ _ _ r)
  | _, _, _, .tup h l r => .tup (e.sqT h) l (DRs.ext e _ _ _ r)
  | _, _, _, .dct h y z l r => .dct (DcAt.ext e y h) y z l (DRs.ext e _ _ _ r)
theorem DRs.ext (e : Ext Y H H') : ∀ (ds : List D) (vs : List V) (n : Nat), DRs U Y Z H n vs ds → DRs U Y Z H' n vs ds
  | _, _, _, .nil => .nil
  | _, _, _, .cons h r => .cons (DR.ext e _ _ _ h) (DRs.ext e _ _ _ r)
end
/-- one address more -/
def orAt (Y : Addr → Prop) (a : Addr) : Addr → Prop := fun b => Y b ∨ b = a
mutual
theorem DR.also {a : Addr} (ha : Z a) : ∀ (d : D) (v : V) (n : Nat), n = 0 → DR U Y Z H n v d → DR U (orAt Y a) Z H n v d
  | _, _, _, _, .non => .non
  | _, _, _, _, .bl b => .bl b
  | _, _, _, _, .int i => .int i
  | _, _, _, _, .str x => .str x
  | _, _, n, q, .lst h y z l r => .lst h (fun e => e.elim y fun e => z q (by rw [e]; exact ha)) z l (DRs.also ha _ _ _ (by omega) r)
  | _, _, n, q, .tup h l r => .tup h l (DRs.also ha _ _ _ (by omega) r)
  | _, _, n, q, .dct h y z l r => .dct h (fun e => e.elim y fun e => z q (by rw [e]; exact ha)) z l (DRs.also ha _ _ _ (by omega) r)
theorem DRs.also {a : Addr} (ha : Z a) : ∀ (ds : List D) (vs : List V) (n : Nat), n = 0 → DRs U Y Z H n vs ds → DRs U (orAt Y a) Z H n vs ds
  | _, _, _, _, .nil => .nil
  | _, _, _, q, .cons h r => .cons (DR.also ha _ _ _ q h) (DRs.also ha _ _ _ q r)
end
mutual
theorem DR.weak {Y' : Addr → Prop} (hy : ∀ a, Y' a → Y a) : ∀ (d : D) (v : V) (n : Nat), DR U Y Z H n v d → DR U Y' Z H n v d
  | _, _, _, .non => .non
  | _, _, _, .bl b => .bl b
  | _, _, _, .int i => .int i
  | _, _, _, .str x => .str x
  | _, _, n, .lst h y z l r => .lst h (fun e => y (hy _ e)) z l (DRs.weak hy _ _ _ r)
  | _, _, n, .tup h l r => .tup h l (DRs.weak hy _ _ _ r)
  | _, _, n, .dct h y z l r => .dct h (fun e => y (hy _ e)) z l (DRs.weak hy _ _ _ r)
theorem DRs.weak {Y' : Addr → Prop} (hy : ∀ a, Y' a → Y a) : ∀ (ds : List D) (vs : List V) (n : Nat), DRs U Y Z H n vs ds → DRs U Y' Z H n vs ds
  | _, _, _, .nil => .nil
  | _, _, _, .cons h r => .cons (DR.weak hy _ _ _ h) (DRs.weak hy _ _ _ r)
end
theorem DRs.length : ∀ {ds : List D} {vs : List V} {n : Nat}, DRs U Y Z H n vs ds → vs.length = ds.length
  | _, _, _, .nil => rfl
  | _, _, _, .cons _ r => by simp [DRs.length r]
theorem DRs.get : ∀ {ds : List D} {vs : List V} {n i : Nat} {d : D}, DRs U Y Z H n vs ds → ds[i]? = some d → ∃ v, vs[i]? = some v ∧ DR U Y Z H n v d
  | _, _, _, _, _, .nil, e => by simp at e
  | _, _, _, 0, _, .cons h _, e => by simp at e; subst e; exact ⟨_, rfl, h⟩
  | _, _, _, i + 1, _, .cons _ r, e => by
    obtain ⟨v, h1, h2⟩ := DRs.get (i := i) r (by simpa using e)
    exact ⟨v, by simpa using h1, h2⟩
theorem DRs.get' : ∀ {ds : List D} {vs : List V} {n i : Nat} {v : V}, DRs U Y Z H n vs ds → vs[i]? = some v → ∃ d, ds[i]? = some d ∧ DR U Y Z H n v d
  | _, _, _, _, _, .nil, e => by simp at e
  | _, _, _, 0, _, .cons h _, e => by simp at e; subst e; exact ⟨_, rfl, h⟩
  | _, _, _, i + 1, _, .cons _ r, e => by
    obtain ⟨v, h1, h2⟩ := DRs.get' (i := i) r (by simpa using e)
    exact ⟨v, by simpa using h1, h2⟩
theorem DRs.append : ∀ {ds es : List D} {vs us : List V} {n : Nat}, DRs U Y Z H n vs ds → DRs U Y Z H n us es → DRs U Y Z H n (vs ++ us) (ds ++ es)
  | _, _, _, _, _, .nil, s => s
  | _, _, _, _, _, .cons h r, s => .cons h (DRs.append r s)
theorem DRs.take : ∀ {ds : List D} {vs : List V} {n : Nat} (m : Nat), DRs U Y Z H n vs ds → DRs U Y Z H n (vs.take m) (ds.take m)
  | _, _, _, 0, _ => .nil
  | _, _, _, _ + 1, .nil => .nil
  | _, _, _, m + 1, .cons h r => .cons h (DRs.take m r)
theorem DRs.drop : ∀ {ds : List D} {vs : List V} {n : Nat} (m : Nat), DRs U Y Z H n vs ds → DRs U Y Z H n (vs.drop m) (ds.drop m)
  | _, _, _, 0, r => r
  | _, _, _, _ + 1, .nil => .nil
  | _, _, _, m + 1, .cons _ r => DRs.drop m r
theorem DRs.set {v : V} {d : D} {n : Nat} (q : DR U Y Z H n v d) : ∀ {ds : List D} {vs : List V} (m : Nat), DRs U Y Z H n vs ds → DRs U Y Z H n (vs.set m v) (ds.set m d)
  | _, _, _, .nil => .nil
  | _, _, 0, .cons _ r => .cons q r
  | _, _, m + 1, .cons h r => .cons h (DRs.set q m r)
theorem DRs.reverse : ∀ {ds : List D} {vs : List V} {n : Nat}, DRs U Y Z H n vs ds → DRs U Y Z H n vs.reverse ds.reverse
  | _, _, _, .nil => .nil
  | _, _, _, .cons h r => by
    rw [List.reverse_cons, List.reverse_cons]
    exact DRs.append (DRs.reverse r) (.cons h .nil)
theorem DRs.rep {ds : List D} {vs : List V} {n : Nat} (r : DRs U Y Z H n vs ds) : ∀ k : Nat, DRs U Y Z H n (List.replicate k vs).flatten (List.replicate k ds).flatten
  | 0 => .nil
  | k + 1 => by
    rw [List.replicate_succ, List.replicate_succ, List.flatten_cons, List.flatten_cons]
    exact r.append (DRs.rep r k)
/-- deeper parts only -/
theorem DR.deeper {d : D} {v : V} {n m : Nat} (h : DR U Y Z H n v d) (q : n ≤ m) : DR U Y Z H m v d := DR.mono (fun _ x => x) _ _ _ _ q h
theorem DRs.deeper {d : List D} {v : List V} {n m : Nat} (h : DRs U Y Z H n v d) (q : n ≤ m) : DRs U Y Z H m v d := DRs.mono (fun _ x => x) _ _ _ _ q h
theorem DR.less {d : D} {v : V} {n : Nat} (hz : ∀ a, Z' a → Z a) (h : DR U Y Z H n v d) : DR U Y Z' H n v d := DR.mono hz _ _ _ _ (Nat.le_refl _) h
theorem DRs.less {d : List D} {v : List V} {n : Nat} (hz : ∀ a, Z' a → Z a) (h : DRs U Y Z H n v d) : DRs U Y Z' H n v d := DRs.mono hz _ _ _ _ (Nat.le_refl _) h
end
section
variable {U : Wd} {Y Z W : Addr → Prop} {H : Hp}
mutual
/-- what isn't there yet is none of its parts -/
theorem DR.fresh (hw : ∀ a, W a → H a = none) : ∀ (d : D) (v : V) (n : Nat), DR U Y Z H n v d → DR U Y (fun a => Z a ∨ W a) H n v d
  | _, _, _, .non => .non
  | _, _, _, .bl b => .bl b
  | _, _, _, .int i => .int i
  | _, _, _, .str x => .str x
  | _, _, n, .lst h y z l r => .lst h y (fun e q => q.elim (z e) fun q => by
      have ho := h
      rw [hw _ q] at ho; cases ho) l (DRs.fresh hw _ _ _ r)
  | _, _, n, .tup h l r => .tup h l (DRs.fresh hw _ _ _ r)
  | _, _, n, .dct h y z l r => .dct h y (fun e q => q.elim (z e) fun q => by
      obtain ⟨xs, ep, ho, _⟩ := h.ex
      rw [hw _ q] at ho; cases ho) l (DRs.fresh hw _ _ _ r)
theorem DRs.fresh (hw : ∀ a, W a → H a = none) : ∀ (ds : List D) (vs : List V) (n : Nat), DRs U Y Z H n vs ds → DRs U Y (fun a => Z a ∨ W a) H n vs ds
  | _, _, _, .nil => .nil
  | _, _, _, .cons h r => .cons (DR.fresh hw _ _ _ h) (DRs.fresh hw _ _ _ r)
end
end

/-! ### what a name owns: nothing (0), a list or dict (1), a list of lists (2) -/
def isCon : D → Bool
  | .list _ => true
  | .dict _ => true
  | _ => false
/-- how deep what is owned goes -/
def ed (k : Nat) : D → Nat
  | .list _ => k
  | .dict _ => min k 1
  | _ => 0
theorem ed_le (k : Nat) (d : D) : ed k d ≤ k := by cases d <;> simp only [ed] <;> omega
theorem ed_flat (k : Nat) {d : D} (h : isCon d = false) : ed k d = 0 := by cases d <;> first | rfl | cases h
inductive OwnEl (U : Wd) (H : Hp) : List V → List D → List Addr → Prop
  | nil : OwnEl U H [] [] []
  | lst {b : Addr} {us vs : List V} {xs ds : List D} {B : List Addr} : H b = some (.lst us) → OwnEl U H vs ds B → OwnEl U H (.ref b :: vs) (.list xs :: ds) (b :: B)
  | dct {b : Addr} {xs : List (NestedKey × Addr × Value)} {ep : Nat} {kvs : List (D × D)} {vs : List V} {ds : List D} {B : List Addr} : H b = some (dictO U.P U.w b xs ep) → OwnEl U H vs ds B → OwnEl U H (.ref b :: vs) (.dict kvs :: ds) (b :: B)
  | oth {v : V} {vs : List V} {d : D} {ds : List D} {B : List Addr} : isCon d = false → OwnEl U H vs ds B → OwnEl U H (v :: vs) (d :: ds) B
inductive Own (U : Wd) (H : Hp) : Nat → V → D → List Addr → Prop
  | zero {v : V} {d : D} : Own U H 0 v d []
  | oth {k : Nat} {v : V} {d : D} : isCon d = false → Own U H k v d []
  | lst1 {a : Addr} {vs : List V} {ds : List D} : H a = some (.lst vs) → Own U H 1 (.ref a) (.list ds) [a]
  | lst2 {a : Addr} {vs : List V} {ds : List D} {B : List Addr} : H a = some (.lst vs) → OwnEl U H vs ds B → Own U H 2 (.ref a) (.list ds) (a :: B)
  | dct {k : Nat} {a : Addr} {kvs : List (D × D)} {xs : List (NestedKey × Addr × Value)} {ep : Nat} : 0 < k → H a = some (dictO U.P U.w a xs ep) → Own U H k (.ref a) (.dict kvs) [a]
section
variable {U : Wd} {X : Addr → Prop} {H H' : Hp}
theorem OwnEl.ext (e : Ext X H H') : ∀ {vs : List V} {ds : List D} {B : List Addr}, (∀ a ∈ B, ¬ X a) → OwnEl U H vs ds B → OwnEl U H' vs ds B
  | _, _, _, _, .nil => .nil
  | _, _, _, n, .lst h r => .lst (e.keep _ _ h (n _ List.mem_cons_self)) (OwnEl.ext e (fun a q => n a (List.mem_cons_of_mem _ q)) r)
  | _, _, _, n, .dct h r => .dct (e.keep _ _ h (n _ List.mem_cons_self)) (OwnEl.ext e (fun a q => n a (List.mem_cons_of_mem _ q)) r)
  | _, _, _, n, .oth h r => .oth h (OwnEl.ext e n r)
theorem Own.ext (e : Ext X H H') {k : Nat} {v : V} {d : D} {A : List Addr} (n : ∀ a ∈ A, ¬ X a) (h : Own U H k v d A) : Own U H' k v d A := by
  cases h with
  | zero => exact .zero
  | oth q => exact .oth q
  | lst1 q => exact .lst1 (e.keep _ _ q (n _ List.mem_cons_self))
  | lst2 q r => exact .lst2 (e.keep _ _ q (n _ List.mem_cons_self)) (OwnEl.ext e (fun a q => n a (List.mem_cons_of_mem _ q)) r)
  | dct k q => exact .dct k (e.keep _ _ q (n _ List.mem_cons_self))
end

/-! ### the source of draws -/
abbrev SA := Option (Addr × Addr)
def sAd (sa : SA) (b : Addr) : Prop := match sa with
  | none => False
  | some (a, c) => b = a ∨ b = c
def srcKv (S : Src) (c : Addr) : List (Key × V) := [(.inr "cells", .ref c), (.inr "left", .int S.left), (.inr "mixed", .int S.mixed), (.inr "turn", .int S.turn)]
def SrcR (sa : SA) (S : Src) (H : Hp) : Prop := match sa with
  | none => True
  | some (a, c) => a ≠ c ∧ H a = some (.dK (srcKv S c)) ∧ H c = some (.lst (S.cells.map V.int))
theorem SrcR.new {sa : SA} {S : Src} {H : Hp} {p : Addr} {o : HO} (h : SrcR sa S H) (n : H p = none) : SrcR sa S (upd H p o) := by
  cases sa with
  | none => trivial
  | some q =>
    obtain ⟨a, c⟩ := q
    obtain ⟨h1, h2, h3⟩ := h
    exact ⟨h1, by rw [upd_ne (ne_of_none h2 n)]; exact h2, by rw [upd_ne (ne_of_none h3 n)]; exact h3⟩
theorem SrcR.there {sa : SA} {S : Src} {H : Hp} (h : SrcR sa S H) : ∀ b, sAd sa b → ∃ o, H b = some o := by
  cases sa with
  | none => exact fun _ q => q.elim
  | some q =>
    obtain ⟨a, c⟩ := q
    obtain ⟨h1, h2, h3⟩ := h
    rintro b (e | e)
    · exact ⟨_, by rw [e]; exact h2⟩
    · exact ⟨_, by rw [e]; exact h3⟩
/-- what is written is no part of the source -/
theorem SrcR.at {sa : SA} {S : Src} {H : Hp} {p : Addr} {o : HO} (h : SrcR sa S H) (n : ¬ sAd sa p) : SrcR sa S (upd H p o) := by
  cases sa with
  | none => trivial
  | some q =>
    obtain ⟨a, c⟩ := q
    obtain ⟨h1, h2, h3⟩ := h
    exact ⟨h1, by rw [upd_ne (fun e => n (.inl e.symm))]; exact h2, by rw [upd_ne (fun e => n (.inr e.symm))]; exact h3⟩
end TW
set_option maxRecDepth 20000
/-! TwC: plain argument lists; defs called where no repr is under way. -/
namespace TW
open PySem PySem.Spec PyProof.Rows L2

/-- no star -/
def noStar : Expr → Bool
  | .Starred .. => false
  | _ => true
theorem star_plain {e : Expr} (h : noStar e = true) (es : List Expr) (env : PySem.Env) : starEach (e :: es) env = (false, eval e env) :: starEach es env := by
  cases e <;> first
    | rfl
    | exact absurd h (by simp [noStar])
theorem star_none : ∀ {es : List Expr} (env : PySem.Env) (pos : Pos), es.all noStar = true → (backTo pos (starEach es env)).any (·.1) = false
  | [], _, _, _ => rfl
  | e :: es, env, pos, h => by
    rw [List.all_cons, Bool.and_eq_true] at h
    rw [star_plain h.1]
    show (false || (backTo pos (starEach es env)).any (·.1)) = false
    rw [star_none env pos h.2]
    rfl

abbrev SpG := List V → Hp → VK → Prop
/-- a def keeps its promise, called where no repr runs; no error leaves it -/
structure FnG (P : Program) (w : World) (K : PySem.W.Frag) (mg : Str → Option Value) (base : Heap) (k : Nat) (f : Addr) (fd : FuncData) (ps : List Str) (sp : SpG) : Prop where
  len : ∀ vs H Q, sp vs H Q → vs.length = ps.length
  run : ∀ (A : Around) (outer : List PySem.Env) (s : Shared) (H : Hp) (args : Args) (us : List Value) (vs : List V) (Q : VK),
    A.guards = some [] → Room k A → Env0 P w K mg base A outer s H → BindsTo s fd args (ps.zip us) → Vals vs us → sp vs H Q →
    codeAny (model P w) A (.call (.ref f) args) (CR CX0 outer P w H s Q E0) s
def tCallG (sp : SpG) (t : TA) : TE := fun σ H Q => t σ H fun vs H1 => sp vs H1 Q
section
variable {X : Cx} {k : Nat} {f : Addr} {fd : FuncData} {ps : List Str} {sp : SpG} {x : Str} {p pos : Pos} {es : List Expr} {t : TA}
theorem runG {pins : List (Addr × Obj)} {σ : L2.St} {H : Hp} {s : Shared} {Q : VK} {us : List Value} {vs : List V} (F : FnG X.prog X.w X.K X.mg X.base k f fd ps sp) (hg : X.A.guards = some []) (hr : Room k X.A) (hb : Binds X.K fd ps [])
    (I : Inv X pins σ H s) (r : Vals vs us) (h : sp vs H Q) : wpAny (model X.prog X.w) X.A (call (.ref f) us) (EP X pins σ Q) X.xe s := by
  have hl : (us ++ []).length = ps.length := by
    rw [List.append_nil, ← r.length]
    exact F.len _ _ _ h
  have hb' := hb s us I.kIn hl
  rw [List.append_nil] at hb'
  refine wpAny_call (codeAny_mono (F.run X.A X.stack s H ⟨us, []⟩ us vs Q hg hr I.env0 hb' r h) fun rr s' hq => ?_)
  cases rr with
  | error e => exact (show False from hq).elim
  | ok fl =>
    cases fl with
    | ret u => exact I.after hq
    | _ => exact (show False from hq).elim
theorem pe_callG {e : Expr} (F : FnG X.prog X.w X.K X.mg X.base k f fd ps sp) (gd : X.A.guards = some []) (hr : Room k X.A) (hg : Gl X x) (hm : X.mg x = some (.ref f)) (hk : PySem.W.keepIn X.K (.ref f) = true) (hb : Binds X.K fd ps [])
    (ha : PA X (e :: es) t) (hs : (e :: es).all noStar = true) (hdb : (x == ("__debug__" : Str)) = false) : PE X (.Call (.Name x p) (e :: es) [] pos) (tCallG sp t) := by
  refine ⟨fun pins s σ H Q I h => ?_⟩
  refine wpAny_Call_Name_kw (ld_glob I hg hm ?_ hdb)
  rw [List.all_cons, Bool.and_eq_true] at hs
  refine PySem.W.callWith_K (h₀ := X.base) I.ok.mod.kin hk (thn (ha.run pos pins s σ H _ I h) fun us s1 ⟨vs, H1, I1, r, q⟩ => ⟨I1.kIn, ?_⟩) (star_plain hs.1 _ _) (star_none _ _ hs.2)
  exact runG F gd hr hb I1 r q
theorem pe_callG0 (F : FnG X.prog X.w X.K X.mg X.base k f fd ps sp) (gd : X.A.guards = some []) (hr : Room k X.A) (hg : Gl X x) (hm : X.mg x = some (.ref f)) (hk : PySem.W.keepIn X.K (.ref f) = true) (hb : Binds X.K fd ps [])
    (hdb : (x == ("__debug__" : Str)) = false) : PE X (.Call (.Name x p) [] [] pos) (tCallG sp tNil) := by
  refine ⟨fun pins s σ H Q I h => ?_⟩
  refine wpAny_Call_Name_kw (ld_glob I hg hm ?_ hdb)
  exact PySem.W.callWith_K0 I.kIn hk (runG (us := []) F gd hr hb I .nil h)
end
/-- a def of the text, by its body -/
theorem fnG_of {P : Program} {w : World} {K : PySem.W.Frag} {mg : Str → Option Value} {base : Heap} {k : Nat} {x qual : Str} {st : Stmt} {f : Addr} {fd : FuncData} {N ps : List Str} {sp : SpG}
    (F : Fun K x qual st f fd) (S : FnScope N ps (defScope st)) (len : ∀ vs H Q, sp vs H Q → vs.length = ps.length)
    (hbody : ∀ (cdv : Value) (A : Around) (outer : List PySem.Env) (s : Shared) (H : Hp) (vs : List V) (Q : VK), A.guards = some [] → Room k (A.deeper (envOfC qual (defScope st) s.heap.objs.size f cdv)) → sp vs H Q →
      ∃ t, PSs (cxOf CX0 P w K mg base N qual (defScope st) f cdv A outer s H E0).nox (defBody st) t ∧ t { nx := fun _ H' => Q .non H', rt := Q } (start N vs) H) :
    FnG P w K mg base (k + 1) f fd ps sp := by
  obtain ⟨oc, od, kV, doc, pm, an, cdv, ct, osl, rfl, lk, hcd⟩ := F.ex
  refine ⟨len, fun A outer s H args us vs Q gd hr e0 hb r hsp => ?_⟩
  have KX : K.In s.heap := e0.mod.kin.keeps fun b o e => (e0.bs b o e).1
  have lim : s.heap.NoLimit := e0.mod.nolimit.keeps fun b o e => (e0.bs b o e).1
  have kinds : ∀ y ∈ ps.zip us, (defScope st).names.lookup y.1 = some .local ∨ ((defScope st).names.lookup y.1 = some .cell ∧ ((cellsFrom (s.heap.objs.size + 1) (defScope st).names []).lookup y.1).isSome = true) := by
    rintro ⟨n, v⟩ hy
    rcases S.par n (List.of_mem_zip hy).1 with q | q
    · exact .inl q
    · exact .inr ⟨q, PySem.W.cellsFrom_some _ _ _ (.inl q)⟩
  refine codeAny_call_function hr.depth (KX _ _ lk) rfl S.co S.gen rfl (PySem.W.codeRec_of KX hcd) (hb _ _ _ _ ?_)
  refine wpAny_newFunctionEnv_cells S.kind kinds fun env he s1 xx => ?_
  subst he
  refine ⟨lim.keeps xx.toInCall.keep, codeAny_func ?_⟩
  obtain ⟨t, ht, hq⟩ := hbody cdv A outer s H vs Q gd (hr.deeper _) hsp
  have I := inv_start (CX := CX0) (E := E0) (P := P) (qual := qual) (f := f) (cd := cdv) S hr.hd e0 (len _ _ _ hsp) r xx
  refine wpAny_mono (ht.nox.run [] s1 (start N vs) H _ I hq) (fun fl s' hs => ?_) fun e s' hs => hs
  have fin : ∀ {σ' : L2.St} {H' : Hp} {v : V} {u : Value}, Inv (cxOf CX0 P w K mg base N qual (defScope st) f cdv A outer s H E0) [] σ' H' s' → RelV v u → Q v H' → CE outer P w H s Q u s' :=
    fun {σ' H' v u} J rv q => ⟨v, H', J.os, J.bare, J.base, J.hok, rv, q⟩
  cases fl with
  | ret u =>
    obtain ⟨v, σ', H', J, rv, q⟩ := hs
    exact fin J rv q
  | next =>
    obtain ⟨σ', H', J, q⟩ := hs
    exact fin (v := V.non) (u := Value.none) J rfl q
  | brk => obtain ⟨_, _, _, q⟩ := hs; exact q.elim
  | cont => obtain ⟨_, _, _, q⟩ := hs; exact q.elim
end TW
set_option maxRecDepth 20000
/-! TwD: what a piece of the text must look like to be a piece of the small language; which names a value may hang on. -/
namespace TW
open PySem PySem.Spec PyProof.Rows L2

structure Cfg where
  T : List Fn
  N : List Str
  srcI : Option Nat
def visB (sc : Scope) (x : Str) : Bool := match sc.names.lookup x with
  | some .local => true
  | some .cell => true
  | some .free => true
  | _ => false
def glB (sc : Scope) (x : Str) : Bool := match sc.names.lookup x with
  | some .globalImplicit => !(x == ("__debug__" : Str))
  | _ => false
def notSet : Expr → Bool
  | .Set .. => false
  | .Starred .. => false
  | .Slice .. => false
  | _ => true
def nmOk (G : Cfg) (sc : Scope) (i : Nat) (x : Str) : Bool := decide (G.N[i]? = some x) && visB sc x && !(x == ("__debug__" : Str)) && !(x == ("__classdict__" : Str))
def isSrc (G : Cfg) (sc : Scope) : Expr → Bool
  | .Name x _ => match G.srcI with
    | some i => nmOk G sc i x
    | none => false
  | _ => false
def opB : Bo → Operator → Bool
  | .add, .Add => true
  | .sub, .Sub => true
  | .mul, .Mult => true
  | .mod, .Mod => true
  | .fd, .FloorDiv => true
  | _, _ => false
def cmB : Co → CmpOp → Bool
  | .eq, .Eq => true
  | .ne, .NotEq => true
  | .lt, .Lt => true
  | .le, .LtE => true
  | .gt, .Gt => true
  | .ge, .GtE => true
  | .isIn, .In => true
  | .notIn, .NotIn => true
  | .isN, .Is => true
  | .notN, .IsNot => true
  | _, _ => false
def b1Name : B1 → Str
  | .len => "len"
  | .tuple => "tuple"
  | .list => "list"
  | .sorted => "sorted"
  | .abs => "abs"
  | .int => "int"
  | .repr => "repr"
def builtinNames : List Str := ["len", "tuple", "list", "sorted", "abs", "int", "repr", "range", "enumerate", "zip"]
/-- a local name to store to; fn: the block's own cells may be stored to -/
def locOk (G : Cfg) (sc : Scope) (fn : Str → Bool) (i : Nat) (x : Str) : Bool := decide (G.N[i]? = some x) && (match sc.names.lookup x with
  | some .local => true
  | some .cell => fn x
  | _ => false)
def okNames (G : Cfg) (sc : Scope) (fn : Str → Bool) : List Nat → List Expr → Bool
  | [], [] => true
  | i :: is, .Name x _ :: es => locOk G sc fn i x && okNames G sc fn is es
  | _, _ => false
def okTg (G : Cfg) (sc : Scope) (fn : Str → Bool) : Tg → Expr → Bool
  | .nm i, .Name x _ => locOk G sc fn i x
  | .tp is, .Tuple es _ _ => okNames G sc fn is es
  | _, _ => false
def isTup : Expr → Bool
  | .Tuple .. => true
  | _ => false
def owns (G : Cfg) (own : List Nat) : List (Str × Nat) := own.map fun i => (G.N.getD i "", i)
mutual
def okE (G : Cfg) (sc : Scope) : Ex → Expr → Bool
  | .var i, e => match e with
    | .Name x _ => nmOk G sc i x
    | _ => false
  | .int n, e => match e with
    | .Constant (.int m) _ _ => decide (n = m)
    | _ => false
  | .str x, e => match e with
    | .Constant (.str y) _ _ => decide (x = y)
    | _ => false
  | .bl b, e => match e with
    | .Constant (.bool c) _ _ => b == c
    | _ => false
  | .non, e => match e with
    | .Constant .none _ _ => true
    | _ => false
  | .tup es, e => match e with
    | .Tuple xs _ _ => okEs G sc es xs
    | _ => false
  | .lst es, e => match e with
    | .List xs _ => okEs G sc es xs
    | _ => false
  | .bin o a b, e => match e with
    | .BinOp x op y _ => opB o op && okE G sc a x && okE G sc b y
    | _ => false
  | .neg a, e => match e with
    | .UnaryOp .USub x _ => okE G sc a x
    | _ => false
  | .cmp o a b, e => match e with
    | .Compare x [op] [y] _ => cmB o op && okE G sc a x && okE G sc b y && notSet y
    | _ => false
  | .chain o o' a b c, e => match e with
    | .Compare x [op, op'] [y, z] _ => cmB o op && cmB o' op' && okE G sc a x && okE G sc b y && okE G sc c z && notSet z
    | _ => false
  | .and a b, e => match e with
    | .BoolOp .And (x :: y :: r) p => okE G sc a x && okE G sc b (.BoolOp .And (y :: r) p)
    | _ => false
  | .or a b, e => match e with
    | .BoolOp .Or (x :: y :: r) p => okE G sc a x && okE G sc b (.BoolOp .Or (y :: r) p)
    | _ => false
  | .one a, e => match e with
    | .BoolOp _ [x] _ => okE G sc a x
    | _ => false
  | .not a, e => match e with
    | .UnaryOp .Not x _ => okE G sc a x
    | _ => false
  | .ife c a b, e => match e with
    | .IfExp x y z _ => okE G sc c x && okE G sc a y && okE G sc b z && tst c
    | _ => false
  | .ix a b, e => match e with
    | .Subscript x y _ => notSet y && okE G sc a x && okE G sc b y
    | _ => false
  | .sl a lo hi, e => match e with
    | .Subscript x (.Slice l u none _) _ => okE G sc a x && okO G sc lo l && okO G sc hi u
    | _ => false
  | .rev a, e => match e with
    | .Subscript x (.Slice none none (some (.UnaryOp .USub (.Constant (.int 1) _ _) _)) _) _ => okE G sc a x
    | _ => false
  | .call f es, e => match e with
    | .Call (.Name x _) xs [] _ => match G.T[f]? with
      | some fn => decide (x = fn.name) && glB sc x && (if fn.src then (match xs with
          | y :: ys => isSrc G sc y && okEs G sc es ys
          | [] => false) else okEs G sc es xs)
      | none => false
    | _ => false
  | .pick a, e => match e with
    | .Call (.Name x _) [y, z] [] _ => decide (x = ("_law_pick" : Str)) && glB sc x && isSrc G sc y && noStar z && okE G sc a z
    | _ => false
  | .b1 f a, e => match e with
    | .Call (.Name x _) [y] [] _ => decide (x = b1Name f) && glB sc x && noStar y && okE G sc a y
    | _ => false
  | .lc elt tg it cond own, e => match e with
    | .ListComp x [⟨t, i, fs, 0⟩] scope _ => blkC G.N sc scope (owns G own) && okI G sc it t i && okTg G (relS scope sc) (fun x => scope.names.lookup x == some .cell) tg t &&
        okE G (relS scope sc) elt x && (match cond, fs with
          | .no, [] => true
          | .so c, [y] => okE G (relS scope sc) c y && tst c
          | _, _ => false) && (match G.srcI with
          | some s => !own.contains s
          | none => true) && tgIn own tg
    | _ => false
  | .dic ks vs, e => match e with
    | .Dict [] [] _ => isNil ks && isNil vs
    | .Dict [some k] [v] _ => okEs G sc ks [k] && okEs G sc vs [v]
    | _ => false
def isNil : Exs → Bool
  | .nil => true
  | .cons _ _ => false
/-- an expression that may be a test -/
def tst : Ex → Bool
  | .ife _ _ _ => false
  | .one a => tst a
  | .and a b => tst a && tst b
  | .or a b => tst a && tst b
  | .not a => tst a
  | _ => true
def tgIn (own : List Nat) : Tg → Bool
  | .nm i => own.contains i
  | .tp is => is.all own.contains
def okEs (G : Cfg) (sc : Scope) : Exs → List Expr → Bool
  | .nil, xs => match xs with
    | [] => true
    | _ => false
  | .cons e es, xs => match xs with
    | y :: ys => noStar y && okE G sc e y && okEs G sc es ys
    | [] => false
def okO (G : Cfg) (sc : Scope) : Oe → Option Expr → Bool
  | .no, x => match x with
    | none => true
    | some _ => false
  | .so e, x => match x with
    | some y => okE G sc e y
    | none => false
def okI (G : Cfg) (sc : Scope) : It → Expr → Expr → Bool
  | .dat e, _, i => notSet i && okE G sc e i
  | .rng1 a, _, i => match i with
    | .Call (.Name x _) [y] [] _ => decide (x = ("range" : Str)) && glB sc x && noStar y && okE G sc a y
    | _ => false
  | .rng2 a b, _, i => match i with
    | .Call (.Name x _) [y, z] [] _ => decide (x = ("range" : Str)) && glB sc x && noStar y && noStar z && okE G sc a y && okE G sc b z
    | _ => false
  | .enu a, t, i => match i with
    | .Call (.Name x _) [y] [] _ => isTup t && decide (x = ("enumerate" : Str)) && glB sc x && noStar y && okE G sc a y
    | _ => false
  | .zip a b, t, i => match i with
    | .Call (.Name x _) [y, z] [] _ => isTup t && decide (x = ("zip" : Str)) && glB sc x && noStar y && noStar z && okE G sc a y && okE G sc b z
    | _ => false
end

/-! ### what a value's parts at depth n and below may be parts of: (slot, depth) -/
mutual
def avd : Ex → Nat → List (Nat × Nat)
  | .var i, n => [(i, n)]
  | .tup es, n => avds es (n - 1)
  | .lst es, n => avds es (n - 1)
  | .bin .add a b, n => avd a (max n 1) ++ avd b (max n 1)
  | .bin .mul a b, n => avd a (max n 1)
  | .and a b, n => avd b n
  | .or a b, n => avd b n
  | .one a, n => avd a n
  | .ife c a b, n => avd a n ++ avd b n
  | .ix a b, n => avd a (n + 1)
  | .sl a lo hi, n => avd a (max n 1)
  | .rev a, n => avd a (max n 1)
  | .call f es, n => avds es 0
  | .b1 .tuple a, n => avd a (max n 1)
  | .b1 .list a, n => avd a (max n 1)
  | .b1 .sorted a, n => avd a (max n 1)
  | .lc elt tg it cond own, n => avI it 1 ++ (avd elt 0).filter fun p => !own.contains p.1
  | .dic ks vs, n => avds vs 0
  | _, _ => []
def avds : Exs → Nat → List (Nat × Nat)
  | .nil, _ => []
  | .cons e es, n => avd e n ++ avds es n
def avI : It → Nat → List (Nat × Nat)
  | .dat e, n => avd e n
  | .enu a, n => avd a n
  | .zip a b, n => avd a n ++ avd b n
  | _, _ => []
end
/-- what is owned of a value just made -/
def frk (T : List Fn) : Ex → Nat
  | .lst _ => 1
  | .bin .add _ _ => 1
  | .bin .mul _ _ => 1
  | .sl _ _ _ => 1
  | .rev _ => 1
  | .call f _ => match T[f]? with
    | some fn => fn.ret
    | none => 0
  | .b1 .list _ => 1
  | .b1 .sorted _ => 1
  | .lc elt _ _ _ _ => if frk T elt = 1 then 2 else 1
  | .dic _ _ => 1
  | _ => 0
end TW
set_option maxRecDepth 20000
/-! TwE: the readings of the small language's expressions. -/
namespace TW
open PySem PySem.Spec PyProof.Rows L2

def NoZ : Addr → Prop := fun _ => False
/-- the names' values are data, none of which hangs on Y -/
structure ED (U : Wd) (Y : Addr → Prop) (σ : L2.St) (H : Hp) (ρ : DEnv) : Prop where
  len : σ.length = ρ.length
  get : ∀ (i : Nat) (d : D), ρ[i]? = some (some d) → ∃ v, σ[i]? = some (some v) ∧ DR U Y NoZ H 0 v d
def SrcSlot (G : Cfg) (sa : SA) (σ : L2.St) : Prop := ∀ i, G.srcI = some i → ∃ a c, sa = some (a, c) ∧ σ[i]? = some (some (.ref a))
structure Pre (U : Wd) (G : Cfg) (sa : SA) (Z : Addr → Prop) (ρ : DEnv) (S : Src) (σ : L2.St) (H : Hp) : Prop where
  ed : ED U (sAd sa) σ H ρ
  ss : SrcSlot G sa σ
  sr : SrcR sa S H
  zh : ∀ a, Z a → ∃ o : HO, H a = some o
def Avoid (U : Wd) (Y Z : Addr → Prop) (l : List (Nat × Nat)) (σ : L2.St) (H : Hp) (ρ : DEnv) : Prop :=
  ∀ p ∈ l, ∀ d v, ρ[p.1]? = some (some d) → σ[p.1]? = some (some v) → DR U Y Z H p.2 v d
def Frs (U : Wd) (Y Z : Addr → Prop) (H H' : Hp) (k n : Nat) (v : V) (d : D) : Prop :=
  ∃ A, Own U H' k v d A ∧ A.Nodup ∧ (∀ a ∈ A, H a = none) ∧ DR U Y (fun a => Z a ∨ a ∈ A) H' (max n (ed k d)) v d
structure Post (U : Wd) (Y Z : Addr → Prop) (sa : SA) (S' : Src) (k n : Nat) (H H' : Hp) (v : V) (d : D) : Prop where
  ext : Ext Y H H'
  sr : SrcR sa S' H'
  dr : DR U Y Z H' n v d
  fr : Frs U Y Z H H' k n v d
def tE (U : Wd) (G : Cfg) (C : Ctx) (pe : Ex) : TE := fun σ H Q => ∃ sa Z n ρ S d S', Pre U G sa Z ρ S σ H ∧ Avoid U (sAd sa) Z (avd pe n) σ H ρ ∧ evE C pe ρ S = some (d, S') ∧
  ∀ v H', Post U (sAd sa) Z sa S' (frk G.T pe) n H H' v d → Q v H'
def tEs (U : Wd) (G : Cfg) (C : Ctx) (es : Exs) : TA := fun σ H Q => ∃ sa Z n ρ S ds S', Pre U G sa Z ρ S σ H ∧ Avoid U (sAd sa) Z (avds es n) σ H ρ ∧ evs C es ρ S = some (ds, S') ∧
  ∀ vs H', Ext (sAd sa) H H' → SrcR sa S' H' → DRs U (sAd sa) Z H' n vs ds → Q vs H'

section
variable {U : Wd} {G : Cfg} {C : Ctx} {sa : SA} {Y Z : Addr → Prop} {ρ : DEnv} {S S' : Src} {σ : L2.St} {H H1 H' : Hp} {n m k : Nat} {v : V} {d : D}
theorem ED.ext (e : Ext Y H H1) (h : ED U Y σ H ρ) : ED U Y σ H1 ρ := ⟨h.len, fun i d q => by
  obtain ⟨v, h1, h2⟩ := h.get i d q
  exact ⟨v, h1, DR.ext e _ _ _ h2⟩⟩
theorem Pre.step (h : Pre U G sa Z ρ S σ H) (e : Ext (sAd sa) H H1) (sr : SrcR sa S' H1) : Pre U G sa Z ρ S' σ H1 := by
  refine ⟨h.ed.ext e, h.ss, sr, fun a q => ?_⟩
  by_cases y : sAd sa a
  · exact sr.there a y
  · obtain ⟨o, ho⟩ := h.zh a q
    exact ⟨o, e.keep _ _ ho y⟩
theorem Avoid.step {l : List (Nat × Nat)} (e : Ext Y H H1) (h : Avoid U Y Z l σ H ρ) : Avoid U Y Z l σ H1 ρ := fun p hp d v q1 q2 => DR.ext e _ _ _ (h p hp d v q1 q2)
theorem Avoid.sub {l l' : List (Nat × Nat)} (s : ∀ p ∈ l', p ∈ l) (h : Avoid U Y Z l σ H ρ) : Avoid U Y Z l' σ H ρ := fun p hp => h p (s p hp)
theorem Avoid.left {l l' : List (Nat × Nat)} (h : Avoid U Y Z (l ++ l') σ H ρ) : Avoid U Y Z l σ H ρ := h.sub fun _ q => List.mem_append_left _ q
theorem Avoid.right {l l' : List (Nat × Nat)} (h : Avoid U Y Z (l ++ l') σ H ρ) : Avoid U Y Z l' σ H ρ := h.sub fun _ q => List.mem_append_right _ q
/-- with nothing to avoid -/
theorem avoid_no (h : ED U Y σ H ρ) (l : List (Nat × Nat)) : Avoid U Y NoZ l σ H ρ := fun p _ d v q1 q2 => by
  obtain ⟨u, h1, h2⟩ := h.get _ _ q1
  rw [q2] at h1; cases h1
  exact h2.deeper (Nat.zero_le _)
theorem Pre.no (h : Pre U G sa Z ρ S σ H) : Pre U G sa NoZ ρ S σ H := ⟨h.ed, h.ss, h.sr, fun _ q => q.elim⟩
theorem Frs.zero (h : DR U Y Z H' n v d) : Frs U Y Z H H' 0 n v d :=
  ⟨[], .zero, List.nodup_nil, fun _ q => by simp at q, (h.less fun a q => q.elim id fun q => by simp at q).deeper (by omega)⟩
theorem Frs.flat (hc : isCon d = false) (h : DR U Y Z H' n v d) : Frs U Y Z H H' k n v d :=
  ⟨[], .oth hc, List.nodup_nil, fun _ q => by simp at q, (h.less fun a q => q.elim id fun q => by simp at q).deeper (by omega)⟩
theorem Post.zero (e : Ext Y H H') (sr : SrcR sa S' H') (h : DR U Y Z H' n v d) : Post U Y Z sa S' 0 n H H' v d := ⟨e, sr, h, .zero h⟩
theorem Post.flat (hc : isCon d = false) (e : Ext Y H H') (sr : SrcR sa S' H') (h : DR U Y Z H' n v d) : Post U Y Z sa S' k n H H' v d := ⟨e, sr, h, .flat hc h⟩
/-- an address that is new behind H1 -/
theorem new_free (e : Ext (sAd sa) H H1) (sr : SrcR sa S' H1) {p : Addr} (np : H1 p = none) : H p = none := e.free (fun b q => sr.there b q) np
theorem new_noY (sr : SrcR sa S' H1) {p : Addr} (np : H1 p = none) : ¬ sAd sa p := fun q => by
  obtain ⟨o, ho⟩ := sr.there p q
  rw [np] at ho; cases ho
theorem new_noZ (zh : ∀ a, Z a → ∃ o, H a = some o) {p : Addr} (np : H p = none) : ¬ Z p := fun q => by
  obtain ⟨o, ho⟩ := zh p q
  rw [np] at ho; cases ho
theorem Post.tup {vs : List V} {ds : List D} {p : Addr} (e : Ext (sAd sa) H H1) (sr : SrcR sa S' H1) (np : H1 p = none) (l : ds.length ≤ LINE) (r : DRs U (sAd sa) Z H1 (n - 1) vs ds) :
    Post U (sAd sa) Z sa S' k n H (upd H1 p (.tup vs)) (.ref p) (.tuple ds) :=
  .flat rfl (e.trans (.new np)) (sr.new np) (.tup upd_same l (DRs.ext (.new np) _ _ _ r))
theorem Post.list {vs : List V} {ds : List D} {p : Addr} (e : Ext (sAd sa) H H1) (sr : SrcR sa S' H1) (zh : ∀ a, Z a → ∃ o, H a = some o) (np : H1 p = none) (l : ds.length ≤ LINE) (r : DRs U (sAd sa) Z H1 (n - 1) vs ds) :
    Post U (sAd sa) Z sa S' 1 n H (upd H1 p (.lst vs)) (.ref p) (.list ds) := by
  have hp := new_free e sr np
  refine ⟨e.trans (.new np), sr.new np, .lst upd_same (new_noY sr np) (fun _ => new_noZ zh hp) l (DRs.ext (.new np) _ _ _ r), [p], .lst1 upd_same, by simp, fun a q => ?_, ?_⟩
  · have e : a = p := by simpa using q
    rw [e]; exact hp
  · refine .lst upd_same (new_noY sr np) (fun q => by simp only [ed] at q; omega) l ?_
    have r1 : DRs U (sAd sa) (fun a => Z a ∨ a ∈ [p]) H1 (n - 1) vs ds := DRs.fresh (fun a q => by
      have e : a = p := by simpa using q
      rw [e]; exact np) _ _ _ r
    exact (DRs.ext (.new np) _ _ _ r1).deeper (by simp only [ed]; omega)
/-- nothing was made -/
theorem Post.same (sr : SrcR sa S H) (h : DR U (sAd sa) Z H n v d) : Post U (sAd sa) Z sa S 0 n H H v d := .zero (.refl H) sr h
end

section
variable {U : Wd} {G : Cfg} {C : Ctx} {X : Cx} {Y Z : Addr → Prop} {H : Hp}
mutual
/-- data without dicts, as the library tells it -/
theorem DR.dp {K : PySem.W.Frag} : ∀ (d : D) (v : V) (n : Nat), d.canLay0 = true → DR U Y Z H n v d → Dp K H v d
  | _, _, _, _, .non => .non
  | _, _, _, _, .bl b => .bl b
  | _, _, _, _, .int i => .int i
  | _, _, _, _, .str x => .str x
  | _, _, _, q, .lst h y z l r => .lst (.inl (.inl h)) (DRs.dp _ _ _ (by simpa [PyData.canLay0] using q) r)
  | _, _, _, q, .tup h l r => .tup (.inl (.inl h)) (DRs.dp _ _ _ (by simpa [PyData.canLay0] using q) r)
  | _, _, _, q, .dct h y z l r => by simp [PyData.canLay0] at q
theorem DRs.dp {K : PySem.W.Frag} : ∀ (ds : List D) (vs : List V) (n : Nat), PyData.canLayAll0 ds = true → DRs U Y Z H n vs ds → DpAll K H vs ds
  | _, _, _, _, .nil => .nil
  | _, _, _, q, .cons h r => by
    simp only [PyData.canLayAll0, Bool.and_eq_true] at q
    exact .cons (DR.dp _ _ _ q.1 h) (DRs.dp _ _ _ q.2 r)
end
end
mutual
/-- data without dicts, as the library tells it -/
theorem DR.dpn {U : Wd} {Y Z : Addr → Prop} {H : Hp} {K : PySem.W.Frag} : ∀ (d : D) (v : V) (n : Nat), d.hasDict = false → DR U Y Z H n v d → Dp K H v d
  | _, _, _, _, .non => .non
  | _, _, _, _, .bl b => .bl b
  | _, _, _, _, .int i => .int i
  | _, _, _, _, .str x => .str x
  | _, _, _, q, .lst h y z l r => .lst (.inl (.inl h)) (DRs.dpn _ _ _ (by simpa [PyData.hasDict] using q) r)
  | _, _, _, q, .tup h l r => .tup (.inl (.inl h)) (DRs.dpn _ _ _ (by simpa [PyData.hasDict] using q) r)
  | _, _, _, q, .dct h y z l r => by simp [PyData.hasDict] at q
theorem DRs.dpn {U : Wd} {Y Z : Addr → Prop} {H : Hp} {K : PySem.W.Frag} : ∀ (ds : List D) (vs : List V) (n : Nat), PyData.hasDictAll ds = false → DRs U Y Z H n vs ds → DpAll K H vs ds
  | _, _, _, _, .nil => .nil
  | _, _, _, q, .cons h r => by
    simp only [PyData.hasDictAll, Bool.or_eq_false_iff] at q
    exact .cons (DR.dpn _ _ _ q.1 h) (DRs.dpn _ _ _ q.2 r)
end
theorem shp_lay {d : D} (h : shp d = true) : d.canLay0 = true := SeqAt.canLay_of_shaped h

/-- a weaker reading -/
theorem _root_.L2.PE.imp {X : Cx} {e : Expr} {t t' : TE} (h : PE X e t) (q : ∀ σ H Q, t' σ H Q → t σ H Q) : PE X e t' := ⟨fun pins s σ H Q I hw => h.run pins s σ H Q I (q _ _ _ hw)⟩
theorem _root_.L2.PT.imp {X : Cx} {e : Expr} {t t' : TT} (h : PT X e t) (q : ∀ σ H Q, t' σ H Q → t σ H Q) : PT X e t' := ⟨fun pins s σ H Q I hw => h.run pins s σ H Q I (q _ _ _ hw)⟩
theorem _root_.L2.PW.imp {X : Cx} {e : Expr} {t t' : TT} (h : PW X e t) (q : ∀ σ H Q, t' σ H Q → t σ H Q) : PW X e t' := ⟨fun wh pins s σ H Q I hw => h.run wh pins s σ H Q I (q _ _ _ hw)⟩
theorem _root_.L2.PA.imp {X : Cx} {es : List Expr} {t t' : TA} (h : PA X es t) (q : ∀ σ H Q, t' σ H Q → t σ H Q) : PA X es t' := ⟨fun pos pins s σ H Q I hw => h.run pos pins s σ H Q I (q _ _ _ hw)⟩
end TW
set_option maxRecDepth 20000
/-! TwF: each piece of the small language, sound. -/
namespace TW
open PySem PySem.Spec PyProof.Rows L2

/-- what a def of the table promises -/
def spF (U : Wd) (C : Ctx) (f : Fn) (i : Nat) : SpG := fun vs H Q => ∃ sa Z ds S d S' us, (if f.src = true then ∃ a c, sa = some (a, c) ∧ vs = .ref a :: us else vs = us) ∧ vs.length = f.ps.length ∧
  DRs U (sAd sa) Z H 0 us ds ∧ SrcR sa S H ∧ (∀ a, Z a → ∃ o : HO, H a = some o) ∧ C.cl i ds S = some (d, S') ∧ ∀ v H', Post U (sAd sa) Z sa S' f.ret 0 H H' v d → Q v H'
def spPick : SpG := fun vs H Q => ∃ a c m S, vs = [.ref a, .int m] ∧ SrcR (some (a, c)) S H ∧ m < 1073741824 ∧
  ∀ H', Ext (sAd (some (a, c))) H H' → SrcR (some (a, c)) (drawn m S).2 H' → Q (.int (drawn m S).1) H'
/-- what a piece of the text stands in -/
structure XOk (U : Wd) (G : Cfg) (C : Ctx) (k : Nat) (X : Cx) : Prop where
  hP : X.prog = U.P
  hW : X.w = U.w
  hK : X.K = U.K
  hN : X.N = G.N
  cal : X.calm = true
  nd : X.N.Nodup
  rm : Room k X.A
  gd : X.A.guards = some []
  xe : X.xe = fun _ _ => False
  bl : ∀ b ∈ builtinNames, X.mg b = none
  clen : ∀ i ds S r f, C.cl i ds S = some r → G.T[i]? = some f → (if f.src then 1 else 0) + ds.length = f.ps.length
  fn : ∀ (i : Nat) (f : Fn), G.T[i]? = some f → ∃ fa fd, X.mg f.name = some (.ref fa) ∧ PySem.W.keepIn X.K (.ref fa) = true ∧ Binds X.K fd f.ps [] ∧ FnG X.prog X.w X.K X.mg X.base k fa fd f.ps (spF U C f i)
  pk : ∃ fa fd ps, X.mg "_law_pick" = some (.ref fa) ∧ PySem.W.keepIn X.K (.ref fa) = true ∧ Binds X.K fd ps [] ∧ FnG X.prog X.w X.K X.mg X.base k fa fd ps spPick

section
variable {U : Wd} {G : Cfg} {C : Ctx} {k : Nat} {X : Cx} {sa : SA} {Z : Addr → Prop} {ρ : DEnv} {S S1 S2 S' : Src} {σ : L2.St} {H : Hp} {n na nb : Nat} {a b : Ex} {x y d : D} {pos : Pos}

/-- two pieces, one behind the other -/
theorem two {R : V → V → Hp → Prop} (pre : Pre U G sa Z ρ S σ H) (va : Avoid U (sAd sa) Z (avd a na) σ H ρ) (vb : Avoid U (sAd sa) Z (avd b nb) σ H ρ) (ea : evE C a ρ S = some (x, S1)) (eb : evE C b ρ S1 = some (y, S2))
    (r : ∀ u v H2, Ext (sAd sa) H H2 → SrcR sa S2 H2 → DR U (sAd sa) Z H2 na u x → DR U (sAd sa) Z H2 nb v y → R u v H2) : tE U G C a σ H fun u H1 => tE U G C b σ H1 fun v H2 => R u v H2 := by
  refine ⟨sa, Z, na, ρ, S, x, S1, pre, va, ea, fun u H1 p1 => ?_⟩
  refine ⟨sa, Z, nb, ρ, S1, y, S2, pre.step p1.ext p1.sr, vb.step p1.ext, eb, fun v H2 p2 => ?_⟩
  exact r u v H2 (p1.ext.trans p2.ext) p2.sr (DR.ext p2.ext _ _ _ p1.dr) p2.dr
theorem one1 {R : V → Hp → Prop} (pre : Pre U G sa Z ρ S σ H) (va : Avoid U (sAd sa) Z (avd a na) σ H ρ) (ea : evE C a ρ S = some (x, S1))
    (r : ∀ u H2, Ext (sAd sa) H H2 → SrcR sa S1 H2 → DR U (sAd sa) Z H2 na u x → R u H2) : tE U G C a σ H R :=
  ⟨sa, Z, na, ρ, S, x, S1, pre, va, ea, fun u H1 p1 => r u H1 p1.ext p1.sr p1.dr⟩
theorem noAv : Avoid U (sAd sa) Z [] σ H ρ := fun p hp => by simp at hp
/-- a piece whose parts don't matter -/
theorem any1 {R : V → Hp → Prop} (pre : Pre U G sa Z ρ S σ H) (ea : evE C a ρ S = some (x, S1)) (r : ∀ u H2, Ext (sAd sa) H H2 → SrcR sa S1 H2 → DR U (sAd sa) NoZ H2 0 u x → R u H2) : tE U G C a σ H R :=
  one1 (na := 0) pre.no (avoid_no pre.ed _) ea r
theorem any2 {R : V → V → Hp → Prop} (pre : Pre U G sa Z ρ S σ H) (ea : evE C a ρ S = some (x, S1)) (eb : evE C b ρ S1 = some (y, S2))
    (r : ∀ u v H2, Ext (sAd sa) H H2 → SrcR sa S2 H2 → DR U (sAd sa) NoZ H2 0 u x → DR U (sAd sa) NoZ H2 0 v y → R u v H2) : tE U G C a σ H fun u H1 => tE U G C b σ H1 fun v H2 => R u v H2 :=
  two (na := 0) (nb := 0) pre.no (avoid_no pre.ed _) (avoid_no pre.ed _) ea eb r

/-! ### names and constants -/
theorem nmOk_of {G : Cfg} {sc : Scope} {i : Nat} {x : Str} (h : nmOk G sc i x = true) : G.N[i]? = some x ∧ Vis sc x ∧ (x == ("__debug__" : Str)) = false ∧ (x == ("__classdict__" : Str)) = false := by
  unfold nmOk at h
  simp only [Bool.and_eq_true, decide_eq_true_eq, Bool.not_eq_true'] at h
  refine ⟨h.1.1.1, ?_, h.1.2, h.2⟩
  have q := h.1.1.2
  unfold visB at q
  unfold Vis
  split at q <;> simp_all
theorem s_var (ok : XOk U G C k X) {i : Nat} {x : Str} (h : nmOk G X.env.scope i x = true) : PE X (.Name x pos) (tE U G C (.var i)) := by
  obtain ⟨h1, h2, h3, h4⟩ := nmOk_of h
  refine PE.imp (pe_var (i := i) (by rw [ok.hN]; exact h1) h2 h3 h4) fun σ H Q q => ?_
  obtain ⟨sa, Z, n, ρ, S, d, S', pre, av, ev, q⟩ := q
  simp only [evE] at ev
  split at ev
  · rename_i d' e
    cases ev
    obtain ⟨v, e1, e2⟩ := pre.ed.get _ _ e
    exact ⟨v, e1, q v H (.same pre.sr (av (i, n) (by simp [avd]) _ _ e e1))⟩
  · cases ev
theorem s_const {v : V} {e : Expr} {pe : Ex} {d : D} (hp : PE X e (tC v)) (he : ∀ ρ S, evE C pe ρ S = some (d, S)) (hd : ∀ (sa : SA) Z H n, DR U (sAd sa) Z H n v d) (hc : isCon d = false) : PE X e (tE U G C pe) := by
  refine PE.imp hp fun σ H Q q => ?_
  obtain ⟨sa, Z, n, ρ, S, d', S', pre, av, ev, q⟩ := q
  rw [he] at ev
  cases ev
  exact q v H (.flat hc (.refl H) pre.sr (hd _ _ _ _))

/-! ### displays -/
theorem sizeL {n : Nat} (h : n ≤ LINE) : n ≤ sizeLine := by rw [sizeLine_eq]; exact h
theorem s_tup {es : Exs} {xs : List Expr} {kk : Nat} (ha : PA X xs (tEs U G C es)) : PE X (.Tuple xs kk pos) (tE U G C (.tup es)) := by
  refine PE.imp (pe_tup ha) fun σ H Q q => ?_
  obtain ⟨sa, Z, n, ρ, S, d, S', pre, av, ev, q⟩ := q
  simp only [evE] at ev
  split at ev
  · rename_i ds S1 e
    split at ev
    · rename_i l
      cases ev
      refine ⟨sa, Z, n - 1, ρ, S, ds, _, pre, av, e, fun vs H1 x sr r => ⟨?_, fun p np => q _ _ (.tup x sr np l r)⟩⟩
      rw [r.length]
      exact sizeL l
    · cases ev
  · cases ev
theorem s_lst {es : Exs} {xs : List Expr} (ha : PA X xs (tEs U G C es)) : PE X (.List xs pos) (tE U G C (.lst es)) := by
  refine PE.imp (pe_lst ha) fun σ H Q q => ?_
  obtain ⟨sa, Z, n, ρ, S, d, S', pre, av, ev, q⟩ := q
  simp only [evE] at ev
  split at ev
  · rename_i ds S1 e
    split at ev
    · rename_i l
      cases ev
      refine ⟨sa, Z, n - 1, ρ, S, ds, _, pre, av, e, fun vs H1 x sr r => ⟨?_, fun p np => q _ _ (.list x sr pre.zh np l r)⟩⟩
      rw [r.length]
      exact sizeL l
    · cases ev
  · cases ev
theorem s_nil : PA X [] (tEs U G C .nil) := by
  refine PA.imp pa_nil fun σ H Q q => ?_
  obtain ⟨sa, Z, n, ρ, S, d, S', pre, av, ev, q⟩ := q
  simp only [evs] at ev
  cases ev
  exact q [] H (.refl H) pre.sr .nil
theorem s_cons {e : Ex} {es : Exs} {y : Expr} {ys : List Expr} (ns : noStar y = true) (he : PE X y (tE U G C e)) (hs : PA X ys (tEs U G C es)) : PA X (y :: ys) (tEs U G C (.cons e es)) := by
  refine PA.imp (pa_cons he hs (star_plain ns _ _)) fun σ H Q q => ?_
  obtain ⟨sa, Z, n, ρ, S, d, S', pre, av, ev, q⟩ := q
  simp only [evs] at ev
  split at ev
  · rename_i x S1 e1
    split at ev
    · rename_i xs S2 e2
      cases ev
      refine ⟨sa, Z, n, ρ, S, x, S1, pre, av.left, e1, fun u H1 p1 => ⟨sa, Z, n, ρ, S1, xs, _, pre.step p1.ext p1.sr, av.right.step p1.ext, e2, fun us H2 x2 sr2 r2 => ?_⟩⟩
      exact q _ _ (p1.ext.trans x2) sr2 (.cons (DR.ext x2 _ _ _ p1.dr) r2)
    · cases ev
  · cases ev

/-! ### operators -/
theorem bin_ev {o : Bo} (h : evE C (.bin o a b) ρ S = some (d, S')) : ∃ x S1 y, evE C a ρ S = some (x, S1) ∧ evE C b ρ S1 = some (y, S') ∧ bop o x y = some d := by
  simp only [evE] at h
  split at h
  · rename_i x S1 e1
    split at h
    · rename_i y S2 e2
      cases e : bop o x y with
      | none => rw [e] at h; cases h
      | some r => rw [e] at h; cases h; exact ⟨x, S1, y, e1, e2, e⟩
    · cases h
  · cases h
theorem mulOk_of {i j : Int} (h : mulOk i j = true) : CMul i j := by
  unfold mulOk at h
  simp only [Bool.or_eq_true, Bool.and_eq_true, decide_eq_true_eq] at h
  exact h
theorem DR.int_inv {U : Wd} {Y Z : Addr → Prop} {H : Hp} {n : Nat} {v : V} {i : Int} (h : DR U Y Z H n v (.int i)) : v = .int i := by cases h; rfl
theorem DR.str_inv {U : Wd} {Y Z : Addr → Prop} {H : Hp} {n : Nat} {v : V} {i : Str} (h : DR U Y Z H n v (.str i)) : v = .str i := by cases h; rfl
theorem DR.bl_inv {U : Wd} {Y Z : Addr → Prop} {H : Hp} {n : Nat} {v : V} {i : Bool} (h : DR U Y Z H n v (.bool i)) : v = .bl i := by cases h; rfl
theorem DR.lst_inv {U : Wd} {Y Z : Addr → Prop} {H : Hp} {n : Nat} {v : V} {ds : List D} (h : DR U Y Z H n v (.list ds)) : ∃ a vs, v = .ref a ∧ H a = some (.lst vs) ∧ ¬ Y a ∧ (n = 0 → ¬ Z a) ∧ ds.length ≤ LINE ∧ DRs U Y Z H (n - 1) vs ds := by
  cases h with
  | lst h y z l r => exact ⟨_, _, rfl, h, y, z, l, r⟩
theorem DR.tup_inv {U : Wd} {Y Z : Addr → Prop} {H : Hp} {n : Nat} {v : V} {ds : List D} (h : DR U Y Z H n v (.tuple ds)) : ∃ a vs, v = .ref a ∧ H a = some (.tup vs) ∧ ds.length ≤ LINE ∧ DRs U Y Z H (n - 1) vs ds := by
  cases h with
  | tup h l r => exact ⟨_, _, rfl, h, l, r⟩
def rAdd (K : PySem.W.Frag) : R2 := fun x y H Q => rI0 (fun i j => .int (i + j)) x y H Q ∨ (rCat x y H Q ∨ (rCatA K x y H Q ∨ (∃ i j, x = .str i ∧ y = .str j ∧ i.length + j.length ≤ sizeLine ∧ Q (.str (i ++ j)) H)))
theorem op_all_add {X : Cx} : OpR X (binaryOp .Add) (rAdd X.K) := op_add.or (op_cat.or (op_catA.or op_add_str))
theorem dr_int {U : Wd} {Y Z : Addr → Prop} {H : Hp} {n : Nat} {i : Int} : DR U Y Z H n (.int i) (.int i) := .int i
theorem s_add {xe ye : Expr} (ha : PE X xe (tE U G C a)) (hb : PE X ye (tE U G C b)) : PE X (.BinOp xe .Add ye pos) (tE U G C (.bin .add a b)) := by
  refine PE.imp (pe_op op_all_add ha hb) fun σ H Q q => ?_
  obtain ⟨sa, Z, n, ρ, S, d, S', pre, av, ev, q⟩ := q
  obtain ⟨x, S1, y, e1, e2, e3⟩ := bin_ev ev
  refine two (na := max n 1) (nb := max n 1) pre av.left av.right e1 e2 fun u v H2 ex sr du dv => ?_
  cases x <;> cases y <;> simp only [bop] at e3 <;> try cases e3
  · cases du.int_inv; cases dv.int_inv
    exact .inl ⟨_, _, rfl, rfl, q _ _ (.flat rfl ex sr (.int _))⟩
  · cases du.str_inv; cases dv.str_inv
    split at e3
    · rename_i l
      cases e3
      exact .inr (.inr (.inr ⟨_, _, rfl, rfl, sizeL l, q _ _ (.flat rfl ex sr (.str _))⟩))
    · cases e3
  · obtain ⟨l, vs, rfl, hl, yl, zl, ll, rl⟩ := du.lst_inv
    obtain ⟨m, us, rfl, hm, ym, zm, lm, rm⟩ := dv.lst_inv
    split at e3
    · rename_i ll2
      cases e3
      have l3 : vs.length + us.length ≤ LINE := by rw [rl.length, rm.length]; exact ll2
      have r3 := rl.append rm
      rw [show max n 1 - 1 = n - 1 by omega] at r3
      exact .inr (.inl ⟨l, m, vs, us, rfl, rfl, hl, hm, sizeL l3, fun p np => q _ _ (.list ex sr pre.zh np (by rw [List.length_append]; exact ll2) r3)⟩)
    · cases e3
  · obtain ⟨l, vs, rfl, hl, ll, rl⟩ := du.tup_inv
    obtain ⟨m, us, rfl, hm, lm, rm⟩ := dv.tup_inv
    split at e3
    · rename_i ll2
      cases e3
      have l3 : vs.length + us.length ≤ LINE := by rw [rl.length, rm.length]; exact ll2
      have r3 := rl.append rm
      rw [show max n 1 - 1 = n - 1 by omega] at r3
      rw [show max n 1 - 1 = n - 1 by omega] at rl rm
      refine .inr (.inr (.inl ⟨l, m, vs, us, rfl, rfl, .inl (.inl hl), .inl (.inl hm), sizeL l3, fun z => ?_, fun _ z => ?_, fun _ _ p np => ?_⟩))
      · subst z
        cases rl
        exact q _ _ (.flat rfl ex sr (.tup hm lm rm))
      · subst z
        cases rm
        exact q _ _ (.flat rfl ex sr (.tup hl (by simpa using ll) (by simpa using rl)))
      · exact q _ _ (.tup ex sr np (by rw [List.length_append]; exact ll2) r3)
    · cases e3
theorem s_sub {xe ye : Expr} (ha : PE X xe (tE U G C a)) (hb : PE X ye (tE U G C b)) : PE X (.BinOp xe .Sub ye pos) (tE U G C (.bin .sub a b)) := by
  refine PE.imp (pe_op op_sub ha hb) fun σ H Q q => ?_
  obtain ⟨sa, Z, n, ρ, S, d, S', pre, av, ev, q⟩ := q
  obtain ⟨x, S1, y, e1, e2, e3⟩ := bin_ev ev
  refine any2 pre e1 e2 fun u v H2 ex sr du dv => ?_
  cases x <;> cases y <;> simp only [bop] at e3 <;> try cases e3
  cases du.int_inv; cases dv.int_inv
  exact ⟨_, _, rfl, rfl, q _ _ (.flat rfl ex sr (.int _))⟩
theorem s_mod {xe ye : Expr} (ha : PE X xe (tE U G C a)) (hb : PE X ye (tE U G C b)) : PE X (.BinOp xe .Mod ye pos) (tE U G C (.bin .mod a b)) := by
  refine PE.imp (pe_op op_mod ha hb) fun σ H Q q => ?_
  obtain ⟨sa, Z, n, ρ, S, d, S', pre, av, ev, q⟩ := q
  obtain ⟨x, S1, y, e1, e2, e3⟩ := bin_ev ev
  refine any2 pre e1 e2 fun u v H2 ex sr du dv => ?_
  cases x <;> cases y <;> simp only [bop] at e3 <;> try cases e3
  split at e3
  · rename_i l
    cases e3
    cases du.int_inv; cases dv.int_inv
    exact ⟨_, _, rfl, rfl, l, q _ _ (.flat rfl ex sr (.int _))⟩
  · cases e3
theorem s_fd {xe ye : Expr} (ha : PE X xe (tE U G C a)) (hb : PE X ye (tE U G C b)) : PE X (.BinOp xe .FloorDiv ye pos) (tE U G C (.bin .fd a b)) := by
  refine PE.imp (pe_op op_fdiv ha hb) fun σ H Q q => ?_
  obtain ⟨sa, Z, n, ρ, S, d, S', pre, av, ev, q⟩ := q
  obtain ⟨x, S1, y, e1, e2, e3⟩ := bin_ev ev
  refine any2 pre e1 e2 fun u v H2 ex sr du dv => ?_
  cases x <;> cases y <;> simp only [bop] at e3 <;> try cases e3
  split at e3
  · rename_i l
    cases e3
    cases du.int_inv; cases dv.int_inv
    exact ⟨_, _, rfl, rfl, l, q _ _ (.flat rfl ex sr (.int _))⟩
  · cases e3
theorem s_mul {xe ye : Expr} (ha : PE X xe (tE U G C a)) (hb : PE X ye (tE U G C b)) : PE X (.BinOp xe .Mult ye pos) (tE U G C (.bin .mul a b)) := by
  refine PE.imp (pe_op (op_mul.or op_rep) ha hb) fun σ H Q q => ?_
  obtain ⟨sa, Z, n, ρ, S, d, S', pre, av, ev, q⟩ := q
  obtain ⟨x, S1, y, e1, e2, e3⟩ := bin_ev ev
  refine ⟨sa, Z, max n 1, ρ, S, x, S1, pre, av, e1, fun u H1 p1 => ?_⟩
  refine any1 (pre.step p1.ext p1.sr) e2 fun v H2 ex2 sr dv => ?_
  have ex := p1.ext.trans ex2
  have du := DR.ext ex2 _ _ _ p1.dr
  cases x <;> cases y <;> simp only [bop] at e3 <;> try cases e3
  · split at e3
    · rename_i l
      cases e3
      cases du.int_inv; cases dv.int_inv
      exact .inl ⟨_, _, rfl, rfl, mulOk_of l, q _ _ (.flat rfl ex sr (.int _))⟩
    · cases e3
  · rename_i ds i
    obtain ⟨l, vs, rfl, hl, yl, zl, ll, rl⟩ := du.lst_inv
    cases dv.int_inv
    split at e3
    · rename_i l3
      cases e3
      simp only [Bool.and_eq_true, decide_eq_true_eq] at l3
      have r3 := rl.rep i.toNat
      rw [show max n 1 - 1 = n - 1 by omega] at r3
      refine .inr ⟨l, i, vs, rfl, rfl, hl, l3.1.1, l3.1.2, sizeL (by rw [rl.length]; exact l3.2), fun p np => q _ _ (.list ex sr pre.zh np ?_ r3)⟩
      rw [List.length_flatten, List.map_replicate, List.sum_replicate_nat, Nat.mul_comm]
      exact l3.2
    · cases e3
theorem s_neg {xe : Expr} (ha : PE X xe (tE U G C a)) : PE X (.UnaryOp .USub xe pos) (tE U G C (.neg a)) := by
  refine PE.imp (pe_un un_neg ha) fun σ H Q q => ?_
  obtain ⟨sa, Z, n, ρ, S, d, S', pre, av, ev, q⟩ := q
  simp only [evE] at ev
  split at ev
  · rename_i i S1 e1
    cases ev
    refine any1 pre e1 fun u H2 ex sr du => ?_
    cases du.int_inv
    exact ⟨_, rfl, q _ _ (.flat rfl ex sr (.int _))⟩
  · cases ev
end
end TW
set_option maxRecDepth 20000
/-! TwG: dicts whose keys are nested tuples, over the layer. -/
namespace TW
open PySem PySem.Spec PyProof.Rows L2

section
variable {X : Cx} {pins : List (Addr × Obj)} {σ : L2.St} {H : Hp} {s : Shared} {U : Wd}
mutual
/-- plain data is a key of the heap -/
theorem PlR.isKey (I : Inv X pins σ H s) : ∀ (d : D) (v : V) (u : Value), PlR X.K H v d → RelV v u → NestedIs s.heap (keyOf d) u
  | _, _, _, .int i, r => by
    obtain ⟨t, rfl⟩ := r
    exact .int i t
  | _, _, _, .str x, r => by
    obtain ⟨t, rfl⟩ := r
    exact .text x t
  | _, _, _, .tup h l q, r => by
    cases r
    obtain ⟨_, its, rv, o, h1, h2, n, h3⟩ := I.hok _ _ h
    exact .tup h1 h2 h3 (by simpa using PlRs.areKeys I _ _ _ q rv)
theorem PlRs.areKeys (I : Inv X pins σ H s) : ∀ (ds : List D) (vs : List V) (us : List Value), PlRs X.K H vs ds → Vals vs us → NestedAll s.heap (keysOf ds) us
  | _, _, _, .nil, .nil => .nil
  | _, _, _, .cons h q, .cons r rs => .cons (PlR.isKey I _ _ _ h r) (PlRs.areKeys I _ _ _ q rs)
end
mutual
theorem DR.pl0 {Y Z : Addr → Prop} {K : PySem.W.Frag} : ∀ (d : D) (v : V) (n : Nat), DR U Y Z H n v d → plain d = true → PlR K H v d
  | _, _, _, .non, q => by simp [plain] at q
  | _, _, _, .bl b, q => by simp [plain] at q
  | _, _, _, .int i, _ => .int i
  | _, _, _, .str x, _ => .str x
  | _, _, _, .lst h y z l r, q => by simp [plain] at q
  | _, _, _, .tup h l r, q => .tup h l (DRs.pl0 _ _ _ r (by simpa [plain] using q))
  | _, _, _, .dct h y z l r, q => by simp [plain] at q
theorem DRs.pl0 {Y Z : Addr → Prop} {K : PySem.W.Frag} : ∀ (ds : List D) (vs : List V) (n : Nat), DRs U Y Z H n vs ds → plains ds = true → PlRs K H vs ds
  | _, _, _, .nil, _ => .nil
  | _, _, _, .cons h r, q => by
    simp only [plains, Bool.and_eq_true] at q
    exact .cons (DR.pl0 _ _ _ h q.1) (DRs.pl0 _ _ _ r q.2)
end
mutual
theorem PlR.dr {Y Z : Addr → Prop} {K : PySem.W.Frag} : ∀ (d : D) (v : V) (n : Nat), PlR K H v d → DR U Y Z H n v d
  | _, _, _, .int i => .int i
  | _, _, _, .str x => .str x
  | _, _, _, .tup h l r => .tup h l (PlRs.dr _ _ _ r)
theorem PlRs.dr {Y Z : Addr → Prop} {K : PySem.W.Frag} : ∀ (ds : List D) (vs : List V) (n : Nat), PlRs K H vs ds → DRs U Y Z H n vs ds
  | _, _, _, .nil => .nil
  | _, _, _, .cons h r => .cons (PlR.dr _ _ _ h) (PlRs.dr _ _ _ r)
end
theorem DR.pl {Y Z : Addr → Prop} {K : PySem.W.Frag} (d : D) (v : V) (n : Nat) (q : plain d = true) (h : DR U Y Z H n v d) : PlR K H v d := DR.pl0 d v n h q
/-- back again -/
theorem kOk_tup {d : D} (h : kOk d = true) : ∃ xs, d = .tuple xs ∧ plains xs = true ∧ (keyOf d).depth ≤ 8 := by
  cases d with
  | tuple xs =>
    simp only [kOk, Bool.and_eq_true, decide_eq_true_eq] at h
    exact ⟨xs, rfl, h.1, by simpa [keyOf] using h.2⟩
  | _ => simp [kOk] at h
theorem kOk_pl {Y Z : Addr → Prop} {K : PySem.W.Frag} {d : D} {v : V} {n : Nat} (h : kOk d = true) (r : DR U Y Z H n v d) : ∃ b, v = .ref b ∧ PlR K H (.ref b) d := by
  obtain ⟨xs, rfl, h1, h2⟩ := kOk_tup h
  obtain ⟨a, vs, rfl, _⟩ := r.tup_inv
  exact ⟨a, rfl, DR.pl _ _ _ (by simpa [plain] using h1) r⟩
theorem key_is (I : Inv X pins σ H s) {d : D} {b : Addr} (h : kOk d = true) (r : PlR X.K H (.ref b) d) : (nestedKind X.prog X.w).is s.heap (keyOf d) b := by
  obtain ⟨xs, rfl, h1, h2⟩ := kOk_tup h
  exact ⟨PlR.isKey I _ _ _ r rfl, h2⟩
theorem keysAt_is (I : Inv X pins σ H s) : ∀ {xs : List (NestedKey × Addr × Value)} {ks : List D}, Paired (KeyAt X.K H) xs ks → ∀ x ∈ xs, (nestedKind X.prog X.w).is s.heap x.1 x.2.1
  | _, _, .nil, _, h => by simp at h
  | _, _, .cons (a := y) h r, x, hx => by
    rcases List.mem_cons.mp hx with e | hx
    · subst e
      rw [h.1]
      exact key_is I h.2.1 h.2.2
    · exact keysAt_is I r x hx
/-- the dict as the library tells it -/
theorem dict_at (I : Inv X pins σ H s) {a : Addr} {xs : List (NestedKey × Addr × Value)} {ep : Nat} {ks : List D} (h : H a = some (dictO X.prog X.w a xs ep)) (hk : Paired (KeyAt X.K H) xs ks) :
    (a == sysModules) = false ∧ s.heap.DictOfH (nestedKind X.prog X.w) a xs := by
  obtain ⟨⟨h1, o, es, h2, h3, h4, h5, h6⟩, _⟩ := I.hok _ _ h
  exact ⟨h1, o, es, ep, h2, h3, h4, h5, keysAt_is I hk, h6⟩
theorem obj_of {P : Program} {w : World} {h : Heap} {a : Addr} {xs : List (NestedKey × Addr × Value)} {H : Nat → Hp} (n : (a == sysModules) = false) (x : h.DictOfH (nestedKind P w) a xs) : ∃ ep, ObjOk P w (H ep) h a (dictO P w a xs ep) := by
  obtain ⟨o, es, ep, h2, h3, h4, h5, _, h6⟩ := x
  refine ⟨ep, ⟨n, o, es, h2, h3, h4, h5, h6⟩, ⟨o, h2⟩, ?_⟩
  rintro g1 g2 ⟨m1, o1, es1, m2, m3, m4, m5, m6⟩ k
  exact ⟨m1, o1, es1, k _ m2, m3, m4, m5, m6⟩
end

/-! ### looking up -/
theorem atKey_cons {K : Type} [DecidableEq K] (x : K × Addr × Value) (xs : List (K × Addr × Value)) (k : K) : atKey (x :: xs) k = if x.1 = k then some x.2 else atKey xs k := by
  unfold atKey
  rw [List.find?_cons]
  by_cases h : x.1 = k
  · simp [h]
  · simp [h]
theorem dFind_cons (p : D × D) (kvs : List (D × D)) (k : D) : dFind (p :: kvs) k = if keyOf p.1 = keyOf k then some p.2 else dFind kvs k := by
  unfold dFind sameKey
  rw [List.find?_cons]
  by_cases h : keyOf p.1 = keyOf k
  · simp [h]
  · simp [h]
/-- the entries, beside the keys and the values -/
inductive Ents (K : PySem.W.Frag) (U : Wd) (Y Z : Addr → Prop) (H : Hp) (n : Nat) : List (NestedKey × Addr × Value) → List (D × D) → List V → Prop
  | nil : Ents K U Y Z H n [] [] []
  | cons {x : NestedKey × Addr × Value} {xs : List (NestedKey × Addr × Value)} {kd d : D} {kvs : List (D × D)} {v : V} {vs : List V} : KeyAt K H x kd → RelV v x.2.2 → DR U Y Z H n v d → Ents K U Y Z H n xs kvs vs → Ents K U Y Z H n (x :: xs) ((kd, d) :: kvs) (v :: vs)
section
variable {K : PySem.W.Frag} {U : Wd} {Y Z : Addr → Prop} {H : Hp} {n : Nat}
theorem ents_of : ∀ {xs : List (NestedKey × Addr × Value)} {ks ds : List D} {vs : List V}, Paired (KeyAt K H) xs ks → Paired (fun v (x : NestedKey × Addr × Value) => RelV v x.2.2) vs xs → DRs U Y Z H n vs ds → Ents K U Y Z H n xs (ks.zip ds) vs
  | _, _, _, _, .nil, .nil, .nil => .nil
  | _, _, _, _, .cons h1 r1, .cons h2 r2, .cons h3 r3 => .cons h1 h2 h3 (ents_of r1 r2 r3)
theorem Ents.split : ∀ {xs : List (NestedKey × Addr × Value)} {kvs : List (D × D)} {vs : List V}, Ents K U Y Z H n xs kvs vs → Paired (KeyAt K H) xs (kvs.map (·.1)) ∧ Paired (fun v (x : NestedKey × Addr × Value) => RelV v x.2.2) vs xs ∧ DRs U Y Z H n vs (kvs.map (·.2)) ∧ xs.length = kvs.length
  | _, _, _, .nil => ⟨.nil, .nil, .nil, rfl⟩
  | _, _, _, .cons h1 h2 h3 r => by
    obtain ⟨a, b, c, e⟩ := r.split
    exact ⟨.cons h1 a, .cons h2 b, .cons h3 c, by simp [e]⟩
theorem Ents.find {k : D} : ∀ {xs : List (NestedKey × Addr × Value)} {kvs : List (D × D)} {vs : List V}, Ents K U Y Z H n xs kvs vs → (dFind kvs k = none ∧ atKey xs (keyOf k) = none) ∨ ∃ d b u v, dFind kvs k = some d ∧ atKey xs (keyOf k) = some (b, u) ∧ RelV v u ∧ DR U Y Z H n v d
  | _, _, _, .nil => .inl ⟨rfl, rfl⟩
  | _, _, _, .cons (x := x) (kd := kd) h1 h2 h3 r => by
    rw [dFind_cons, atKey_cons, h1.1]
    by_cases e : keyOf kd = keyOf k
    · rw [if_pos e, if_pos e]
      exact .inr ⟨_, _, _, _, rfl, rfl, h2, h3⟩
    · rw [if_neg e, if_neg e]
      exact r.find
theorem Ents.mono {n' : Nat} {H' : Hp} (f : ∀ v d, DR U Y Z H n v d → DR U Y Z H' n' v d) (g : ∀ x k, KeyAt K H x k → KeyAt K H' x k) : ∀ {xs : List (NestedKey × Addr × Value)} {kvs : List (D × D)} {vs : List V}, Ents K U Y Z H n xs kvs vs → Ents K U Y Z H' n' xs kvs vs
  | _, _, _, .nil => .nil
  | _, _, _, .cons h1 h2 h3 r => .cons (g _ _ h1) h2 (f _ _ h3) (r.mono f g)
/-- an entry put -/
theorem Ents.put {k d : D} {b : Addr} {v : V} {u : Value} {xs : List (NestedKey × Addr × Value)} {kvs : List (D × D)} {vs : List V} (h : Ents K U Y Z H n xs kvs vs) (hk : kOk k = true) (pb : PlR K H (.ref b) k) (rv : RelV v u) (r : DR U Y Z H n v d) :
    ∃ vs', Ents K U Y Z H n (storedH xs (keyOf k) b u) (dPut kvs k d) vs' := by
  have key : (kvs.any fun p => sameKey p.1 k) = (atKey xs (keyOf k)).isSome := by
    clear rv r
    induction h with
    | nil => rfl
    | @cons x xs kd d kvs v vs h1 h2 h3 r ih =>
      rw [List.any_cons, atKey_cons, h1.1, ih]
      unfold sameKey
      by_cases e : keyOf kd = keyOf k
      · simp [e]
      · simp [e]
  unfold dPut storedH
  rw [key]
  by_cases e : (atKey xs (keyOf k)).isSome = true
  · rw [if_pos e, if_pos e]
    clear e key
    induction h with
    | nil => exact ⟨[], .nil⟩
    | @cons x xs kd d' kvs v' vs h1 h2 h3 r' ih =>
      obtain ⟨ws, ih⟩ := ih
      rw [List.map_cons, List.map_cons]
      unfold putAt sameKey
      by_cases q : keyOf kd = keyOf k
      · refine ⟨v :: ws, ?_⟩
        rw [if_pos (show decide (keyOf kd = keyOf k) = true from decide_eq_true q), if_pos (show x.1 = keyOf k by rw [h1.1]; exact q)]
        exact .cons (x := (x.1, x.2.1, u)) ⟨h1.1, h1.2⟩ rv r ih
      · refine ⟨v' :: ws, ?_⟩
        rw [if_neg (show ¬ decide (keyOf kd = keyOf k) = true by simp [q]), if_neg (show ¬ x.1 = keyOf k by rw [h1.1]; exact q)]
        exact .cons h1 h2 h3 ih
  · rw [if_neg e, if_neg e]
    clear e key
    induction h with
    | nil => exact ⟨[v], .cons (x := (keyOf k, b, u)) ⟨rfl, hk, pb⟩ rv r .nil⟩
    | cons h1 h2 h3 r' ih =>
      obtain ⟨ws, ih⟩ := ih
      exact ⟨_ :: ws, .cons h1 h2 h3 ih⟩
theorem put_len (xs : List (NestedKey × Addr × Value)) (k : NestedKey) (b : Addr) (u : Value) : (storedH xs k b u).length ≤ xs.length + 1 := by
  unfold storedH
  split
  · rw [List.length_map]; omega
  · rw [List.length_append]; simp
end
theorem DR.dct_inv {U : Wd} {Y Z : Addr → Prop} {H : Hp} {n : Nat} {v : V} {kvs : List (D × D)} (h : DR U Y Z H n v (.dict kvs)) :
    ∃ a xs vs ep, v = .ref a ∧ H a = some (dictO U.P U.w a xs ep) ∧ xs.length ≤ LINE ∧ ¬ Y a ∧ (n = 0 → ¬ Z a) ∧ Ents U.K U Y Z H (n - 1) xs kvs vs := by
  cases h with
  | dct h y z l r =>
    obtain ⟨xs, ep, h1, h2, h3, h4⟩ := h.ex
    exact ⟨_, xs, _, ep, rfl, h1, h2, y, z, ents_of h3 h4 r⟩
theorem zip_split : ∀ kvs : List (D × D), (kvs.map (·.1)).zip (kvs.map (·.2)) = kvs
  | [] => rfl
  | p :: r => by simp [zip_split r]
theorem DR.dct_mk {U : Wd} {Y Z : Addr → Prop} {H : Hp} {n : Nat} {a : Addr} {xs : List (NestedKey × Addr × Value)} {vs : List V} {kvs : List (D × D)} {ep : Nat} (h1 : H a = some (dictO U.P U.w a xs ep)) (h2 : xs.length ≤ LINE) (y : ¬ Y a) (z : n = 0 → ¬ Z a) (e : Ents U.K U Y Z H (n - 1) xs kvs vs) :
    DR U Y Z H n (.ref a) (.dict kvs) := by
  obtain ⟨e1, e2, e3, e4⟩ := e.split
  have q : DR U Y Z H n (.ref a) (.dict ((kvs.map (·.1)).zip (kvs.map (·.2)))) := .dct ⟨xs, ep, h1, h2, e1, e2⟩ y z (by simp) e3
  rwa [zip_split] at q

/-! ### the rules -/
section
variable {X : Cx} {U : Wd} (hP : X.prog = U.P) (hW : X.w = U.w) (hK : X.K = U.K) (hu : X.A.units + 64 < cLine)
theorem nroom {A : Around} (hu : A.units + 64 < cLine) : (nestedKind P w).room A.in1 := by
  show A.units + 1 + 8 < cLine
  omega
/-- y in d -/
def rInK (U : Wd) : R2 := fun x y H Q => ∃ (b a : Addr) (k : D) (kvs : List (D × D)) (Y : Addr → Prop) (n : Nat), x = .ref b ∧ kOk k = true ∧ PlR U.K H (.ref b) k ∧ y = .ref a ∧ DR U Y NoZ H n (.ref a) (.dict kvs) ∧ Q (.bl (dFind kvs k).isSome) H
include hP hW hK hu
theorem op_inK : OpR X (compareOp .In) (rInK U) := by
  intro pins s σ H x y v u Q I rx ry h
  obtain ⟨b, a, k, kvs, Y, n, rfl, hk, pb, rfl, hd, q⟩ := h
  cases rx; cases ry
  obtain ⟨a', xs, vs, ep, e, ha, hl, _, _, he⟩ := hd.dct_inv
  cases e
  rw [← hP, ← hW] at ha
  rw [← hK] at pb he
  obtain ⟨h1, h2⟩ := dict_at I ha he.split.1
  refine wpAny_in_heap (nroom hu) (key_is I hk pb) h1 h2 ?_
  have q2 : (atKey xs (keyOf k)).isSome = (dFind kvs k).isSome := by
    rcases he.find (k := k) with ⟨e1, e2⟩ | ⟨d, b', u', v', e1, e2, _⟩
    · rw [e1, e2]; rfl
    · rw [e1, e2]; rfl
  rw [q2]
  exact ⟨.bl _, H, I.tok _, rfl, q⟩
def rNotInK (U : Wd) : R2 := fun x y H Q => ∃ (b a : Addr) (k : D) (kvs : List (D × D)) (Y : Addr → Prop) (n : Nat), x = .ref b ∧ kOk k = true ∧ PlR U.K H (.ref b) k ∧ y = .ref a ∧ DR U Y NoZ H n (.ref a) (.dict kvs) ∧ Q (.bl (!(dFind kvs k).isSome)) H
theorem op_notInK : OpR X (compareOp .NotIn) (rNotInK U) := by
  intro pins s σ H x y v u Q I rx ry h
  obtain ⟨b, a, k, kvs, Y, n, rfl, hk, pb, rfl, hd, q⟩ := h
  cases rx; cases ry
  obtain ⟨a', xs, vs, ep, e, ha, hl, _, _, he⟩ := hd.dct_inv
  cases e
  rw [← hP, ← hW] at ha
  rw [← hK] at pb he
  obtain ⟨h1, h2⟩ := dict_at I ha he.split.1
  refine wpAny_notIn_heap (nroom hu) (key_is I hk pb) h1 h2 ?_
  have q2 : (atKey xs (keyOf k)).isSome = (dFind kvs k).isSome := by
    rcases he.find (k := k) with ⟨e1, e2⟩ | ⟨d, b', u', v', e1, e2, _⟩
    · rw [e1, e2]; rfl
    · rw [e1, e2]; rfl
  rw [q2]
  exact ⟨.bl _, H, I.tok _, rfl, q⟩
/-- d[k] -/
def rIxK (U : Wd) : R2 := fun x y H Q => ∃ (b a : Addr) (k d : D) (kvs : List (D × D)) (Y Z : Addr → Prop) (n : Nat), y = .ref b ∧ kOk k = true ∧ PlR U.K H (.ref b) k ∧ x = .ref a ∧ DR U Y Z H n (.ref a) (.dict kvs) ∧ dFind kvs k = some d ∧ ∀ v, DR U Y Z H (n - 1) v d → Q v H
theorem ix_dictK : IxR X (rIxK U) := by
  intro value slice pins s σ H x y v u Q I rx ry h hs
  obtain ⟨b, a, k, d, kvs, Y, Z, n, rfl, hk, pb, rfl, hd, hf, q⟩ := h
  cases rx; cases ry
  obtain ⟨a', xs, vs, ep, e, ha, hl, _, _, he⟩ := hd.dct_inv
  cases e
  rw [← hP, ← hW] at ha
  have he' := he
  rw [← hK] at pb he
  obtain ⟨h1, h2⟩ := dict_at I ha he.split.1
  rcases he.find (k := k) with ⟨e1, e2⟩ | ⟨d', b', u', v', e1, e2, rv, r⟩
  · rw [e1] at hf; cases hf
  · rw [e1] at hf; cases hf
    refine tail_any h2.typeIs PySem.F.slot_dict_getitem.lookup ?_ hs
    exact wpAny_getItem_heap (nroom hu) (key_is I hk pb) h2 e2 ⟨v', H, I.tok _, rv, q _ r⟩
/-- d[k] = v -/
def rSetK (U : Wd) : TSet := fun o i v H Q => ∃ (a b : Addr) (k : D) (xs : List (NestedKey × Addr × Value)) (ks : List D) (ep : Nat), o = .ref a ∧ i = .ref b ∧ kOk k = true ∧ PlR U.K H (.ref b) k ∧ H a = some (dictO U.P U.w a xs ep) ∧ Paired (KeyAt U.K H) xs ks ∧ xs.length < LINE ∧
  ∀ u ep', RelV v u → Q (upd H a (dictO U.P U.w a (storedH xs (keyOf k) b u) ep'))
theorem set_dictK : PSet X (rSetK U) := by
  intro pins s σ H o i v ov iv u Q I ro ri rv h
  obtain ⟨a, b, k, xs, ks, ep, rfl, rfl, hk, pb, ha, hks, hl, q⟩ := h
  cases ro; cases ri
  rw [← hP, ← hW] at ha q
  rw [← hK] at pb hks
  obtain ⟨h1, h2⟩ := dict_at I ha hks
  have hz : xs.length ≤ sizeLine := sizeL (Nat.le_of_lt hl)
  refine wpAny_setItem_heap (nroom hu) (key_is I hk pb) h2 (fun h' hd hs => ?_) hz
  obtain ⟨ep', ok⟩ := obj_of (H := fun ep' => upd H a (dictO X.prog X.w a (storedH xs (keyOf k) b u) ep')) h1 hd
  refine ⟨_, ?_, q u ep' rv⟩
  refine I.write (x := a) (e := a) (by rw [ha]; trivial) (.inl rfl) (fun c o hc e => (hs.2 c hc).trans e) ?_ ok
  obtain ⟨o, _, _, e, _⟩ := hd
  exact ⟨o, e⟩
end
end TW
set_option maxRecDepth 20000
/-! TwH: comparisons, tests, subscripts, slices. -/
namespace TW
open PySem PySem.Spec PyProof.Rows L2

section
variable {X : Cx}
/-- x in t, t a tuple of data -/
def rInTD (K : PySem.W.Frag) : R2 := fun x y H Q => ∃ d ds, Dp K H x d ∧ Dp K H y (.tuple ds) ∧ SeqAt.shaped d = true ∧ SeqAt.shaped (.tuple ds) = true ∧ Q (.bl (ds.any fun z => PyData.eqv z d)) H
def rNotInTD (K : PySem.W.Frag) : R2 := fun x y H Q => ∃ d ds, Dp K H x d ∧ Dp K H y (.tuple ds) ∧ SeqAt.shaped d = true ∧ SeqAt.shaped (.tuple ds) = true ∧ Q (.bl (!ds.any fun z => PyData.eqv z d)) H
theorem op_inTD (hu : X.A.units + 65 < cLine) : OpR X (compareOp .In) (rInTD X.K) := by
  intro pins s σ H x y v u Q I rx ry h
  obtain ⟨d, ds, hd, he, sd, se, q⟩ := h
  obtain ⟨as, r1⟩ := hd.reads I _ _ _ rx
  obtain ⟨bs, r2⟩ := he.reads I _ _ _ ry
  exact SeqAt.in_tuple_reads r2 r1 (SeqAt.canLay_of_shaped se) (SeqAt.canLay_of_shaped sd) (room_in_shaped sd hu) ⟨.bl _, H, I, rfl, q⟩
theorem op_notInTD (hu : X.A.units + 65 < cLine) : OpR X (compareOp .NotIn) (rNotInTD X.K) := by
  intro pins s σ H x y v u Q I rx ry h
  obtain ⟨d, ds, hd, he, sd, se, q⟩ := h
  obtain ⟨as, r1⟩ := hd.reads I _ _ _ rx
  obtain ⟨bs, r2⟩ := he.reads I _ _ _ ry
  exact SeqAt.notIn_tuple_reads r2 r1 (SeqAt.canLay_of_shaped se) (SeqAt.canLay_of_shaped sd) (room_in_shaped sd hu) ⟨.bl _, H, I, rfl, q⟩
end

/-- a comparison of the small language has a rule -/
def CmpS (U : Wd) (X : Cx) (o : Co) (op : CmpOp) : Prop := ∃ r : R2, OpR X (compareOp op) r ∧
  ∀ (Y : Addr → Prop) (H : Hp) (u v : V) (x y : D) (res : Bool) (Q : VK), DR U Y NoZ H 0 u x → DR U Y NoZ H 0 v y → cop o x y = some res → Q (.bl res) H → r u v H Q
section
variable {U : Wd} {G : Cfg} {C : Ctx} {k : Nat} {X : Cx}
theorem units65 (ok : XOk U G C k X) : X.A.units + 65 < cLine := by
  have h := ok.rm.un
  omega
theorem cmpI {o : Co} {op : CmpOp} {g : Int → Int → Bool} (ho : OpR X (compareOp op) (rI0 fun i j => .bl (g i j))) (hc : ∀ x y, cop o x y = iCmp g x y) : CmpS U X o op := by
  refine ⟨_, ho, fun Y H u v x y res Q du dv e q => ?_⟩
  rw [hc] at e
  cases x <;> cases y <;> simp only [iCmp] at e <;> try cases e
  cases du.int_inv; cases dv.int_inv
  exact ⟨_, _, rfl, rfl, q⟩
theorem dIn_cases {x y : D} {res : Bool} (e : dIn x y = some res) : (∃ ys, (y = .list ys) ∧ shp x = true ∧ shp (.list ys) = true ∧ res = ys.any fun z => PyData.eqv z x) ∨
    (∃ ys, y = .tuple ys ∧ shp x = true ∧ shp (.tuple ys) = true ∧ res = ys.any fun z => PyData.eqv z x) ∨ ∃ kvs, y = .dict kvs ∧ kOk x = true ∧ res = (dFind kvs x).isSome := by
  cases y <;> simp only [dIn] at e <;> try cases e
  · split at e
    · rename_i l
      simp only [Bool.and_eq_true] at l
      cases e
      exact .inl ⟨_, rfl, l.1, l.2, rfl⟩
    · cases e
  · split at e
    · rename_i l
      simp only [Bool.and_eq_true] at l
      cases e
      exact .inr (.inl ⟨_, rfl, l.1, l.2, rfl⟩)
    · cases e
  · split at e
    · rename_i l
      cases e
      exact .inr (.inr ⟨_, rfl, l, rfl⟩)
    · cases e
theorem dr_none {Y Z : Addr → Prop} {H : Hp} {n : Nat} {v : V} {d : D} (h : DR U Y Z H n v d) : decide (v = .non) = isNone d := by cases h <;> rfl
theorem cmp_all (ok : XOk U G C k X) : ∀ {o : Co} {op : CmpOp}, cmB o op = true → CmpS U X o op := by
  have h65 := units65 ok
  have h64 : X.A.units + 64 < cLine := by omega
  intro o op h
  cases o <;> cases op <;> simp only [cmB] at h <;> try cases h
  · refine ⟨_, op_eqD h64, fun Y H u v x y res Q du dv e q => ?_⟩
    simp only [cop] at e
    split at e
    · rename_i l
      simp only [Bool.and_eq_true] at l
      cases e
      exact ⟨x, y, DR.dp _ _ _ (shp_lay l.1) du, DR.dp _ _ _ (shp_lay l.2) dv, l.1, l.2, q⟩
    · cases e
  · refine ⟨_, op_neD h64, fun Y H u v x y res Q du dv e q => ?_⟩
    simp only [cop] at e
    split at e
    · rename_i l
      simp only [Bool.and_eq_true] at l
      cases e
      exact ⟨x, y, DR.dp _ _ _ (shp_lay l.1) du, DR.dp _ _ _ (shp_lay l.2) dv, l.1, l.2, q⟩
    · cases e
  · exact cmpI op_lt fun _ _ => rfl
  · exact cmpI op_le fun _ _ => rfl
  · exact cmpI op_gt fun _ _ => rfl
  · exact cmpI op_ge fun _ _ => rfl
  · refine ⟨_, (op_inD h65).or ((op_inTD h65).or (op_inK (U := U) ok.hP ok.hW ok.hK h64)), fun Y H u v x y res Q du dv e q => ?_⟩
    rcases dIn_cases e with ⟨ys, rfl, l1, l2, rfl⟩ | ⟨ys, rfl, l1, l2, rfl⟩ | ⟨kvs, rfl, l, rfl⟩
    · exact .inl ⟨x, _, DR.dp _ _ _ (shp_lay l1) du, DR.dp _ _ _ (shp_lay l2) dv, l1, l2, q⟩
    · exact .inr (.inl ⟨x, _, DR.dp _ _ _ (shp_lay l1) du, DR.dp _ _ _ (shp_lay l2) dv, l1, l2, q⟩)
    · obtain ⟨b, rfl, pb⟩ := kOk_pl (K := U.K) l du
      obtain ⟨a, _, _, _, rfl, _⟩ := dv.dct_inv
      exact .inr (.inr ⟨b, a, x, _, Y, 0, rfl, l, pb, rfl, dv, q⟩)
  · refine ⟨_, (op_notInD h65).or ((op_notInTD h65).or (op_notInK (U := U) ok.hP ok.hW ok.hK h64)), fun Y H u v x y res Q du dv e q => ?_⟩
    simp only [cop] at e
    obtain ⟨res', e2, rfl⟩ := Option.map_eq_some_iff.mp e
    rcases dIn_cases e2 with ⟨ys, rfl, l1, l2, rfl⟩ | ⟨ys, rfl, l1, l2, rfl⟩ | ⟨kvs, rfl, l, rfl⟩
    · exact .inl ⟨x, _, DR.dp _ _ _ (shp_lay l1) du, DR.dp _ _ _ (shp_lay l2) dv, l1, l2, q⟩
    · exact .inr (.inl ⟨x, _, DR.dp _ _ _ (shp_lay l1) du, DR.dp _ _ _ (shp_lay l2) dv, l1, l2, q⟩)
    · obtain ⟨b, rfl, pb⟩ := kOk_pl (K := U.K) l du
      obtain ⟨a, _, _, _, rfl, _⟩ := dv.dct_inv
      exact .inr (.inr ⟨b, a, x, _, Y, 0, rfl, l, pb, rfl, dv, q⟩)
  · refine ⟨_, op_isN, fun Y H u v x y res Q du dv e q => ?_⟩
    simp only [cop] at e
    split at e
    · rename_i l
      cases e
      rw [← dr_none dv] at l
      refine ⟨of_decide_eq_true l, ?_⟩
      rw [dr_none du]
      exact q
    · cases e
  · refine ⟨_, op_notN, fun Y H u v x y res Q du dv e q => ?_⟩
    simp only [cop] at e
    split at e
    · rename_i l
      cases e
      rw [← dr_none dv] at l
      refine ⟨of_decide_eq_true l, ?_⟩
      rw [dr_none du]
      exact q
    · cases e
theorem notSet_marks {op : CmpOp} {e : Expr} (h : notSet e = true) : behindInMarks op e = false := by
  cases e <;> first
    | rfl
    | exact absurd h (by simp [notSet])

variable {a b c : Ex} {pos : Pos}
/-- what a piece is to have: a value, a test (where it may be one), a test within and, or -/
structure Sound (U : Wd) (G : Cfg) (C : Ctx) (X : Cx) (pe : Ex) (e : Expr) : Prop where
  val : PE X e (tE U G C pe)
  test : tst pe = true → PT X e (tTest (tE U G C pe))
  whole : (∃ op vs p, e = .BoolOp op vs p) → tst pe = true → PW X e (tTest (tE U G C pe))
theorem Sound.plain {pe : Ex} {e : Expr} (h : PE X e (tE U G C pe)) (he : ∀ whole, isTrue e X.env whole = (do let v ← whole; standAt e.pos; holding [v] (truthy v))) (hb : ∀ op vs p, e ≠ .BoolOp op vs p) : Sound U G C X pe e :=
  ⟨h, fun _ => pt_val h he, fun ⟨_, _, _, q⟩ => absurd q (hb _ _ _)⟩
theorem s_cmp (ok : XOk U G C k X) {o : Co} {op : CmpOp} {xe ye : Expr} (h : cmB o op = true) (hs : notSet ye = true) (ha : PE X xe (tE U G C a)) (hb : PE X ye (tE U G C b)) : Sound U G C X (.cmp o a b) (.Compare xe [op] [ye] pos) := by
  obtain ⟨r, hr, hq⟩ := cmp_all ok h
  have key : ∀ σ H Q, tE U G C (.cmp o a b) σ H Q → tOp r (tE U G C a) (tE U G C b) σ H Q := by
    intro σ H Q q
    obtain ⟨sa, Z, n, ρ, S, d, S', pre, av, ev, q⟩ := q
    simp only [evE] at ev
    split at ev
    · rename_i x S1 e1
      split at ev
      · rename_i y S2 e2
        obtain ⟨res, e3, e4⟩ := Option.map_eq_some_iff.mp ev
        cases e4
        exact any2 pre e1 e2 fun u v H2 ex sr du dv => hq _ _ _ _ _ _ _ _ du dv e3 (q _ _ (.flat rfl ex sr (.bl _)))
      · cases ev
    · cases ev
  refine ⟨(pe_cmpR hr ha hb (notSet_marks hs)).imp key, fun _ => (pt_cmpR hr ha hb (notSet_marks hs)).imp fun σ H Q q => key _ _ _ q, fun ⟨_, _, _, q⟩ => by cases q⟩
theorem s_chain (ok : XOk U G C k X) {o o' : Co} {op op' : CmpOp} {xe ye ze : Expr} (h : cmB o op = true) (h' : cmB o' op' = true) (hs : notSet ze = true) (ha : PE X xe (tE U G C a)) (hb : PE X ye (tE U G C b)) (hc : PE X ze (tE U G C c)) :
    Sound U G C X (.chain o o' a b c) (.Compare xe [op, op'] [ye, ze] pos) := by
  obtain ⟨r, hr, hq⟩ := cmp_all ok h
  obtain ⟨r', hr', hq'⟩ := cmp_all ok h'
  have hm : lastMarks [op, op'] [ye, ze] = false := notSet_marks hs
  have key : ∀ σ H Q, tE U G C (.chain o o' a b c) σ H Q → tChain r r' (tE U G C a) (tE U G C b) (tE U G C c) σ H Q := by
    intro σ H Q q
    obtain ⟨sa, Z, n, ρ, S, d, S', pre, av, ev, q⟩ := q
    simp only [evE] at ev
    split at ev
    · rename_i x S1 e1
      split at ev
      · rename_i y S2 e2
        refine any2 pre e1 e2 fun u v H2 ex sr du dv => ?_
        split at ev
        · rename_i e3
          split at ev
          · rename_i z S3 e4
            obtain ⟨res, e5, e6⟩ := Option.map_eq_some_iff.mp ev
            cases e6
            refine hq _ _ _ _ _ _ _ _ du dv e3 ⟨true, rfl, ?_⟩
            rw [if_pos rfl]
            refine any1 (pre.step ex sr) e4 fun w H4 ex4 sr4 dw => ?_
            exact hq' _ _ _ _ _ _ _ _ (DR.ext ex4 _ _ _ dv) dw e5 (q _ _ (.flat rfl (ex.trans ex4) sr4 (.bl _)))
          · cases ev
        · rename_i e3
          cases ev
          refine hq _ _ _ _ _ _ _ _ du dv e3 ⟨false, rfl, ?_⟩
          rw [if_neg Bool.false_ne_true]
          exact q _ _ (.flat rfl ex sr (.bl _))
        · cases ev
      · cases ev
    · cases ev
  refine ⟨(pe_chain hr hr' ha hb hc hm).imp key, fun _ => (pt_chain hr hr' ha hb hc hm).imp fun σ H Q q => key _ _ _ q, fun ⟨_, _, _, q⟩ => by cases q⟩

/-! ### and, or, not, if -/
theorem s_one {op : BoolOp} {xe : Expr} (ha : Sound U G C X a xe) : Sound U G C X (.one a) (.BoolOp op [xe] pos) := by
  have key : ∀ σ H Q, tE U G C (.one a) σ H Q → tE U G C a σ H Q := by
    intro σ H Q q
    obtain ⟨sa, Z, n, ρ, S, d, S', pre, av, ev, q⟩ := q
    exact ⟨sa, Z, n, ρ, S, d, S', pre, av, ev, fun v H' p => q v H' ⟨p.ext, p.sr, p.dr, (Frs.zero p.dr)⟩⟩
  have w : tst (.one a) = true → PW X (.BoolOp op [xe] pos) (tTest (tE U G C (.one a))) := fun ht => by
    cases op with
    | And => exact (pw_and1 (ha.test ht)).imp fun σ H Q q => key _ _ _ q
    | Or => exact (pw_or1 (ha.test ht)).imp fun σ H Q q => key _ _ _ q
  exact ⟨(pe_one ha.val).imp key, fun ht => (w ht).pt, fun _ ht => w ht⟩
theorem s_and {xe ye : Expr} {r : List Expr} (ha : Sound U G C X a xe) (hb : Sound U G C X b (.BoolOp .And (ye :: r) pos)) : Sound U G C X (.and a b) (.BoolOp .And (xe :: ye :: r) pos) := by
  have key : ∀ σ H Q, tE U G C (.and a b) σ H Q → tAndV (tE U G C a) (tE U G C b) σ H Q := by
    intro σ H Q q
    obtain ⟨sa, Z, n, ρ, S, d, S', pre, av, ev, q⟩ := q
    simp only [evE] at ev
    split at ev
    · rename_i S1 e1
      refine any1 pre e1 fun u H2 ex sr du => ?_
      cases du.bl_inv
      refine ⟨true, rfl, ?_⟩
      rw [if_pos rfl]
      refine ⟨sa, Z, n, ρ, S1, d, S', pre.step ex sr, av.step ex, ev, fun v H' p => q v H' ?_⟩
      exact .zero (ex.trans p.ext) p.sr p.dr
    · rename_i S1 e1
      cases ev
      refine any1 pre e1 fun u H2 ex sr du => ?_
      cases du.bl_inv
      refine ⟨false, rfl, ?_⟩
      rw [if_neg Bool.false_ne_true]
      exact q _ _ (.zero ex sr (.bl _))
    · cases ev
  have w : tst (.and a b) = true → PW X (.BoolOp .And (xe :: ye :: r) pos) (tTest (tE U G C (.and a b))) := fun ht => by
    simp only [tst, Bool.and_eq_true] at ht
    refine (pw_and (ha.test ht.1) (hb.whole ⟨_, _, _, rfl⟩ ht.2)).imp fun σ H Q q => ?_
    obtain ⟨sa, Z, n, ρ, S, d, S', pre, av, ev, q⟩ := q
    simp only [evE] at ev
    split at ev
    · rename_i S1 e1
      refine any1 pre e1 fun u H2 ex sr du => ?_
      cases du.bl_inv
      refine ⟨true, rfl, ?_⟩
      dsimp only
      rw [if_pos rfl]
      refine ⟨sa, Z, n, ρ, S1, d, S', pre.step ex sr, av.step ex, ev, fun v H' p => q v H' ?_⟩
      exact .zero (ex.trans p.ext) p.sr p.dr
    · rename_i S1 e1
      cases ev
      refine any1 pre e1 fun u H2 ex sr du => ?_
      cases du.bl_inv
      refine ⟨false, rfl, ?_⟩
      dsimp only
      rw [if_neg Bool.false_ne_true]
      obtain ⟨k', e', q'⟩ := q _ _ (.zero ex sr (.bl _))
      cases e'
      exact q'
    · cases ev
  exact ⟨(pe_and ha.val hb.val).imp key, fun ht => (w ht).pt, fun _ ht => w ht⟩
theorem s_or {xe ye : Expr} {r : List Expr} (ha : Sound U G C X a xe) (hb : Sound U G C X b (.BoolOp .Or (ye :: r) pos)) : Sound U G C X (.or a b) (.BoolOp .Or (xe :: ye :: r) pos) := by
  have key : ∀ σ H Q, tE U G C (.or a b) σ H Q → tOrV (tE U G C a) (tE U G C b) σ H Q := by
    intro σ H Q q
    obtain ⟨sa, Z, n, ρ, S, d, S', pre, av, ev, q⟩ := q
    simp only [evE] at ev
    split at ev
    · rename_i S1 e1
      refine any1 pre e1 fun u H2 ex sr du => ?_
      cases du.bl_inv
      refine ⟨false, rfl, ?_⟩
      rw [if_neg Bool.false_ne_true]
      refine ⟨sa, Z, n, ρ, S1, d, S', pre.step ex sr, av.step ex, ev, fun v H' p => q v H' ?_⟩
      exact .zero (ex.trans p.ext) p.sr p.dr
    · rename_i S1 e1
      cases ev
      refine any1 pre e1 fun u H2 ex sr du => ?_
      cases du.bl_inv
      refine ⟨true, rfl, ?_⟩
      rw [if_pos rfl]
      exact q _ _ (.zero ex sr (.bl _))
    · cases ev
  have w : tst (.or a b) = true → PW X (.BoolOp .Or (xe :: ye :: r) pos) (tTest (tE U G C (.or a b))) := fun ht => by
    simp only [tst, Bool.and_eq_true] at ht
    refine (pw_or (ha.test ht.1) (hb.whole ⟨_, _, _, rfl⟩ ht.2)).imp fun σ H Q q => ?_
    obtain ⟨sa, Z, n, ρ, S, d, S', pre, av, ev, q⟩ := q
    simp only [evE] at ev
    split at ev
    · rename_i S1 e1
      refine any1 pre e1 fun u H2 ex sr du => ?_
      cases du.bl_inv
      refine ⟨false, rfl, ?_⟩
      dsimp only
      rw [if_neg Bool.false_ne_true]
      refine ⟨sa, Z, n, ρ, S1, d, S', pre.step ex sr, av.step ex, ev, fun v H' p => q v H' ?_⟩
      exact .zero (ex.trans p.ext) p.sr p.dr
    · rename_i S1 e1
      cases ev
      refine any1 pre e1 fun u H2 ex sr du => ?_
      cases du.bl_inv
      refine ⟨true, rfl, ?_⟩
      dsimp only
      rw [if_pos rfl]
      obtain ⟨k', e', q'⟩ := q _ _ (.zero ex sr (.bl _))
      cases e'
      exact q'
    · cases ev
  exact ⟨(pe_or ha.val hb.val).imp key, fun ht => (w ht).pt, fun _ ht => w ht⟩
theorem s_not {xe : Expr} (ha : Sound U G C X a xe) : Sound U G C X (.not a) (.UnaryOp .Not xe pos) := by
  have key : ∀ σ H Q, tE U G C (.not a) σ H Q → tNotV (tE U G C a) σ H Q := by
    intro σ H Q q
    obtain ⟨sa, Z, n, ρ, S, d, S', pre, av, ev, q⟩ := q
    simp only [evE] at ev
    split at ev
    · rename_i b S1 e1
      cases ev
      refine any1 pre e1 fun u H2 ex sr du => ?_
      cases du.bl_inv
      exact ⟨b, rfl, q _ _ (.flat rfl ex sr (.bl _))⟩
    · cases ev
  refine ⟨(pe_not ha.val).imp key, fun ht => (pt_not (ha.test (by simpa [tst] using ht))).imp fun σ H Q q => ?_, fun ⟨_, _, _, q⟩ => by cases q⟩
  obtain ⟨sa, Z, n, ρ, S, d, S', pre, av, ev, q⟩ := q
  simp only [evE] at ev
  split at ev
  · rename_i b S1 e1
    cases ev
    refine any1 pre e1 fun u H2 ex sr du => ?_
    cases du.bl_inv
    obtain ⟨k', e', q'⟩ := q _ _ (.flat rfl ex sr (.bl _))
    cases e'
    exact ⟨b, rfl, q'⟩
  · cases ev
theorem s_ife {xe ye ze : Expr} (hc : Sound U G C X c xe) (ht : tst c = true) (ha : PE X ye (tE U G C a)) (hb : PE X ze (tE U G C b)) : Sound U G C X (.ife c a b) (.IfExp xe ye ze pos) := by
  refine ⟨(pe_ifExp (hc.test ht) ha hb).imp fun σ H Q q => ?_, fun q => by simp [tst] at q, fun ⟨_, _, _, q⟩ => by cases q⟩
  obtain ⟨sa, Z, n, ρ, S, d, S', pre, av, ev, q⟩ := q
  simp only [evE] at ev
  split at ev
  · rename_i S1 e1
    refine any1 pre e1 fun u H2 ex sr du => ?_
    cases du.bl_inv
    refine ⟨true, rfl, ?_⟩
    dsimp only
    rw [if_pos rfl]
    exact ⟨sa, Z, n, ρ, S1, d, S', pre.step ex sr, av.left.step ex, ev, fun v H' p => q v H' (.zero (ex.trans p.ext) p.sr p.dr)⟩
  · rename_i S1 e1
    refine any1 pre e1 fun u H2 ex sr du => ?_
    cases du.bl_inv
    refine ⟨false, rfl, ?_⟩
    dsimp only
    rw [if_neg Bool.false_ne_true]
    exact ⟨sa, Z, n, ρ, S1, d, S', pre.step ex sr, av.right.step ex, ev, fun v H' p => q v H' (.zero (ex.trans p.ext) p.sr p.dr)⟩
  · cases ev
end
end TW
set_option maxRecDepth 20000
/-! TwI: subscripts, slices, built-ins called, the table's defs called. -/
namespace TW
open PySem PySem.Spec PyProof.Rows L2

/-! ### sorting rows of ints by their code -/
theorem code_inj {B : Int} : ∀ {r q : List Int}, r.length = q.length → TS.Bd B r → TS.Bd B q → TS.code B r = TS.code B q → r = q
  | [], [], _, _, _, _ => rfl
  | [], _ :: _, h, _, _, _ => by simp at h
  | _ :: _, [], h, _, _, _ => by simp at h
  | d :: r, e :: q, h, hr, hq, hc => by
    have hl : r.length = q.length := by simpa using h
    rcases Int.lt_trichotomy d e with z | z | z
    · have := TS.code_lt hl hr.tail hq.tail z
      omega
    · subst z
      have e1 : TS.code B r = TS.code B q := by
        have h1 := (TS.code_same (B := B) (d := d) hl).mpr
        have h2 := (TS.code_same (B := B) (d := d) hl.symm).mpr
        rcases Int.lt_trichotomy (TS.code B r) (TS.code B q) with y | y | y
        · have := h1 y
          omega
        · exact y
        · have := h2 y
          omega
      rw [code_inj hl hr.tail hq.tail e1]
    · have := TS.code_lt hl.symm hq.tail hr.tail z
      omega
theorem insI_perm (x : List Int) : ∀ l : List (List Int), (insI x l).Perm (x :: l)
  | [] => .refl _
  | y :: r => by
    unfold insI
    split
    · exact .refl _
    · exact ((insI_perm x r).cons y).trans (.swap x y r)
theorem sortI_perm : ∀ l : List (List Int), (sortI l).Perm l
  | [] => .refl _
  | x :: r => (insI_perm x (sortI r)).trans ((sortI_perm r).cons x)
def leC (x y : List Int) : Prop := TS.code 1000 x ≤ TS.code 1000 y
theorem insI_sorted (x : List Int) : ∀ l : List (List Int), l.Pairwise leC → (insI x l).Pairwise leC
  | [], _ => by simp [insI]
  | y :: r, h => by
    unfold insI
    rw [List.pairwise_cons] at h
    split
    · rename_i q
      have q : TS.code 1000 x ≤ TS.code 1000 y := by simpa [leI] using q
      refine List.pairwise_cons.mpr ⟨fun z hz => ?_, List.pairwise_cons.mpr h⟩
      rcases List.mem_cons.mp hz with rfl | hz
      · exact q
      · exact Int.le_trans q (h.1 z hz)
    · rename_i q
      have q : TS.code 1000 y < TS.code 1000 x := by simpa [leI] using q
      refine List.pairwise_cons.mpr ⟨fun z hz => ?_, insI_sorted x r h.2⟩
      rcases List.mem_cons.mp ((insI_perm x r).mem_iff.mp hz) with rfl | hz
      · exact Int.le_of_lt q
      · exact h.1 z hz
theorem sortI_sorted : ∀ l : List (List Int), (sortI l).Pairwise leC
  | [] => .nil
  | x :: r => insI_sorted x _ (sortI_sorted r)
theorem rowInts_of : ∀ {xs : List D} {rows : List (List Int)}, rowInts xs = some rows → xs = rows.map ofInts := by
  have intz : ∀ {xs : List D} {ns : List Int}, tupInts xs = some ns → xs = ns.map .int := by
    intro xs
    induction xs with
    | nil => intro ns h; simp only [tupInts] at h; cases h; rfl
    | cons x r ih =>
      intro ns h
      cases x <;> simp only [tupInts] at h <;> try cases h
      obtain ⟨m, e, rfl⟩ := Option.map_eq_some_iff.mp h
      rw [ih e]
      rfl
  intro xs
  induction xs with
  | nil => intro ns h; simp only [rowInts] at h; cases h; rfl
  | cons x r ih =>
    intro rows h
    cases x <;> simp only [rowInts] at h <;> try cases h
    split at h
    · rename_i a b e1 e2
      cases h
      rw [ih e2, intz e1]
      rfl
    · cases h

def rowOf : D → List Int
  | .tuple xs => (tupInts xs).getD []
  | _ => []
theorem tupInts_map : ∀ ns : List Int, tupInts (ns.map .int) = some ns
  | [] => rfl
  | x :: r => by simp [tupInts, tupInts_map r]
theorem rowOf_ofInts (r : List Int) : rowOf (ofInts r) = r := by simp [rowOf, ofInts, tupInts_map]
theorem rows_perm {a b : List (List Int)} (h : (a.map ofInts).Perm (b.map ofInts)) : a.Perm b := by
  have q := h.map rowOf
  rw [List.map_map, List.map_map] at q
  have e : ∀ l : List (List Int), l.map (rowOf ∘ ofInts) = l := fun l => by
    rw [show rowOf ∘ ofInts = id from funext rowOf_ofInts, List.map_id]
  rwa [e, e] at q
section
variable {U : Wd} {Y Z : Addr → Prop} {H : Hp} {n : Nat}
theorem DRs.perm {us vs : List V} (p : us.Perm vs) : ∀ {ds : List D}, DRs U Y Z H n vs ds → ∃ es, es.Perm ds ∧ DRs U Y Z H n us es := by
  induction p with
  | nil => intro ds h; exact ⟨ds, .refl _, h⟩
  | cons x _ ih =>
    intro ds h
    cases h with
    | cons h1 h2 =>
      obtain ⟨es, p, r⟩ := ih h2
      exact ⟨_ :: es, p.cons _, .cons h1 r⟩
  | swap x y l =>
    intro ds h
    cases h with
    | cons h1 h2 =>
      cases h2 with
      | cons h2 h3 => exact ⟨_, .swap _ _ _, .cons h2 (.cons h1 h3)⟩
  | trans _ _ i1 i2 =>
    intro ds h
    obtain ⟨es, p, r⟩ := i2 h
    obtain ⟨fs, p2, r2⟩ := i1 r
    exact ⟨fs, p2.trans p, r2⟩
theorem DR.ofInts {K : PySem.W.Frag} {v : V} {ns : List Int} (h : DR U Y Z H n v (ofInts ns)) : TupI K H v ns := by
  obtain ⟨a, vs, rfl, ha, ll, r⟩ := h.tup_inv
  have e : vs = ns.map V.int := by
    clear ha h ll
    induction ns generalizing vs with
    | nil => cases r; rfl
    | cons x ns ih =>
      cases r with
      | cons h1 h2 =>
        cases h1
        rw [ih _ h2]
        rfl
  rw [e] at ha
  exact ⟨a, rfl, .inl (.inl ha)⟩
end
section
variable {X : Cx} {U : Wd} {K : PySem.W.Frag}
def rSortA (K : PySem.W.Frag) : List V → Hp → VK → Prop := fun vs H Q => ∃ d B, 1 ≤ d ∧ rSortU K d B vs H Q
theorem call_sortA : CallR X (.builtin "sorted") (rSortA X.K) := by
  intro pins s σ H xs us Q I r h
  obtain ⟨d, B, hd, h⟩ := h
  exact cr_sortT hd pins s σ H xs us Q I r h
/-- sorted, by data -/
theorem sort_reads {Y Z : Addr → Prop} {H : Hp} {n : Nat} {a : Addr} {vs : List V} {xs ys : List D} {Q : VK} (ha : H a = some (.lst vs)) (r : DRs U Y Z H n vs xs) (e : dSort xs = some ys)
    (q : ∀ us p, H p = none → DRs U Y Z H n us ys → ys.length = xs.length → Q (.ref p) (upd H p (.lst us))) : rSortA K [.ref a] H Q := by
  unfold dSort at e
  split at e
  · rename_i rows e1
    have hx := rowInts_of e1
    subst hx
    split at e
    · rename_i hc
      simp only [Bool.and_eq_true, decide_eq_true_eq] at hc
      cases e
      obtain ⟨h64, hok⟩ := hc
      generalize hd : (rows.head?.getD []).length = d at hok
      unfold rowsOk at hok
      simp only [Bool.and_eq_true, decide_eq_true_eq, List.all_eq_true, beq_iff_eq] at hok
      obtain ⟨hd1, hall⟩ := hok
      have bd : ∀ row ∈ rows, row.length = d ∧ TS.Bd 1000 row := fun row hr => ⟨(hall row hr).1, fun m hm => (hall row hr).2 m hm⟩
      refine ⟨d, 1000, hd1, a, vs, rfl, .inl (.inl ha), by rw [r.length, List.length_map]; exact h64, fun x hx => ?_, fun us p hp hs np => ?_⟩
      · obtain ⟨i, hi, rfl⟩ := List.getElem_of_mem hx
        obtain ⟨dd, h1, h2⟩ := r.get' (i := i) (v := vs[i]) (by simp [hi])
        rw [List.getElem?_map] at h1
        obtain ⟨row, h3, rfl⟩ := Option.map_eq_some_iff.mp h1
        obtain ⟨b1, b2⟩ := bd row (List.mem_of_getElem? h3)
        exact ⟨row, h2.ofInts, b1, b2⟩
      · obtain ⟨es, pe, re⟩ := r.perm hp
        obtain ⟨rows', rfl, pr⟩ : ∃ rows' : List (List Int), es = rows'.map ofInts ∧ rows'.Perm rows := by
          have hall : ∀ x ∈ es, ∃ row, x = ofInts row := fun x hx => by
            obtain ⟨row, _, e⟩ := List.mem_map.mp (pe.mem_iff.mp hx)
            exact ⟨row, e.symm⟩
          have mk : ∀ l : List D, (∀ x ∈ l, ∃ row, x = ofInts row) → ∃ rows' : List (List Int), l = rows'.map ofInts := by
            intro l
            induction l with
            | nil => exact fun _ => ⟨[], rfl⟩
            | cons x l ih =>
              intro h
              obtain ⟨row, rfl⟩ := h x List.mem_cons_self
              obtain ⟨rs, rfl⟩ := ih fun y hy => h y (List.mem_cons_of_mem _ hy)
              exact ⟨row :: rs, rfl⟩
          obtain ⟨rows', rfl⟩ := mk es hall
          exact ⟨rows', rfl, rows_perm pe⟩
        have srt : rows'.Pairwise leC := by
          rw [List.pairwise_iff_getElem]
          intro i j hi hj hij
          rw [List.pairwise_iff_getElem] at hs
          have li : i < us.length := by rw [re.length, List.length_map]; exact hi
          have lj : j < us.length := by rw [re.length, List.length_map]; exact hj
          obtain ⟨d1, h1, h2⟩ := re.get' (i := i) (v := us[i]) (by simp [li])
          obtain ⟨d2, h3, h4⟩ := re.get' (i := j) (v := us[j]) (by simp [lj])
          rw [List.getElem?_map, List.getElem?_eq_getElem hi] at h1
          rw [List.getElem?_map, List.getElem?_eq_getElem hj] at h3
          cases h1; cases h3
          exact hs i j li lj hij _ _ h2.ofInts h4.ofInts
        have eq : rows' = sortI rows := by
          refine List.Perm.eq_of_pairwise (le := leC) (fun x y hx hy h1 h2 => ?_) srt (sortI_sorted rows) (pr.trans (sortI_perm rows).symm)
          obtain ⟨a1, a2⟩ := bd x (pr.mem_iff.mp hx)
          obtain ⟨b1, b2⟩ := bd y ((sortI_perm rows).mem_iff.mp hy)
          exact code_inj (a1.trans b1.symm) a2 b2 (Int.le_antisymm h1 h2)
        subst eq
        exact q us p np re (by rw [List.length_map, List.length_map, (sortI_perm rows).length_eq])
    · split at e
      · rename_i hn
        cases e
        obtain rfl : rows = [] := by simpa using hn
        cases r
        refine ⟨1, 1000, Nat.le_refl _, a, [], rfl, .inl (.inl ha), by simp, fun x hx => by simp at hx, fun us p hp hs np => ?_⟩
        obtain rfl : us = [] := by simpa using hp
        exact q [] p np .nil rfl
      · cases e
  · cases e
end
end TW
set_option maxRecDepth 20000
/-! TwJ: subscripts, slices, built-ins called, the table's defs called, displays of dicts. -/
namespace TW
open PySem PySem.Spec PyProof.Rows L2

theorem glB_of {sc : Scope} {x : Str} (h : glB sc x = true) : sc.names.lookup x = some .globalImplicit ∧ (x == ("__debug__" : Str)) = false := by
  unfold glB at h
  split at h
  · rename_i e
    exact ⟨e, by simpa using h⟩
  · cases h
theorem plainIx_of {b : Expr} (h : notSet b = true) : PlainIx b := by
  cases b <;> first
    | exact fun _ _ => rfl
    | exact absurd h (by simp [notSet])
section
variable {U : Wd} {G : Cfg} {C : Ctx} {k : Nat} {X : Cx} {a b c : Ex} {pos : Pos}
theorem atI_get {α β : Type} {xs : List α} {ys : List β} (h : xs.length = ys.length) {i : Int} {y : β} (e : atI ys i = some y) : ∃ j : Nat, ys[j]? = some y ∧ ∀ x, xs[j]? = some x → atI xs i = some x := by
  unfold atI at e ⊢
  rw [h]
  cases q : ixN ys.length i with
  | none => rw [q] at e; cases e
  | some j =>
    rw [q] at e
    exact ⟨j, e, fun x hx => hx⟩
theorem s_ix (ok : XOk U G C k X) {xe ye : Expr} (hs : notSet ye = true) (ha : PE X xe (tE U G C a)) (hb : PE X ye (tE U G C b)) : PE X (.Subscript xe ye pos) (tE U G C (.ix a b)) := by
  have h64 : X.A.units + 64 < cLine := ok.rm.units
  refine PE.imp (pe_ix (ix_list.or (ix_tup.or (ix_dictK (U := U) ok.hP ok.hW ok.hK h64))) ha hb (plainIx_of hs)) fun σ H Q q => ?_
  obtain ⟨sa, Z, n, ρ, S, d, S', pre, av, ev, q⟩ := q
  simp only [evE] at ev
  split at ev
  · rename_i x S1 e1
    split at ev
    · rename_i y S2 e2
      obtain ⟨d', e3, e4⟩ := Option.map_eq_some_iff.mp ev
      cases e4
      refine ⟨sa, Z, n + 1, ρ, S, x, S1, pre, av, e1, fun u H1 p1 => ?_⟩
      refine any1 (pre.step p1.ext p1.sr) e2 fun v H2 ex2 sr dv => ?_
      have ex := p1.ext.trans ex2
      have du := DR.ext ex2 _ _ _ p1.dr
      cases x <;> simp only [dIx] at e3 <;> try cases e3
      · cases y <;> try cases e3
        obtain ⟨l, vs, rfl, hl, yl, zl, ll, rl⟩ := du.lst_inv
        cases dv.int_inv
        obtain ⟨j, h1, h2⟩ := atI_get rl.length e3
        obtain ⟨w, h3, h4⟩ := rl.get h1
        exact .inl ⟨l, vs, _, w, rfl, rfl, .inl (.inl hl), h2 _ h3, q _ _ (.zero ex sr h4)⟩
      · cases y <;> try cases e3
        obtain ⟨l, vs, rfl, hl, ll, rl⟩ := du.tup_inv
        cases dv.int_inv
        obtain ⟨j, h1, h2⟩ := atI_get rl.length e3
        obtain ⟨w, h3, h4⟩ := rl.get h1
        exact .inr (.inl ⟨l, vs, _, w, rfl, rfl, .inl (.inl hl), h2 _ h3, q _ _ (.zero ex sr h4)⟩)
      · split at e3
        · rename_i hk
          obtain ⟨bb, rfl, pb⟩ := kOk_pl (K := U.K) hk dv
          obtain ⟨aa, _, _, _, rfl, _⟩ := du.dct_inv
          exact .inr (.inr ⟨bb, aa, y, _, _, _, _, _, rfl, hk, pb, rfl, du, e3, fun v r => q _ _ (.zero ex sr r)⟩)
        · cases e3
    · cases ev
  · cases ev

/-! ### slices -/
def tO (U : Wd) (G : Cfg) (C : Ctx) (oe : Oe) : TO := fun σ H Q => ∃ sa Z ρ S o S', Pre U G sa Z ρ S σ H ∧ evO C oe ρ S = some (o, S') ∧ ∀ H', Ext (sAd sa) H H' → SrcR sa S' H' → Q o H'
theorem _root_.L2.PO.imp {X : Cx} {e : Option Expr} {t t' : TO} (h : PO X e t) (q : ∀ σ H Q, t' σ H Q → t σ H Q) : PO X e t' := ⟨fun pins s σ H Q I hw => h.run pins s σ H Q I (q _ _ _ hw)⟩
theorem s_no : PO X none (tO U G C .no) := by
  refine po_none.imp fun σ H Q q => ?_
  obtain ⟨sa, Z, ρ, S, o, S', pre, ev, q⟩ := q
  simp only [evO] at ev
  cases ev
  exact q H (.refl H) pre.sr
theorem s_so {xe : Expr} (ha : PE X xe (tE U G C a)) : PO X (some xe) (tO U G C (.so a)) := by
  refine (po_some ha).imp fun σ H Q q => ?_
  obtain ⟨sa, Z, ρ, S, o, S', pre, ev, q⟩ := q
  simp only [evO] at ev
  split at ev
  · rename_i i S1 e1
    cases ev
    refine any1 pre e1 fun u H2 ex sr du => ?_
    cases du.int_inv
    exact ⟨_, rfl, q H2 ex sr⟩
  · cases ev
theorem cutD_of {Y Z : Addr → Prop} {H : Hp} {n : Nat} {vs : List V} {ds : List D} (r : DRs U Y Z H n vs ds) (lo hi : Option Int) : DRs U Y Z H n (cutV vs lo hi) (cutD ds lo hi) := by
  unfold cutV cutD
  rw [r.length]
  exact (r.drop _).take _
theorem cutD_le (ds : List D) (lo hi : Option Int) : (cutD ds lo hi).length ≤ ds.length := by
  unfold cutD
  rw [List.length_take, List.length_drop]
  omega
theorem s_sl {xe : Expr} {lo hi : Oe} {l u : Option Expr} {p2 : Pos} (ha : PE X xe (tE U G C a)) (hl : PO X l (tO U G C lo)) (hu : PO X u (tO U G C hi)) : PE X (.Subscript xe (.Slice l u none p2) pos) (tE U G C (.sl a lo hi)) := by
  refine PE.imp (pe_slice (sl_list.or sl_tupA) ha hl hu) fun σ H Q q => ?_
  obtain ⟨sa, Z, n, ρ, S, d, S', pre, av, ev, q⟩ := q
  simp only [evE] at ev
  split at ev
  · rename_i x S1 e1
    split at ev
    · rename_i lv S2 e2
      split at ev
      · rename_i uv S3 e3
        obtain ⟨d', e4, e5⟩ := Option.map_eq_some_iff.mp ev
        cases e5
        refine ⟨sa, Z, max n 1, ρ, S, x, S1, pre, av, e1, fun w H1 p1 => ?_⟩
        refine ⟨sa, Z, ρ, S1, lv, S2, pre.step p1.ext p1.sr, e2, fun H2 x2 r2 => ⟨sa, Z, ρ, S2, uv, _, (pre.step p1.ext p1.sr).step x2 r2, e3, fun H3 x3 r3 => ?_⟩⟩
        have ex := p1.ext.trans (x2.trans x3)
        have du := DR.ext (x2.trans x3) _ _ _ p1.dr
        cases x <;> simp only [dSl] at e4 <;> try cases e4
        · obtain ⟨l, vs, rfl, hl, yl, zl, ll, rl⟩ := du.lst_inv
          have rc := cutD_of rl lv uv
          rw [show max n 1 - 1 = n - 1 by omega] at rc
          exact .inl ⟨l, vs, rfl, .inl (.inl hl), fun p np => q _ _ (.list ex r3 pre.zh np (Nat.le_trans (cutD_le _ _ _) ll) rc)⟩
        · obtain ⟨l, vs, rfl, hl, ll, rl⟩ := du.tup_inv
          have rc := cutD_of rl lv uv
          rw [show max n 1 - 1 = n - 1 by omega] at rc
          refine .inr ⟨l, vs, rfl, .inl (.inl hl), fun hw => q _ _ (.flat rfl ex r3 (.tup hl (Nat.le_trans (cutD_le _ _ _) ll) ?_)), fun _ p np => q _ _ (.tup ex r3 np (Nat.le_trans (cutD_le _ _ _) ll) rc)⟩
          have e : cutV vs lv uv = vs := by
            unfold cutV
            rw [hw.1, hw.2]
            simp
          rw [e] at rc
          exact rc
      · cases ev
    · cases ev
  · cases ev
theorem s_rev {xe : Expr} {p1 p2 p3 : Pos} {kk : Nat} (ha : PE X xe (tE U G C a)) : PE X (.Subscript xe (.Slice none none (some (.UnaryOp .USub (.Constant (.int 1) kk p1) p2)) p3) pos) (tE U G C (.rev a)) := by
  refine PE.imp (pe_revL ha) fun σ H Q q => ?_
  obtain ⟨sa, Z, n, ρ, S, d, S', pre, av, ev, q⟩ := q
  simp only [evE] at ev
  split at ev
  · rename_i xs S1 e1
    cases ev
    refine ⟨sa, Z, max n 1, ρ, S, _, _, pre, av, e1, fun w H1 p1 => ?_⟩
    obtain ⟨l, vs, rfl, hl, yl, zl, ll, rl⟩ := p1.dr.lst_inv
    have rc := rl.reverse
    rw [show max n 1 - 1 = n - 1 by omega] at rc
    exact ⟨l, vs, rfl, .inl (.inl hl), fun p np => q _ _ (.list p1.ext p1.sr pre.zh np (by simpa using ll) rc)⟩
  · cases ev

/-! ### built-ins of one argument -/
theorem s_arg {xe : Expr} (ns : noStar xe = true) (ha : PE X xe (tE U G C a)) : PA X [xe] (tCons (tE U G C a) tNil) := pa_cons ha pa_nil (star_plain ns _ _)
theorem bl_of (ok : XOk U G C k X) {f : B1} : X.mg (b1Name f) = none := ok.bl _ (by cases f <;> decide +kernel)
theorem call_repr_data (ok : XOk U G C k X) : CallR X (.builtin "repr") (fun xs H Q => ∃ d x, xs = [x] ∧ isRef d = true ∧ Dp X.K H x d ∧ d.showable = true ∧ d.hasDict = false ∧ d.depth ≤ 60 ∧ d.shown.length ≤ sizeLine ∧ Q (.str d.shown) H) := by
  intro pins s σ H xs us Q I r h
  obtain ⟨d, x, rfl, hr, hd, hs, hn, hdep, hsz, q⟩ := h
  obtain ⟨u, rfl, rx⟩ := vals1 r
  obtain ⟨as, rd⟩ := hd.reads I _ _ _ rx
  obtain ⟨b, rfl⟩ : ∃ b, u = Value.ref b := by
    cases d <;> simp only [isRef] at hr <;> try cases hr
    · cases rd; exact ⟨_, rfl⟩
    · cases rd; exact ⟨_, rfl⟩
  refine repr_of_reads' rd hs (PyData.noDict_hsm hn) ok.gd (by have := ok.rm.un; omega) (fun _ _ e => e) (fun h' u tk hk => ?_) hsz
  exact ⟨.str d.shown, H, I.kept hk, ⟨_, rfl⟩, q⟩
theorem s_b1 (ok : XOk U G C k X) {f : B1} {x : Str} {xe : Expr} {p : Pos} (hx : x = b1Name f) (hg : glB X.env.scope x = true) (ns : noStar xe = true) (ha : PE X xe (tE U G C a)) : PE X (.Call (.Name x p) [xe] [] pos) (tE U G C (.b1 f a)) := by
  obtain ⟨g1, g2⟩ := glB_of hg
  have hm : X.mg x = none := by rw [hx]; exact bl_of ok
  have pa := s_arg ns ha
  have he := star_plain ns [] X.env
  have hn : x ≠ "__name__" := by rw [hx]; cases f <;> decide +kernel
  have unf : ∀ {σ : L2.St} {H : Hp} {Q : VK}, tE U G C (.b1 f a) σ H Q → ∃ sa Z n ρ S x S1 d, Pre U G sa Z ρ S σ H ∧ Avoid U (sAd sa) Z (avd (.b1 f a) n) σ H ρ ∧ evE C a ρ S = some (x, S1) ∧ bu1 f x = some d ∧
      ∀ v H', Post U (sAd sa) Z sa S1 (frk G.T (.b1 f a)) n H H' v d → Q v H' := by
    intro σ H Q q
    obtain ⟨sa, Z, n, ρ, S, d, S', pre, av, ev, q⟩ := q
    simp only [evE] at ev
    split at ev
    · rename_i y S1 e1
      obtain ⟨d', e3, e4⟩ := Option.map_eq_some_iff.mp ev
      cases e4
      exact ⟨sa, Z, n, ρ, S, y, _, _, pre, av, e1, e3, q⟩
    · cases ev
  cases f with
  | len =>
    refine PE.imp (pe_callB call_len g1 hm (by rw [hx]; exact PySem.boot_len) pa hn g2 he rfl) fun σ H Q q => ?_
    obtain ⟨sa, Z, n, ρ, S, y, S1, d, pre, av, e1, e3, q⟩ := unf q
    refine any1 pre e1 fun u H2 ex sr du => ?_
    cases y <;> simp only [bu1] at e3 <;> try cases e3
    · obtain ⟨l, vs, rfl, hl, _, _, _, rl⟩ := du.lst_inv
      exact ⟨.ref l, _, rfl, .inl ⟨vs, .inl (.inl hl), rfl⟩, by rw [rl.length]; exact q _ _ (.flat rfl ex sr (.int _))⟩
    · obtain ⟨l, vs, rfl, hl, _, rl⟩ := du.tup_inv
      exact ⟨.ref l, _, rfl, .inr ⟨vs, .inl (.inl hl), rfl⟩, by rw [rl.length]; exact q _ _ (.flat rfl ex sr (.int _))⟩
  | tuple =>
    refine PE.imp (pe_callTy call_tuple_of g1 hm (by rw [hx]; decide +kernel) pa hn g2 he rfl) fun σ H Q q => ?_
    obtain ⟨sa, Z, n, ρ, S, y, S1, d, pre, av, e1, e3, q⟩ := unf q
    refine one1 (na := max n 1) pre av e1 fun u H2 ex sr du => ?_
    cases y <;> simp only [bu1] at e3 <;> try cases e3
    · obtain ⟨l, vs, rfl, hl, _, _, ll, rl⟩ := du.lst_inv
      rw [show max n 1 - 1 = n - 1 by omega] at rl
      exact ⟨l, vs, rfl, .inl ⟨.inl (.inl hl), fun p np => q _ _ (.tup ex sr np ll rl)⟩⟩
    · obtain ⟨l, vs, rfl, hl, ll, rl⟩ := du.tup_inv
      rw [show max n 1 - 1 = n - 1 by omega] at rl
      exact ⟨l, vs, rfl, .inr ⟨.inl (.inl hl), q _ _ (.flat rfl ex sr (.tup hl ll rl))⟩⟩
  | list =>
    refine PE.imp (pe_callTy call_list_of g1 hm (by rw [hx]; decide +kernel) pa hn g2 he rfl) fun σ H Q q => ?_
    obtain ⟨sa, Z, n, ρ, S, y, S1, d, pre, av, e1, e3, q⟩ := unf q
    refine one1 (na := max n 1) pre av e1 fun u H2 ex sr du => ?_
    cases y <;> simp only [bu1] at e3 <;> try cases e3
    · obtain ⟨l, vs, rfl, hl, _, _, ll, rl⟩ := du.lst_inv
      rw [show max n 1 - 1 = n - 1 by omega] at rl
      exact ⟨l, vs, rfl, .inl (.inl (.inl hl)), fun p np => q _ _ (.list ex sr pre.zh np ll rl)⟩
    · obtain ⟨l, vs, rfl, hl, ll, rl⟩ := du.tup_inv
      rw [show max n 1 - 1 = n - 1 by omega] at rl
      exact ⟨l, vs, rfl, .inr (.inl (.inl hl)), fun p np => q _ _ (.list ex sr pre.zh np ll rl)⟩
  | sorted =>
    refine PE.imp (pe_callB call_sortA g1 hm (by rw [hx]; decide +kernel) pa hn g2 he rfl) fun σ H Q q => ?_
    obtain ⟨sa, Z, n, ρ, S, y, S1, d, pre, av, e1, e3, q⟩ := unf q
    refine one1 (na := max n 1) pre av e1 fun u H2 ex sr du => ?_
    cases y <;> simp only [bu1] at e3 <;> try cases e3
    obtain ⟨ys, e4, rfl⟩ := Option.map_eq_some_iff.mp e3
    obtain ⟨l, vs, rfl, hl, _, _, ll, rl⟩ := du.lst_inv
    rw [show max n 1 - 1 = n - 1 by omega] at rl
    exact sort_reads hl rl e4 fun us p np r el => q _ _ (.list ex sr pre.zh np (by rw [el]; exact ll) r)
  | abs =>
    refine PE.imp (pe_callB call_abs g1 hm (by rw [hx]; decide +kernel) pa hn g2 he rfl) fun σ H Q q => ?_
    obtain ⟨sa, Z, n, ρ, S, y, S1, d, pre, av, e1, e3, q⟩ := unf q
    refine any1 pre e1 fun u H2 ex sr du => ?_
    cases y <;> simp only [bu1] at e3 <;> try cases e3
    cases du.int_inv
    exact ⟨_, rfl, q _ _ (.flat rfl ex sr (.int _))⟩
  | int =>
    refine PE.imp (pe_callTy call_int1 g1 hm (by rw [hx]; decide +kernel) pa hn g2 he rfl) fun σ H Q q => ?_
    obtain ⟨sa, Z, n, ρ, S, y, S1, d, pre, av, e1, e3, q⟩ := unf q
    refine any1 pre e1 fun u H2 ex sr du => ?_
    cases y <;> simp only [bu1] at e3 <;> try cases e3
    · cases du.bl_inv
      exact .inr ⟨_, rfl, q _ _ (.flat rfl ex sr (.int _))⟩
    · cases du.int_inv
      exact .inl ⟨_, rfl, q _ _ (.flat rfl ex sr (.int _))⟩
  | repr =>
    refine PE.imp (pe_callB (call_repr_data ok) g1 hm (by rw [hx]; decide +kernel) pa hn g2 he rfl) fun σ H Q q => ?_
    obtain ⟨sa, Z, n, ρ, S, y, S1, d, pre, av, e1, e3, q⟩ := unf q
    refine any1 pre e1 fun u H2 ex sr du => ?_
    have e3 : (if isRef y && y.showable && !y.hasDict && decide (y.depth ≤ 60) && decide (y.shown.length ≤ LINE) then some (PyData.str y.shown) else none) = some d := by
      cases y <;> exact e3
    split at e3
    · rename_i hc
      simp only [Bool.and_eq_true, decide_eq_true_eq, Bool.not_eq_true'] at hc
      cases e3
      obtain ⟨⟨⟨⟨h1, h2⟩, h3⟩, h4⟩, h5⟩ := hc
      exact ⟨y, u, rfl, h1, DR.dpn _ _ _ h3 du, h2, h3, h4, sizeL h5, q _ _ (.flat rfl ex sr (.str _))⟩
    · cases e3
end
end TW
set_option maxRecDepth 20000
/-! TwK: the table's defs called, the draw, displays of dicts. -/
namespace TW
open PySem PySem.Spec PyProof.Rows L2

section
variable {U : Wd} {Y Z : Addr → Prop} {H H' : Hp} {sa : SA} {S' : Src} {k n m : Nat} {v : V} {d : D}
theorem Post.deeper (h : Post U Y Z sa S' k n H H' v d) (q : n ≤ m) : Post U Y Z sa S' k m H H' v d := by
  obtain ⟨A, h1, h2, h3, h4⟩ := h.fr
  exact ⟨h.ext, h.sr, h.dr.deeper q, A, h1, h2, h3, h4.deeper (by omega)⟩
theorem Post.sub {H0 : Hp} (e : Ext Y H0 H) (f : ∀ a, H a = none → H0 a = none) (h : Post U Y Z sa S' k n H H' v d) : Post U Y Z sa S' k n H0 H' v d := by
  obtain ⟨A, h1, h2, h3, h4⟩ := h.fr
  exact ⟨e.trans h.ext, h.sr, h.dr, A, h1, h2, fun a q => f a (h3 a q), h4⟩
end
theorem noStar_all {G : Cfg} {sc : Scope} : ∀ {es : Exs} {xs : List Expr}, okEs G sc es xs = true → xs.all noStar = true
  | .nil, [], _ => rfl
  | .nil, _ :: _, h => by simp [okEs] at h
  | .cons e es, [], h => by simp [okEs] at h
  | .cons e es, y :: ys, h => by
    simp only [okEs, Bool.and_eq_true] at h
    rw [List.all_cons, h.1.1, noStar_all h.2]
    rfl
section
variable {U : Wd} {G : Cfg} {C : Ctx} {k : Nat} {X : Cx} {a b c : Ex} {pos : Pos}
theorem isSrc_of {sc : Scope} {y : Expr} (h : isSrc G sc y = true) : ∃ x p i, y = .Name x p ∧ G.srcI = some i ∧ nmOk G sc i x = true := by
  unfold isSrc at h
  split at h
  · split at h
    · rename_i e
      exact ⟨_, _, _, rfl, e, h⟩
    · cases h
  · cases h
theorem s_call (ok : XOk U G C k X) {i : Nat} {es : Exs} {xs : List Expr} {x : Str} {p : Pos} {f : Fn} (hf : G.T[i]? = some f) (hx : x = f.name) (hg : glB X.env.scope x = true) (he : xs = [] → es = .nil)
    (ha : if f.src = true then ∃ y ys, xs = y :: ys ∧ isSrc G X.env.scope y = true ∧ ys.all noStar = true ∧ PA X ys (tEs U G C es) else xs.all noStar = true ∧ PA X xs (tEs U G C es)) : PE X (.Call (.Name x p) xs [] pos) (tE U G C (.call i es)) := by
  obtain ⟨g1, g2⟩ := glB_of hg
  obtain ⟨fa, fd, m1, m2, m3, F⟩ := ok.fn i f hf
  rw [← hx] at m1
  have unf : ∀ {σ : L2.St} {H : Hp} {Q : VK}, tE U G C (.call i es) σ H Q → ∃ sa Z ρ S ds S1 d S', Pre U G sa Z ρ S σ H ∧ Avoid U (sAd sa) Z (avds es 0) σ H ρ ∧ evs C es ρ S = some (ds, S1) ∧ C.cl i ds S1 = some (d, S') ∧ (if f.src then 1 else 0) + ds.length = f.ps.length ∧
      ∀ v H', Post U (sAd sa) Z sa S' f.ret 0 H H' v d → Q v H' := by
    intro σ H Q q
    obtain ⟨sa, Z, n, ρ, S, d, S', pre, av, ev, q⟩ := q
    simp only [evE] at ev
    split at ev
    · rename_i ds S1 e1
      refine ⟨sa, Z, ρ, S, ds, S1, d, S', pre, av, e1, ev, ok.clen _ _ _ _ _ ev hf, fun v H' h => q v H' ?_⟩
      have e : frk G.T (.call i es) = f.ret := by simp [frk, hf]
      rw [e]
      exact h.deeper (Nat.zero_le _)
    · cases ev
  by_cases hs : f.src = true
  · rw [if_pos hs] at ha
    obtain ⟨y, ys, rfl, sy, ns, pa⟩ := ha
    obtain ⟨yn, yp, j, rfl, sj, nm⟩ := isSrc_of sy
    obtain ⟨h1, h2, h3, h4⟩ := nmOk_of nm
    have hst : ((Expr.Name yn yp) :: ys).all noStar = true := by rw [List.all_cons, ns]; rfl
    refine PE.imp (pe_callG F ok.gd ok.rm g1 m1 m2 m3 (pa_cons (pe_var (i := j) (by rw [ok.hN]; exact h1) h2 h3 h4) pa (star_plain rfl _ _)) hst g2) fun σ H Q q => ?_
    obtain ⟨sa, Z, ρ, S, ds, S1, d, S', pre, av, e1, e2, l, q⟩ := unf q
    obtain ⟨s1, s2, rfl, s3⟩ := pre.ss j sj
    refine ⟨.ref s1, s3, some (s1, s2), Z, 0, ρ, S, ds, S1, pre, av, e1, fun us H1 ex sr r => ?_⟩
    refine ⟨some (s1, s2), Z, ds, S1, d, S', us, ?_, ?_, r, sr, ?_, e2, fun v H' h => q v H' (h.sub ex ?_)⟩
    · rw [if_pos hs]; exact ⟨s1, s2, rfl, rfl⟩
    · rw [if_pos hs] at l
      rw [List.length_cons, r.length]; omega
    · exact (pre.step ex sr).zh
    · exact fun a q => ex.free (fun b z => sr.there b z) q
  · rw [if_neg hs] at ha
    obtain ⟨ns, pa⟩ := ha
    have hq : ∀ {σ : L2.St} {H : Hp} {Q : VK}, tE U G C (.call i es) σ H Q → tEs U G C es σ H fun vs H1 => spF U C f i vs H1 Q := by
      intro σ H Q q
      obtain ⟨sa, Z, ρ, S, ds, S1, d, S', pre, av, e1, e2, l, q⟩ := unf q
      refine ⟨sa, Z, 0, ρ, S, ds, S1, pre, av, e1, fun us H1 ex sr r => ?_⟩
      refine ⟨sa, Z, ds, S1, d, S', us, ?_, ?_, r, sr, ?_, e2, fun v H' h => q v H' (h.sub ex ?_)⟩
      · rw [if_neg hs]
      · rw [if_neg hs] at l
        rw [r.length]; omega
      · exact (pre.step ex sr).zh
      · exact fun a q => ex.free (fun b z => sr.there b z) q
    cases xs with
    | nil =>
      refine PE.imp (pe_callG0 F ok.gd ok.rm g1 m1 m2 m3 g2) fun σ H Q q => ?_
      have q1 := hq q
      cases es with
      | nil =>
        obtain ⟨sa, Z, n, ρ, S, ds, S1, pre, av, e1, q2⟩ := q1
        simp only [evs] at e1
        cases e1
        exact q2 [] H (.refl H) pre.sr .nil
      | cons e es => exact absurd (he rfl) (by simp)
    | cons y ys => exact PE.imp (pe_callG F ok.gd ok.rm g1 m1 m2 m3 pa ns g2) fun σ H Q q => hq q
theorem s_pick (ok : XOk U G C k X) {x : Str} {p : Pos} {y z : Expr} (hx : x = ("_law_pick" : Str)) (hg : glB X.env.scope x = true) (sy : isSrc G X.env.scope y = true) (ns : noStar z = true) (ha : PE X z (tE U G C a)) :
    PE X (.Call (.Name x p) [y, z] [] pos) (tE U G C (.pick a)) := by
  obtain ⟨g1, g2⟩ := glB_of hg
  obtain ⟨fa, fd, ps, m1, m2, m3, F⟩ := ok.pk
  subst hx
  obtain ⟨yn, yp, j, rfl, sj, nm⟩ := isSrc_of sy
  obtain ⟨h1, h2, h3, h4⟩ := nmOk_of nm
  have hst : ([(Expr.Name yn yp), z] : List Expr).all noStar = true := by rw [List.all_cons, List.all_cons, ns]; rfl
  refine PE.imp (pe_callG F ok.gd ok.rm g1 m1 m2 m3 (pa_cons (pe_var (i := j) (by rw [ok.hN]; exact h1) h2 h3 h4) (s_arg ns ha) (star_plain rfl _ _)) hst g2) fun σ H Q q => ?_
  obtain ⟨sa, Z, n, ρ, S, d, S', pre, av, ev, q⟩ := q
  obtain ⟨s1, s2, rfl, s3⟩ := pre.ss j sj
  simp only [evE] at ev
  split at ev
  · rename_i m S1 e1
    split at ev
    · rename_i hm
      cases ev
      refine ⟨.ref s1, s3, ?_⟩
      refine any1 pre e1 fun u H2 ex sr du => ?_
      cases du.int_inv
      refine ⟨s1, s2, m, S1, rfl, sr, hm, fun H' x2 sr2 => q _ _ (.flat rfl (ex.trans x2) sr2 (.int _))⟩
    · cases ev
  · cases ev

/-! ### displays of dicts -/
theorem new_dict {P : Program} {w : World} {H : Hp} (h : Heap) (hb : sysModules < h.objs.size) : ObjOk P w H (h.push { cls := .type "dict", data := .dict #[] }) h.objs.size (dictO P w h.objs.size [] 0) := by
  refine ⟨⟨beq_eq_false_iff_ne.mpr (Ne.symm (Nat.ne_of_lt hb)), _, #[], Heap.get?_push_size _ rfl, ⟨rfl, rfl, rfl⟩, rfl, rfl, List.nodup_nil⟩, ⟨_, Heap.get?_push_size _ rfl⟩, ?_⟩
  rintro g1 g2 ⟨m1, o1, es1, m2, m3, m4, m5, m6⟩ k
  exact ⟨m1, o1, es1, k _ m2, m3, m4, m5, m6⟩
def tDic0 (P : Program) (w : World) : TE := fun _ H Q => ∀ p, H p = none → Q (.ref p) (upd H p (dictO P w p [] 0))
theorem pe_dic0 : PE X (.Dict [] [] pos) (tDic0 X.prog X.w) := ⟨fun pins s σ H Q I h => by
  have hn := I.hok.fresh (Nat.le_refl s.heap.objs.size)
  exact wpAny_Dict_empty ⟨.ref s.heap.objs.size, _, I.laid (a := s.heap.objs.size) (t' := s.toks) (fun _ _ q => Heap.get?_push_of_some _ q) (Nat.le_refl _) (new_dict s.heap I.big), rfl, h _ hn⟩⟩
def tDic1 (U : Wd) (tk tv : TE) : TE := fun σ H Q => ∀ p, H p = none → tk σ (upd H p (dictO U.P U.w p [] 0)) fun kx H1 => tv σ H1 fun vx H2 => H2 p = some (dictO U.P U.w p [] 0) ∧
  ∃ (b : Addr) (kd : D), kx = .ref b ∧ kOk kd = true ∧ PlR U.K H2 (.ref b) kd ∧ ∀ u ep, RelV vx u → Q (.ref p) (upd H2 p (dictO U.P U.w p [(keyOf kd, b, u)] ep))
theorem pe_dic1 (ok : XOk U G C k X) {ke ve : Expr} {tk tv : TE} (hk : PE X ke tk) (hv : PE X ve tv) : PE X (.Dict [some ke] [ve] pos) (tDic1 U tk tv) := by
  refine ⟨fun pins s σ H Q I q => ?_⟩
  have hu : (nestedKind X.prog X.w).room X.A := by
    show X.A.units + 8 < cLine
    have := ok.rm.units
    omega
  have hn := I.hok.fresh (Nat.le_refl s.heap.objs.size)
  have I1 := I.laid (a := s.heap.objs.size) (h' := s.heap.push { cls := .type "dict", data := .dict #[] }) (t' := s.toks) (fun _ _ q => Heap.get?_push_of_some _ q) (Nat.le_refl _) (new_dict s.heap I.big)
  have q1 := q _ hn
  rw [← ok.hP, ← ok.hW] at q1
  rw [arm_eval_Dict, show (evalEachOpt [some ke] X.env).zip ((evalEach [ve] X.env).map fun v => do let x ← v; standAt pos; pure x) = (pairTrees [some ke] [ve] X.env pos).map fun p => (some p.1, p.2) from rfl, dictDisplay_pairs _ (by simp [pairTrees]) (by simp [pairTrees])]
  refine wpAny_bind (wpAny_standAt (wpAny_bind (wpAny_subDictH (knd := nestedKind X.prog X.w) hu (by simp [pairTrees]) ?_)))
  refine pairTrees_cons_walk (thn (hk.run pins _ σ _ _ I1 q1) fun ku s1 ⟨kx, H1, I2, rk, q2⟩ => thn (hv.run pins s1 σ H1 _ I2 q2) fun vu s2 ⟨vx, H2, I3, rv, q3⟩ => pairTrees_nil_walk ?_)
  obtain ⟨hp, b, kd, rfl, hkd, pk, q3⟩ := q3
  cases rk
  rw [← ok.hK] at pk
  obtain ⟨h1, h2⟩ := dict_at I3 hp .nil
  refine ⟨[(keyOf kd, b, vu)], ⟨rfl, rfl, key_is I3 hkd pk, trivial⟩, h2, fun h' tk hd hs => ?_⟩
  obtain ⟨ep', ok'⟩ := obj_of (H := fun ep' => upd H2 s.heap.objs.size (dictO X.prog X.w s.heap.objs.size [(keyOf kd, b, vu)] ep')) h1 hd
  refine wpAny_pure ⟨.ref s.heap.objs.size, _, ?_, rfl, q3 vu ep' rv⟩
  exact I3.write (x := s.heap.objs.size) (e := s.heap.objs.size) (by rw [hp]; trivial) (.inl rfl) (fun c o hc e => (hs.2 c hc).trans e) (let ⟨o, _, _, e, _⟩ := hd; ⟨o, e⟩) ok'
theorem s_dic0 (ok : XOk U G C k X) : PE X (.Dict [] [] pos) (tE U G C (.dic .nil .nil)) := by
  refine PE.imp pe_dic0 fun σ H Q q => ?_
  obtain ⟨sa, Z, n, ρ, S, d, S', pre, av, ev, q⟩ := q
  simp only [evE] at ev
  cases ev
  intro p np
  rw [ok.hP, ok.hW]
  have h0 : upd H p (dictO U.P U.w p [] 0) p = some (dictO U.P U.w p [] 0) := upd_same
  refine q _ _ ⟨.new np, pre.sr.new np, .dct_mk h0 (Nat.zero_le _) (new_noY pre.sr np) (fun _ => new_noZ pre.zh np) .nil, [p], .dct (by simp [frk]) h0, by simp, fun a q => ?_, .dct_mk h0 (Nat.zero_le _) (new_noY pre.sr np) (fun q => ?_) .nil⟩
  · have e : a = p := by simpa using q
    rw [e]; exact np
  · simp [frk, ed] at q
theorem s_dic1 (ok : XOk U G C k X) {ke ve : Expr} (hk : PE X ke (tE U G C a)) (hv : PE X ve (tE U G C b)) : PE X (.Dict [some ke] [ve] pos) (tE U G C (.dic (.cons a .nil) (.cons b .nil))) := by
  refine PE.imp (pe_dic1 ok hk hv) fun σ H Q q => ?_
  obtain ⟨sa, Z, n, ρ, S, d, S', pre, av, ev, q⟩ := q
  simp only [evE] at ev
  split at ev
  · rename_i kd S1 e1
    split at ev
    · rename_i vd S2 e2
      split at ev
      · rename_i hkd
        cases ev
        intro p np
        have ex0 : Ext (sAd sa) H (upd H p (dictO U.P U.w p [] 0)) := .new np
        have sr0 := pre.sr.new (o := dictO U.P U.w p [] 0) np
        have pre0 := pre.step ex0 sr0
        have noY := new_noY pre.sr np
        have avp : Avoid U (sAd sa) (fun a => Z a ∨ a ∈ [p]) (avd b 0) σ H ρ := fun z hz d v q1 q2 => DR.fresh (fun a q => by
          have e : a = p := by simpa using q
          rw [e]; exact np) _ _ _ (av z (by simpa [avd, avds] using hz) d v q1 q2)
        refine any1 pre0 e1 fun kx H1 ex1 sr1 dk => ?_
        have hp1 := ex1.keep _ _ (show upd H p (dictO U.P U.w p [] 0) p = some _ from upd_same) noY
        have pre1 : Pre U G sa (fun a => Z a ∨ a ∈ [p]) ρ S1 σ H1 := by
          have q := pre0.step ex1 sr1
          refine ⟨q.ed, q.ss, q.sr, fun a h => h.elim (q.zh a) fun h => ?_⟩
          have e : a = p := by simpa using h
          rw [e]; exact ⟨_, hp1⟩
        refine one1 (na := 0) pre1 ((avp.step ex0).step ex1) e2 fun vx H2 ex2 sr2 dv => ?_
        have hp2 := ex2.keep _ _ hp1 noY
        obtain ⟨bk, rfl, pk⟩ := kOk_pl (K := U.K) hkd (DR.ext ex2 _ _ _ dk)
        refine ⟨hp2, bk, kd, rfl, hkd, pk, fun u ep ru => ?_⟩
        have ni : ¬ Imm (dictO U.P U.w p [] 0) := fun h => h
        have ex3 : Ext (orAt (sAd sa) p) H2 (upd H2 p (dictO U.P U.w p [(keyOf kd, bk, u)] ep)) := .at hp2 ni (.inr rfl)
        have dv3 := DR.ext ex3 _ _ _ (DR.also (a := p) (.inr (by simp)) _ _ _ rfl dv)
        have dv4 : DR U (sAd sa) (fun a => Z a ∨ a ∈ [p]) _ 0 vx vd := DR.weak (fun _ h => .inl h) _ _ _ dv3
        have pk3 := PlR.ext ex3 _ _ pk
        have h0 : upd H2 p (dictO U.P U.w p [(keyOf kd, bk, u)] ep) p = some _ := upd_same
        have ext : Ext (sAd sa) H (upd H2 p (dictO U.P U.w p [(keyOf kd, bk, u)] ep)) := by
          refine ⟨fun c o hc hn => ?_, fun c o hc hm => ?_⟩
          · rw [upd_ne (ne_of_none hc np)]
            exact (ex0.trans (ex1.trans ex2)).keep c o hc hn
          · rw [upd_ne (ne_of_none hc np)]
            exact (ex0.trans (ex1.trans ex2)).imm c o hc hm
        have en : ∀ m, Ents U.K U (sAd sa) (fun a => Z a ∨ a ∈ [p]) (upd H2 p (dictO U.P U.w p [(keyOf kd, bk, u)] ep)) m [(keyOf kd, bk, u)] [(kd, vd)] [vx] := fun m =>
          .cons ⟨rfl, hkd, pk3⟩ ru (dv4.deeper (Nat.zero_le _)) .nil
        have en' : ∀ m, Ents U.K U (sAd sa) Z (upd H2 p (dictO U.P U.w p [(keyOf kd, bk, u)] ep)) m [(keyOf kd, bk, u)] [(kd, vd)] [vx] := fun m =>
          .cons ⟨rfl, hkd, pk3⟩ ru ((dv4.less fun _ q => .inl q).deeper (Nat.zero_le _)) .nil
        have l1 : [(keyOf kd, bk, u)].length ≤ LINE := by simp [LINE]
        refine q _ _ ⟨ext, sr2.at noY, .dct_mk h0 l1 noY (fun _ => new_noZ pre.zh np) (en' _), [p], .dct (by simp [frk]) h0, by simp, fun a q => ?_, .dct_mk h0 l1 noY (fun q => ?_) (en _)⟩
        · have e : a = p := by simpa using q
          rw [e]; exact np
        · simp [frk, ed] at q
      · cases ev
    · cases ev
  · cases ev
end
end TW
set_option maxRecDepth 100000
/-! TwL: what loops and comprehensions walk. -/
namespace TW
open PySem PySem.Spec PyProof.Rows L2
open AutoSeq1 (wpAny_loadPart')

/-! ### enumerate over a tuple -/
theorem meets_enu_tup (l : Addr) (items : Array Value) (m : Nat) (dc : Option Addr) (st : Array (Option Value)) :
    Meets (Builtin.«enumerate.__new__» ⟨[.type "enumerate", .ref l], []⟩) (fun _ R t => t.heap.get? l = some { cls := .type "tuple", dict := dc, data := .seq items m, slots := st } ∧
      R (.ok (.ret (.ref (t.heap.push { cls := .type "tuple_iterator", data := .fields #[.ref l, .int 0 0] }).objs.size)))
        { t with heap := (t.heap.push { cls := .type "tuple_iterator", data := .fields #[.ref l, .int 0 0] }).push { cls := .type "enumerate", data := .fields #[.none, .bool false, .ref t.heap.objs.size, rawInt 0, .none, .none] } }) :=
  .of_wp fun prog w A R t h => by
    obtain ⟨hp, g, dw, tk, oz⟩ := t; obtain ⟨hl, h⟩ := h
    have hsub := sub_enumerate
    have hT : Heap.IsTuple (Shared.heap ⟨hp, g, dw, tk, oz⟩) l items := ⟨_, hl, rfl, m, rfl⟩
    wp_walk using wpAny_loadPart' hl
    refine wpAny_stack_any fun stk => wpAny_pure ?_
    split
    · rename_i c _ _ _ _ _
      cases (c == Value.type "enumerate")
      · wp_walk using wpAny_loadPart' hl, wpAny_pyIter_tuple hT
        exact ⟨_, rfl, h⟩
      · wp_walk using wpAny_loadPart' hl, wpAny_pyIter_tuple hT
        exact ⟨_, rfl, h⟩
    · wp_walk using wpAny_loadPart' hl, wpAny_pyIter_tuple hT
      exact ⟨_, rfl, h⟩
section
variable {prog : Program} {w : World} {A : Around} {E : Value → Shared → Prop} {s : Shared}
theorem call_enu_tup {l : Addr} {items : Array Value} {Q : Value → Shared → Prop} (hL : s.heap.IsTuple l items)
    (h : ∀ h', IsEnum h' (s.heap.objs.size + 1) s.heap.objs.size 0 .none → h'.IsTupleIter s.heap.objs.size l 0 → (∀ b o, s.heap.get? b = some o → h'.get? b = some o) → Q (.ref (s.heap.objs.size + 1)) { s with heap := h' }) :
    wpAny (model prog w) A (call (.type "enumerate") [.ref l]) Q E s := by
  obtain ⟨⟨c, dct, dt, sl⟩, hl, hc, m, hd⟩ := hL
  replace hc : c = .type "tuple" := hc
  replace hd : dt = .seq items m := hd
  subst hc hd
  refine callType_new F.called_enumerate (by decide) (F.typeCall_enumerate_1 _) (F.newCall_enumerate_1 _) (fun ob => F.args_object_init_2 ob _) F.entry_enumerate_new (meets_enu_tup l items m dct sl) ⟨hl, ?_⟩
  generalize hg1 : s.heap.push { cls := .type "tuple_iterator", data := .fields #[.ref l, .int 0 0] } = g1
  have hz : g1.objs.size = s.heap.objs.size + 1 := by rw [← hg1]; exact Heap.size_push ..
  show _ ∧ _
  rw [hz]
  generalize hg2 : g1.push { cls := .type "enumerate", data := .fields #[.none, .bool false, .ref s.heap.objs.size, rawInt 0, .none, .none] } = g2
  have he : IsEnum g2 (s.heap.objs.size + 1) s.heap.objs.size 0 .none := by
    rw [← hz, ← hg2]
    exact Heap.get?_push_size g1 rfl
  have hi : g1.get? s.heap.objs.size = some { cls := .type "tuple_iterator", data := .fields #[.ref l, .int 0 0] } := by rw [← hg1]; exact Heap.get?_push_size _ rfl
  refine ⟨⟨_, he, rfl⟩, h _ he ⟨_, by rw [← hg2]; exact Heap.get?_push_of_some _ hi, rfl, rfl⟩ fun b o x => ?_⟩
  rw [← hg2]
  refine Heap.get?_push_of_some _ ?_
  rw [← hg1]
  exact Heap.get?_push_of_some _ x
end
/-- the tuple at a, each item in a new pair -/
def ItT (K : PySem.W.Frag) (a : Addr) : L2.It :=
  ⟨fun i H => ∃ (xs : List V) (x : V), SqT K H a xs ∧ xs[i]? = some x, fun i H v H' => ∃ T x, v = .ref T ∧ H T = none ∧ H' = upd H T (.tup [.int (i : Nat), x]) ∧ ∀ xs, SqT K H a xs → xs[i]? = some x, fun i H => ∃ xs : List V, SqT K H a xs ∧ xs.length ≤ i⟩
theorem turn_enuT {P : Program} {w : World} {K : PySem.W.Frag} {elts : List Expr} {kk : Nat} {tpos : Pos} (a e it : Addr) :
    Turn P w K (.Tuple elts kk tpos) (ItT K a) [e, it] e (fun i h => (∃ old, IsEnum h e it ((i : Nat) : Int) old) ∧ h.IsTupleIter it a i ∧ e ≠ it) where
  mem := List.mem_cons_self
  obj := fun i h st b hb => by
    obtain ⟨⟨old, he⟩, ⟨o, ho, hc, hd⟩, _⟩ := st
    have e' : b = e ∨ b = it := by simpa using hb
    rcases e' with z | z
    · subst z; exact ⟨_, he, fun v q => nomatch q⟩
    · subst z; exact ⟨o, ho, fun v q => by rw [hd] at q; cases q⟩
  keep := fun i h h' st k => let ⟨⟨old, he⟩, hi, hne⟩ := st; ⟨⟨old, k e List.mem_cons_self _ he⟩, hi.at fun o q => k it (by simp) o q, hne⟩
  item := by
    intro X hP hw hK hc i pins s σ H E I hf st hg
    subst hP hw hK
    obtain ⟨⟨old, he⟩, hit, hne⟩ := st
    obtain ⟨xs, x, hq, hx⟩ := hg
    obtain ⟨its, rv, p, hz⟩ := I.tuple hq
    have p' : s.heap.IsTuple a its.toArray := p
    obtain ⟨u, hu, ru⟩ := rv.get hx
    have hel : e < s.heap.objs.size := Heap.lt_size he
    have hil : it < s.heap.objs.size := by obtain ⟨_, q, _⟩ := hit; exact Heap.lt_size q
    by_cases hea : e = a
    · subst hea
      obtain ⟨o, ho, hcl, _⟩ := p'
      rw [he] at ho; cases ho
      exact absurd hcl (by simp)
    by_cases hia : it = a
    · subst hia
      obtain ⟨o, ho, hcl, _⟩ := p'
      obtain ⟨o', ho', hcl', _⟩ := hit
      rw [ho'] at ho; cases ho
      rw [hcl'] at hcl; exact absurd hcl (by simp)
    have D := Draws.tuple (prog := X.prog) (w := X.w) (A := X.A.in1) (I.ok.hd hc) it a (fun q => hia q.symm) its.toArray
    have hlt : i < its.toArray.size := by
      have := (List.getElem?_eq_some_iff.mp hu).1
      simpa using this
    refine wpAny_pyNext_enum_itemD D he ⟨hit, p'⟩ hlt hne (by simp [hne, hea]) fun x' h' tk hx' ho st' hT hsz hk => ?_
    have hxu : x' = u := by
      have : its.toArray[i]? = some u := by simpa using hu
      rw [this] at hx'; exact (Option.some.inj hx').symm
    subst hxu
    refine ⟨_, rfl, wpAny_letOwnedTupleGo_enum (s := { s with heap := h', toks := tk + 1 }) ho fun h'' he' sb => ?_⟩
    have hT2 := (sb.2 _ (Nat.ne_of_gt hel)).trans hT
    have new : ObjOk X.prog X.w (upd H s.heap.objs.size (.tup [.int (i : Nat), x])) h'' s.heap.objs.size (.tup [.int (i : Nat), x]) :=
      ⟨by show 2 ≤ sizeLine; decide, [.int i tk, x'], .cons ⟨_, rfl⟩ (.cons ru .nil), ⟨_, hT2, rfl, _, rfl⟩⟩
    have I1 := I.turnedNew (t' := tk + 1) (ch := [e, it]) (fun b ob hb q => (sb.2 b (fun z => hb (by simp [z]))).trans (hk b ob (fun z => hb (by simp [z])) (fun z => hb (by simp [z])) q)) hf (Nat.le_refl _) new
    refine ⟨.ref s.heap.objs.size, _, I1, rfl, ⟨_, x, rfl, I.hok.fresh (Nat.le_refl _), rfl, fun ys hy => by rw [I.tuple_inj hy hq]; exact hx⟩, ⟨⟨x', ?_⟩, st'.1.at fun o q => (sb.2 it (Ne.symm hne)).trans q, hne⟩, fun b hb => ?_⟩
    · rw [show ((i + 1 : Nat) : Int) = (i : Int) + 1 by omega]; exact he'
    · have hb' : b < s.heap.objs.size := by
        have e' : b = e ∨ b = it := by simpa using hb
        rcases e' with z | z <;> (rw [z]; assumption)
      rw [upd_ne (Nat.ne_of_lt hb')]
      exact (hf b hb).1
  done := by
    intro X hP hw hK hc i pins s σ H E I hf st hg
    subst hP hw hK
    obtain ⟨⟨old, he⟩, hit, hne⟩ := st
    obtain ⟨xs, hq, hx⟩ := hg
    obtain ⟨its, rv, p, hz⟩ := I.tuple hq
    have p' : s.heap.IsTuple a its.toArray := p
    obtain ⟨f0, f1, f2, f3, f4, f5⟩ := hf it (by simp)
    have hia : it ≠ a := by
      rintro rfl
      obtain ⟨o, ho, hcl, _⟩ := p'
      obtain ⟨o', ho', hcl', _⟩ := hit
      rw [ho'] at ho; cases ho
      rw [hcl'] at hcl; exact absurd hcl (by simp)
    have hge : its.toArray[i]? = none := by simp [← rv.length, hx]
    have hT : s.TypeIs (.ref e) "enumerate" := ⟨_, he, rfl⟩
    unfold pyNext
    refine wpAny_bind (wpAny_attempt (wpAny_callSpecial?_slot (name := Str.ofString "__next__") hT F.slot_enumerate_next
      (wpAny_call_entry F.slot_enumerate_next hT F.entry_enumerate_next ?_ (F.args_enumerate_next_1 _))))
    show wpAny _ _ (field (.ref e) 2 >>= _) _ _ _
    refine wpAny_bind (wpAny_field he rfl (x := .ref it) rfl ?_)
    refine wpAny_bind (wpAny_nextOf_tuple_end (show X.A.in1.in1.handled = none from I.ok.hd hc) hit p' hge fun h' y he' hx' => ?_)
    obtain ⟨o, ho, hcl⟩ := hx'
    refine wpAny_bind (wpAny_isInstance (T := "StopIteration") (b := true) ⟨o, ho, hcl⟩ isSubtype_stop ?_)
    exact wpAny_pure ⟨rfl, I.turned (t' := s.toks) (fun b o hb q => he' b o hb q) f0 f1 f3 f4 f5⟩
  self := fun A i s Q E st h => let ⟨⟨_, he⟩, _⟩ := st; wpAny_pyIter_enum he h
def iEnuT (K : PySem.W.Frag) (ta : TA) : TI := fun σ H R => ta σ H fun vs H1 => ∃ a xs, vs = [.ref a] ∧ SqT K H1 a xs ∧ R (ItT K a) H1
theorem pi_enuT {X : Cx} {e : Expr} {ta : TA} {p pos tpos : Pos} {elts : List Expr} {kk : Nat} (hg : Gl X "enumerate") (hm : X.mg "enumerate" = none) (ha : PA X [e] ta) (hs : starEach [e] X.env = [(false, eval e X.env)]) :
    PI X (.Tuple elts kk tpos) (.Call (.Name "enumerate" p) [e] [] pos) (iEnuT X.K ta) := by
  refine ⟨fun pins s σ H R I h => ?_⟩
  refine Call_ (ld_blt I hg hm boot_enumerate (PyProof.Rows.callWith_type1 (thn (ha.run pos pins s σ H _ I h) fun us s1 ⟨vs, H1, I1, r1, q1⟩ => ?_) hs rfl))
  obtain ⟨a, xs, rfl, hq, q⟩ := q1
  cases r1 with
  | cons r rr =>
    cases rr
    cases r
    obtain ⟨its, rv, p', hz⟩ := I1.tuple hq
    refine call_enu_tup p' fun h' he hit hk => wpAny_pyIter_enum he ?_
    have I2 : Inv X pins σ H1 { s1 with heap := h' } := I1.kept (t' := s1.toks) hk
    refine ⟨s1.heap.objs.size + 1, [s1.heap.objs.size + 1, s1.heap.objs.size], _, _, H1, rfl, I2, turn_enuT a (s1.heap.objs.size + 1) s1.heap.objs.size, ⟨⟨.none, he⟩, hit, Nat.succ_ne_self _⟩, fun b hb => ?_, q⟩
    have hle : s1.heap.objs.size ≤ b := by
      have e' : b = s1.heap.objs.size + 1 ∨ b = s1.heap.objs.size := by simpa using hb
      rcases e' with z | z
      · subst z; exact Nat.le_succ _
      · subst z; exact Nat.le_refl _
    exact I1.fpOk hle (I1.hok.fresh hle)

/-! ### the keys of a dict -/
def ItD (P : Program) (w : World) (a : Addr) (xs : List (NestedKey × Addr × Value)) (ep : Nat) : L2.It :=
  ⟨fun i H => H a = some (dictO P w a xs ep) ∧ i < xs.length, fun i H x H' => H' = H ∧ ∃ y, xs[i]? = some y ∧ x = .ref y.2.1, fun i H => H a = some (dictO P w a xs ep) ∧ xs.length ≤ i⟩
theorem raw_at {X : Cx} {pins : List (Addr × Obj)} {σ : L2.St} {H : Hp} {s : Shared} (I : Inv X pins σ H s) {a : Addr} {xs : List (NestedKey × Addr × Value)} {ep : Nat} (h : H a = some (dictO X.prog X.w a xs ep)) :
    (a == sysModules) = false ∧ ∃ es, s.heap.DictRaw a es ep ∧ es.size = xs.length ∧ ∀ i (hi : i < es.size), ∃ y, xs[i]? = some y ∧ es[i].key = .ref y.2.1 := by
  obtain ⟨⟨h1, o, es, h2, h3, h4, h5, h6⟩, _⟩ := I.hok _ _ h
  have hl : es.size = xs.length := by
    have := congrArg List.length h5
    simpa using this
  refine ⟨h1, es, ⟨o, h2, h3, h4⟩, hl, fun i hi => ?_⟩
  have e := congrArg (fun l => l[i]?) h5
  simp only [Array.getElem?_toList, List.getElem?_map] at e
  rw [Array.getElem?_eq_getElem hi] at e
  cases q : xs[i]? with
  | none => rw [q] at e; cases e
  | some y =>
    rw [q] at e
    exact ⟨y, rfl, by rw [Option.some.inj e]; rfl⟩
theorem turn_dictK {P : Program} {w : World} {K : PySem.W.Frag} {tg : Expr} (a it : Addr) (xs : List (NestedKey × Addr × Value)) (ep : Nat) : Turn P w K tg (ItD P w a xs ep) [it] it (fun i h => h.IsKeyIter it a i xs.length ep) where
  mem := List.mem_cons_self
  obj := fun i h st b hb => by
    have e : b = it := by simpa using hb
    subst e
    obtain ⟨o, e, c, d⟩ := st
    exact ⟨o, e, fun v z => by rw [d] at z; cases z⟩
  keep := fun i h h' st k => st.at fun o e => k it List.mem_cons_self o e
  item := by
    intro X hP hw hK hc i pins s σ H E I hf st hg
    subst hP hw hK
    obtain ⟨ha, hi⟩ := hg
    obtain ⟨h1, es, hr, hl, hk⟩ := raw_at I ha
    obtain ⟨f0, f1, f2, f3, f4, f5⟩ := hf it List.mem_cons_self
    have st' : s.heap.IsKeyIter it a i es.size ep := by rw [hl]; exact st
    refine wpAny_pyNext_keys_item_raw st' hr (by rw [hl]; exact hi) fun h' st2 sb => ?_
    obtain ⟨y, hy, ey⟩ := hk i (by rw [hl]; exact hi)
    have I1 : Inv X pins σ H { s with heap := h' } := I.turned (t' := s.toks) (fun b o hb e => (sb.2 b hb).trans e) f0 f1 f3 f4 f5
    obtain ⟨o, e, c, d⟩ := id st2
    rw [hl] at st2
    exact ⟨_, rfl, go_of (s := { s with heap := h' }) e c d (by decide) ⟨.ref y.2.1, H, I1, ey, ⟨rfl, y, hy, rfl⟩, st2, fun b hb => (hf b hb).1⟩⟩
  done := by
    intro X hP hw hK hc i pins s σ H E I hf st hg
    subst hP hw hK
    obtain ⟨ha, hi⟩ := hg
    obtain ⟨h1, es, hr, hl, hk⟩ := raw_at I ha
    obtain ⟨f0, f1, f2, f3, f4, f5⟩ := hf it List.mem_cons_self
    have st' : s.heap.IsKeyIter it a i es.size ep := by rw [hl]; exact st
    exact wpAny_pyNext_keys_end_raw (I.ok.hd hc) st' hr (by rw [hl]; exact hi) fun h' eb => ⟨rfl, I.turned (t' := s.toks) (fun b o hb e => eb b o hb e) f0 f1 f3 f4 f5⟩
  self := fun _ _ _ _ _ st h => wpAny_pyIter_keyiter st h
def iDicK (P : Program) (w : World) (td : TE) : TI := fun σ H R => td σ H fun x H1 => ∃ a xs ep, x = .ref a ∧ H1 a = some (dictO P w a xs ep) ∧ R (ItD P w a xs ep) H1
theorem pi_dictK {X : Cx} {tg e : Expr} {td : TE} (he : PE X e td) : PI X tg e (iDicK X.prog X.w td) := by
  refine ⟨fun pins s σ H R I h => ?_⟩
  refine thn (he.run pins s σ H _ I h) fun v s1 ⟨x, H1, I1, r1, a, xs, ep, ex, ha, q⟩ => ?_
  subst ex
  cases r1
  obtain ⟨h1, es, hr, hl, hk⟩ := raw_at I1 ha
  refine wpAny_pyIter_dict_raw h1 hr ?_
  refine ⟨s1.heap.objs.size, [s1.heap.objs.size], _, _, H1, rfl, I1.kept (t' := s1.toks) fun b o e => Heap.get?_push_of_some _ e, turn_dictK a _ xs ep, ⟨_, Heap.get?_push_size _ rfl, rfl, by rw [hl]; rfl⟩, fun b hb => ?_, q⟩
  have e : b = s1.heap.objs.size := by simpa using hb
  rw [e]
  exact I1.fpOk (Nat.le_refl _) (I1.hok.fresh (Nat.le_refl _))
end TW
set_option maxRecDepth 20000
/-! TwM: walks over data. -/
namespace TW
open PySem PySem.Spec PyProof.Rows L2

def orY (Y W : Addr → Prop) : Addr → Prop := fun a => Y a ∨ W a
section
variable {U : Wd} {Y Z W : Addr → Prop} {H : Hp}
mutual
theorem DR.plus : ∀ (d : D) (v : V) (n : Nat), (∀ a, W a → Z a ∧ n = 0) → DR U Y Z H n v d → DR U (orY Y W) Z H n v d
  | _, _, _, _, .non => .non
  | _, _, _, _, .bl b => .bl b
  | _, _, _, _, .int i => .int i
  | _, _, _, _, .str x => .str x
  | _, _, n, q, .lst h y z l r => .lst h (fun e => e.elim y fun e => z (q _ e).2 (q _ e).1) z l (DRs.plus _ _ _ (fun a e => ⟨(q a e).1, by rw [(q a e).2]⟩) r)
  | _, _, n, q, .tup h l r => .tup h l (DRs.plus _ _ _ (fun a e => ⟨(q a e).1, by rw [(q a e).2]⟩) r)
  | _, _, n, q, .dct h y z l r => .dct h (fun e => e.elim y fun e => z (q _ e).2 (q _ e).1) z l (DRs.plus _ _ _ (fun a e => ⟨(q a e).1, by rw [(q a e).2]⟩) r)
theorem DRs.plus : ∀ (ds : List D) (vs : List V) (n : Nat), (∀ a, W a → Z a ∧ n = 0) → DRs U Y Z H n vs ds → DRs U (orY Y W) Z H n vs ds
  | _, _, _, _, .nil => .nil
  | _, _, _, q, .cons h r => .cons (DR.plus _ _ _ q h) (DRs.plus _ _ _ q r)
end
end
/-- the data ds, walked, whatever changes at Yw: each item avoids Z and what wasn't there at the start -/
def WalkD (U : Wd) (Yw Z : Addr → Prop) (J : L2.It) (ds : List D) (H1 : Hp) : Prop :=
  ∀ H, Ext Yw H1 H → ∀ i, (ds.length ≤ i → J.stop i H) ∧ ∀ d, ds[i]? = some d → J.go i H ∧ ∀ x H', J.yld i H x H' → Ext NoZ H H' ∧ DR U Yw (fun a => Z a ∨ H1 a = none) H' 0 x d
def tI (U : Wd) (G : Cfg) (C : Ctx) (it : It) : TI := fun σ H R => ∃ sa Z W m ρ S ds S', Pre U G sa Z ρ S σ H ∧ m ≤ 1 ∧ (∀ a, W a → Z a ∧ m = 0) ∧ Avoid U (sAd sa) Z (avI it m) σ H ρ ∧ evI C it ρ S = some (ds, S') ∧
  ∀ J H1, Ext (sAd sa) H H1 → SrcR sa S' H1 → ds.length ≤ LINE → WalkD U (orY (sAd sa) W) Z J ds H1 → R J H1
theorem _root_.L2.PI.imp {X : Cx} {tg e : Expr} {t t' : TI} (h : PI X tg e t) (q : ∀ σ H R, t' σ H R → t σ H R) : PI X tg e t' := ⟨fun pins s σ H R I hw => h.run pins s σ H R I (q _ _ _ hw)⟩
theorem _root_.L2.PI.or {X : Cx} {tg e : Expr} {t u : TI} (h : PI X tg e t) (k : PI X tg e u) : PI X tg e (fun σ H R => t σ H R ∨ u σ H R) := ⟨fun pins s σ H R I hw => hw.elim (h.run pins s σ H R I) (k.run pins s σ H R I)⟩

section
variable {U : Wd} {Y Z : Addr → Prop} {K : PySem.W.Frag} {H1 : Hp} {a b : Addr} {vs us : List V} {ds es : List D}
abbrev FrZ (Z : Addr → Prop) (H1 : Hp) : Addr → Prop := fun a => Z a ∨ H1 a = none
theorem DR.fr {d : D} {v : V} {n : Nat} (h : DR U Y Z H1 n v d) : DR U Y (FrZ Z H1) H1 n v d := DR.fresh (fun _ q => q) _ _ _ h
theorem DRs.fr {n : Nat} (h : DRs U Y Z H1 n vs ds) : DRs U Y (FrZ Z H1) H1 n vs ds := DRs.fresh (fun _ q => q) _ _ _ h
theorem walk_list (h : H1 a = some (.lst vs)) (y : ¬ Y a) (r : DRs U Y Z H1 0 vs ds) : WalkD U Y Z (Itl K a) ds H1 := by
  intro H e i
  have hl : SqL K H a vs := .inl (.inl (e.keep _ _ h y))
  refine ⟨fun q => ⟨vs, hl, by rw [r.length]; exact q⟩, fun d hd => ?_⟩
  obtain ⟨v, h1, h2⟩ := r.fr.get hd
  refine ⟨⟨vs, v, hl, h1⟩, ?_⟩
  rintro x H' ⟨rfl, q⟩
  have := q vs hl
  rw [h1] at this; cases this
  exact ⟨.refl H', DR.ext e _ _ _ h2⟩
theorem walk_tup (h : H1 a = some (.tup vs)) (r : DRs U Y Z H1 0 vs ds) : WalkD U Y Z (Itt K a) ds H1 := by
  intro H e i
  have hl : SqT K H a vs := .inl (.inl (e.sqT h))
  refine ⟨fun q => ⟨vs, hl, by rw [r.length]; exact q⟩, fun d hd => ?_⟩
  obtain ⟨v, h1, h2⟩ := r.fr.get hd
  refine ⟨⟨vs, v, hl, h1⟩, ?_⟩
  rintro x H' ⟨rfl, q⟩
  have := q vs hl
  rw [h1] at this; cases this
  exact ⟨.refl H', DR.ext e _ _ _ h2⟩
theorem range_get : ∀ (n i : Nat) (lo : Int), (rangeD lo n)[i]? = if i < n then some (.int (lo + i)) else none
  | 0, i, lo => by simp [rangeD]
  | n + 1, 0, lo => by simp [rangeD]
  | n + 1, i + 1, lo => by
    rw [show rangeD lo (n + 1) = .int lo :: rangeD (lo + 1) n from rfl, List.getElem?_cons_succ, range_get n i (lo + 1)]
    by_cases h : i < n
    · rw [if_pos h, if_pos (by omega)]
      congr 2
      push_cast
      omega
    · rw [if_neg h, if_neg (by omega)]
theorem range_len : ∀ (n : Nat) (lo : Int), (rangeD lo n).length = n
  | 0, _ => rfl
  | n + 1, lo => by rw [show rangeD lo (n + 1) = .int lo :: rangeD (lo + 1) n from rfl, List.length_cons, range_len n]
theorem walk_rng (lo : Int) (n : Nat) : WalkD U Y Z (Itr lo n) (rangeD lo n) H1 := by
  intro H e i
  refine ⟨fun q => by rw [range_len] at q; exact q, fun d hd => ?_⟩
  rw [range_get] at hd
  split at hd
  · rename_i hi
    cases hd
    refine ⟨hi, ?_⟩
    rintro x H' ⟨rfl, rfl⟩
    exact ⟨.refl H', .int _⟩
  · cases hd
theorem enum_get : ∀ (ds : List D) (i : Nat) (k : Int), (enumD k ds)[i]? = (ds[i]?).map fun x => .tuple [.int (k + i), x]
  | [], i, k => by simp [enumD]
  | d :: ds, 0, k => by simp [enumD]
  | d :: ds, i + 1, k => by
    rw [show enumD k (d :: ds) = .tuple [.int k, d] :: enumD (k + 1) ds from rfl, List.getElem?_cons_succ, enum_get ds i (k + 1), List.getElem?_cons_succ]
    congr 1
    funext x
    congr 2
    congr 1
    push_cast
    omega
theorem enum_len : ∀ (ds : List D) (k : Int), (enumD k ds).length = ds.length
  | [], _ => rfl
  | d :: ds, k => by rw [show enumD k (d :: ds) = .tuple [.int k, d] :: enumD (k + 1) ds from rfl, List.length_cons, enum_len ds, List.length_cons]
theorem pair_dr {Z' : Addr → Prop} {H : Hp} {T : Addr} {x y : V} {d e : D} (n : H T = none) (h1 : DR U Y Z' H 0 x d) (h2 : DR U Y Z' H 0 y e) : DR U Y Z' (upd H T (.tup [x, y])) 0 (.ref T) (.tuple [d, e]) :=
  .tup upd_same (by simp [LINE]) (.cons (DR.ext (.new n) _ _ _ h1) (.cons (DR.ext (.new n) _ _ _ h2) .nil))
theorem walk_enuL (h : H1 a = some (.lst vs)) (y : ¬ Y a) (r : DRs U Y Z H1 0 vs ds) : WalkD U Y Z (Ite K a) (enumD 0 ds) H1 := by
  intro H e i
  have hl : SqL K H a vs := .inl (.inl (e.keep _ _ h y))
  refine ⟨fun q => ⟨vs, hl, by rw [r.length, ← enum_len ds 0]; exact q⟩, fun d hd => ?_⟩
  rw [enum_get] at hd
  obtain ⟨d', h0, rfl⟩ := Option.map_eq_some_iff.mp hd
  obtain ⟨v, h1, h2⟩ := r.fr.get h0
  refine ⟨⟨vs, v, hl, h1⟩, ?_⟩
  rintro x H' ⟨T, x', rfl, hT, rfl, q⟩
  have := q vs hl
  rw [h1] at this; cases this
  refine ⟨.new hT, ?_⟩
  rw [Int.zero_add]
  exact pair_dr hT (.int _) (DR.ext e _ _ _ h2)
theorem walk_enuT (h : H1 a = some (.tup vs)) (r : DRs U Y Z H1 0 vs ds) : WalkD U Y Z (ItT K a) (enumD 0 ds) H1 := by
  intro H e i
  have hl : SqT K H a vs := .inl (.inl (e.sqT h))
  refine ⟨fun q => ⟨vs, hl, by rw [r.length, ← enum_len ds 0]; exact q⟩, fun d hd => ?_⟩
  rw [enum_get] at hd
  obtain ⟨d', h0, rfl⟩ := Option.map_eq_some_iff.mp hd
  obtain ⟨v, h1, h2⟩ := r.fr.get h0
  refine ⟨⟨vs, v, hl, h1⟩, ?_⟩
  rintro x H' ⟨T, x', rfl, hT, rfl, q⟩
  have := q vs hl
  rw [h1] at this; cases this
  refine ⟨.new hT, ?_⟩
  rw [Int.zero_add]
  exact pair_dr hT (.int _) (DR.ext e _ _ _ h2)
theorem zip_get : ∀ (ds es : List D) (i : Nat) (d : D), (zipD ds es)[i]? = some d → ∃ x y, ds[i]? = some x ∧ es[i]? = some y ∧ d = .tuple [x, y]
  | [], _, i, d, h => by simp [zipD] at h
  | _ :: _, [], i, d, h => by simp [zipD] at h
  | x :: ds, y :: es, 0, d, h => by
    simp [zipD] at h
    exact ⟨x, y, rfl, rfl, h.symm⟩
  | x :: ds, y :: es, i + 1, d, h => by
    simp only [zipD, List.getElem?_cons_succ] at h ⊢
    exact zip_get ds es i d h
theorem zip_len : ∀ (ds es : List D) (i : Nat), (zipD ds es).length ≤ i → ds.length ≤ i ∨ es.length ≤ i
  | [], _, i, h => .inl (Nat.zero_le _)
  | _ :: _, [], i, h => .inr (Nat.zero_le _)
  | x :: ds, y :: es, 0, h => by simp [zipD] at h
  | x :: ds, y :: es, i + 1, h => by
    simp only [zipD, List.length_cons] at h
    rcases zip_len ds es i (by omega) with q | q
    · exact .inl (by simp; omega)
    · exact .inr (by simp; omega)
theorem zip_le : ∀ (ds es : List D), (zipD ds es).length ≤ ds.length
  | [], _ => Nat.le_refl _
  | _ :: _, [] => Nat.zero_le _
  | x :: ds, y :: es => by
    simp only [zipD, List.length_cons]
    exact Nat.succ_le_succ (zip_le ds es)
theorem walk_zipL (h : H1 a = some (.lst vs)) (y : ¬ Y a) (r : DRs U Y Z H1 0 vs ds) (h' : H1 b = some (.lst us)) (y' : ¬ Y b) (r' : DRs U Y Z H1 0 us es) : WalkD U Y Z (Itz K a b) (zipD ds es) H1 := by
  intro H e i
  have hl : SqL K H a vs := .inl (.inl (e.keep _ _ h y))
  have hl' : SqL K H b us := .inl (.inl (e.keep _ _ h' y'))
  refine ⟨fun q => ⟨vs, us, hl, hl', by rw [r.length, r'.length]; exact zip_len _ _ _ q⟩, fun d hd => ?_⟩
  obtain ⟨d1, d2, g1, g2, rfl⟩ := zip_get _ _ _ _ hd
  obtain ⟨v, h1, h2⟩ := r.fr.get g1
  obtain ⟨v', h1', h2'⟩ := r'.fr.get g2
  refine ⟨⟨vs, us, v, v', hl, hl', h1, h1'⟩, ?_⟩
  rintro x H' ⟨T, x', y', rfl, hT, rfl, q, q'⟩
  have := q vs hl
  rw [h1] at this; cases this
  have := q' us hl'
  rw [h1'] at this; cases this
  exact ⟨.new hT, pair_dr hT (DR.ext e _ _ _ h2) (DR.ext e _ _ _ h2')⟩
theorem walk_zipT (h : H1 a = some (.tup vs)) (r : DRs U Y Z H1 0 vs ds) (h' : H1 b = some (.tup us)) (r' : DRs U Y Z H1 0 us es) : WalkD U Y Z (RZ.ItzT K a b) (zipD ds es) H1 := by
  intro H e i
  have hl : SqT K H a vs := .inl (.inl (e.sqT h))
  have hl' : SqT K H b us := .inl (.inl (e.sqT h'))
  refine ⟨fun q => ⟨vs, us, hl, hl', by rw [r.length, r'.length]; exact zip_len _ _ _ q⟩, fun d hd => ?_⟩
  obtain ⟨d1, d2, g1, g2, rfl⟩ := zip_get _ _ _ _ hd
  obtain ⟨v, h1, h2⟩ := r.fr.get g1
  obtain ⟨v', h1', h2'⟩ := r'.fr.get g2
  refine ⟨⟨vs, us, v, v', hl, hl', h1, h1'⟩, ?_⟩
  rintro x H' ⟨T, x', y', rfl, hT, rfl, q, q'⟩
  have := q vs hl
  rw [h1] at this; cases this
  have := q' us hl'
  rw [h1'] at this; cases this
  exact ⟨.new hT, pair_dr hT (DR.ext e _ _ _ h2) (DR.ext e _ _ _ h2')⟩
theorem paired_get {α β : Type} {P : α → β → Prop} : ∀ {xs : List α} {ys : List β} {i : Nat} {x : α}, Paired P xs ys → xs[i]? = some x → ∃ y, ys[i]? = some y ∧ P x y
  | _, _, _, _, .nil, h => by simp at h
  | _, _, 0, _, .cons p _, h => by simp at h; subst h; exact ⟨_, rfl, p⟩
  | _, _, i + 1, _, .cons _ r, h => by
    obtain ⟨y, h1, h2⟩ := paired_get (i := i) r (by simpa using h)
    exact ⟨y, by simpa using h1, h2⟩
theorem walk_dct {xs : List (NestedKey × Addr × Value)} {ep : Nat} {kvs : List (D × D)} {n : Nat} (h : H1 a = some (dictO U.P U.w a xs ep)) (y : ¬ Y a) (r : Ents U.K U Y Z H1 n xs kvs vs) : WalkD U Y Z (ItD U.P U.w a xs ep) (kvs.map (·.1)) H1 := by
  intro H e i
  have hl := e.keep _ _ h y
  obtain ⟨r1, _, _, r4⟩ := r.split
  refine ⟨fun q => ⟨hl, by rw [r4]; simpa using q⟩, fun d hd => ?_⟩
  have hi : i < xs.length := by
    have := (List.getElem?_eq_some_iff.mp hd).1
    rw [r4]; simpa using this
  refine ⟨⟨hl, hi⟩, ?_⟩
  rintro x H' ⟨rfl, z, hz, rfl⟩
  obtain ⟨d', h1, h2⟩ := paired_get r1 hz
  rw [hd] at h1; cases h1
  exact ⟨.refl H', PlR.dr _ _ _ (PlR.ext e _ _ h2.2.2)⟩
end

section
variable {U : Wd} {G : Cfg} {C : Ctx} {k : Nat} {X : Cx} {a b c : Ex} {pos : Pos} {tg : Expr}
theorem wNone {sa : SA} {Z W : Addr → Prop} {m : Nat} {H1 : Hp} {v : V} {d : D} (hm : m ≤ 1) (hW : ∀ a, W a → Z a ∧ m = 0) (h : DR U (sAd sa) Z H1 m v d) : DR U (orY (sAd sa) W) Z H1 m v d := DR.plus _ _ _ hW h
theorem i_dat (ok : XOk U G C k X) {e : Expr} (ha : PE X e (tE U G C a)) : PI X tg e (tI U G C (.dat a)) := by
  refine ((pi_list ha).or ((pi_tup ha).or (pi_dictK ha))).imp fun σ H R q => ?_
  obtain ⟨sa, Z, W, m, ρ, S, ds, S', pre, hm, hW, av, ev, q⟩ := q
  simp only [evI] at ev
  split at ev
  · rename_i x S1 e1
    obtain ⟨ds', e2, e3⟩ := Option.map_eq_some_iff.mp ev
    cases e3
    cases x <;> simp only [itemsOf] at e2 <;> try cases e2
    · refine .inl ⟨sa, Z, m, ρ, S, _, _, pre, av, e1, fun u H1 p1 => ?_⟩
      obtain ⟨l, vs, rfl, hl, yl, zl, ll, rl⟩ := (wNone hm hW p1.dr).lst_inv
      exact ⟨l, rfl, ⟨vs, .inl (.inl hl)⟩, q _ _ p1.ext p1.sr ll (walk_list hl yl (by rwa [show m - 1 = 0 by omega] at rl))⟩
    · refine .inr (.inl ⟨sa, Z, m, ρ, S, _, _, pre, av, e1, fun u H1 p1 => ?_⟩)
      obtain ⟨l, vs, rfl, hl, ll, rl⟩ := (wNone hm hW p1.dr).tup_inv
      exact ⟨l, rfl, ⟨vs, .inl (.inl hl)⟩, q _ _ p1.ext p1.sr ll (walk_tup hl (by rwa [show m - 1 = 0 by omega] at rl))⟩
    · refine .inr (.inr ⟨sa, Z, m, ρ, S, _, _, pre, av, e1, fun u H1 p1 => ?_⟩)
      obtain ⟨l, xs, vs, ep, rfl, hl, ll, yl, zl, rl⟩ := (wNone hm hW p1.dr).dct_inv
      rw [ok.hP, ok.hW]
      exact ⟨l, xs, ep, rfl, hl, q _ _ p1.ext p1.sr (by rw [List.length_map, ← rl.split.2.2.2]; exact ll) (walk_dct hl yl rl)⟩
  · cases ev
theorem rngOk_of {i : Int} (h : rngOk i = true) : -(2 ^ 62) ≤ i ∧ i < 2 ^ 62 := by
  unfold rngOk at h
  simpa using h
theorem bl_name (ok : XOk U G C k X) {x : Str} (h : x ∈ builtinNames) : X.mg x = none := ok.bl x h
theorem i_rng1 (ok : XOk U G C k X) {x : Str} {xe : Expr} {p : Pos} (hx : x = ("range" : Str)) (hg : glB X.env.scope x = true) (ns : noStar xe = true) (ha : PE X xe (tE U G C a)) : PI X tg (.Call (.Name x p) [xe] [] pos) (tI U G C (.rng1 a)) := by
  subst hx
  obtain ⟨g1, g2⟩ := glB_of hg
  refine (pi_range1 g1 (ok.bl _ (by simp [builtinNames])) (s_arg ns ha) (star_plain ns _ _)).imp fun σ H R q => ?_
  obtain ⟨sa, Z, W, m, ρ, S, ds, S', pre, hm, hW, av, ev, q⟩ := q
  simp only [evI] at ev
  split at ev
  · rename_i j S1 e1
    split at ev
    · rename_i hc
      cases ev
      simp only [Bool.and_eq_true, decide_eq_true_eq] at hc
      refine any1 pre e1 fun u H2 ex sr du => ?_
      cases du.int_inv
      exact ⟨j, rfl, (rngOk_of hc.1).1, (rngOk_of hc.1).2, q _ _ ex sr (by rw [range_len]; exact hc.2) (walk_rng _ _)⟩
    · cases ev
  · cases ev
theorem i_rng2 (ok : XOk U G C k X) {x : Str} {xe ye : Expr} {p : Pos} (hx : x = ("range" : Str)) (hg : glB X.env.scope x = true) (ns : noStar xe = true) (ns' : noStar ye = true) (ha : PE X xe (tE U G C a)) (hb : PE X ye (tE U G C b)) :
    PI X tg (.Call (.Name x p) [xe, ye] [] pos) (tI U G C (.rng2 a b)) := by
  subst hx
  obtain ⟨g1, g2⟩ := glB_of hg
  refine (pi_range2 g1 (ok.bl _ (by simp [builtinNames])) (pa_cons ha (s_arg ns' hb) (star_plain ns _ _)) (by rw [star_plain ns, star_plain ns']; rfl) (star_plain ns' _ _)).imp fun σ H R q => ?_
  obtain ⟨sa, Z, W, m, ρ, S, ds, S', pre, hm, hW, av, ev, q⟩ := q
  simp only [evI] at ev
  split at ev
  · rename_i i S1 e1
    split at ev
    · rename_i j S2 e2
      split at ev
      · rename_i hc
        cases ev
        simp only [Bool.and_eq_true, decide_eq_true_eq] at hc
        refine any2 pre e1 e2 fun u v H2 ex sr du dv => ?_
        cases du.int_inv; cases dv.int_inv
        exact ⟨i, j, rfl, ⟨(rngOk_of hc.1.1).1, (rngOk_of hc.1.1).2, (rngOk_of hc.1.2).1, (rngOk_of hc.1.2).2⟩, q _ _ ex sr (by rw [range_len]; exact hc.2) (walk_rng _ _)⟩
      · cases ev
    · cases ev
  · cases ev
theorem i_enu (ok : XOk U G C k X) {x : Str} {xe : Expr} {p tpos : Pos} {elts : List Expr} {kk : Nat} (hx : x = ("enumerate" : Str)) (hg : glB X.env.scope x = true) (ns : noStar xe = true) (ha : PE X xe (tE U G C a)) :
    PI X (.Tuple elts kk tpos) (.Call (.Name x p) [xe] [] pos) (tI U G C (.enu a)) := by
  subst hx
  obtain ⟨g1, g2⟩ := glB_of hg
  have hm := ok.bl "enumerate" (by simp [builtinNames])
  refine ((pi_enum g1 hm (s_arg ns ha) (star_plain ns _ _)).or (pi_enuT g1 hm (s_arg ns ha) (star_plain ns _ _))).imp fun σ H R q => ?_
  obtain ⟨sa, Z, W, m, ρ, S, ds, S', pre, hm, hW, av, ev, q⟩ := q
  simp only [evI] at ev
  split at ev
  · rename_i xs S1 e1
    cases ev
    refine .inl ⟨sa, Z, m, ρ, S, _, _, pre, av, e1, fun u H1 p1 => ?_⟩
    obtain ⟨l, vs, rfl, hl, yl, zl, ll, rl⟩ := (wNone hm hW p1.dr).lst_inv
    exact ⟨l, vs, rfl, .inl (.inl hl), q _ _ p1.ext p1.sr (by rw [enum_len]; exact ll) (walk_enuL hl yl (by rwa [show m - 1 = 0 by omega] at rl))⟩
  · rename_i xs S1 e1
    cases ev
    refine .inr ⟨sa, Z, m, ρ, S, _, _, pre, av, e1, fun u H1 p1 => ?_⟩
    obtain ⟨l, vs, rfl, hl, ll, rl⟩ := (wNone hm hW p1.dr).tup_inv
    exact ⟨l, vs, rfl, .inl (.inl hl), q _ _ p1.ext p1.sr (by rw [enum_len]; exact ll) (walk_enuT hl (by rwa [show m - 1 = 0 by omega] at rl))⟩
  · cases ev
theorem i_zip (ok : XOk U G C k X) {x : Str} {xe ye : Expr} {p tpos : Pos} {elts : List Expr} {kk : Nat} (hx : x = ("zip" : Str)) (hg : glB X.env.scope x = true) (ns : noStar xe = true) (ns' : noStar ye = true) (ha : PE X xe (tE U G C a)) (hb : PE X ye (tE U G C b)) :
    PI X (.Tuple elts kk tpos) (.Call (.Name x p) [xe, ye] [] pos) (tI U G C (.zip a b)) := by
  subst hx
  obtain ⟨g1, g2⟩ := glB_of hg
  refine (RZ.pi_zipA g1 (ok.bl _ (by simp [builtinNames])) (pa_cons ha (s_arg ns' hb) (star_plain ns _ _)) (star_plain ns _ _) (by rw [star_plain ns']; rfl)).imp fun σ H R q => ?_
  obtain ⟨sa, Z, W, m, ρ, S, ds, S', pre, hm, hW, av, ev, q⟩ := q
  simp only [evI] at ev
  split at ev
  · rename_i x S1 e1
    split at ev
    · rename_i y S2 e2
      refine ⟨sa, Z, m, ρ, S, x, S1, pre, av.left, e1, fun u H1 p1 => ?_⟩
      refine ⟨sa, Z, m, ρ, S1, y, S2, pre.step p1.ext p1.sr, av.right.step p1.ext, e2, fun v H2 p2 => ?_⟩
      have ex := p1.ext.trans p2.ext
      have d1 := wNone hm hW (DR.ext p2.ext _ _ _ p1.dr)
      have d2 := wNone hm hW p2.dr
      split at ev
      · cases ev
        obtain ⟨l, vs, rfl, hl, yl, zl, ll, rl⟩ := d1.lst_inv
        obtain ⟨l', vs', rfl, hl', yl', zl', ll', rl'⟩ := d2.lst_inv
        rw [show m - 1 = 0 by omega] at rl rl'
        exact ⟨l, l', vs, vs', rfl, .inl ⟨.inl (.inl hl), .inl (.inl hl'), q _ _ ex p2.sr (Nat.le_trans (zip_le _ _) ll) (walk_zipL hl yl rl hl' yl' rl')⟩⟩
      · cases ev
        obtain ⟨l, vs, rfl, hl, ll, rl⟩ := d1.tup_inv
        obtain ⟨l', vs', rfl, hl', ll', rl'⟩ := d2.tup_inv
        rw [show m - 1 = 0 by omega] at rl rl'
        exact ⟨l, l', vs, vs', rfl, .inr ⟨.inl (.inl hl), .inl (.inl hl'), q _ _ ex p2.sr (Nat.le_trans (zip_le _ _) ll) (walk_zipT hl rl hl' rl')⟩⟩
      · cases ev
    · cases ev
  · cases ev
end
end TW
set_option maxRecDepth 20000
/-! TwN: targets; list comprehensions. -/
namespace TW
open PySem PySem.Spec PyProof.Rows L2

/-! ### targets -/
def gNs : List Nat → TGs
  | [] => gNil
  | i :: is => gCons (gName i) (gNs is)
def gT (K : PySem.W.Frag) : Tg → TG
  | .nm i => gName i
  | .tp is => gTup K is.length (gNs is)
def tgL : Tg → List Nat
  | .nm i => [i]
  | .tp is => is
theorem locOk_of {G : Cfg} {sc : Scope} {fn : Str → Bool} {i : Nat} {x : Str} (h : locOk G sc fn i x = true) : G.N[i]? = some x ∧ L2.Loc sc x ∧ (fn x = true ∨ sc.names.lookup x = some .local) := by
  unfold locOk at h
  simp only [Bool.and_eq_true, decide_eq_true_eq] at h
  obtain ⟨h1, h2⟩ := h
  unfold L2.Loc
  split at h2
  · rename_i e; exact ⟨h1, .inl e, .inr e⟩
  · rename_i e; exact ⟨h1, .inr e, .inl h2⟩
  · cases h2
theorem pgs_of {G : Cfg} {X : Cx} {fn : Str → Bool} (hN : X.N = G.N) (nd : X.N.Nodup) (hf : ∀ x, fn x = true → X.fn x = true) : ∀ {is : List Nat} {es : List Expr}, okNames G X.env.scope fn is es = true →
    PGs X es (gNs is) ∧ (assignEach es X.env).length = is.length ∧ (assignEach es X.env).findIdx? (·.1) = none
  | [], [], _ => ⟨pgs_nil, rfl, rfl⟩
  | [], _ :: _, h => by simp [okNames] at h
  | _ :: _, [], h => by simp [okNames] at h
  | i :: is, e :: es, h => by
    cases e with
    | Name x p =>
      simp only [okNames, Bool.and_eq_true] at h
      obtain ⟨h1, h2, h3⟩ := locOk_of h.1
      obtain ⟨g1, g2, g3⟩ := pgs_of hN nd hf h.2
      refine ⟨pgs_cons (pg_name nd (by rw [hN]; exact h1) h2 (h3.imp (hf x) id)) g1 rfl, ?_, ?_⟩
      · rw [show assignEach (.Name x p :: es) X.env = (false, assign (.Name x p) X.env) :: assignEach es X.env from rfl, List.length_cons, g2, List.length_cons]
      · rw [show assignEach (.Name x p :: es) X.env = (false, assign (.Name x p) X.env) :: assignEach es X.env from rfl, List.findIdx?_cons, g3]
        rfl
    | _ => simp [okNames] at h
theorem pg_of {G : Cfg} {X : Cx} {fn : Str → Bool} (hN : X.N = G.N) (nd : X.N.Nodup) (hc : X.calm = true) (hf : ∀ x, fn x = true → X.fn x = true) {tg : Tg} {t : Expr} (h : okTg G X.env.scope fn tg t = true) : PG X t (gT X.K tg) := by
  cases tg with
  | nm i =>
    cases t with
    | Name x p =>
      obtain ⟨h1, h2, h3⟩ := locOk_of (show locOk G X.env.scope fn i x = true from h)
      exact pg_name nd (by rw [hN]; exact h1) h2 (h3.imp (hf x) id)
    | _ => simp [okTg] at h
  | tp is =>
    cases t with
    | Tuple es kk p =>
      obtain ⟨g1, g2, g3⟩ := pgs_of hN nd hf (show okNames G X.env.scope fn is es = true from h)
      exact pg_tup hc g1 g2 g3
    | _ => simp [okTg] at h
/-- names set -/
structure TgR (U : Wd) (Y Z : Addr → Prop) (H : Hp) (is : List Nat) (ρ ρ1 : DEnv) (σ σ1 : L2.St) : Prop where
  len : ρ1.length = ρ.length
  lens : σ1.length = σ.length
  out : ∀ i, i ∉ is → ρ1[i]? = ρ[i]? ∧ σ1[i]? = σ[i]?
  inn : ∀ i ∈ is, ∀ d, ρ1[i]? = some (some d) → ∃ v, σ1[i]? = some (some v) ∧ DR U Y Z H 0 v d
section
variable {U : Wd} {Y Z : Addr → Prop} {H : Hp} {K : PySem.W.Frag}
theorem set_get {α : Type} {l : List (Option α)} {i : Nat} {a d : α} (h : (l.set i (some a))[i]? = some (some d)) : i < l.length ∧ d = a := by
  rw [List.getElem?_set] at h
  simp only [if_true] at h
  split at h
  · rename_i q
    exact ⟨q, by cases h; rfl⟩
  · cases h
theorem TgR.one {i : Nat} {ρ : DEnv} {σ : L2.St} {v : V} {d : D} (l : σ.length = ρ.length) (h : DR U Y Z H 0 v d) : TgR U Y Z H [i] ρ (ρ.set i (some d)) σ (σ.set i (some v)) := by
  refine ⟨by simp, by simp, fun j hj => ?_, fun j hj d' hd => ?_⟩
  · have : i ≠ j := fun e => hj (by simp [e])
    rw [List.getElem?_set_ne this, List.getElem?_set_ne this]
    exact ⟨rfl, rfl⟩
  · have e : j = i := by simpa using hj
    subst e
    obtain ⟨h1, rfl⟩ := set_get hd
    exact ⟨v, by rw [List.getElem?_set]; simp [l, h1], h⟩
theorem gNs_run : ∀ {is : List Nat} {vs : List V} {ds : List D} {ρ : DEnv} {σ : L2.St} {Q : L2.St → Hp → Prop}, DRs U Y Z H 0 vs ds → is.length = ds.length → σ.length = ρ.length →
    (∀ σ1, TgR U Y Z H is ρ ((is.zip ds).foldl (fun ρ p => ρ.set p.1 (some p.2)) ρ) σ σ1 → Q σ1 H) → gNs is vs σ H Q
  | [], _, _, ρ, σ, Q, .nil, _, l, q => ⟨rfl, q σ ⟨rfl, rfl, fun _ _ => ⟨rfl, rfl⟩, fun _ h => by simp at h⟩⟩
  | [], _, _, _, _, _, .cons _ _, e, _, _ => by simp at e
  | _ :: _, _, _, _, _, _, .nil, e, _, _ => by simp at e
  | i :: is, _, _, ρ, σ, Q, .cons (v := v) (d := d) h r, e, l, q => by
    refine ⟨v, _, rfl, ?_⟩
    have o := TgR.one (U := U) (Y := Y) (Z := Z) (H := H) (i := i) l h
    refine gNs_run (ρ := ρ.set i (some d)) (σ := σ.set i (some v)) r (by simpa using e) (by simp [l]) fun σ1 t => q σ1 ?_
    refine ⟨t.len.trans o.len, t.lens.trans o.lens, fun j hj => ?_, fun j hj d' hd => ?_⟩
    · have h1 : j ∉ is := fun m => hj (List.mem_cons_of_mem _ m)
      have h2 : j ∉ [i] := fun m => hj (by simp at m; simp [m])
      exact ⟨(t.out j h1).1.trans (o.out j h2).1, (t.out j h1).2.trans (o.out j h2).2⟩
    · by_cases h1 : j ∈ is
      · exact t.inn j h1 d' hd
      · have h2 : j ∈ [i] := by
          rcases List.mem_cons.mp hj with e | e
          · simp [e]
          · exact absurd e h1
        rw [show ((i :: is).zip (d :: _)).foldl (fun ρ p => ρ.set p.1 (some p.2)) ρ = (is.zip _).foldl (fun ρ p => ρ.set p.1 (some p.2)) (ρ.set i (some d)) from rfl, (t.out j h1).1] at hd
        rw [(t.out j h1).2]
        exact o.inn j h2 d' hd
theorem gT_run {tg : Tg} {v : V} {d : D} {ρ ρ1 : DEnv} {σ : L2.St} {Q : L2.St → Hp → Prop} (h : DR U Y Z H 0 v d) (e : setTg tg d ρ = some ρ1) (l : σ.length = ρ.length) (q : ∀ σ1, TgR U Y Z H (tgL tg) ρ ρ1 σ σ1 → Q σ1 H) : gT K tg v σ H Q := by
  cases tg with
  | nm i =>
    cases e
    exact q _ (.one l h)
  | tp is =>
    cases d <;> simp only [setTg] at e <;> try cases e
    split at e
    · rename_i hl
      cases e
      obtain ⟨a, vs, rfl, ha, ll, r⟩ := h.tup_inv
      exact ⟨a, vs, rfl, .inl (.inl ha), by rw [r.length, hl], gNs_run r hl l q⟩
    · cases e
end

/-! ### wiped names -/
theorem wipeE_len (ρ : DEnv) : ∀ vs : List Nat, (wipeE ρ vs).length = ρ.length
  | [] => rfl
  | v :: vs => by unfold wipeE; rw [List.length_set, wipeE_len ρ vs]
theorem wipeE_some {ρ : DEnv} {i : Nat} {x : D} : ∀ {vs : List Nat}, (wipeE ρ vs)[i]? = some (some x) → ρ[i]? = some (some x) ∧ i ∉ vs
  | [], h => ⟨h, by simp⟩
  | v :: vs, h => by
    unfold wipeE at h
    by_cases hi : v = i
    · subst hi
      rw [List.getElem?_set] at h
      simp only [if_true] at h
      split at h <;> cases h
    · rw [List.getElem?_set_ne hi] at h
      obtain ⟨h1, h2⟩ := wipeE_some h
      exact ⟨h1, by simp [h2, Ne.symm hi]⟩
theorem wipe_in {σ : L2.St} {i : Nat} : ∀ {vs : List Nat}, i ∈ vs → (wipe σ vs)[i]? = if i < σ.length then some none else none
  | [], h => by simp at h
  | v :: vs, h => by
    unfold wipe
    by_cases hi : v = i
    · subst hi
      rw [List.getElem?_set]
      simp [wipe_length]
    · rw [List.getElem?_set_ne hi]
      exact wipe_in (by rcases List.mem_cons.mp h with e | e; exact absurd e.symm hi; exact e)
theorem wipe_same {σ σ1 : L2.St} {vs : List Nat} (l : σ1.length = σ.length) (h : ∀ i, i ∉ vs → σ1[i]? = σ[i]?) : wipe σ1 vs = wipe σ vs := by
  refine List.ext_getElem? fun i => ?_
  by_cases hi : i ∈ vs
  · rw [wipe_in hi, wipe_in hi, l]
  · rw [wipe_out hi, wipe_out hi, h i hi]

/-! ### the blocks of comprehensions -/
section
variable {U : Wd} {G : Cfg} {C : Ctx} {k : Nat} {X : Cx}
theorem XOk.blk (ok : XOk U G C k X) (s : Shared) (H : Hp) (scope : Scope) (cenv : PySem.Env) (fp : List Addr) : XOk U G C k (X.blk s H scope cenv fp) :=
  ⟨ok.hP, ok.hW, ok.hK, ok.hN, ok.cal, ok.nd, ok.rm, ok.gd, rfl, ok.bl, ok.clen, ok.fn, ok.pk⟩
end
section
variable {U : Wd} {Y Z : Addr → Prop} {H : Hp} {a : Addr}
theorem DR.also1 {d : D} {v : V} (ha : Z a) (ne : isCon d = true → v ≠ .ref a) (h : DR U Y Z H 1 v d) : DR U (orAt Y a) Z H 1 v d := by
  cases h with
  | non => exact .non
  | bl b => exact .bl b
  | int i => exact .int i
  | str x => exact .str x
  | lst h y z l r => exact .lst h (fun e => e.elim y fun e => ne rfl (by rw [e])) z l (DRs.also ha _ _ _ rfl r)
  | tup h l r => exact .tup h l (DRs.also ha _ _ _ rfl r)
  | dct h y z l r => exact .dct h (fun e => e.elim y fun e => ne rfl (by rw [e])) z l (DRs.also ha _ _ _ rfl r)
mutual
theorem DR.back : ∀ (d : D) (v : V) (n : Nat), DR U (orAt Y a) Z H n v d → DR U Y (fun b => Z b ∨ b = a) H n v d
  | _, _, _, .non => .non
  | _, _, _, .bl b => .bl b
  | _, _, _, .int i => .int i
  | _, _, _, .str x => .str x
  | _, _, _, .lst h y z l r => .lst h (fun e => y (.inl e)) (fun e q => q.elim (z e) fun q => y (.inr q)) l (DRs.back _ _ _ r)
  | _, _, _, .tup h l r => .tup h l (DRs.back _ _ _ r)
  | _, _, _, .dct h y z l r => .dct h (fun e => y (.inl e)) (fun e q => q.elim (z e) fun q => y (.inr q)) l (DRs.back _ _ _ r)
theorem DRs.back : ∀ (ds : List D) (vs : List V) (n : Nat), DRs U (orAt Y a) Z H n vs ds → DRs U Y (fun b => Z b ∨ b = a) H n vs ds
  | _, _, _, .nil => .nil
  | _, _, _, .cons h r => .cons (DR.back _ _ _ h) (DRs.back _ _ _ r)
end
theorem OwnEl.append : ∀ {vs us : List V} {ds es : List D} {A B : List Addr}, OwnEl U H vs ds A → OwnEl U H us es B → OwnEl U H (vs ++ us) (ds ++ es) (A ++ B)
  | _, _, _, _, _, _, .nil, s => s
  | _, _, _, _, _, _, .lst h r, s => .lst h (OwnEl.append r s)
  | _, _, _, _, _, _, .dct h r, s => .dct h (OwnEl.append r s)
  | _, _, _, _, _, _, .oth h r, s => .oth h (OwnEl.append r s)
theorem OwnEl.live : ∀ {vs : List V} {ds : List D} {A : List Addr}, OwnEl U H vs ds A → ∀ b ∈ A, ∃ o : HO, H b = some o
  | _, _, _, .nil, b, h => by simp at h
  | _, _, _, .lst h r, b, hb => by
    rcases List.mem_cons.mp hb with e | e
    · rw [e]; exact ⟨_, h⟩
    · exact r.live b e
  | _, _, _, .dct h r, b, hb => by
    rcases List.mem_cons.mp hb with e | e
    · rw [e]; exact ⟨_, h⟩
    · exact r.live b e
  | _, _, _, .oth h r, b, hb => r.live b hb
/-- an item just made, as an item of a list that owns its lists -/
theorem Own.el {v : V} {d : D} {A : List Addr} (h : Own U H 1 v d A) : ∃ B, OwnEl U H [v] [d] B ∧ (∀ b ∈ B, b ∈ A) ∧ B.Nodup ∧ (isCon d = true → ∃ b ∈ A, v = .ref b) := by
  cases h with
  | oth q => exact ⟨[], .oth q .nil, fun _ h => by simp at h, List.nodup_nil, fun e => by rw [q] at e; cases e⟩
  | lst1 q => exact ⟨_, .lst q .nil, fun _ h => h, by simp, fun _ => ⟨_, by simp, rfl⟩⟩
  | dct q1 q2 => exact ⟨_, .dct q2 .nil, fun _ h => h, by simp, fun _ => ⟨_, by simp, rfl⟩⟩
end
/-- what a comprehension's list is so far; H1: where its walk began -/
structure LcI (U : Wd) (sa : SA) (Z : Addr → Prop) (kE : Nat) (p : Addr) (H1 Hc : Hp) (S : Src) (vs : List V) (ds : List D) : Prop where
  ext : Ext (sAd sa) H1 Hc
  sr : SrcR sa S Hc
  here : Hc p = some (.lst vs)
  ea : DRs U (orAt (sAd sa) p) Z Hc 0 vs ds
  eb : ∃ Bs : List Addr, (p :: Bs).Nodup ∧ (∀ b ∈ Bs, H1 b = none ∧ ∃ o : HO, Hc b = some o) ∧ (kE = 1 → OwnEl U Hc vs ds Bs ∧ DRs U (orAt (sAd sa) p) (fun a => Z a ∨ a ∈ Bs) Hc 1 vs ds)
section
variable {U : Wd} {sa : SA} {Z : Addr → Prop} {kE : Nat} {p : Addr} {H1 Hc H2 : Hp} {S S2 : Src} {vs : List V} {ds : List D}
theorem orAt_ext {Y : Addr → Prop} (e : Ext Y Hc H2) : Ext (orAt Y p) Hc H2 := e.mono fun _ h => .inl h
theorem LcI.step (sr1 : SrcR sa S H1) {S1 : Src} (np : H1 p = none) (L : LcI U sa Z kE p H1 Hc S1 vs ds) (e : Ext (sAd sa) Hc H2) (sr : SrcR sa S2 H2) : LcI U sa Z kE p H1 H2 S2 vs ds := by
  obtain ⟨Bs, b1, b2, b3⟩ := L.eb
  have nb : ∀ b ∈ Bs, ¬ sAd sa b := fun b hb => new_noY sr1 (b2 b hb).1
  refine ⟨L.ext.trans e, sr, e.keep _ _ L.here (new_noY sr1 np), DRs.ext (orAt_ext e) _ _ _ L.ea, Bs, b1, fun b hb => ⟨(b2 b hb).1, ?_⟩, fun hk => ⟨OwnEl.ext e nb (b3 hk).1, DRs.ext (orAt_ext e) _ _ _ (b3 hk).2⟩⟩
  obtain ⟨o, ho⟩ := (b2 b hb).2
  exact ⟨o, e.keep _ _ ho (nb b hb)⟩
theorem LcI.push {S1 : Src} (sr1 : SrcR sa S H1) (np : H1 p = none) {Bs : List Addr} (L : LcI U sa Z kE p H1 H2 S1 vs ds) {H4 : Hp} {v : V} {d : D}
    (hb : Bs = Bs) (b1 : (p :: Bs).Nodup) (b2 : ∀ b ∈ Bs, H1 b = none ∧ ∃ o : HO, H2 b = some o) (b3 : kE = 1 → OwnEl U H2 vs ds Bs ∧ DRs U (orAt (sAd sa) p) (fun a => Z a ∨ a ∈ Bs) H2 1 vs ds)
    (P : Post U (sAd sa) (fun a => Z a ∨ a = p ∨ a ∈ Bs) sa S2 kE 0 H2 H4 v d) : LcI U sa Z kE p H1 (upd H4 p (.lst (vs ++ [v]))) S2 (vs ++ [v]) (ds ++ [d]) := by
  have noY := new_noY sr1 np
  have hp4 : H4 p = some (.lst vs) := P.ext.keep _ _ L.here noY
  have nb : ∀ b ∈ Bs, ¬ sAd sa b := fun b hb => new_noY sr1 (b2 b hb).1
  have e45 : Ext (orAt (sAd sa) p) H4 (upd H4 p (.lst (vs ++ [v]))) := .at hp4 (fun h => h) (.inr rfl)
  have e25 : Ext (orAt (sAd sa) p) H2 (upd H4 p (.lst (vs ++ [v]))) := (orAt_ext P.ext).trans e45
  have e15 : Ext (sAd sa) H1 (upd H4 p (.lst (vs ++ [v]))) := by
    refine ⟨fun c o hc hn => ?_, fun c o hc hm => ?_⟩
    · rw [upd_ne (ne_of_none hc np)]
      exact (L.ext.trans P.ext).keep c o hc hn
    · rw [upd_ne (ne_of_none hc np)]
      exact (L.ext.trans P.ext).imm c o hc hm
  refine ⟨e15, P.sr.at noY, upd_same, ?_, ?_⟩
  · refine (DRs.ext e25 _ _ _ L.ea).append (.cons ?_ .nil)
    exact DR.ext e45 _ _ _ ((DR.also (a := p) (.inr (.inl rfl)) _ _ _ rfl P.dr).less fun a q => .inl q)
  · obtain ⟨A, a1, a2, a3, a4⟩ := P.fr
    have live4 : ∀ b ∈ Bs, ∃ o : HO, upd H4 p (.lst (vs ++ [v])) b = some o := fun b hb => by
      obtain ⟨o, ho⟩ := (b2 b hb).2
      have : b ≠ p := fun e => (List.nodup_cons.mp b1).1 (by rw [← e]; exact hb)
      exact ⟨o, by rw [upd_ne this]; exact P.ext.keep _ _ ho (nb b hb)⟩
    by_cases hk : kE = 1
    · subst hk
      obtain ⟨B, o1, o2, o3, o4⟩ := a1.el
      have fr : ∀ b ∈ B, H2 b = none := fun b hb => a3 b (o2 b hb)
      have ne : ∀ b ∈ B, b ≠ p := fun b hb e => by
        have := fr b hb
        rw [e, L.here] at this; cases this
      refine ⟨Bs ++ B, ?_, fun b hb => ?_, fun _ => ⟨?_, ?_⟩⟩
      · refine List.nodup_cons.mpr ⟨fun h => ?_, List.nodup_append.mpr ⟨(List.nodup_cons.mp b1).2, o3, fun x hx y hy e => ?_⟩⟩
        · rcases List.mem_append.mp h with h | h
          · exact (List.nodup_cons.mp b1).1 h
          · exact ne p h rfl
        · subst e
          obtain ⟨o, ho⟩ := (b2 x hx).2
          rw [fr x hy] at ho; cases ho
      · rcases List.mem_append.mp hb with h | h
        · exact ⟨(b2 b h).1, live4 b h⟩
        · refine ⟨L.ext.free (fun c q => L.sr.there c q) (fr b h), ?_⟩
          obtain ⟨us, hus⟩ := o1.live b h
          exact ⟨_, by rw [upd_ne (ne b h)]; exact hus⟩
      · refine (OwnEl.ext e25 (fun b hb q => q.elim (nb b hb) fun q => (List.nodup_cons.mp b1).1 (by rw [← q]; exact hb)) (b3 rfl).1).append ?_
        refine OwnEl.ext (X := fun a => a = p) (.at hp4 (fun h => h) rfl) (fun b hb q => ne b hb q) o1
      · have old : DRs U (orAt (sAd sa) p) (fun a => Z a ∨ a ∈ Bs ++ B) H2 1 vs ds := by
          refine (DRs.fresh (W := fun a => a ∈ B) fr _ _ _ (b3 rfl).2).less fun a q => ?_
          rcases q with q | q
          · exact .inl (.inl q)
          · rcases List.mem_append.mp q with q | q
            · exact .inl (.inr q)
            · exact .inr q
        refine (DRs.ext e25 _ _ _ old).append (.cons ?_ .nil)
        have nw : DR U (sAd sa) (fun a => (Z a ∨ a = p ∨ a ∈ Bs) ∨ a ∈ A) H4 1 v d := a4.deeper (by have := ed_le 1 d; omega)
        have nw2 := DR.also1 (a := p) (.inl (.inr (.inl rfl))) (fun c => by
          obtain ⟨b, hb, rfl⟩ := o4 c
          intro e
          injection e with e
          have := a3 b hb
          rw [e, L.here] at this; cases this) nw
        refine (DR.ext e45 _ _ _ nw2).less fun a q => ?_
        rcases q with q | q
        · exact .inl (.inl q)
        · rcases List.mem_append.mp q with q | q
          · exact .inl (.inr (.inr q))
          · exact .inr (o2 a q)
    · exact ⟨Bs, b1, fun b hb => ⟨(b2 b hb).1, live4 b hb⟩, fun q => absurd q hk⟩
end
end TW
set_option maxRecDepth 20000
/-! TwO: list comprehensions, sound. -/
namespace TW
open PySem PySem.Spec PyProof.Rows L2

theorem fold_plain {e : Expr} (h : notSet e = true) (env : PySem.Env) (x : Value) : foldedSetIterable e env x = pure x := by
  cases e <;> first
    | rfl
    | exact absurd h (by simp [notSet])
theorem owns_ix (G : Cfg) (own : List Nat) : (owns G own).map (·.2) = own := by
  unfold owns
  rw [List.map_map]
  exact List.map_id _
def tC0 (U : Wd) (G : Cfg) (C : Ctx) : Oe → TT
  | .no => tYes
  | .so c => tTest (tE U G C c)
section
variable {U : Wd} {G : Cfg} {C : Ctx} {k : Nat} {X : Cx} {sa : SA} {S S1 : Src} {σ : L2.St} {H : Hp} {ρ : DEnv}
theorem test_run {cond : Oe} {b : Bool} {Q : Bool → Hp → Prop} (pre : Pre U G sa NoZ ρ S σ H) (e : evT C cond ρ S = some (.bool b, S1)) (q : ∀ H2, Ext (sAd sa) H H2 → SrcR sa S1 H2 → Q b H2) : tC0 U G C cond σ H Q := by
  cases cond with
  | no =>
    simp only [evT] at e
    cases e
    exact q H (.refl H) pre.sr
  | so c =>
    simp only [evT] at e
    exact any1 pre e fun u H2 ex sr du => ⟨b, du.bl_inv, q H2 ex sr⟩
theorem lc_key {K : PySem.W.Frag} {elt : Ex} {tg : Tg} {it : It} {cond : Oe} {own : List Nat} (hsrc : ∀ s, G.srcI = some s → s ∉ own) (htg : ∀ j ∈ tgL tg, j ∈ own) {Q : VK} (q : tE U G C (.lc elt tg it cond own) σ H Q) :
    tLc (tI U G C it) (gT K tg) (tC0 U G C cond) (tE U G C elt) ((owns G own).map (·.2)) σ H Q := by
  rw [owns_ix]
  obtain ⟨sa, Z, n, ρ, S, d, S', pre, av, ev, q⟩ := q
  simp only [evE] at ev
  split at ev
  · rename_i ds S1 e1
    split at ev
    · rename_i ys Sz e2
      cases ev
      refine ⟨sa, Z, NoZ, 1, ρ, S, ds, S1, pre, Nat.le_refl _, fun a h => h.elim, av.left, e1, fun J H1 ex1 sr1 hl wk p np => ?_⟩
      have pre1 := pre.step ex1 sr1
      have noY := new_noY sr1 np
      have np0 : H p = none := new_free ex1 sr1 np
      have hl0 : σ.length = ρ.length := pre.ed.len
      have hlw : (wipe σ own).length = (wipeE ρ own).length := by rw [wipe_length, wipeE_len]; exact hl0
      have avF : Avoid U (sAd sa) (FrZ Z H1) ((avd elt 0).filter fun p => !own.contains p.1) σ H1 ρ := fun z hz d v q1 q2 => DR.fr (av.right.step ex1 z hz d v q1 q2)
      -- the heap with the list begun
      have L0 : LcI U sa Z (frk G.T elt) p H1 (upd H1 p (.lst [])) S1 [] [] := by
        refine ⟨.new np, sr1.new np, upd_same, .nil, [], by simp, fun b h => by simp at h, fun _ => ⟨.nil, .nil⟩⟩
      obtain ⟨PI, hPI⟩ : ∃ PI : Nat → Hp → Prop, PI = fun i Hc => i ≤ ds.length ∧ ∃ Si vs as ys', LcI U sa Z (frk G.T elt) p H1 Hc Si vs as ∧ as.length ≤ i ∧
        lcGo (fun ρ S => evE C elt ρ S) (fun ρ S => evT C cond ρ S) tg (wipeE ρ own) (ds.drop i) Si = some (ys', S') ∧ ys = as ++ ys' := ⟨_, rfl⟩
      refine ⟨fun i m Hc => m = ds.length - i ∧ PI i Hc, ⟨_, rfl, by rw [hPI]; exact ⟨Nat.zero_le _, S1, [], [], ys, L0, Nat.le_refl _, by simpa using e2, by simp⟩⟩, ?_⟩
      rintro i m Hc ⟨rfl, hp⟩
      rw [hPI] at hp
      obtain ⟨hi', Si, vs, as, ys', L, la, ego, eys⟩ := hp
      have wk1 := wk Hc (L.ext.mono fun _ h => .inl h) i
      by_cases hlt : i < ds.length
      · -- a turn
        right
        have hdi : ds[i]? = some ds[i] := List.getElem?_eq_getElem hlt
        rw [List.drop_eq_getElem_cons hlt] at ego
        obtain ⟨hgo, hy⟩ := wk1.2 _ hdi
        refine ⟨hgo, PI (i + 1), fun Hn h => ⟨ds.length - (i + 1), by omega, rfl, h⟩, fun xv H' hyld => ?_⟩
        obtain ⟨ex2, dx⟩ := hy _ _ hyld
        have ex2' : Ext (sAd sa) Hc H' := ex2.mono fun _ h => h.elim
        have dx' : DR U (sAd sa) (FrZ Z H1) H' 0 xv ds[i] := DR.weak (fun _ h => .inl h) _ _ _ dx
        simp only [lcGo] at ego
        split at ego
        · cases ego
        · rename_i ρ1 es
          refine gT_run dx' es hlw fun σ1 T => ?_
          have sout : ∀ j, j ∉ own → σ1[j]? = σ[j]? ∧ ρ1[j]? = (wipeE ρ own)[j]? := fun j hj => by
            have h1 : j ∉ tgL tg := fun h => hj (htg j h)
            exact ⟨by rw [(T.out j h1).2, wipe_out hj], (T.out j h1).1⟩
          have hw : wipe σ1 own = wipe σ own := wipe_same (by rw [T.lens, wipe_length]) fun j hj => (sout j hj).1
          refine ⟨hw, ?_⟩
          have e1' : Ext (sAd sa) H1 H' := L.ext.trans ex2'
          -- what the names are in the block
          have name : ∀ j d, ρ1[j]? = some (some d) → (j ∈ tgL tg ∧ ∃ v, σ1[j]? = some (some v) ∧ DR U (sAd sa) (FrZ Z H1) H' 0 v d) ∨ (j ∉ own ∧ ρ[j]? = some (some d) ∧ σ1[j]? = σ[j]?) := fun j d hd => by
            by_cases hj : j ∈ tgL tg
            · exact .inl ⟨hj, T.inn j hj d hd⟩
            · rw [(T.out j hj).1] at hd
              obtain ⟨h1, h2⟩ := wipeE_some hd
              exact .inr ⟨h2, h1, (sout j h2).1⟩
          have ed1 : ED U (sAd sa) σ1 H' ρ1 := by
            refine ⟨by rw [T.lens, T.len]; exact hlw, fun j d hd => ?_⟩
            rcases name j d hd with ⟨_, v, h1, h2⟩ | ⟨_, h1, h2⟩
            · exact ⟨v, h1, h2.less fun _ h => h.elim⟩
            · obtain ⟨v, h3, h4⟩ := pre1.ed.get j d h1
              exact ⟨v, by rw [h2]; exact h3, DR.ext e1' _ _ _ h4⟩
          have ss1 : SrcSlot G sa σ1 := fun j hj => by
            obtain ⟨a, c, h1, h2⟩ := pre1.ss j hj
            exact ⟨a, c, h1, by rw [(sout j (hsrc j hj)).1]; exact h2⟩
          have L' := L.step sr1 np ex2' (L.sr |> fun h => by
            cases sa with
            | none => trivial
            | some z =>
              obtain ⟨a, c⟩ := z
              obtain ⟨g1, g2, g3⟩ := h
              exact ⟨g1, ex2.keep _ _ g2 (fun h => h), ex2.keep _ _ g3 (fun h => h)⟩)
          have preN : Pre U G sa NoZ ρ1 Si σ1 H' := ⟨ed1, ss1, L'.sr, fun _ h => h.elim⟩
          split at ego
          · -- the test holds
            rename_i Sj et
            refine test_run preN et fun H2 ex3 sr3 => ?_
            rw [if_pos rfl]
            split at ego
            · cases ego
            · rename_i y Sk ey
              split at ego
              · cases ego
              · rename_i zs Sl el
                cases ego
                have L2 := L'.step sr1 np ex3 sr3
                obtain ⟨Bs, b1, b2, b3⟩ := L2.eb
                have fz : ∀ a, (Z a ∨ a = p ∨ a ∈ Bs) → FrZ Z H1 a := fun a h => by
                  rcases h with h | h | h
                  · exact .inl h
                  · exact .inr (by rw [h]; exact np)
                  · exact .inr (b2 a h).1
                have e2' : Ext (sAd sa) H1 H2 := e1'.trans ex3
                have preE : Pre U G sa (fun a => Z a ∨ a = p ∨ a ∈ Bs) ρ1 Sj σ1 H2 := by
                  refine ⟨ed1.ext ex3, ss1, sr3, fun a h => ?_⟩
                  rcases h with h | h | h
                  · exact (pre1.step e2' sr3).zh a h
                  · rw [h]; exact ⟨_, L2.here⟩
                  · exact (b2 a h).2
                have avE : Avoid U (sAd sa) (fun a => Z a ∨ a = p ∨ a ∈ Bs) (avd elt 0) σ1 H2 ρ1 := fun z hz d v q1 q2 => by
                  rcases name z.1 d q1 with ⟨_, v', h1, h2⟩ | ⟨h0, h1, h2⟩
                  · rw [h1] at q2; cases q2
                    exact ((DR.ext ex3 _ _ _ h2).less fz).deeper (Nat.zero_le _)
                  · rw [h2] at q2
                    have h3 := avF z (List.mem_filter.mpr ⟨hz, by simpa using h0⟩) d v h1 q2
                    exact (DR.ext e2' _ _ _ h3).less fz
                refine ⟨sa, fun a => Z a ∨ a = p ∨ a ∈ Bs, 0, ρ1, Sj, y, Sk, preE, avE, ey, fun vy H4 P => ?_⟩
                refine ⟨vs, P.ext.keep _ _ L2.here noY, ?_, ?_⟩
                · have := L2.ea.length
                  rw [sizeLine_eq]
                  have h2 : ds.length ≤ 16777216 := hl
                  omega
                · rw [hPI]
                  exact ⟨hlt, Sk, vs ++ [vy], as ++ [y], zs, L2.push sr1 np rfl b1 b2 b3 P, by simp; omega, el, by rw [eys]; simp⟩
          · -- the test fails
            rename_i Sj et
            refine test_run preN et fun H2 ex3 sr3 => ?_
            rw [if_neg Bool.false_ne_true, hPI]
            exact ⟨hlt, Sj, vs, as, ys', L'.step sr1 np ex3 sr3, by omega, ego, eys⟩
          · cases ego
      · -- the end
        left
        have e : i = ds.length := by omega
        subst e
        refine ⟨wk1.1 (Nat.le_refl _), ?_⟩
        rw [List.drop_length] at ego
        simp only [lcGo] at ego
        cases ego
        rw [List.append_nil] at eys
        subst eys
        have hlen : ys.length ≤ LINE := by omega
        obtain ⟨Bs, b1, b2, b3⟩ := L.eb
        have exc : Ext (sAd sa) H Hc := ex1.trans L.ext
        refine q _ _ ⟨exc, L.sr, .lst L.here noY (fun _ => new_noZ pre.zh np0) hlen ((DRs.weak (fun _ h => .inl h) _ _ _ L.ea).deeper (Nat.zero_le _)), ?_⟩
        by_cases hk : frk G.T elt = 1
        · refine ⟨p :: Bs, by simp only [frk, hk, if_true]; exact .lst2 L.here (b3 hk).1, b1, fun a ha => ?_, ?_⟩
          · rcases List.mem_cons.mp ha with e | e
            · rw [e]; exact np0
            · exact new_free ex1 sr1 (b2 a e).1
          · have hm : ∀ m, max n (ed (frk G.T (.lc elt tg it cond own)) (.list ys)) = m → 2 ≤ m := fun m h => by simp only [frk, hk, if_true, ed] at h; omega
            refine .lst L.here noY (fun z => by have := hm _ rfl; omega) hlen ?_
            refine ((DRs.back _ _ _ (b3 hk).2).less fun a h => ?_).deeper (by have := hm _ rfl; omega)
            rcases h with h | h
            · exact .inl (.inl h)
            · rcases List.mem_cons.mp h with h | h
              · exact .inr h
              · exact .inl (.inr h)
        · refine ⟨[p], by simp only [frk, hk, if_false]; exact .lst1 L.here, by simp, fun a ha => ?_, ?_⟩
          · have e : a = p := by simpa using ha
            rw [e]; exact np0
          · have hm : ∀ m, max n (ed (frk G.T (.lc elt tg it cond own)) (.list ys)) = m → 1 ≤ m := fun m h => by simp only [frk, hk, if_false, ed] at h; omega
            refine .lst L.here noY (fun z => by have := hm _ rfl; omega) hlen ?_
            refine ((DRs.back _ _ _ L.ea).less fun a h => ?_).deeper (Nat.zero_le _)
            rcases h with h | h
            · exact .inl h
            · exact .inr (by simpa using h)
    · cases ev
  · cases ev
theorem s_lc (ok : XOk U G C k X) {elt : Ex} {tg : Tg} {it : It} {cond : Oe} {own : List Nat} {scope : Scope} {x t i : Expr} {fs : List Expr} {pos : Pos} (hb : blkC G.N X.env.scope scope (owns G own) = true) (hi : PI X t i (tI U G C it))
    (hg : okTg G (relS scope X.env.scope) (fun x => scope.names.lookup x == some .cell) tg t = true)
    (ht : ∀ (s : Shared) (H : Hp) (Ca : Addr) (cl : List (Str × Addr)) (fp : List Addr), PTs (X.blk s H scope (compEnvC scope cl Ca X.env) fp) fs (tC0 U G C cond))
    (he : ∀ (s : Shared) (H : Hp) (Ca : Addr) (cl : List (Str × Addr)) (fp : List Addr), PE (X.blk s H scope (compEnvC scope cl Ca X.env) fp) x (tE U G C elt))
    (hsrc : ∀ s, G.srcI = some s → s ∉ own) (htg : ∀ j ∈ tgL tg, j ∈ own) (hs : ∀ v, foldedSetIterable i X.env v = pure v) : PE X (.ListComp x [⟨t, i, fs, 0⟩] scope pos) (tE U G C (.lc elt tg it cond own)) :=
  (pe_lc (g := gT X.K tg) (own := owns G own) ok.cal ok.nd hi (by rw [ok.hN]; exact blkOk_by hb) (fun s H Ca cl fp => pg_of (X := X.blk s H scope (compEnvC scope cl Ca X.env) fp) ok.hN ok.nd ok.cal (fun _ h => h) hg) ht he hs).imp fun σ H Q q => lc_key hsrc htg q
/-- name = a comprehension that stores its list itself -/
theorem s_setLc (ok : XOk U G C k X) {elt : Ex} {tg : Tg} {it : It} {cond : Oe} {own : List Nat} {scope : Scope} {x t i : Expr} {fs : List Expr} {pos : Pos} {l : Nat} {y : Str} {py spos : Pos} (hy : X.N[l]? = some y) (hyl : X.env.scope.names.lookup y = some .local)
    (hsw : swapsWith (.ListComp x [⟨t, i, fs, 0⟩] scope pos) (some (.Name y py)) spos.line X.env = pure true)
    (hb : blkC G.N X.env.scope scope (owns G own) = true) (hi : PI X t i (tI U G C it))
    (hg : okTg G (relS scope X.env.scope) (fun x => scope.names.lookup x == some .cell) tg t = true)
    (ht : ∀ (s : Shared) (H : Hp) (Ca : Addr) (cl : List (Str × Addr)) (fp : List Addr), PTs (X.blk s H scope (compEnvC scope cl Ca X.env) fp) fs (tC0 U G C cond))
    (he : ∀ (s : Shared) (H : Hp) (Ca : Addr) (cl : List (Str × Addr)) (fp : List Addr), PE (X.blk s H scope (compEnvC scope cl Ca X.env) fp) x (tE U G C elt))
    (hsrc : ∀ s, G.srcI = some s → s ∉ own) (htg : ∀ j ∈ tgL tg, j ∈ own) (hs : ∀ v, foldedSetIterable i X.env v = pure v) : PS X (.Assign [.Name y py] (.ListComp x [⟨t, i, fs, 0⟩] scope pos) spos) (tAsg (tE U G C (.lc elt tg it cond own)) (gName l)) :=
  ⟨fun pins s σ H D I h => (ps_setLc (g := gT X.K tg) (own := owns G own) ok.cal ok.nd hy hyl hsw hi (by rw [ok.hN]; exact blkOk_by hb) (fun s H Ca cl fp => pg_of (X := X.blk s H scope (compEnvC scope cl Ca X.env) fp) ok.hN ok.nd ok.cal (fun _ h => h) hg) ht he hs).run pins s σ H D I (lc_key hsrc htg h)⟩
end
end TW
set_option maxRecDepth 20000
/-! TwP: every piece that passes the check, sound. -/
namespace TW
open PySem PySem.Spec PyProof.Rows L2

theorem all_noStar_of {G : Cfg} {sc : Scope} {es : Exs} {xs : List Expr} (h : okEs G sc es xs = true) : xs.all noStar = true := noStar_all h
theorem tgIn_of {own : List Nat} {tg : Tg} (h : tgIn own tg = true) : ∀ j ∈ tgL tg, j ∈ own := by
  cases tg with
  | nm i =>
    intro j hj
    have e : j = i := by simpa [tgL] using hj
    rw [e]
    simpa [tgIn] using h
  | tp is =>
    intro j hj
    simp only [tgIn, List.all_eq_true] at h
    simpa using h j hj
section
variable {U : Wd} {G : Cfg} {C : Ctx} {k : Nat}
/-- a plain piece -/
theorem plainS {X : Cx} {pe : Ex} {e : Expr} (h : PE X e (tE U G C pe)) (he : ∀ whole, isTrue e X.env whole = (do let v ← whole; standAt e.pos; holding [v] (truthy v)) := by intro _; rfl) (hb : ∀ op vs p, e ≠ .BoolOp op vs p := by intro _ _ _ q; cases q) : Sound U G C X pe e := .plain h he hb
set_option maxHeartbeats 4000000 in
mutual
theorem sE : ∀ (a : Ex) {X : Cx} {e : Expr}, XOk U G C k X → okE G X.env.scope a e = true → Sound U G C X a e
  | .var i, X, e, ok, h => by
    cases e <;> first | (simp [okE] at h; done) | skip
    exact plainS (s_var ok (by simpa [okE] using h))
  | .int n, X, e, ok, h => by
    cases e <;> first | (simp [okE] at h; done) | skip
    rename_i c kk p
    cases c <;> first | (simp [okE] at h; done) | skip
    simp only [okE, decide_eq_true_eq] at h
    subst h
    exact plainS (s_const pe_int (fun _ _ => rfl) (fun _ _ _ _ => .int _) rfl)
  | .str x, X, e, ok, h => by
    cases e <;> first | (simp [okE] at h; done) | skip
    rename_i c kk p
    cases c <;> first | (simp [okE] at h; done) | skip
    simp only [okE, decide_eq_true_eq] at h
    subst h
    exact plainS (s_const pe_str (fun _ _ => rfl) (fun _ _ _ _ => .str _) rfl)
  | .bl b, X, e, ok, h => by
    cases e <;> first | (simp [okE] at h; done) | skip
    rename_i c kk p
    cases c <;> first | (simp [okE] at h; done) | skip
    simp only [okE, beq_iff_eq] at h
    subst h
    exact plainS (s_const pe_bl (fun _ _ => rfl) (fun _ _ _ _ => .bl _) rfl)
  | .non, X, e, ok, h => by
    cases e <;> first | (simp [okE] at h; done) | skip
    rename_i c kk p
    cases c <;> first | (simp [okE] at h; done) | skip
    exact plainS (s_const pe_non (fun _ _ => rfl) (fun _ _ _ _ => .non) rfl)
  | .tup es, X, e, ok, h => by
    cases e <;> first | (simp [okE] at h; done) | skip
    exact plainS (s_tup (sEs es ok (by simpa [okE] using h)))
  | .lst es, X, e, ok, h => by
    cases e <;> first | (simp [okE] at h; done) | skip
    exact plainS (s_lst (sEs es ok (by simpa [okE] using h)))
  | .bin o a b, X, e, ok, h => by
    cases e <;> first | (simp [okE] at h; done) | skip
    rename_i xe op ye p
    simp only [okE, Bool.and_eq_true] at h
    have ha := (sE a ok h.1.2).val
    have hb := (sE b ok h.2).val
    have ho := h.1.1
    cases o <;> cases op <;> first | (simp [opB] at ho; done) | skip
    · exact plainS (s_add ha hb)
    · exact plainS (s_sub ha hb)
    · exact plainS (s_mul ha hb)
    · exact plainS (s_mod ha hb)
    · exact plainS (s_fd ha hb)
  | .neg a, X, e, ok, h => by
    cases e <;> first | (simp [okE] at h; done) | skip
    rename_i op xe p
    cases op <;> first | (simp [okE] at h; done) | skip
    exact plainS (s_neg (sE a ok (by simpa [okE] using h)).val)
  | .cmp o a b, X, e, ok, h => by
    cases e <;> first | (simp [okE] at h; done) | skip
    rename_i xe ops ys p
    match ops, ys, h with
    | [op], [y], h =>
      simp only [okE, Bool.and_eq_true] at h
      exact s_cmp ok h.1.1.1 h.2 (sE a ok h.1.1.2).val (sE b ok h.1.2).val
    | [], _, h => simp [okE] at h
    | [_], [], h => simp [okE] at h
    | [_], _ :: _ :: _, h => simp [okE] at h
    | _ :: _ :: _, _, h => simp [okE] at h
  | .chain o o' a b c, X, e, ok, h => by
    cases e <;> first | (simp [okE] at h; done) | skip
    rename_i xe ops ys p
    match ops, ys, h with
    | [op, op'], [y, z], h =>
      simp only [okE, Bool.and_eq_true] at h
      exact s_chain ok h.1.1.1.1.1 h.1.1.1.1.2 h.2 (sE a ok h.1.1.1.2).val (sE b ok h.1.1.2).val (sE c ok h.1.2).val
    | [], _, h => simp [okE] at h
    | [_], _, h => simp [okE] at h
    | [_, _], [], h => simp [okE] at h
    | [_, _], [_], h => simp [okE] at h
    | [_, _], _ :: _ :: _ :: _, h => simp [okE] at h
    | _ :: _ :: _ :: _, _, h => simp [okE] at h
  | .and a b, X, e, ok, h => by
    cases e <;> first | (simp [okE] at h; done) | skip
    rename_i op vs p
    cases op <;> first | (simp [okE] at h; done) | skip
    match vs, h with
    | x :: y :: r, h =>
      simp only [okE, Bool.and_eq_true] at h
      exact s_and (sE a ok h.1) (sE b ok h.2)
    | [], h => simp [okE] at h
    | [_], h => simp [okE] at h
  | .or a b, X, e, ok, h => by
    cases e <;> first | (simp [okE] at h; done) | skip
    rename_i op vs p
    cases op <;> first | (simp [okE] at h; done) | skip
    match vs, h with
    | x :: y :: r, h =>
      simp only [okE, Bool.and_eq_true] at h
      exact s_or (sE a ok h.1) (sE b ok h.2)
    | [], h => simp [okE] at h
    | [_], h => simp [okE] at h
  | .one a, X, e, ok, h => by
    cases e <;> first | (simp [okE] at h; done) | skip
    rename_i op vs p
    match vs, h with
    | [x], h => exact s_one (sE a ok (by simpa [okE] using h))
    | [], h => simp [okE] at h
    | _ :: _ :: _, h => simp [okE] at h
  | .not a, X, e, ok, h => by
    cases e <;> first | (simp [okE] at h; done) | skip
    rename_i op xe p
    cases op <;> first | (simp [okE] at h; done) | skip
    exact s_not (sE a ok (by simpa [okE] using h))
  | .ife c a b, X, e, ok, h => by
    cases e <;> first | (simp [okE] at h; done) | skip
    simp only [okE, Bool.and_eq_true] at h
    exact s_ife (sE c ok h.1.1.1) h.2 (sE a ok h.1.1.2).val (sE b ok h.1.2).val
  | .ix a b, X, e, ok, h => by
    cases e <;> first | (simp [okE] at h; done) | skip
    simp only [okE, Bool.and_eq_true] at h
    exact plainS (s_ix ok h.1.1 (sE a ok h.1.2).val (sE b ok h.2).val)
  | .sl a lo hi, X, e, ok, h => by
    cases e <;> first | (simp [okE] at h; done) | skip
    rename_i xe ye p
    cases ye <;> first | (simp [okE] at h; done) | skip
    rename_i l u st p2
    cases st <;> first | (simp [okE] at h; done) | skip
    simp only [okE, Bool.and_eq_true] at h
    exact plainS (s_sl (sE a ok h.1.1).val (sO lo ok h.1.2) (sO hi ok h.2))
  | .rev a, X, e, ok, h => by
    unfold okE at h
    split at h
    · exact plainS (s_rev (sE a ok h).val)
    · cases h
  | .call f es, X, e, ok, h => by
    unfold okE at h
    split at h
    · split at h
      · rename_i fn hf
        simp only [Bool.and_eq_true, decide_eq_true_eq] at h
        obtain ⟨⟨hx, hg⟩, h⟩ := h
        refine plainS (s_call ok hf hx hg ?_ ?_)
        · rintro rfl
          by_cases hs : fn.src = true
          · rw [if_pos hs] at h; cases h
          · rw [if_neg hs] at h
            cases es with
            | nil => rfl
            | cons e es => simp [okEs] at h
        · by_cases hs : fn.src = true
          · rw [if_pos hs] at h ⊢
            split at h
            · rename_i y ys
              rw [Bool.and_eq_true] at h
              exact ⟨y, ys, rfl, h.1, noStar_all h.2, sEs es ok h.2⟩
            · cases h
          · rw [if_neg hs] at h ⊢
            exact ⟨noStar_all h, sEs es ok h⟩
      · cases h
    · cases h
  | .pick a, X, e, ok, h => by
    unfold okE at h
    split at h
    · simp only [Bool.and_eq_true, decide_eq_true_eq] at h
      exact plainS (s_pick ok h.1.1.1.1 h.1.1.1.2 h.1.1.2 h.1.2 (sE a ok h.2).val)
    · cases h
  | .b1 f a, X, e, ok, h => by
    unfold okE at h
    split at h
    · simp only [Bool.and_eq_true, decide_eq_true_eq] at h
      exact plainS (s_b1 ok h.1.1.1 h.1.1.2 h.1.2 (sE a ok h.2).val)
    · cases h
  | .lc elt tg it cond own, X, e, ok, h => by
    unfold okE at h
    split at h
    · rename_i x t i fs scope p
      simp only [Bool.and_eq_true] at h
      obtain ⟨⟨⟨⟨⟨⟨h1, h2⟩, h3⟩, h4⟩, h5⟩, h6⟩, h7⟩ := h
      obtain ⟨hi, hs⟩ := sI it ok h2
      refine plainS (s_lc ok h1 hi h3 (fun s H Ca cl fp => ?_) (fun s H Ca cl fp => (sE elt (ok.blk s H scope (compEnvC scope cl Ca X.env) fp) h4).val) (fun s e => ?_) (tgIn_of h7) hs)
      · match cond, fs, h5 with
        | .no, [], _ => exact pts_nil
        | .no, _ :: _, h5 => simp at h5
        | .so c, [y], h5 =>
          simp only [Bool.and_eq_true] at h5
          exact pts_one ((sE c (ok.blk s H scope (compEnvC scope cl Ca X.env) fp) h5.1).test h5.2)
        | .so c, [], h5 => simp at h5
        | .so c, _ :: _ :: _, h5 => simp at h5
      · rw [e] at h6
        simpa using h6
    · cases h
  | .dic ks vs, X, e, ok, h => by
    unfold okE at h
    split at h
    · rw [Bool.and_eq_true] at h
      cases ks with
      | nil =>
        cases vs with
        | nil => exact plainS (s_dic0 ok)
        | cons _ _ => simp [isNil] at h
      | cons _ _ => simp [isNil] at h
    · rename_i k v p
      rw [Bool.and_eq_true] at h
      match ks, vs, h with
      | .cons a .nil, .cons b .nil, h =>
        simp only [okEs, Bool.and_eq_true] at h
        exact plainS (s_dic1 ok (sE a ok h.1.1.2).val (sE b ok h.2.1.2).val)
      | .nil, _, h => simp [okEs] at h
      | .cons _ (.cons _ _), _, h => simp [okEs] at h
      | .cons _ .nil, .nil, h => simp [okEs] at h
      | .cons _ .nil, .cons _ (.cons _ _), h => simp [okEs] at h
    · cases h
theorem sEs : ∀ (es : Exs) {X : Cx} {xs : List Expr}, XOk U G C k X → okEs G X.env.scope es xs = true → PA X xs (tEs U G C es)
  | .nil, X, xs, ok, h => by
    cases xs with
    | nil => exact s_nil
    | cons _ _ => simp [okEs] at h
  | .cons e es, X, xs, ok, h => by
    cases xs with
    | nil => simp [okEs] at h
    | cons y ys =>
      simp only [okEs, Bool.and_eq_true] at h
      exact s_cons h.1.1 (sE e ok h.1.2).val (sEs es ok h.2)
theorem sO : ∀ (o : Oe) {X : Cx} {x : Option Expr}, XOk U G C k X → okO G X.env.scope o x = true → PO X x (tO U G C o)
  | .no, X, x, ok, h => by
    cases x with
    | none => exact s_no
    | some _ => simp [okO] at h
  | .so e, X, x, ok, h => by
    cases x with
    | none => simp [okO] at h
    | some y => exact s_so (sE e ok (by simpa [okO] using h)).val
theorem sI : ∀ (it : It) {X : Cx} {t i : Expr}, XOk U G C k X → okI G X.env.scope it t i = true → PI X t i (tI U G C it) ∧ ∀ v, foldedSetIterable i X.env v = pure v
  | .dat a, X, t, i, ok, h => by
    simp only [okI, Bool.and_eq_true] at h
    exact ⟨i_dat ok (sE a ok h.2).val, fold_plain h.1 _⟩
  | .rng1 a, X, t, i, ok, h => by
    unfold okI at h
    split at h
    · simp only [Bool.and_eq_true, decide_eq_true_eq] at h
      exact ⟨i_rng1 ok h.1.1.1 h.1.1.2 h.1.2 (sE a ok h.2).val, fun _ => rfl⟩
    · cases h
  | .rng2 a b, X, t, i, ok, h => by
    unfold okI at h
    split at h
    · simp only [Bool.and_eq_true, decide_eq_true_eq] at h
      exact ⟨i_rng2 ok h.1.1.1.1.1 h.1.1.1.1.2 h.1.1.1.2 h.1.1.2 (sE a ok h.1.2).val (sE b ok h.2).val, fun _ => rfl⟩
    · cases h
  | .enu a, X, t, i, ok, h => by
    unfold okI at h
    split at h
    · simp only [Bool.and_eq_true, decide_eq_true_eq] at h
      obtain ⟨⟨⟨⟨h1, h2⟩, h3⟩, h4⟩, h5⟩ := h
      cases t <;> first | (simp [isTup] at h1; done) | skip
      exact ⟨i_enu ok h2 h3 h4 (sE a ok h5).val, fun _ => rfl⟩
    · cases h
  | .zip a b, X, t, i, ok, h => by
    unfold okI at h
    split at h
    · simp only [Bool.and_eq_true, decide_eq_true_eq] at h
      obtain ⟨⟨⟨⟨⟨⟨h1, h2⟩, h3⟩, h4⟩, h5⟩, h6⟩, h7⟩ := h
      cases t <;> first | (simp [isTup] at h1; done) | skip
      exact ⟨i_zip ok h2 h3 h4 h5 (sE a ok h6).val (sE b ok h7).val, fun _ => rfl⟩
    · cases h
end
end
end TW
set_option maxRecDepth 20000
/-! TwQ: what holds between statements. -/
namespace TW
open PySem PySem.Spec PyProof.Rows L2

def ZZ (E : Addr → Prop) (As : Nat → List Addr) : Addr → Prop := fun a => E a ∨ ∃ i, a ∈ As i
def gk (Γ : List Nat) (i : Nat) : Nat := Γ.getD i 0
structure SR (U : Wd) (G : Cfg) (sa : SA) (E : Addr → Prop) (Γ : List Nat) (ρ : DEnv) (S : Src) (σ : L2.St) (H : Hp) (As : Nat → List Addr) : Prop where
  len : σ.length = ρ.length
  lg : Γ.length = ρ.length
  ss : SrcSlot G sa σ
  sr : SrcR sa S H
  nd : ∀ i, (As i).Nodup
  dj : ∀ i j a, a ∈ As i → a ∈ As j → i = j
  ow : ∀ i a, a ∈ As i → ¬ sAd sa a ∧ ¬ E a ∧ ∃ o : HO, H a = some o
  eh : ∀ a, E a → ∃ o : HO, H a = some o
  slot : ∀ i d, ρ[i]? = some (some d) → ∃ v, σ[i]? = some (some v) ∧ Own U H (gk Γ i) v d (As i) ∧ DR U (sAd sa) (ZZ E As) H (ed (gk Γ i) d) v d
/-- from one heap on to another -/
structure Stp (sa : SA) (As As' : Nat → List Addr) (H H' : Hp) : Prop where
  ext : Ext (fun a => sAd sa a ∨ ∃ i, a ∈ As i) H H'
  nw : ∀ i a, a ∈ As' i → (∃ j, a ∈ As j) ∨ H a = none
  live : ∀ a, H' a = none → H a = none
section
variable {U : Wd} {G : Cfg} {C : Ctx} {sa : SA} {E Y Z : Addr → Prop} {Γ Γ' : List Nat} {ρ : DEnv} {S S' : Src} {σ : L2.St} {H H1 H' : Hp} {As As' As'' : Nat → List Addr}
theorem Stp.refl : Stp sa As As H H := ⟨.refl H, fun i a h => .inl ⟨i, h⟩, fun _ h => h⟩
theorem Stp.trans (a : Stp sa As As' H H1) (b : Stp sa As' As'' H1 H') : Stp sa As As'' H H' := by
  refine ⟨⟨fun c o h n => ?_, fun c o h m => b.ext.imm c o (a.ext.imm c o h m) m⟩, fun i c h => ?_, fun c h => a.live c (b.live c h)⟩
  · refine b.ext.keep c o (a.ext.keep c o h n) fun q => ?_
    rcases q with q | ⟨i, q⟩
    · exact n (.inl q)
    · rcases a.nw i c q with q | q
      · exact n (.inr q)
      · rw [h] at q; cases q
  · rcases b.nw i c h with ⟨j, q⟩ | q
    · exact a.nw j c q
    · exact .inr (a.live c q)
/-- nothing owned was touched -/
theorem Stp.of (sr : SrcR sa S' H') (e : Ext (sAd sa) H H') : Stp sa As As H H' := ⟨e.mono fun _ h => .inl h, fun i a h => .inl ⟨i, h⟩, fun a h => e.free (fun b q => sr.there b q) h⟩
mutual
theorem DR.noZ : ∀ (d : D) (v : V) (n m : Nat), DR U Y Z H n v d → DR U Y NoZ H m v d
  | _, _, _, _, .non => .non
  | _, _, _, _, .bl b => .bl b
  | _, _, _, _, .int i => .int i
  | _, _, _, _, .str x => .str x
  | _, _, _, _, .lst h y z l r => .lst h y (fun _ q => q) l (DRs.noZ _ _ _ _ r)
  | _, _, _, _, .tup h l r => .tup h l (DRs.noZ _ _ _ _ r)
  | _, _, _, _, .dct h y z l r => .dct h y (fun _ q => q) l (DRs.noZ _ _ _ _ r)
theorem DRs.noZ : ∀ (ds : List D) (vs : List V) (n m : Nat), DRs U Y Z H n vs ds → DRs U Y NoZ H m vs ds
  | _, _, _, _, .nil => .nil
  | _, _, _, _, .cons h r => .cons (DR.noZ _ _ _ _ h) (DRs.noZ _ _ _ _ r)
end
theorem SR.zh (R : SR U G sa E Γ ρ S σ H As) : ∀ a, ZZ E As a → ∃ o : HO, H a = some o := fun a h => h.elim (R.eh a) fun ⟨i, q⟩ => (R.ow i a q).2.2
theorem SR.pre (R : SR U G sa E Γ ρ S σ H As) : Pre U G sa (ZZ E As) ρ S σ H :=
  ⟨⟨R.len, fun i d h => by
    obtain ⟨v, h1, _, h3⟩ := R.slot i d h
    exact ⟨v, h1, DR.noZ _ _ _ _ h3⟩⟩, R.ss, R.sr, R.zh⟩
theorem SR.av (R : SR U G sa E Γ ρ S σ H As) {l : List (Nat × Nat)} (h : ∀ p ∈ l, gk Γ p.1 ≤ p.2) : Avoid U (sAd sa) (ZZ E As) l σ H ρ := fun p hp d v q1 q2 => by
  obtain ⟨u, h1, _, h3⟩ := R.slot _ _ q1
  rw [q2] at h1; cases h1
  exact h3.deeper (Nat.le_trans (ed_le _ _) (h p hp))
/-- something was made or drawn -/
theorem SR.step (R : SR U G sa E Γ ρ S σ H As) (e : Ext (sAd sa) H H1) (sr : SrcR sa S' H1) : SR U G sa E Γ ρ S' σ H1 As := by
  have key : ∀ a, ¬ sAd sa a → (∃ o : HO, H a = some o) → ∃ o : HO, H1 a = some o := fun a n ⟨o, h⟩ => ⟨o, e.keep a o h n⟩
  refine ⟨R.len, R.lg, R.ss, sr, R.nd, R.dj, fun i a h => ⟨(R.ow i a h).1, (R.ow i a h).2.1, key a (R.ow i a h).1 (R.ow i a h).2.2⟩, fun a h => ?_, fun i d h => ?_⟩
  · by_cases q : sAd sa a
    · exact sr.there a q
    · exact key a q (R.eh a h)
  · obtain ⟨v, h1, h2, h3⟩ := R.slot i d h
    exact ⟨v, h1, h2.ext e fun a q => (R.ow i a q).1, DR.ext e _ _ _ h3⟩

/-! ### owning less -/
theorem DR.flat0 {d : D} {v : V} {n m : Nat} (c : isCon d = false) (q : n - 1 ≤ m - 1) (h : DR U Y Z H n v d) : DR U Y Z H m v d := by
  cases h with
  | non => exact .non
  | bl b => exact .bl b
  | int i => exact .int i
  | str x => exact .str x
  | lst h y z l r => cases c
  | tup h l r => exact .tup h l (r.deeper q)
  | dct h y z l r => cases c
theorem OwnEl.low {Z' : Addr → Prop} (hz : ∀ a, Z' a → Z a) : ∀ {vs : List V} {ds : List D} {B : List Addr}, OwnEl U H vs ds B → (∀ b ∈ B, ¬ Z' b) → DRs U Y Z H 1 vs ds → DRs U Y Z' H 0 vs ds
  | _, _, _, .nil, _, _ => .nil
  | _, _, _, .lst h r, n, .cons q s => by
    obtain ⟨a, vs, e, h1, y, _, l, r1⟩ := q.lst_inv
    cases e
    exact .cons (.lst h1 y (fun _ => n _ List.mem_cons_self) l (r1.less hz)) (OwnEl.low hz r (fun b hb => n b (List.mem_cons_of_mem _ hb)) s)
  | _, _, _, .dct h r, n, .cons q s => by
    refine .cons ?_ (OwnEl.low hz r (fun b hb => n b (List.mem_cons_of_mem _ hb)) s)
    cases q with
    | dct h1 y z l r1 => exact .dct h1 y (fun _ => n _ List.mem_cons_self) l (r1.less hz)
  | _, _, _, .oth c r, n, .cons q s => .cons ((DR.flat0 c (by omega) q).less hz) (OwnEl.low hz r n s)
theorem Own.low {k k' : Nat} {v : V} {d : D} {A : List Addr} (h : Own U H k v d A) (le : k' ≤ k) (nd : A.Nodup) (dr : DR U Y Z H (ed k d) v d) :
    ∃ A', Own U H k' v d A' ∧ (∀ a ∈ A', a ∈ A) ∧ A'.Nodup ∧ ∀ Z' : Addr → Prop, (∀ a, Z' a → Z a) → (∀ a, Z' a → a ∈ A → a ∈ A') → DR U Y Z' H (ed k' d) v d := by
  by_cases e : k' = k
  · subst e
    exact ⟨A, h, fun _ q => q, nd, fun Z' hz _ => dr.less hz⟩
  cases h with
  | zero =>
    obtain rfl : k' = 0 := by omega
    exact absurd rfl e
  | oth c =>
    refine ⟨[], .oth c, fun _ q => q, nd, fun Z' hz _ => ?_⟩
    rw [ed_flat _ c] at dr ⊢
    exact dr.less hz
  | @lst1 a vs ds ha =>
    obtain rfl : k' = 0 := by omega
    refine ⟨[], .zero, fun _ q => by simp at q, List.nodup_nil, fun Z' hz hz' => ?_⟩
    obtain ⟨a', vs', e1, h1, y, _, l, r⟩ := dr.lst_inv
    cases e1
    exact .lst h1 y (fun _ q => by simpa using hz' _ q (by simp)) l (r.less hz)
  | @lst2 a vs ds B ha hB =>
    obtain ⟨a', vs', e1, h1, y, _, l, r⟩ := dr.lst_inv
    cases e1
    rw [ha] at h1; cases h1
    have nB : a ∉ B := (List.nodup_cons.mp nd).1
    rcases (show k' = 0 ∨ k' = 1 by omega) with rfl | rfl
    · refine ⟨[], .zero, fun _ q => by simp at q, List.nodup_nil, fun Z' hz hz' => ?_⟩
      exact .lst ha y (fun _ q => by simpa using hz' _ q (by simp)) l (OwnEl.low hz hB (fun b hb q => by simpa using hz' _ q (List.mem_cons_of_mem _ hb)) r)
    · refine ⟨[a], .lst1 ha, fun _ q => by simp at q; simp [q], by simp, fun Z' hz hz' => ?_⟩
      refine .lst ha y (fun q => by simp [ed] at q) l (OwnEl.low hz hB (fun b hb q => ?_) r)
      have := hz' _ q (List.mem_cons_of_mem _ hb)
      have e : b = a := by simpa using this
      exact nB (by rw [← e]; exact hb)
  | @dct k0 a kvs xs ep hk ha =>
    obtain ⟨a', xs', vs', ep', e1, h1, l, y, z, r⟩ := dr.dct_inv
    cases e1
    have e1 : ed k (.dict kvs) = 1 := by simp only [ed]; omega
    rw [e1] at r
    rcases Nat.eq_zero_or_pos k' with rfl | hk'
    · refine ⟨[], .zero, fun _ q => by simp at q, List.nodup_nil, fun Z' hz hz' => ?_⟩
      rw [e1] at dr
      show DR U Y Z' H 0 _ _
      cases dr with
      | dct h1 y z l r2 => exact .dct h1 y (fun _ q => by simpa using hz' _ q (by simp)) l (r2.less hz)
    · refine ⟨[a], .dct hk' ha, fun _ q => q, by simp, fun Z' hz hz' => ?_⟩
      have e2 : ed k' (.dict kvs) = 1 := by simp only [ed]; omega
      rw [e2]
      rw [e1] at dr
      exact dr.less hz
theorem SR.low (R : SR U G sa E Γ ρ S σ H As) (lg : Γ'.length = Γ.length) (le : ∀ i, gk Γ' i ≤ gk Γ i) : ∃ As', SR U G sa E Γ' ρ S σ H As' ∧ ∀ i a, a ∈ As' i → a ∈ As i := by
  have ch : ∀ i, ∃ A' : List Addr, (∀ a ∈ A', a ∈ As i) ∧ A'.Nodup ∧ ∀ d, ρ[i]? = some (some d) → ∃ v, σ[i]? = some (some v) ∧ Own U H (gk Γ' i) v d A' ∧
      ∀ Z' : Addr → Prop, (∀ a, Z' a → ZZ E As a) → (∀ a, Z' a → a ∈ As i → a ∈ A') → DR U (sAd sa) Z' H (ed (gk Γ' i) d) v d := fun i => by
    by_cases h : ∃ d, ρ[i]? = some (some d)
    · obtain ⟨d, hd⟩ := h
      obtain ⟨v, h1, h2, h3⟩ := R.slot i d hd
      obtain ⟨A', a1, a2, a3, a4⟩ := h2.low (le i) (R.nd i) h3
      refine ⟨A', a2, a3, fun d' hd' => ?_⟩
      rw [hd] at hd'; cases hd'
      exact ⟨v, h1, a1, a4⟩
    · exact ⟨[], fun _ q => by simp at q, List.nodup_nil, fun d hd => absurd ⟨d, hd⟩ h⟩
  obtain ⟨As', hA⟩ := Classical.axiomOfChoice ch
  refine ⟨As', ⟨R.len, lg.trans R.lg, R.ss, R.sr, fun i => (hA i).2.1, fun i j a h1 h2 => R.dj i j a ((hA i).1 a h1) ((hA j).1 a h2), fun i a h => R.ow i a ((hA i).1 a h), R.eh, fun i d hd => ?_⟩, fun i a h => (hA i).1 a h⟩
  obtain ⟨v, h1, h2, h3⟩ := (hA i).2.2 d hd
  refine ⟨v, h1, h2, h3 _ (fun a q => q.elim .inl fun ⟨j, q⟩ => .inr ⟨j, (hA j).1 a q⟩) fun a q m => ?_⟩
  rcases q with q | ⟨j, q⟩
  · exact absurd q (R.ow i a m).2.1
  · rw [R.dj i j a m ((hA j).1 a q)]; exact q
/-- a name is set to what was just made -/
theorem SR.put {i : Nat} {k : Nat} {v : V} {d : D} (R : SR U G sa E Γ ρ S σ H As) (P : Post U (sAd sa) (ZZ E As) sa S' k 0 H H1 v d) (hi : ∀ s, G.srcI = some s → i ≠ s) :
    ∃ As', SR U G sa E (Γ.set i k) (ρ.set i (some d)) S' (σ.set i (some v)) H1 As' ∧ Stp sa As As' H H1 := by
  obtain ⟨A, a1, a2, a3, a4⟩ := P.fr
  have R1 := R.step P.ext P.sr
  have nA : ∀ a ∈ A, ∀ j, a ∉ As j := fun a h j q => by
    obtain ⟨o, ho⟩ := (R.ow j a q).2.2
    rw [a3 a h] at ho; cases ho
  have nS : ∀ a ∈ A, ¬ sAd sa a := fun a h q => by
    obtain ⟨o, ho⟩ := R.sr.there a q
    rw [a3 a h] at ho; cases ho
  have liveA : ∀ a ∈ A, ∃ o : HO, H1 a = some o := by
    intro a ha
    cases a1 with
    | zero => simp at ha
    | oth c => simp at ha
    | lst1 h => simp at ha; subst ha; exact ⟨_, h⟩
    | lst2 h hB =>
      rcases List.mem_cons.mp ha with e | e
      · subst e; exact ⟨_, h⟩
      · exact hB.live a e
    | dct _ h => simp at ha; subst ha; exact ⟨_, h⟩
  have zsub : ∀ a, ZZ E (fun j => if j = i then A else As j) a → ZZ E As a ∨ a ∈ A := fun a h => by
    rcases h with h | ⟨j, h⟩
    · exact .inl (.inl h)
    · dsimp only at h
      split at h
      · exact .inr h
      · exact .inl (.inr ⟨j, h⟩)
  refine ⟨fun j => if j = i then A else As j, ⟨by simp [R.len], by simp [R.lg], fun s hs => ?_, P.sr, fun j => ?_, fun j l a h1 h2 => ?_, fun j a h => ?_, R1.eh, fun j d' hd => ?_⟩, ⟨P.ext.mono fun _ h => .inl h, fun j a h => ?_, fun a h => P.ext.free (fun b q => P.sr.there b q) h⟩⟩
  · obtain ⟨a, c, h1, h2⟩ := R.ss s hs
    exact ⟨a, c, h1, by rw [List.getElem?_set_ne (hi s hs)]; exact h2⟩
  · split
    · exact a2
    · exact R.nd j
  · split at h1 <;> split at h2
    · simp_all
    · exact absurd h2 (nA a h1 l)
    · exact absurd h1 (nA a h2 j)
    · exact R.dj j l a h1 h2
  · split at h
    · refine ⟨nS a h, fun q => ?_, liveA a h⟩
      obtain ⟨o, ho⟩ := R.eh a q
      rw [a3 a h] at ho; cases ho
    · exact R1.ow j a h
  · by_cases hj : j = i
    · subst hj
      obtain ⟨hl, rfl⟩ := set_get hd
      refine ⟨v, by rw [List.getElem?_set]; simp [R.len, hl], ?_, ?_⟩
      · have e : gk (Γ.set j k) j = k := by unfold gk; simp [List.getD, R.lg, hl]
        rw [e]; simp only [if_true]; exact a1
      · have e : gk (Γ.set j k) j = k := by unfold gk; simp [List.getD, R.lg, hl]
        rw [e]
        exact (a4.less zsub).deeper (by omega)
    · rw [List.getElem?_set_ne (fun e => hj e.symm)] at hd
      obtain ⟨u, h1, h2, h3⟩ := R.slot j d' hd
      have e : gk (Γ.set i k) j = gk Γ j := by unfold gk; simp [List.getD, List.getElem?_set_ne (fun e => hj e.symm)]
      refine ⟨u, by rw [List.getElem?_set_ne (fun e => hj e.symm)]; exact h1, ?_, ?_⟩
      · rw [e]; simp only [hj, if_false]
        exact h2.ext P.ext fun a q => (R.ow j a q).1
      · rw [e]
        exact (DR.ext P.ext _ _ _ (DR.fresh (W := fun a => a ∈ A) a3 _ _ _ h3)).less zsub
  · split at h
    · exact .inr (a3 a h)
    · exact .inl ⟨j, h⟩
end
/-- the kinds that leave these parts alone -/
def lowL (Γ : List Nat) : List (Nat × Nat) → List Nat
  | [] => Γ
  | p :: l => lowL (Γ.set p.1 (min (gk Γ p.1) p.2)) l
theorem gk_set (Γ : List Nat) (i j k : Nat) : gk (Γ.set i k) j = if i = j ∧ i < Γ.length then k else gk Γ j := by
  unfold gk
  rw [List.getD_eq_getElem?_getD, List.getD_eq_getElem?_getD, List.getElem?_set]
  by_cases h : i = j
  · subst h
    by_cases l : i < Γ.length
    · simp [l]
    · simp [l, List.getElem?_eq_none (Nat.le_of_not_lt l)]
  · simp [h]
theorem lowL_len : ∀ (l : List (Nat × Nat)) (Γ : List Nat), (lowL Γ l).length = Γ.length
  | [], _ => rfl
  | p :: l, Γ => by unfold lowL; rw [lowL_len l, List.length_set]
theorem lowL_le : ∀ (l : List (Nat × Nat)) (Γ : List Nat) (i : Nat), gk (lowL Γ l) i ≤ gk Γ i
  | [], _, _ => Nat.le_refl _
  | p :: l, Γ, i => by
    unfold lowL
    refine Nat.le_trans (lowL_le l _ i) ?_
    rw [gk_set]
    split
    · rename_i h; rw [← h.1]; omega
    · exact Nat.le_refl _
theorem lowL_ok : ∀ (l : List (Nat × Nat)) (Γ : List Nat), ∀ p ∈ l, gk (lowL Γ l) p.1 ≤ p.2
  | [], _, _, h => by simp at h
  | q :: l, Γ, p, h => by
    unfold lowL
    rcases List.mem_cons.mp h with e | e
    · subst e
      refine Nat.le_trans (lowL_le l _ _) ?_
      rw [gk_set]
      split
      · omega
      · rename_i h
        have : Γ.length ≤ p.1 := by
          rcases Nat.lt_or_ge p.1 Γ.length with h' | h'
          · exact absurd ⟨rfl, h'⟩ h
          · exact h'
        unfold gk
        simp [List.getD, List.getElem?_eq_none this]
    · exact lowL_ok l _ p e
end TW
set_option maxRecDepth 20000
/-! TwR: names taken apart, lists written in place, values kept back. -/
namespace TW
open PySem PySem.Spec PyProof.Rows L2

def zeroL (Γ : List Nat) : List Nat → List Nat
  | [] => Γ
  | i :: is => zeroL (Γ.set i 0) is
theorem zeroL_len : ∀ (is : List Nat) (Γ : List Nat), (zeroL Γ is).length = Γ.length
  | [], _ => rfl
  | i :: is, Γ => by unfold zeroL; rw [zeroL_len is, List.length_set]
theorem zeroL_gk : ∀ (is : List Nat) (Γ : List Nat) (j : Nat), gk (zeroL Γ is) j = if j ∈ is then 0 else gk Γ j
  | [], _, _ => by simp [zeroL]
  | i :: is, Γ, j => by
    unfold zeroL
    rw [zeroL_gk is, gk_set]
    by_cases h : j ∈ is
    · simp [h]
    · by_cases e : i = j
      · subst e
        by_cases l : i < Γ.length
        · simp [l]
        · have : gk Γ i = 0 := by unfold gk; simp [List.getD, List.getElem?_eq_none (Nat.le_of_not_lt l)]
          simp [h, l, this]
      · simp [h, e, Ne.symm e]
section
variable {U : Wd} {G : Cfg} {C : Ctx} {sa : SA} {E Y Z : Addr → Prop} {Γ Γ' : List Nat} {ρ ρ1 : DEnv} {S S' : Src} {σ σ1 : L2.St} {H H1 H' : Hp} {As As' As'' : Nat → List Addr}
/-- names set to parts of data -/
theorem SR.names {is : List Nat} (R : SR U G sa E Γ ρ S σ H As) (T : TgR U (sAd sa) (ZZ E As) H is ρ ρ1 σ σ1) (hi : ∀ s, G.srcI = some s → s ∉ is) :
    ∃ As', SR U G sa E (zeroL Γ is) ρ1 S σ1 H As' ∧ ∀ j a, a ∈ As' j → a ∈ As j := by
  have sub : ∀ j a, a ∈ (if j ∈ is then [] else As j) → a ∈ As j := fun j a h => by
    split at h
    · simp at h
    · exact h
  have zsub : ∀ a, ZZ E (fun j => if j ∈ is then [] else As j) a → ZZ E As a := fun a h => h.elim .inl fun ⟨j, q⟩ => .inr ⟨j, sub j a q⟩
  refine ⟨fun j => if j ∈ is then [] else As j, ⟨by rw [T.lens, T.len]; exact R.len, by rw [zeroL_len, T.len]; exact R.lg, fun s hs => ?_, R.sr, fun j => ?_, fun i j a h1 h2 => R.dj i j a (sub _ _ h1) (sub _ _ h2), fun j a h => R.ow j a (sub _ _ h), R.eh, fun j d hd => ?_⟩, sub⟩
  · obtain ⟨a, c, h1, h2⟩ := R.ss s hs
    exact ⟨a, c, h1, by rw [(T.out s (hi s hs)).2]; exact h2⟩
  · split
    · exact List.nodup_nil
    · exact R.nd j
  · rw [zeroL_gk]
    by_cases hj : j ∈ is
    · obtain ⟨v, h1, h2⟩ := T.inn j hj d hd
      simp only [hj, if_true]
      exact ⟨v, h1, .zero, (h2.less zsub).deeper (Nat.zero_le _)⟩
    · rw [(T.out j hj).1] at hd
      obtain ⟨v, h1, h2, h3⟩ := R.slot j d hd
      simp only [hj, if_false]
      exact ⟨v, by rw [(T.out j hj).2]; exact h1, h2, h3.less zsub⟩
theorem Stp.less (h : ∀ j a, a ∈ As' j → a ∈ As j) : Stp sa As As' H H := ⟨.refl H, fun j a q => .inl ⟨j, h j a q⟩, fun _ h => h⟩

/-! ### in place -/
theorem OwnEl.also {l : Addr} (hl : Z l) : ∀ {vs : List V} {ds : List D} {B : List Addr}, OwnEl U H vs ds B → l ∉ B → DRs U Y Z H 1 vs ds → DRs U (orAt Y l) Z H 1 vs ds
  | _, _, _, .nil, _, _ => .nil
  | _, _, _, .lst h r, n, .cons q s => .cons (DR.also1 hl (fun _ e => n (by injection e with e; rw [← e]; exact List.mem_cons_self)) q) (OwnEl.also hl r (fun m => n (List.mem_cons_of_mem _ m)) s)
  | _, _, _, .dct h r, n, .cons q s => .cons (DR.also1 hl (fun _ e => n (by injection e with e; rw [← e]; exact List.mem_cons_self)) q) (OwnEl.also hl r (fun m => n (List.mem_cons_of_mem _ m)) s)
  | _, _, _, .oth c r, n, .cons q s => .cons (DR.also1 hl (fun e => by rw [c] at e; cases e) q) (OwnEl.also hl r n s)
theorem Own.also {k : Nat} {v : V} {d : D} {A : List Addr} {l : Addr} (h : Own U H k v d A) (hl : Z l) (n : l ∉ A) (dr : DR U Y Z H (ed k d) v d) : DR U (orAt Y l) Z H (ed k d) v d := by
  cases h with
  | zero => exact DR.also hl _ _ _ (by cases d <;> rfl) dr
  | oth c => exact DR.also hl _ _ _ (ed_flat _ c) dr
  | @lst1 a vs ds ha => exact DR.also1 hl (fun _ e => n (by injection e with e; simp [e])) dr
  | @lst2 a vs ds B ha hB =>
    have dr2 : DR U Y Z H 2 (.ref a) (.list ds) := dr
    obtain ⟨a', vs', e1, h1, y, z, ll, r⟩ := dr2.lst_inv
    cases e1
    rw [ha] at h1; cases h1
    show DR U (orAt Y l) Z H 2 (.ref a) (.list ds)
    exact .lst ha (fun q => q.elim y fun q => n (by rw [q]; exact List.mem_cons_self)) (fun q => by omega) ll (hB.also hl (fun m => n (List.mem_cons_of_mem _ m)) r)
  | @dct k0 a kvs xs ep hk ha =>
    have e1 : ed k (.dict kvs) = 1 := by simp only [ed]; omega
    rw [e1] at dr ⊢
    exact DR.also1 hl (fun _ e => n (by injection e with e; simp [e])) dr
/-- a list or a dict that slot i owns is written: what the others are, they stay -/
theorem SR.others {i : Nat} {l : Addr} {o u : HO} (R : SR U G sa E Γ ρ S σ H As) (hl : l ∈ As i) (ho : H l = some o) (ni : ¬ Imm o) {d' : D} {v' : V} (hσ : σ[i]? = some (some v')) (hk : gk Γ' i = gk Γ i → True)
    (hg : ∀ j, j ≠ i → gk Γ' j = gk Γ j) (lg : Γ'.length = Γ.length) (nw : ∀ a ∈ As' i, a ∈ As i) (hA : ∀ j, j ≠ i → As' j = As j) (ndi : (As' i).Nodup)
    (new : ∀ Z' : Addr → Prop, (∀ a, Z' a → ZZ E As a) → (∀ a, Z' a → a ∈ As i → a ∈ As' i) → Own U (upd H l u) (gk Γ' i) v' d' (As' i) ∧ DR U (sAd sa) Z' (upd H l u) (ed (gk Γ' i) d') v' d') :
    SR U G sa E Γ' (ρ.set i (some d')) S σ (upd H l u) As' ∧ Stp sa As As' H (upd H l u) := by
  have nS := (R.ow i l hl).1
  have sub : ∀ j a, a ∈ As' j → a ∈ As j := fun j a h => by
    by_cases e : j = i
    · subst e; exact nw a h
    · rw [hA j e] at h; exact h
  have zsub : ∀ a, ZZ E As' a → ZZ E As a := fun a h => h.elim .inl fun ⟨j, q⟩ => .inr ⟨j, sub j a q⟩
  have ext : Ext (orAt (sAd sa) l) H (upd H l u) := .at ho ni (.inr rfl)
  have live : ∀ a, (∃ w : HO, H a = some w) → ∃ w : HO, upd H l u a = some w := fun a ⟨w, hw⟩ => by
    by_cases e : a = l
    · subst e; exact ⟨u, upd_same⟩
    · exact ⟨w, by rw [upd_ne e]; exact hw⟩
  refine ⟨⟨by simp [R.len], by simp [lg, R.lg], R.ss, R.sr.at nS, fun j => ?_, fun j m a h1 h2 => R.dj j m a (sub _ _ h1) (sub _ _ h2), fun j a h => ⟨(R.ow j a (sub _ _ h)).1, (R.ow j a (sub _ _ h)).2.1, live a (R.ow j a (sub _ _ h)).2.2⟩, fun a h => live a (R.eh a h), fun j d hd => ?_⟩,
    ⟨ext.mono fun b h => h.elim .inl fun h => .inr ⟨i, by rw [h]; exact hl⟩, fun j a h => .inl ⟨j, sub j a h⟩, fun a h => ?_⟩⟩
  · by_cases e : j = i
    · subst e; exact ndi
    · rw [hA j e]; exact R.nd j
  · by_cases e : j = i
    · subst e
      obtain ⟨hlt, rfl⟩ := set_get hd
      obtain ⟨n1, n2⟩ := new (ZZ E As') zsub fun a h m => by
        rcases h with h | ⟨q, h⟩
        · exact absurd h (R.ow j a m).2.1
        · rw [R.dj j q a m (sub q a h)]; exact h
      exact ⟨v', hσ, n1, n2⟩
    · rw [List.getElem?_set_ne (Ne.symm e)] at hd
      obtain ⟨v, h1, h2, h3⟩ := R.slot j d hd
      have nl : l ∉ As j := fun m => e (R.dj j i l m hl)
      refine ⟨v, h1, ?_, ?_⟩
      · rw [hg j e, hA j e]
        exact h2.ext (X := fun a => a = l) (.at ho ni rfl) fun a m q => nl (by rw [← q]; exact m)
      · rw [hg j e]
        have h4 := h2.also (Z := ZZ E As) (l := l) (.inr ⟨i, hl⟩) nl h3
        exact (DR.weak (fun _ h => .inl h) _ _ _ (DR.ext ext _ _ _ h4)).less zsub
  · by_cases e : a = l
    · subst e; rw [upd_same] at h; cases h
    · rwa [upd_ne e] at h
/-- the list of slot i gets new items -/
theorem SR.wlist {i : Nat} {l : Addr} {vs vs' : List V} {ds' : List D} (R : SR U G sa E Γ ρ S σ H As) (hk : gk Γ i = 1) (hi : i < Γ.length) (hσ : σ[i]? = some (some (.ref l))) (hA : As i = [l]) (hl : H l = some (.lst vs)) (ll : ds'.length ≤ LINE) (r : DRs U (sAd sa) (ZZ E As) H 0 vs' ds') :
    SR U G sa E Γ (ρ.set i (some (.list ds'))) S σ (upd H l (.lst vs')) As ∧ Stp sa As As H (upd H l (.lst vs')) := by
  have ml : l ∈ As i := by rw [hA]; simp
  refine R.others ml hl (fun h => h) hσ (fun _ => trivial) (fun _ _ => rfl) rfl (fun _ h => h) (fun _ _ => rfl) (R.nd i) fun Z' z1 z2 => ?_
  have ext : Ext (orAt (sAd sa) l) H (upd H l (.lst vs')) := .at hl (fun h => h) (.inr rfl)
  rw [hk, hA]
  refine ⟨.lst1 upd_same, .lst upd_same (R.ow i l ml).1 (fun q => by simp [ed] at q) ll ?_⟩
  exact (DRs.weak (fun _ h => .inl h) _ _ _ (DRs.ext ext _ _ _ (DRs.also (a := l) (.inr ⟨i, ml⟩) _ _ _ rfl r))).less z1
/-- the dict of slot i gets new entries -/
theorem SR.wdict {i : Nat} {l : Addr} {o : HO} {xs' : List (NestedKey × Addr × Value)} {ep' : Nat} {vs' : List V} {kvs' : List (D × D)} (R : SR U G sa E Γ ρ S σ H As) (hk : 1 ≤ gk Γ i) (hσ : σ[i]? = some (some (.ref l))) (hA : As i = [l]) (hl : H l = some o) (ni : ¬ Imm o) (ll : xs'.length ≤ LINE)
    (r : Ents U.K U (sAd sa) (ZZ E As) H 0 xs' kvs' vs') :
    SR U G sa E Γ (ρ.set i (some (.dict kvs'))) S σ (upd H l (dictO U.P U.w l xs' ep')) As ∧ Stp sa As As H (upd H l (dictO U.P U.w l xs' ep')) := by
  have ml : l ∈ As i := by rw [hA]; simp
  refine R.others ml hl ni hσ (fun _ => trivial) (fun _ _ => rfl) rfl (fun _ h => h) (fun _ _ => rfl) (R.nd i) fun Z' z1 z2 => ?_
  have ext : Ext (orAt (sAd sa) l) H (upd H l (dictO U.P U.w l xs' ep')) := .at hl ni (.inr rfl)
  have e1 : ed (gk Γ i) (.dict kvs') = 1 := by simp only [ed]; omega
  rw [hA, e1]
  refine ⟨.dct hk upd_same, DR.dct_mk (vs := vs') upd_same ll (R.ow i l ml).1 (fun q => by omega) ?_⟩
  have step : ∀ {xs : List (NestedKey × Addr × Value)} {kvs : List (D × D)} {vs : List V}, Ents U.K U (sAd sa) (ZZ E As) H 0 xs kvs vs → Ents U.K U (sAd sa) Z' (upd H l (dictO U.P U.w l xs' ep')) 0 xs kvs vs := by
    intro xs kvs vs h
    induction h with
    | nil => exact .nil
    | cons h1 h2 h3 _ ih => exact .cons (h1.ext ext) h2 ((DR.weak (fun _ h => .inl h) _ _ _ (DR.ext ext _ _ _ (DR.also (a := l) (.inr ⟨i, ml⟩) _ _ _ rfl h3))).less z1) ih
  exact step r
theorem OwnEl.at : ∀ {vs : List V} {ds : List D} {B : List Addr} {j : Nat} {xs : List D}, OwnEl U H vs ds B → ds[j]? = some (.list xs) → ∃ b us, b ∈ B ∧ vs[j]? = some (.ref b) ∧ H b = some (.lst us)
  | _, _, _, _, _, .nil, e => by simp at e
  | _, _, _, 0, _, .lst h r, e => ⟨_, _, List.mem_cons_self, rfl, h⟩
  | _, _, _, 0, _, .dct h r, e => by simp at e
  | _, _, _, 0, _, .oth c r, e => by
    simp at e
    rw [e] at c; cases c
  | _, _, _, j + 1, _, .lst h r, e => by
    obtain ⟨b, us, h1, h2, h3⟩ := OwnEl.at (j := j) r (by simpa using e)
    exact ⟨b, us, List.mem_cons_of_mem _ h1, by simpa using h2, h3⟩
  | _, _, _, j + 1, _, .dct h r, e => by
    obtain ⟨b, us, h1, h2, h3⟩ := OwnEl.at (j := j) r (by simpa using e)
    exact ⟨b, us, List.mem_cons_of_mem _ h1, by simpa using h2, h3⟩
  | _, _, _, j + 1, _, .oth c r, e => by
    obtain ⟨b, us, h1, h2, h3⟩ := OwnEl.at (j := j) r (by simpa using e)
    exact ⟨b, us, h1, by simpa using h2, h3⟩
/-- one of the lists is written -/
theorem OwnEl.wr {b : Addr} {us us' : List V} {zs : List D} {Z' : Addr → Prop} (hz : Z b) (hb : H b = some (.lst us)) (yb : ¬ Y b) (lz : zs.length ≤ LINE) (rz : DRs U Y Z H 0 us' zs) (z1 : ∀ a, Z' a → Z a) :
    ∀ {vs : List V} {ds : List D} {B : List Addr} {j : Nat}, OwnEl U H vs ds B → B.Nodup → vs[j]? = some (.ref b) → b ∈ B → (∃ xs, ds[j]? = some (.list xs)) → DRs U Y Z H 1 vs ds →
      OwnEl U (upd H b (.lst us')) vs (ds.set j (.list zs)) B ∧ DRs U Y Z' (upd H b (.lst us')) 1 vs (ds.set j (.list zs)) := by
  have ext : Ext (orAt Y b) H (upd H b (.lst us')) := .at hb (fun h => h) (.inr rfl)
  have ext1 : Ext (fun a => a = b) H (upd H b (.lst us')) := .at hb (fun h => h) rfl
  have keepE : ∀ {vs : List V} {ds : List D} {B : List Addr}, OwnEl U H vs ds B → b ∉ B → DRs U Y Z H 1 vs ds → OwnEl U (upd H b (.lst us')) vs ds B ∧ DRs U Y Z' (upd H b (.lst us')) 1 vs ds := fun h n r =>
    ⟨h.ext ext1 fun a m q => n (by rw [← q]; exact m), (DRs.weak (fun _ h => .inl h) _ _ _ (DRs.ext ext _ _ _ (h.also hz n r))).less z1⟩
  have zsR : DRs U Y Z' (upd H b (.lst us')) 0 us' zs := (DRs.weak (fun _ h => .inl h) _ _ _ (DRs.ext ext _ _ _ (DRs.also (a := b) hz _ _ _ rfl rz))).less z1
  intro vs ds B j h
  induction h generalizing j with
  | nil => intro _ e; simp at e
  | @lst c us0 vs xs ds B hc r ih =>
    intro nd e m ex s
    cases s with
    | cons q s =>
      cases j with
      | zero =>
        have e : c = b := by simpa using e
        subst e
        obtain ⟨k1, k2⟩ := keepE r (List.nodup_cons.mp nd).1 s
        exact ⟨.lst upd_same k1, .cons (.lst upd_same yb (fun q => by omega) lz zsR) k2⟩
      | succ j =>
        have hcb : c ≠ b := by
          rintro rfl
          -- b would be owned twice
          obtain ⟨xs, hx⟩ := ex
          obtain ⟨b', us', h1, h2, h3⟩ := r.at (j := j) (by simpa using hx)
          have e' := e
          rw [List.getElem?_cons_succ, h2] at e'
          injection e' with e'
          injection e' with e'
          exact (List.nodup_cons.mp nd).1 (by rw [← e']; exact h1)
        have m' : b ∈ B := by
          rcases List.mem_cons.mp m with q | q
          · exact absurd q.symm hcb
          · exact q
        obtain ⟨k1, k2⟩ := ih (List.nodup_cons.mp nd).2 (by simpa using e) m' (by simpa using ex) s
        refine ⟨.lst (by rw [upd_ne hcb]; exact hc) k1, .cons ?_ k2⟩
        exact (DR.weak (fun _ h => .inl h) _ _ _ (DR.ext ext _ _ _ (DR.also1 hz (fun _ q => hcb (by injection q)) q))).less z1
  | @dct c xs ep kvs vs ds B hc r ih =>
    intro nd e m ex s
    cases s with
    | cons q s =>
      cases j with
      | zero => simp at ex
      | succ j =>
        have hcb : c ≠ b := by
          rintro rfl
          rw [hc] at hb; cases hb
        have m' : b ∈ B := by
          rcases List.mem_cons.mp m with q | q
          · exact absurd q.symm hcb
          · exact q
        obtain ⟨k1, k2⟩ := ih (List.nodup_cons.mp nd).2 (by simpa using e) m' (by simpa using ex) s
        refine ⟨.dct (by rw [upd_ne hcb]; exact hc) k1, .cons ?_ k2⟩
        exact (DR.weak (fun _ h => .inl h) _ _ _ (DR.ext ext _ _ _ (DR.also1 hz (fun _ q => hcb (by injection q)) q))).less z1
  | @oth v vs d ds B c r ih =>
    intro nd e m ex s
    cases s with
    | cons q s =>
      cases j with
      | zero =>
        obtain ⟨xs, hx⟩ := ex
        simp at hx
        rw [hx] at c; cases c
      | succ j =>
        obtain ⟨k1, k2⟩ := ih nd (by simpa using e) m (by simpa using ex) s
        refine ⟨.oth c k1, .cons ?_ k2⟩
        exact (DR.weak (fun _ h => .inl h) _ _ _ (DR.ext ext _ _ _ (DR.also1 hz (fun e => by rw [c] at e; cases e) q))).less z1
/-- a row of the table of slot i is written -/
theorem SR.wrow {i j : Nat} {b : Addr} {us us' : List V} {ds zs xs : List D} {l : Addr} {vs : List V} {B : List Addr} (R : SR U G sa E Γ ρ S σ H As) (hk : gk Γ i = 2) (hσ : σ[i]? = some (some (.ref l))) (hA : As i = l :: B) (hl : H l = some (.lst vs)) (hB : OwnEl U H vs ds B) (ll : ds.length ≤ LINE)
    (rds : DRs U (sAd sa) (ZZ E As) H 1 vs ds) (hv : vs[j]? = some (.ref b)) (hbB : b ∈ B) (hd : ds[j]? = some (.list xs)) (hb : H b = some (.lst us)) (lz : zs.length ≤ LINE) (rz : DRs U (sAd sa) (ZZ E As) H 0 us' zs) :
    SR U G sa E Γ (ρ.set i (some (.list (ds.set j (.list zs))))) S σ (upd H b (.lst us')) As ∧ Stp sa As As H (upd H b (.lst us')) := by
  have mb : b ∈ As i := by rw [hA]; exact List.mem_cons_of_mem _ hbB
  have ml : l ∈ As i := by rw [hA]; exact List.mem_cons_self
  have nd : (l :: B).Nodup := by rw [← hA]; exact R.nd i
  have hbl : l ≠ b := fun e => (List.nodup_cons.mp nd).1 (by rw [e]; exact hbB)
  refine R.others mb hb (fun h => h) hσ (fun _ => trivial) (fun _ _ => rfl) rfl (fun _ h => h) (fun _ _ => rfl) (R.nd i) fun Z' z1 z2 => ?_
  obtain ⟨w1, w2⟩ := OwnEl.wr (Z := ZZ E As) (Y := sAd sa) (us' := us') (zs := zs) (.inr ⟨i, mb⟩) hb (R.ow i b mb).1 lz rz z1 hB (List.nodup_cons.mp nd).2 hv hbB ⟨xs, hd⟩ rds
  rw [hk, hA]
  exact ⟨.lst2 (by rw [upd_ne hbl]; exact hl) w1, .lst (by rw [upd_ne hbl]; exact hl) (R.ow i l ml).1 (fun q => by simp [ed] at q) (by rw [List.length_set]; exact ll) w2⟩

/-! ### values kept back: as names behind the others -/
theorem SR.grow (R : SR U G sa E Γ ρ S σ H As) : ∃ As', SR U G sa E (Γ ++ [0]) (ρ ++ [none]) S (σ ++ [none]) H As' ∧ ∀ j a, a ∈ As' j → a ∈ As j := by
  refine ⟨As, ⟨by simp [R.len], by simp [R.lg], fun s hs => ?_, R.sr, R.nd, R.dj, R.ow, R.eh, fun i d hd => ?_⟩, fun _ _ h => h⟩
  · obtain ⟨a, c, h1, h2⟩ := R.ss s hs
    have hl := (List.getElem?_eq_some_iff.mp h2).1
    exact ⟨a, c, h1, by rw [List.getElem?_append_left hl]; exact h2⟩
  · by_cases hi : i < ρ.length
    · rw [List.getElem?_append_left hi] at hd
      obtain ⟨v, h1, h2, h3⟩ := R.slot i d hd
      have e : gk (Γ ++ [0]) i = gk Γ i := by unfold gk; simp [List.getD, List.getElem?_append_left (by rw [R.lg]; exact hi : i < Γ.length)]
      rw [e]
      exact ⟨v, by rw [List.getElem?_append_left (by rw [R.len]; exact hi)]; exact h1, h2, h3⟩
    · rw [List.getElem?_append_right (by omega)] at hd
      cases q : i - ρ.length with
      | zero => rw [q] at hd; simp at hd
      | succ m => rw [q] at hd; simp at hd
theorem SR.shrink {x : DEnv} {y : L2.St} {g : List Nat} (R : SR U G sa E (Γ ++ g) (ρ ++ x) S (σ ++ y) H As) (hl : σ.length = ρ.length) (hg : Γ.length = ρ.length) (hs : ∀ s, G.srcI = some s → s < σ.length) : SR U G sa E Γ ρ S σ H As := by
  refine ⟨hl, hg, fun s h => ?_, R.sr, R.nd, R.dj, R.ow, R.eh, fun i d hd => ?_⟩
  · obtain ⟨a, c, h1, h2⟩ := R.ss s h
    exact ⟨a, c, h1, by rwa [List.getElem?_append_left (hs s h)] at h2⟩
  · have hi := (List.getElem?_eq_some_iff.mp hd).1
    obtain ⟨v, h1, h2, h3⟩ := R.slot i d (by rw [List.getElem?_append_left hi]; exact hd)
    have e : gk (Γ ++ g) i = gk Γ i := by unfold gk; simp [List.getD, List.getElem?_append_left (by rw [hg]; exact hi : i < Γ.length)]
    rw [e] at h2 h3
    exact ⟨v, by rwa [List.getElem?_append_left (by rw [hl]; exact hi)] at h1, h2, h3⟩
/-- the value of name m moves to name i -/
theorem SR.move {i m : Nat} {d : D} {v : V} (R : SR U G sa E Γ ρ S σ H As) (him : i ≠ m) (hm : ρ[m]? = some (some d)) (hv : σ[m]? = some (some v)) (hi : ∀ s, G.srcI = some s → i ≠ s) :
    ∃ As', SR U G sa E ((Γ.set i (gk Γ m)).set m 0) ((ρ.set i (some d)).set m none) S (σ.set i (some v)) H As' ∧ (∀ j a, a ∈ As' j → ∃ l, a ∈ As l) := by
  have hml := (List.getElem?_eq_some_iff.mp hm).1
  have sub : ∀ j a, a ∈ (if j = i then As m else if j = m then [] else As j) → (j = i ∧ a ∈ As m) ∨ (j ≠ i ∧ j ≠ m ∧ a ∈ As j) := fun j a h => by
    split at h
    · rename_i e; exact .inl ⟨e, h⟩
    · split at h
      · simp at h
      · rename_i e1 e2; exact .inr ⟨e1, e2, h⟩
  have zsub : ∀ a, ZZ E (fun j => if j = i then As m else if j = m then [] else As j) a → ZZ E As a := fun a h => h.elim .inl fun ⟨j, q⟩ => by
    rcases sub j a q with ⟨_, q⟩ | ⟨_, _, q⟩
    · exact .inr ⟨_, q⟩
    · exact .inr ⟨_, q⟩
  refine ⟨fun j => if j = i then As m else if j = m then [] else As j, ⟨by simp [R.len], by simp [R.lg], fun s hs => ?_, R.sr, fun j => ?_, fun j l a h1 h2 => ?_, fun j a h => ?_, R.eh, fun j d' hd => ?_⟩, fun j a h => ?_⟩
  · obtain ⟨a, c, h1, h2⟩ := R.ss s hs
    exact ⟨a, c, h1, by rw [List.getElem?_set_ne (hi s hs)]; exact h2⟩
  · split
    · exact R.nd m
    · split
      · exact List.nodup_nil
      · exact R.nd j
  · rcases sub j a h1 with ⟨q1, q2⟩ | ⟨q1, q2, q3⟩ <;> rcases sub l a h2 with ⟨p1, p2⟩ | ⟨p1, p2, p3⟩
    · rw [q1, p1]
    · exact absurd (R.dj m l a q2 p3) (Ne.symm p2)
    · exact absurd (R.dj j m a q3 p2) q2
    · exact R.dj j l a q3 p3
  · rcases sub j a h with ⟨q1, q2⟩ | ⟨q1, q2, q3⟩
    · exact R.ow m a q2
    · exact R.ow j a q3
  · by_cases hj : j = m
    · subst hj
      rw [List.getElem?_set] at hd
      simp only [if_true] at hd
      split at hd <;> cases hd
    · rw [List.getElem?_set_ne (Ne.symm hj)] at hd
      have eg : gk ((Γ.set i (gk Γ m)).set m 0) j = gk (Γ.set i (gk Γ m)) j := by rw [gk_set]; simp [Ne.symm hj]
      rw [eg]
      by_cases hji : j = i
      · subst hji
        obtain ⟨hl, rfl⟩ := set_get hd
        obtain ⟨u, h1, h2, h3⟩ := R.slot m d' hm
        rw [hv] at h1; cases h1
        have e2 : gk (Γ.set j (gk Γ m)) j = gk Γ m := by rw [gk_set]; simp [R.lg, hl]
        rw [e2]
        refine ⟨v, by rw [List.getElem?_set]; simp [R.len, hl], ?_, h3.less zsub⟩
        simp only [if_true]; exact h2
      · rw [List.getElem?_set_ne (Ne.symm hji)] at hd
        obtain ⟨u, h1, h2, h3⟩ := R.slot j d' hd
        have e2 : gk (Γ.set i (gk Γ m)) j = gk Γ j := by rw [gk_set]; simp [Ne.symm hji]
        rw [e2]
        refine ⟨u, by rw [List.getElem?_set_ne (Ne.symm hji)]; exact h1, ?_, h3.less zsub⟩
        simp only [hji, hj, if_false]; exact h2
  · rcases sub j a h with ⟨q1, q2⟩ | ⟨q1, q2, q3⟩
    · exact ⟨_, q2⟩
    · exact ⟨_, q3⟩
theorem Post.less {k n : Nat} {v : V} {d : D} {Z' : Addr → Prop} (h : ∀ a, Z' a → Z a) (P : Post U Y Z sa S' k n H H' v d) : Post U Y Z' sa S' k n H H' v d := by
  obtain ⟨A, a1, a2, a3, a4⟩ := P.fr
  exact ⟨P.ext, P.sr, P.dr.less h, A, a1, a2, a3, a4.less fun a q => q.imp (h a) id⟩
theorem zz_sub (h : ∀ j a, a ∈ As' j → a ∈ As j) : ∀ a, ZZ E As' a → ZZ E As a := fun a q => q.elim .inl fun ⟨j, q⟩ => .inr ⟨j, h j a q⟩
/-- a value is kept back -/
theorem SR.keep {k : Nat} {v : V} {d : D} (R : SR U G sa E Γ ρ S σ H As) (P : Post U (sAd sa) (ZZ E As) sa S' k 0 H H1 v d) (hs : ∀ s, G.srcI = some s → s < σ.length) :
    ∃ As', SR U G sa E (Γ ++ [k]) (ρ ++ [some d]) S' (σ ++ [some v]) H1 As' ∧ Stp sa As As' H H1 := by
  obtain ⟨As1, R1, h1⟩ := R.grow
  obtain ⟨As2, R2, h2⟩ := R1.put (i := ρ.length) (P.less (zz_sub h1)) fun s e q => by
    have := hs s e
    rw [R.len] at this
    omega
  refine ⟨As2, ?_, (Stp.less h1).trans h2⟩
  have e1 : (Γ ++ [0]).set ρ.length k = Γ ++ [k] := by rw [← R.lg]; simp
  have e2 : (ρ ++ [none]).set ρ.length (some d) = ρ ++ [some d] := by simp
  have e3 : (σ ++ [none]).set ρ.length (some v) = σ ++ [some v] := by rw [← R.len]; simp
  rw [e1, e2, e3] at R2
  exact R2
def setV : List Nat → List V → L2.St → L2.St
  | i :: is, v :: vs, σ => setV is vs (σ.set i (some v))
  | _, _, σ => σ
def setK : List Nat → List Nat → List Nat → List Nat
  | i :: is, k :: ks, Γ => setK is ks (Γ.set i k)
  | _, _, Γ => Γ
theorem SR.moves : ∀ (is : List Nat) (ds : List D) (vs : List V) (ks : List Nat) (n : Nat) {Γ Γp : List Nat} {ρ ρp ρ' : DEnv} {σ σp : L2.St} {As : Nat → List Addr}, SR U G sa E (Γ ++ Γp) (ρ ++ ρp) S (σ ++ σp) H As →
    Γ.length = ρ.length → σ.length = ρ.length → ρp.drop n = ds.map some → σp.drop n = vs.map some → Γp.drop n = ks → (∀ s, G.srcI = some s → s ∉ is) → setAll is ds ρ = some ρ' →
    ∃ Γp' ρp' σp' As', SR U G sa E (setK is ks Γ ++ Γp') (ρ' ++ ρp') S (setV is vs σ ++ σp') H As' ∧ (∀ j a, a ∈ As' j → ∃ l, a ∈ As l) ∧ (setK is ks Γ).length = ρ'.length ∧ (setV is vs σ).length = ρ'.length ∧ ρ'.length = ρ.length
  | [], [], vs, ks, n, Γ, Γp, ρ, ρp, ρ', σ, σp, As, R, h1, h2, _, _, _, _, e => by
    cases e
    cases vs <;> cases ks <;> exact ⟨Γp, ρp, σp, As, R, fun j a h => ⟨j, h⟩, h1, h2, rfl⟩
  | [], _ :: _, _, _, _, _, _, _, _, _, _, _, _, _, _, _, _, _, _, _, e => by simp [setAll] at e
  | _ :: _, [], _, _, _, _, _, _, _, _, _, _, _, _, _, _, _, _, _, _, e => by simp [setAll] at e
  | i :: is, d :: ds, vs, ks, n, Γ, Γp, ρ, ρp, ρ', σ, σp, As, R, h1, h2, e1, e2, e3, hs, e => by
    simp only [setAll] at e
    split at e
    · rename_i hi
      have g1 : ρp[n]? = some (some d) := by
        have := congrArg (fun l => l[0]?) e1
        simpa using this
      have hlp : ρp.length = σp.length := by
        have := R.len
        simp [h2] at this
        omega
      have hlg : ρp.length = Γp.length := by
        have := R.lg
        simp [h1] at this
        omega
      have hn := (List.getElem?_eq_some_iff.mp g1).1
      match vs, e2 with
      | [], e2 =>
        have := congrArg List.length e2
        simp at this
        omega
      | v :: vs, e2 =>
        match ks, e3 with
        | [], e3 =>
          have := congrArg List.length e3
          simp at this
          omega
        | k :: ks, e3 =>
          have g2 : σp[n]? = some (some v) := by
            have := congrArg (fun l => l[0]?) e2
            simpa using this
          have g3 : Γp[n]? = some k := by
            have := congrArg (fun l => l[0]?) e3
            simpa using this
          have hm1 : (ρ ++ ρp)[ρ.length + n]? = some (some d) := by rw [List.getElem?_append_right (by omega)]; simpa using g1
          have hm2 : (σ ++ σp)[ρ.length + n]? = some (some v) := by rw [List.getElem?_append_right (by omega)]; simpa [h2] using g2
          have hm3 : gk (Γ ++ Γp) (ρ.length + n) = k := by unfold gk; rw [List.getD_eq_getElem?_getD, List.getElem?_append_right (by omega)]; simp [h1, g3]
          obtain ⟨As1, R1, sub1⟩ := R.move (i := i) (m := ρ.length + n) (by omega) hm1 hm2 fun s q z => hs s q (by rw [z]; exact List.mem_cons_self)
          have q1 : ((Γ ++ Γp).set i (gk (Γ ++ Γp) (ρ.length + n))).set (ρ.length + n) 0 = Γ.set i k ++ Γp.set n 0 := by
            rw [hm3, List.set_append_left _ _ (by omega), List.set_append_right _ _ (by simp; omega)]
            simp [h1]
          have q2 : ((ρ ++ ρp).set i (some d)).set (ρ.length + n) none = ρ.set i (some d) ++ ρp.set n none := by
            rw [List.set_append_left _ _ (by omega), List.set_append_right _ _ (by simp)]
            simp
          have q3 : (σ ++ σp).set i (some v) = σ.set i (some v) ++ σp := by rw [List.set_append_left _ _ (by omega)]
          rw [q1, q2, q3] at R1
          have d1 : ∀ {α : Type} (l : List α) (a : α) {b : α} {r : List α}, l.drop n = b :: r → (l.set n a).drop (n + 1) = r := by
            intro α l a b r q
            rw [List.drop_set_of_lt (by omega), ← List.drop_drop, q]
            rfl
          have d2 : ∀ {α : Type} (l : List α) {b : α} {r : List α}, l.drop n = b :: r → l.drop (n + 1) = r := by
            intro α l b r q
            rw [← List.drop_drop, q]
            rfl
          obtain ⟨Γp', ρp', σp', As', R2, sub2, z1, z2, z3⟩ := SR.moves is ds vs ks (n + 1) R1 (by simp [h1]) (by simp [h2]) (d1 _ _ e1) (d2 _ e2) (d1 _ _ e3) (fun s q m => hs s q (List.mem_cons_of_mem _ m)) e
          exact ⟨Γp', ρp', σp', As', R2, fun j a h => by
            obtain ⟨l, h⟩ := sub2 j a h
            exact sub1 l a h, z1, z2, by rw [z3]; simp⟩
    · cases e
end
end TW
set_option maxRecDepth 20000
/-! TwS: statements: what is checked of the text; what they do. -/
namespace TW
open PySem PySem.Spec PyProof.Rows L2

/-! ### the check -/
def tgSafe (G : Cfg) (is : List Nat) : Bool := match G.srcI with
  | some s => !is.contains s
  | none => true
def isStar : Expr → Bool
  | .Starred .. => true
  | _ => false
def nameL (sc : Scope) (line : Nat) : Expr → Option Str
  | .Name id pos => if sc.names.lookup id == some .local && pos.line == line then some id else none
  | _ => none
def swL (ts : List Expr) : Nat := (ts.head?.map (·.pos.line)).getD 0
def swN (sc : Scope) (ts vs : List Expr) : Option (Option (List Str)) :=
  if (!(ts.length == 2 || ts.length == 3) || vs.length != ts.length) = true then some none
  else if (vs.any isStar) = true then some none
  else if ((ts.filterMap (nameL sc (swL ts))).length != ts.length || (ts.filterMap (nameL sc (swL ts))).eraseDups.length != (ts.filterMap (nameL sc (swL ts))).length) = true then some none
  else if (vs.all (foldedForSure 8)) = true then some none
  else if (vs.all (constantsAlone 8)) = true then none
  else some (some (ts.filterMap (nameL sc (swL ts))))
def asgTup (sc : Scope) : Expr → Expr → Bool
  | .Tuple ts _ _, .Tuple vs _ _ => match swN sc ts vs with
    | some none => true
    | _ => false
  | _, _ => true
def namesOf : List Expr → List Str
  | .Name x _ :: r => x :: namesOf r
  | _ :: r => namesOf r
  | [] => []
def frks (T : List Fn) : Exs → List Nat
  | .nil => []
  | .cons e es => frk T e :: frks T es
def meetL : List Nat → List Nat → List Nat
  | a :: as, b :: bs => min a b :: meetL as bs
  | _, _ => []
def leL : List Nat → List Nat → Bool
  | a :: as, b :: bs => decide (a ≤ b) && leL as bs
  | [], [] => true
  | _, _ => false
def stab (f : List Nat → Option (List Nat)) : Nat → List Nat → Option (List Nat)
  | 0, _ => none
  | n + 1, Γ => match f Γ with
    | some Γ1 => if leL Γ Γ1 then some Γ else stab f n (meetL Γ Γ1)
    | none => none
def retK (T : List Fn) (Γ : List Nat) : Ex → Nat
  | .var i => gk Γ i
  | e => frk T e
mutual
def okS (G : Cfg) (sc : Scope) (ret : Nat) : St → Stmt → List Nat → Option (List Nat)
  | .asg tg e, st, Γ => match st with
    | .Assign [t] v _ => if okTg G sc (fun _ => true) tg t && okE G sc e v && tgSafe G (tgL tg) && asgTup sc t v then
        some (match tg with
          | .nm i => (lowL Γ (avd e 0)).set i (frk G.T e)
          | .tp is => zeroL (lowL Γ (avd e 0)) is) else none
    | _ => none
  | .par is es, st, Γ => match st with
    | .Assign [.Tuple ts _ _] (.Tuple vs _ _) _ => if okNames G sc (fun _ => false) is ts && okEs G sc es vs && tgSafe G is && decide (swN sc ts vs = some (some (namesOf ts))) && decide is.Nodup then
        some (setK is (frks G.T es) (lowL Γ (avds es 0))) else none
    | _ => none
  | .app i e, st, Γ => match st with
    | .Expr (.Call (.Attribute (.Name x _) m ap) [v] [] cp) _ => if decide (m = ("append" : Str)) && nmOk G sc i x && noStar v && okE G sc e v && (ap.endLine == cp.line) && decide (1 ≤ gk (lowL Γ (avd e 0)) i) then
        some ((lowL Γ (avd e 0)).set i 1) else none
    | _ => none
  | .ext i e, st, Γ => match st with
    | .Expr (.Call (.Attribute (.Name x _) m ap) [v] [] cp) _ => if decide (m = ("extend" : Str)) && nmOk G sc i x && noStar v && okE G sc e v && (ap.endLine == cp.line) && decide (1 ≤ gk (lowL Γ (avd e 1)) i) then
        some ((lowL Γ (avd e 1)).set i 1) else none
    | _ => none
  | .upd i e, st, Γ => match st with
    | .Expr (.Call (.Attribute (.Name x _) m ap) [v] [] cp) _ => if decide (m = ("update" : Str)) && nmOk G sc i x && noStar v && okE G sc e v && (ap.endLine == cp.line) && decide (1 ≤ gk (lowL Γ (avd e 0)) i) then
        some ((lowL Γ (avd e 0)).set i 1) else none
    | _ => none
  | .set1 i a e, st, Γ => match st with
    | .Assign [.Subscript (.Name x _) y _] v _ => if nmOk G sc i x && notSet y && okE G sc a y && okE G sc e v && decide (1 ≤ gk (lowL Γ (avd e 0)) i) then
        some ((lowL Γ (avd e 0)).set i 1) else none
    | _ => none
  | .set2 i a b e, st, Γ => match st with
    | .Assign [.Subscript (.Subscript (.Name x _) y _) z _] v _ => if nmOk G sc i x && notSet y && notSet z && okE G sc a y && okE G sc b z && okE G sc e v && decide (gk (lowL Γ (avd e 0)) i = 2) then
        some (lowL Γ (avd e 0)) else none
    | _ => none
  | .set22 i a b j c d e f, st, Γ => match st with
    | .Assign [.Tuple [.Subscript (.Subscript (.Name x _) y _) z _, .Subscript (.Subscript (.Name x' _) y' _) z' _] _ _] (.Tuple [v, v'] _ _) _ =>
      if nmOk G sc i x && notSet y && notSet z && okE G sc a y && okE G sc b z && nmOk G sc j x' && notSet y' && notSet z' && okE G sc c y' && okE G sc d z' && noStar v && noStar v' && okE G sc e v && okE G sc f v' &&
          decide (gk (lowL Γ (avd e 0 ++ avd f 0)) i = 2) && decide (gk (lowL Γ (avd e 0 ++ avd f 0)) j = 2) then some (lowL Γ (avd e 0 ++ avd f 0)) else none
    | _ => none
  | .ife c a b, st, Γ => match st with
    | .If x y z _ => if okE G sc c x && tst c then (match okSs G sc ret a y Γ, okSs G sc ret b z Γ with
        | some Γ1, some Γ2 => some (meetL Γ1 Γ2)
        | _, _ => none) else none
    | _ => none
  | .whl c b, st, Γ => match st with
    | .While x y [] _ => if okE G sc c x && tst c then stab (fun Γ => okSs G sc ret b y Γ) 9 Γ else none
    | _ => none
  | .loop tg it b, st, Γ => match st with
    | .For t i y [] _ => if okTg G sc (fun _ => true) tg t && okI G sc it t i && tgSafe G (tgL tg) then stab (fun Γ => okSs G sc ret b y (zeroL Γ (tgL tg))) 9 (lowL Γ (avI it 0)) else none
    | _ => none
  | .ret e, st, Γ => match st with
    | .Return (some v) _ => if okE G sc e v && decide (ret ≤ retK G.T Γ e) then some Γ else none
    | _ => none
def okSs (G : Cfg) (sc : Scope) (ret : Nat) : Sts → List Stmt → List Nat → Option (List Nat)
  | .nil, sts, Γ => match sts with
    | [] => some Γ
    | _ => none
  | .cons s ss, sts, Γ => match sts with
    | st :: r => match okS G sc ret s st Γ with
      | some Γ1 => okSs G sc ret ss r Γ1
      | none => none
    | [] => none
end

/-! ### lists of kinds -/
theorem meet_len : ∀ {a b : List Nat}, a.length = b.length → (meetL a b).length = a.length
  | [], [], _ => rfl
  | _ :: _, _ :: _, h => by simp only [meetL, List.length_cons, meet_len (by simpa using h)]
theorem meet_le : ∀ {a b : List Nat} (i : Nat), a.length = b.length → gk (meetL a b) i ≤ gk a i ∧ gk (meetL a b) i ≤ gk b i
  | [], [], i, _ => by simp [meetL]
  | x :: a, y :: b, 0, _ => by simp [meetL, gk]; omega
  | x :: a, y :: b, i + 1, h => by
    have := meet_le (a := a) (b := b) i (by simpa using h)
    simpa [meetL, gk] using this
theorem leL_of : ∀ {a b : List Nat}, leL a b = true → a.length = b.length ∧ ∀ i, gk a i ≤ gk b i
  | [], [], _ => ⟨rfl, fun _ => Nat.le_refl _⟩
  | x :: a, y :: b, h => by
    simp only [leL, Bool.and_eq_true, decide_eq_true_eq] at h
    obtain ⟨h1, h2⟩ := leL_of h.2
    refine ⟨by simp [h1], fun i => ?_⟩
    cases i with
    | zero => simpa [gk] using h.1
    | succ i => simpa [gk] using h2 i
  | [], _ :: _, h => by simp [leL] at h
  | _ :: _, [], h => by simp [leL] at h
theorem stab_of {f : List Nat → Option (List Nat)} (hf : ∀ Γ Γ1, f Γ = some Γ1 → Γ1.length = Γ.length) : ∀ (n : Nat) {Γ Γh : List Nat}, stab f n Γ = some Γh → (∃ Γ1, f Γh = some Γ1 ∧ leL Γh Γ1 = true) ∧ Γh.length = Γ.length ∧ ∀ i, gk Γh i ≤ gk Γ i
  | 0, _, _, h => by simp [stab] at h
  | n + 1, Γ, Γh, h => by
    simp only [stab] at h
    split at h
    · rename_i Γ1 e
      split at h
      · rename_i l
        cases h
        exact ⟨⟨Γ1, e, l⟩, rfl, fun _ => Nat.le_refl _⟩
      · obtain ⟨h1, h2, h3⟩ := stab_of hf n h
        have hl := (hf _ _ e).symm
        exact ⟨h1, h2.trans (meet_len hl), fun i => Nat.le_trans (h3 i) (meet_le i hl).1⟩
    · cases h
theorem setK_len : ∀ (is ks Γ : List Nat), (setK is ks Γ).length = Γ.length
  | [], _, _ => by simp [setK]
  | _ :: _, [], _ => by simp [setK]
  | i :: is, k :: ks, Γ => by simp only [setK]; rw [setK_len is ks, List.length_set]
mutual
theorem okS_len {G : Cfg} {sc : Scope} {ret : Nat} : ∀ (s : St) {st : Stmt} {Γ Γ' : List Nat}, okS G sc ret s st Γ = some Γ' → Γ'.length = Γ.length
  | .asg tg e, st, Γ, Γ', h => by
    unfold okS at h
    split at h
    · split at h
      · cases h
        cases tg <;> simp [lowL_len, zeroL_len]
      · cases h
    · cases h
  | .par is es, st, Γ, Γ', h => by
    unfold okS at h
    split at h
    · split at h
      · cases h
        rw [setK_len, lowL_len]
      · cases h
    · cases h
  | .app i e, st, Γ, Γ', h => by
    unfold okS at h
    split at h
    · split at h
      · cases h
        simp [lowL_len]
      · cases h
    · cases h
  | .ext i e, st, Γ, Γ', h => by
    unfold okS at h
    split at h
    · split at h
      · cases h
        simp [lowL_len]
      · cases h
    · cases h
  | .upd i e, st, Γ, Γ', h => by
    unfold okS at h
    split at h
    · split at h
      · cases h
        simp [lowL_len]
      · cases h
    · cases h
  | .set1 i a e, st, Γ, Γ', h => by
    unfold okS at h
    split at h
    · split at h
      · cases h
        simp [lowL_len]
      · cases h
    · cases h
  | .set2 i a b e, st, Γ, Γ', h => by
    unfold okS at h
    split at h
    · split at h
      · cases h
        simp [lowL_len]
      · cases h
    · cases h
  | .set22 i a b j c d e f, st, Γ, Γ', h => by
    unfold okS at h
    split at h
    · split at h
      · cases h
        simp [lowL_len]
      · cases h
    · cases h
  | .ife c a b, st, Γ, Γ', h => by
    unfold okS at h
    split at h
    · split at h
      · split at h
        · rename_i g1 g2 e1 e2
          cases h
          rw [meet_len ((okSs_len a e1).trans (okSs_len b e2).symm)]
          exact okSs_len a e1
        · cases h
      · cases h
    · cases h
  | .whl c b, st, Γ, Γ', h => by
    unfold okS at h
    split at h
    · split at h
      · exact (stab_of (fun _ _ e => okSs_len b e) _ h).2.1
      · cases h
    · cases h
  | .loop tg it b, st, Γ, Γ', h => by
    unfold okS at h
    split at h
    · split at h
      · rw [(stab_of (fun _ _ e => by rw [okSs_len b e, zeroL_len]) _ h).2.1, lowL_len]
      · cases h
    · cases h
  | .ret e, st, Γ, Γ', h => by
    unfold okS at h
    split at h
    · split at h
      · cases h; rfl
      · cases h
    · cases h
theorem okSs_len {G : Cfg} {sc : Scope} {ret : Nat} : ∀ (ss : Sts) {sts : List Stmt} {Γ Γ' : List Nat}, okSs G sc ret ss sts Γ = some Γ' → Γ'.length = Γ.length
  | .nil, sts, Γ, Γ', h => by
    unfold okSs at h
    split at h
    · cases h; rfl
    · cases h
  | .cons s ss, sts, Γ, Γ', h => by
    unfold okSs at h
    split at h
    · split at h
      · rename_i g e
        rw [okSs_len ss h, okS_len s e]
      · cases h
    · cases h
end

/-! ### what a statement leaves -/
structure RetP (U : Wd) (sa : SA) (E : Addr → Prop) (S' : Src) (ret : Nat) (As : Nat → List Addr) (H H' : Hp) (v : V) (d : D) : Prop where
  ext : Ext (fun a => sAd sa a ∨ ∃ i, a ∈ As i) H H'
  live : ∀ a, H' a = none → H a = none
  sr : SrcR sa S' H'
  dr : DR U (sAd sa) E H' 0 v d
  fr : ∃ A, Own U H' ret v d A ∧ A.Nodup ∧ (∀ a ∈ A, (∃ i, a ∈ As i) ∨ H a = none) ∧ DR U (sAd sa) (fun a => E a ∨ a ∈ A) H' (ed ret d) v d
def Fin (U : Wd) (G : Cfg) (sa : SA) (E : Addr → Prop) (ret : Nat) (Γ' : List Nat) (As : Nat → List Addr) (H : Hp) (r : Fl × DEnv × Src) (D : Ends) : Prop := match r with
  | (.nx, ρ', S') => ∀ σ' H' As', SR U G sa E Γ' ρ' S' σ' H' As' → Stp sa As As' H H' → D.nx σ' H'
  | (.rt d, _, S') => ∀ v H', RetP U sa E S' ret As H H' v d → D.rt v H'
def tSt (U : Wd) (G : Cfg) (C : Ctx) (ret : Nat) (Γ Γ' : List Nat) (s : St) : TS := fun D σ H => ∃ sa E As ρ S r, SR U G sa E Γ ρ S σ H As ∧ evS C s ρ S = some r ∧ Fin U G sa E ret Γ' As H r D
def tSts (U : Wd) (G : Cfg) (C : Ctx) (ret : Nat) (Γ Γ' : List Nat) (ss : Sts) : TS := fun D σ H => ∃ sa E As ρ S r, SR U G sa E Γ ρ S σ H As ∧ evSs C ss ρ S = some r ∧ Fin U G sa E ret Γ' As H r D
section
variable {U : Wd} {G : Cfg} {C : Ctx} {sa : SA} {E Y Z : Addr → Prop} {Γ Γ' Γ'' : List Nat} {ρ ρ1 : DEnv} {S S' : Src} {σ σ1 : L2.St} {H H1 H' : Hp} {As As' As'' : Nat → List Addr} {ret : Nat} {r : Fl × DEnv × Src} {D : Ends}
theorem RetP.back {v : V} {d : PyData} (s : Stp sa As As' H H1) (R : RetP U sa E S' ret As' H1 H' v d) : RetP U sa E S' ret As H H' v d := by
  obtain ⟨A, a1, a2, a3, a4⟩ := R.fr
  refine ⟨⟨fun c o h n => ?_, fun c o h m => R.ext.imm c o (s.ext.imm c o h m) m⟩, fun a h => s.live a (R.live a h), R.sr, R.dr, A, a1, a2, fun a h => ?_, a4⟩
  · refine R.ext.keep c o (s.ext.keep c o h n) fun q => ?_
    rcases q with q | ⟨i, q⟩
    · exact n (.inl q)
    · rcases s.nw i c q with q | q
      · exact n (.inr q)
      · rw [h] at q; cases q
  · rcases a3 a h with ⟨i, q⟩ | q
    · exact s.nw i a q
    · exact .inr (s.live a q)
theorem Fin.fwd (s : Stp sa As As' H H1) (F : Fin U G sa E ret Γ' As H r D) : Fin U G sa E ret Γ' As' H1 r D := by
  obtain ⟨f, ρ', S'⟩ := r
  cases f with
  | nx => exact fun σ' H' As2 R q => F σ' H' As2 R (s.trans q)
  | rt d => exact fun v H' R => F v H' (R.back s)
theorem Fin.low (l : Γ''.length = Γ'.length) (h : ∀ i, gk Γ'' i ≤ gk Γ' i) (F : Fin U G sa E ret Γ'' As H r D) : Fin U G sa E ret Γ' As H r D := by
  obtain ⟨f, ρ', S'⟩ := r
  cases f with
  | nx =>
    intro σ' H' As2 R q
    obtain ⟨As3, R3, sub⟩ := R.low l h
    exact F σ' H' As3 R3 (q.trans (Stp.less sub))
  | rt d => exact F
/-- the kinds lowered first -/
theorem SR.lowL (R : SR U G sa E Γ ρ S σ H As) (l : List (Nat × Nat)) : ∃ As', SR U G sa E (lowL Γ l) ρ S σ H As' ∧ Stp sa As As' H H ∧ Avoid U (sAd sa) (ZZ E As') l σ H ρ := by
  obtain ⟨As', R', sub⟩ := R.low (lowL_len l Γ) (lowL_le l Γ)
  exact ⟨As', R', Stp.less sub, R'.av (lowL_ok l Γ)⟩
theorem SR.set1 {i k : Nat} (R : SR U G sa E Γ ρ S σ H As) (hk : k ≤ gk Γ i) : ∃ As', SR U G sa E (Γ.set i k) ρ S σ H As' ∧ Stp sa As As' H H := by
  obtain ⟨As', R', sub⟩ := R.low (Γ' := Γ.set i k) (by simp) fun j => by
    rw [gk_set]
    split
    · rename_i h; rw [← h.1]; exact hk
    · exact Nat.le_refl _
  exact ⟨As', R', Stp.less sub⟩
theorem SR.list1 {i : Nat} {xs : List PyData} (R : SR U G sa E Γ ρ S σ H As) (hk : gk Γ i = 1) (hd : ρ[i]? = some (some (.list xs))) :
    ∃ l vs, σ[i]? = some (some (.ref l)) ∧ As i = [l] ∧ H l = some (.lst vs) ∧ xs.length ≤ LINE ∧ DRs U (sAd sa) (ZZ E As) H 0 vs xs := by
  obtain ⟨v, h1, h2, h3⟩ := R.slot i _ hd
  rw [hk] at h2 h3
  obtain ⟨l, vs, rfl, g1, g2, g3, g4, g5⟩ := h3.lst_inv
  generalize hA : As i = A at h2
  cases h2 with
  | oth c => cases c
  | lst1 g => exact ⟨l, vs, h1, rfl, g1, g4, g5⟩
theorem SR.dict1 {i : Nat} {kvs : List (PyData × PyData)} (R : SR U G sa E Γ ρ S σ H As) (hk : gk Γ i = 1) (hd : ρ[i]? = some (some (.dict kvs))) :
    ∃ l xs vs ep, σ[i]? = some (some (.ref l)) ∧ As i = [l] ∧ H l = some (dictO U.P U.w l xs ep) ∧ xs.length ≤ LINE ∧ Ents U.K U (sAd sa) (ZZ E As) H 0 xs kvs vs := by
  obtain ⟨v, h1, h2, h3⟩ := R.slot i _ hd
  rw [hk] at h2 h3
  obtain ⟨l, xs, vs, ep, rfl, g1, g2, g3, g4, g5⟩ := h3.dct_inv
  generalize hA : As i = A at h2
  cases h2 with
  | oth c => cases c
  | dct _ g => exact ⟨l, xs, vs, ep, h1, rfl, g1, g2, g5⟩
theorem SR.list2 {i : Nat} {xs : List PyData} (R : SR U G sa E Γ ρ S σ H As) (hk : gk Γ i = 2) (hd : ρ[i]? = some (some (.list xs))) :
    ∃ l vs B, σ[i]? = some (some (.ref l)) ∧ As i = l :: B ∧ H l = some (.lst vs) ∧ OwnEl U H vs xs B ∧ xs.length ≤ LINE ∧ DRs U (sAd sa) (ZZ E As) H 1 vs xs := by
  obtain ⟨v, h1, h2, h3⟩ := R.slot i _ hd
  rw [hk] at h2 h3
  obtain ⟨l, vs, rfl, g1, g2, g3, g4, g5⟩ := h3.lst_inv
  generalize hA : As i = A at h2
  cases h2 with
  | oth c => cases c
  | lst2 g hB =>
    rw [g1] at g; cases g
    exact ⟨l, vs, _, h1, rfl, g1, hB, g4, g5⟩
end
end TW
set_option maxRecDepth 20000
/-! TwT: each statement, sound. -/
namespace TW
open PySem PySem.Spec PyProof.Rows L2

structure FrOk (X : Cx) : Prop where
  fn : ∀ x, X.fn x = true
  bk : X.env.blockKind = .function
section
variable {U : Wd} {G : Cfg} {C : Ctx} {k : Nat} {X : Cx} {ret : Nat} {Γ Γ' : List Nat} {pos : Pos}
theorem _root_.L2.PS.imp {X : Cx} {st : Stmt} {t t' : TS} (h : PS X st t) (q : ∀ D σ H, t' D σ H → t D σ H) : PS X st t' := ⟨fun pins s σ H D I hw => h.run pins s σ H D I (q _ _ _ hw)⟩
theorem tgSafe_of {is : List Nat} (h : tgSafe G is = true) : ∀ s, G.srcI = some s → s ∉ is := fun s e => by
  unfold tgSafe at h
  rw [e] at h
  simpa using h

/-! ### name = e, a, b = e -/
theorem fin_put {i : Nat} {e : Ex} (hi : ∀ s, G.srcI = some s → i ≠ s) {D : Ends} {σ : L2.St} {H : Hp} (q : tSt U G C ret Γ ((lowL Γ (avd e 0)).set i (frk G.T e)) (.asg (.nm i) e) D σ H) : tAsg (tE U G C e) (gName i) D σ H := by
  obtain ⟨sa, E, As, ρ, S, r, R, ev, F⟩ := q
  simp only [evS] at ev
  split at ev
  · rename_i d S1 e1
    obtain ⟨As1, R1, s1, av⟩ := R.lowL (avd e 0)
    obtain ⟨ρ1, e2, e3⟩ := Option.map_eq_some_iff.mp ev
    cases e3
    cases e2
    refine ⟨sa, ZZ E As1, 0, ρ, S, d, S1, R1.pre, av, e1, fun v H1 P => ?_⟩
    obtain ⟨As2, R2, s2⟩ := R1.put P hi
    exact F _ _ _ R2 (s1.trans s2)
  · cases ev
theorem swB_cases (v : Expr) (x : Str) (p : Pos) (line : Nat) (env : PySem.Env) : swapsWith v (some (.Name x p)) line env = pure false ∨
    (swapsWith v (some (.Name x p)) line env = pure true ∧ env.kindOf x = some .local ∧ ((∃ a b s q, v = .ListComp a b s q) ∨ (∃ a b s q, v = .SetComp a b s q) ∨ ∃ a a' b s q, v = .DictComp a a' b s q)) := by
  have key : ∀ (scope : Scope) (vp : Pos), (pure (env.blockKind == .function && env.kindOf x == some .local && p.line == vp.line && !(scope.names.any fun (n, k) => n == x && (k == .local || k == .cell))) : Sem Bool) = pure false ∨
      ((pure (env.blockKind == .function && env.kindOf x == some .local && p.line == vp.line && !(scope.names.any fun (n, k) => n == x && (k == .local || k == .cell))) : Sem Bool) = pure true ∧ env.kindOf x = some .local) := fun scope vp => by
    cases hb : (env.blockKind == .function && env.kindOf x == some .local && p.line == vp.line && !(scope.names.any fun (n, k) => n == x && (k == .local || k == .cell))) with
    | false => exact .inl rfl
    | true =>
      simp only [Bool.and_eq_true, beq_iff_eq] at hb
      exact .inr ⟨rfl, hb.1.1.2⟩
  cases v <;> first
    | exact .inl rfl
    | (rename_i a b s q
       rcases key s q with h | ⟨h, h'⟩
       · exact .inl h
       · exact .inr ⟨h, h', .inl ⟨_, _, _, _, rfl⟩⟩)
    | (rename_i a b s q
       rcases key s q with h | ⟨h, h'⟩
       · exact .inl h
       · exact .inr ⟨h, h', .inr (.inl ⟨_, _, _, _, rfl⟩)⟩)
    | (rename_i a a' b s q
       rcases key s q with h | ⟨h, h'⟩
       · exact .inl h
       · exact .inr ⟨h, h', .inr (.inr ⟨_, _, _, _, _, rfl⟩)⟩)
theorem st_nm (ok : XOk U G C k X) (fr : FrOk X) {i : Nat} {e : Ex} {x : Str} {p : Pos} {v : Expr} (hx : locOk G X.env.scope (fun _ => true) i x = true) (he : okE G X.env.scope e v = true) (hi : ∀ s, G.srcI = some s → i ≠ s) :
    PS X (.Assign [.Name x p] v pos) (tSt U G C ret Γ ((lowL Γ (avd e 0)).set i (frk G.T e)) (.asg (.nm i) e)) := by
  obtain ⟨h1, h2, h3⟩ := locOk_of hx
  have hN : X.N[i]? = some x := by rw [ok.hN]; exact h1
  rcases swB_cases v x p pos.line X.env with hs | ⟨hs, hl, hv⟩
  · exact (ps_set ok.nd hN h2 (sE e ok he).val hs (.inl (fr.fn x))).imp fun D σ H q => fin_put hi q
  · have hl' : X.env.scope.names.lookup x = some .local := hl
    -- the comprehension stores its list itself
    cases e with
    | lc elt tg it cond own =>
      unfold okE at he
      split at he
      · rename_i xe t ie fs scope p'
        simp only [Bool.and_eq_true] at he
        obtain ⟨⟨⟨⟨⟨⟨h1, h2⟩, h3⟩, h4⟩, h5⟩, h6⟩, h7⟩ := he
        obtain ⟨hI, hS⟩ := sI it ok h2
        refine (s_setLc ok hN hl' hs h1 hI h3 (fun s H Ca cl fp => ?_) (fun s H Ca cl fp => (sE elt (ok.blk s H scope (compEnvC scope cl Ca X.env) fp) h4).val) (fun s e => ?_) (tgIn_of h7) hS).imp fun D σ H q => fin_put hi q
        · match cond, fs, h5 with
          | .no, [], _ => exact pts_nil
          | .no, _ :: _, h5 => simp at h5
          | .so c, [y], h5 =>
            simp only [Bool.and_eq_true] at h5
            exact pts_one ((sE c (ok.blk s H scope (compEnvC scope cl Ca X.env) fp) h5.1).test h5.2)
          | .so c, [], h5 => simp at h5
          | .so c, _ :: _ :: _, h5 => simp at h5
        · rw [e] at h6
          simpa using h6
      · cases he
    | _ =>
      exfalso
      rcases hv with ⟨a, b, s, q, rfl⟩ | ⟨a, b, s, q, rfl⟩ | ⟨a, a', b, s, q, rfl⟩ <;> (simp [okE] at he)
def swM (sc : Scope) (ts vs : List Expr) : Sem (Option (List Str)) :=
  if (!(ts.length == 2 || ts.length == 3) || vs.length != ts.length) = true then pure none
  else if (vs.any isStar) = true then pure none
  else if ((ts.filterMap (nameL sc (swL ts))).length != ts.length || (ts.filterMap (nameL sc (swL ts))).eraseDups.length != (ts.filterMap (nameL sc (swL ts))).length) = true then pure none
  else if (vs.all (foldedForSure 8)) = true then pure none
  else if (vs.all (constantsAlone 8)) = true then unsupported "assign.tuple-of-constant-expressions:order-of-the-stores"
  else pure (some (ts.filterMap (nameL sc (swL ts))))
theorem sw_eq {env : PySem.Env} (bk : env.blockKind = .function) {ts vs : List Expr} {k k2 : Nat} {p p2 : Pos} : swappedStores [.Tuple ts k p] (.Tuple vs k2 p2) env = swM env.scope ts vs := by
  unfold swappedStores
  have bk' : (env.blockKind != .function) = false := by rw [bk]; rfl
  have hk : ∀ id, env.kindOf id = env.scope.names.lookup id := fun _ => rfl
  simp only [hk, bk', Bool.or_false, pure_bind, bind_pure_comp]
  first
    | rfl
    | (unfold swM; split <;> rfl)
theorem sw_of {env : PySem.Env} (bk : env.blockKind = .function) {ts vs : List Expr} {k k2 : Nat} {p p2 : Pos} {r : Option (List Str)} (h : swN env.scope ts vs = some r) : swappedStores [.Tuple ts k p] (.Tuple vs k2 p2) env = pure r := by
  rw [sw_eq bk]
  unfold swN at h
  unfold swM
  by_cases c1 : (!(ts.length == 2 || ts.length == 3) || vs.length != ts.length) = true
  · rw [if_pos c1] at h ⊢
    cases h; rfl
  rw [if_neg c1] at h ⊢
  by_cases c2 : (vs.any isStar) = true
  · rw [if_pos c2] at h ⊢
    cases h; rfl
  rw [if_neg c2] at h ⊢
  by_cases c3 : ((ts.filterMap (nameL env.scope (swL ts))).length != ts.length || (ts.filterMap (nameL env.scope (swL ts))).eraseDups.length != (ts.filterMap (nameL env.scope (swL ts))).length) = true
  · rw [if_pos c3] at h ⊢
    cases h; rfl
  rw [if_neg c3] at h ⊢
  by_cases c4 : (vs.all (foldedForSure 8)) = true
  · rw [if_pos c4] at h ⊢
    cases h; rfl
  rw [if_neg c4] at h ⊢
  by_cases c5 : (vs.all (constantsAlone 8)) = true
  · rw [if_pos c5] at h
    cases h
  rw [if_neg c5] at h ⊢
  cases h; rfl
theorem sole_plain {ts : List Expr} {k : Nat} {p : Pos} (v : Expr) (line : Nat) (env : PySem.Env) : swapsWithSole [.Tuple ts k p] v line env = pure false := by cases v <;> rfl
theorem sole_sub {o i : Expr} {p : Pos} (v : Expr) (line : Nat) (env : PySem.Env) : swapsWithSole [.Subscript o i p] v line env = pure false := by cases v <;> rfl
theorem st_tp (ok : XOk U G C k X) (fr : FrOk X) {is : List Nat} {e : Ex} {t v : Expr} (ht : okTg G X.env.scope (fun _ => true) (.tp is) t = true) (he : okE G X.env.scope e v = true) (hi : ∀ s, G.srcI = some s → s ∉ is) (ha : asgTup X.env.scope t v = true) :
    PS X (.Assign [t] v pos) (tSt U G C ret Γ (zeroL (lowL Γ (avd e 0)) is) (.asg (.tp is) e)) := by
  have hg := pg_of ok.hN ok.nd ok.cal (fun x _ => fr.fn x) ht
  cases t <;> first | (simp [okTg] at ht; done) | skip
  rename_i ts kk p
  have hw : swappedStores [.Tuple ts kk p] v X.env = pure none := by
    cases v <;> first
      | rfl
      | (rename_i vs k2 p2
         refine sw_of fr.bk ?_
         simp only [asgTup] at ha
         split at ha
         · assumption
         · cases ha)
  refine (ps_asg (sE e ok he).val hg (sole_plain v _ _) hw rfl).imp fun D σ H q => ?_
  obtain ⟨sa, E, As, ρ, S, r, R, ev, F⟩ := q
  simp only [evS] at ev
  split at ev
  · rename_i d S1 e1
    obtain ⟨As1, R1, s1, av⟩ := R.lowL (avd e 0)
    obtain ⟨ρ1, e2, e3⟩ := Option.map_eq_some_iff.mp ev
    cases e3
    refine ⟨sa, ZZ E As1, 0, ρ, S, d, S1, R1.pre, av, e1, fun v H1 P => ?_⟩
    have R2 := R1.step P.ext P.sr
    refine gT_run (Z := ZZ E As1) P.dr e2 R2.len fun σ1 T => ?_
    obtain ⟨As3, R3, sub⟩ := R2.names T (by simpa [tgL] using hi)
    exact F _ _ _ R3 (s1.trans ((Stp.of P.sr P.ext).trans (Stp.less sub)))
  · cases ev

/-! ### several at once -/
def tCs (U : Wd) (G : Cfg) (C : Ctx) : Exs → TA
  | .nil => tNil
  | .cons e es => tCons (tE U G C e) (tCs U G C es)
theorem pa_cs (ok : XOk U G C k X) : ∀ {es : Exs} {xs : List Expr}, okEs G X.env.scope es xs = true → PA X xs (tCs U G C es)
  | .nil, [], _ => pa_nil
  | .nil, _ :: _, h => by simp [okEs] at h
  | .cons _ _, [], h => by simp [okEs] at h
  | .cons e es, y :: ys, h => by
    simp only [okEs, Bool.and_eq_true] at h
    exact pa_cons (sE e ok h.1.2).val (pa_cs ok h.2) (star_plain h.1.1 _ _)
theorem mono_cs : ∀ (es : Exs) {σ : L2.St} {H : Hp} {Q Q' : List V → Hp → Prop}, tCs U G C es σ H Q → (∀ vs H1, Q vs H1 → Q' vs H1) → tCs U G C es σ H Q'
  | .nil, σ, H, Q, Q', h, q => q _ _ h
  | .cons e es, σ, H, Q, Q', h, q => by
    obtain ⟨sa, Z, n, ρ, S, d, S', pre, av, ev, h⟩ := h
    exact ⟨sa, Z, n, ρ, S, d, S', pre, av, ev, fun v H1 P => mono_cs es (h v H1 P) fun vs H2 h2 => q _ _ h2⟩
theorem keep_all {sa : SA} {E : Addr → Prop} {Γ : List Nat} {ρ : DEnv} {σ : L2.St} (hl : σ.length = ρ.length) (hg : Γ.length = ρ.length) (hs : ∀ s, G.srcI = some s → s < σ.length) :
    ∀ (es : Exs) {S S' : Src} {ds : List PyData} {Γp : List Nat} {ρp : DEnv} {σp : L2.St} {H : Hp} {As : Nat → List Addr} {Q : List V → Hp → Prop}, SR U G sa E (Γ ++ Γp) (ρ ++ ρp) S (σ ++ σp) H As → (∀ p ∈ avds es 0, gk Γ p.1 ≤ p.2) → evs C es ρ S = some (ds, S') →
      (∀ vs H' As', vs.length = ds.length → SR U G sa E (Γ ++ (Γp ++ frks G.T es)) (ρ ++ (ρp ++ ds.map some)) S' (σ ++ (σp ++ vs.map some)) H' As' → Stp sa As As' H H' → Q vs H') → tCs U G C es σ H Q
  | .nil, S, S', ds, Γp, ρp, σp, H, As, Q, R, av, ev, q => by
    simp only [evs] at ev
    cases ev
    exact q [] H As rfl (by simpa [frks] using R) .refl
  | .cons e es, S, S', ds, Γp, ρp, σp, H, As, Q, R, av, ev, q => by
    simp only [evs] at ev
    split at ev
    · rename_i x S1 e1
      split at ev
      · rename_i xs S2 e2
        cases ev
        have R0 := R.shrink hl hg hs
        refine ⟨sa, ZZ E As, 0, ρ, S, x, S1, R0.pre, R0.av fun p h => av p (by simp [avds, h]), e1, fun v H1 P => ?_⟩
        obtain ⟨As1, R1, s1⟩ := R.keep P fun s h => by have := hs s h; simp; omega
        rw [List.append_assoc, List.append_assoc, List.append_assoc] at R1
        refine keep_all hl hg hs es R1 (fun p h => av p (by simp [avds, h])) e2 fun vs H' As' hv R2 s2 => ?_
        refine q (v :: vs) H' As' (by simp [hv]) ?_ (s1.trans s2)
        simpa [frks] using R2
      · cases ev
    · cases ev
theorem evs_len : ∀ {es : Exs} {ρ : DEnv} {S S' : Src} {ds : List PyData}, evs C es ρ S = some (ds, S') → (frks G.T es).length = ds.length
  | .nil, ρ, S, S', ds, h => by
    simp only [evs] at h
    cases h; rfl
  | .cons e es, ρ, S, S', ds, h => by
    simp only [evs] at h
    split at h
    · split at h
      · rename_i e2
        cases h
        simp [frks, evs_len e2]
      · cases h
    · cases h
theorem setAll_len : ∀ {is : List Nat} {ds : List PyData} {ρ ρ' : DEnv}, setAll is ds ρ = some ρ' → is.length = ds.length
  | [], [], _, _, _ => rfl
  | [], _ :: _, _, _, h => by simp [setAll] at h
  | _ :: _, [], _, _, h => by simp [setAll] at h
  | i :: is, d :: ds, ρ, ρ', h => by
    simp only [setAll] at h
    split at h
    · simp [setAll_len h]
    · cases h
theorem par_key {is : List Nat} {es : Exs} (hi : ∀ s, G.srcI = some s → s ∉ is) {D : Ends} {σ : L2.St} {H : Hp} (q : tSt U G C ret Γ (setK is (frks G.T es) (lowL Γ (avds es 0))) (.par is es) D σ H) :
    tCs U G C es σ H fun vs H1 => vs.length = is.length ∧ D.nx (setV is vs σ) H1 := by
  obtain ⟨sa, E, As, ρ, S, r, R, ev, F⟩ := q
  simp only [evS] at ev
  split at ev
  · rename_i ds S1 e1
    obtain ⟨ρ1, e2, e3⟩ := Option.map_eq_some_iff.mp ev
    cases e3
    obtain ⟨As1, R1, s1, av⟩ := R.lowL (avds es 0)
    have hs : ∀ s, G.srcI = some s → s < σ.length := fun s e => by
      obtain ⟨a, c, _, h⟩ := R.ss s e
      exact (List.getElem?_eq_some_iff.mp h).1
    have R1' : SR U G sa E (lowL Γ (avds es 0) ++ []) (ρ ++ []) S (σ ++ []) H As1 := by simpa using R1
    refine keep_all R1.len R1.lg hs es R1' (fun p h => lowL_ok _ Γ p h) e1 fun vs H' As' hv R2 s2 => ?_
    obtain ⟨Γp', ρp', σp', As3, R3, sub, z1, z2, z3⟩ := SR.moves is ds vs (frks G.T es) 0 R2 R1.lg R1.len (by simp) (by simp) (by simp) hi e2
    have R4 := R3.shrink z2 z1 fun s e => by rw [z2, z3, ← R.len]; exact hs s e
    refine ⟨by rw [hv, setAll_len e2], F _ _ _ R4 (s1.trans (s2.trans ⟨.refl H', fun i a h => .inl (sub i a h), fun _ h => h⟩))⟩
  · cases ev
theorem okNames_len {sc : Scope} {fn : Str → Bool} : ∀ {is : List Nat} {es : List Expr}, okNames G sc fn is es = true → is.length = es.length
  | [], [], _ => rfl
  | [], _ :: _, h => by simp [okNames] at h
  | _ :: _, [], h => by simp [okNames] at h
  | i :: is, e :: es, h => by
    cases e <;> first | (simp [okNames] at h; done) | skip
    simp only [okNames, Bool.and_eq_true] at h
    simp [okNames_len h.2]
theorem st_par (ok : XOk U G C k X) (fr : FrOk X) {is : List Nat} {es : Exs} {ts vs : List Expr} {kt k2 : Nat} {pt p2 : Pos} (ht : okNames G X.env.scope (fun _ => false) is ts = true) (he : okEs G X.env.scope es vs = true) (hi : ∀ s, G.srcI = some s → s ∉ is)
    (hw : swN X.env.scope ts vs = some (some (namesOf ts))) (nd : is.Nodup) : PS X (.Assign [.Tuple ts kt pt] (.Tuple vs k2 p2) pos) (tSt U G C ret Γ (setK is (frks G.T es) (lowL Γ (avds es 0))) (.par is es)) := by
  have hlen : (ts.length = 2 ∨ ts.length = 3) ∧ vs.length = ts.length := by
    unfold swN at hw
    by_cases c1 : (!(ts.length == 2 || ts.length == 3) || vs.length != ts.length) = true
    · rw [if_pos c1] at hw; cases hw
    · simp at c1
      exact ⟨by omega, c1.2⟩
  have hsw := sw_of (k := kt) (k2 := k2) (p := pt) (p2 := p2) fr.bk hw
  have pa := pa_cs ok he
  have loc : ∀ {i : Nat} {x : Str}, locOk G X.env.scope (fun _ => false) i x = true → X.N[i]? = some x ∧ X.env.scope.names.lookup x = some .local := fun {i x} h => by
    obtain ⟨h1, h2, h3⟩ := locOk_of h
    exact ⟨by rw [ok.hN]; exact h1, h3.resolve_left (by simp)⟩
  match ts, vs, is, hlen, ht, nd with
  | [t1, t2], [v1, v2], [i, j], _, ht, nd =>
    cases t1 <;> first | (simp [okNames] at ht; done) | skip
    cases t2 <;> first | (simp [okNames] at ht; done) | skip
    simp only [okNames, Bool.and_eq_true] at ht
    obtain ⟨a1, a2⟩ := loc ht.1
    obtain ⟨b1, b2⟩ := loc ht.2.1
    refine (ps_par ok.cal ok.nd a1 b1 (by simpa using nd) a2 b2 pa hsw (sole_plain _ _ _)).imp fun D σ H q => ?_
    have := par_key hi q
    exact mono_cs es this fun vs H1 ⟨hl, hq⟩ => by
      match vs, hl with
      | [v, w], _ => exact ⟨v, w, rfl, hq⟩
  | [t1, t2, t3], [v1, v2, v3], [i, j, l], _, ht, nd =>
    cases t1 <;> first | (simp [okNames] at ht; done) | skip
    cases t2 <;> first | (simp [okNames] at ht; done) | skip
    cases t3 <;> first | (simp [okNames] at ht; done) | skip
    simp only [okNames, Bool.and_eq_true] at ht
    obtain ⟨a1, a2⟩ := loc ht.1
    obtain ⟨b1, b2⟩ := loc ht.2.1
    obtain ⟨c1, c2⟩ := loc ht.2.2.1
    simp at nd
    refine (ps_par3 ok.cal ok.nd a1 b1 c1 nd.1.1 nd.1.2 nd.2 a2 b2 c2 pa hsw (sole_plain _ _ _)).imp fun D σ H q => ?_
    have := par_key hi q
    exact mono_cs es this fun vs H1 ⟨hl, hq⟩ => by
      match vs, hl with
      | [u, v, w], _ => exact ⟨u, v, w, rfl, hq⟩
  | [_, _], [_, _], [], _, ht, _ => exact absurd (okNames_len ht) (by simp)
  | [_, _], [_, _], [_], _, ht, _ => exact absurd (okNames_len ht) (by simp)
  | [_, _], [_, _], _ :: _ :: _ :: _, _, ht, _ => exact absurd (okNames_len ht) (by simp)
  | [_, _, _], [_, _, _], [], _, ht, _ => exact absurd (okNames_len ht) (by simp)
  | [_, _, _], [_, _, _], [_], _, ht, _ => exact absurd (okNames_len ht) (by simp)
  | [_, _, _], [_, _, _], [_, _], _, ht, _ => exact absurd (okNames_len ht) (by simp)
  | [_, _, _], [_, _, _], _ :: _ :: _ :: _ :: _, _, ht, _ => exact absurd (okNames_len ht) (by simp)
end
end TW
set_option maxRecDepth 20000
/-! TwU: lists and dicts written in place. -/
namespace TW
open PySem PySem.Spec PyProof.Rows L2

section
variable {U : Wd} {G : Cfg} {C : Ctx} {k : Nat} {X : Cx} {ret : Nat} {Γ Γ' : List Nat} {pos : Pos}
theorem getL_of {ρ : DEnv} {i : Nat} {xs : List PyData} (h : getL ρ i = some xs) : ρ[i]? = some (some (.list xs)) := by
  unfold getL at h
  split at h
  · rename_i e; cases h; exact e
  · cases h
theorem pv (ok : XOk U G C k X) {i : Nat} {x : Str} {p : Pos} (h : nmOk G X.env.scope i x = true) : PE X (.Name x p) (tVar i) := by
  obtain ⟨h1, h2, h3, h4⟩ := nmOk_of h
  exact pe_var (by rw [ok.hN]; exact h1) h2 h3 h4
/-- a list at a name, as it stays through what is made -/
theorem st_meth (ok : XOk U G C k X) {i : Nat} {e : Ex} {x m : Str} {p ap cp : Pos} {v : Expr} (hx : nmOk G X.env.scope i x = true) (ns : noStar v = true) (he : okE G X.env.scope e v = true) (hl : (ap.endLine == cp.line) = true) {id : String} {r : V → List V → Hp → VK → Prop}
    (slot : Slot "list" m id) (ty : typeOf (.builtin id) = pure (.type "method_descriptor")) (hm : MtM X id r) (hb : attributeBase (.Name x p) m X.env (eval (.Name x p) X.env) = eval (.Name x p) X.env) :
    PS X (.Expr (.Call (.Attribute (.Name x p) m ap) [v] [] cp) pos) (tDrop (tBM X.K "list" r (tVar i) (tCons (tE U G C e) tNil))) := by
  refine ps_expr (pe_bm PySem.F.plainAttrs_list slot ty hm (pv ok hx) (s_arg ns (sE e ok he).val) hb ?_ hl (star_plain ns _ _) rfl) rfl
  rw [star_plain ns]
  rfl
theorem st_app (ok : XOk U G C k X) {i : Nat} {e : Ex} {x : Str} {p ap cp : Pos} {v : Expr} (hx : nmOk G X.env.scope i x = true) (ns : noStar v = true) (he : okE G X.env.scope e v = true) (hl : (ap.endLine == cp.line) = true) (hk : 1 ≤ gk (lowL Γ (avd e 0)) i) :
    PS X (.Expr (.Call (.Attribute (.Name x p) "append" ap) [v] [] cp) pos) (tSt U G C ret Γ ((lowL Γ (avd e 0)).set i 1) (.app i e)) := by
  refine (st_meth ok hx ns he hl PySem.F.slot_list_append PySem.F.type_list_append mt_append rfl).imp fun D σ H q => ?_
  obtain ⟨sa, E, As, ρ, S, r, R, ev, F⟩ := q
  simp only [evS] at ev
  split at ev
  · rename_i xs e0
    split at ev
    · rename_i d S1 e1
      split at ev
      · rename_i hlt
        cases ev
        have hd := getL_of e0
        obtain ⟨As1, R1, s1, _⟩ := R.lowL (avd e 0)
        obtain ⟨As2, R2, s2⟩ := R1.set1 hk
        have hi : i < (lowL Γ (avd e 0)).length := by rw [R1.lg]; exact (List.getElem?_eq_some_iff.mp hd).1
        have hk1 : gk ((lowL Γ (avd e 0)).set i 1) i = 1 := by rw [gk_set]; simp [hi]
        have av2 : ∀ z ∈ avd e 0, gk ((lowL Γ (avd e 0)).set i 1) z.1 ≤ z.2 := fun z hz => by
          refine Nat.le_trans ?_ (lowL_ok _ Γ z hz)
          rw [gk_set]
          split
          · rename_i h; rw [← h.1]; exact hk
          · exact Nat.le_refl _
        obtain ⟨l, vs, g1, g2, g3, g4, g5⟩ := R2.list1 hk1 hd
        refine ⟨.ref l, g1, .inl ⟨rfl, vs, .inl (.inl g3)⟩, ?_⟩
        refine ⟨sa, ZZ E As2, 0, ρ, S, d, S1, R2.pre, R2.av av2, e1, fun w H1 P => ?_⟩
        have R3 := R2.step P.ext P.sr
        obtain ⟨l', vs', g1', g2', g3', g4', g5'⟩ := R3.list1 hk1 hd
        rw [g1] at g1'; cases g1'
        obtain ⟨R4, s4⟩ := R3.wlist (ds' := xs ++ [d]) (vs' := vs' ++ [w]) hk1 (by simp [hi]) g1 g2' g3' (by simp; omega) (g5'.append (.cons P.dr .nil))
        refine ⟨l, vs', w, rfl, rfl, g3', ?_, F _ _ _ R4 (s1.trans (s2.trans ((Stp.of P.sr P.ext).trans s4)))⟩
        rw [g5'.length, sizeLine_eq]
        exact hlt
      · cases ev
    · cases ev
  · cases ev
theorem st_ext (ok : XOk U G C k X) {i : Nat} {e : Ex} {x : Str} {p ap cp : Pos} {v : Expr} (hx : nmOk G X.env.scope i x = true) (ns : noStar v = true) (he : okE G X.env.scope e v = true) (hl : (ap.endLine == cp.line) = true) (hk : 1 ≤ gk (lowL Γ (avd e 1)) i) :
    PS X (.Expr (.Call (.Attribute (.Name x p) "extend" ap) [v] [] cp) pos) (tSt U G C ret Γ ((lowL Γ (avd e 1)).set i 1) (.ext i e)) := by
  refine (st_meth ok hx ns he hl PySem.F.slot_list_extend PySem.F.type_list_extend mt_extend rfl).imp fun D σ H q => ?_
  obtain ⟨sa, E, As, ρ, S, r, R, ev, F⟩ := q
  simp only [evS] at ev
  split at ev
  · rename_i xs e0
    split at ev
    · rename_i ys S1 e1
      split at ev
      · rename_i hlt
        cases ev
        have hd := getL_of e0
        obtain ⟨As1, R1, s1, _⟩ := R.lowL (avd e 1)
        obtain ⟨As2, R2, s2⟩ := R1.set1 hk
        have hi : i < (lowL Γ (avd e 1)).length := by rw [R1.lg]; exact (List.getElem?_eq_some_iff.mp hd).1
        have hk1 : gk ((lowL Γ (avd e 1)).set i 1) i = 1 := by rw [gk_set]; simp [hi]
        have av2 : ∀ z ∈ avd e 1, gk ((lowL Γ (avd e 1)).set i 1) z.1 ≤ z.2 := fun z hz => by
          refine Nat.le_trans ?_ (lowL_ok _ Γ z hz)
          rw [gk_set]
          split
          · rename_i h; rw [← h.1]; exact hk
          · exact Nat.le_refl _
        obtain ⟨l, vs, g1, g2, g3, g4, g5⟩ := R2.list1 hk1 hd
        refine ⟨.ref l, g1, .inl ⟨rfl, vs, .inl (.inl g3)⟩, ?_⟩
        refine ⟨sa, ZZ E As2, 1, ρ, S, _, S1, R2.pre, R2.av av2, e1, fun w H1 P => ?_⟩
        have R3 := R2.step P.ext P.sr
        obtain ⟨l', vs', g1', g2', g3', g4', g5'⟩ := R3.list1 hk1 hd
        rw [g1] at g1'; cases g1'
        obtain ⟨b, us, rfl, b1, b2, b3, b4, b5⟩ := P.dr.lst_inv
        obtain ⟨R4, s4⟩ := R3.wlist (ds' := xs ++ ys) (vs' := vs' ++ us) hk1 (by simp [hi]) g1 g2' g3' (by simp; omega) (g5'.append b5)
        refine ⟨l, b, vs', us, rfl, rfl, g3', b1, ?_, F _ _ _ R4 (s1.trans (s2.trans ((Stp.of P.sr P.ext).trans s4)))⟩
        rw [g5'.length, b5.length, sizeLine_eq]
        exact hlt
      · cases ev
    · cases ev
  · cases ev
theorem _root_.L2.PSet.or {X : Cx} {t u : TSet} (h : PSet X t) (g : PSet X u) : PSet X (fun o i v H Q => t o i v H Q ∨ u o i v H Q) := fun pins s σ H o i v ov iv w Q I ro ri rv q =>
  q.elim (h pins s σ H o i v ov iv w Q I ro ri rv) (g pins s σ H o i v ov iv w Q I ro ri rv)
theorem sub_assign {o i : Expr} {p : Pos} (h : notSet i = true) (env : PySem.Env) (v : Value) : assign (.Subscript o i p) env v = (do
    let ov ← holding [v] (eval o env)
    let iv ← holding [v, ov] (eval i env)
    standAt p
    holding [v, ov, iv] (setItem ov iv v)
    release [v, ov, iv] []) := by
  cases i <;> first
    | rfl
    | exact absurd h (by simp [notSet])
theorem st_set1 (ok : XOk U G C k X) {i : Nat} {a e : Ex} {x : Str} {p p' : Pos} {y v : Expr} (hx : nmOk G X.env.scope i x = true) (ny : notSet y = true) (ha : okE G X.env.scope a y = true) (he : okE G X.env.scope e v = true) (hk : 1 ≤ gk (lowL Γ (avd e 0)) i) :
    PS X (.Assign [.Subscript (.Name x p) y p'] v pos) (tSt U G C ret Γ ((lowL Γ (avd e 0)).set i 1) (.set1 i a e)) := by
  have h64 : X.A.units + 64 < cLine := ok.rm.units
  have hg : PG X (.Subscript (.Name x p) y p') (gSub (tVar i) (tE U G C a) fun o i v H Q => rSetL o i v H Q ∨ rSetK U o i v H Q) := pg_sub (pv ok hx) (sE a ok ha).val (set_list.or (set_dictK (U := U) ok.hP ok.hW ok.hK h64)) (sub_assign ny X.env)
  refine (ps_asg (sE e ok he).val hg (sole_sub _ _ _) rfl rfl).imp fun D σ H q => ?_
  obtain ⟨sa, E, As, ρ, S, r, R, ev, F⟩ := q
  simp only [evS] at ev
  split at ev
  · rename_i d S1 e1
    split at ev
    · rename_i kd S2 e2
      obtain ⟨As1, R1, s1, _⟩ := R.lowL (avd e 0)
      obtain ⟨As2, R2, s2⟩ := R1.set1 hk
      have av2 : ∀ z ∈ avd e 0, gk ((lowL Γ (avd e 0)).set i 1) z.1 ≤ z.2 := fun z hz => by
        refine Nat.le_trans ?_ (lowL_ok _ Γ z hz)
        rw [gk_set]
        split
        · rename_i h; rw [← h.1]; exact hk
        · exact Nat.le_refl _
      refine ⟨sa, ZZ E As2, 0, ρ, S, d, S1, R2.pre, R2.av av2, e1, fun w H1 P => ?_⟩
      have R3 := R2.step P.ext P.sr
      split at ev
      · rename_i xs kk hd
        obtain ⟨zs, e3, e4⟩ := Option.map_eq_some_iff.mp ev
        cases e4
        have hi : i < (lowL Γ (avd e 0)).length := by rw [R1.lg]; exact (List.getElem?_eq_some_iff.mp hd).1
        have hk1 : gk ((lowL Γ (avd e 0)).set i 1) i = 1 := by rw [gk_set]; simp [hi]
        obtain ⟨l, vs, g1, g2, g3, g4, g5⟩ := R3.list1 hk1 hd
        refine ⟨.ref l, g1, any1 R3.pre e2 fun iv H2 ex sr di => ?_⟩
        cases di.int_inv
        have R4 := R3.step ex sr
        obtain ⟨l', vs', g1', g2', g3', g4', g5'⟩ := R4.list1 hk1 hd
        rw [g1] at g1'; cases g1'
        unfold setIx at e3
        obtain ⟨j, e5, rfl⟩ := Option.map_eq_some_iff.mp e3
        obtain ⟨R5, s5⟩ := R4.wlist (ds' := xs.set j d) (vs' := vs'.set j w) hk1 (by simp [hi]) g1 g2' g3' (by simp; exact g4') (g5'.set (DR.ext ex _ _ _ P.dr) j)
        exact .inl ⟨l, vs', kk, j, rfl, rfl, g3', by rw [g5'.length]; exact e5, F _ _ _ R5 (s1.trans (s2.trans ((Stp.of P.sr P.ext).trans ((Stp.of sr ex).trans s5))))⟩
      · rename_i kk kvs hd
        split at ev
        · rename_i hc
          cases ev
          simp only [Bool.and_eq_true, decide_eq_true_eq] at hc
          have hi : i < (lowL Γ (avd e 0)).length := by rw [R1.lg]; exact (List.getElem?_eq_some_iff.mp hd).1
          have hk1 : gk ((lowL Γ (avd e 0)).set i 1) i = 1 := by rw [gk_set]; simp [hi]
          obtain ⟨l, xs, vs, ep, g1, g2, g3, g4, g5⟩ := R3.dict1 hk1 hd
          refine ⟨.ref l, g1, any1 R3.pre e2 fun iv H2 ex sr di => ?_⟩
          have R4 := R3.step ex sr
          obtain ⟨l', xs', vs', ep', g1', g2', g3', g4', g5'⟩ := R4.dict1 hk1 hd
          rw [g1] at g1'; cases g1'
          obtain ⟨b, rfl, pk⟩ := kOk_pl (K := U.K) hc.1 di
          have hlen := g5'.split.2.2.2
          refine .inr ⟨l, b, _, xs', kvs.map (·.1), ep', rfl, rfl, hc.1, pk, g3', g5'.split.1, by omega, fun u ep2 ru => ?_⟩
          obtain ⟨vs2, en⟩ := g5'.put hc.1 pk ru (DR.ext ex _ _ _ P.dr)
          obtain ⟨R5, s5⟩ := R4.wdict (ep' := ep2) (by omega) g1 g2' g3' (fun h => h) (Nat.le_trans (put_len _ _ _ _) (by omega)) en
          exact F _ _ _ R5 (s1.trans (s2.trans ((Stp.of P.sr P.ext).trans ((Stp.of sr ex).trans s5))))
        · cases ev
      · cases ev
    · cases ev
  · cases ev
/-! ### tables -/
/-- the reading of rows[u][v] = w's store, as the walk meets it -/
theorem ix_row {K : PySem.W.Frag} {l b : Addr} {vs : List V} {kk : Int} {j : Nat} {H : Hp} {Q : VK} (hl : H l = some (.lst vs)) (hj : ixN vs.length kk = some j) (hv : vs[j]? = some (.ref b)) (q : Q (.ref b) H) : rIxL K (.ref l) (.int kk) H Q :=
  ⟨l, vs, kk, .ref b, rfl, rfl, .inl (.inl hl), by unfold atI; rw [hj]; exact hv, q⟩
theorem row_run {K : PySem.W.Frag} {sa : SA} {E : Addr → Prop} {As : Nat → List Addr} {ρ : DEnv} {S S1 S2 : Src} {σ : L2.St} {H : Hp} {i : Nat} {a b : Ex} {kk ll : Int} {xs zs : List PyData} {d : PyData} {w : V} {Q : L2.St → Hp → Prop} (R : SR U G sa E Γ ρ S σ H As) (hk : gk Γ i = 2) (hd : ρ[i]? = some (some (.list xs)))
    (e1 : evE C a ρ S = some (.int kk, S1)) (e2 : evE C b ρ S1 = some (.int ll, S2)) (e3 : set2Ix xs kk ll d = some zs) (dw : DR U (sAd sa) (ZZ E As) H 0 w d)
    (fin : ∀ H', SR U G sa E Γ (ρ.set i (some (.list zs))) S2 σ H' As → Stp sa As As H H' → (∀ w2 d2, DR U (sAd sa) (ZZ E As) H 0 w2 d2 → DR U (sAd sa) (ZZ E As) H' 0 w2 d2) → Q σ H') :
    gSub (tOp (rIxL K) (tVar i) (tE U G C a)) (tE U G C b) rSetL w σ H Q := by
  obtain ⟨l, vs, B, g1, g2, g3, g4, g5, g6⟩ := R.list2 hk hd
  refine ⟨.ref l, g1, any1 R.pre e1 fun iv H1 ex sr di => ?_⟩
  cases di.int_inv
  have R1 := R.step ex sr
  obtain ⟨l', vs', B', g1', g2', g3', g4', g5', g6'⟩ := R1.list2 hk hd
  rw [g1] at g1'; cases g1'
  rw [g2] at g2'; cases g2'
  unfold set2Ix at e3
  split at e3
  · rename_i j ej
    split at e3
    · rename_i ys ey
      split at e3
      · rename_i zs' ez
        cases e3
        unfold setIx at ez
        obtain ⟨m, em, rfl⟩ := Option.map_eq_some_iff.mp ez
        obtain ⟨bb, us, h1, h2, h3⟩ := g4'.at ey
        refine ix_row g3' (by rw [g6'.length]; exact ej) h2 ?_
        refine any1 R1.pre e2 fun jv H2 ex2 sr2 dj => ?_
        cases dj.int_inv
        have R2 := R1.step ex2 sr2
        obtain ⟨l'', vs'', B'', g1'', g2'', g3'', g4'', g5'', g6''⟩ := R2.list2 hk hd
        rw [g1] at g1''; cases g1''
        rw [g2] at g2''; cases g2''
        obtain ⟨cc, us', k1, k2, k3⟩ := g4''.at ey
        obtain ⟨ed, dd, r1⟩ := g6''.get' k2
        rw [ey] at dd; cases dd
        have hbc : bb = cc := by
          have q1 := ex2.keep _ _ g3' (R1.ow i l (by rw [g2]; simp)).1
          rw [g3''] at q1
          cases q1
          rw [h2] at k2
          injection k2 with k2
          injection k2
        subst hbc
        obtain ⟨c2, us2, f1, f2, f3, f4, f5, f6⟩ := r1.lst_inv
        cases f1
        rw [k3] at f2; cases f2
        have dw2 := DR.ext (ex.trans ex2) _ _ _ dw
        obtain ⟨R3, s3⟩ := R2.wrow (zs := ys.set m d) (us' := us'.set m w) hk g1 g2 g3'' g4'' g5'' g6'' k2 k1 ey k3 (by rw [List.length_set]; exact f5) (f6.set dw2 m)
        have mb : bb ∈ As i := by rw [g2]; exact List.mem_cons_of_mem _ k1
        refine ⟨bb, us', ll, m, rfl, rfl, k3, by rw [f6.length]; exact em, fin _ R3 ((Stp.of sr ex).trans ((Stp.of sr2 ex2).trans s3)) fun w2 d2 h => ?_⟩
        have ext : Ext (orAt (sAd sa) bb) H2 (upd H2 bb (.lst (us'.set m w))) := .at k3 (fun h => h) (.inr rfl)
        exact DR.weak (fun _ h => .inl h) _ _ _ (DR.ext ext _ _ _ (DR.also (a := bb) (.inr ⟨i, mb⟩) _ _ _ rfl (DR.ext (ex.trans ex2) _ _ _ h)))
      · cases e3
    · cases e3
  · cases e3
theorem row_pg (ok : XOk U G C k X) {i : Nat} {a b : Ex} {x : Str} {p p' p2 : Pos} {y z : Expr} (hx : nmOk G X.env.scope i x = true) (ny : notSet y = true) (nz : notSet z = true) (ha : okE G X.env.scope a y = true) (hb : okE G X.env.scope b z = true) :
    PG X (.Subscript (.Subscript (.Name x p) y p') z p2) (gSub (tOp (rIxL X.K) (tVar i) (tE U G C a)) (tE U G C b) rSetL) :=
  pg_sub (pe_ix ix_list (pv ok hx) (sE a ok ha).val (plainIx_of ny)) (sE b ok hb).val set_list (sub_assign nz X.env)
theorem st_set2 (ok : XOk U G C k X) {i : Nat} {a b e : Ex} {x : Str} {p p' p2 : Pos} {y z v : Expr} (hx : nmOk G X.env.scope i x = true) (ny : notSet y = true) (nz : notSet z = true) (ha : okE G X.env.scope a y = true) (hb : okE G X.env.scope b z = true) (he : okE G X.env.scope e v = true)
    (hk : gk (lowL Γ (avd e 0)) i = 2) : PS X (.Assign [.Subscript (.Subscript (.Name x p) y p') z p2] v pos) (tSt U G C ret Γ (lowL Γ (avd e 0)) (.set2 i a b e)) := by
  refine (ps_asg (sE e ok he).val (row_pg ok hx ny nz ha hb) (sole_sub _ _ _) rfl rfl).imp fun D σ H q => ?_
  obtain ⟨sa, E, As, ρ, S, r, R, ev, F⟩ := q
  simp only [evS] at ev
  split at ev
  · rename_i d S1 e1
    split at ev
    · rename_i kk S2 e2
      split at ev
      · rename_i ll S3 e3
        split at ev
        · rename_i xs e0
          obtain ⟨zs, e4, e5⟩ := Option.map_eq_some_iff.mp ev
          cases e5
          obtain ⟨As1, R1, s1, av⟩ := R.lowL (avd e 0)
          refine ⟨sa, ZZ E As1, 0, ρ, S, d, S1, R1.pre, av, e1, fun w H1 P => ?_⟩
          exact row_run (R1.step P.ext P.sr) hk (getL_of e0) e2 e3 e4 P.dr fun H' R2 s2 _ => F _ _ _ R2 (s1.trans ((Stp.of P.sr P.ext).trans s2))
        · cases ev
      · cases ev
    · cases ev
  · cases ev
theorem tE_mono {e : Ex} {σ : L2.St} {H : Hp} {Q Q' : VK} (h : tE U G C e σ H Q) (q : ∀ v H1, Q v H1 → Q' v H1) : tE U G C e σ H Q' := by
  obtain ⟨sa, Z, n, ρ, S, d, S', pre, av, ev, h⟩ := h
  exact ⟨sa, Z, n, ρ, S, d, S', pre, av, ev, fun v H1 P => q _ _ (h v H1 P)⟩
/-! ### d.update(e) -/
mutual
theorem hashZ_of (w : World) : ∀ k : NestedKey, noTx k = true → k.hash w = hashZ k
  | .num i, _ => rfl
  | .tup ks, h => by
    show reduceHash (Builtin.Tuple.tupleHashOf (NestedKey.hashes w ks)) = _
    rw [hashZs_of w ks h]
    rfl
  | .none, h => by cases h
  | .text _, h => by cases h
theorem hashZs_of (w : World) : ∀ ks : List NestedKey, noTxs ks = true → NestedKey.hashes w ks = hashZs ks
  | [], _ => rfl
  | k :: ks, h => by
    simp only [noTxs, Bool.and_eq_true] at h
    show NestedKey.hash w k :: NestedKey.hashes w ks = _
    rw [hashZ_of w k h.1, hashZs_of w ks h.2]
    rfl
end
def tUpd (U : Wd) (i : Nat) (te : TE) : TE := fun σ H Q => ∃ a, σ[i]? = some (some (.ref a)) ∧ (∃ xs ep ks, H a = some (dictO U.P U.w a xs ep) ∧ Paired (KeyAt U.K H) xs ks) ∧ te σ H fun y H1 => ∃ b xs ep ks ys ep2 ks2, y = .ref b ∧ a ≠ b ∧ H1 a = some (dictO U.P U.w a xs ep) ∧ Paired (KeyAt U.K H1) xs ks ∧
  H1 b = some (dictO U.P U.w b ys ep2) ∧ Paired (KeyAt U.K H1) ys ks2 ∧ (xs ≠ [] ∨ (ys.map fun x => x.1.hash U.w).Nodup) ∧ xs.length + ys.length ≤ LINE ∧ ∀ ep', Q .non (upd H1 a (dictO U.P U.w a (storedAllH xs ys) ep'))
theorem pe_upd (ok : XOk U G C k X) {i : Nat} {e : Ex} {x : Str} {p ap cp : Pos} {v : Expr} (hx : nmOk G X.env.scope i x = true) (ns : noStar v = true) (he : okE G X.env.scope e v = true) (hl : (ap.endLine == cp.line) = true) :
    PE X (.Call (.Attribute (.Name x p) "update" ap) [v] [] cp) (tUpd U i (tE U G C e)) := by
  refine ⟨fun pins s σ H Q I h => ?_⟩
  obtain ⟨a, ha, ⟨xs0, ep0, ks0, hda, hka⟩, h⟩ := h
  refine wpAny_Call_method_late rfl (by rw [star_plain ns]; rfl) hl rfl (thn ((pv ok hx).run pins s σ H (fun v H1 => v = .ref a ∧ H1 = H) I ⟨.ref a, ha, rfl, rfl⟩) fun u s1 ⟨y, H1, I1, r1, e1, e2⟩ => ?_)
  subst e1 e2
  cases r1
  have hda' := hda
  rw [← ok.hP, ← ok.hW] at hda'
  rw [← ok.hK] at hka
  obtain ⟨d1, d2⟩ := dict_at I1 hda' hka
  refine ⟨"dict", "dict.update", PySem.F.plainAttrs_dict, PySem.F.slot_dict_update, PySem.F.type_dict_update, d2.typeIs, fun b q => ?_, ?_⟩
  · cases q
    obtain ⟨o, _, _, h1, h2, _⟩ := d2
    exact ⟨o, h1, h2.2.1⟩
  · have hA := (s_arg ns (sE e ok he).val).run cp pins s1 σ H1 (fun vs H2 => ∃ y, vs = [y] ∧ ∃ b xs ep ks ys ep2 ks2, y = .ref b ∧ a ≠ b ∧ H2 a = some (dictO U.P U.w a xs ep) ∧ Paired (KeyAt U.K H2) xs ks ∧
      H2 b = some (dictO U.P U.w b ys ep2) ∧ Paired (KeyAt U.K H2) ys ks2 ∧ (xs ≠ [] ∨ (ys.map fun x => x.1.hash U.w).Nodup) ∧ xs.length + ys.length ≤ LINE ∧ ∀ ep', Q .non (upd H2 a (dictO U.P U.w a (storedAllH xs ys) ep'))) I1 (tE_mono h fun y H2 q => ⟨y, rfl, q⟩)
    rw [star_plain ns] at hA ⊢
    refine Calls.callWith_builtin rfl (Calls.evalArgs_plain (thn hA fun us s2 ⟨vs, H2, I2, r2, q2⟩ => ?_))
    obtain ⟨y, rfl, b, xs, ep, ks, ys, ep2, ks2, rfl, hab, g1, g2, g3, g4, g5, g6, g7⟩ := q2
    obtain ⟨ub, rfl, rb⟩ := r2.one
    cases rb
    rw [← ok.hP, ← ok.hW] at g1 g3 g7
    rw [← ok.hK] at g2 g4
    obtain ⟨a1, a2⟩ := dict_at I2 g1 g2
    obtain ⟨b1, b2⟩ := dict_at I2 g3 g4
    have hu : (nestedKind X.prog X.w).room X.A.in1 := nroom ok.rm.units
    refine call_update_dictH hu hab b1 a2 b2 ?_ (sizeL g6) fun h' z1 z2 z3 => ?_
    · refine g5.imp id fun q => ⟨fun x hx => ?_, ?_⟩
      · obtain ⟨n, hn⟩ := List.getElem?_of_mem hx
        obtain ⟨kd, hk1, hk2⟩ := paired_get g4 hn
        obtain ⟨zs, rfl, _, _⟩ := kOk_tup hk2.2.1
        have pl := hk2.2.2
        generalize hv : V.ref x.2.1 = vv at pl
        cases pl with
        | tup h _ _ =>
          cases hv
          obtain ⟨_, _, _, o, o1, o2, _⟩ := I2.hok _ _ h
          exact ⟨o, o1, o2⟩
      · rw [ok.hW]; exact q
    · obtain ⟨ep', ok'⟩ := obj_of (H := fun ep' => upd H2 a (dictO X.prog X.w a (storedAllH xs ys) ep')) a1 z1
      refine ⟨.non, _, ?_, rfl, g7 ep'⟩
      exact I2.write (t' := s2.toks) (x := a) (e := a) (by rw [g1]; trivial) (.inl rfl) (fun c o hc e => (z3.2 c hc).trans e) (let ⟨o, _, _, e, _⟩ := z1; ⟨o, e⟩) ok'
theorem dput_all {K : PySem.W.Frag} {Y Z : Addr → Prop} {H : Hp} {n : Nat} : ∀ {ys : List (NestedKey × Addr × Value)} {kys : List (PyData × PyData)} {us : List V} {xs : List (NestedKey × Addr × Value)} {kxs : List (PyData × PyData)} {vs : List V}, Ents K U Y Z H n xs kxs vs → Ents K U Y Z H n ys kys us →
    ∃ ws, Ents K U Y Z H n (storedAllH xs ys) (kys.foldl (fun m p => dPut m p.1 p.2) kxs) ws ∧ (storedAllH xs ys).length ≤ xs.length + ys.length
  | _, _, _, xs, kxs, vs, ex, .nil => ⟨vs, ex, Nat.le_refl _⟩
  | _, _, _, xs, kxs, vs, ex, .cons (x := x) h1 h2 h3 r => by
    obtain ⟨hk, h1, hp⟩ := h1
    obtain ⟨ws, ew⟩ := ex.put h1 hp h2 h3
    rw [← hk] at ew
    obtain ⟨ws', ew', l⟩ := dput_all ew r
    have hp := put_len xs x.1 x.2.1 x.2.2
    refine ⟨ws', ew', ?_⟩
    show (storedAllH (storedH xs x.1 x.2.1 x.2.2) _).length ≤ _
    simp only [List.length_cons]
    omega
theorem st_upd (ok : XOk U G C k X) {i : Nat} {e : Ex} {x : Str} {p ap cp : Pos} {v : Expr} (hx : nmOk G X.env.scope i x = true) (ns : noStar v = true) (he : okE G X.env.scope e v = true) (hl : (ap.endLine == cp.line) = true) (hk : 1 ≤ gk (lowL Γ (avd e 0)) i) :
    PS X (.Expr (.Call (.Attribute (.Name x p) "update" ap) [v] [] cp) pos) (tSt U G C ret Γ ((lowL Γ (avd e 0)).set i 1) (.upd i e)) := by
  refine (ps_expr (pe_upd ok hx ns he hl) rfl).imp fun D σ H q => ?_
  obtain ⟨sa, E, As, ρ, S, r, R, ev, F⟩ := q
  simp only [evS] at ev
  split at ev
  · rename_i xs hd
    split at ev
    · rename_i ys S1 e1
      split at ev
      · rename_i hc
        cases ev
        simp only [Bool.and_eq_true, decide_eq_true_eq] at hc
        obtain ⟨As1, R1, s1, _⟩ := R.lowL (avd e 0)
        obtain ⟨As2, R2, s2⟩ := R1.set1 hk
        have hi : i < (lowL Γ (avd e 0)).length := by rw [R1.lg]; exact (List.getElem?_eq_some_iff.mp hd).1
        have hk1 : gk ((lowL Γ (avd e 0)).set i 1) i = 1 := by rw [gk_set]; simp [hi]
        have av2 : ∀ z ∈ avd e 0, gk ((lowL Γ (avd e 0)).set i 1) z.1 ≤ z.2 := fun z hz => by
          refine Nat.le_trans ?_ (lowL_ok _ Γ z hz)
          rw [gk_set]
          split
          · rename_i h; rw [← h.1]; exact hk
          · exact Nat.le_refl _
        obtain ⟨l, xs0, vs0, ep0, g1, g2, g3, g4, g5⟩ := R2.dict1 hk1 hd
        refine ⟨l, g1, ⟨xs0, ep0, _, g3, g5.split.1⟩, sa, ZZ E As2, 0, ρ, S, _, S1, R2.pre, R2.av av2, e1, fun w H1 P => ?_⟩
        have R3 := R2.step P.ext P.sr
        obtain ⟨l', xs1, vs1, ep1, g1', g2', g3', g4', g5'⟩ := R3.dict1 hk1 hd
        rw [g1] at g1'; cases g1'
        obtain ⟨b, ys1, us, ep2, rfl, b1, b2, b3, b4, b5⟩ := P.dr.dct_inv
        have ml : l ∈ As2 i := by rw [g2']; simp
        have hlb : l ≠ b := fun e => b4 rfl (by rw [← e]; exact .inr ⟨i, ml⟩)
        have n1 := g5'.split.2.2.2
        have n2 := b5.split.2.2.2
        obtain ⟨ws, en, le⟩ := dput_all g5' b5
        refine ⟨b, xs1, ep1, _, ys1, ep2, _, rfl, hlb, g3', g5'.split.1, b1, b5.split.1, ?_, by omega, fun ep' => ?_⟩
        · rcases (Bool.or_eq_true _ _).mp hc.2 with h | h
          · left
            rintro rfl
            have : xs = [] := List.length_eq_zero_iff.mp (by simpa using n1.symm)
            simp [this] at h
          · right
            unfold hashOk at h
            simp only [Bool.and_eq_true, decide_eq_true_eq, List.all_eq_true] at h
            have key : ∀ {ys1 : List (NestedKey × Addr × Value)} {ys : List (PyData × PyData)} {us : List V}, Ents U.K U (sAd sa) (ZZ E As2) H1 (0 - 1) ys1 ys us → (∀ p ∈ ys, noTx (keyOf p.1) = true) → (ys1.map fun x => x.1.hash U.w) = ys.map fun p => hashZ (keyOf p.1) := by
              intro ys1 ys us h
              induction h with
              | nil => intro _; rfl
              | cons h1 h2 h3 _ ih =>
                intro q
                rw [List.map_cons, List.map_cons, ih fun p hp => q p (List.mem_cons_of_mem _ hp), h1.1, hashZ_of _ _ (q _ List.mem_cons_self)]
            rw [key b5 h.1]
            exact h.2
        · obtain ⟨R4, s4⟩ := R3.wdict (ep' := ep') (by omega) g1 g2' g3' (fun h => h) (by omega) en
          exact F _ _ _ R4 (s1.trans (s2.trans ((Stp.of P.sr P.ext).trans s4)))
      · cases ev
    · cases ev
  · cases ev
end
end TW
set_option maxRecDepth 20000
/-! TwV: two cells at once, if, while, for, return; every statement that passes the check. -/
namespace TW
open PySem PySem.Spec PyProof.Rows L2

section
variable {U : Wd} {G : Cfg} {C : Ctx} {k : Nat} {X : Cx} {ret : Nat} {Γ Γ' : List Nat} {pos : Pos}
theorem sw_subs {sc : Scope} {o i o' i' v v' : Expr} {p p' : Pos} : swN sc [.Subscript o i p, .Subscript o' i' p'] [v, v'] = some none := by
  unfold swN
  rw [if_neg (by simp)]
  split
  · rfl
  · rw [if_pos (by rfl)]
theorem st_set22 (ok : XOk U G C k X) (fr : FrOk X) {i j : Nat} {a b c d e f : Ex} {x x' : Str} {p p1 p2 p' p1' p2' pt pv' : Pos} {y z y' z' v v' : Expr} {kt kv : Nat} (hx : nmOk G X.env.scope i x = true) (ny : notSet y = true) (nz : notSet z = true) (ha : okE G X.env.scope a y = true) (hb : okE G X.env.scope b z = true)
    (hx' : nmOk G X.env.scope j x' = true) (ny' : notSet y' = true) (nz' : notSet z' = true) (hc : okE G X.env.scope c y' = true) (hd : okE G X.env.scope d z' = true) (nv : noStar v = true) (nv' : noStar v' = true) (he : okE G X.env.scope e v = true) (hf : okE G X.env.scope f v' = true)
    (hk : gk (lowL Γ (avd e 0 ++ avd f 0)) i = 2) (hk' : gk (lowL Γ (avd e 0 ++ avd f 0)) j = 2) :
    PS X (.Assign [.Tuple [.Subscript (.Subscript (.Name x p) y p1) z p2, .Subscript (.Subscript (.Name x' p') y' p1') z' p2'] kt pt] (.Tuple [v, v'] kv pv') pos) (tSt U G C ret Γ (lowL Γ (avd e 0 ++ avd f 0)) (.set22 i a b j c d e f)) := by
  have het : okE G X.env.scope (.tup (.cons e (.cons f .nil))) (.Tuple [v, v'] kv pv') = true := by simp [okE, okEs, nv, nv', he, hf]
  have g1 := row_pg (p := p) (p' := p1) (p2 := p2) ok hx ny nz ha hb
  have g2 := row_pg (p := p') (p' := p1') (p2 := p2') ok hx' ny' nz' hc hd
  refine (ps_asg (sE _ ok het).val (pg_tup ok.cal (pgs_cons g1 (pgs_cons g2 pgs_nil)) (n := 2) rfl rfl) (sole_plain _ _ _) (sw_of fr.bk sw_subs) rfl).imp fun D σ H q => ?_
  obtain ⟨sa, E, As, ρ, S, r, R, ev, F⟩ := q
  simp only [evS] at ev
  split at ev
  · rename_i xd S1 e1
    split at ev
    · rename_i yd S2 e2
      split at ev
      · rename_i kk S3 e3
        split at ev
        · rename_i ll S4 e4
          split at ev
          · rename_i xs e5
            split at ev
            · rename_i zs e6
              split at ev
              · rename_i k2 S5 e7
                split at ev
                · rename_i l2 S6 e8
                  split at ev
                  · rename_i us e9
                    obtain ⟨ws, e10, e11⟩ := Option.map_eq_some_iff.mp ev
                    cases e11
                    obtain ⟨As1, R1, s1, av⟩ := R.lowL (avd e 0 ++ avd f 0)
                    have evt : evE C (.tup (.cons e (.cons f .nil))) ρ S = some (.tuple [xd, yd], S2) := by simp [evE, evs, e1, e2, LINE]
                    refine ⟨sa, ZZ E As1, 0, ρ, S, _, S2, R1.pre, av.sub fun z hz => by simpa [avd, avds] using hz, evt, fun w H1 P => ?_⟩
                    have R2 := R1.step P.ext P.sr
                    obtain ⟨t, vs, rfl, ht, _, rt⟩ := P.dr.tup_inv
                    cases rt with
                    | cons r1 rt =>
                      cases rt with
                      | cons r2 rt =>
                        cases rt
                        refine ⟨t, _, rfl, .inl (.inl ht), rfl, _, _, rfl, ?_⟩
                        refine row_run R2 hk (getL_of e5) e3 e4 e6 r1 fun H2 R3 s2 keep => ?_
                        refine ⟨_, _, rfl, ?_⟩
                        refine row_run R3 hk' (getL_of e9) e7 e8 e10 (keep _ _ r2) fun H3 R4 s3 _ => ⟨rfl, ?_⟩
                        exact F _ _ _ R4 (s1.trans ((Stp.of P.sr P.ext).trans (s2.trans s3)))
                  · cases ev
                · cases ev
              · cases ev
            · cases ev
          · cases ev
        · cases ev
      · cases ev
    · cases ev
  · cases ev
/-! ### if, while, for, return -/
theorem test_st {c : Ex} {sa : SA} {E : Addr → Prop} {As : Nat → List Addr} {ρ : DEnv} {S S1 : Src} {σ : L2.St} {H : Hp} {b : Bool} {Q : Bool → Hp → Prop} (R : SR U G sa E Γ ρ S σ H As) (e : evE C c ρ S = some (.bool b, S1)) (q : ∀ H1, SR U G sa E Γ ρ S1 σ H1 As → Stp sa As As H H1 → Q b H1) : tTest (tE U G C c) σ H Q :=
  any1 R.pre e fun u H1 ex sr du => ⟨b, du.bl_inv, q H1 (R.step ex sr) (Stp.of sr ex)⟩
theorem st_ife (ok : XOk U G C k X) {c : Ex} {a b : Sts} {x : Expr} {y z : List Stmt} {Γ1 Γ2 : List Nat} (hl : Γ1.length = Γ2.length) (hc : okE G X.env.scope c x = true) (ht : tst c = true) (ha : PSs X y (tSts U G C ret Γ Γ1 a)) (hb : PSs X z (tSts U G C ret Γ Γ2 b)) :
    PS X (.If x y z pos) (tSt U G C ret Γ (meetL Γ1 Γ2) (.ife c a b)) := by
  refine (ps_if ((sE c ok hc).test ht) ha hb).imp fun D σ H q => ?_
  obtain ⟨sa, E, As, ρ, S, r, R, ev, F⟩ := q
  simp only [evS] at ev
  split at ev
  · rename_i S1 e1
    refine test_st R e1 fun H1 R1 s1 => ?_
    rw [if_pos rfl]
    exact ⟨sa, E, As, ρ, S1, r, R1, ev, (F.fwd s1).low (meet_len hl) fun i => (meet_le i hl).1⟩
  · rename_i S1 e1
    refine test_st R e1 fun H1 R1 s1 => ?_
    rw [if_neg Bool.false_ne_true]
    exact ⟨sa, E, As, ρ, S1, r, R1, ev, (F.fwd s1).low ((meet_len hl).trans hl) fun i => (meet_le i hl).2⟩
  · cases ev
theorem st_whl (ok : XOk U G C k X) {c : Ex} {b : Sts} {x : Expr} {y : List Stmt} {Γh Γ1 : List Nat} (hc : okE G X.env.scope c x = true) (ht : tst c = true) (hb : PSs X y (tSts U G C ret Γh Γ1 b)) (l1 : Γh.length = Γ1.length) (le1 : ∀ i, gk Γh i ≤ gk Γ1 i) (l0 : Γh.length = Γ.length) (le0 : ∀ i, gk Γh i ≤ gk Γ i) :
    PS X (.While x y [] pos) (tSt U G C ret Γ Γh (.whl c b)) := by
  refine (ps_while (by rw [ok.xe]; exact PassesOwn.never) ((sE c ok hc).test ht) hb).imp fun D σ H q => ?_
  obtain ⟨sa, E, As, ρ, S, r, R, ev, F⟩ := q
  simp only [evS] at ev
  obtain ⟨As1, R1, sub⟩ := R.low l0 le0
  refine ⟨fun m σc Hc => ∃ ρc Sc Asc, SR U G sa E Γh ρc Sc σc Hc Asc ∧ Stp sa As Asc H Hc ∧ whlGo (fun ρ S => evE C c ρ S) (fun ρ S => evSs C b ρ S) m ρc Sc = some r, ⟨C.fuel, ρ, S, As1, R1, Stp.less sub, ev⟩, ?_⟩
  rintro m σc Hc ⟨ρc, Sc, Asc, Rc, sc, ec⟩
  cases m with
  | zero => simp [whlGo] at ec
  | succ m =>
    simp only [whlGo] at ec
    split at ec
    · rename_i S1 e1
      refine test_st Rc e1 fun H1 R2 s2 => ?_
      rw [if_pos rfl]
      refine ⟨fun σ' H' => ∃ ρc Sc Asc, SR U G sa E Γh ρc Sc σ' H' Asc ∧ Stp sa As Asc H H' ∧ whlGo (fun ρ S => evE C c ρ S) (fun ρ S => evSs C b ρ S) m ρc Sc = some r, fun σ' H' h => ⟨m, Nat.lt_succ_self m, h⟩, ?_⟩
      split at ec
      · rename_i ρ2 S2 e2
        refine ⟨sa, E, Asc, ρc, S1, _, R2, e2, fun σ' H' As' R3 s3 => ?_⟩
        obtain ⟨As4, R4, sub4⟩ := R3.low l1 le1
        exact ⟨ρ2, S2, As4, R4, sc.trans (s2.trans (s3.trans (Stp.less sub4))), ec⟩
      · rename_i d ρ2 S2 e2
        cases ec
        exact ⟨sa, E, Asc, ρc, S1, _, R2, e2, fun v H' h => F v H' (h.back (sc.trans s2))⟩
      · cases ec
    · rename_i S1 e1
      cases ec
      refine test_st Rc e1 fun H1 R2 s2 => ?_
      rw [if_neg Bool.false_ne_true]
      exact F _ _ _ R2 (sc.trans s2)
    · cases ec
theorem SrcR.kept {sa : SA} {S : Src} {H H' : Hp} (h : SrcR sa S H) (e : Ext NoZ H H') : SrcR sa S H' := by
  cases sa with
  | none => trivial
  | some z =>
    obtain ⟨a, c⟩ := z
    obtain ⟨g1, g2, g3⟩ := h
    exact ⟨g1, e.keep _ _ g2 (fun h => h), e.keep _ _ g3 (fun h => h)⟩
theorem st_loop (ok : XOk U G C k X) (fr : FrOk X) {tg : Tg} {it : It} {b : Sts} {t i : Expr} {y : List Stmt} {Γh Γ1 : List Nat} (hg : okTg G X.env.scope (fun _ => true) tg t = true) (hi : okI G X.env.scope it t i = true) (hs : ∀ s, G.srcI = some s → s ∉ tgL tg) (hb : PSs X y (tSts U G C ret (zeroL Γh (tgL tg)) Γ1 b))
    (l1 : Γh.length = Γ1.length) (le1 : ∀ i, gk Γh i ≤ gk Γ1 i) (l0 : Γh.length = (lowL Γ (avI it 0)).length) (le0 : ∀ i, gk Γh i ≤ gk (lowL Γ (avI it 0)) i) :
    PS X (.For t i y [] pos) (tSt U G C ret Γ Γh (.loop tg it b)) := by
  obtain ⟨hI, hS⟩ := sI it ok hi
  refine (ps_for (by rw [ok.xe]; exact PassesOwn.never) ok.cal hI (pg_of ok.hN ok.nd ok.cal (fun x _ => fr.fn x) hg) hb hS).imp fun D σ H q => ?_
  obtain ⟨sa, E, As, ρ, S, r, R, ev, F⟩ := q
  simp only [evS] at ev
  split at ev
  · rename_i ds S1 e1
    obtain ⟨As1, R1, sub⟩ := R.low (l0.trans (lowL_len _ _)) fun i => Nat.le_trans (le0 i) (lowL_le _ _ i)
    refine ⟨sa, ZZ E As1, ZZ E As1, 0, ρ, S, ds, S1, R1.pre, Nat.zero_le _, fun a h => ⟨h, rfl⟩, R1.av fun p hp => Nat.le_trans (le0 p.1) (lowL_ok _ _ p hp), e1, fun J H1 ex sr hl wk => ?_⟩
    have R2 := R1.step ex sr
    have s2 : Stp sa As As1 H H1 := (Stp.less sub).trans (Stp.of sr ex)
    obtain ⟨PI, hPI⟩ : ∃ PI : Nat → L2.St → Hp → Prop, PI = fun i σc Hc => i ≤ ds.length ∧ ∃ ρc Sc Asc, SR U G sa E Γh ρc Sc σc Hc Asc ∧ Stp sa As1 Asc H1 Hc ∧ forGo (fun ρ S => evSs C b ρ S) tg (ds.drop i) ρc Sc = some r := ⟨_, rfl⟩
    refine ⟨fun i m σc Hc => m = ds.length - i ∧ PI i σc Hc, ⟨_, rfl, by rw [hPI]; exact ⟨Nat.zero_le _, ρ, S1, As1, R2, .refl, by simpa using ev⟩⟩, ?_⟩
    rintro n m σc Hc ⟨rfl, hp⟩
    rw [hPI] at hp
    obtain ⟨hn, ρc, Sc, Asc, Rc, sc, ec⟩ := hp
    have wk1 := wk Hc (sc.ext.mono fun a h => h.elim .inl fun h => .inr (.inr h)) n
    by_cases hlt : n < ds.length
    · right
      have hdi : ds[n]? = some ds[n] := List.getElem?_eq_getElem hlt
      rw [List.drop_eq_getElem_cons hlt] at ec
      obtain ⟨hgo, hy⟩ := wk1.2 _ hdi
      refine ⟨hgo, PI (n + 1), fun σ' H' h => ⟨ds.length - (n + 1), by omega, rfl, h⟩, fun xv H' hyld => ?_⟩
      obtain ⟨ex2, dx⟩ := hy _ _ hyld
      have ex2' : Ext (sAd sa) Hc H' := ex2.mono fun _ h => h.elim
      have sr2 := SrcR.kept Rc.sr ex2
      have R3 := Rc.step ex2' sr2
      have dx' : DR U (sAd sa) (ZZ E Asc) H' 0 xv ds[n] := (DR.weak (fun _ h => .inl h) _ _ _ dx).less fun a h => by
        rcases h with h | ⟨j, h⟩
        · exact .inl (.inl h)
        · rcases sc.nw j a h with q | q
          · exact .inl (.inr q)
          · exact .inr q
      simp only [forGo] at ec
      split at ec
      · cases ec
      · rename_i ρ1 es
        refine gT_run dx' es R3.len fun σ1 T => ?_
        obtain ⟨As3, R4, sub4⟩ := R3.names T hs
        have s4 : Stp sa Asc As3 Hc H' := (Stp.of sr2 ex2').trans (Stp.less sub4)
        split at ec
        · rename_i ρ2 S2 e2
          refine ⟨sa, E, As3, ρ1, Sc, _, R4, e2, fun σ' H'' As' R5 s5 => ?_⟩
          obtain ⟨As6, R6, sub6⟩ := R5.low l1 le1
          rw [hPI]
          exact ⟨hlt, ρ2, S2, As6, R6, sc.trans (s4.trans (s5.trans (Stp.less sub6))), ec⟩
        · rename_i d ρ2 S2 e2
          cases ec
          exact ⟨sa, E, As3, ρ1, Sc, _, R4, e2, fun v H'' h => F v H'' (h.back (s2.trans (sc.trans s4)))⟩
        · cases ec
    · left
      have e : n = ds.length := by omega
      subst e
      rw [List.drop_length] at ec
      simp only [forGo] at ec
      cases ec
      exact ⟨wk1.1 (Nat.le_refl _), F _ _ _ Rc (s2.trans sc)⟩
  · cases ev
/-- every name, seen with nothing owned -/
theorem SR.plainAv {sa : SA} {E : Addr → Prop} {As : Nat → List Addr} {ρ : DEnv} {S : Src} {σ : L2.St} {H : Hp} (R : SR U G sa E Γ ρ S σ H As) (l : List (Nat × Nat)) : Avoid U (sAd sa) E l σ H ρ := by
  obtain ⟨As0, R0, sub0⟩ := R.low (Γ' := zeroL Γ (List.range Γ.length)) (zeroL_len _ _) fun i => by rw [zeroL_gk]; split <;> omega
  have g0 : ∀ i, gk (zeroL Γ (List.range Γ.length)) i = 0 := fun i => by
    rw [zeroL_gk]
    split
    · rfl
    · rename_i h
      unfold gk
      simp [List.getD, List.getElem?_eq_none (by simpa using h : Γ.length ≤ i)]
  exact fun p hp d v q1 q2 => (R0.av (l := l) (fun p _ => by rw [g0]; exact Nat.zero_le _) p hp d v q1 q2).less fun _ h => .inl h
theorem st_retV (ok : XOk U G C k X) {i : Nat} {x : Str} {p : Pos} (hx : nmOk G X.env.scope i x = true) (hr : ret ≤ gk Γ i) : PS X (.Return (some (.Name x p)) pos) (tSt U G C ret Γ Γ (.ret (.var i))) := by
  refine (ps_ret (pv ok hx)).imp fun D σ H q => ?_
  obtain ⟨sa, E, As, ρ, S, r, R, ev, F⟩ := q
  simp only [evS] at ev
  split at ev
  · rename_i d S1 e1
    cases ev
    simp only [evE] at e1
    split at e1
    · rename_i d' hd
      cases e1
      obtain ⟨As1, R1, s1⟩ := R.set1 hr
      have hi : i < Γ.length := by rw [R.lg]; exact (List.getElem?_eq_some_iff.mp hd).1
      obtain ⟨w, h1, h2, h3⟩ := R1.slot i _ hd
      have eg : gk (Γ.set i ret) i = ret := by rw [gk_set]; simp [hi]
      rw [eg] at h2 h3
      refine ⟨w, h1, F w H ⟨.refl H, fun _ h => h, R.sr, R.plainAv [(i, 0)] (i, 0) (by simp) _ _ hd h1, As1 i, h2, R1.nd i, fun a h => s1.nw i a h, h3.less fun a h => h.imp id fun h => ⟨i, h⟩⟩⟩
    · cases e1
  · cases ev
theorem st_ret (ok : XOk U G C k X) {e : Ex} {v : Expr} (he : okE G X.env.scope e v = true) (hrf : ret ≤ frk G.T e) : PS X (.Return (some v) pos) (tSt U G C ret Γ Γ (.ret e)) := by
  refine (ps_ret (sE e ok he).val).imp fun D σ H q => ?_
  obtain ⟨sa, E, As, ρ, S, r, R, ev, F⟩ := q
  simp only [evS] at ev
  split at ev
  · rename_i d S1 e1
    cases ev
    refine ⟨sa, E, 0, ρ, S, d, S1, ⟨R.pre.ed, R.ss, R.sr, R.eh⟩, R.plainAv _, e1, fun w H1 P => F w H1 ?_⟩
    obtain ⟨A, a1, a2, a3, a4⟩ := P.fr
    obtain ⟨A', b1, b2, b3, b4⟩ := a1.low hrf a2 (a4.deeper (by omega))
    refine ⟨P.ext.mono fun _ h => .inl h, fun a h => P.ext.free (fun b q => P.sr.there b q) h, P.sr, P.dr, A', b1, b3, fun a h => .inr (a3 a (b2 a h)), b4 _ (fun a h => h.imp id (b2 a)) fun a h m => ?_⟩
    rcases h with h | h
    · obtain ⟨o, ho⟩ := R.eh a h
      rw [a3 a m] at ho; cases ho
    · exact h
  · cases ev

set_option maxHeartbeats 4000000 in
mutual
theorem sS (ok : XOk U G C k X) (fr : FrOk X) : ∀ (s : St) {st : Stmt} {Γ Γ' : List Nat}, okS G X.env.scope ret s st Γ = some Γ' → PS X st (tSt U G C ret Γ Γ' s)
  | .asg tg e, st, Γ, Γ', h => by
    unfold okS at h
    split at h
    · split at h
      · rename_i hc
        cases h
        simp only [Bool.and_eq_true] at hc
        obtain ⟨⟨⟨h1, h2⟩, h3⟩, h4⟩ := hc
        cases tg with
        | nm i =>
          rename_i t v p
          cases t <;> first | (simp [okTg] at h1; done) | skip
          exact st_nm ok fr (by simpa [okTg] using h1) h2 fun s q e => tgSafe_of h3 s q (by simp [tgL, e])
        | tp is => exact st_tp ok fr h1 h2 (by simpa [tgL] using tgSafe_of h3) h4
      · cases h
    · cases h
  | .par is es, st, Γ, Γ', h => by
    unfold okS at h
    split at h
    · split at h
      · rename_i hc
        cases h
        simp only [Bool.and_eq_true, decide_eq_true_eq] at hc
        exact st_par ok fr hc.1.1.1.1 hc.1.1.1.2 (tgSafe_of hc.1.1.2) hc.1.2 hc.2
      · cases h
    · cases h
  | .app i e, st, Γ, Γ', h => by
    unfold okS at h
    split at h
    · split at h
      · rename_i hc
        cases h
        simp only [Bool.and_eq_true, decide_eq_true_eq] at hc
        obtain ⟨⟨⟨⟨⟨rfl, h2⟩, h3⟩, h4⟩, h5⟩, h6⟩ := hc
        exact st_app ok h2 h3 h4 h5 h6
      · cases h
    · cases h
  | .ext i e, st, Γ, Γ', h => by
    unfold okS at h
    split at h
    · split at h
      · rename_i hc
        cases h
        simp only [Bool.and_eq_true, decide_eq_true_eq] at hc
        obtain ⟨⟨⟨⟨⟨rfl, h2⟩, h3⟩, h4⟩, h5⟩, h6⟩ := hc
        exact st_ext ok h2 h3 h4 h5 h6
      · cases h
    · cases h
  | .upd i e, st, Γ, Γ', h => by
    unfold okS at h
    split at h
    · split at h
      · rename_i hc
        cases h
        simp only [Bool.and_eq_true, decide_eq_true_eq] at hc
        obtain ⟨⟨⟨⟨⟨rfl, h2⟩, h3⟩, h4⟩, h5⟩, h6⟩ := hc
        exact st_upd ok h2 h3 h4 h5 h6
      · cases h
    · cases h
  | .set1 i a e, st, Γ, Γ', h => by
    unfold okS at h
    split at h
    · split at h
      · rename_i hc
        cases h
        simp only [Bool.and_eq_true, decide_eq_true_eq] at hc
        exact st_set1 ok hc.1.1.1.1 hc.1.1.1.2 hc.1.1.2 hc.1.2 hc.2
      · cases h
    · cases h
  | .set2 i a b e, st, Γ, Γ', h => by
    unfold okS at h
    split at h
    · split at h
      · rename_i hc
        cases h
        simp only [Bool.and_eq_true, decide_eq_true_eq] at hc
        exact st_set2 ok hc.1.1.1.1.1.1 hc.1.1.1.1.1.2 hc.1.1.1.1.2 hc.1.1.1.2 hc.1.1.2 hc.1.2 hc.2
      · cases h
    · cases h
  | .set22 i a b j c d e f, st, Γ, Γ', h => by
    unfold okS at h
    split at h
    · split at h
      · rename_i hc
        cases h
        simp only [Bool.and_eq_true, decide_eq_true_eq] at hc
        obtain ⟨⟨⟨⟨⟨⟨⟨⟨⟨⟨⟨⟨⟨⟨⟨c1, c2⟩, c3⟩, c4⟩, c5⟩, c6⟩, c7⟩, c8⟩, c9⟩, c10⟩, c11⟩, c12⟩, c13⟩, c14⟩, c15⟩, c16⟩ := hc
        exact st_set22 ok fr c1 c2 c3 c4 c5 c6 c7 c8 c9 c10 c11 c12 c13 c14 c15 c16
      · cases h
    · cases h
  | .ife c a b, st, Γ, Γ', h => by
    unfold okS at h
    split at h
    · split at h
      · rename_i hc
        split at h
        · rename_i g1 g2 e1 e2
          cases h
          simp only [Bool.and_eq_true] at hc
          exact st_ife ok ((okSs_len a e1).trans (okSs_len b e2).symm) hc.1 hc.2 (sSs ok fr a e1) (sSs ok fr b e2)
        · cases h
      · cases h
    · cases h
  | .whl c b, st, Γ, Γ', h => by
    unfold okS at h
    split at h
    · split at h
      · rename_i hc
        simp only [Bool.and_eq_true] at hc
        obtain ⟨⟨Γ1, e1, l1⟩, l2, l3⟩ := stab_of (fun _ _ e => okSs_len b e) _ h
        exact st_whl ok hc.1 hc.2 (sSs ok fr b e1) (leL_of l1).1 (leL_of l1).2 l2 l3
      · cases h
    · cases h
  | .loop tg it b, st, Γ, Γ', h => by
    unfold okS at h
    split at h
    · split at h
      · rename_i hc
        simp only [Bool.and_eq_true] at hc
        obtain ⟨⟨Γ1, e1, l1⟩, l2, l3⟩ := stab_of (fun _ _ e => by rw [okSs_len b e, zeroL_len]) _ h
        exact st_loop ok fr hc.1.1 hc.1.2 (tgSafe_of hc.2) (sSs ok fr b e1) (leL_of l1).1 (leL_of l1).2 l2 l3
      · cases h
    · cases h
  | .ret e, st, Γ, Γ', h => by
    unfold okS at h
    split at h
    · split at h
      · rename_i hc
        cases h
        simp only [Bool.and_eq_true, decide_eq_true_eq] at hc
        cases e with
        | var i =>
          rename_i v p
          have h1 := hc.1
          cases v <;> first | (simp [okE] at h1; done) | skip
          exact st_retV ok (by simpa [okE] using h1) (by simpa [retK] using hc.2)
        | _ => exact st_ret ok hc.1 (by simpa [retK] using hc.2)
      · cases h
    · cases h
theorem sSs (ok : XOk U G C k X) (fr : FrOk X) : ∀ (ss : Sts) {sts : List Stmt} {Γ Γ' : List Nat}, okSs G X.env.scope ret ss sts Γ = some Γ' → PSs X sts (tSts U G C ret Γ Γ' ss)
  | .nil, sts, Γ, Γ', h => by
    unfold okSs at h
    split at h
    · cases h
      refine ⟨fun pins s σ H D I q => pss_nil.run pins s σ H D I ?_⟩
      obtain ⟨sa, E, As, ρ, S, r, R, ev, F⟩ := q
      simp only [evSs] at ev
      cases ev
      exact F _ _ _ R .refl
    · cases h
  | .cons s ss, sts, Γ, Γ', h => by
    unfold okSs at h
    split at h
    · split at h
      · rename_i g e
        have h1 := sS ok fr s e
        have h2 := sSs ok fr ss h
        refine ⟨fun pins s0 σ H D I q => (pss_cons h1 h2).run pins s0 σ H D I ?_⟩
        obtain ⟨sa, E, As, ρ, S, r, R, ev, F⟩ := q
        simp only [evSs] at ev
        split at ev
        · rename_i ρ1 S1 e1
          exact ⟨sa, E, As, ρ, S, _, R, e1, fun σ' H' As' R2 s2 => ⟨sa, E, As', ρ1, S1, r, R2, ev, F.fwd s2⟩⟩
        · rename_i d ρ1 S1 e1
          cases ev
          exact ⟨sa, E, As, ρ, S, _, R, e1, F⟩
        · cases ev
      · cases h
    · cases h
end
end
end TW
set_option maxRecDepth 20000
/-! TwW: the defs of a table keep what the table's evaluator says. -/
namespace TW
open PySem PySem.Spec PyProof.Rows L2

def scOk (N ps : List Str) (sc : Scope) : Bool := (match sc.kind with | .function => true | _ => false) && !sc.isCoroutine && !sc.isGenerator && decide N.Nodup && decide (N.take ps.length = ps) &&
  (ps.all fun x => decide (sc.names.lookup x = some .local) || decide (sc.names.lookup x = some .cell)) && (sc.names.all fun y => !decide (y.2 = .free))
theorem scope_of {N ps : List Str} {sc : Scope} (h : scOk N ps sc = true) : FnScope N ps sc := by
  unfold scOk at h
  simp only [Bool.and_eq_true, Bool.not_eq_true', decide_eq_true_eq, List.all_eq_true, Bool.or_eq_true] at h
  obtain ⟨⟨⟨⟨⟨⟨h1, h2⟩, h3⟩, h4⟩, h5⟩, h6⟩, h7⟩ := h
  refine ⟨?_, h2, h3, h4, h5, h6, fun y hy => by simpa using h7 y hy⟩
  split at h1
  · assumption
  · cases h1
def fnCfg (T : List Fn) (f : Fn) : Cfg := ⟨T, f.N, if f.src then some 0 else none⟩
def okFn (T : List Fn) (f : Fn) (st : Stmt) : Bool := scOk f.N f.ps (defScope st) && (okSs (fnCfg T f) (defScope st) f.ret f.body (defBody st) (List.replicate f.N.length 0)).isSome && (!f.src || decide (1 ≤ f.ps.length))
theorem FnG.mono {P : Program} {w : World} {K : PySem.W.Frag} {mg : Str → Option Value} {base : Heap} {j k : Nat} {f : Addr} {fd : FuncData} {ps : List Str} {sp : SpG} (h : FnG P w K mg base j f fd ps sp) (q : j ≤ k) : FnG P w K mg base k f fd ps sp :=
  ⟨h.len, fun A outer s H args us vs Q gd hr => h.run A outer s H args us vs Q gd (hr.mono q)⟩
theorem rep_none {α : Type} {n i : Nat} {d : α} : (List.replicate n (none : Option α))[i]? ≠ some (some d) := fun h => by
  rw [List.getElem?_replicate] at h
  split at h <;> cases h
/-- the names at a def's start -/
theorem start_slots {U : Wd} {Y Z : Addr → Prop} {H : Hp} {us : List V} {ds : List D} (r : DRs U Y Z H 0 us ds) (pre : DEnv) (pre' : L2.St) (hp : pre.length = pre'.length) (hn : ∀ x ∈ pre, x = none) (n : Nat) (i : Nat) (d : D)
    (h : (pre ++ ds.map some ++ List.replicate n none)[i]? = some (some d)) : ∃ v, (pre' ++ us.map some ++ List.replicate n none)[i]? = some (some v) ∧ DR U Y Z H 0 v d := by
  have hl := r.length
  by_cases h1 : i < pre.length
  · rw [List.append_assoc, List.getElem?_append_left h1] at h
    have := hn _ (List.mem_of_getElem? h)
    cases this
  · by_cases h2 : i < pre.length + ds.length
    · rw [List.append_assoc, List.getElem?_append_right (by omega), List.getElem?_append_left (by simp; omega), List.getElem?_map] at h
      obtain ⟨d', hd, e⟩ := Option.map_eq_some_iff.mp h
      cases e
      obtain ⟨v, hv, hr⟩ := r.get hd
      refine ⟨v, ?_, hr⟩
      rw [List.append_assoc, List.getElem?_append_right (by omega), List.getElem?_append_left (by simp; omega), List.getElem?_map, ← hp, hv]
      rfl
    · rw [List.getElem?_append_right (by simp; omega)] at h
      exact absurd h rep_none
theorem fn_all {P : Program} {w : World} {K : PySem.W.Frag} {mg : Str → Option Value} {base : Heap} {T : List Fn} {fuel : Nat} {sts : List Stmt} (hl : sts.length = T.length)
    (facts : ∀ (i : Nat) (f : Fn) (st : Stmt), T[i]? = some f → sts[i]? = some st → ∃ fa fd, mg f.name = some (.ref fa) ∧ Fun K f.name f.name st fa fd ∧ Binds K fd f.ps [])
    (chk : ∀ (i : Nat) (f : Fn) (st : Stmt), T[i]? = some f → sts[i]? = some st → okFn T f st = true) (bl : ∀ b ∈ builtinNames, mg b = none)
    (pk : ∃ fa fd ps, mg "_law_pick" = some (.ref fa) ∧ PySem.W.keepIn K (.ref fa) = true ∧ Binds K fd ps [] ∧ FnG P w K mg base 2 fa fd ps spPick) :
    ∀ (k i : Nat) (f : Fn), T[i]? = some f → ∃ fa fd, mg f.name = some (.ref fa) ∧ PySem.W.keepIn K (.ref fa) = true ∧ Binds K fd f.ps [] ∧ FnG P w K mg base (k + 2) fa fd f.ps (spF ⟨P, w, K⟩ ⟨evCall T fuel k, fuel⟩ f i)
  | 0, i, f, hf => by
    have hi : i < sts.length := by rw [hl]; exact (List.getElem?_eq_some_iff.mp hf).1
    obtain ⟨fa, fd, m1, m2, m3⟩ := facts i f sts[i] hf (List.getElem?_eq_getElem hi)
    refine ⟨fa, fd, m1, m2.kp, m3, ⟨fun vs H Q ⟨_, _, _, _, _, _, _, _, h, _⟩ => h, fun A outer s H args us vs Q gd hr e0 hb r hsp => ?_⟩⟩
    obtain ⟨_, _, _, _, _, _, _, _, _, _, _, _, h, _⟩ := hsp
    simp [evCall] at h
  | k + 1, i, f, hf => by
    have hi : i < sts.length := by rw [hl]; exact (List.getElem?_eq_some_iff.mp hf).1
    obtain ⟨fa, fd, m1, m2, m3⟩ := facts i f sts[i] hf (List.getElem?_eq_getElem hi)
    have hc := chk i f sts[i] hf (List.getElem?_eq_getElem hi)
    unfold okFn at hc
    simp only [Bool.and_eq_true] at hc
    obtain ⟨⟨hsc, hbd⟩, hsr⟩ := hc
    have SC := scope_of hsc
    obtain ⟨Γ', hΓ⟩ := Option.isSome_iff_exists.mp hbd
    refine ⟨fa, fd, m1, m2.kp, m3, fnG_of (k := k + 2) m2 SC (fun vs H Q ⟨_, _, _, _, _, _, _, _, h, _⟩ => h) fun cdv A outer s H vs Q gd hr hsp => ?_⟩
    obtain ⟨sa, Z, ds, S, d, S', us, hsrc, hlen, hds, hsrR, hzh, hev, hQ⟩ := hsp
    have ok : XOk ⟨P, w, K⟩ (fnCfg T f) ⟨evCall T fuel k, fuel⟩ (k + 2) (cxOf CX0 P w K mg base f.N f.name (defScope sts[i]) fa cdv A outer s H E0).nox := by
      refine ⟨rfl, rfl, rfl, rfl, rfl, SC.nd, hr, gd, rfl, bl, fun j es S0 r0 g0 hj hg0 => ?_, fun j g hg => ?_, ?_⟩
      · cases k with
        | zero => simp [evCall] at hj
        | succ k =>
          have hg0' : T[j]? = some g0 := hg0
          simp only [evCall, hg0'] at hj
          by_cases hq : (if g0.src = true then 1 else 0) + es.length = g0.ps.length
          · exact hq
          · rw [if_neg hq] at hj
            cases hj
      · exact fn_all hl facts chk bl pk k j g hg
      · obtain ⟨a1, a2, a3, b1, b2, b3, b4⟩ := pk
        exact ⟨a1, a2, a3, b1, b2, b3, b4.mono (by omega)⟩
    have fr : FrOk (cxOf CX0 P w K mg base f.N f.name (defScope sts[i]) fa cdv A outer s H E0).nox := by
      refine ⟨fun _ => rfl, ?_⟩
      show (if (defScope sts[i]).kind.isAnnotationScope = true then ScopeKind.function else (defScope sts[i]).kind) = .function
      rw [SC.kind]
      rfl
    refine ⟨_, sSs (ret := f.ret) ok fr f.body (Γ := List.replicate f.N.length 0) hΓ, ?_⟩
    have hpl : f.ps.length ≤ f.N.length := by have := congrArg List.length SC.pre; rw [List.length_take] at this; omega
    simp only [evCall, hf] at hev
    by_cases harity : (if f.src = true then 1 else 0) + ds.length = f.ps.length
    · rw [if_pos harity] at hev
      have hul := hds.length
      -- the state at the start
      have hslots : SR ⟨P, w, K⟩ (fnCfg T f) sa Z (List.replicate f.N.length 0) (startE f ds) S (start f.N vs) H (fun _ => []) := by
        have hel : (startE f ds).length = f.N.length := by
          unfold startE
          by_cases hs : f.src = true
          · rw [if_pos hs] at harity ⊢
            simp only [List.length_append, List.length_map, List.length_replicate, List.length_singleton]
            omega
          · rw [if_neg hs] at harity ⊢
            simp only [List.length_append, List.length_map, List.length_replicate, List.length_nil]
            omega
        have hvl : (start f.N vs).length = f.N.length := by
          unfold L2.start
          simp
          omega
        have gk0 : ∀ j, gk (List.replicate f.N.length 0) j = 0 := fun j => by
          unfold gk
          rw [List.getD_eq_getElem?_getD, List.getElem?_replicate]
          split <;> rfl
        refine ⟨by rw [hel, hvl], by simp [hel], fun s0 hs0 => ?_, hsrR, fun _ => List.nodup_nil, fun _ _ a h => by simp at h, fun _ a h => by simp at h, hzh, fun j x hx => ?_⟩
        · by_cases hs : f.src = true
          · rw [if_pos hs] at hsrc
            obtain ⟨a, c, rfl, rfl⟩ := hsrc
            have e0 : s0 = 0 := by simpa [fnCfg, hs] using hs0.symm
            exact ⟨a, c, rfl, by rw [e0]; rfl⟩
          · simp [fnCfg, hs] at hs0
        · have key : ∃ v, (start f.N vs)[j]? = some (some v) ∧ DR ⟨P, w, K⟩ (sAd sa) Z H 0 v x := by
            unfold startE at hx
            unfold L2.start
            rw [hlen]
            by_cases hs : f.src = true
            · rw [if_pos hs] at hsrc hx
              obtain ⟨a, c, rfl, rfl⟩ := hsrc
              exact start_slots hds [none] [some (.ref a)] rfl (fun x hx => by simpa using hx) _ j x hx
            · rw [if_neg hs] at hsrc hx
              subst hsrc
              exact start_slots hds [] [] rfl (fun x hx => by simp at hx) _ j x hx
          obtain ⟨v, h1, h2⟩ := key
          rw [gk0]
          refine ⟨v, h1, .zero, (h2.less fun a h => h.elim id fun ⟨_, q⟩ => by simp at q).deeper (Nat.zero_le _)⟩
      have fin : ∀ v H', RetP ⟨P, w, K⟩ sa Z S' f.ret (fun _ => []) H H' v d → Q v H' := fun v H' R => by
        obtain ⟨A, a1, a2, a3, a4⟩ := R.fr
        refine hQ v H' ⟨R.ext.mono fun a h => h.elim id fun ⟨_, q⟩ => by simp at q, R.sr, R.dr, A, a1, a2, fun a h => (a3 a h).elim (fun ⟨_, q⟩ => by simp at q) id, a4.deeper (by omega)⟩
      split at hev
      · rename_i d' ρ' S1 hb
        cases hev
        exact ⟨sa, Z, fun _ => [], startE f ds, S, _, hslots, hb, fun v H' R => fin v H' R⟩
      · rename_i ρ' S1 hb
        cases hev
        refine ⟨sa, Z, fun _ => [], startE f ds, S, _, hslots, hb, fun σ' H' As' R st => ?_⟩
        exact hQ .non H' (.flat rfl (st.ext.mono fun a h => h.elim id fun ⟨_, q⟩ => by simp at q) R.sr .non)
      · cases hev
    · rw [if_neg harity] at hev
      cases hev
end TW
set_option maxRecDepth 20000
/-! TwX: the law's source of draws. -/
namespace TW
open PySem PySem.Spec PyProof.Rows L2

theorem n_cl : ¬ (Sum.inr "cells" : Key) = .inr "left" := by decide
theorem n_cm : ¬ (Sum.inr "cells" : Key) = .inr "mixed" := by decide
theorem n_ct : ¬ (Sum.inr "cells" : Key) = .inr "turn" := by decide
theorem n_lm : ¬ (Sum.inr "left" : Key) = .inr "mixed" := by decide
theorem n_lt : ¬ (Sum.inr "left" : Key) = .inr "turn" := by decide
theorem n_mt : ¬ (Sum.inr "mixed" : Key) = .inr "turn" := by decide
theorem sv_cells (S : Src) (c : Addr) : valV (srcKv S c) (.inr "cells") = some (.ref c) := valV_pos rfl
theorem sv_left (S : Src) (c : Addr) : valV (srcKv S c) (.inr "left") = some (.int S.left) := by
  unfold srcKv
  rw [valV_neg n_cl, valV_pos rfl]
theorem sv_mixed (S : Src) (c : Addr) : valV (srcKv S c) (.inr "mixed") = some (.int S.mixed) := by
  unfold srcKv
  rw [valV_neg n_cm, valV_neg n_lm, valV_pos rfl]
theorem sv_turn (S : Src) (c : Addr) : valV (srcKv S c) (.inr "turn") = some (.int S.turn) := by
  unfold srcKv
  rw [valV_neg n_ct, valV_neg n_lt, valV_neg n_mt, valV_pos rfl]
theorem sp_left (S : Src) (c : Addr) (x : Int) : putK (srcKv S c) (.inr "left") (.int x) = srcKv { S with left := x } c := by
  unfold putK srcKv
  rw [if_pos (by simp)]
  simp only [List.map_cons, List.map_nil, if_neg n_cl, if_true, if_neg (Ne.symm n_lm), if_neg (Ne.symm n_lt)]
theorem sp_turn (S : Src) (c : Addr) (x : Int) : putK (srcKv S c) (.inr "turn") (.int x) = srcKv { S with turn := x } c := by
  unfold putK srcKv
  rw [if_pos (by simp)]
  simp only [List.map_cons, List.map_nil, if_neg n_ct, if_neg n_lt, if_neg n_mt, if_true]
section
variable {a c : Addr} {S : Src} {H : Hp}
theorem src_get (sr : SrcR (some (a, c)) S H) {k : Key} {v : V} (h : valV (srcKv S c) k = some v) : DGet H a (kV k) (some v) := by
  rw [← h]
  exact .k sr.2.1
theorem src_put {S' : Src} {k : Key} {v : V} (sr : SrcR (some (a, c)) S H) (h : putK (srcKv S c) k v = srcKv S' c) (hc : S'.cells = S.cells) : DPut H a (kV k) v (upd H a (.dK (srcKv S' c))) ∧ SrcR (some (a, c)) S' (upd H a (.dK (srcKv S' c))) ∧ Ext (sAd (some (a, c))) H (upd H a (.dK (srcKv S' c))) := by
  obtain ⟨h1, h2, h3⟩ := sr
  refine ⟨?_, ⟨h1, upd_same, ?_⟩, .at h2 (fun h => h) (.inl rfl)⟩
  · rw [← h]
    exact .k h2 (by simp [srcKv]; decide)
  · rw [upd_ne (fun e => h1 e.symm), hc]
    exact h3
/-- a cell popped -/
theorem src_pop {x : Int} (sr : SrcR (some (a, c)) S H) (h : S.cells.getLast? = some x) : (S.cells.map V.int)[(S.cells.map V.int).length - 1]? = some (.int x) ∧ SrcR (some (a, c)) { S with cells := S.cells.dropLast } (upd H c (.lst (S.cells.map V.int).dropLast)) ∧
    Ext (sAd (some (a, c))) H (upd H c (.lst (S.cells.map V.int).dropLast)) := by
  obtain ⟨h1, h2, h3⟩ := sr
  refine ⟨?_, ⟨h1, by rw [upd_ne h1]; exact h2, ?_⟩, .at h3 (fun h => h) (.inr rfl)⟩
  · rw [← List.getLast?_eq_getElem?, List.getLast?_map, h]
    rfl
  · rw [upd_same, List.map_dropLast]
end
theorem find_big {l : Int} {cs : List Int} (h : ¬ l < 2) : findCell l cs = (l, cs) := by
  unfold findCell
  rw [if_neg h]
theorem find_nil {l : Int} : findCell l [] = (l, []) := by
  unfold findCell
  by_cases h : l < 2
  · rw [if_pos h]; rfl
  · rw [if_neg h]
theorem find_pop {l x : Int} {cs : List Int} (h : l < 2) (e : cs.getLast? = some x) : findCell l cs = findCell x cs.dropLast := by
  rw [findCell, if_pos h]
  split
  · rename_i c hc
    rw [e] at hc; cases hc
    split
    · rename_i hn
      rw [hn] at e; cases e
    · rfl
  · rename_i hc
    rw [e] at hc; cases hc
/-! ### the draw -/
section
variable {P : Program} {w : World} {K : PySem.W.Frag} {mg : Str → Option Value} {base : Heap}
/-- what the body of the draw reads as, at each state of the source -/
theorem drawn_small {m : Int} {S : Src} (h : m < 2) : drawn m S = (0, S) := by
  unfold drawn
  rw [if_pos h]
theorem drawn_eq {m : Int} {S : Src} (h : ¬ m < 2) : drawn m S = if (findCell S.left S.cells).1 > 1 then ((findCell S.left S.cells).1 % m, { S with left := (findCell S.left S.cells).1 / m, cells := (findCell S.left S.cells).2 }) else
    let lap := S.turn + 1
    let s1 := (S.mixed + lap * 104729) % 998244353
    let s2 := (s1 * s1 + lap * 17) % 2147483647
    ((s2 / 16) % m, { S with left := (findCell S.left S.cells).1, cells := (findCell S.left S.cells).2, turn := lap }) := by
  unfold drawn
  rw [if_neg h]
end
end TW
set_option maxRecDepth 20000
/-! TwY: the law's call, from the promise of its def where no repr is under way. -/
namespace TW
open PySem PySem.Spec PyProof.Rows L2

section
variable {P : Program} {w : World} {K : PySem.W.Frag} {mg mb : Str → Option Value} {k : Nat} {fa a : Addr} {fd : FuncData} {x : Str} {sp : SpG} {s₁ : Shared} {vs : List Value} {ns : List Int}
/-- from one abstract heap, that holds the script at most -/
theorem law_from (KX : K.In s₁.heap) (hns : s₁.heap.Ns mainGlobals mg) (hb : s₁.heap.Ns builtinsNs mb) (hbb : ∀ x : Str, x ≠ "__name__" → mb x = bootBuiltins x) (hlim : s₁.heap.NoLimit) (hg : s₁.gens = #[]) (hr : Room k callerA)
    (F : ∀ base : Heap, K.In base → base.Ns mainGlobals mg → FnG P w K mg base k fa fd [x] sp) (hbind : ∀ (s : Shared) (u : Value), BindsTo s fd ⟨[u], []⟩ [(x, u)]) (H : Hp) (hs : sp [.ref a] H (fun v _ => v = .bl true)) (hO : Only H) (hok : HOk P w H s₁.heap)
    (out : ∀ (b : Addr) (o : Obj), s₁.heap.get? b = some o → (∃ es ep, o.data = .dict es ep) ∨ K.lookup b = some o → H b = none) :
    codeAny (model P w) callerA (.call (.ref fa) ⟨[.ref a], []⟩) (fun r s' => r = .ok (.ret (.bool true)) ∧ OldK s₁.heap s'.heap ∧ s'.os = s₁.os ∧ AllBare s'.gens) s₁ := by
  have names : ∀ {b : Addr} {m : Str → Option Value}, s₁.heap.Ns b m → (hidT s₁.heap H).Ns b m := fun {b m} h => by
    obtain ⟨o, es, ep, h1, h2, h3⟩ := h
    exact ⟨o, es, ep, hidT_get h1 (out b o h1 (.inl ⟨es, ep, h2⟩)), h2, h3⟩
  have inK : K.In (hidT s₁.heap H) := fun b o h => hidT_get (KX b o h) (out b o (KX b o h) (.inr h))
  have md : Mod K mg (hidT s₁.heap H) := by
    obtain ⟨mc, l1, l2⟩ := hlim
    exact ⟨inK, names hns, ⟨mb, names hb, hbb⟩, ⟨mc, names l1, l2⟩⟩
  have env : Env0 P w K mg (hidT s₁.heap H) callerA [] s₁ H := by
    refine ⟨rfl, md, fun b o h => of_hidT h, Nat.le_of_eq (hidT_size _ _), trivial, fun b h => ?_, hok, .of_eq hg⟩
    exact absurd (show b ∈ ([] : List Addr) from h) (by simp)
  have G := (F _ inK (names hns)).run callerA [] s₁ H ⟨[.ref a], []⟩ [.ref a] [.ref a] _ rfl hr env (hbind s₁ (.ref a)) (.cons rfl .nil) hs
  refine codeAny_mono G fun r s' h => ?_
  match r, h with
  | .error e, h => exact (show False from h).elim
  | .ok .next, h => exact (show False from h).elim
  | .ok .brk, h => exact (show False from h).elim
  | .ok .cont, h => exact (show False from h).elim
  | .ok (.ret u), h =>
    obtain ⟨v, H', e1, e2, un, ok', rv, hv⟩ := h
    obtain rfl : v = .bl true := hv
    obtain rfl : u = Value.bool true := rv
    refine ⟨rfl, OldK.of_keep fun b o hbo => ?_, e1, e2⟩
    rcases hO b with z | ⟨ob, xs, z⟩
    · refine un.keep b o hbo z (fun m => absurd (show b ∈ ([] : List Addr) from m) (by simp)) (by simp)
    · obtain ⟨g1, _⟩ := hok b _ z
      obtain ⟨g2, _⟩ := ok' b _ (un.frzs b ob _ z)
      rw [hbo] at g1
      cases g1
      exact g2
theorem law_callG (KX : K.In s₁.heap) (hns : s₁.heap.Ns mainGlobals mg) (hb : s₁.heap.Ns builtinsNs mb) (hbb : ∀ x : Str, x ≠ "__name__" → mb x = bootBuiltins x) (hlim : s₁.heap.NoLimit) (hg : s₁.gens = #[]) (hr : Room k callerA)
    (F : ∀ base : Heap, K.In base → base.Ns mainGlobals mg → FnG P w K mg base k fa fd [x] sp) (hbind : ∀ (s : Shared) (u : Value), BindsTo s fd ⟨[u], []⟩ [(x, u)])
    (ha : s₁.heap.get? a = some { cls := .type "list", data := .seq vs.toArray }) (hi : IntsAre vs ns) (hl : ns.length ≤ sizeLine) (hs : ∀ H : Hp, SqL K H a (ns.map V.int) → sp [.ref a] H (fun v _ => v = .bl true)) :
    codeAny (model P w) callerA (.call (.ref fa) ⟨[.ref a], []⟩) (fun r s' => r = .ok (.ret (.bool true)) ∧ OldK s₁.heap s'.heap ∧ s'.os = s₁.os ∧ AllBare s'.gens) s₁ := by
  have rv := vals_ints hi
  have ln := hi.length
  cases hk : K.lookup a with
  | some o =>
    have e := KX a o hk
    rw [ha] at e
    obtain rfl := Option.some.inj e
    have sq : SqL K (fun _ => none) a (ns.map V.int) := .inr ⟨_, vs.toArray, _, hk, rfl, rfl, rfl, by rw [List.size_toArray, ln]; exact hl, by simpa using rv⟩
    refine law_from KX hns hb hbb hlim hg hr F hbind (fun _ => none) (hs _ sq) (fun _ => .inl rfl) (fun b u z => ?_) fun _ _ _ _ => rfl
    exact absurd (show (none : Option HO) = some u from z) (by simp)
  | none =>
    let H0 : Hp := fun b => if b = a then some (.frz { cls := .type "list", data := .seq vs.toArray } (.lst (ns.map V.int))) else none
    have h0 : H0 a = some (.frz { cls := .type "list", data := .seq vs.toArray } (.lst (ns.map V.int))) := if_pos rfl
    have h1 : ∀ b, b ≠ a → H0 b = none := fun b h => if_neg h
    refine law_from KX hns hb hbb hlim hg hr F hbind H0 (hs _ (.inl (.inr ⟨_, h0⟩))) (fun b => ?_) (fun b u z => ?_) fun b o hbo q => ?_
    · by_cases e : b = a
      · subst e; exact .inr ⟨_, _, h0⟩
      · exact .inl (h1 b e)
    · by_cases e : b = a
      · subst e
        rw [h0] at z
        obtain rfl := Option.some.inj z
        exact ⟨ha, by rw [List.length_map]; exact hl, vs, _, rv, ha⟩
      · rw [h1 b e] at z; cases z
    · refine h1 b fun e => ?_
      subst e
      rw [ha] at hbo
      obtain rfl := Option.some.inj hbo
      rcases q with ⟨es, ep, q⟩ | q
      · have q' : Data.seq vs.toArray _ = Data.dict es ep := q
        cases q'
      · rw [hk] at q; cases q
end
/-- what k_head leaves, from the promise of the law's def -/
theorem walk_ofG {l : PySem.W.OpenLaw} {n k : Nat} {q : Program} {loose : List Str} {XP : (Str → Option Value) → Heap → Prop} {YP : World → Heap → Prop} {d : DefRec} {K : Params → PySem.W.Frag} {sp : PySem.W.Frag → SpG} {x : Str}
    (hn : l.most = some n) (hn2 : n ≤ sizeLine) (hdf : d.params.defaults = []) (hr : Room k callerA) (hY : ∀ (w : World) (h : Heap), YP w h → (K w.params).In h)
    (F : ∀ (w : World) (mg : Str → Option Value) (fa : Addr) (h : Heap), (K w.params).In h → h.Ns mainGlobals mg → mg d.name = some (.ref fa) → ∃ fd : FuncData, (∀ (s : Shared) (u : Value), BindsTo s fd ⟨[u], []⟩ [(x, u)]) ∧
      ∀ base : Heap, (K w.params).In base → base.Ns mainGlobals mg → FnG l.prog w (K w.params) mg base k fa fd [x] (sp (K w.params)))
    (hsp : ∀ (w : World) (H : Hp) (a : Addr) (ns : List Int), ns.length ≤ n → SqL (K w.params) H a (ns.map V.int) → sp (K w.params) [.ref a] H (fun v _ => v = .bl true)) :
    PySem.W.WalkO q loose XP YP l.row.toRowW d [] (fun f vs => PySem.call f vs) := by
  refine Att.attach_call hn hdf fun w s₀ s₁ mg mb fa o pm cd doc a vs ns G Y ho hd hcd hmg hobj hints hlen hg => ?_
  obtain ⟨fd, hbnd, hF⟩ := F w mg fa _ (hY w _ Y) G.T.g hmg
  exact law_callG (hY w _ Y) G.T.g G.T.b G.T.builtins G.T.nolimit hg hr hF hbnd hobj hints (Nat.le_trans hlen hn2) fun H hS => hsp w H a ns hlen hS
end TW
set_option maxRecDepth 100000
namespace TW
open PySem PySem.Spec PyProof.Rows L2
def topS (i : Nat) : Stmt := PySem.Challenge.pw_turnedweights_k49_whole_webs_without_a_p.main.body.getD i (.Pass ⟨0, 0, 0, 0⟩)
abbrev sOpen : Stmt := topS 17
abbrev sPick : Stmt := topS 18
abbrev sLaw : Stmt := topS 30
theorem scPick : FnScope ["source", "most", "cells", "others", "lap", "stirred"] ["source", "most"] (defScope sPick) := scope_of (by decide +kernel)
theorem scOpen : FnScope ["script", "stirred", "cell", "cells"] ["script"] (defScope sOpen) := scope_of (by decide +kernel)
section
variable {P : Program} {w : World} {K : PySem.W.Frag} {mg : Str → Option Value} {base : Heap}
theorem fn_pick {f : Addr} {fd : FuncData} (F : Fun K "_law_pick" "_law_pick" sPick f fd) (ml : mg "len" = none) (mi : mg "int" = none) : FnG P w K mg base 2 f fd ["source", "most"] spPick := by
  refine fnG_of (k := 1) F scPick (fun vs H Q ⟨a, c, m, S, e, _⟩ => by subst e; rfl) fun cdv A outer s H vs Q gd hr hsp => ?_
  obtain ⟨a, c, m, S, rfl, sr, hm, q⟩ := hsp
  have hu : (cxOf CX0 P w K mg base ["source", "most", "cells", "others", "lap", "stirred"] "_law_pick" (defScope sPick) f cdv A outer s H E0).nox.A.units + 1 < cLine := by
    have := hr.un
    show (A.deeper _).units + 1 < cLine
    omega
  refine ⟨_, pss_cons (ps_if (pt_cmpR op_lt (L2.pv 1) pe_int (nomark _)) (pss_one (ps_ret pe_int)) pss_nil)
    (pss_cons (ps_set (i := 2) scPick.nd rfl (.inl rfl) (pe_dget hu (L2.pv 0) pe_str (fun _ _ => rfl)))
    (pss_cons (ps_while PassesOwn.never ((pw_and (pt_cmpR op_lt (pe_dget hu (L2.pv 0) pe_str (fun _ _ => rfl)) pe_int (nomark _)) (pw_and1 (pt_cmpR op_gt (pe_callB call_len (by rfl) ml PySem.boot_len (pa_cons (L2.pv 2) pa_nil)) pe_int (nomark _)))).pt)
      (pss_one (ps_dput hu (L2.pv 0) pe_str (pe_bm0 PySem.F.plainAttrs_list PySem.F.slot_list_pop PySem.F.type_list_pop mt_pop (L2.pv 2)) rfl)))
    (pss_cons (ps_set (i := 3) scPick.nd rfl (.inl rfl) (pe_dget hu (L2.pv 0) pe_str (fun _ _ => rfl)))
    (pss_cons (ps_if (pt_cmpR op_gt (L2.pv 3) pe_int (nomark _)) (pss_cons (ps_dput hu (L2.pv 0) pe_str (pe_op op_fdiv (L2.pv 3) (L2.pv 1)) rfl)
        (pss_one (ps_ret (pe_op op_mod (pe_callTy call_int1 (by rfl) mi (by decide +kernel) (pa_cons (L2.pv 3) pa_nil)) (L2.pv 1))))) pss_nil)
    (pss_cons (ps_dput hu (L2.pv 0) pe_str (pe_op op_add (pe_dget hu (L2.pv 0) pe_str (fun _ _ => rfl)) pe_int) rfl)
    (pss_cons (ps_set (i := 4) scPick.nd rfl (.inl rfl) (pe_dget hu (L2.pv 0) pe_str (fun _ _ => rfl)))
    (pss_cons (ps_set (i := 5) scPick.nd rfl (.inl rfl) (pe_op op_mod (pe_callTy call_int1 (by rfl) mi (by decide +kernel) (pa_cons (pe_op op_add (pe_dget hu (L2.pv 0) pe_str (fun _ _ => rfl)) (pe_op op_mul (L2.pv 4) pe_int)) pa_nil)) pe_int))
    (pss_cons (ps_set (i := 5) scPick.nd rfl (.inl rfl) (pe_op op_mod (pe_callTy call_int1 (by rfl) mi (by decide +kernel) (pa_cons (pe_op op_add (pe_op op_mul (L2.pv 5) (L2.pv 5)) (pe_op op_mul (L2.pv 4) pe_int)) pa_nil)) pe_int))
    (pss_one (ps_ret (pe_op op_mod (pe_callTy call_int1 (by rfl) mi (by decide +kernel) (pa_cons (pe_op op_fdiv (L2.pv 5) pe_int) pa_nil)) (L2.pv 1)))))))))))), ?_⟩
  -- if most < 2
  refine ⟨_, rfl, m, 2, rfl, rfl, _, rfl, ?_⟩
  by_cases h2 : m < 2
  · rw [decide_eq_true h2]
    have := q H (.refl H) (by rw [drawn_small h2]; exact sr)
    rw [drawn_small h2] at this
    exact this
  rw [decide_eq_false h2]
  have hm0 : 0 < m := by omega
  have q' : ∀ H', Ext (sAd (some (a, c))) H H' → ∀ {x S'}, drawn m S = (x, S') → SrcR (some (a, c)) S' H' → Q (.int x) H' := fun H' e {x S'} hd sr' => by
    have := q H' e (by rw [hd]; exact sr')
    rw [hd] at this
    exact this
  rw [drawn_eq h2] at q'
  -- cells = source['cells']
  refine ⟨_, rfl, a, _, rfl, src_get (k := .inr "cells") sr (sv_cells S c), ?_⟩
  -- while source['left'] < 2 and len(cells) > 0
  refine ⟨fun n σ H1 => ∃ S1 : Src, n = S1.cells.length ∧ σ = [some (.ref a), some (.int m), some (.ref c), none, none, none] ∧ SrcR (some (a, c)) S1 H1 ∧ Ext (sAd (some (a, c))) H H1 ∧ findCell S1.left S1.cells = findCell S.left S.cells ∧ S1.mixed = S.mixed ∧ S1.turn = S.turn,
    ⟨_, S, rfl, rfl, sr, .refl H, rfl, rfl, rfl⟩, ?_⟩
  rintro n σ H1 ⟨⟨cs, lf, mx, tn⟩, rfl, rfl, sr1, ex1, f1, m1, t1⟩
  dsimp only at f1 m1 t1
  subst m1 t1
  refine ⟨_, rfl, a, _, rfl, src_get (k := .inr "left") sr1 (sv_left _ c), lf, 2, rfl, rfl, _, rfl, ?_⟩
  by_cases hx : lf < 2 ∧ cs ≠ []
  · -- a turn
    rw [decide_eq_true hx.1]
    dsimp only
    rw [if_pos rfl]
    refine ⟨_, rfl, _, _, rfl, .inl ⟨_, .inl (.inl sr1.2.2), rfl⟩, _, _, rfl, rfl, _, rfl, ?_⟩
    have hp : 0 < cs.length := List.length_pos_iff.mpr hx.2
    rw [decide_eq_true (by simp; omega)]
    dsimp only
    rw [if_pos rfl]
    obtain ⟨x, hxl⟩ : ∃ x, cs.getLast? = some x := ⟨_, List.getLast?_eq_some_getLast hx.2⟩
    obtain ⟨p1, p2, p3⟩ := src_pop sr1 hxl
    obtain ⟨p4, p5, p6⟩ := src_put (S' := ⟨cs.dropLast, x, S.mixed, S.turn⟩) p2 (sp_left _ c x) rfl
    refine ⟨fun σ' H' => ∃ S2 : Src, S2.cells.length < cs.length ∧ σ' = [some (.ref a), some (.int m), some (.ref c), none, none, none] ∧ SrcR (some (a, c)) S2 H' ∧ Ext (sAd (some (a, c))) H H' ∧ findCell S2.left S2.cells = findCell S.left S.cells ∧ S2.mixed = S.mixed ∧ S2.turn = S.turn,
      fun σ' H' ⟨S2, h1, h2, h3, h4, h5⟩ => ⟨_, h1, S2, rfl, h2, h3, h4, h5⟩, ?_⟩
    refine ⟨_, rfl, .inl ⟨rfl, _, .inl (.inl sr1.2.2)⟩, c, _, _, rfl, rfl, sr1.2.2, p1, _, rfl, a, _, rfl, p4, ?_⟩
    refine ⟨_, by simp; omega, rfl, p5, ex1.trans (p3.trans p6), ?_, rfl, rfl⟩
    rw [← f1, find_pop hx.1 hxl]
  · -- the end
    have fin : findCell S.left S.cells = (lf, cs) := by
      rw [← f1]
      by_cases h : lf < 2
      · have : cs = [] := by
          by_cases e : cs = []
          · exact e
          · exact absurd ⟨h, e⟩ hx
        rw [this]
        exact find_nil
      · exact find_big h
    rw [fin] at q'
    dsimp only at q'
    dsimp only
    split
    rename_i h1
    have hnil : cs = [] := by
      by_cases e : cs = []
      · exact e
      · exact absurd ⟨of_decide_eq_true h1, e⟩ hx
    refine ⟨_, rfl, _, _, rfl, .inl ⟨_, .inl (.inl sr1.2.2), rfl⟩, _, _, rfl, rfl, _, rfl, ?_⟩
    rw [decide_eq_false (by simp [hnil])]
    dsimp only
    all_goals rw [if_neg Bool.false_ne_true]
    all_goals refine ⟨_, rfl, a, _, rfl, src_get (k := .inr "left") sr1 (sv_left _ c), _, rfl, lf, 1, rfl, rfl, _, rfl, ?_⟩
    all_goals by_cases hb : 1 < lf
    all_goals first
      | (rw [decide_eq_true hb]
         dsimp only
         rw [if_pos rfl]
         obtain ⟨p4, p5, p6⟩ := src_put (S' := ⟨cs, lf / m, S.mixed, S.turn⟩) sr1 (sp_left _ c (lf / m)) rfl
         refine ⟨_, rfl, _, rfl, lf, m, rfl, rfl, ⟨hm0, hm⟩, _, rfl, a, _, rfl, p4, ?_⟩
         exact ⟨_, rfl, .inl ⟨lf, rfl, _, rfl, lf, m, rfl, rfl, hm0, q' _ (ex1.trans p6) (by rw [if_pos hb]) p5⟩⟩)
      | (rw [decide_eq_false hb]
         dsimp only
         rw [if_neg Bool.false_ne_true]
         obtain ⟨p4, p5, p6⟩ := src_put (S' := ⟨cs, lf, S.mixed, S.turn + 1⟩) sr1 (sp_turn _ c (S.turn + 1)) rfl
         refine ⟨_, rfl, a, _, rfl, src_get (k := .inr "turn") sr1 (sv_turn _ c), S.turn, 1, rfl, rfl, _, rfl, a, _, rfl, p4, ?_⟩
         refine ⟨_, rfl, a, _, rfl, src_get (k := .inr "turn") p5 (sv_turn _ c), ?_⟩
         refine ⟨_, rfl, a, _, rfl, src_get (k := .inr "mixed") p5 (sv_mixed _ c), _, rfl, S.turn + 1, 104729, rfl, rfl, .inr (by decide), S.mixed, _, rfl, rfl, .inl ⟨_, rfl, _, 998244353, rfl, rfl, (show (0 : Int) < 998244353 by decide), ?_⟩⟩
         refine ⟨_, rfl, _, rfl, _, _, rfl, rfl, .inl ⟨by have := Int.emod_nonneg (S.mixed + (S.turn + 1) * 104729) (show (998244353 : Int) ≠ 0 by decide); omega, by have := Int.emod_lt_of_pos (S.mixed + (S.turn + 1) * 104729) (show (0 : Int) < 998244353 by decide); omega⟩, _, rfl, S.turn + 1, 17, rfl, rfl, .inr (by decide), _, _, rfl, rfl, .inl ⟨_, rfl, _, 2147483647, rfl, rfl, (show (0 : Int) < 2147483647 by decide), ?_⟩⟩
         refine ⟨_, rfl, _, 16, rfl, rfl, ⟨by decide, by decide⟩, .inl ⟨_, rfl, _, rfl, _, m, rfl, rfl, hm0, ?_⟩⟩
         exact q' _ (ex1.trans p6) (by rw [if_neg hb]) p5)
/-- the source, opened -/
def spOpen (K : PySem.W.Frag) : SpG := fun vs H Q => ∃ (a : Addr) (ns : List Int), vs = [.ref a] ∧ SqL K H a (ns.map V.int) ∧ ns.length ≤ 63 ∧ ∀ H' p c mx, (∀ b o, H b = some o → H' b = some o) → H p = none → H c = none → SrcR (some (p, c)) ⟨(ns.map fun i => if i < 0 then -i else i).reverse, 1, mx, 0⟩ H' → Q (.ref p) H'
theorem fn_open {f : Addr} {fd : FuncData} (F : Fun K "_law_open_cells" "_law_open_cells" sOpen f fd) (ma : mg "abs" = none) (mi : mg "int" = none) : FnG P w K mg base 2 f fd ["script"] (spOpen K) := by
  refine fnG_of (k := 1) F scOpen (fun vs H Q ⟨a, ns, e, _⟩ => by subst e; rfl) fun cdv A outer s H vs Q gd hr hsp => ?_
  obtain ⟨a, ns, rfl, hS, hlen, q⟩ := hsp
  refine ⟨_, pss_cons (ps_set (i := 1) scOpen.nd rfl (.inl rfl) pe_int)
    (pss_cons (ps_for PassesOwn.never rfl (pi_list (L2.pv 0)) (pg_name (i := 2) scOpen.nd rfl (.inl rfl))
      (pss_one (ps_set (i := 1) scOpen.nd rfl (.inl rfl) (pe_op op_mod (pe_callTy call_int1 (by rfl) mi (by decide +kernel) (pa_cons (pe_op op_add (pe_op op_add (pe_op op_mul (L2.pv 1) pe_int) (pe_op op_mul (L2.pv 2) pe_int)) pe_int) pa_nil)) pe_int))))
    (pss_cons (ps_setLc (i := 3) (own := [("cell", 2)]) rfl scOpen.nd rfl rfl rfl (pi_list (L2.pv 0)) (blkOk_by rfl) (fun _ _ _ _ _ => pg_name (i := 2) scOpen.nd rfl (.inl rfl)) (fun _ _ _ _ _ => pts_nil)
      (fun _ _ _ _ _ => pe_callB call_abs (by rfl) ma (by decide +kernel) (pa_cons (L2.pv 2) pa_nil)))
    (pss_one (ps_ret (pe_disp (pps_cons pe_str (pe_revL (L2.pv 3)) (pps_cons pe_str pe_int (pps_cons pe_str (L2.pv 1) (pps_cons pe_str pe_int pps_nil)))) rfl rfl (by simp) (by decide)))))), ?_⟩
  -- stirred = 11; the loop
  refine ⟨_, rfl, a, rfl, ⟨_, hS⟩, fun i m σ H1 => ∃ st y2, σ = [some (.ref a), some (.int st), y2, none] ∧ i + m = ns.length ∧ H1 = H, ⟨ns.length, 11, none, rfl, by omega, rfl⟩, ?_⟩
  rintro i m σ H1 ⟨st, y2, rfl, him, rfl⟩
  by_cases hi : i < ns.length
  · have g : (ns.map V.int)[i]? = some (.int ns[i]) := by rw [List.getElem?_map, List.getElem?_eq_getElem hi]; rfl
    refine .inr ⟨⟨_, _, hS, g⟩, fun σ' H' => ∃ st y2, σ' = [some (.ref a), some (.int st), y2, none] ∧ H' = H1, fun σ' H' ⟨st', y2', h1, h2⟩ => ⟨m - 1, by omega, st', y2', h1, by omega, h2⟩, fun x H' hy => ?_⟩
    obtain ⟨rfl, hx⟩ := hy
    have := hx _ hS
    rw [g] at this; cases this
    refine ⟨_, rfl, _, 69069, rfl, rfl, .inr (by decide), _, rfl, _, 31, rfl, rfl, .inr (by decide), _, _, rfl, rfl, _, 5, rfl, rfl, .inl ⟨_, rfl, _, 2147483629, rfl, rfl, (show (0 : Int) < 2147483629 by decide), _, _, rfl, rfl⟩⟩
  · have ei : i = ns.length := by omega
    refine .inl ⟨⟨_, hS, by rw [List.length_map]; omega⟩, ?_⟩
    -- cells = [abs(cell) for cell in script]
    refine ⟨_, rfl, a, rfl, ⟨_, hS⟩, fun p np => ?_⟩
    refine lc_list (fun i Hc => (∀ b o, H1 b = some o → Hc b = some o) ∧ Hc p = some (.lst ((ns.take i).map fun i => V.int (if i < 0 then -i else i)))) ⟨fun b o hb => by rw [upd_ne (ne_of_none hb np)]; exact hb, upd_same⟩ (fun i Hc _ h => Same.seq (fun b o e => h.1 b o e) hS) (fun i x Hc hx h => ?_) fun Hc h => ?_
    · rw [List.getElem?_map] at hx
      obtain ⟨n, hn, rfl⟩ := Option.map_eq_some_iff.mp hx
      refine ⟨rfl, ?_⟩
      unfold tYes
      dsimp only
      rw [if_pos rfl]
      refine ⟨_, rfl, n, rfl, _, h.2, ?_, ⟨fun b o hb => ?_, ?_⟩⟩
      · rw [List.length_map, List.length_take, sizeLine_eq]
        omega
      · rw [upd_ne (ne_of_none hb np)]
        exact h.1 b o hb
      · rw [upd_same, List.take_add_one, hn, List.map_append]
        rfl
    · rw [List.length_map, List.take_length] at h
      -- the dict
      intro d nd
      have npd : p ≠ d := fun e => by rw [e, nd] at h; cases h.2
      refine ⟨_, rfl, p, _, rfl, .inl (.inl (by rw [upd_ne npd]; exact h.2)), fun c nc => ?_⟩
      have ncd : c ≠ d := fun e => by rw [e, upd_same] at nc; cases nc
      have nHc : Hc c = none := by rwa [upd_ne ncd] at nc
      refine ⟨_, rfl, ?_⟩
      refine ⟨by rw [upd_ne (Ne.symm ncd), upd_same], srcKv ⟨(ns.map fun i => if i < 0 then -i else i).reverse, 1, st, 0⟩ c, rfl, by simp [srcKv], ?_⟩
      have fresh : ∀ b, Hc b = none → H1 b = none := fun b hb => by
        cases q : H1 b with
        | none => rfl
        | some o => rw [h.1 b o q] at hb; cases hb
      refine q _ d c st (fun b o hb => ?_) (fresh d nd) (fresh c nHc) ⟨Ne.symm ncd, ?_, ?_⟩
      · have hb' := h.1 b o hb
        rw [upd_ne (ne_of_none hb' nd), upd_ne (ne_of_none hb' nHc), upd_ne (ne_of_none hb' nd)]
        exact hb'
      · rw [upd_same]
        rfl
      · rw [upd_ne ncd, upd_same]
        congr 2
        rw [List.map_reverse, List.map_map]
        rfl
end
end TW
set_option maxRecDepth 100000
namespace TW
open PySem PySem.Spec PyProof.Rows L2
def f_inverse : Fn := { name := "inverse", ps := ["p", "a"], src := false, N := ["p", "a", "b"], body := (.cons (.ret (.ix (.lc (.var 2) (.nm 2) (.rng2 (.int 1) (.var 0)) (.so (.cmp .eq (.bin .mod (.bin .mul (.var 1) (.var 2)) (.var 0)) (.int 1))) [2]) (.int 0))) .nil), ret := 0 }
def f_table_of : Fn := { name := "table_of", ps := ["web"], src := false, N := ["web", "rows", "p", "n", "ties", "u", "v", "w", "row"], body := (.cons (.asg (.tp [2, 3, 4]) (.var 0)) (.cons (.asg (.nm 1) (.lc (.bin .mul (.lst (.cons (.int 0) .nil)) (.var 3)) (.nm 5) (.rng1 (.var 3)) .no [5])) (.cons (.loop (.tp [5, 6, 7]) (.dat (.var 4)) (.cons (.set22 1 (.var 5) (.var 6) 1 (.var 6) (.var 5) (.var 7) (.var 7)) .nil)) (.cons (.ret (.b1 .tuple (.lc (.b1 .tuple (.var 8)) (.nm 8) (.dat (.var 1)) .no [8]))) .nil)))), ret := 0 }
def f_web_of : Fn := { name := "web_of", ps := ["p", "table"], src := false, N := ["p", "table", "u", "n", "ties", "v"], body := (.cons (.par [3, 4] (.cons (.b1 .len (.var 1)) (.cons (.lst .nil) .nil))) (.cons (.loop (.nm 2) (.rng1 (.var 3)) (.cons (.ext 4 (.lc (.tup (.cons (.var 2) (.cons (.var 5) (.cons (.ix (.ix (.var 1) (.var 2)) (.var 5)) .nil)))) (.nm 5) (.rng2 (.bin .add (.var 2) (.int 1)) (.var 3)) (.so (.cmp .ne (.ix (.ix (.var 1) (.var 2)) (.var 5)) (.int 0))) [5])) .nil)) (.cons (.ret (.tup (.cons (.var 0) (.cons (.var 3) (.cons (.b1 .tuple (.var 4)) .nil))))) .nil))), ret := 0 }
def f_tied_to : Fn := { name := "tied_to", ps := ["web", "v"], src := false, N := ["web", "v", "found", "one", "other", "w"], body := (.cons (.asg (.nm 2) (.lst .nil)) (.cons (.loop (.tp [3, 4, 5]) (.dat (.ix (.var 0) (.int 2))) (.cons (.ife (.cmp .isIn (.var 1) (.tup (.cons (.var 3) (.cons (.var 4) .nil)))) (.cons (.app 2 (.tup (.cons (.ife (.cmp .eq (.var 3) (.var 1)) (.var 4) (.var 3)) (.cons (.var 5) .nil)))) .nil) .nil) .nil)) (.cons (.ret (.b1 .sorted (.var 2))) .nil))), ret := 0 }
def f_turned : Fn := { name := "turned", ps := ["web", "v", "c"], src := false, N := ["web", "v", "c", "rows", "near", "u", "one", "x", "other", "row"], body := (.cons (.par [3, 4] (.cons (.lc (.b1 .list (.var 9)) (.nm 9) (.dat (.call 1 (.cons (.var 0) .nil))) .no [9]) (.cons (.call 3 (.cons (.var 0) (.cons (.var 1) .nil))) .nil))) (.cons (.loop (.tp [5, 6]) (.dat (.var 4)) (.cons (.loop (.tp [7, 8]) (.dat (.var 4)) (.cons (.ife (.cmp .ne (.var 5) (.var 7)) (.cons (.set2 3 (.var 5) (.var 7) (.bin .mod (.bin .add (.ix (.ix (.var 3) (.var 5)) (.var 7)) (.bin .mul (.bin .mul (.var 2) (.var 6)) (.var 8))) (.ix (.var 0) (.int 0)))) .nil) .nil) .nil)) .nil)) (.cons (.ret (.call 2 (.cons (.ix (.var 0) (.int 0)) (.cons (.var 3) .nil)))) .nil))), ret := 0 }
def f_scaled : Fn := { name := "scaled", ps := ["web", "v", "s"], src := false, N := ["web", "v", "s", "p", "n", "ties", "one", "other", "w"], body := (.cons (.asg (.tp [3, 4, 5]) (.var 0)) (.cons (.ret (.tup (.cons (.var 3) (.cons (.var 4) (.cons (.b1 .tuple (.lc (.tup (.cons (.var 6) (.cons (.var 7) (.cons (.ife (.cmp .isIn (.var 1) (.tup (.cons (.var 6) (.cons (.var 7) .nil)))) (.bin .mod (.bin .mul (.var 8) (.var 2)) (.var 3)) (.var 8)) .nil)))) (.tp [6, 7, 8]) (.dat (.var 5)) .no [6, 7, 8])) .nil))))) .nil)), ret := 0 }
def f_moved : Fn := { name := "moved", ps := ["web", "move"], src := false, N := ["web", "move", "word", "v", "c"], body := (.cons (.asg (.tp [2, 3, 4]) (.var 1)) (.cons (.ret (.ife (.cmp .eq (.var 2) (.str "turn")) (.call 4 (.cons (.var 0) (.cons (.var 3) (.cons (.var 4) .nil)))) (.call 5 (.cons (.var 0) (.cons (.var 3) (.cons (.var 4) .nil)))))) .nil)), ret := 0 }
def f_made_moves : Fn := { name := "made_moves", ps := ["web", "moves"], src := false, N := ["web", "moves", "move"], body := (.cons (.loop (.nm 2) (.dat (.var 1)) (.cons (.asg (.nm 0) (.call 6 (.cons (.var 0) (.cons (.var 2) .nil)))) .nil)) (.cons (.ret (.var 0)) .nil)), ret := 0 }
def f_left_out : Fn := { name := "left_out", ps := ["web", "v"], src := false, N := ["web", "v", "p", "n", "ties", "tie"], body := (.cons (.asg (.tp [2, 3, 4]) (.var 0)) (.cons (.ret (.tup (.cons (.var 2) (.cons (.var 3) (.cons (.b1 .tuple (.lc (.var 5) (.nm 5) (.dat (.var 4)) (.so (.cmp .notIn (.var 1) (.sl (.var 5) .no (.so (.int 2))))) [5])) .nil))))) .nil)), ret := 0 }
def f_line_moves : Fn := { name := "line_moves", ps := ["web", "v", "k"], src := false, N := ["web", "v", "k", "tied", "g", "p", "row", "w", "weight"], body := (.cons (.par [5, 6] (.cons (.ix (.var 0) (.int 0)) (.cons (.ix (.call 1 (.cons (.var 0) .nil)) (.var 1)) .nil))) (.cons (.asg (.nm 3) (.lc (.var 7) (.tp [7, 8]) (.enu (.var 6)) (.so (.cmp .ne (.var 8) (.int 0))) [7, 8])) (.cons (.ife (.or (.cmp .eq (.var 2) (.int 0)) (.one (.cmp .eq (.var 3) (.lst .nil)))) (.cons (.ret (.tup .nil)) .nil) .nil) (.cons (.ife (.cmp .lt (.var 2) (.var 5)) (.cons (.ret (.tup (.cons (.tup (.cons (.str "turn") (.cons (.var 1) (.cons (.call 0 (.cons (.var 5) (.cons (.var 2) .nil))) .nil)))) .nil))) .nil) .nil) (.cons (.asg (.nm 4) (.ix (.var 6) (.ix (.var 3) (.int 0)))) (.cons (.ret (.tup (.cons (.tup (.cons (.str "turn") (.cons (.ix (.var 3) (.int 0)) (.cons (.int 1) .nil)))) (.cons (.tup (.cons (.str "turn") (.cons (.var 1) (.cons (.bin .sub (.var 5) (.call 0 (.cons (.var 5) (.cons (.bin .mod (.bin .mul (.var 4) (.var 4)) (.var 5)) .nil)))) .nil)))) .nil)))) .nil)))))), ret := 0 }
def f_without_line : Fn := { name := "without_line", ps := ["web", "v", "k"], src := false, N := ["web", "v", "k"], body := (.cons (.ret (.call 8 (.cons (.call 7 (.cons (.var 0) (.cons (.call 9 (.cons (.var 0) (.cons (.var 1) (.cons (.var 2) .nil)))) .nil))) (.cons (.var 1) .nil)))) .nil), ret := 0 }
def f_made_steps : Fn := { name := "made_steps", ps := ["web", "steps"], src := false, N := ["web", "steps", "step"], body := (.cons (.loop (.nm 2) (.dat (.var 1)) (.cons (.asg (.nm 0) (.ife (.cmp .eq (.ix (.var 2) (.int 0)) (.str "out")) (.call 8 (.cons (.var 0) (.cons (.ix (.var 2) (.int 1)) .nil))) (.call 7 (.cons (.var 0) (.cons (.tup (.cons (.var 2) .nil)) .nil))))) .nil)) (.cons (.ret (.var 0)) .nil)), ret := 0 }
def f_law_back : Fn := { name := "_law_back", ps := ["p", "a"], src := false, N := ["p", "a", "x"], body := (.cons (.ret (.ix (.lc (.var 2) (.nm 2) (.rng1 (.var 0)) (.so (.cmp .eq (.bin .mod (.b1 .int (.bin .mul (.var 1) (.var 2))) (.var 0)) (.int 1))) [2]) (.int 0))) .nil), ret := 0 }
def f_law_table : Fn := { name := "_law_table", ps := ["web"], src := false, N := ["web", "found", "p", "n", "ties", "u", "v", "w"], body := (.cons (.asg (.tp [2, 3, 4]) (.var 0)) (.cons (.asg (.nm 1) (.lc (.bin .mul (.lst (.cons (.int 0) .nil)) (.var 3)) (.nm 6) (.rng1 (.var 3)) .no [6])) (.cons (.loop (.tp [5, 6, 7]) (.dat (.var 4)) (.cons (.set2 1 (.var 5) (.var 6) (.var 7)) (.cons (.set2 1 (.var 6) (.var 5) (.var 7)) .nil))) (.cons (.ret (.var 1)) .nil)))), ret := 2 }
def f_law_web : Fn := { name := "_law_web", ps := ["p", "table"], src := false, N := ["p", "table", "u", "ties", "n", "v"], body := (.cons (.par [3, 4] (.cons (.lst .nil) (.cons (.b1 .len (.var 1)) .nil))) (.cons (.loop (.nm 2) (.rng1 (.var 4)) (.cons (.asg (.nm 3) (.bin .add (.var 3) (.lc (.tup (.cons (.var 2) (.cons (.var 5) (.cons (.ix (.ix (.var 1) (.var 2)) (.var 5)) .nil)))) (.nm 5) (.rng2 (.bin .add (.var 2) (.int 1)) (.var 4)) (.so (.cmp .ne (.ix (.ix (.var 1) (.var 2)) (.var 5)) (.int 0))) [5]))) .nil)) (.cons (.ret (.tup (.cons (.var 0) (.cons (.var 4) (.cons (.b1 .tuple (.var 3)) .nil))))) .nil))), ret := 0 }
def f_law_moved : Fn := { name := "_law_moved", ps := ["web", "move"], src := false, N := ["web", "move", "table", "row", "u", "p", "n", "ties", "kind", "v", "c", "w"], body := (.cons (.asg (.tp [5, 6, 7]) (.var 0)) (.cons (.asg (.tp [8, 9, 10]) (.var 1)) (.cons (.asg (.nm 2) (.call 13 (.cons (.var 0) .nil))) (.cons (.asg (.nm 3) (.b1 .list (.ix (.var 2) (.var 9)))) (.cons (.loop (.nm 4) (.rng1 (.var 6)) (.cons (.loop (.nm 11) (.rng1 (.var 6)) (.cons (.ife (.and (.cmp .eq (.var 8) (.str "turn")) (.and (.cmp .ne (.var 4) (.var 11)) (.and (.cmp .ne (.var 4) (.var 9)) (.one (.cmp .ne (.var 11) (.var 9)))))) (.cons (.set2 2 (.var 4) (.var 11) (.bin .mod (.b1 .int (.bin .add (.ix (.ix (.var 2) (.var 4)) (.var 11)) (.bin .mul (.bin .mul (.var 10) (.ix (.var 3) (.var 4))) (.ix (.var 3) (.var 11))))) (.var 5))) .nil) .nil) (.cons (.ife (.and (.cmp .eq (.var 8) (.str "scale")) (.and (.cmp .ne (.var 4) (.var 11)) (.one (.cmp .isIn (.var 9) (.tup (.cons (.var 4) (.cons (.var 11) .nil))))))) (.cons (.set2 2 (.var 4) (.var 11) (.bin .mod (.b1 .int (.bin .mul (.ix (.ix (.var 2) (.var 4)) (.var 11)) (.var 10))) (.var 5))) .nil) .nil) .nil))) .nil)) (.cons (.ret (.call 14 (.cons (.var 5) (.cons (.var 2) .nil)))) .nil)))))), ret := 0 }
def f_law_moves : Fn := { name := "_law_moves", ps := ["p", "n"], src := false, N := ["p", "n", "found", "v", "c"], body := (.cons (.asg (.nm 2) (.lst .nil)) (.cons (.loop (.nm 3) (.rng1 (.var 1)) (.cons (.asg (.nm 2) (.bin .add (.bin .add (.var 2) (.lc (.tup (.cons (.str "turn") (.cons (.var 3) (.cons (.var 4) .nil)))) (.nm 4) (.rng2 (.int 1) (.var 0)) .no [4])) (.lc (.tup (.cons (.str "scale") (.cons (.var 3) (.cons (.var 4) .nil)))) (.nm 4) (.rng2 (.int 2) (.var 0)) .no [4]))) .nil)) (.cons (.ret (.var 2)) .nil))), ret := 0 }
def f_law_class : Fn := { name := "_law_class", ps := ["web"], src := false, N := ["web", "moves", "found", "line", "late", "here", "move", "there"], body := (.cons (.par [1, 2, 3] (.cons (.call 16 (.cons (.ix (.var 0) (.int 0)) (.cons (.ix (.var 0) (.int 1)) .nil))) (.cons (.dic (.cons (.var 0) .nil) (.cons (.tup .nil) .nil)) (.cons (.lst (.cons (.var 0) .nil)) .nil)))) (.cons (.whl (.cmp .ne (.var 3) (.lst .nil)) (.cons (.asg (.nm 4) (.lst .nil)) (.cons (.loop (.nm 5) (.dat (.var 3)) (.cons (.loop (.nm 6) (.dat (.var 1)) (.cons (.asg (.nm 7) (.call 15 (.cons (.var 5) (.cons (.var 6) .nil)))) (.cons (.ife (.cmp .notIn (.var 7) (.var 2)) (.cons (.set1 2 (.var 7) (.bin .add (.ix (.var 2) (.var 5)) (.tup (.cons (.var 6) .nil)))) (.cons (.app 4 (.var 7)) .nil)) .nil) .nil))) .nil)) (.cons (.asg (.nm 3) (.b1 .list (.var 4))) .nil)))) (.cons (.ret (.var 2)) .nil))), ret := 0 }
def f_law_out : Fn := { name := "_law_out", ps := ["web", "v"], src := false, N := ["web", "v", "tie"], body := (.cons (.ret (.tup (.cons (.ix (.var 0) (.int 0)) (.cons (.ix (.var 0) (.int 1)) (.cons (.b1 .tuple (.lc (.var 2) (.nm 2) (.dat (.ix (.var 0) (.int 2))) (.so (.cmp .notIn (.var 1) (.sl (.var 2) .no (.so (.int 2))))) [2])) .nil))))) .nil), ret := 0 }
def f_law_stepped : Fn := { name := "_law_stepped", ps := ["web", "steps"], src := false, N := ["web", "steps", "step"], body := (.cons (.loop (.nm 2) (.dat (.var 1)) (.cons (.asg (.nm 0) (.ife (.cmp .eq (.ix (.var 2) (.int 0)) (.str "out")) (.call 18 (.cons (.var 0) (.cons (.ix (.var 2) (.int 1)) .nil))) (.call 15 (.cons (.var 0) (.cons (.var 2) .nil))))) .nil)) (.cons (.ret (.var 0)) .nil)), ret := 0 }
def f_law_drawn_size : Fn := { name := "_law_drawn_size", ps := ["source"], src := true, N := ["source"], body := (.cons (.ret (.ix (.lst (.cons (.tup (.cons (.int 2) (.cons (.int 4) .nil))) (.cons (.tup (.cons (.int 2) (.cons (.int 3) .nil))) (.cons (.tup (.cons (.int 3) (.cons (.int 3) .nil))) (.cons (.tup (.cons (.int 2) (.cons (.int 4) .nil))) (.cons (.tup (.cons (.int 3) (.cons (.int 3) .nil))) (.cons (.tup (.cons (.int 5) (.cons (.int 3) .nil))) (.cons (.tup (.cons (.int 2) (.cons (.int 5) .nil))) (.cons (.tup (.cons (.int 3) (.cons (.int 2) .nil))) .nil))))))))) (.pick (.int 8)))) .nil), ret := 0 }
def f_law_drawn_web : Fn := { name := "_law_drawn_web", ps := ["source", "p", "n"], src := true, N := ["source", "p", "n", "table", "u", "v", "w"], body := (.cons (.asg (.nm 3) (.lc (.bin .mul (.lst (.cons (.int 0) .nil)) (.var 2)) (.nm 5) (.rng1 (.var 2)) .no [5])) (.cons (.loop (.nm 4) (.rng1 (.var 2)) (.cons (.loop (.nm 5) (.rng2 (.bin .add (.var 4) (.int 1)) (.var 2)) (.cons (.asg (.nm 6) (.ife (.cmp .gt (.pick (.int 3)) (.int 0)) (.pick (.var 1)) (.int 0))) (.cons (.set2 3 (.var 4) (.var 5) (.var 6)) (.cons (.set2 3 (.var 5) (.var 4) (.var 6)) .nil)))) .nil)) (.cons (.ret (.call 14 (.cons (.var 1) (.cons (.var 3) .nil)))) .nil))), ret := 0 }
def f_law_line_moves : Fn := { name := "_law_line_moves", ps := ["web", "v", "k"], src := false, N := ["web", "v", "k", "tied", "g", "p", "row", "w", "weight"], body := (.cons (.par [5, 6] (.cons (.ix (.var 0) (.int 0)) (.cons (.ix (.call 13 (.cons (.var 0) .nil)) (.var 1)) .nil))) (.cons (.asg (.nm 3) (.lc (.var 7) (.tp [7, 8]) (.enu (.var 6)) (.so (.cmp .ne (.var 8) (.int 0))) [7, 8])) (.cons (.ife (.or (.cmp .eq (.var 2) (.int 0)) (.one (.cmp .eq (.var 3) (.lst .nil)))) (.cons (.ret (.tup .nil)) .nil) .nil) (.cons (.ife (.cmp .lt (.var 2) (.var 5)) (.cons (.ret (.tup (.cons (.tup (.cons (.str "turn") (.cons (.var 1) (.cons (.call 12 (.cons (.var 5) (.cons (.var 2) .nil))) .nil)))) .nil))) .nil) .nil) (.cons (.asg (.nm 4) (.ix (.var 6) (.ix (.var 3) (.int 0)))) (.cons (.ret (.tup (.cons (.tup (.cons (.str "turn") (.cons (.ix (.var 3) (.int 0)) (.cons (.int 1) .nil)))) (.cons (.tup (.cons (.str "turn") (.cons (.var 1) (.cons (.bin .mod (.b1 .int (.bin .sub (.int 0) (.call 12 (.cons (.var 5) (.cons (.bin .mod (.b1 .int (.bin .mul (.var 4) (.var 4))) (.var 5)) .nil))))) (.var 5)) .nil)))) .nil)))) .nil)))))), ret := 0 }
def lawN : List Str := ["script", "source", "lap", "made", "k", "web", "moves", "steps", "w", "move", "p", "n", "f", "v", "due", "turn"]
def lawB : Sts := (.cons (.loop (.nm 2) (.rng1 (.int 2)) (.cons (.asg (.tp [10, 11]) (.call 20 .nil)) (.cons (.asg (.tp [12, 13]) (.tup (.cons (.call 21 (.cons (.var 10) (.cons (.var 11) .nil))) (.cons (.pick (.var 11)) .nil)))) (.cons (.ife (.cmp .ne (.b1 .repr (.call 8 (.cons (.var 12) (.cons (.var 13) .nil)))) (.b1 .repr (.call 18 (.cons (.var 12) (.cons (.var 13) .nil))))) (.cons (.ret (.bl false)) .nil) .nil) (.cons (.asg (.nm 3) (.dic .nil .nil)) (.cons (.loop (.nm 4) (.rng1 (.bin .add (.var 10) (.int 1))) (.cons (.asg (.nm 6) (.call 22 (.cons (.var 12) (.cons (.var 13) (.cons (.var 4) .nil))))) (.cons (.asg (.nm 14) (.call 18 (.cons (.call 19 (.cons (.var 12) (.cons (.var 6) .nil))) (.cons (.var 13) .nil)))) (.cons (.ife (.or (.cmp .ne (.b1 .repr (.call 9 (.cons (.var 12) (.cons (.var 13) (.cons (.var 4) .nil))))) (.b1 .repr (.var 6))) (.one (.cmp .ne (.b1 .repr (.call 10 (.cons (.var 12) (.cons (.var 13) (.cons (.var 4) .nil))))) (.b1 .repr (.var 14))))) (.cons (.ret (.bl false)) .nil) .nil) (.cons (.ife (.cmp .notIn (.var 14) (.var 3)) (.cons (.upd 3 (.call 17 (.cons (.var 14) .nil))) .nil) .nil) .nil))))) (.cons (.loop (.nm 5) (.dat (.call 17 (.cons (.var 12) .nil))) (.cons (.ife (.cmp .notIn (.call 18 (.cons (.var 5) (.cons (.var 13) .nil))) (.var 3)) (.cons (.ret (.bl false)) .nil) .nil) .nil)) (.cons (.asg (.nm 6) (.call 16 (.cons (.var 10) (.cons (.var 11) .nil)))) (.cons (.asg (.nm 7) (.bin .add (.lc (.ix (.var 6) (.pick (.b1 .len (.var 6)))) (.nm 15) (.rng1 (.int 4)) .no [15]) (.lst (.cons (.tup (.cons (.str "out") (.cons (.var 13) .nil))) .nil)))) (.cons (.asg (.nm 7) (.b1 .tuple (.bin .add (.bin .add (.bin .add (.sl (.var 7) .no (.so (.int 2))) (.sl (.var 7) (.so (.int 4)) .no)) (.sl (.var 7) (.so (.int 2)) (.so (.int 4)))) (.lst (.cons (.tup (.cons (.str "out") (.cons (.pick (.var 11)) .nil))) .nil))))) (.cons (.ife (.cmp .ne (.b1 .repr (.call 11 (.cons (.var 12) (.cons (.var 7) .nil)))) (.b1 .repr (.call 19 (.cons (.var 12) (.cons (.var 7) .nil))))) (.cons (.ret (.bl false)) .nil) .nil) (.cons (.asg (.nm 8) (.bin .mod (.b1 .int (.bin .add (.var 13) (.int 1))) (.var 11))) (.cons (.loop (.nm 9) (.dat (.lc (.var 9) (.nm 9) (.dat (.var 6)) (.so (.and (.cmp .eq (.ix (.var 9) (.int 1)) (.var 8)) (.one (.cmp .ne (.var 8) (.var 13))))) [9])) (.cons (.ife (.cmp .ne (.call 18 (.cons (.call 15 (.cons (.var 12) (.cons (.var 9) .nil))) (.cons (.var 13) .nil))) (.call 15 (.cons (.call 8 (.cons (.var 12) (.cons (.var 13) .nil))) (.cons (.var 9) .nil)))) (.cons (.ret (.bl false)) .nil) .nil) .nil)) .nil))))))))))))) (.cons (.ret (.bl true)) .nil))
def tab : List Fn := [f_inverse, f_table_of, f_web_of, f_tied_to, f_turned, f_scaled, f_moved, f_made_moves, f_left_out, f_line_moves, f_without_line, f_made_steps, f_law_back, f_law_table, f_law_web, f_law_moved, f_law_moves, f_law_class, f_law_out, f_law_stepped, f_law_drawn_size, f_law_drawn_web, f_law_line_moves]
def stIx : List Nat := [1, 3, 4, 5, 7, 8, 9, 10, 12, 13, 14, 15, 19, 20, 21, 22, 23, 24, 25, 26, 27, 28, 29]
def sts : List Stmt := stIx.map topS
theorem sts_len : sts.length = tab.length := rfl
theorem chk_all : ((tab.zip sts).all fun p => okFn tab p.1 p.2) = true := by decide +kernel
theorem chk (i : Nat) (f : Fn) (st : Stmt) (h1 : tab[i]? = some f) (h2 : sts[i]? = some st) : okFn tab f st = true := by
  refine List.all_eq_true.mp chk_all (f, st) ?_
  refine List.mem_iff_getElem?.mpr ⟨i, ?_⟩
  rw [List.getElem?_zip_eq_some]
  exact ⟨h1, h2⟩
theorem law_chk : (okSs ⟨tab, lawN, some 1⟩ (defScope sLaw) 0 lawB (defBody sLaw).tail (List.replicate lawN.length 0)).isSome = true := by decide +kernel
theorem scLaw : FnScope lawN ["script"] (defScope sLaw) := scope_of (by decide +kernel)
def spLawG (K : PySem.W.Frag) : SpG := fun vs H Q => ∃ (a : Addr) (ns : List Int), vs = [.ref a] ∧ SqL K H a (ns.map V.int) ∧ ns.length ≤ 63 ∧ ∀ H', Q (.bl true) H'
section
variable {P : Program} {w : World} {K : PySem.W.Frag} {mg : Str → Option Value} {base : Heap}
theorem fn_law {fuel kk : Nat} (truth : ∀ S : Src, ∃ ρ' S', evSs ⟨evCall tab fuel kk, fuel⟩ lawB (List.replicate lawN.length none) S = some (.rt (.bool true), ρ', S'))
    {f fO fP : Addr} {fd fdO fdP : FuncData} (F : Fun K "law" "law" sLaw f fd) (FO : Fun K "_law_open_cells" "_law_open_cells" sOpen fO fdO) (bO : Binds K fdO ["script"] []) (gO : mg "_law_open_cells" = some (.ref fO))
    (FP : Fun K "_law_pick" "_law_pick" sPick fP fdP) (bP : Binds K fdP ["source", "most"] []) (gP : mg "_law_pick" = some (.ref fP))
    (facts : ∀ (i : Nat) (f : Fn) (st : Stmt), tab[i]? = some f → sts[i]? = some st → ∃ fa fd, mg f.name = some (.ref fa) ∧ Fun K f.name f.name st fa fd ∧ Binds K fd f.ps []) (bl : ∀ b ∈ builtinNames, mg b = none) :
    FnG P w K mg base (kk + 3) f fd ["script"] (spLawG K) := by
  have ml := bl "len" (by simp [builtinNames])
  have mi := bl "int" (by simp [builtinNames])
  have ma := bl "abs" (by simp [builtinNames])
  have GP : FnG P w K mg base 2 fP fdP ["source", "most"] spPick := fn_pick FP ml mi
  have GO : FnG P w K mg base (kk + 2) fO fdO ["script"] (spOpen K) := (fn_open FO ma mi).mono (by omega)
  have pk : ∃ fa fd ps, mg "_law_pick" = some (.ref fa) ∧ PySem.W.keepIn K (.ref fa) = true ∧ Binds K fd ps [] ∧ FnG P w K mg base 2 fa fd ps spPick := ⟨_, _, _, gP, FP.kp, bP, GP⟩
  have all := fn_all (P := P) (w := w) (base := base) (fuel := fuel) sts_len facts chk bl pk
  obtain ⟨Γ', hΓ⟩ := Option.isSome_iff_exists.mp law_chk
  refine fnG_of (k := kk + 2) F scLaw (fun vs H Q ⟨a, ns, e, _⟩ => by subst e; rfl) fun cdv A outer s H vs Q gd hr hsp => ?_
  obtain ⟨a, ns, rfl, hS, hlen, q⟩ := hsp
  have ok : XOk ⟨P, w, K⟩ ⟨tab, lawN, some 1⟩ ⟨evCall tab fuel kk, fuel⟩ (kk + 2) (cxOf CX0 P w K mg base lawN "law" (defScope sLaw) f cdv A outer s H E0).nox := by
    refine ⟨rfl, rfl, rfl, rfl, rfl, scLaw.nd, hr, gd, rfl, bl, fun j es S0 r0 g0 hj hg0 => ?_, fun j g hg => all kk j g hg, ?_⟩
    · cases kk with
      | zero => simp [evCall] at hj
      | succ kk =>
        have hg0' : tab[j]? = some g0 := hg0
        simp only [evCall, hg0'] at hj
        by_cases hq : (if g0.src = true then 1 else 0) + es.length = g0.ps.length
        · exact hq
        · rw [if_neg hq] at hj
          cases hj
    · obtain ⟨a1, a2, a3, b1, b2, b3, b4⟩ := pk
      exact ⟨a1, a2, a3, b1, b2, b3, b4.mono (by omega)⟩
  have fr : FrOk (cxOf CX0 P w K mg base lawN "law" (defScope sLaw) f cdv A outer s H E0).nox := ⟨fun _ => rfl, rfl⟩
  refine ⟨_, pss_cons (ps_set (i := 1) scLaw.nd rfl (.inr rfl) (pe_callG GO gd hr (by rfl) gO FO.kp bO (pa_cons (L2.pv 0) pa_nil) rfl (by decide))) (sSs (ret := 0) ok fr lawB hΓ), ?_⟩
  refine ⟨_, rfl, a, ns, rfl, hS, hlen, fun H' p c mx same np nc sr => ?_⟩
  obtain ⟨ρ', S', ht⟩ := truth ⟨(ns.map fun i => if i < 0 then -i else i).reverse, 1, mx, 0⟩
  refine ⟨some (p, c), fun _ => False, fun _ => [], List.replicate lawN.length none, _, _, ?_, ht, fun v H2 R => ?_⟩
  · refine ⟨rfl, rfl, fun i hi => ?_, sr, fun _ => List.nodup_nil, fun _ _ a h => by simp at h, fun _ a h => by simp at h, fun _ h => h.elim, fun i d hd => absurd hd rep_none⟩
    have e : i = 1 := (Option.some.inj hi).symm
    subst e
    exact ⟨p, c, rfl, rfl⟩
  · have e := R.dr.bl_inv
    subst e
    exact q H2
end
end TW
set_option maxRecDepth 20000
/-! TwZ: loops, comprehensions and tables of the evaluator, in plain lists and functions. -/
namespace TW
open PySem PySem.Spec L2

section
variable {α σ : Type} {S : Src} {tg : Tg}
/-- a comprehension over known items -/
theorem lcGo_map {f c : DEnv → Src → Rs} {ρ : DEnv} (it : α → D) (g : α → Option D) : ∀ (xs : List α), (∀ x ∈ xs, ∃ ρ1, setTg tg (it x) ρ = some ρ1 ∧ c ρ1 S = some (.bool (g x).isSome, S) ∧ ∀ y, g x = some y → f ρ1 S = some (y, S)) →
    lcGo f c tg ρ (xs.map it) S = some (xs.filterMap g, S)
  | [], _ => rfl
  | x :: xs, h => by
    obtain ⟨ρ1, h1, h2, h3⟩ := h x List.mem_cons_self
    have ih := lcGo_map it g xs fun y hy => h y (List.mem_cons_of_mem _ hy)
    rw [List.map_cons, lcGo, h1]
    dsimp only
    rw [h2]
    cases q : g x with
    | none =>
      simp only [Option.isSome_none]
      rw [ih, List.filterMap_cons, q]
    | some y =>
      simp only [Option.isSome_some]
      rw [h3 y q]
      dsimp only
      rw [ih, List.filterMap_cons, q]
/-- a loop that keeps a state -/
theorem forGo_fold {b : DEnv → Src → Ss} (it : α → D) (R : σ → DEnv → Prop) (step : σ → α → σ) : ∀ (xs : List α) (s : σ) (ρ : DEnv), R s ρ →
    (∀ s, ∀ x ∈ xs, ∀ ρ, R s ρ → ∃ ρ1 ρ2, setTg tg (it x) ρ = some ρ1 ∧ b ρ1 S = some (.nx, ρ2, S) ∧ R (step s x) ρ2) → ∃ ρ', forGo b tg (xs.map it) ρ S = some (.nx, ρ', S) ∧ R (xs.foldl step s) ρ'
  | [], s, ρ, h, _ => ⟨ρ, rfl, h⟩
  | x :: xs, s, ρ, h, q => by
    obtain ⟨ρ1, ρ2, h1, h2, h3⟩ := q s x List.mem_cons_self ρ h
    obtain ⟨ρ', h4, h5⟩ := forGo_fold it R step xs (step s x) ρ2 h3 fun s y hy => q s y (List.mem_cons_of_mem _ hy)
    refine ⟨ρ', ?_, h5⟩
    rw [List.map_cons, forGo, h1]
    dsimp only
    rw [h2]
    exact h4
end
/-- range -/
theorem rangeD_map : ∀ (n : Nat) (lo : Int), rangeD lo n = (List.range n).map fun i => .int (lo + i)
  | 0, _ => rfl
  | n + 1, lo => by
    rw [show rangeD lo (n + 1) = .int lo :: rangeD (lo + 1) n from rfl, rangeD_map n, List.range_succ_eq_map, List.map_cons, List.map_map]
    congr 1
    · simp
    · refine List.map_congr_left fun i _ => ?_
      simp only [Function.comp]
      congr 1
      push_cast
      omega
def natD (n : Nat) : List D := (List.range n).map fun i : Nat => PyData.int (i : Int)
theorem rangeD_nat (n : Nat) : rangeD 0 n = natD n := by
  rw [rangeD_map]
  unfold natD
  refine List.map_congr_left fun i _ => ?_
  rw [Int.zero_add]

/-! ### tables -/
abbrev Mat := Nat → Nat → Int
def rowL (n : Nat) (f : Nat → Int) : List D := (List.range n).map fun v => .int (f v)
def tabL (n : Nat) (M : Mat) : List D := (List.range n).map fun u => .list (rowL n (M u))
def put2 (M : Mat) (u v : Nat) (x : Int) : Mat := fun a b => if a = u ∧ b = v then x else M a b
theorem atI_nat' {xs : List D} {i : Nat} {d : D} (h : xs[i]? = some d) : L2.atI xs (i : Int) = some d := by
  have hi := (List.getElem?_eq_some_iff.mp h).1
  unfold L2.atI
  have e : L2.ixN xs.length (i : Int) = some i := by
    unfold L2.ixN
    simp
    omega
  rw [e]
  exact h
theorem ixN_nat' {n i : Nat} (h : i < n) : L2.ixN n (i : Int) = some i := by
  unfold L2.ixN
  simp
  omega
theorem row_at {n : Nat} {f : Nat → Int} {v : Nat} (h : v < n) : L2.atI (rowL n f) (v : Int) = some (.int (f v)) := atI_nat' (by unfold rowL; simp [h])
theorem tab_at {n : Nat} {M : Mat} {u : Nat} (h : u < n) : L2.atI (tabL n M) (u : Int) = some (.list (rowL n (M u))) := atI_nat' (by unfold tabL; simp [h])
theorem map_set {β : Type} (n u : Nat) (f : Nat → β) (x : β) : ((List.range n).map f).set u x = (List.range n).map fun i => if i = u then x else f i := by
  refine List.ext_getElem? fun i => ?_
  rw [List.getElem?_set, List.getElem?_map, List.getElem?_map]
  by_cases h : u = i
  · subst h
    by_cases l : u < n
    · simp [l]
    · simp [l]
  · simp only [h, if_false]
    by_cases l : i < n
    · simp [l, Ne.symm h]
    · simp [l]
theorem set2_tab {n : Nat} {M : Mat} {u v : Nat} {x : Int} (hu : u < n) (hv : v < n) : set2Ix (tabL n M) (u : Int) (v : Int) (.int x) = some (tabL n (put2 M u v x)) := by
  unfold set2Ix
  have hl : (tabL n M).length = n := by simp [tabL]
  have hr : (rowL n (M u)).length = n := by simp [rowL]
  rw [hl, ixN_nat' hu]
  have e : (tabL n M)[u]? = some (.list (rowL n (M u))) := by unfold tabL; simp [hu]
  dsimp only
  rw [e]
  dsimp only
  unfold setIx
  rw [hr, ixN_nat' hv]
  dsimp only [Option.map]
  congr 1
  unfold tabL
  rw [map_set]
  refine List.map_congr_left fun a _ => ?_
  by_cases h : a = u
  · subst h
    rw [if_pos rfl]
    unfold rowL
    rw [map_set]
    congr 1
    refine List.map_congr_left fun b _ => ?_
    unfold put2
    by_cases hb : b = v
    · simp [hb]
    · simp [hb]
  · rw [if_neg h]
    congr 1
    unfold rowL put2
    refine List.map_congr_left fun b _ => ?_
    simp [h]
end TW
set_option maxRecDepth 20000
namespace TW
open PySem PySem.Spec L2
def tieD (u v : Nat) (w : Int) : D := .tuple [.int u, .int v, .int w]
def rowT (n : Nat) (M : Mat) (u : Nat) : List Nat := ((List.range (n - (u + 1))).map fun i => u + 1 + i).filter fun v => M u v ≠ 0
def tiesP (n : Nat) (M : Mat) : List (Nat × Nat) := (List.range n).flatMap fun u => (rowT n M u).map fun v => (u, v)
def tiesD (M : Mat) (l : List (Nat × Nat)) : List D := l.map fun q => tieD q.1 q.2 (M q.1 q.2)
def webD (p : Int) (n : Nat) (M : Mat) : D := .tuple [.int p, .int n, .tuple (tiesD M (tiesP n M))]
theorem mem_ties {n : Nat} {M : Mat} {q : Nat × Nat} : q ∈ tiesP n M ↔ q.1 < q.2 ∧ q.2 < n ∧ M q.1 q.2 ≠ 0 := by
  obtain ⟨u, v⟩ := q
  simp only [tiesP, rowT, List.mem_flatMap, List.mem_range, List.mem_map, List.mem_filter, decide_eq_true_eq]
  constructor
  · rintro ⟨a, ha, b, ⟨⟨i, hi, rfl⟩, hb⟩, e⟩
    simp only [Prod.mk.injEq] at e
    obtain ⟨rfl, rfl⟩ := e
    exact ⟨by omega, by omega, hb⟩
  · rintro ⟨h1, h2, h3⟩
    exact ⟨u, by omega, v, ⟨⟨v - (u + 1), by omega, by omega⟩, h3⟩, rfl⟩
def cM (M : Mat) (l : List (Nat × Nat)) (F : Mat) : Mat := l.foldl (fun F q => put2 (put2 F q.1 q.2 (M q.1 q.2)) q.2 q.1 (M q.1 q.2)) F
theorem cM_get {M : Mat} (sym : ∀ a b, M a b = M b a) : ∀ (l : List (Nat × Nat)) (F : Mat) (a b : Nat), cM M l F a b = if (a, b) ∈ l ∨ (b, a) ∈ l then M a b else F a b
  | [], F, a, b => by simp [cM]
  | q :: l, F, a, b => by
    have ih := cM_get sym l (put2 (put2 F q.1 q.2 (M q.1 q.2)) q.2 q.1 (M q.1 q.2)) a b
    show cM M l _ a b = _
    rw [ih]
    by_cases h : (a, b) ∈ l ∨ (b, a) ∈ l
    · rw [if_pos h, if_pos (h.imp (List.mem_cons_of_mem _) (List.mem_cons_of_mem _))]
    · rw [if_neg h]
      obtain ⟨u, v⟩ := q
      unfold put2
      dsimp only
      by_cases h1 : a = v ∧ b = u
      · obtain ⟨rfl, rfl⟩ := h1
        rw [if_pos ⟨rfl, rfl⟩, if_pos (.inr List.mem_cons_self), sym]
      · rw [if_neg h1]
        by_cases h2 : a = u ∧ b = v
        · obtain ⟨rfl, rfl⟩ := h2
          rw [if_pos ⟨rfl, rfl⟩, if_pos (.inl List.mem_cons_self)]
        · rw [if_neg h2, if_neg]
          rintro (q | q)
          · rcases List.mem_cons.mp q with e | e
            · simp only [Prod.mk.injEq] at e; exact h2 e
            · exact h (.inl e)
          · rcases List.mem_cons.mp q with e | e
            · simp only [Prod.mk.injEq] at e; exact h1 ⟨e.2, e.1⟩
            · exact h (.inr e)
structure WebOk (n : Nat) (M : Mat) : Prop where
  sym : ∀ a b, M a b = M b a
  dia : ∀ a, M a a = 0
theorem tab_ext {n : Nat} {M F : Mat} (h : ∀ a b, a < n → b < n → M a b = F a b) : tabL n M = tabL n F := by
  unfold tabL rowL
  refine List.map_congr_left fun a ha => ?_
  congr 1
  refine List.map_congr_left fun b hb => ?_
  rw [h a b (List.mem_range.mp ha) (List.mem_range.mp hb)]
theorem tab_close {n : Nat} {M : Mat} (ok : WebOk n M) : tabL n (cM M (tiesP n M) fun _ _ => 0) = tabL n M := by
  refine tab_ext fun a b ha hb => ?_
  rw [cM_get ok.sym]
  by_cases h0 : M a b = 0
  · rw [h0]
    split <;> rfl
  · rw [if_pos]
    rcases Nat.lt_trichotomy a b with h | h | h
    · exact .inl (mem_ties.mpr ⟨h, hb, h0⟩)
    · subst h; exact absurd (ok.dia a) h0
    · exact .inr (mem_ties.mpr ⟨h, ha, by rw [ok.sym]; exact h0⟩)
theorem zero_tab (n : Nat) : (List.range n).map (fun _ => PyData.list (List.replicate n (.int 0))) = tabL n fun _ _ => 0 := by
  unfold tabL rowL
  refine List.map_congr_left fun _ _ => ?_
  congr 1
  refine List.ext_getElem? fun i => ?_
  simp [List.getElem?_replicate]
  split <;> simp_all
theorem rep1 (n : Nat) (d : D) : (List.replicate n [d]).flatten = List.replicate n d := by
  induction n with
  | zero => rfl
  | succ n ih => rw [List.replicate_succ, List.flatten_cons, ih]; rfl
theorem fm_some {α β : Type} (f : α → β) : ∀ l : List α, l.filterMap (fun x => some (f x)) = l.map f
  | [] => rfl
  | x :: l => by rw [List.filterMap_cons, List.map_cons, fm_some f l]
/-- [[0] * n for v in range(n)] -/
theorem ev_zero {C : Ctx} {i j n : Nat} {ρ : DEnv} {S : Src} (hij : i ≠ j) (hn : n ≤ 1000) (hd : ρ[i]? = some (some (.int n))) (hj : j < ρ.length) :
    evE C (.lc (.bin .mul (.lst (.cons (.int 0) .nil)) (.var i)) (.nm j) (.rng1 (.var i)) .no [j]) ρ S = some (.list (tabL n fun _ _ => 0), S) := by
  have hr : rngOk (n : Int) = true := by unfold rngOk; simp; omega
  have hl : decide ((n : Int).toNat ≤ LINE) = true := by simp [LINE]; omega
  simp only [evE, evI, hd, hr, hl, Bool.and_self, if_true]
  rw [Int.toNat_natCast, rangeD_nat]
  unfold natD
  rw [lcGo_map (α := Nat) _ (fun _ => some (.list (List.replicate n (.int 0))))]
  · rw [fm_some, zero_tab]
  · intro k _
    refine ⟨(wipeE ρ [j]).set j (some (.int k)), rfl, rfl, fun y hy => ?_⟩
    cases hy
    have e : ((wipeE ρ [j]).set j (some (PyData.int k)))[i]? = some (some (.int n)) := by
      unfold wipeE wipeE
      rw [List.getElem?_set_ne (Ne.symm hij), List.getElem?_set_ne (Ne.symm hij)]
      exact hd
    simp only [evE, evs, e, List.length_singleton, bop]
    rw [if_pos (by simp [LINE])]
    simp only [bop, List.length_singleton, Int.toNat_natCast, Nat.one_mul]
    rw [if_pos (by simp [LINE]; omega)]
    rw [rep1]
    rfl
end TW
set_option maxRecDepth 20000
namespace TW
open PySem PySem.Spec L2
section
variable {C : Ctx} {S S1 S2 : Src} {ρ ρ1 ρ2 : DEnv} {s : St} {ss : Sts}
theorem seq_nx (h : evS C s ρ S = some (.nx, ρ1, S1)) : evSs C (.cons s ss) ρ S = evSs C ss ρ1 S1 := by simp only [evSs, h]
theorem seq_rt {d : D} (h : evS C s ρ S = some (.rt d, ρ1, S1)) : evSs C (.cons s ss) ρ S = some (.rt d, ρ1, S1) := by simp only [evSs, h]
theorem ev_ret {e : Ex} {d : D} (h : evE C e ρ S = some (d, S1)) : evS C (.ret e) ρ S = some (.rt d, ρ, S1) := by simp only [evS, h]
theorem ev_asg {i : Nat} {e : Ex} {d : D} (h : evE C e ρ S = some (d, S1)) : evS C (.asg (.nm i) e) ρ S = some (.nx, ρ.set i (some d), S1) := by simp only [evS, h, setTg, Option.map]
theorem ev_loop {tg : Tg} {it : It} {b : Sts} {ds : List D} {r : Fl × DEnv × Src} (h : evI C it ρ S = some (ds, S1)) (k : forGo (fun ρ S => evSs C b ρ S) tg ds ρ S1 = some r) : evS C (.loop tg it b) ρ S = some r := by simp only [evS, h, k]
theorem ev_set2 {i : Nat} {a b e : Ex} {u v n : Nat} {x : Int} {F : Mat} (he : evE C e ρ S = some (.int x, S)) (ha : evE C a ρ S = some (.int u, S)) (hb : evE C b ρ S = some (.int v, S)) (hi : ρ[i]? = some (some (.list (tabL n F)))) (hu : u < n) (hv : v < n) :
    evS C (.set2 i a b e) ρ S = some (.nx, ρ.set i (some (.list (tabL n (put2 F u v x)))), S) := by
  have g : getL ρ i = some (tabL n F) := by unfold getL; rw [hi]
  simp only [evS, he, ha, hb, g, set2_tab hu hv, Option.map]
theorem ev_var {i : Nat} {d : D} (h : ρ[i]? = some (some d)) : evE C (.var i) ρ S = some (d, S) := by simp only [evE, h]
end
def outS : Ss → Rs
  | some (.rt d, _, S1) => some (d, S1)
  | some (.nx, _, S1) => some (.none, S1)
  | none => none
theorem call_eq {T : List Fn} {fuel k i : Nat} {f : Fn} {ds : List D} {S : Src} (h : T[i]? = some f) (a : (if f.src then 1 else 0) + ds.length = f.ps.length) : evCall T fuel (k + 1) i ds S = outS (evSs ⟨evCall T fuel k, fuel⟩ f.body (startE f ds) S) := by
  simp only [evCall, h]
  rw [if_pos a]
  unfold outS
  split <;> simp_all
theorem m_law_table {C : Ctx} {p : Int} {n : Nat} {M : Mat} {S : Src} (ok : WebOk n M) (hn : n ≤ 1000) : outS (evSs C f_law_table.body (startE f_law_table [webD p n M]) S) = some (.list (tabL n M), S) := by
  have h1 : evS C (.asg (.tp [2, 3, 4]) (.var 0)) (startE f_law_table [webD p n M]) S = some (.nx, [some (webD p n M), none, some (.int p), some (.int n), some (.tuple (tiesD M (tiesP n M))), none, none, none], S) := rfl
  have h2 := ev_asg (i := 1) (ev_zero (C := C) (i := 3) (j := 6) (n := n) (ρ := [some (webD p n M), none, some (.int p), some (.int n), some (.tuple (tiesD M (tiesP n M))), none, none, none]) (S := S) (by decide) hn rfl (by simp))
  simp only [List.set_cons_succ, List.set_cons_zero] at h2
  obtain ⟨ρ3, h3, x, y, z, rfl⟩ := forGo_fold (S := S) (tg := .tp [5, 6, 7]) (b := fun ρ S => evSs C (.cons (.set2 1 (.var 5) (.var 6) (.var 7)) (.cons (.set2 1 (.var 6) (.var 5) (.var 7)) .nil)) ρ S) (fun q : Nat × Nat => tieD q.1 q.2 (M q.1 q.2))
    (fun (F : Mat) ρ => ∃ x y z, ρ = [some (webD p n M), some (.list (tabL n F)), some (.int p), some (.int n), some (.tuple (tiesD M (tiesP n M))), x, y, z]) (fun F q => put2 (put2 F q.1 q.2 (M q.1 q.2)) q.2 q.1 (M q.1 q.2))
    (tiesP n M) (fun _ _ => 0) _ ⟨none, none, none, rfl⟩ (by
      rintro F ⟨u, v⟩ hq ρ ⟨x, y, z, rfl⟩
      obtain ⟨q1, q2, q3⟩ := mem_ties.mp hq
      dsimp only at q1 q2 q3 ⊢
      refine ⟨[some (webD p n M), some (.list (tabL n F)), some (.int p), some (.int n), some (.tuple (tiesD M (tiesP n M))), some (.int u), some (.int v), some (.int (M u v))], _, rfl, ?_, some (.int u), some (.int v), some (.int (M u v)), rfl⟩
      rw [seq_nx (ev_set2 (u := u) (v := v) (x := M u v) (n := n) (F := F) (ev_var rfl) (ev_var rfl) (ev_var rfl) rfl (by omega) q2),
        seq_nx (ev_set2 (u := v) (v := u) (x := M u v) (n := n) (F := put2 F u v (M u v)) (ev_var rfl) (ev_var rfl) (ev_var rfl) rfl q2 (by omega))]
      rfl)
  show outS (evSs C (.cons _ (.cons _ (.cons _ (.cons _ .nil)))) (startE f_law_table [webD p n M]) S) = _
  rw [seq_nx h1, seq_nx h2, seq_nx (ev_loop (ds := tiesD M (tiesP n M)) rfl h3)]
  have e : tabL n ((tiesP n M).foldl (fun F q => put2 (put2 F q.1 q.2 (M q.1 q.2)) q.2 q.1 (M q.1 q.2)) fun _ _ => 0) = tabL n M := tab_close ok
  rw [e]
  rw [seq_rt (ev_ret (ev_var rfl))]
  rfl
end TW
set_option maxRecDepth 20000
namespace TW
open PySem PySem.Spec L2
theorem eqv_int (x y : Int) : PyData.eqv (.int x) (.int y) = decide (x = y) := by
  unfold PyData.eqv
  by_cases h : x = y <;> simp [h]
theorem shp_int (x : Int) : shp (.int x) = true := rfl
theorem cop_ne_int (x y : Int) : cop .ne (.int x) (.int y) = some (decide (x ≠ y)) := by
  simp [cop, shp_int, eqv_int]
theorem cop_eq_int (x y : Int) : cop .eq (.int x) (.int y) = some (decide (x = y)) := by
  simp [cop, shp_int, eqv_int]
abbrev rowLC (t u v m : Nat) : Ex := .lc (.tup (.cons (.var u) (.cons (.var v) (.cons (.ix (.ix (.var t) (.var u)) (.var v)) .nil)))) (.nm v) (.rng2 (.bin .add (.var u) (.int 1)) (.var m)) (.so (.cmp .ne (.ix (.ix (.var t) (.var u)) (.var v)) (.int 0))) [v]
theorem rowT_eq (n : Nat) (M : Mat) (a : Nat) : (List.range (n - (a + 1))).filterMap (fun i => if M a (a + 1 + i) ≠ 0 then some (tieD a (a + 1 + i) (M a (a + 1 + i))) else none) = (rowT n M a).map fun b => tieD a b (M a b) := by
  unfold rowT
  generalize List.range (n - (a + 1)) = l
  induction l with
  | nil => rfl
  | cons i l ih =>
    rw [List.filterMap_cons, List.map_cons, List.filter_cons]
    by_cases h : M a (a + 1 + i) ≠ 0
    · rw [if_pos h]
      simp only [decide_eq_true h, if_true, List.map_cons]
      rw [ih]
    · rw [if_neg h]
      simp only [decide_eq_false h, Bool.false_eq_true, if_false]
      exact ih
theorem ev_rowLC {C : Ctx} {t u v m n a : Nat} {M : Mat} {ρ : DEnv} {S : Src} (tv : t ≠ v) (uv : u ≠ v) (mv : m ≠ v) (hv : v < ρ.length) (ht : ρ[t]? = some (some (.list (tabL n M)))) (hu : ρ[u]? = some (some (.int a))) (ha : a < n) (hm : ρ[m]? = some (some (.int n))) (hn : n ≤ 1000) :
    evE C (rowLC t u v m) ρ S = some (.list ((rowT n M a).map fun b => tieD a b (M a b)), S) := by
  have r1 : rngOk ((a : Int) + 1) = true := by unfold rngOk; simp; omega
  have r2 : rngOk (n : Int) = true := by unfold rngOk; simp; omega
  have e0 : ((n : Int) - ((a : Int) + 1)).toNat = n - (a + 1) := by omega
  have r3 : decide (n - (a + 1) ≤ LINE) = true := by simp [LINE]; omega
  have hI : evI C (.rng2 (.bin .add (.var u) (.int 1)) (.var m)) ρ S = some ((List.range (n - (a + 1))).map fun i : Nat => .int ((a : Int) + 1 + i), S) := by
    simp only [evI, evE, hu, hm, bop, Option.map, r1, r2, e0, r3, Bool.and_self, if_true, rangeD_map]
  have hw : ∀ (x : D) (i : Nat), i ≠ v → ((wipeE ρ [v]).set v (some x))[i]? = ρ[i]? := fun x i h => by
    unfold wipeE wipeE
    rw [List.getElem?_set_ne (Ne.symm h), List.getElem?_set_ne (Ne.symm h)]
  have hx : ∀ (x : D), ((wipeE ρ [v]).set v (some x))[v]? = some (some x) := fun x => by
    unfold wipeE wipeE
    rw [List.getElem?_set]
    simp [hv]
  unfold rowLC
  rw [evE, hI]
  dsimp only
  rw [lcGo_map (α := Nat) (fun i : Nat => .int ((a : Int) + 1 + i)) (fun i => if M a (a + 1 + i) ≠ 0 then some (tieD a (a + 1 + i) (M a (a + 1 + i))) else none), rowT_eq]
  intro i hi
  have hi' : a + 1 + i < n := by have := List.mem_range.mp hi; omega
  have ec : ((a : Int) + 1 + i) = ((a + 1 + i : Nat) : Int) := by push_cast; omega
  rw [ec]
  have g1 : evE C (.ix (.ix (.var t) (.var u)) (.var v)) ((wipeE ρ [v]).set v (some (.int ((a + 1 + i : Nat) : Int)))) S = some (.int (M a (a + 1 + i)), S) := by
    simp only [evE, hw _ t tv, hw _ u uv, hx, ht, hu, dIx, tab_at ha, Option.map, row_at hi']
  refine ⟨_, rfl, ?_, fun y hy => ?_⟩
  · show evE C (.cmp .ne (.ix (.ix (.var t) (.var u)) (.var v)) (.int 0)) _ S = _
    rw [evE, g1]
    simp only [evE, cop_ne_int, Option.map]
    by_cases h : M a (a + 1 + i) ≠ 0
    · rw [if_pos h]; simp [h]
    · rw [if_neg h]; simp at h; simp [h]
  · by_cases h : M a (a + 1 + i) ≠ 0
    · rw [if_pos h] at hy
      cases hy
      simp only [evE, evs, hw _ t tv, hw _ u uv, hx, ht, hu, dIx, tab_at ha, Option.map, row_at hi']
      rw [if_pos (by simp [LINE])]
      rfl
    · rw [if_neg h] at hy; cases hy
end TW
set_option maxRecDepth 20000
namespace TW
open PySem PySem.Spec L2
theorem forGo_foldI {α σ : Type} {S : Src} {tg : Tg} {b : DEnv → Src → Ss} (it : α → D) (R : Nat → σ → DEnv → Prop) (step : σ → α → σ) : ∀ (xs : List α) (k : Nat) (s : σ) (ρ : DEnv), R k s ρ →
    (∀ i s x ρ, xs[i]? = some x → R (k + i) s ρ → ∃ ρ1 ρ2, setTg tg (it x) ρ = some ρ1 ∧ b ρ1 S = some (.nx, ρ2, S) ∧ R (k + i + 1) (step s x) ρ2) → ∃ ρ', forGo b tg (xs.map it) ρ S = some (.nx, ρ', S) ∧ R (k + xs.length) (xs.foldl step s) ρ'
  | [], k, s, ρ, h, _ => ⟨ρ, rfl, h⟩
  | x :: xs, k, s, ρ, h, q => by
    obtain ⟨ρ1, ρ2, h1, h2, h3⟩ := q 0 s x ρ rfl h
    obtain ⟨ρ', h4, h5⟩ := forGo_foldI it R step xs (k + 1) (step s x) ρ2 h3 fun i s y ρ hy hr => by
      have := q (i + 1) s y ρ (by simpa using hy) (by rwa [show k + (i + 1) = k + 1 + i by omega])
      rwa [show k + (i + 1) + 1 = k + 1 + i + 1 by omega] at this
    refine ⟨ρ', ?_, by rwa [show k + (x :: xs).length = k + 1 + xs.length by simp; omega]⟩
    rw [List.map_cons, forGo, h1]
    dsimp only
    rw [h2]
    exact h4
theorem tab_len (n : Nat) (M : Mat) : (tabL n M).length = n := by simp [tabL]
theorem row_len (n : Nat) (M : Mat) (u : Nat) : (rowT n M u).length ≤ n := by
  unfold rowT
  refine Nat.le_trans (List.length_filter_le _ _) ?_
  simp
def rowsD (M : Mat) (n : Nat) (u : Nat) : List D := (rowT n M u).map fun b => tieD u b (M u b)
theorem ties_fold (n : Nat) (M : Mat) : ∀ (l : List Nat) (acc : List D), l.foldl (fun acc u => acc ++ rowsD M n u) acc = acc ++ tiesD M (l.flatMap fun u => (rowT n M u).map fun v => (u, v))
  | [], acc => by simp [tiesD]
  | u :: l, acc => by
    rw [List.foldl_cons, ties_fold n M l, List.flatMap_cons]
    unfold tiesD rowsD
    rw [List.map_append, List.append_assoc, List.map_map]
    rfl
theorem range_get' {n i : Nat} {x : Nat} (h : (List.range n)[i]? = some x) : x = i ∧ i < n := by
  have hi := (List.getElem?_eq_some_iff.mp h).1
  rw [List.length_range] at hi
  rw [List.getElem?_range hi] at h
  exact ⟨(Option.some.inj h).symm, hi⟩
theorem ev_bin {C : Ctx} {o : Bo} {a b : Ex} {ρ : DEnv} {S S1 S2 : Src} {x y d : D} (ha : evE C a ρ S = some (x, S1)) (hb : evE C b ρ S1 = some (y, S2)) (ho : bop o x y = some d) : evE C (.bin o a b) ρ S = some (d, S2) := by
  simp only [evE, ha, hb, ho, Option.map]
theorem m_law_web {C : Ctx} {p : Int} {n : Nat} {M : Mat} {S : Src} (hn : n ≤ 1000) : outS (evSs C f_law_web.body (startE f_law_web [.int p, .list (tabL n M)]) S) = some (webD p n M, S) := by
  have h1 : evS C (.par [3, 4] (.cons (.lst .nil) (.cons (.b1 .len (.var 1)) .nil))) (startE f_law_web [.int p, .list (tabL n M)]) S = some (.nx, [some (.int p), some (.list (tabL n M)), none, some (.list []), some (.int n), none], S) := by
    simp [evS, evs, evE, setAll, bu1, startE, f_law_web, LINE, tab_len, List.replicate_succ]
  have hr : rngOk (n : Int) = true := by unfold rngOk; simp; omega
  have hl : decide ((n : Int).toNat ≤ LINE) = true := by simp [LINE]; omega
  have hI : evI C (.rng1 (.var 4)) [some (.int p), some (.list (tabL n M)), none, some (.list []), some (.int n), none] S = some (natD n, S) := by
    show (if rngOk (n : Int) && decide ((n : Int).toNat ≤ LINE) then some (rangeD 0 (n : Int).toNat, S) else none) = _
    rw [hr, hl, Int.toNat_natCast, rangeD_nat]
    rfl
  obtain ⟨ρ3, h3, x, y, rfl, hlen⟩ := forGo_foldI (S := S) (tg := .nm 2) (b := fun ρ S => evSs C (.cons (.asg (.nm 3) (.bin .add (.var 3) (rowLC 1 2 5 4))) .nil) ρ S) (fun i : Nat => PyData.int (i : Int))
    (fun k (l : List D) ρ => ∃ x y, ρ = [some (.int p), some (.list (tabL n M)), x, some (.list l), some (.int n), y] ∧ l.length ≤ k * n) (fun l u => l ++ rowsD M n u) (List.range n) 0 [] _ ⟨none, none, rfl, by simp⟩ (by
      rintro i l a ρ ha ⟨x, y, rfl, hlen⟩
      obtain ⟨rfl, hi⟩ := range_get' ha
      have hrow := row_len n M a
      have hb : (0 + a) * n + n ≤ 1000000 := by
        have : (0 + a + 1) * n ≤ 1000 * 1000 := Nat.mul_le_mul (by omega) hn
        rw [Nat.succ_mul] at this
        omega
      refine ⟨[some (.int p), some (.list (tabL n M)), some (.int a), some (.list l), some (.int n), y], _, rfl, ?_, some (.int a), y, rfl, ?_⟩
      · have e : evE C (.bin .add (.var 3) (rowLC 1 2 5 4)) [some (.int p), some (.list (tabL n M)), some (.int a), some (.list l), some (.int n), y] S = some (.list (l ++ rowsD M n a), S) := by
          have hq : l.length + ((rowT n M a).map fun b => tieD a b (M a b)).length ≤ LINE := by
            rw [List.length_map]
            have : l.length + (rowT n M a).length ≤ 1000000 := by omega
            exact Nat.le_trans this (by decide)
          exact ev_bin (ev_var rfl) (ev_rowLC (n := n) (a := a) (M := M) (by decide) (by decide) (by decide) (by simp) rfl rfl hi rfl hn) (by simp only [bop]; rw [if_pos hq]; rfl)
        rw [seq_nx (ev_asg e)]
        rfl
      · unfold rowsD
        rw [List.length_append, List.length_map, Nat.succ_mul]
        omega)
  show outS (evSs C (.cons _ (.cons _ (.cons _ .nil))) (startE f_law_web [.int p, .list (tabL n M)]) S) = _
  rw [seq_nx h1, seq_nx (ev_loop hI h3), ties_fold, List.nil_append]
  have e : evE C (.tup (.cons (.var 0) (.cons (.var 4) (.cons (.b1 .tuple (.var 3)) .nil)))) [some (.int p), some (.list (tabL n M)), x, some (.list (tiesD M ((List.range n).flatMap fun u => (rowT n M u).map fun v => (u, v)))), some (.int n), y] S = some (webD p n M, S) := by
    show (if (3 : Nat) ≤ LINE then some (webD p n M, S) else none) = _
    rw [if_pos (by simp [LINE])]
  rw [seq_rt (ev_ret e)]
  rfl
end TW
set_option maxRecDepth 20000
namespace TW
open PySem PySem.Spec L2
def outM (M : Mat) (c : Nat) : Mat := fun a b => if a = c ∨ b = c then 0 else M a b
theorem outM_ok {n : Nat} {M : Mat} {c : Nat} (ok : WebOk n M) : WebOk n (outM M c) := by
  refine ⟨fun a b => ?_, fun a => ?_⟩
  · unfold outM
    by_cases h : a = c ∨ b = c
    · rw [if_pos h, if_pos h.symm]
    · rw [if_neg h, if_neg fun q => h q.symm, ok.sym]
  · unfold outM
    split
    · rfl
    · exact ok.dia a
theorem rowT_out {n : Nat} {M : Mat} {c : Nat} (u : Nat) : ((rowT n M u).map fun v => (u, v)).filter (fun q => decide (q.1 ≠ c ∧ q.2 ≠ c)) = (rowT n (outM M c) u).map fun v => (u, v) := by
  unfold rowT
  rw [List.filter_map, List.filter_filter]
  congr 1
  refine List.filter_congr fun b _ => ?_
  unfold outM
  simp only [Function.comp]
  by_cases h : u = c ∨ b = c
  · have h' : ¬ (u ≠ c ∧ b ≠ c) := fun q => h.elim q.1 q.2
    rw [if_pos h, decide_eq_false h']
    simp
  · have h' : u ≠ c ∧ b ≠ c := ⟨fun q => h (.inl q), fun q => h (.inr q)⟩
    rw [if_neg h, decide_eq_true h']
    simp
theorem ties_out (n : Nat) (M : Mat) (c : Nat) : (tiesP n M).filter (fun q => decide (q.1 ≠ c ∧ q.2 ≠ c)) = tiesP n (outM M c) := by
  unfold tiesP
  generalize List.range n = l
  induction l with
  | nil => rfl
  | cons u l ih => rw [List.flatMap_cons, List.flatMap_cons, List.filter_append, ih, rowT_out]
theorem tiesD_out (n : Nat) (M : Mat) (c : Nat) : (tiesP n M).filterMap (fun q => if q.1 ≠ c ∧ q.2 ≠ c then some (tieD q.1 q.2 (M q.1 q.2)) else none) = tiesD (outM M c) (tiesP n (outM M c)) := by
  rw [← ties_out]
  unfold tiesD
  generalize tiesP n M = l
  induction l with
  | nil => rfl
  | cons q l ih =>
    rw [List.filterMap_cons, List.filter_cons]
    by_cases h : q.1 ≠ c ∧ q.2 ≠ c
    · have e : outM M c q.1 q.2 = M q.1 q.2 := by
        unfold outM
        rw [if_neg fun e => e.elim h.1 h.2]
      rw [if_pos h, if_pos (decide_eq_true h), List.map_cons, ih, e]
    · rw [if_neg h, if_neg (by rw [decide_eq_false h]; exact Bool.false_ne_true)]
      exact ih
abbrev outLC (v t : Nat) (it : Ex) : Ex := .lc (.var t) (.nm t) (.dat it) (.so (.cmp .notIn (.var v) (.sl (.var t) .no (.so (.int 2))))) [t]
theorem notIn_two (c u w : Nat) : cop .notIn (.int c) (.tuple [.int u, .int w]) = some (decide (u ≠ c ∧ w ≠ c)) := by
  have h1 : (shp (.int (c : Int)) && shp (.tuple [.int (u : Int), .int (w : Int)])) = true := rfl
  simp only [cop, dIn, h1, if_true, Option.map, List.any_cons, List.any_nil, eqv_int, Bool.or_false]
  congr 1
  by_cases h1 : u = c <;> by_cases h2 : w = c <;> simp [h1, h2] <;> omega
theorem ev_outLC {C : Ctx} {v t c n : Nat} {M : Mat} {it : Ex} {ρ : DEnv} {S : Src} (vt : v ≠ t) (ht : t < ρ.length) (hv : ρ[v]? = some (some (.int c))) (hi : evE C it ρ S = some (.tuple (tiesD M (tiesP n M)), S)) :
    evE C (outLC v t it) ρ S = some (.list (tiesD (outM M c) (tiesP n (outM M c))), S) := by
  have hI : evI C (.dat it) ρ S = some ((tiesP n M).map fun q => tieD q.1 q.2 (M q.1 q.2), S) := by
    simp only [evI, hi, itemsOf, Option.map]
    rfl
  have hw : ∀ (x : D), ((wipeE ρ [t]).set t (some x))[v]? = some (some (.int c)) := fun x => by
    unfold wipeE wipeE
    rw [List.getElem?_set_ne (Ne.symm vt), List.getElem?_set_ne (Ne.symm vt)]
    exact hv
  have hx : ∀ (x : D), ((wipeE ρ [t]).set t (some x))[t]? = some (some x) := fun x => by
    unfold wipeE wipeE
    rw [List.getElem?_set]
    simp [ht]
  unfold outLC
  rw [evE, hI]
  dsimp only
  rw [lcGo_map (α := Nat × Nat) (fun q => tieD q.1 q.2 (M q.1 q.2)) (fun q => if q.1 ≠ c ∧ q.2 ≠ c then some (tieD q.1 q.2 (M q.1 q.2)) else none), tiesD_out]
  intro q hq
  have g1 : ∀ ρ', ρ'[v]? = some (some (PyData.int c)) → ρ'[t]? = some (some (tieD q.1 q.2 (M q.1 q.2))) → evE C (.cmp .notIn (.var v) (.sl (.var t) .no (.so (.int 2)))) ρ' S = some (.bool (decide (q.1 ≠ c ∧ q.2 ≠ c)), S) := fun ρ' h1 h2 => by
    have e : dSl (tieD q.1 q.2 (M q.1 q.2)) none (some 2) = some (.tuple [.int q.1, .int q.2]) := rfl
    simp only [evE, evO, h1, h2, e, Option.map, notIn_two]
  refine ⟨_, rfl, ?_, fun y hy => ?_⟩
  · show evE C (.cmp .notIn (.var v) (.sl (.var t) .no (.so (.int 2)))) _ S = _
    rw [g1 _ (hw _) (hx _)]
    by_cases h : q.1 ≠ c ∧ q.2 ≠ c
    · rw [if_pos h, decide_eq_true h]; rfl
    · rw [if_neg h, decide_eq_false h]; rfl
  · by_cases h : q.1 ≠ c ∧ q.2 ≠ c
    · rw [if_pos h] at hy
      cases hy
      exact ev_var (hx _)
    · rw [if_neg h] at hy; cases hy
theorem ev_tuple1 {C : Ctx} {a : Ex} {xs : List D} {ρ : DEnv} {S S1 : Src} (h : evE C a ρ S = some (.list xs, S1)) : evE C (.b1 .tuple a) ρ S = some (.tuple xs, S1) := by
  simp only [evE, h, bu1, Option.map]
theorem ev_tup3 {C : Ctx} {a b c : Ex} {x y z : D} {ρ : DEnv} {S S1 S2 S3 : Src} (h1 : evE C a ρ S = some (x, S1)) (h2 : evE C b ρ S1 = some (y, S2)) (h3 : evE C c ρ S2 = some (z, S3)) : evE C (.tup (.cons a (.cons b (.cons c .nil)))) ρ S = some (.tuple [x, y, z], S3) := by
  have l : ([x, y, z] : List D).length ≤ LINE := by simp [LINE]
  simp only [evE, evs, h1, h2, h3]
  rw [if_pos l]
theorem m_left_out {C : Ctx} {p : Int} {n c : Nat} {M : Mat} {S : Src} : outS (evSs C f_left_out.body (startE f_left_out [webD p n M, .int c]) S) = some (webD p n (outM M c), S) := by
  have h1 : evS C (.asg (.tp [2, 3, 4]) (.var 0)) (startE f_left_out [webD p n M, .int c]) S = some (.nx, [some (webD p n M), some (.int c), some (.int p), some (.int n), some (.tuple (tiesD M (tiesP n M))), none], S) := rfl
  have h2 := ev_tup3 (C := C) (ev_var (i := 2) (ρ := [some (webD p n M), some (.int c), some (.int p), some (.int n), some (.tuple (tiesD M (tiesP n M))), none]) (S := S) rfl) (ev_var (i := 3) rfl) (ev_tuple1 (ev_outLC (v := 1) (t := 5) (c := c) (n := n) (M := M) (it := .var 4) (by decide) (by simp) rfl (ev_var rfl)))
  show outS (evSs C (.cons _ (.cons _ .nil)) (startE f_left_out [webD p n M, .int c]) S) = _
  rw [seq_nx h1, seq_rt (ev_ret h2)]
  rfl
theorem m_law_out {C : Ctx} {p : Int} {n c : Nat} {M : Mat} {S : Src} : outS (evSs C f_law_out.body (startE f_law_out [webD p n M, .int c]) S) = some (webD p n (outM M c), S) := by
  have g : ∀ (k : Int) (d : D), dIx (webD p n M) (.int k) = some d → evE C (.ix (.var 0) (.int k)) [some (webD p n M), some (.int c), none] S = some (d, S) := fun k d h => by
    have e : ([some (webD p n M), some (PyData.int c), none] : DEnv)[0]? = some (some (webD p n M)) := rfl
    simp only [evE, e, h, Option.map]
  have h2 := ev_tup3 (C := C) (g 0 (.int p) rfl) (g 1 (.int n) rfl) (ev_tuple1 (ev_outLC (v := 1) (t := 2) (c := c) (n := n) (M := M) (it := .ix (.var 0) (.int 2)) (by decide) (by simp) rfl (g 2 _ rfl)))
  show outS (evSs C (.cons _ .nil) [some (webD p n M), some (.int c), none] S) = _
  rw [seq_rt (ρ1 := [some (webD p n M), some (.int c), none]) (ev_ret h2)]
  rfl
end TW
set_option maxRecDepth 20000
namespace TW
open PySem PySem.Spec L2
def tabT (n : Nat) (M : Mat) : D := .tuple ((List.range n).map fun u => .tuple (rowL n (M u)))
theorem ev_set22 {C : Ctx} {ρ : DEnv} {S : Src} {i : Nat} {a b e : Ex} {u v n : Nat} {x : Int} {F : Mat} (he : evE C e ρ S = some (.int x, S)) (ha : evE C a ρ S = some (.int u, S)) (hb : evE C b ρ S = some (.int v, S)) (hi : ρ[i]? = some (some (.list (tabL n F)))) (hu : u < n) (hv : v < n)
    (hc : evE C b (ρ.set i (some (.list (tabL n (put2 F u v x))))) S = some (.int v, S)) (hd : evE C a (ρ.set i (some (.list (tabL n (put2 F u v x))))) S = some (.int u, S)) (hl : i < ρ.length) :
    evS C (.set22 i a b i b a e e) ρ S = some (.nx, (ρ.set i (some (.list (tabL n (put2 F u v x))))).set i (some (.list (tabL n (put2 (put2 F u v x) v u x)))), S) := by
  have g : getL ρ i = some (tabL n F) := by unfold getL; rw [hi]
  have g2 : getL (ρ.set i (some (.list (tabL n (put2 F u v x))))) i = some (tabL n (put2 F u v x)) := by
    unfold getL
    rw [List.getElem?_set]
    simp [hl]
  simp only [evS, he, ha, hb, g, set2_tab hu hv, hc, hd, g2, set2_tab hv hu, Option.map]
theorem ev_rowsT {C : Ctx} {i j n : Nat} {M : Mat} {ρ : DEnv} {S : Src} (hj : j < ρ.length) (hi : ρ[i]? = some (some (.list (tabL n M)))) : evE C (.lc (.b1 .tuple (.var j)) (.nm j) (.dat (.var i)) .no [j]) ρ S = some (.list ((List.range n).map fun u => .tuple (rowL n (M u))), S) := by
  have hI : evI C (.dat (.var i)) ρ S = some ((List.range n).map fun u => .list (rowL n (M u)), S) := by
    simp only [evI, evE, hi, itemsOf, Option.map]
    rfl
  rw [evE, hI]
  dsimp only
  rw [lcGo_map (α := Nat) (fun u => .list (rowL n (M u))) (fun u => some (.tuple (rowL n (M u)))), fm_some]
  intro u _
  refine ⟨(wipeE ρ [j]).set j (some (.list (rowL n (M u)))), rfl, rfl, fun y hy => ?_⟩
  cases hy
  refine ev_tuple1 (ev_var ?_)
  unfold wipeE wipeE
  rw [List.getElem?_set]
  simp [hj]
theorem m_table_of {C : Ctx} {p : Int} {n : Nat} {M : Mat} {S : Src} (ok : WebOk n M) (hn : n ≤ 1000) : outS (evSs C f_table_of.body (startE f_table_of [webD p n M]) S) = some (tabT n M, S) := by
  have h1 : evS C (.asg (.tp [2, 3, 4]) (.var 0)) (startE f_table_of [webD p n M]) S = some (.nx, [some (webD p n M), none, some (.int p), some (.int n), some (.tuple (tiesD M (tiesP n M))), none, none, none, none], S) := rfl
  have h2 := ev_asg (i := 1) (ev_zero (C := C) (i := 3) (j := 5) (n := n) (ρ := [some (webD p n M), none, some (.int p), some (.int n), some (.tuple (tiesD M (tiesP n M))), none, none, none, none]) (S := S) (by decide) hn rfl (by simp))
  simp only [List.set_cons_succ, List.set_cons_zero] at h2
  obtain ⟨ρ3, h3, x, y, z, rfl⟩ := forGo_fold (S := S) (tg := .tp [5, 6, 7]) (b := fun ρ S => evSs C (.cons (.set22 1 (.var 5) (.var 6) 1 (.var 6) (.var 5) (.var 7) (.var 7)) .nil) ρ S) (fun q : Nat × Nat => tieD q.1 q.2 (M q.1 q.2))
    (fun (F : Mat) ρ => ∃ x y z, ρ = [some (webD p n M), some (.list (tabL n F)), some (.int p), some (.int n), some (.tuple (tiesD M (tiesP n M))), x, y, z, none]) (fun F q => put2 (put2 F q.1 q.2 (M q.1 q.2)) q.2 q.1 (M q.1 q.2))
    (tiesP n M) (fun _ _ => 0) _ ⟨none, none, none, rfl⟩ (by
      rintro F ⟨u, v⟩ hq ρ ⟨x, y, z, rfl⟩
      obtain ⟨q1, q2, q3⟩ := mem_ties.mp hq
      dsimp only at q1 q2 q3 ⊢
      refine ⟨[some (webD p n M), some (.list (tabL n F)), some (.int p), some (.int n), some (.tuple (tiesD M (tiesP n M))), some (.int u), some (.int v), some (.int (M u v)), none], _, rfl, ?_, some (.int u), some (.int v), some (.int (M u v)), rfl⟩
      rw [seq_nx (ev_set22 (u := u) (v := v) (x := M u v) (n := n) (F := F) (ev_var rfl) (ev_var rfl) (ev_var rfl) rfl (by omega) q2 (ev_var rfl) (ev_var rfl) (by simp))]
      rfl)
  show outS (evSs C (.cons _ (.cons _ (.cons _ (.cons _ .nil)))) (startE f_table_of [webD p n M]) S) = _
  rw [seq_nx h1, seq_nx h2, seq_nx (ev_loop (ds := tiesD M (tiesP n M)) rfl h3)]
  have e : tabL n ((tiesP n M).foldl (fun F q => put2 (put2 F q.1 q.2 (M q.1 q.2)) q.2 q.1 (M q.1 q.2)) fun _ _ => 0) = tabL n M := tab_close ok
  rw [e]
  rw [seq_rt (ev_ret (ev_tuple1 (ev_rowsT (i := 1) (j := 8) (n := n) (M := M) (by simp) rfl)))]
  rfl
theorem ev_ext {C : Ctx} {i : Nat} {e : Ex} {l ys : List D} {ρ : DEnv} {S S1 : Src} (g : ρ[i]? = some (some (.list l))) (he : evE C e ρ S = some (.list ys, S1)) (hq : l.length + ys.length ≤ LINE) : evS C (.ext i e) ρ S = some (.nx, ρ.set i (some (.list (l ++ ys))), S1) := by
  have g' : getL ρ i = some l := by unfold getL; rw [g]
  simp only [evS, g', he]
  rw [if_pos hq]
/-- web_of, of a list of lists -/
theorem m_web_of {C : Ctx} {p : Int} {n : Nat} {M : Mat} {S : Src} (hn : n ≤ 1000) : outS (evSs C f_web_of.body (startE f_web_of [.int p, .list (tabL n M)]) S) = some (webD p n M, S) := by
  have h1 : evS C (.par [3, 4] (.cons (.b1 .len (.var 1)) (.cons (.lst .nil) .nil))) (startE f_web_of [.int p, .list (tabL n M)]) S = some (.nx, [some (.int p), some (.list (tabL n M)), none, some (.int n), some (.list []), none], S) := by
    simp [evS, evs, evE, setAll, bu1, startE, f_web_of, LINE, tab_len, List.replicate_succ]
  have hr : rngOk (n : Int) = true := by unfold rngOk; simp; omega
  have hl : decide ((n : Int).toNat ≤ LINE) = true := by simp [LINE]; omega
  have hI : evI C (.rng1 (.var 3)) [some (.int p), some (.list (tabL n M)), none, some (.int n), some (.list []), none] S = some (natD n, S) := by
    show (if rngOk (n : Int) && decide ((n : Int).toNat ≤ LINE) then some (rangeD 0 (n : Int).toNat, S) else none) = _
    rw [hr, hl, Int.toNat_natCast, rangeD_nat]
    rfl
  obtain ⟨ρ3, h3, x, y, rfl, hlen⟩ := forGo_foldI (S := S) (tg := .nm 2) (b := fun ρ S => evSs C (.cons (.ext 4 (rowLC 1 2 5 3)) .nil) ρ S) (fun i : Nat => PyData.int (i : Int))
    (fun k (l : List D) ρ => ∃ x y, ρ = [some (.int p), some (.list (tabL n M)), x, some (.int n), some (.list l), y] ∧ l.length ≤ k * n) (fun l u => l ++ rowsD M n u) (List.range n) 0 [] _ ⟨none, none, rfl, by simp⟩ (by
      rintro i l a ρ ha ⟨x, y, rfl, hlen⟩
      obtain ⟨rfl, hi⟩ := range_get' ha
      have hrow := row_len n M a
      have hb : (0 + a) * n + n ≤ 1000000 := by
        have : (0 + a + 1) * n ≤ 1000 * 1000 := Nat.mul_le_mul (by omega) hn
        rw [Nat.succ_mul] at this
        omega
      refine ⟨[some (.int p), some (.list (tabL n M)), some (.int a), some (.int n), some (.list l), y], _, rfl, ?_, some (.int a), y, rfl, ?_⟩
      · have hq : l.length + ((rowT n M a).map fun b => tieD a b (M a b)).length ≤ LINE := by
          rw [List.length_map]
          have : l.length + (rowT n M a).length ≤ 1000000 := by omega
          exact Nat.le_trans this (by decide)
        have e1 := ev_rowLC (C := C) (t := 1) (u := 2) (v := 5) (m := 3) (n := n) (a := a) (M := M) (ρ := [some (.int p), some (.list (tabL n M)), some (.int a), some (.int n), some (.list l), y]) (S := S) (by decide) (by decide) (by decide) (by simp) rfl rfl hi rfl hn
        rw [seq_nx (ev_ext (i := 4) (l := l) rfl e1 hq)]
        rfl
      · unfold rowsD
        rw [List.length_append, List.length_map, Nat.succ_mul]
        omega)
  show outS (evSs C (.cons _ (.cons _ (.cons _ .nil))) (startE f_web_of [.int p, .list (tabL n M)]) S) = _
  rw [seq_nx h1, seq_nx (ev_loop hI h3), ties_fold, List.nil_append]
  rw [seq_rt (ev_ret (ev_tup3 (x := .int p) (y := .int n) (z := .tuple (tiesD M (tiesP n M))) (ev_var rfl) (ev_var rfl) (ev_tuple1 (ev_var rfl))))]
  rfl
end TW
set_option maxRecDepth 20000
namespace TW
open PySem PySem.Spec L2
/-- cells changed one by one, each once -/
def chg (cond : Nat → Nat → Bool) (g : Nat → Nat → Int → Int) (l : List (Nat × Nat)) (F : Mat) : Mat := l.foldl (fun F q => if cond q.1 q.2 then put2 F q.1 q.2 (g q.1 q.2 (F q.1 q.2)) else F) F
theorem chg_get {cond : Nat → Nat → Bool} {g : Nat → Nat → Int → Int} : ∀ (l : List (Nat × Nat)) (F : Mat) (a b : Nat), l.Nodup → chg cond g l F a b = if (a, b) ∈ l ∧ cond a b = true then g a b (F a b) else F a b
  | [], F, a, b, _ => by simp [chg]
  | q :: l, F, a, b, nd => by
    obtain ⟨u, v⟩ := q
    obtain ⟨n1, n2⟩ := List.nodup_cons.mp nd
    have ih := chg_get (cond := cond) (g := g) l (if cond u v then put2 F u v (g u v (F u v)) else F) a b n2
    show chg cond g l (if cond u v then put2 F u v (g u v (F u v)) else F) a b = _
    rw [ih]
    by_cases e : a = u ∧ b = v
    · obtain ⟨rfl, rfl⟩ := e
      rw [if_neg fun h => n1 h.1]
      by_cases c : cond a b = true
      · rw [if_pos c, if_pos ⟨List.mem_cons_self, c⟩]
        unfold put2
        rw [if_pos ⟨rfl, rfl⟩]
      · rw [if_neg c, if_neg fun h => c h.2]
    · have e1 : (if cond u v then put2 F u v (g u v (F u v)) else F) a b = F a b := by
        split
        · unfold put2
          rw [if_neg e]
        · rfl
      have e2 : (a, b) ∈ (u, v) :: l ↔ (a, b) ∈ l := by
        rw [List.mem_cons]
        constructor
        · rintro (h | h)
          · simp only [Prod.mk.injEq] at h; exact absurd h e
          · exact h
        · exact .inr
      rw [e1]
      simp only [e2]
def cells (n : Nat) : List (Nat × Nat) := (List.range n).flatMap fun u => (List.range n).map fun w => (u, w)
theorem mem_cells {n : Nat} {q : Nat × Nat} : q ∈ cells n ↔ q.1 < n ∧ q.2 < n := by
  obtain ⟨a, b⟩ := q
  simp only [cells, List.mem_flatMap, List.mem_range, List.mem_map, Prod.mk.injEq]
  constructor
  · rintro ⟨u, hu, w, hw, rfl, rfl⟩; exact ⟨hu, hw⟩
  · rintro ⟨h1, h2⟩; exact ⟨a, h1, b, h2, rfl, rfl⟩
theorem nodup_cells (n : Nat) : (cells n).Nodup := by
  unfold cells
  have key : ∀ l : List Nat, l.Nodup → (l.flatMap fun u => (List.range n).map fun w => (u, w)).Nodup := fun l => by
    induction l with
    | nil => intro _; exact List.nodup_nil
    | cons u l ih =>
      intro h
      obtain ⟨h1, h2⟩ := List.nodup_cons.mp h
      rw [List.flatMap_cons]
      refine List.nodup_append.mpr ⟨?_, ih h2, fun x hx y hy e => ?_⟩
      · exact List.Pairwise.map _ (fun a b (hab : a ≠ b) h => hab (by simpa using h)) List.nodup_range
      · subst e
        simp only [List.mem_map, List.mem_range] at hx
        obtain ⟨w, _, rfl⟩ := hx
        simp only [List.mem_flatMap, List.mem_map, List.mem_range, Prod.mk.injEq] at hy
        obtain ⟨u', hu', w', _, e1, _⟩ := hy
        rw [e1] at hu'
        exact h1 hu'
  exact key _ List.nodup_range
theorem chg_cells {cond : Nat → Nat → Bool} {g : Nat → Nat → Int → Int} {n : Nat} {F : Mat} : tabL n (chg cond g (cells n) F) = tabL n fun a b => if cond a b = true then g a b (F a b) else F a b := by
  refine tab_ext fun a b ha hb => ?_
  rw [chg_get _ _ _ _ (nodup_cells n)]
  have m : (a, b) ∈ cells n := mem_cells.mpr ⟨ha, hb⟩
  by_cases c : cond a b = true
  · rw [if_pos ⟨m, c⟩, if_pos c]
  · rw [if_neg fun h => c h.2, if_neg c]
/-- row by row -/
theorem chg_rows {cond : Nat → Nat → Bool} {g : Nat → Nat → Int → Int} (n : Nat) : ∀ (l : List Nat) (F : Mat), l.foldl (fun F u => chg cond g ((List.range n).map fun w => (u, w)) F) F = chg cond g (l.flatMap fun u => (List.range n).map fun w => (u, w)) F
  | [], F => rfl
  | u :: l, F => by
    rw [List.foldl_cons, chg_rows n l, List.flatMap_cons]
    unfold chg
    rw [List.foldl_append]
end TW
set_option maxRecDepth 20000
namespace TW
open PySem PySem.Spec L2
section
variable {C : Ctx} {ρ : DEnv} {S S1 : Src} {a b c : Ex}
theorem ev_and {x y : Bool} (ha : evE C a ρ S = some (.bool x, S)) (hb : evE C b ρ S = some (.bool y, S)) : evE C (.and a b) ρ S = some (.bool (x && y), S) := by
  simp only [evE, ha]
  cases x
  · rfl
  · exact hb
theorem ev_one {d : D} (ha : evE C a ρ S = some (d, S)) : evE C (.one a) ρ S = some (d, S) := by simp only [evE, ha]
theorem ev_cmp {o : Co} {x y : D} {r : Bool} (ha : evE C a ρ S = some (x, S)) (hb : evE C b ρ S = some (y, S)) (h : cop o x y = some r) : evE C (.cmp o a b) ρ S = some (.bool r, S) := by simp only [evE, ha, hb, h, Option.map]
theorem ev_ifT {ss tt : Sts} (hc : evE C c ρ S = some (.bool true, S)) : evS C (.ife c ss tt) ρ S = evSs C ss ρ S := by simp only [evS, hc]
theorem ev_ifF {ss tt : Sts} (hc : evE C c ρ S = some (.bool false, S)) : evS C (.ife c ss tt) ρ S = evSs C tt ρ S := by simp only [evS, hc]
theorem ev_tup2 {x y : D} (h1 : evE C a ρ S = some (x, S)) (h2 : evE C b ρ S = some (y, S)) : evE C (.tup (.cons a (.cons b .nil))) ρ S = some (.tuple [x, y], S) := by
  have l : ([x, y] : List D).length ≤ LINE := by simp [LINE]
  simp only [evE, evs, h1, h2]
  rw [if_pos l]
theorem ev_ix {x y d : D} (h1 : evE C a ρ S = some (x, S)) (h2 : evE C b ρ S = some (y, S)) (h : dIx x y = some d) : evE C (.ix a b) ρ S = some (d, S) := by simp only [evE, h1, h2, h, Option.map]
theorem ev_int1 {i : Int} (h : evE C a ρ S = some (.int i, S)) : evE C (.b1 .int a) ρ S = some (.int i, S) := by simp only [evE, h, bu1, Option.map]
theorem ev_list1 {xs : List D} (h : evE C a ρ S = some (.list xs, S)) : evE C (.b1 .list a) ρ S = some (.list xs, S) := by simp only [evE, h, bu1, Option.map]
theorem ev_callE {f : Nat} {es : Exs} {ds : List D} {r : Rs} (h : evs C es ρ S = some (ds, S)) (k : C.cl f ds S = r) : evE C (.call f es) ρ S = r := by simp only [evE, h, k]
end
theorem eqv_str (x y : Str) : PyData.eqv (.str x) (.str y) = decide (x = y) := by
  unfold PyData.eqv
  by_cases h : x = y <;> simp [h]
theorem cop_eq_str {x y : Str} (hx : shp (.str x) = true) (hy : shp (.str y) = true) : cop .eq (.str x) (.str y) = some (decide (x = y)) := by
  have h : (shp (.str x) && shp (.str y)) = true := by rw [hx, hy]; rfl
  simp only [cop, h, if_true, eqv_str]
theorem isIn_two (c u w : Nat) : cop .isIn (.int c) (.tuple [.int u, .int w]) = some (decide (u = c ∨ w = c)) := by
  have h1 : (shp (.int (c : Int)) && shp (.tuple [.int (u : Int), .int (w : Int)])) = true := rfl
  simp only [cop, dIn, h1, if_true, List.any_cons, List.any_nil, eqv_int, Bool.or_false]
  congr 1
  by_cases h1 : u = c <;> by_cases h2 : w = c <;> simp [h1, h2] <;> omega
theorem cop_ne_nat (x y : Nat) : cop .ne (.int x) (.int y) = some (decide (x ≠ y)) := by
  rw [cop_ne_int]
  congr 1
  by_cases h : x = y <;> simp [h] <;> omega
def moveD (kind : Str) (v : Nat) (c : Int) : D := .tuple [.str kind, .int v, .int c]
abbrev sTurn : Str := "turn"
abbrev sScale : Str := "scale"
def condM (kind : Str) (v u w : Nat) : Bool := (decide (kind = sTurn) && (decide (u ≠ w) && (decide (u ≠ v) && decide (w ≠ v)))) || (decide (kind = sScale) && (decide (u ≠ w) && decide (u = v ∨ w = v)))
def gM (kind : Str) (c p : Int) (row : Nat → Int) (u w : Nat) (x : Int) : Int := if kind = sTurn then (x + c * row u * row w) % p else (x * c) % p
def mvM (kind : Str) (v : Nat) (c p : Int) (M : Mat) : Mat := fun a b => if condM kind v a b = true then gM kind c p (M v) a b (M a b) else M a b
theorem shp_turn : shp (.str sTurn) = true := by decide +kernel
theorem shp_scale : shp (.str sScale) = true := by decide +kernel
theorem turn_scale : sTurn ≠ sScale := by decide +kernel
theorem bop_mul {x y : Int} (h : -(2 ^ 64) < y ∧ y < 2 ^ 64) : bop .mul (.int x) (.int y) = some (.int (x * y)) := by
  simp only [bop]
  rw [if_pos]
  unfold mulOk
  simp only [h.1, h.2, decide_true, Bool.and_self, Bool.or_true]
theorem bop_mod {x y : Int} (h : 0 < y) : bop .mod (.int x) (.int y) = some (.int (x % y)) := by
  simp only [bop]
  rw [if_pos h]
end TW
set_option maxRecDepth 20000
namespace TW
open PySem PySem.Spec L2
abbrev aT1 : Ex := .and (.cmp .eq (.var 8) (.str "turn")) (.and (.cmp .ne (.var 4) (.var 11)) (.and (.cmp .ne (.var 4) (.var 9)) (.one (.cmp .ne (.var 11) (.var 9)))))
abbrev aT2 : Ex := .and (.cmp .eq (.var 8) (.str "scale")) (.and (.cmp .ne (.var 4) (.var 11)) (.one (.cmp .isIn (.var 9) (.tup (.cons (.var 4) (.cons (.var 11) .nil))))))
abbrev aCell : Ex := .ix (.ix (.var 2) (.var 4)) (.var 11)
abbrev aV1 : Ex := .bin .mod (.b1 .int (.bin .add aCell (.bin .mul (.bin .mul (.var 10) (.ix (.var 3) (.var 4))) (.ix (.var 3) (.var 11))))) (.var 5)
abbrev aV2 : Ex := .bin .mod (.b1 .int (.bin .mul aCell (.var 10))) (.var 5)
abbrev aBody : Sts := .cons (.ife aT1 (.cons (.set2 2 (.var 4) (.var 11) aV1) .nil) .nil) (.cons (.ife aT2 (.cons (.set2 2 (.var 4) (.var 11) aV2) .nil) .nil) .nil)
def envM (p c : Int) (n v : Nat) (kind : Str) (web move ties : D) (M F : Mat) (x y : Option D) : DEnv :=
  [some web, some move, some (.list (tabL n F)), some (.list (rowL n (M v))), x, some (.int p), some (.int n), some ties, some (.str kind), some (.int v), some (.int c), y]
section
variable {C : Ctx} {S : Src} {p c : Int} {n v u w : Nat} {kind : Str} {web move ties : D} {M F : Mat}
theorem ev_cell (hu : u < n) (hw : w < n) : evE C aCell (envM p c n v kind web move ties M F (some (.int u)) (some (.int w))) S = some (.int (F u w), S) :=
  ev_ix (ev_ix (ev_var (i := 2) rfl) (ev_var (i := 4) rfl) (tab_at hu)) (ev_var (i := 11) rfl) (row_at hw)
theorem ev_T1 (hk : shp (.str kind) = true) : evE C aT1 (envM p c n v kind web move ties M F (some (.int u)) (some (.int w))) S = some (.bool (decide (kind = sTurn) && (decide (u ≠ w) && (decide (u ≠ v) && decide (w ≠ v)))), S) :=
  ev_and (ev_cmp (ev_var (i := 8) rfl) rfl (cop_eq_str hk shp_turn)) (ev_and (ev_cmp (ev_var (i := 4) rfl) (ev_var (i := 11) rfl) (cop_ne_nat u w)) (ev_and (ev_cmp (ev_var (i := 4) rfl) (ev_var (i := 9) rfl) (cop_ne_nat u v)) (ev_one (ev_cmp (ev_var (i := 11) rfl) (ev_var (i := 9) rfl) (cop_ne_nat w v)))))
theorem ev_T2 (hk : shp (.str kind) = true) : evE C aT2 (envM p c n v kind web move ties M F (some (.int u)) (some (.int w))) S = some (.bool (decide (kind = sScale) && (decide (u ≠ w) && decide (u = v ∨ w = v))), S) :=
  ev_and (ev_cmp (ev_var (i := 8) rfl) rfl (cop_eq_str hk shp_scale)) (ev_and (ev_cmp (ev_var (i := 4) rfl) (ev_var (i := 11) rfl) (cop_ne_nat u w)) (ev_one (ev_cmp (ev_var (i := 9) rfl) (ev_tup2 (ev_var (i := 4) rfl) (ev_var (i := 11) rfl)) (isIn_two v u w))))
theorem small {x : Int} (h : 0 ≤ x ∧ x < 1000) : -(2 ^ 64) < x ∧ x < 2 ^ 64 := by omega
theorem ev_V1 (hp : 0 < p) (hM : ∀ a b, 0 ≤ M a b ∧ M a b < 1000) (hu : u < n) (hw : w < n) : evE C aV1 (envM p c n v kind web move ties M F (some (.int u)) (some (.int w))) S = some (.int ((F u w + c * M v u * M v w) % p), S) :=
  ev_bin (ev_int1 (ev_bin (ev_cell hu hw) (ev_bin (ev_bin (ev_var (i := 10) rfl) (ev_ix (ev_var (i := 3) rfl) (ev_var (i := 4) rfl) (row_at hu)) (bop_mul (small (hM v u)))) (ev_ix (ev_var (i := 3) rfl) (ev_var (i := 11) rfl) (row_at hw)) (bop_mul (small (hM v w)))) rfl)) (ev_var (i := 5) rfl) (bop_mod hp)
theorem ev_V2 (hp : 0 < p) (hc : 0 ≤ c ∧ c < 1000) (hu : u < n) (hw : w < n) : evE C aV2 (envM p c n v kind web move ties M F (some (.int u)) (some (.int w))) S = some (.int ((F u w * c) % p), S) :=
  ev_bin (ev_int1 (ev_bin (ev_cell hu hw) (ev_var (i := 10) rfl) (bop_mul (small hc)))) (ev_var (i := 5) rfl) (bop_mod hp)
/-- one cell -/
theorem ev_body (hk : kind = sTurn ∨ kind = sScale) (hp : 0 < p) (hc : 0 ≤ c ∧ c < 1000) (hM : ∀ a b, 0 ≤ M a b ∧ M a b < 1000) (hu : u < n) (hw : w < n) :
    evSs C aBody (envM p c n v kind web move ties M F (some (.int u)) (some (.int w))) S = some (.nx, envM p c n v kind web move ties M (if condM kind v u w then put2 F u w (gM kind c p (M v) u w (F u w)) else F) (some (.int u)) (some (.int w)), S) := by
  have hs : shp (.str kind) = true := by rcases hk with rfl | rfl; exact shp_turn; exact shp_scale
  have nil : ∀ ρ, evSs C .nil ρ S = some (.nx, ρ, S) := fun ρ => by simp only [evSs]
  rcases hk with rfl | rfl
  · have c2 : ∀ F', evE C aT2 (envM p c n v sTurn web move ties M F' (some (.int u)) (some (.int w))) S = some (.bool false, S) := fun F' => by
      rw [ev_T2 shp_turn, decide_eq_false turn_scale, Bool.false_and]
    have ec : condM sTurn v u w = (decide (u ≠ w) && (decide (u ≠ v) && decide (w ≠ v))) := by
      unfold condM
      rw [decide_eq_true rfl, decide_eq_false turn_scale, Bool.true_and, Bool.false_and, Bool.or_false]
    have c1 := ev_T1 (C := C) (S := S) (p := p) (c := c) (n := n) (v := v) (u := u) (w := w) (web := web) (move := move) (ties := ties) (M := M) (F := F) shp_turn
    rw [decide_eq_true rfl, Bool.true_and, ← ec] at c1
    cases h : condM sTurn v u w with
    | true =>
      rw [h] at c1
      have e1 := (ev_ifT (tt := .nil) c1).trans ((seq_nx (ss := .nil) (ev_set2 (i := 2) (u := u) (v := w) (n := n) (F := F) (ev_V1 hp hM hu hw) (ev_var (i := 4) rfl) (ev_var (i := 11) rfl) rfl hu hw)).trans (nil _))
      have eg : gM sTurn c p (M v) u w (F u w) = (F u w + c * M v u * M v w) % p := if_pos rfl
      rw [if_pos rfl, eg]
      exact (seq_nx e1).trans ((seq_nx ((ev_ifF (c2 _)).trans (nil _))).trans (nil _))
    | false =>
      rw [h] at c1
      rw [if_neg Bool.false_ne_true]
      exact (seq_nx ((ev_ifF c1).trans (nil _))).trans ((seq_nx ((ev_ifF (c2 _)).trans (nil _))).trans (nil _))
  · have c1 : evE C aT1 (envM p c n v sScale web move ties M F (some (.int u)) (some (.int w))) S = some (.bool false, S) := by
      rw [ev_T1 shp_scale, decide_eq_false (Ne.symm turn_scale), Bool.false_and]
    have ec : condM sScale v u w = (decide (u ≠ w) && decide (u = v ∨ w = v)) := by
      unfold condM
      rw [decide_eq_false (Ne.symm turn_scale), decide_eq_true rfl, Bool.false_and, Bool.false_or, Bool.true_and]
    have c2 := ev_T2 (C := C) (S := S) (p := p) (c := c) (n := n) (v := v) (u := u) (w := w) (web := web) (move := move) (ties := ties) (M := M) (F := F) shp_scale
    rw [decide_eq_true rfl, Bool.true_and, ← ec] at c2
    have s1 : evS C (.ife aT1 (.cons (.set2 2 (.var 4) (.var 11) aV1) .nil) .nil) (envM p c n v sScale web move ties M F (some (.int u)) (some (.int w))) S = some (.nx, envM p c n v sScale web move ties M F (some (.int u)) (some (.int w)), S) := (ev_ifF c1).trans (nil _)
    cases h : condM sScale v u w with
    | true =>
      rw [h] at c2
      have e1 := (ev_ifT (tt := .nil) c2).trans ((seq_nx (ss := .nil) (ev_set2 (i := 2) (u := u) (v := w) (n := n) (F := F) (ev_V2 hp hc hu hw) (ev_var (i := 4) rfl) (ev_var (i := 11) rfl) rfl hu hw)).trans (nil _))
      have eg : gM sScale c p (M v) u w (F u w) = (F u w * c) % p := if_neg (Ne.symm turn_scale)
      rw [if_pos rfl, eg]
      exact (seq_nx s1).trans ((seq_nx e1).trans (nil _))
    | false =>
      rw [h] at c2
      rw [if_neg Bool.false_ne_true]
      exact (seq_nx s1).trans ((seq_nx ((ev_ifF c2).trans (nil _))).trans (nil _))
end
end TW
set_option maxRecDepth 20000
namespace TW
open PySem PySem.Spec L2
theorem ev_rng {C : Ctx} {i n : Nat} {ρ : DEnv} {S : Src} (hn : n ≤ 1000) (h : ρ[i]? = some (some (.int n))) : evI C (.rng1 (.var i)) ρ S = some (natD n, S) := by
  have hr : rngOk (n : Int) = true := by unfold rngOk; simp; omega
  have hl : decide ((n : Int).toNat ≤ LINE) = true := by simp [LINE]; omega
  simp only [evI, evE, h, hr, hl, Bool.and_self, if_true]
  rw [Int.toNat_natCast, rangeD_nat]
section
variable {C : Ctx} {S : Src} {p c : Int} {n v : Nat} {kind : Str} {web move ties : D} {M : Mat}
theorem ev_rowLoop {u : Nat} {F : Mat} {y0 : Option D} (hn : n ≤ 1000) (hk : kind = sTurn ∨ kind = sScale) (hp : 0 < p) (hc : 0 ≤ c ∧ c < 1000) (hM : ∀ a b, 0 ≤ M a b ∧ M a b < 1000) (hu : u < n) :
    ∃ y, evSs C (.cons (.loop (.nm 11) (.rng1 (.var 6)) aBody) .nil) (envM p c n v kind web move ties M F (some (.int u)) y0) S = some (.nx, envM p c n v kind web move ties M (chg (condM kind v) (gM kind c p (M v)) ((List.range n).map fun w => (u, w)) F) (some (.int u)) y, S) := by
  obtain ⟨ρ3, h3, y, rfl⟩ := forGo_fold (S := S) (tg := .nm 11) (b := fun ρ S => evSs C aBody ρ S) (fun w : Nat => PyData.int (w : Int)) (fun (F : Mat) ρ => ∃ y, ρ = envM p c n v kind web move ties M F (some (.int u)) y)
    (fun F w => if condM kind v u w then put2 F u w (gM kind c p (M v) u w (F u w)) else F) (List.range n) F (envM p c n v kind web move ties M F (some (.int u)) y0) ⟨y0, rfl⟩ (by
      rintro F w hw ρ ⟨y, rfl⟩
      exact ⟨envM p c n v kind web move ties M F (some (.int u)) (some (.int w)), _, rfl, ev_body hk hp hc hM hu (List.mem_range.mp hw), some (.int w), rfl⟩)
  refine ⟨y, (seq_nx (ev_loop (ev_rng hn (i := 6) rfl) h3)).trans ?_⟩
  have e : chg (condM kind v) (gM kind c p (M v)) ((List.range n).map fun w => (u, w)) F = (List.range n).foldl (fun F w => if condM kind v u w then put2 F u w (gM kind c p (M v) u w (F u w)) else F) F := by
    unfold chg
    rw [List.foldl_map]
  rw [e]
  simp only [evSs]
theorem m_law_moved {iT iW : Nat} {body : Sts} (hb : body = .cons (.asg (.tp [5, 6, 7]) (.var 0)) (.cons (.asg (.tp [8, 9, 10]) (.var 1)) (.cons (.asg (.nm 2) (.call iT (.cons (.var 0) .nil))) (.cons (.asg (.nm 3) (.b1 .list (.ix (.var 2) (.var 9))))
      (.cons (.loop (.nm 4) (.rng1 (.var 6)) (.cons (.loop (.nm 11) (.rng1 (.var 6)) aBody) .nil)) (.cons (.ret (.call iW (.cons (.var 5) (.cons (.var 2) .nil)))) .nil))))))
    (hn : n ≤ 1000) (hk : kind = sTurn ∨ kind = sScale) (hp : 0 < p) (hc : 0 ≤ c ∧ c < 1000) (hM : ∀ a b, 0 ≤ M a b ∧ M a b < 1000) (hv : v < n)
    (hT : C.cl iT [webD p n M] S = some (.list (tabL n M), S)) (hW : ∀ M', C.cl iW [.int p, .list (tabL n M')] S = some (webD p n M', S)) :
    outS (evSs C body ([some (webD p n M), some (moveD kind v c)] ++ List.replicate 10 none) S) = some (webD p n (mvM kind v c p M), S) := by
  subst hb
  have h1 : evS C (.asg (.tp [5, 6, 7]) (.var 0)) ([some (webD p n M), some (moveD kind v c)] ++ List.replicate 10 none) S = some (.nx, [some (webD p n M), some (moveD kind v c), none, none, none, some (.int p), some (.int n), some (.tuple (tiesD M (tiesP n M))), none, none, none, none], S) := rfl
  have h2 : evS C (.asg (.tp [8, 9, 10]) (.var 1)) [some (webD p n M), some (moveD kind v c), none, none, none, some (.int p), some (.int n), some (.tuple (tiesD M (tiesP n M))), none, none, none, none] S =
      some (.nx, [some (webD p n M), some (moveD kind v c), none, none, none, some (.int p), some (.int n), some (.tuple (tiesD M (tiesP n M))), some (.str kind), some (.int v), some (.int c), none], S) := rfl
  have ea : ∀ ρ : DEnv, ρ[0]? = some (some (webD p n M)) → evs C (.cons (.var 0) .nil) ρ S = some ([webD p n M], S) := fun ρ h => by simp only [evs, evE, h]
  have h3 := ev_asg (C := C) (i := 2) (ρ := [some (webD p n M), some (moveD kind v c), none, none, none, some (.int p), some (.int n), some (.tuple (tiesD M (tiesP n M))), some (.str kind), some (.int v), some (.int c), none]) (ev_callE (f := iT) (ea _ rfl) hT)
  simp only [List.set_cons_succ, List.set_cons_zero] at h3
  have h4 := ev_asg (C := C) (S := S) (i := 3) (ρ := [some (webD p n M), some (moveD kind v c), some (.list (tabL n M)), none, none, some (.int p), some (.int n), some (.tuple (tiesD M (tiesP n M))), some (.str kind), some (.int v), some (.int c), none]) (ev_list1 (ev_ix (ev_var (i := 2) rfl) (ev_var (i := 9) rfl) (tab_at hv)))
  simp only [List.set_cons_succ, List.set_cons_zero] at h4
  obtain ⟨ρ5, h5, x, y, rfl⟩ := forGo_fold (S := S) (tg := .nm 4) (b := fun ρ S => evSs C (.cons (.loop (.nm 11) (.rng1 (.var 6)) aBody) .nil) ρ S) (fun u : Nat => PyData.int (u : Int))
    (fun (F : Mat) ρ => ∃ x y, ρ = envM p c n v kind (webD p n M) (moveD kind v c) (.tuple (tiesD M (tiesP n M))) M F x y) (fun F u => chg (condM kind v) (gM kind c p (M v)) ((List.range n).map fun w => (u, w)) F) (List.range n) M
    (envM p c n v kind (webD p n M) (moveD kind v c) (.tuple (tiesD M (tiesP n M))) M M none none) ⟨none, none, rfl⟩ (by
      rintro F u hu ρ ⟨x, y, rfl⟩
      obtain ⟨y', h⟩ := ev_rowLoop (C := C) (S := S) (v := v) (web := webD p n M) (move := moveD kind v c) (ties := .tuple (tiesD M (tiesP n M))) (F := F) (y0 := y) hn hk hp hc hM (List.mem_range.mp hu)
      exact ⟨envM p c n v kind (webD p n M) (moveD kind v c) (.tuple (tiesD M (tiesP n M))) M F (some (.int u)) y, _, rfl, h, some (.int u), y', rfl⟩)
  rw [chg_rows] at h5
  have e6 : evE C (.call iW (.cons (.var 5) (.cons (.var 2) .nil))) (envM p c n v kind (webD p n M) (moveD kind v c) (.tuple (tiesD M (tiesP n M))) M (chg (condM kind v) (gM kind c p (M v)) (cells n) M) x y) S = some (webD p n (mvM kind v c p M), S) := by
    have et : tabL n (chg (condM kind v) (gM kind c p (M v)) (cells n) M) = tabL n (mvM kind v c p M) := chg_cells
    refine ev_callE (ds := [.int p, .list (tabL n (mvM kind v c p M))]) ?_ (hW _)
    rw [← et]
    rfl
  have r1 := (seq_nx h1).trans ((seq_nx h2).trans ((seq_nx h3).trans ((seq_nx h4).trans ((seq_nx (ev_loop (ev_rng hn (i := 6) rfl) h5)).trans (seq_rt (ss := .nil) (ev_ret e6))))))
  rw [r1]
  rfl
end
end TW
set_option maxRecDepth 20000
namespace TW
open PySem PySem.Spec L2
theorem ties_congr {n : Nat} {M F : Mat} (h : ∀ a b, a < b → b < n → (M a b ≠ 0 ↔ F a b ≠ 0)) : tiesP n M = tiesP n F := by
  unfold tiesP
  have key : ∀ l : List Nat, (∀ u ∈ l, u < n) → (l.flatMap fun u => (rowT n M u).map fun v => (u, v)) = l.flatMap fun u => (rowT n F u).map fun v => (u, v) := fun l => by
    induction l with
    | nil => intro _; rfl
    | cons u l ih =>
      intro q
      rw [List.flatMap_cons, List.flatMap_cons, ih fun x hx => q x (List.mem_cons_of_mem _ hx)]
      congr 2
      unfold rowT
      refine List.filter_congr fun b hb => ?_
      simp only [List.mem_map, List.mem_range] at hb
      obtain ⟨i, hi, rfl⟩ := hb
      have := h u (u + 1 + i) (by omega) (by omega)
      by_cases e : M u (u + 1 + i) ≠ 0
      · rw [decide_eq_true e, decide_eq_true (this.mp e)]
      · rw [decide_eq_false e, decide_eq_false fun z => e (this.mpr z)]
  exact key _ fun u hu => List.mem_range.mp hu
theorem ties_ne {n : Nat} {M : Mat} {q : Nat × Nat} (h : q ∈ tiesP n M) : q.1 ≠ q.2 := Nat.ne_of_lt (mem_ties.mp h).1
theorem cond_scale (v a b : Nat) (h : a ≠ b) : condM sScale v a b = decide (a = v ∨ b = v) := by
  unfold condM
  rw [decide_eq_false (Ne.symm turn_scale), decide_eq_true rfl, Bool.false_and, Bool.false_or, Bool.true_and, decide_eq_true h, Bool.true_and]
theorem mv_scale {v a b : Nat} {s p : Int} {M : Mat} (h : a ≠ b) : mvM sScale v s p M a b = if a = v ∨ b = v then (M a b * s) % p else M a b := by
  unfold mvM
  rw [cond_scale v a b h]
  by_cases c : a = v ∨ b = v
  · rw [if_pos (decide_eq_true c), if_pos c]
    exact if_neg (Ne.symm turn_scale)
  · rw [if_neg (by rw [decide_eq_false c]; exact Bool.false_ne_true), if_neg c]
theorem ties_scale {n v : Nat} {s p : Int} {M : Mat} (hz : ∀ a b, M a b ≠ 0 → (M a b * s) % p ≠ 0) : tiesP n (mvM sScale v s p M) = tiesP n M := by
  refine ties_congr fun a b hab _ => ?_
  rw [mv_scale (Nat.ne_of_lt hab)]
  by_cases c : a = v ∨ b = v
  · rw [if_pos c]
    constructor
    · intro h e
      rw [e] at h
      simp at h
    · exact hz a b
  · rw [if_neg c]
section
variable {C : Ctx} {S : Src} {c : Ex} {ρ : DEnv} {a b : Ex}
theorem ev_ifeE {r : Bool} {x : D} (hc : evE C c ρ S = some (.bool r, S)) (ht : r = true → evE C a ρ S = some (x, S)) (hf : r = false → evE C b ρ S = some (x, S)) : evE C (.ife c a b) ρ S = some (x, S) := by
  simp only [evE, hc]
  cases r
  · exact hf rfl
  · exact ht rfl
end
theorem m_scaled {C : Ctx} {p s : Int} {n v : Nat} {M : Mat} {S : Src} (hp : 0 < p) (hs : 0 ≤ s ∧ s < 1000) (hz : ∀ a b, M a b ≠ 0 → (M a b * s) % p ≠ 0) : outS (evSs C f_scaled.body (startE f_scaled [webD p n M, .int v, .int s]) S) = some (webD p n (mvM sScale v s p M), S) := by
  have h1 : evS C (.asg (.tp [3, 4, 5]) (.var 0)) (startE f_scaled [webD p n M, .int v, .int s]) S = some (.nx, [some (webD p n M), some (.int v), some (.int s), some (.int p), some (.int n), some (.tuple (tiesD M (tiesP n M))), none, none, none], S) := rfl
  have hL : evE C (.lc (.tup (.cons (.var 6) (.cons (.var 7) (.cons (.ife (.cmp .isIn (.var 1) (.tup (.cons (.var 6) (.cons (.var 7) .nil)))) (.bin .mod (.bin .mul (.var 8) (.var 2)) (.var 3)) (.var 8)) .nil)))) (.tp [6, 7, 8]) (.dat (.var 5)) .no [6, 7, 8])
      [some (webD p n M), some (.int v), some (.int s), some (.int p), some (.int n), some (.tuple (tiesD M (tiesP n M))), none, none, none] S = some (.list (tiesD (mvM sScale v s p M) (tiesP n (mvM sScale v s p M))), S) := by
    have hI : evI C (.dat (.var 5)) [some (webD p n M), some (.int v), some (.int s), some (.int p), some (.int n), some (.tuple (tiesD M (tiesP n M))), none, none, none] S = some ((tiesP n M).map fun q => tieD q.1 q.2 (M q.1 q.2), S) := rfl
    rw [evE, hI]
    dsimp only
    rw [lcGo_map (α := Nat × Nat) (fun q => tieD q.1 q.2 (M q.1 q.2)) (fun q => some (tieD q.1 q.2 (if q.1 = v ∨ q.2 = v then (M q.1 q.2 * s) % p else M q.1 q.2))), fm_some, ties_scale hz]
    · have em : (tiesP n M).map (fun q => tieD q.1 q.2 (if q.1 = v ∨ q.2 = v then (M q.1 q.2 * s) % p else M q.1 q.2)) = tiesD (mvM sScale v s p M) (tiesP n M) := by
        unfold tiesD
        refine List.map_congr_left fun q hq => ?_
        rw [mv_scale (ties_ne hq)]
      rw [em]
    · intro q _
      refine ⟨[some (webD p n M), some (.int v), some (.int s), some (.int p), some (.int n), some (.tuple (tiesD M (tiesP n M))), some (.int q.1), some (.int q.2), some (.int (M q.1 q.2))], rfl, rfl, fun y hy => ?_⟩
      cases hy
      refine ev_tup3 (ev_var (i := 6) rfl) (ev_var (i := 7) rfl) (ev_ifeE (r := decide (q.1 = v ∨ q.2 = v)) (ev_cmp (ev_var (i := 1) rfl) (ev_tup2 (ev_var (i := 6) rfl) (ev_var (i := 7) rfl)) (isIn_two v q.1 q.2)) (fun h => ?_) fun h => ?_)
      · rw [if_pos (of_decide_eq_true h)]
        exact ev_bin (ev_bin (ev_var (i := 8) rfl) (ev_var (i := 2) rfl) (bop_mul (small hs))) (ev_var (i := 3) rfl) (bop_mod hp)
      · rw [if_neg (of_decide_eq_false h)]
        exact ev_var (i := 8) rfl
  have e := ev_tup3 (C := C) (ev_var (i := 3) (ρ := [some (webD p n M), some (.int v), some (.int s), some (.int p), some (.int n), some (.tuple (tiesD M (tiesP n M))), none, none, none]) (S := S) rfl) (ev_var (i := 4) rfl) (ev_tuple1 hL)
  have r1 := (seq_nx (ss := .cons (.ret _) .nil) h1).trans (seq_rt (ss := .nil) (ev_ret e))
  exact (congrArg outS r1).trans rfl
end TW
set_option maxRecDepth 20000
namespace TW
open PySem PySem.Spec L2
def mvRow (p v lo : Nat) (k : Str) : List D := (List.range (p - lo)).map fun i => moveD k v ((lo + i : Nat) : Int)
def movesL (p n : Nat) : List D := (List.range n).flatMap fun v => mvRow p v 1 sTurn ++ mvRow p v 2 sScale
theorem ev_mvRow {C : Ctx} {S : Src} {ρ : DEnv} {p v lo : Nat} {k : Str} (hp : p ≤ 1000) (hlo : lo ≤ 1000) (h0 : ρ[0]? = some (some (.int p))) (h3 : ρ[3]? = some (some (.int v))) (h4 : 4 < ρ.length) :
    evE C (.lc (.tup (.cons (.str k) (.cons (.var 3) (.cons (.var 4) .nil)))) (.nm 4) (.rng2 (.int lo) (.var 0)) .no [4]) ρ S = some (.list (mvRow p v lo k), S) := by
  have r1 : rngOk (lo : Int) = true := by unfold rngOk; simp; omega
  have r2 : rngOk (p : Int) = true := by unfold rngOk; simp; omega
  have e0 : ((p : Int) - (lo : Int)).toNat = p - lo := by omega
  have r3 : decide (p - lo ≤ LINE) = true := by simp [LINE]; omega
  have hI : evI C (.rng2 (.int lo) (.var 0)) ρ S = some ((List.range (p - lo)).map fun i : Nat => .int ((lo : Int) + i), S) := by
    simp only [evI, evE, h0, r1, r2, e0, r3, Bool.and_self, if_true, rangeD_map]
  rw [evE, hI]
  dsimp only
  rw [lcGo_map (α := Nat) (fun i : Nat => PyData.int ((lo : Int) + i)) (fun i => some (moveD k v ((lo + i : Nat) : Int))), fm_some]
  · rfl
  · intro i _
    refine ⟨(wipeE ρ [4]).set 4 (some (.int ((lo : Int) + i))), rfl, rfl, fun y hy => ?_⟩
    cases hy
    have e : (((lo + i : Nat)) : Int) = (lo : Int) + i := by push_cast; rfl
    rw [e]
    refine ev_tup3 rfl (ev_var ?_) (ev_var ?_)
    · unfold wipeE wipeE
      rw [List.getElem?_set_ne (by decide), List.getElem?_set_ne (by decide)]
      exact h3
    · unfold wipeE wipeE
      rw [List.getElem?_set]
      simp [h4]
theorem mvRow_len (p v lo : Nat) (k : Str) : (mvRow p v lo k).length = p - lo := by simp [mvRow]
theorem bop_cat {xs ys : List D} (h : xs.length + ys.length ≤ LINE) : bop .add (.list xs) (.list ys) = some (.list (xs ++ ys)) := by
  simp only [bop]
  rw [if_pos h]
theorem fold_app (f : Nat → List D) : ∀ (l : List Nat) (acc : List D), l.foldl (fun acc v => acc ++ f v) acc = acc ++ l.flatMap f
  | [], acc => by simp
  | v :: l, acc => by rw [List.foldl_cons, fold_app f l, List.flatMap_cons, List.append_assoc]
theorem m_law_moves {C : Ctx} {S : Src} {p n : Nat} (hp : p ≤ 1000) (hn : n ≤ 1000) : outS (evSs C f_law_moves.body (startE f_law_moves [.int p, .int n]) S) = some (.list (movesL p n), S) := by
  have h1 : evS C (.asg (.nm 2) (.lst .nil)) (startE f_law_moves [.int p, .int n]) S = some (.nx, [some (.int p), some (.int n), some (.list []), none, none], S) := by
    refine ev_asg (d := .list []) ?_
    simp only [evE, evs]
    rw [if_pos (by simp)]
  obtain ⟨ρ3, h3, x, y, rfl, hlen⟩ := forGo_foldI (S := S) (tg := .nm 3) (b := fun ρ S => evSs C (.cons (.asg (.nm 2) (.bin .add (.bin .add (.var 2) (.lc (.tup (.cons (.str "turn") (.cons (.var 3) (.cons (.var 4) .nil)))) (.nm 4) (.rng2 (.int (1 : Nat)) (.var 0)) .no [4])) (.lc (.tup (.cons (.str "scale") (.cons (.var 3) (.cons (.var 4) .nil)))) (.nm 4) (.rng2 (.int (2 : Nat)) (.var 0)) .no [4]))) .nil) ρ S)
    (fun v : Nat => PyData.int (v : Int)) (fun k (l : List D) ρ => ∃ x y, ρ = [some (.int p), some (.int n), some (.list l), x, y] ∧ l.length ≤ k * 2000) (fun l v => l ++ (mvRow p v 1 sTurn ++ mvRow p v 2 sScale)) (List.range n) 0 [] [some (.int p), some (.int n), some (.list []), none, none] ⟨none, none, rfl, by simp⟩ (by
      rintro i l v ρ hv ⟨x, y, rfl, hlen⟩
      obtain ⟨rfl, hi⟩ := range_get' hv
      have l1 := mvRow_len p v 1 sTurn
      have l2 := mvRow_len p v 2 sScale
      have b1 : l.length + (mvRow p v 1 sTurn).length ≤ LINE := Nat.le_trans (show _ ≤ 3000000 by omega) (by decide)
      have b2 : (l ++ mvRow p v 1 sTurn).length + (mvRow p v 2 sScale).length ≤ LINE := Nat.le_trans (show _ ≤ 3000000 by rw [List.length_append]; omega) (by decide)
      refine ⟨[some (.int p), some (.int n), some (.list l), some (.int v), y], [some (.int p), some (.int n), some (.list (l ++ (mvRow p v 1 sTurn ++ mvRow p v 2 sScale))), some (.int v), y], rfl, ?_, some (.int v), y, rfl, ?_⟩
      · have e1 := ev_mvRow (C := C) (S := S) (ρ := [some (.int p), some (.int n), some (.list l), some (.int v), y]) (p := p) (v := v) (lo := 1) (k := sTurn) hp (by omega) rfl rfl (by simp)
        have e2 := ev_mvRow (C := C) (S := S) (ρ := [some (.int p), some (.int n), some (.list l), some (.int v), y]) (p := p) (v := v) (lo := 2) (k := sScale) hp (by omega) rfl rfl (by simp)
        have e3 := ev_asg (i := 2) (ev_bin (ev_bin (ev_var (i := 2) rfl) e1 (bop_cat b1)) e2 (bop_cat b2))
        rw [List.append_assoc] at e3
        exact (seq_nx e3).trans (by simp only [evSs]; rfl)
      · rw [List.length_append, List.length_append, l1, l2]
        omega)
  rw [fold_app, List.nil_append] at h3
  have r1 := (seq_nx h1).trans ((seq_nx (ev_loop (ev_rng hn (i := 1) rfl) h3)).trans (seq_rt (ss := .nil) (ev_ret (ev_var (i := 2) rfl))))
  exact (congrArg outS r1).trans rfl
end TW
set_option maxRecDepth 20000
namespace TW
open PySem PySem.Spec L2
/-- moved: one of the two -/
theorem m_moved {C : Ctx} {S : Src} {p c : Int} {n v iT iS : Nat} {kind : Str} {M : Mat} {body : Sts}
    (hb : body = .cons (.asg (.tp [2, 3, 4]) (.var 1)) (.cons (.ret (.ife (.cmp .eq (.var 2) (.str "turn")) (.call iT (.cons (.var 0) (.cons (.var 3) (.cons (.var 4) .nil)))) (.call iS (.cons (.var 0) (.cons (.var 3) (.cons (.var 4) .nil)))))) .nil))
    (hk : kind = sTurn ∨ kind = sScale) (hT : kind = sTurn → C.cl iT [webD p n M, .int v, .int c] S = some (webD p n (mvM kind v c p M), S)) (hS : kind = sScale → C.cl iS [webD p n M, .int v, .int c] S = some (webD p n (mvM kind v c p M), S)) :
    outS (evSs C body ([some (webD p n M), some (moveD kind v c)] ++ List.replicate 3 none) S) = some (webD p n (mvM kind v c p M), S) := by
  subst hb
  have h1 : evS C (.asg (.tp [2, 3, 4]) (.var 1)) ([some (webD p n M), some (moveD kind v c)] ++ List.replicate 3 none) S = some (.nx, [some (webD p n M), some (moveD kind v c), some (.str kind), some (.int v), some (.int c)], S) := rfl
  have hs : shp (.str kind) = true := by rcases hk with rfl | rfl; exact shp_turn; exact shp_scale
  have ea : evs C (.cons (.var 0) (.cons (.var 3) (.cons (.var 4) .nil))) [some (webD p n M), some (moveD kind v c), some (.str kind), some (.int v), some (.int c)] S = some ([webD p n M, .int v, .int c], S) := by
    have e0 := ev_var (C := C) (S := S) (i := 0) (ρ := [some (webD p n M), some (moveD kind v c), some (.str kind), some (.int v), some (.int c)]) rfl
    have e3 := ev_var (C := C) (S := S) (i := 3) (ρ := [some (webD p n M), some (moveD kind v c), some (.str kind), some (.int v), some (.int c)]) rfl
    have e4 := ev_var (C := C) (S := S) (i := 4) (ρ := [some (webD p n M), some (moveD kind v c), some (.str kind), some (.int v), some (.int c)]) rfl
    simp only [evs, e0, e3, e4]
  have e := ev_ifeE (C := C) (S := S) (r := decide (kind = sTurn)) (x := webD p n (mvM kind v c p M)) (ev_cmp (ev_var (i := 2) (ρ := [some (webD p n M), some (moveD kind v c), some (.str kind), some (.int v), some (.int c)]) rfl) (show evE C (.str "turn") _ S = some (.str sTurn, S) from rfl) (cop_eq_str hs shp_turn))
    (fun h => ev_callE (f := iT) ea (hT (of_decide_eq_true h))) (fun h => ev_callE (f := iS) ea (hS (hk.resolve_left (of_decide_eq_false h))))
  exact (congrArg outS ((seq_nx h1).trans (seq_rt (ss := .nil) (ev_ret e)))).trans rfl
/-- the rows tied to v -/
def nearP (n : Nat) (M : Mat) (v : Nat) : List Nat := (List.range n).filter fun a => M v a ≠ 0
end TW
set_option maxRecDepth 20000
namespace TW
open PySem PySem.Spec L2
def nearD (n : Nat) (M : Mat) (v : Nat) : List D := (nearP n M v).map fun a : Nat => PyData.tuple [.int (a : Int), .int (M v a)]
abbrev tV : Ex := .bin .mod (.bin .add (.ix (.ix (.var 3) (.var 5)) (.var 7)) (.bin .mul (.bin .mul (.var 2) (.var 6)) (.var 8))) (.ix (.var 0) (.int 0))
abbrev tBody : Sts := .cons (.ife (.cmp .ne (.var 5) (.var 7)) (.cons (.set2 3 (.var 5) (.var 7) tV) .nil) .nil) .nil
def envT (p c : Int) (n v : Nat) (M F : Mat) (u o x t r : Option D) : DEnv := [some (webD p n M), some (.int v), some (.int c), some (.list (tabL n F)), some (.list (nearD n M v)), u, o, x, t, r]
section
variable {C : Ctx} {S : Src} {p c : Int} {n v a b : Nat} {M F : Mat} {r : Option D}
theorem mem_near : a ∈ nearP n M v ↔ a < n ∧ M v a ≠ 0 := by simp [nearP]
theorem ev_tBody (hp : 0 < p) (hM : ∀ a b, 0 ≤ M a b ∧ M a b < 1000) (ha : a < n) (hb : b < n) :
    evSs C tBody (envT p c n v M F (some (.int a)) (some (.int (M v a))) (some (.int b)) (some (.int (M v b))) r) S = some (.nx, envT p c n v M (if decide (a ≠ b) then put2 F a b ((F a b + c * M v a * M v b) % p) else F) (some (.int a)) (some (.int (M v a))) (some (.int b)) (some (.int (M v b))) r, S) := by
  have nil : ∀ ρ, evSs C .nil ρ S = some (.nx, ρ, S) := fun ρ => by simp only [evSs]
  have hc := ev_cmp (C := C) (S := S) (ev_var (i := 5) (ρ := envT p c n v M F (some (.int a)) (some (.int (M v a))) (some (.int b)) (some (.int (M v b))) r) rfl) (ev_var (i := 7) rfl) (cop_ne_nat a b)
  cases h : decide (a ≠ b) with
  | true =>
    rw [h] at hc
    have hv : evE C tV (envT p c n v M F (some (.int a)) (some (.int (M v a))) (some (.int b)) (some (.int (M v b))) r) S = some (.int ((F a b + c * M v a * M v b) % p), S) :=
      ev_bin (ev_bin (ev_ix (ev_ix (ev_var (i := 3) rfl) (ev_var (i := 5) rfl) (tab_at ha)) (ev_var (i := 7) rfl) (row_at hb)) (ev_bin (ev_bin (ev_var (i := 2) rfl) (ev_var (i := 6) rfl) (bop_mul (small (hM v a)))) (ev_var (i := 8) rfl) (bop_mul (small (hM v b)))) rfl)
        (ev_ix (ev_var (i := 0) rfl) (show evE C (.int 0) _ S = some (.int 0, S) from rfl) (show dIx (webD p n M) (.int 0) = some (.int p) from rfl)) (bop_mod hp)
    have e1 := (ev_ifT (tt := .nil) hc).trans ((seq_nx (ss := .nil) (ev_set2 (i := 3) (u := a) (v := b) (n := n) (F := F) hv (ev_var (i := 5) rfl) (ev_var (i := 7) rfl) rfl ha hb)).trans (nil _))
    rw [if_pos rfl]
    exact (seq_nx e1).trans (nil _)
  | false =>
    rw [h] at hc
    rw [if_neg Bool.false_ne_true]
    exact (seq_nx ((ev_ifF hc).trans (nil _))).trans (nil _)
theorem ev_tRow {x0 t0 : Option D} (hp : 0 < p) (hM : ∀ a b, 0 ≤ M a b ∧ M a b < 1000) (ha : a < n) :
    ∃ x t, evSs C (.cons (.loop (.tp [7, 8]) (.dat (.var 4)) tBody) .nil) (envT p c n v M F (some (.int a)) (some (.int (M v a))) x0 t0 r) S =
      some (.nx, envT p c n v M (chg (fun a b => decide (a ≠ b)) (fun a b y => (y + c * M v a * M v b) % p) ((nearP n M v).map fun b => (a, b)) F) (some (.int a)) (some (.int (M v a))) x t r, S) := by
  obtain ⟨ρ3, h3, x, t, rfl⟩ := forGo_fold (S := S) (tg := .tp [7, 8]) (b := fun ρ S => evSs C tBody ρ S) (fun b : Nat => PyData.tuple [.int b, .int (M v b)]) (fun (F : Mat) ρ => ∃ x t, ρ = envT p c n v M F (some (.int a)) (some (.int (M v a))) x t r)
    (fun F b => if decide (a ≠ b) then put2 F a b ((F a b + c * M v a * M v b) % p) else F) (nearP n M v) F (envT p c n v M F (some (.int a)) (some (.int (M v a))) x0 t0 r) ⟨x0, t0, rfl⟩ (by
      rintro F b hb ρ ⟨x, t, rfl⟩
      exact ⟨envT p c n v M F (some (.int a)) (some (.int (M v a))) (some (.int b)) (some (.int (M v b))) r, _, rfl, ev_tBody hp hM ha (mem_near.mp hb).1, some (.int b), some (.int (M v b)), rfl⟩)
  have hI : evI C (.dat (.var 4)) (envT p c n v M F (some (.int a)) (some (.int (M v a))) x0 t0 r) S = some ((nearP n M v).map fun b => .tuple [.int b, .int (M v b)], S) := rfl
  refine ⟨x, t, (seq_nx (ev_loop hI h3)).trans ?_⟩
  have e : chg (fun a b => decide (a ≠ b)) (fun a b y => (y + c * M v a * M v b) % p) ((nearP n M v).map fun b => (a, b)) F = (nearP n M v).foldl (fun F b => if decide (a ≠ b) then put2 F a b ((F a b + c * M v a * M v b) % p) else F) F := by
    unfold chg
    rw [List.foldl_map]
  rw [e]
  simp only [evSs]
end
end TW
set_option maxRecDepth 20000
namespace TW
open PySem PySem.Spec L2
theorem chg_rowsL {cond : Nat → Nat → Bool} {g : Nat → Nat → Int → Int} (L : List Nat) : ∀ (l : List Nat) (F : Mat), l.foldl (fun F u => chg cond g (L.map fun w => (u, w)) F) F = chg cond g (l.flatMap fun u => L.map fun w => (u, w)) F
  | [], F => rfl
  | u :: l, F => by
    rw [List.foldl_cons, chg_rowsL L l, List.flatMap_cons]
    unfold chg
    rw [List.foldl_append]
theorem nodup_prod {L : List Nat} (hL : L.Nodup) : ∀ l : List Nat, l.Nodup → (l.flatMap fun u => L.map fun w => (u, w)).Nodup := fun l => by
  induction l with
  | nil => intro _; exact List.nodup_nil
  | cons u l ih =>
    intro h
    obtain ⟨h1, h2⟩ := List.nodup_cons.mp h
    rw [List.flatMap_cons]
    refine List.nodup_append.mpr ⟨?_, ih h2, fun x hx y hy e => ?_⟩
    · exact List.Pairwise.map _ (fun a b (hab : a ≠ b) h => hab (by simpa using h)) hL
    · subst e
      simp only [List.mem_map] at hx
      obtain ⟨w, _, rfl⟩ := hx
      simp only [List.mem_flatMap, List.mem_map, Prod.mk.injEq] at hy
      obtain ⟨u', hu', w', _, e1, _⟩ := hy
      rw [e1] at hu'
      exact h1 hu'
theorem turn_tab {n v : Nat} {c p : Int} {M : Mat} (hv0 : M v v = 0) (hM : ∀ a b, 0 ≤ M a b ∧ M a b < p) :
    tabL n (chg (fun a b => decide (a ≠ b)) (fun a b y => (y + c * M v a * M v b) % p) ((nearP n M v).flatMap fun u => (nearP n M v).map fun w => (u, w)) M) = tabL n (mvM sTurn v c p M) := by
  refine tab_ext fun a b ha hb => ?_
  have nd : (nearP n M v).Nodup := List.Pairwise.filter _ List.nodup_range
  rw [chg_get _ _ _ _ (nodup_prod nd _ nd)]
  have mem : (a, b) ∈ ((nearP n M v).flatMap fun u => (nearP n M v).map fun w => (u, w)) ↔ M v a ≠ 0 ∧ M v b ≠ 0 := by
    simp only [List.mem_flatMap, List.mem_map, Prod.mk.injEq, mem_near]
    constructor
    · rintro ⟨u, ⟨_, h1⟩, w, ⟨_, h2⟩, rfl, rfl⟩; exact ⟨h1, h2⟩
    · rintro ⟨h1, h2⟩; exact ⟨a, ⟨ha, h1⟩, b, ⟨hb, h2⟩, rfl, rfl⟩
  have ec : condM sTurn v a b = (decide (a ≠ b) && (decide (a ≠ v) && decide (b ≠ v))) := by
    unfold condM
    rw [decide_eq_true rfl, decide_eq_false turn_scale, Bool.true_and, Bool.false_and, Bool.or_false]
  have eg : gM sTurn c p (M v) a b (M a b) = (M a b + c * M v a * M v b) % p := if_pos rfl
  unfold mvM
  rw [ec, eg]
  have idm : (M a b) % p = M a b := Int.emod_eq_of_lt (hM a b).1 (hM a b).2
  by_cases h0 : M v a ≠ 0 ∧ M v b ≠ 0
  · have na : a ≠ v := fun e => h0.1 (by rw [e]; exact hv0)
    have nb : b ≠ v := fun e => h0.2 (by rw [e]; exact hv0)
    by_cases hab : a ≠ b
    · rw [if_pos ⟨mem.mpr h0, decide_eq_true hab⟩, if_pos (by simp [hab, na, nb])]
    · rw [if_neg fun h => hab (of_decide_eq_true h.2), if_neg (by simp [hab])]
  · rw [if_neg fun h => h0 (mem.mp h.1)]
    have z : c * M v a * M v b = 0 := by
      by_cases h1 : M v a = 0
      · rw [h1]; simp
      · have h2 : M v b = 0 := by
          by_cases h2 : M v b = 0
          · exact h2
          · exact absurd ⟨h1, h2⟩ h0
        rw [h2]; simp
    rw [z, Int.add_zero, idm]
    split <;> rfl
end TW
set_option maxRecDepth 20000
namespace TW
open PySem PySem.Spec L2
theorem m_turned {C : Ctx} {S : Src} {p c : Int} {n v iT iN iW : Nat} {M : Mat} {body : Sts}
    (hb : body = .cons (.par [3, 4] (.cons (.lc (.b1 .list (.var 9)) (.nm 9) (.dat (.call iT (.cons (.var 0) .nil))) .no [9]) (.cons (.call iN (.cons (.var 0) (.cons (.var 1) .nil))) .nil)))
      (.cons (.loop (.tp [5, 6]) (.dat (.var 4)) (.cons (.loop (.tp [7, 8]) (.dat (.var 4)) tBody) .nil)) (.cons (.ret (.call iW (.cons (.ix (.var 0) (.int 0)) (.cons (.var 3) .nil)))) .nil)))
    (hp : 0 < p) (hp2 : p ≤ 1000) (hM : ∀ a b, 0 ≤ M a b ∧ M a b < p) (hv0 : M v v = 0)
    (hT : C.cl iT [webD p n M] S = some (tabT n M, S)) (hN : C.cl iN [webD p n M, .int v] S = some (.list (nearD n M v), S)) (hW : ∀ M', C.cl iW [.int p, .list (tabL n M')] S = some (webD p n M', S)) :
    outS (evSs C body ([some (webD p n M), some (.int v), some (.int c)] ++ List.replicate 7 none) S) = some (webD p n (mvM sTurn v c p M), S) := by
  subst hb
  have hM' : ∀ a b, 0 ≤ M a b ∧ M a b < 1000 := fun a b => ⟨(hM a b).1, by have := (hM a b).2; omega⟩
  let ρ0 : DEnv := [some (webD p n M), some (.int v), some (.int c), none, none, none, none, none, none, none]
  have v0 := ev_var (C := C) (S := S) (i := 0) (ρ := ρ0) rfl
  have v1 := ev_var (C := C) (S := S) (i := 1) (ρ := ρ0) rfl
  have ea : evs C (.cons (.var 0) .nil) ρ0 S = some ([webD p n M], S) := by simp only [evs, v0]
  have eb : evs C (.cons (.var 0) (.cons (.var 1) .nil)) ρ0 S = some ([webD p n M, .int v], S) := by simp only [evs, v0, v1]
  have hL : evE C (.lc (.b1 .list (.var 9)) (.nm 9) (.dat (.call iT (.cons (.var 0) .nil))) .no [9]) ρ0 S = some (.list (tabL n M), S) := by
    have hI : evI C (.dat (.call iT (.cons (.var 0) .nil))) ρ0 S = some ((List.range n).map fun u : Nat => PyData.tuple (rowL n (M u)), S) := by
      have := ev_callE (f := iT) ea hT
      simp only [evI, this, tabT, itemsOf, Option.map]
    rw [evE, hI]
    dsimp only
    rw [lcGo_map (α := Nat) (fun u => PyData.tuple (rowL n (M u))) (fun u => some (.list (rowL n (M u)))), fm_some]
    · rfl
    · intro u _
      refine ⟨[some (webD p n M), some (.int v), some (.int c), none, none, none, none, none, none, some (.tuple (rowL n (M u)))], rfl, rfl, fun y hy => ?_⟩
      cases hy
      have e9 := ev_var (C := C) (S := S) (i := 9) (ρ := [some (webD p n M), some (.int v), some (.int c), none, none, none, none, none, none, some (.tuple (rowL n (M u)))]) rfl
      simp only [evE, bu1, Option.map] at e9 ⊢
      rfl
  have hN' := ev_callE (f := iN) eb hN
  have h1 : evS C (.par [3, 4] (.cons (.lc (.b1 .list (.var 9)) (.nm 9) (.dat (.call iT (.cons (.var 0) .nil))) .no [9]) (.cons (.call iN (.cons (.var 0) (.cons (.var 1) .nil))) .nil))) ρ0 S = some (.nx, envT p c n v M M none none none none none, S) := by
    simp only [evS, evs, hL, hN']
    rfl
  obtain ⟨ρ3, h3, u, o, x, t, rfl⟩ := forGo_fold (S := S) (tg := .tp [5, 6]) (b := fun ρ S => evSs C (.cons (.loop (.tp [7, 8]) (.dat (.var 4)) tBody) .nil) ρ S) (fun a : Nat => PyData.tuple [.int (a : Int), .int (M v a)])
    (fun (F : Mat) ρ => ∃ u o x t, ρ = envT p c n v M F u o x t none) (fun F a => chg (fun a b => decide (a ≠ b)) (fun a b y => (y + c * M v a * M v b) % p) ((nearP n M v).map fun b => (a, b)) F) (nearP n M v) M (envT p c n v M M none none none none none) ⟨none, none, none, none, rfl⟩ (by
      rintro F a ha ρ ⟨u, o, x, t, rfl⟩
      obtain ⟨x', t', h⟩ := ev_tRow (C := C) (S := S) (c := c) (F := F) (x0 := x) (t0 := t) (r := none) hp hM' (mem_near.mp ha).1
      exact ⟨envT p c n v M F (some (.int a)) (some (.int (M v a))) x t none, _, rfl, h, some (.int a), some (.int (M v a)), x', t', rfl⟩)
  rw [chg_rowsL] at h3
  have hI : evI C (.dat (.var 4)) (envT p c n v M M none none none none none) S = some ((nearP n M v).map fun a : Nat => PyData.tuple [.int (a : Int), .int (M v a)], S) := rfl
  have e6 : evE C (.call iW (.cons (.ix (.var 0) (.int 0)) (.cons (.var 3) .nil))) (envT p c n v M (chg (fun a b => decide (a ≠ b)) (fun a b y => (y + c * M v a * M v b) % p) ((nearP n M v).flatMap fun u => (nearP n M v).map fun w => (u, w)) M) u o x t none) S = some (webD p n (mvM sTurn v c p M), S) := by
    refine ev_callE (ds := [.int p, .list (tabL n (mvM sTurn v c p M))]) ?_ (hW _)
    rw [← turn_tab hv0 hM]
    rfl
  exact (congrArg outS ((seq_nx h1).trans ((seq_nx (ev_loop hI h3)).trans (seq_rt (ss := .nil) (ev_ret e6))))).trans rfl
end TW
set_option maxRecDepth 20000
/-! EvT: small tactics that run the evaluator. -/
namespace TW
open PySem PySem.Spec L2
section
variable {C : Ctx} {ρ ρ1 : DEnv} {S S1 S2 S3 : Src} {a b c e : Ex} {es : Exs}
theorem evs_nil' : evs C .nil ρ S = some ([], S) := by simp only [evs]
theorem evs_cons' {x : D} {xs : List D} (h1 : evE C e ρ S = some (x, S1)) (h2 : evs C es ρ S1 = some (xs, S2)) : evs C (.cons e es) ρ S = some (x :: xs, S2) := by simp only [evs, h1, h2]
theorem ev_tupG {ds : List D} (h : evs C es ρ S = some (ds, S1)) (l : ds.length ≤ LINE) : evE C (.tup es) ρ S = some (.tuple ds, S1) := by
  simp only [evE, h]
  rw [if_pos l]
theorem ev_lstG {ds : List D} (h : evs C es ρ S = some (ds, S1)) (l : ds.length ≤ LINE) : evE C (.lst es) ρ S = some (.list ds, S1) := by
  simp only [evE, h]
  rw [if_pos l]
theorem ev_callG {f : Nat} {ds : List D} {d : D} (h : evs C es ρ S = some (ds, S1)) (k : C.cl f ds S1 = some (d, S2)) : evE C (.call f es) ρ S = some (d, S2) := by simp only [evE, h, k]
theorem ev_pickG {m : Int} (h : evE C a ρ S = some (.int m, S1)) (l : m < 1073741824) : evE C (.pick a) ρ S = some (.int (drawn m S1).1, (drawn m S1).2) := by
  simp only [evE, h]
  rw [if_pos l]
theorem ev_intC {n : Int} : evE C (.int n) ρ S = some (.int n, S) := by simp only [evE]
theorem ev_strC {x : Str} : evE C (.str x) ρ S = some (.str x, S) := by simp only [evE]
theorem ev_blC {x : Bool} : evE C (.bl x) ρ S = some (.bool x, S) := by simp only [evE]
theorem ev_nonC : evE C .non ρ S = some (.none, S) := by simp only [evE]
theorem ev_cmpG {o : Co} {x y : D} {r : Bool} (ha : evE C a ρ S = some (x, S1)) (hb : evE C b ρ S1 = some (y, S2)) (h : cop o x y = some r) : evE C (.cmp o a b) ρ S = some (.bool r, S2) := by simp only [evE, ha, hb, h, Option.map]
theorem ev_ixG {x y d : D} (h1 : evE C a ρ S = some (x, S1)) (h2 : evE C b ρ S1 = some (y, S2)) (h : dIx x y = some d) : evE C (.ix a b) ρ S = some (d, S2) := by simp only [evE, h1, h2, h, Option.map]
theorem ev_b1G {f : B1} {x d : D} (h : evE C a ρ S = some (x, S1)) (k : bu1 f x = some d) : evE C (.b1 f a) ρ S = some (d, S1) := by simp only [evE, h, k, Option.map]
theorem ev_oneG {d : D} (ha : evE C a ρ S = some (d, S1)) : evE C (.one a) ρ S = some (d, S1) := by simp only [evE, ha]
theorem ev_ifeT {d : D} (h : evE C c ρ S = some (.bool true, S1)) (k : evE C a ρ S1 = some (d, S2)) : evE C (.ife c a b) ρ S = some (d, S2) := by simp only [evE, h, k]
theorem ev_ifeF {d : D} (h : evE C c ρ S = some (.bool false, S1)) (k : evE C b ρ S1 = some (d, S2)) : evE C (.ife c a b) ρ S = some (d, S2) := by simp only [evE, h, k]
theorem ev_orT (h : evE C a ρ S = some (.bool true, S1)) : evE C (.or a b) ρ S = some (.bool true, S1) := by simp only [evE, h]
theorem ev_orF {d : D} (h : evE C a ρ S = some (.bool false, S1)) (k : evE C b ρ S1 = some (d, S2)) : evE C (.or a b) ρ S = some (d, S2) := by simp only [evE, h, k]
theorem sx_asg {tg : Tg} {d : D} (h : evE C e ρ S = some (d, S1)) (k : setTg tg d ρ = some ρ1) : evS C (.asg tg e) ρ S = some (.nx, ρ1, S1) := by simp only [evS, h, k, Option.map]
theorem sx_par {is : List Nat} {ds : List D} (h : evs C es ρ S = some (ds, S1)) (k : setAll is ds ρ = some ρ1) : evS C (.par is es) ρ S = some (.nx, ρ1, S1) := by simp only [evS, h, k, Option.map]
theorem sx_app {i : Nat} {xs : List D} {d : D} (g : ρ[i]? = some (some (.list xs))) (h : evE C e ρ S = some (d, S1)) (l : xs.length < LINE) : evS C (.app i e) ρ S = some (.nx, ρ.set i (some (.list (xs ++ [d]))), S1) := by
  have g' : getL ρ i = some xs := by unfold getL; rw [g]
  simp only [evS, g', h]
  rw [if_pos l]
theorem sx_ret {d : D} (h : evE C e ρ S = some (d, S1)) : evS C (.ret e) ρ S = some (.rt d, ρ, S1) := by simp only [evS, h]
theorem sx_ifT {ss tt : Sts} {r : Ss} (hc : evE C c ρ S = some (.bool true, S1)) (h : evSs C ss ρ S1 = r) : evS C (.ife c ss tt) ρ S = r := by simp only [evS, hc, h]
theorem sx_ifF {ss tt : Sts} {r : Ss} (hc : evE C c ρ S = some (.bool false, S1)) (h : evSs C tt ρ S1 = r) : evS C (.ife c ss tt) ρ S = r := by simp only [evS, hc, h]
theorem sx_nil : evSs C .nil ρ S = some (.nx, ρ, S) := by simp only [evSs]
theorem sx_nx {s : St} {ss : Sts} {r : Ss} (h : evS C s ρ S = some (.nx, ρ1, S1)) (k : evSs C ss ρ1 S1 = r) : evSs C (.cons s ss) ρ S = r := by simp only [evSs, h, k]
theorem sx_rt {s : St} {ss : Sts} {d : D} (h : evS C s ρ S = some (.rt d, ρ1, S1)) : evSs C (.cons s ss) ρ S = some (.rt d, ρ1, S1) := by simp only [evSs, h]
theorem sx_loop {tg : Tg} {it : It} {b : Sts} {ds : List D} {r : Ss} (h : evI C it ρ S = some (ds, S1)) (k : forGo (fun ρ S => evSs C b ρ S) tg ds ρ S1 = r) : evS C (.loop tg it b) ρ S = r := by simp only [evS, h, k]
theorem ev_lcG {elt : Ex} {tg : Tg} {it : It} {cond : Oe} {own : List Nat} {ds ys : List D} (h : evI C it ρ S = some (ds, S1)) (k : lcGo (fun ρ S => evE C elt ρ S) (fun ρ S => evT C cond ρ S) tg (wipeE ρ own) ds S1 = some (ys, S2)) : evE C (.lc elt tg it cond own) ρ S = some (.list ys, S2) := by simp only [evE, h, k]
theorem it_dat {x : D} {ds : List D} (h : evE C e ρ S = some (x, S1)) (k : itemsOf x = some ds) : evI C (.dat e) ρ S = some (ds, S1) := by simp only [evI, h, k, Option.map]
theorem it_rng1 {n : Nat} (h : evE C e ρ S = some (.int n, S1)) (hn : n ≤ 1000000) : evI C (.rng1 e) ρ S = some (natD n, S1) := by
  have hr : rngOk (n : Int) = true := by unfold rngOk; simp; omega
  have hl : decide ((n : Int).toNat ≤ LINE) = true := by simp [LINE]; omega
  simp only [evI, h, hr, hl, Bool.and_self, if_true]
  rw [Int.toNat_natCast, rangeD_nat]
theorem evT_no : evT C .no ρ S = some (.bool true, S) := by simp only [evT]
theorem evT_so {r : Rs} (h : evE C e ρ S = r) : evT C (.so e) ρ S = r := by simp only [evT, h]
theorem ev_dic1 {k v : Ex} {kd vd : D} (h1 : evE C k ρ S = some (kd, S1)) (h2 : evE C v ρ S1 = some (vd, S2)) (hk : kOk kd = true) : evE C (.dic (.cons k .nil) (.cons v .nil)) ρ S = some (.dict [(kd, vd)], S2) := by
  rw [evE, h1]
  dsimp only
  rw [h2]
  dsimp only
  rw [if_pos hk]
theorem ev_dic0 : evE C (.dic .nil .nil) ρ S = some (.dict [], S) := by rw [evE]
theorem o_nx {s : St} {ss : Sts} {r : Rs} (h : evS C s ρ S = some (.nx, ρ1, S1)) (k : outS (evSs C ss ρ1 S1) = r) : outS (evSs C (.cons s ss) ρ S) = r := by rw [sx_nx h rfl]; exact k
theorem o_rt {s : St} {ss : Sts} {d : D} (h : evS C s ρ S = some (.rt d, ρ1, S1)) : outS (evSs C (.cons s ss) ρ S) = some (d, S1) := by rw [sx_rt h]; rfl
theorem out_rt {r : Ss} {d : D} {ρ' : DEnv} (h : r = some (.rt d, ρ', S)) : outS r = some (d, S) := by rw [h]; rfl
end
theorem bop_mod' {x y : Int} (h : 0 < y) : bop .mod (.int x) (.int y) = some (.int (x % y)) := bop_mod h
end TW
set_option maxRecDepth 20000
namespace TW
open PySem PySem.Spec L2
theorem isIn_two' (c u w : Nat) : cop .isIn (.int c) (.tuple [.int u, .int w]) = some (decide (u = c ∨ w = c)) := isIn_two c u w
theorem code_pair (a w : Int) : TS.code 1000 [a, w] = a * 1000 + w := by
  show a * 1000 ^ 1 + (w * 1000 ^ 0 + 0) = _
  omega
theorem sortI_id : ∀ l : List (List Int), l.Pairwise (fun x y => TS.code 1000 x ≤ TS.code 1000 y) → sortI l = l
  | [], _ => rfl
  | [x], _ => rfl
  | x :: y :: r, h => by
    have h1 := List.pairwise_cons.mp h
    rw [sortI, sortI_id (y :: r) h1.2, insI]
    have : leI x y = true := by
      unfold leI
      exact decide_eq_true (h1.1 y List.mem_cons_self)
    rw [if_pos this]
def nearI (n : Nat) (M : Mat) (v : Nat) : List (List Int) := (nearP n M v).map fun a : Nat => [(a : Int), M v a]
theorem rowInts_near (n : Nat) (M : Mat) (v : Nat) : rowInts (nearD n M v) = some (nearI n M v) := by
  unfold nearD nearI
  generalize nearP n M v = l
  induction l with
  | nil => rfl
  | cons a l ih =>
    rw [List.map_cons, List.map_cons, rowInts, ih]
    rfl
theorem ofInts_near (n : Nat) (M : Mat) (v : Nat) : (nearI n M v).map ofInts = nearD n M v := by
  unfold nearD nearI
  rw [List.map_map]
  rfl
theorem near_sorted {n : Nat} {M : Mat} {v : Nat} (hM : ∀ a b, 0 ≤ M a b ∧ M a b < 1000) : (nearI n M v).Pairwise (fun x y => TS.code 1000 x ≤ TS.code 1000 y) := by
  unfold nearI nearP
  refine List.pairwise_map.mpr ?_
  refine List.Pairwise.filter _ ?_
  refine List.Pairwise.imp ?_ List.pairwise_lt_range
  intro a b hab
  rw [code_pair, code_pair]
  have := hM v a
  have := hM v b
  omega
theorem dSort_near {n : Nat} {M : Mat} {v : Nat} (hn : n < 64) (hM : ∀ a b, 0 ≤ M a b ∧ M a b < 1000) : dSort (nearD n M v) = some (nearD n M v) := by
  unfold dSort
  rw [rowInts_near]
  dsimp only
  have hl : (nearI n M v).length < 64 := by
    unfold nearI nearP
    rw [List.length_map]
    exact Nat.lt_of_le_of_lt (List.length_filter_le _ _) (by simpa using hn)
  by_cases he : nearI n M v = []
  · have hd : nearD n M v = [] := by rw [← ofInts_near, he]; rfl
    rw [he, hd]
    rfl
  · have hr : rowsOk (((nearI n M v).head?.getD []).length) (nearI n M v) = true := by
      have hd : ((nearI n M v).head?.getD []).length = 2 := by
        cases q : nearI n M v with
        | nil => exact absurd q he
        | cons x l =>
          have : x ∈ nearI n M v := by rw [q]; exact List.mem_cons_self
          unfold nearI at this
          obtain ⟨a, _, rfl⟩ := List.mem_map.mp this
          rfl
      rw [hd]
      unfold rowsOk
      rw [Bool.and_eq_true]
      refine ⟨by decide, List.all_eq_true.mpr fun r hr => ?_⟩
      unfold nearI at hr
      obtain ⟨a, ha, rfl⟩ := List.mem_map.mp hr
      have ha' := (mem_near.mp ha).1
      have := hM v a
      simp only [List.length_cons, List.length_nil, List.all_cons, List.all_nil, Bool.and_true, Bool.and_eq_true, decide_eq_true_eq]
      refine ⟨rfl, ⟨by omega, by omega⟩, by omega, by omega⟩
    rw [if_pos (by rw [Bool.and_eq_true]; exact ⟨decide_eq_true hl, hr⟩), sortI_id _ (near_sorted hM), ofInts_near]
/-- the ties of a place, as they come -/
def nearT (v : Nat) (M : Mat) (q : Nat × Nat) : Option D := if q.1 = v then some (.tuple [.int q.2, .int (M q.1 q.2)]) else if q.2 = v then some (.tuple [.int q.1, .int (M q.1 q.2)]) else none
theorem rowT_near {n v : Nat} {M : Mat} (hs : ∀ a b, M a b = M b a) (hv : v < n) (u : Nat) (hu : u < n) :
    ((rowT n M u).map fun x => (u, x)).filterMap (nearT v M) = if u < v then (if M v u ≠ 0 then [.tuple [.int u, .int (M v u)]] else []) else if u = v then (rowT n M v).map fun x => .tuple [.int x, .int (M v x)] else [] := by
  by_cases h1 : u = v
  · subst h1
    rw [if_neg (by omega), if_pos rfl, List.filterMap_map]
    have : ∀ l : List Nat, List.filterMap (nearT u M ∘ fun x => (u, x)) l = l.map fun x : Nat => PyData.tuple [.int x, .int (M u x)] := fun l => by
      induction l with
      | nil => rfl
      | cons x l ih =>
        rw [List.filterMap_cons, List.map_cons, ih]
        simp [nearT]
    exact this _
  · have key : ∀ l : List Nat, l.Nodup → List.filterMap (nearT v M ∘ fun x => (u, x)) l = if v ∈ l then [.tuple [.int u, .int (M v u)]] else [] := fun l => by
      induction l with
      | nil => intro _; rfl
      | cons x l ih =>
        intro nd
        have nd' := List.nodup_cons.mp nd
        rw [List.filterMap_cons, ih nd'.2]
        simp only [Function.comp, nearT]
        rw [if_neg h1]
        by_cases hx : x = v
        · subst hx
          rw [if_pos rfl, if_neg nd'.1, if_pos List.mem_cons_self]
          simp only [hs u x]
        · rw [if_neg hx]
          by_cases hm : v ∈ l
          · rw [if_pos hm, if_pos (List.mem_cons_of_mem _ hm)]
          · rw [if_neg hm, if_neg]
            intro q
            rcases List.mem_cons.mp q with e | e
            · exact hx e.symm
            · exact hm e
    rw [List.filterMap_map, key]
    · have hm : v ∈ rowT n M u ↔ u < v ∧ M v u ≠ 0 := by
        unfold rowT
        simp only [List.mem_filter, List.mem_map, List.mem_range, decide_eq_true_eq, hs u v]
        constructor
        · rintro ⟨⟨i, hi, rfl⟩, h⟩; exact ⟨by omega, h⟩
        · rintro ⟨h, h'⟩; exact ⟨⟨v - (u + 1), by omega, by omega⟩, h'⟩
      by_cases h2 : u < v
      · rw [if_pos h2]
        by_cases h3 : M v u ≠ 0
        · rw [if_pos (hm.mpr ⟨h2, h3⟩), if_pos h3]
        · rw [if_neg fun q => h3 (hm.mp q).2, if_neg h3]
      · rw [if_neg h2, if_neg h1, if_neg fun q => h2 (hm.mp q).1]
    · unfold rowT
      refine List.Pairwise.filter _ ?_
      refine List.Pairwise.map _ ?_ List.nodup_range
      intro a b hab h
      exact hab (by omega)
theorem near_split {n v : Nat} {M : Mat} (hd : M v v = 0) (hv : v < n) : nearP n M v = ((List.range v).filter fun a => M v a ≠ 0) ++ rowT n M v := by
  unfold nearP rowT
  have e : List.range n = List.range v ++ (v :: (List.range (n - (v + 1))).map fun i => v + 1 + i) := by
    refine List.ext_getElem? fun i => ?_
    by_cases h1 : i < v
    · rw [List.getElem?_append_left (by simpa using h1)]
      rw [List.getElem?_range h1, List.getElem?_range (by omega)]
    · rw [List.getElem?_append_right (by simpa using h1), List.length_range]
      by_cases h2 : i = v
      · subst h2
        simp [hv]
      · have e : i - v = (i - v - 1) + 1 := by omega
        rw [e, List.getElem?_cons_succ, List.getElem?_map]
        by_cases h3 : i < n
        · rw [List.getElem?_range h3, List.getElem?_range (by omega)]
          simp; omega
        · rw [List.getElem?_eq_none (by simpa using h3), List.getElem?_eq_none (by simp; omega)]
          rfl
  rw [e, List.filter_append, List.filter_cons]
  rw [if_neg (by simp [hd])]
theorem near_all {n v : Nat} {M : Mat} (hs : ∀ a b, M a b = M b a) (hd : M v v = 0) (hv : v < n) : (tiesP n M).filterMap (nearT v M) = nearD n M v := by
  unfold nearD
  rw [near_split hd hv, List.map_append]
  unfold tiesP
  have fm : ∀ l : List Nat, (l.flatMap fun u => (rowT n M u).map fun x => (u, x)).filterMap (nearT v M) = l.flatMap fun u => ((rowT n M u).map fun x => (u, x)).filterMap (nearT v M) := fun l => by
    induction l with
    | nil => rfl
    | cons u l ih => rw [List.flatMap_cons, List.flatMap_cons, List.filterMap_append, ih]
  rw [fm]
  have e : List.range n = List.range v ++ (v :: (List.range (n - (v + 1))).map fun i => v + 1 + i) := by
    refine List.ext_getElem? fun i => ?_
    by_cases h1 : i < v
    · rw [List.getElem?_append_left (by simpa using h1)]
      rw [List.getElem?_range h1, List.getElem?_range (by omega)]
    · rw [List.getElem?_append_right (by simpa using h1), List.length_range]
      by_cases h2 : i = v
      · subst h2
        simp [hv]
      · have e : i - v = (i - v - 1) + 1 := by omega
        rw [e, List.getElem?_cons_succ, List.getElem?_map]
        by_cases h3 : i < n
        · rw [List.getElem?_range h3, List.getElem?_range (by omega)]
          simp; omega
        · rw [List.getElem?_eq_none (by simpa using h3), List.getElem?_eq_none (by simp; omega)]
          rfl
  rw [e, List.flatMap_append, List.flatMap_cons, rowT_near hs hv v hv, if_neg (by omega), if_pos rfl]
  have e1 : (List.range v).flatMap (fun u => ((rowT n M u).map fun x => (u, x)).filterMap (nearT v M)) = ((List.range v).filter fun a => M v a ≠ 0).map fun a : Nat => PyData.tuple [.int (a : Int), .int (M v a)] := by
    have : ∀ l : List Nat, (∀ u ∈ l, u < v) → l.flatMap (fun u => ((rowT n M u).map fun x => (u, x)).filterMap (nearT v M)) = (l.filter fun a => M v a ≠ 0).map fun a : Nat => PyData.tuple [.int (a : Int), .int (M v a)] := fun l => by
      induction l with
      | nil => intro _; rfl
      | cons u l ih =>
        intro h
        have hu := h u List.mem_cons_self
        rw [List.flatMap_cons, ih fun x hx => h x (List.mem_cons_of_mem _ hx), rowT_near hs hv u (by omega), if_pos hu, List.filter_cons]
        by_cases h3 : M v u ≠ 0
        · rw [if_pos h3, if_pos (decide_eq_true h3)]; rfl
        · rw [if_neg h3, if_neg (by simpa using h3)]; rfl
    exact this _ fun u hu => List.mem_range.mp hu
  have e2 : ((List.range (n - (v + 1))).map fun i => v + 1 + i).flatMap (fun u => ((rowT n M u).map fun x => (u, x)).filterMap (nearT v M)) = [] := by
    refine List.flatMap_eq_nil_iff.mpr fun u hu => ?_
    simp only [List.mem_map, List.mem_range] at hu
    obtain ⟨i, hi, rfl⟩ := hu
    rw [rowT_near hs hv _ (by omega), if_neg (by omega), if_neg (by omega)]
  rw [e1, e2, List.append_nil]
end TW
set_option maxRecDepth 20000
namespace TW
open PySem PySem.Spec L2
theorem tiesP_len (n : Nat) (M : Mat) : (tiesP n M).length ≤ n * n := by
  unfold tiesP
  have : ∀ l : List Nat, (l.flatMap fun u => (rowT n M u).map fun v => (u, v)).length ≤ l.length * n := fun l => by
    induction l with
    | nil => simp
    | cons u l ih =>
      rw [List.flatMap_cons, List.length_append, List.length_map, List.length_cons, Nat.succ_mul]
      have := row_len n M u
      omega
  have := this (List.range n)
  rwa [List.length_range] at this
theorem bu1_sorted {xs ys : List D} (h : dSort xs = some ys) : bu1 .sorted (.list xs) = some (.list ys) := by
  simp only [bu1, h, Option.map]
theorem m_tied_to {C : Ctx} {S : Src} {p : Int} {n v : Nat} {M : Mat} (hs : ∀ a b, M a b = M b a) (hd : M v v = 0) (hv : v < n) (hn : n < 64) (hM : ∀ a b, 0 ≤ M a b ∧ M a b < 1000) :
    outS (evSs C f_tied_to.body (startE f_tied_to [webD p n M, .int v]) S) = some (.list (nearD n M v), S) := by
  let E (l : List D) (x y z : Option D) : DEnv := [some (webD p n M), some (.int v), some (.list l), x, y, z]
  have h0 : ∃ ρ', forGo (fun ρ S => evSs C (.cons (.ife (.cmp .isIn (.var 1) (.tup (.cons (.var 3) (.cons (.var 4) .nil)))) (.cons (.app 2 (.tup (.cons (.ife (.cmp .eq (.var 3) (.var 1)) (.var 4) (.var 3)) (.cons (.var 5) .nil)))) .nil) .nil) .nil) ρ S) (.tp [3, 4, 5]) ((tiesP n M).map fun q => tieD q.1 q.2 (M q.1 q.2)) (E [] none none none) S = some (.nx, ρ', S) ∧
      ∃ x y z, ρ' = E ((tiesP n M).foldl (fun l q => l ++ (nearT v M q).toList) []) x y z ∧ ((tiesP n M).foldl (fun l q => l ++ (nearT v M q).toList) []).length ≤ 0 + (tiesP n M).length := by
    refine forGo_foldI (S := S) (tg := .tp [3, 4, 5]) (fun q : Nat × Nat => tieD q.1 q.2 (M q.1 q.2)) (fun k l ρ => ∃ x y z, ρ = E l x y z ∧ l.length ≤ k) (fun l q => l ++ (nearT v M q).toList) (tiesP n M) 0 [] _ ⟨none, none, none, rfl, by simp⟩ ?_
    rintro i l ⟨a, b⟩ ρ hq ⟨x, y, z, rfl, hl⟩
    have hi := (List.getElem?_eq_some_iff.mp hq).1
    have hlen := tiesP_len n M
    have hnn : n * n ≤ 64 * 64 := Nat.mul_le_mul (by omega) (by omega)
    have hab : (a, b) ∈ tiesP n M := List.mem_of_getElem? hq
    have hne := ties_ne hab
    dsimp only at hne
    have hLT : l.length < LINE := Nat.lt_of_lt_of_le (show _ < 64 * 64 + 1 by omega) (by decide)
    refine ⟨E l (some (.int a)) (some (.int b)) (some (.int (M a b))), E (l ++ (nearT v M (a, b)).toList) (some (.int a)) (some (.int b)) (some (.int (M a b))), rfl, ?_, _, _, _, rfl, ?_⟩
    · have c1 := ev_cmp (C := C) (S := S) (ev_var (i := 1) (ρ := E l (some (.int a)) (some (.int b)) (some (.int (M a b)))) rfl) (ev_tup2 (ev_var (i := 3) rfl) (ev_var (i := 4) rfl)) (isIn_two v a b)
      have c2 := ev_cmp (C := C) (S := S) (ev_var (i := 3) (ρ := E l (some (.int a)) (some (.int b)) (some (.int (M a b)))) rfl) (ev_var (i := 1) rfl) (cop_eq_int a v)
      by_cases h1 : a = v
      · rw [decide_eq_true (.inl h1)] at c1
        rw [decide_eq_true (by rw [h1])] at c2
        refine sx_nx (sx_ifT c1 (sx_nx (sx_app rfl (ev_tupG (evs_cons' (ev_ifeT c2 (ev_var rfl)) (evs_cons' (ev_var rfl) evs_nil')) (by simp [LINE])) hLT) sx_nil)) ?_
        unfold nearT
        rw [if_pos h1]
        exact sx_nil
      · rw [decide_eq_false (by omega)] at c2
        by_cases h2 : b = v
        · rw [decide_eq_true (.inr h2)] at c1
          refine sx_nx (sx_ifT c1 (sx_nx (sx_app rfl (ev_tupG (evs_cons' (ev_ifeF c2 (ev_var rfl)) (evs_cons' (ev_var rfl) evs_nil')) (by simp [LINE])) hLT) sx_nil)) ?_
          unfold nearT
          rw [if_neg h1, if_pos h2]
          exact sx_nil
        · rw [decide_eq_false (by omega)] at c1
          refine sx_nx (sx_ifF c1 sx_nil) ?_
          unfold nearT
          rw [if_neg h1, if_neg h2, Option.toList, List.append_nil]
          exact sx_nil
    · have : (nearT v M (a, b)).toList.length ≤ 1 := by cases nearT v M (a, b) <;> simp
      rw [List.length_append]
      omega
  obtain ⟨ρ', h1, x, y, z, rfl, _⟩ := h0
  have ff : ∀ (l : List (Nat × Nat)) (acc : List D), l.foldl (fun l q => l ++ (nearT v M q).toList) acc = acc ++ l.filterMap (nearT v M) := fun l => by
    induction l with
    | nil => intro acc; simp
    | cons q l ih =>
      intro acc
      rw [List.foldl_cons, ih, List.filterMap_cons]
      cases nearT v M q <;> simp
  rw [ff, List.nil_append, near_all hs hd hv] at h1
  refine out_rt (sx_nx (sx_asg (tg := .nm 2) (ev_lstG evs_nil' (by simp)) rfl) (sx_nx (sx_loop (it_dat (ev_ixG (ev_var rfl) ev_intC (d := .tuple (tiesD M (tiesP n M))) rfl) rfl) h1) (sx_rt (sx_ret (ev_b1G (ev_var rfl) (bu1_sorted (dSort_near hn hM)))))))
end TW
/-! G1: webs over a field, moves, and the theorem on a place left out (no program here). -/
namespace GW
open Lean.Grind
section
variable {K : Type} [Field K]
abbrev Wb (K : Type) := Nat → Nat → K
def tn (v : Nat) (c : K) (M : Wb K) : Wb K := fun a b => if a = b then M a b else M a b + c * M v a * M v b
def sc (v : Nat) (s : K) (M : Wb K) : Wb K := fun a b => (if a = v then s else 1) * (if b = v then s else 1) * M a b
def out (v : Nat) (M : Wb K) : Wb K := fun a b => if a = v ∨ b = v then 0 else M a b
structure Ok (n : Nat) (M : Wb K) : Prop where
  sym : ∀ a b, M a b = M b a
  dia : ∀ a, M a a = 0
  far : ∀ a b, n ≤ a → M a b = 0
inductive Reach (n : Nat) : Wb K → Wb K → Prop where
  | refl (M : Wb K) : Reach n M M
  | tn {M N : Wb K} (v : Nat) (c : K) (hv : v < n) : Reach n (tn v c M) N → Reach n M N
  | sc {M N : Wb K} (v : Nat) (s : K) (hv : v < n) (hs : s ≠ 0) : Reach n (sc v s M) N → Reach n M N
theorem Reach.trans {n : Nat} {A B C : Wb K} (h : Reach n A B) (k : Reach n B C) : Reach n A C := by
  induction h with
  | refl => exact k
  | tn v c hv _ ih => exact .tn v c hv (ih k)
  | sc v s hv hs _ ih => exact .sc v s hv hs (ih k)
theorem Ok.tn {n : Nat} {M : Wb K} (ok : Ok n M) (v : Nat) (c : K) : Ok n (tn v c M) := by
  refine ⟨fun a b => ?_, fun a => ?_, fun a b h => ?_⟩
  · unfold GW.tn
    have := ok.sym a b
    by_cases e : a = b
    · subst e; rfl
    · rw [if_neg e, if_neg (Ne.symm e)]; grind
  · unfold GW.tn; rw [if_pos rfl, ok.dia]
  · unfold GW.tn
    have h1 := ok.far a b h
    have h2 := ok.far a v h
    have h3 := ok.sym v a
    split
    · exact h1
    · grind
theorem Ok.sc {n : Nat} {M : Wb K} (ok : Ok n M) (v : Nat) (s : K) : Ok n (sc v s M) := by
  refine ⟨fun a b => ?_, fun a => ?_, fun a b h => ?_⟩
  · unfold GW.sc
    have := ok.sym a b
    grind
  · unfold GW.sc; rw [ok.dia]; grind
  · unfold GW.sc; rw [ok.far a b h]; grind
theorem Ok.out {n : Nat} {M : Wb K} (ok : Ok n M) (v : Nat) : Ok n (out v M) := by
  refine ⟨fun a b => ?_, fun a => ?_, fun a b h => ?_⟩
  · unfold GW.out
    have := ok.sym a b
    grind
  · unfold GW.out; rw [ok.dia]; grind
  · unfold GW.out; rw [ok.far a b h]; grind
theorem tn_tn {n : Nat} {M : Wb K} (ok : Ok n M) (v : Nat) (c d : K) : tn v c (tn v d M) = tn v (c + d) M := by
  funext a b
  have h := ok.dia v
  unfold tn
  grind
theorem tn_zero (M : Wb K) (v : Nat) : tn v 0 M = M := by
  funext a b
  unfold tn
  grind
theorem sc_sc (M : Wb K) (v : Nat) (s t : K) : sc v s (sc v t M) = sc v (s * t) M := by
  funext a b
  unfold sc
  grind
theorem sc_one (M : Wb K) (v : Nat) : sc v 1 M = M := by
  funext a b
  unfold sc
  grind
theorem Reach.tn1 {n : Nat} (M : Wb K) {v : Nat} (c : K) (hv : v < n) : Reach n M (GW.tn v c M) := .tn v c hv (.refl _)
theorem Reach.sc1 {n : Nat} (M : Wb K) {v : Nat} {s : K} (hv : v < n) (hs : s ≠ 0) : Reach n M (GW.sc v s M) := .sc v s hv hs (.refl _)
theorem Reach.symm {n : Nat} {A B : Wb K} (ok : Ok n A) (h : Reach n A B) : Reach n B A := by
  induction h with
  | refl => exact .refl _
  | @tn M N v c hv _ ih =>
    refine (ih (ok.tn v c)).trans ?_
    have e : GW.tn v (-c) (GW.tn v c M) = M := by
      rw [tn_tn ok, show -c + c = 0 by grind, tn_zero]
    have := Reach.tn1 (GW.tn v c M) (-c) hv
    rwa [e] at this
  | @sc M N v s hv hs _ ih =>
    refine (ih (ok.sc v s)).trans ?_
    have e : GW.sc v (s⁻¹) (GW.sc v s M) = M := by
      rw [sc_sc, show s⁻¹ * s = 1 by grind, sc_one]
    have := Reach.sc1 (GW.sc v s M) (s := s⁻¹) hv (by intro h; have : s * s⁻¹ = 1 := Field.mul_inv_cancel hs; grind)
    rwa [e] at this
theorem Reach.ok {n : Nat} {A B : Wb K} (ok : Ok n A) (h : Reach n A B) : Ok n B := by
  induction h with
  | refl => exact ok
  | tn v c hv _ ih => exact ih (ok.tn v c)
  | sc v s hv hs _ ih => exact ih (ok.sc v s)

/-- without v, by turning v by c -/
def D (v : Nat) (c : K) (M : Wb K) : Wb K := out v (tn v c M)
/-- without v, exchanged at w -/
def Q (v w : Nat) (M : Wb K) : Wb K := fun a b => if a = v ∨ b = v ∨ a = b then 0 else if a = w then M v b else if b = w then M v a else M a b - (M v a * M w b + M w a * M v b) / M v w
/-- the last line -/
def E (v w : Nat) (M : Wb K) : Wb K := out v (tn v (-(M v w * M v w)⁻¹) (tn w 1 M))
theorem Q_ok {n : Nat} {M : Wb K} (ok : Ok n M) {v w : Nat} (hv : v < n) (hw : w < n) : Ok n (Q v w M) := by
  refine ⟨fun a b => ?_, fun a => ?_, fun a b h => ?_⟩
  · unfold Q
    have := ok.sym a b
    grind
  · unfold Q; grind
  · unfold Q
    have h1 := ok.far a b h
    have h2 := ok.far a v h
    have h3 := ok.sym v a
    have h4 := ok.far a w h
    have h5 := ok.sym w a
    have h6 : a ≠ w := by omega
    rw [if_neg h6]
    have z1 : M v a = 0 := by grind
    have z2 : M w a = 0 := by grind
    rw [z1, z2, h1]
    grind
section
variable {n : Nat} {M : Wb K} {v w u : Nat}
theorem E_Q (ok : Ok n M) (vw : v ≠ w) (hw : w < n) (g0 : M v w ≠ 0) {d c : K} (hd : d ≠ 0) (hc : 1 + c * d * M v w * M v w = 0) : sc w (c * M v w) (tn w c (Q v w M)) = out v (tn v c (tn w d M)) := by
  funext a b
  have s1 := ok.sym
  have d1 := ok.dia
  unfold sc tn out Q
  by_cases av : a = v
  · subst av; grind
  by_cases bv : b = v
  · subst bv; grind
  by_cases ab : a = b
  · subst ab; grind
  by_cases aw : a = w
  · subst aw
    have := s1 v a
    have := d1 v
    have := d1 a
    have := s1 v b
    have := s1 a b
    grind
  by_cases bw : b = w
  · subst bw
    have := s1 v a
    have := d1 v
    have := d1 b
    have := s1 v b
    have := s1 a b
    grind
  have := s1 v a
  have := s1 v b
  have := s1 w a
  have := s1 w b
  have := s1 v w
  have := d1 v
  have := d1 w
  grind

/-- turn at a place not tied to v -/
theorem D_tn_free (ok : Ok n M) (uv : u ≠ v) (g0 : M v u = 0) (c d : K) : D v c (tn u d M) = tn u d (D v c M) := by
  funext a b
  have s1 := ok.sym
  have d1 := ok.dia
  have := s1 v u
  unfold D tn out
  by_cases av : a = v
  · subst av; grind
  by_cases bv : b = v
  · subst bv; grind
  by_cases ab : a = b
  · subst ab; grind
  have := s1 v a
  have := s1 v b
  have := s1 u a
  have := s1 u b
  have := d1 v
  have := d1 u
  by_cases au : a = u
  · subst au; grind
  by_cases bu : b = u
  · subst bu; grind
  grind
theorem D_sc (ok : Ok n M) (uv : u ≠ v) (c s : K) : D v c (sc u s M) = sc u s (D v c M) := by
  funext a b
  have s1 := ok.sym
  have d1 := ok.dia
  unfold D tn out sc
  grind
theorem D_scv (ok : Ok n M) (c s : K) : D v c (sc v s M) = D v (c * s * s) M := by
  funext a b
  have s1 := ok.sym
  have d1 := ok.dia
  unfold D tn out sc
  grind
theorem D_tnv (ok : Ok n M) (c d : K) : D v c (tn v d M) = D v (c + d) M := by
  unfold D
  rw [tn_tn ok]
theorem Q_tnv (ok : Ok n M) (vw : v ≠ w) (g0 : M v w ≠ 0) (d : K) : Q v w (tn v d M) = tn w (-d) (Q v w M) := by
  funext a b
  have s1 := ok.sym
  have d1 := ok.dia
  have := s1 v a
  have := s1 v b
  have := s1 w a
  have := s1 w b
  have := s1 v w
  have := d1 v
  have := d1 w
  unfold Q tn
  by_cases av : a = v
  · subst av; grind
  by_cases bv : b = v
  · subst bv; grind
  by_cases ab : a = b
  · subst ab; grind
  by_cases aw : a = w
  · subst aw; grind
  by_cases bw : b = w
  · subst bw; grind
  grind
theorem Q_scv (ok : Ok n M) (vw : v ≠ w) (g0 : M v w ≠ 0) {s : K} (hs : s ≠ 0) : Q v w (sc v s M) = sc w s (Q v w M) := by
  funext a b
  have s1 := ok.sym
  have d1 := ok.dia
  have := s1 v a
  have := s1 v b
  have := s1 w a
  have := s1 w b
  have := s1 v w
  have := d1 v
  have := d1 w
  unfold Q sc
  by_cases av : a = v
  · subst av; grind
  by_cases bv : b = v
  · subst bv; grind
  by_cases ab : a = b
  · subst ab; grind
  by_cases aw : a = w
  · subst aw; grind
  by_cases bw : b = w
  · subst bw; grind
  grind
theorem Q_scw (ok : Ok n M) (vw : v ≠ w) (g0 : M v w ≠ 0) {s : K} (hs : s ≠ 0) : Q v w (sc w s M) = Q v w M := by
  funext a b
  have s1 := ok.sym
  have d1 := ok.dia
  have := s1 v a
  have := s1 v b
  have := s1 w a
  have := s1 w b
  have := s1 v w
  have := d1 v
  have := d1 w
  unfold Q sc
  by_cases av : a = v
  · subst av; grind
  by_cases bv : b = v
  · subst bv; grind
  by_cases ab : a = b
  · subst ab; grind
  by_cases aw : a = w
  · subst aw; grind
  by_cases bw : b = w
  · subst bw; grind
  grind
theorem Q_scu (ok : Ok n M) (vw : v ≠ w) (uv : u ≠ v) (uw : u ≠ w) (g0 : M v w ≠ 0) {s : K} (hs : s ≠ 0) : Q v w (sc u s M) = sc u s (Q v w M) := by
  funext a b
  have s1 := ok.sym
  have d1 := ok.dia
  have := s1 v a
  have := s1 v b
  have := s1 w a
  have := s1 w b
  have := s1 v w
  have := d1 v
  have := d1 w
  unfold Q sc
  by_cases av : a = v
  · subst av; grind
  by_cases bv : b = v
  · subst bv; grind
  by_cases ab : a = b
  · subst ab; grind
  by_cases aw : a = w
  · subst aw; grind
  by_cases bw : b = w
  · subst bw; grind
  grind
/-- turn at a place not tied to v, exchanged -/
theorem Q_tn_free (ok : Ok n M) (vw : v ≠ w) (uv : u ≠ v) (uw : u ≠ w) (g0 : M v w ≠ 0) (z : M v u = 0) (d : K) : Q v w (tn u d M) = tn w (-(d * M u w * M u w / (M v w * M v w))) (tn u d (Q v w M)) := by
  have s1 := ok.sym
  have d1 := ok.dia
  funext a b
  have vu := Ne.symm uv
  have dv := d1 v
  have du := d1 u
  have wv := Ne.symm vw
  have wu := Ne.symm uw
  have dw := d1 w
  by_cases av : a = v
  · have q := av.symm; subst q; clear s1 d1; (try simp [GW.tn, GW.Q, GW.out, GW.sc, GW.D, GW.E, *]) <;> (try grind)
  have va := Ne.symm av
  by_cases bv : b = v
  · have q := bv.symm; subst q; clear s1 d1; (try simp [GW.tn, GW.Q, GW.out, GW.sc, GW.D, GW.E, *]) <;> (try grind)
  have vb := Ne.symm bv
  by_cases ab : a = b
  · have da := d1 a; subst ab; clear s1 d1; (try simp [GW.tn, GW.Q, GW.out, GW.sc, GW.D, GW.E, *]) <;> (try grind)
  have ba := Ne.symm ab
  by_cases aw : a = w
  · have q := aw.symm; subst q
    by_cases bu : b = u
    · have q := bu.symm; subst q
      revert s1 d1
      (try simp [GW.tn, GW.Q, GW.out, GW.sc, GW.D, GW.E, *])
      all_goals (intro s1 d1)
      all_goals (
        have e1 := s1 v w
        have e2 := s1 v u
        have e3 := s1 u w
        have e4 := s1 u u
        have e5 := s1 v u
        have e0 := s1 w u
        have e8 := s1 w w
        have e9 := s1 w u
        have e10 := s1 v w
        have e11 := s1 u w
        clear s1 d1
        grind (ringSteps := 1000000))
    have ub := Ne.symm bu
    revert s1 d1
    (try simp [GW.tn, GW.Q, GW.out, GW.sc, GW.D, GW.E, *])
    all_goals (intro s1 d1)
    all_goals (
      have e1 := s1 v w
      have e2 := s1 v b
      have e3 := s1 u w
      have e4 := s1 u b
      have e5 := s1 v u
      have e0 := s1 w b
      have e8 := s1 w w
      have e9 := s1 w b
      have e10 := s1 v w
      have e11 := s1 u w
      clear s1 d1
      grind (ringSteps := 1000000))
  have wa := Ne.symm aw
  by_cases bw : b = w
  · have q := bw.symm; subst q
    by_cases au : a = u
    · have q := au.symm; subst q
      revert s1 d1
      (try simp [GW.tn, GW.Q, GW.out, GW.sc, GW.D, GW.E, *])
      all_goals (intro s1 d1)
      all_goals (
        have e1 := s1 v u
        have e2 := s1 v w
        have e3 := s1 u u
        have e4 := s1 u w
        have e5 := s1 v u
        have e0 := s1 u w
        have e8 := s1 w u
        have e9 := s1 w w
        have e10 := s1 v w
        have e11 := s1 u w
        clear s1 d1
        grind (ringSteps := 1000000))
    have ua := Ne.symm au
    revert s1 d1
    (try simp [GW.tn, GW.Q, GW.out, GW.sc, GW.D, GW.E, *])
    all_goals (intro s1 d1)
    all_goals (
      have e1 := s1 v a
      have e2 := s1 v w
      have e3 := s1 u a
      have e4 := s1 u w
      have e5 := s1 v u
      have e0 := s1 a w
      have e8 := s1 w a
      have e9 := s1 w w
      have e10 := s1 v w
      have e11 := s1 u w
      clear s1 d1
      grind (ringSteps := 1000000))
  have wb := Ne.symm bw
  by_cases au : a = u
  · have q := au.symm; subst q
    revert s1 d1
    (try simp [GW.tn, GW.Q, GW.out, GW.sc, GW.D, GW.E, *])
    all_goals (intro s1 d1)
    all_goals (
      have e1 := s1 v u
      have e2 := s1 v b
      have e3 := s1 u u
      have e4 := s1 u b
      have e5 := s1 v u
      have e0 := s1 u b
      have e8 := s1 w u
      have e9 := s1 w b
      have e10 := s1 v w
      have e11 := s1 u w
      clear s1 d1
      grind (ringSteps := 1000000))
  have ua := Ne.symm au
  by_cases bu : b = u
  · have q := bu.symm; subst q
    revert s1 d1
    (try simp [GW.tn, GW.Q, GW.out, GW.sc, GW.D, GW.E, *])
    all_goals (intro s1 d1)
    all_goals (
      have e1 := s1 v a
      have e2 := s1 v u
      have e3 := s1 u a
      have e4 := s1 u u
      have e5 := s1 v u
      have e0 := s1 a u
      have e8 := s1 w a
      have e9 := s1 w u
      have e10 := s1 v w
      have e11 := s1 u w
      clear s1 d1
      grind (ringSteps := 1000000))
  have ub := Ne.symm bu
  revert s1 d1
  (try simp [GW.tn, GW.Q, GW.out, GW.sc, GW.D, GW.E, *])
  all_goals (intro s1 d1)
  all_goals (
    have e1 := s1 v a
    have e2 := s1 v b
    have e3 := s1 u a
    have e4 := s1 u b
    have e5 := s1 v u
    have e0 := s1 a b
    have e8 := s1 w a
    have e9 := s1 w b
    have e10 := s1 v w
    have e11 := s1 u w
    clear s1 d1
    grind (ringSteps := 1000000))
/-- turn at a place tied to v -/
theorem D_tn_tied (ok : Ok n M) (uv : u ≠ v) (g0 : M v u ≠ 0) {c d k : K} (hk : k = 1 + c * d * M v u * M v u) (k0 : k ≠ 0) : D v c (tn u d M) = tn u (d / k) (sc u k (D v (c / k) M)) := by
  have s1 := ok.sym
  have d1 := ok.dia
  funext a b
  have vu := Ne.symm uv
  have dv := d1 v
  have du := d1 u
  by_cases av : a = v
  · have q := av.symm; subst q; clear s1 d1; (try simp [GW.tn, GW.Q, GW.out, GW.sc, GW.D, GW.E, *]) <;> (try grind)
  have va := Ne.symm av
  by_cases bv : b = v
  · have q := bv.symm; subst q; clear s1 d1; (try simp [GW.tn, GW.Q, GW.out, GW.sc, GW.D, GW.E, *]) <;> (try grind)
  have vb := Ne.symm bv
  by_cases ab : a = b
  · have da := d1 a; subst ab; clear s1 d1; (try simp [GW.tn, GW.Q, GW.out, GW.sc, GW.D, GW.E, *]) <;> (try grind)
  have ba := Ne.symm ab
  by_cases au : a = u
  · have q := au.symm; subst q
    revert s1 d1
    (try simp [GW.tn, GW.Q, GW.out, GW.sc, GW.D, GW.E, *])
    all_goals (intro s1 d1)
    all_goals (
      have e1 := s1 v u
      have e2 := s1 v b
      have e3 := s1 u u
      have e4 := s1 u b
      have e5 := s1 v u
      have e0 := s1 u b
      clear s1 d1
      grind (ringSteps := 1000000))
  have ua := Ne.symm au
  by_cases bu : b = u
  · have q := bu.symm; subst q
    revert s1 d1
    (try simp [GW.tn, GW.Q, GW.out, GW.sc, GW.D, GW.E, *])
    all_goals (intro s1 d1)
    all_goals (
      have e1 := s1 v a
      have e2 := s1 v u
      have e3 := s1 u a
      have e4 := s1 u u
      have e5 := s1 v u
      have e0 := s1 a u
      clear s1 d1
      grind (ringSteps := 1000000))
  have ub := Ne.symm bu
  revert s1 d1
  (try simp [GW.tn, GW.Q, GW.out, GW.sc, GW.D, GW.E, *])
  all_goals (intro s1 d1)
  all_goals (
    have e1 := s1 v a
    have e2 := s1 v b
    have e3 := s1 u a
    have e4 := s1 u b
    have e5 := s1 v u
    have e0 := s1 a b
    clear s1 d1
    grind (ringSteps := 1000000))
theorem Q_tn_tied (ok : Ok n M) (uv : u ≠ v) (g0 : M v u ≠ 0) {d : K} (hd : d ≠ 0) : Q v u (tn u d M) = tn u (-(d * M v u * M v u)⁻¹) (sc u (d * M v u) (D v (d * M v u * M v u)⁻¹ M)) := by
  have s1 := ok.sym
  have d1 := ok.dia
  funext a b
  have vu := Ne.symm uv
  have dv := d1 v
  have du := d1 u
  by_cases av : a = v
  · have q := av.symm; subst q; clear s1 d1; (try simp [GW.tn, GW.Q, GW.out, GW.sc, GW.D, GW.E, *]) <;> (try grind)
  have va := Ne.symm av
  by_cases bv : b = v
  · have q := bv.symm; subst q; clear s1 d1; (try simp [GW.tn, GW.Q, GW.out, GW.sc, GW.D, GW.E, *]) <;> (try grind)
  have vb := Ne.symm bv
  by_cases ab : a = b
  · have da := d1 a; subst ab; clear s1 d1; (try simp [GW.tn, GW.Q, GW.out, GW.sc, GW.D, GW.E, *]) <;> (try grind)
  have ba := Ne.symm ab
  by_cases au : a = u
  · have q := au.symm; subst q
    revert s1 d1
    (try simp [GW.tn, GW.Q, GW.out, GW.sc, GW.D, GW.E, *])
    all_goals (intro s1 d1)
    all_goals (
      have e1 := s1 v u
      have e2 := s1 v b
      have e3 := s1 u u
      have e4 := s1 u b
      have e5 := s1 v u
      have e0 := s1 u b
      clear s1 d1
      grind (ringSteps := 1000000))
  have ua := Ne.symm au
  by_cases bu : b = u
  · have q := bu.symm; subst q
    revert s1 d1
    (try simp [GW.tn, GW.Q, GW.out, GW.sc, GW.D, GW.E, *])
    all_goals (intro s1 d1)
    all_goals (
      have e1 := s1 v a
      have e2 := s1 v u
      have e3 := s1 u a
      have e4 := s1 u u
      have e5 := s1 v u
      have e0 := s1 a u
      clear s1 d1
      grind (ringSteps := 1000000))
  have ub := Ne.symm bu
  revert s1 d1
  (try simp [GW.tn, GW.Q, GW.out, GW.sc, GW.D, GW.E, *])
  all_goals (intro s1 d1)
  all_goals (
    have e1 := s1 v a
    have e2 := s1 v b
    have e3 := s1 u a
    have e4 := s1 u b
    have e5 := s1 v u
    have e0 := s1 a b
    clear s1 d1
    grind (ringSteps := 1000000))
/-- any two tied places -/
theorem Q_Q (ok : Ok n M) (vw : v ≠ w) (uv : u ≠ v) (uw : u ≠ w) (g0 : M v w ≠ 0) (h0 : M v u ≠ 0) : Q v w M = sc u (M v u) (tn w (-(2 * M u w * (M v u)⁻¹ * (M v w)⁻¹)) (sc w (M v w)⁻¹ (tn u 1 (tn w (-((M v w)⁻¹ * (M v w)⁻¹)) (tn u 1 (Q v u M)))))) := by
  have s1 := ok.sym
  have d1 := ok.dia
  funext a b
  have vu := Ne.symm uv
  have dv := d1 v
  have du := d1 u
  have wv := Ne.symm vw
  have wu := Ne.symm uw
  have dw := d1 w
  by_cases av : a = v
  · have q := av.symm; subst q; clear s1 d1; (try simp [GW.tn, GW.Q, GW.out, GW.sc, GW.D, GW.E, *]) <;> (try grind)
  have va := Ne.symm av
  by_cases bv : b = v
  · have q := bv.symm; subst q; clear s1 d1; (try simp [GW.tn, GW.Q, GW.out, GW.sc, GW.D, GW.E, *]) <;> (try grind)
  have vb := Ne.symm bv
  by_cases ab : a = b
  · have da := d1 a; subst ab; clear s1 d1; (try simp [GW.tn, GW.Q, GW.out, GW.sc, GW.D, GW.E, *]) <;> (try grind)
  have ba := Ne.symm ab
  by_cases aw : a = w
  · have q := aw.symm; subst q
    by_cases bu : b = u
    · have q := bu.symm; subst q
      revert s1 d1
      (try simp [GW.tn, GW.Q, GW.out, GW.sc, GW.D, GW.E, *])
      all_goals (intro s1 d1)
      all_goals (
        have e1 := s1 v w
        have e2 := s1 v u
        have e3 := s1 u w
        have e4 := s1 u u
        have e5 := s1 v u
        have e0 := s1 w u
        have e8 := s1 w w
        have e9 := s1 w u
        have e10 := s1 v w
        have e11 := s1 u w
        clear s1 d1
        grind (ringSteps := 1000000))
    have ub := Ne.symm bu
    revert s1 d1
    (try simp [GW.tn, GW.Q, GW.out, GW.sc, GW.D, GW.E, *])
    all_goals (intro s1 d1)
    all_goals (
      have e1 := s1 v w
      have e2 := s1 v b
      have e3 := s1 u w
      have e4 := s1 u b
      have e5 := s1 v u
      have e0 := s1 w b
      have e8 := s1 w w
      have e9 := s1 w b
      have e10 := s1 v w
      have e11 := s1 u w
      clear s1 d1
      grind (ringSteps := 1000000))
  have wa := Ne.symm aw
  by_cases bw : b = w
  · have q := bw.symm; subst q
    by_cases au : a = u
    · have q := au.symm; subst q
      revert s1 d1
      (try simp [GW.tn, GW.Q, GW.out, GW.sc, GW.D, GW.E, *])
      all_goals (intro s1 d1)
      all_goals (
        have e1 := s1 v u
        have e2 := s1 v w
        have e3 := s1 u u
        have e4 := s1 u w
        have e5 := s1 v u
        have e0 := s1 u w
        have e8 := s1 w u
        have e9 := s1 w w
        have e10 := s1 v w
        have e11 := s1 u w
        clear s1 d1
        grind (ringSteps := 1000000))
    have ua := Ne.symm au
    revert s1 d1
    (try simp [GW.tn, GW.Q, GW.out, GW.sc, GW.D, GW.E, *])
    all_goals (intro s1 d1)
    all_goals (
      have e1 := s1 v a
      have e2 := s1 v w
      have e3 := s1 u a
      have e4 := s1 u w
      have e5 := s1 v u
      have e0 := s1 a w
      have e8 := s1 w a
      have e9 := s1 w w
      have e10 := s1 v w
      have e11 := s1 u w
      clear s1 d1
      grind (ringSteps := 1000000))
  have wb := Ne.symm bw
  by_cases au : a = u
  · have q := au.symm; subst q
    revert s1 d1
    (try simp [GW.tn, GW.Q, GW.out, GW.sc, GW.D, GW.E, *])
    all_goals (intro s1 d1)
    all_goals (
      have e1 := s1 v u
      have e2 := s1 v b
      have e3 := s1 u u
      have e4 := s1 u b
      have e5 := s1 v u
      have e0 := s1 u b
      have e8 := s1 w u
      have e9 := s1 w b
      have e10 := s1 v w
      have e11 := s1 u w
      clear s1 d1
      grind (ringSteps := 1000000))
  have ua := Ne.symm au
  by_cases bu : b = u
  · have q := bu.symm; subst q
    revert s1 d1
    (try simp [GW.tn, GW.Q, GW.out, GW.sc, GW.D, GW.E, *])
    all_goals (intro s1 d1)
    all_goals (
      have e1 := s1 v a
      have e2 := s1 v u
      have e3 := s1 u a
      have e4 := s1 u u
      have e5 := s1 v u
      have e0 := s1 a u
      have e8 := s1 w a
      have e9 := s1 w u
      have e10 := s1 v w
      have e11 := s1 u w
      clear s1 d1
      grind (ringSteps := 1000000))
  have ub := Ne.symm bu
  revert s1 d1
  (try simp [GW.tn, GW.Q, GW.out, GW.sc, GW.D, GW.E, *])
  all_goals (intro s1 d1)
  all_goals (
    have e1 := s1 v a
    have e2 := s1 v b
    have e3 := s1 u a
    have e4 := s1 u b
    have e5 := s1 v u
    have e0 := s1 a b
    have e8 := s1 w a
    have e9 := s1 w b
    have e10 := s1 v w
    have e11 := s1 u w
    clear s1 d1
    grind (ringSteps := 1000000))
end
end
end GW
namespace GW
open Lean.Grind
section
variable {K : Type} [Field K] {n : Nat} {M : Wb K} {v w u : Nat}
/-- webs that lines at v make, and what is led from them -/
def Fam (n v : Nat) (M X : Wb K) : Prop := (∃ c, Reach n (D v c M) X) ∨ ∃ w, w < n ∧ w ≠ v ∧ M v w ≠ 0 ∧ Reach n (Q v w M) X
theorem inv_ne {x : K} (h : x ≠ 0) : x⁻¹ ≠ 0 := by
  intro e
  have := Field.mul_inv_cancel h
  have := Field.zero_ne_one (α := K)
  grind
theorem mul_ne {x y : K} (h : x ≠ 0) (k : y ≠ 0) : x * y ≠ 0 := by
  intro e
  have := Field.mul_inv_cancel h
  grind
theorem Q_led (ok : Ok n M) (hw : w < n) (hu : u < n) (vw : w ≠ v) (uv : u ≠ v) (g0 : M v w ≠ 0) (h0 : M v u ≠ 0) : Reach n (Q v u M) (Q v w M) := by
  by_cases uw : u = w
  · subst uw; exact .refl _
  · rw [Q_Q ok (Ne.symm vw) uv uw g0 h0]
    exact .tn _ _ hu (.tn _ _ hw (.tn _ _ hu (.sc _ _ hw (inv_ne g0) (.tn _ _ hw (.sc1 _ hu h0)))))
theorem Fam_tn (ok : Ok n M) (hu : u < n) {d : K} {X : Wb K} (h : Fam n v (tn u d M) X) : Fam n v M X := by
  by_cases uv : u = v
  · subst uv
    rcases h with ⟨c, h⟩ | ⟨w, hw, wv, g0, h⟩
    · rw [D_tnv ok] at h
      exact .inl ⟨_, h⟩
    · have e : tn u d M u w = M u w := by
        unfold tn
        have := ok.dia u
        grind
      rw [e] at g0
      rw [Q_tnv ok (Ne.symm wv) g0] at h
      exact .inr ⟨w, hw, wv, g0, .tn _ _ hw h⟩
  have e0 : tn u d M v u = M v u := by
    unfold tn
    have := ok.dia u
    grind
  by_cases g0 : M v u = 0
  · rcases h with ⟨c, h⟩ | ⟨w, hw, wv, h0, h⟩
    · rw [D_tn_free ok uv g0] at h
      exact .inl ⟨c, .tn _ _ hu h⟩
    · have e : tn u d M v w = M v w := by
        unfold tn
        have := ok.sym v u
        grind
      rw [e] at h0
      have uw : u ≠ w := fun q => h0 (by rw [← q]; exact g0)
      rw [Q_tn_free ok (Ne.symm wv) uv uw h0 g0] at h
      exact .inr ⟨w, hw, wv, h0, .tn _ _ hu (.tn _ _ hw h)⟩
  · by_cases d0 : d = 0
    · subst d0
      rw [tn_zero] at h
      exact h
    rcases h with ⟨c, h⟩ | ⟨w, hw, wv, h0, h⟩
    · by_cases k0 : 1 + c * d * M v u * M v u = 0
      · refine .inr ⟨u, hu, uv, g0, ?_⟩
        have := E_Q ok (Ne.symm uv) hu g0 d0 k0
        unfold D at h
        rw [← this] at h
        have c0 : c ≠ 0 := by
          intro q
          have := Field.zero_ne_one (α := K)
          grind
        exact .tn _ _ hu (.sc _ _ hu (mul_ne c0 g0) h)
      · rw [D_tn_tied ok uv g0 rfl k0] at h
        exact .inl ⟨_, .sc _ _ hu k0 (.tn _ _ hu h)⟩
    · have h1 : Reach n (Q v u (tn u d M)) X := (Q_led (ok.tn u d) hw hu wv uv h0 (by rw [e0]; exact g0)).trans h
      rw [Q_tn_tied ok uv g0 d0] at h1
      exact .inl ⟨_, .sc _ _ hu (mul_ne d0 g0) (.tn _ _ hu h1)⟩
theorem Fam_sc (ok : Ok n M) (hu : u < n) {s : K} (hs : s ≠ 0) {X : Wb K} (h : Fam n v (sc u s M) X) : Fam n v M X := by
  by_cases uv : u = v
  · subst uv
    rcases h with ⟨c, h⟩ | ⟨w, hw, wv, g0, h⟩
    · rw [D_scv ok] at h
      exact .inl ⟨_, h⟩
    · have e : M u w ≠ 0 := by
        intro q
        apply g0
        unfold sc
        rw [q]
        grind
      rw [Q_scv ok (Ne.symm wv) e hs] at h
      exact .inr ⟨w, hw, wv, e, .sc _ _ hw hs h⟩
  rcases h with ⟨c, h⟩ | ⟨w, hw, wv, g0, h⟩
  · rw [D_sc ok uv] at h
    exact .inl ⟨_, .sc _ _ hu hs h⟩
  · have e : M v w ≠ 0 := by
      intro q
      apply g0
      unfold sc
      rw [q]
      grind
    by_cases uw : u = w
    · subst uw
      rw [Q_scw ok (Ne.symm wv) e hs] at h
      exact .inr ⟨_, hw, wv, e, h⟩
    · rw [Q_scu ok (Ne.symm wv) uv uw e hs] at h
      exact .inr ⟨w, hw, wv, e, .sc _ _ hu hs h⟩
theorem D_zero (v : Nat) (M : Wb K) : D v 0 M = out v M := by
  unfold D
  rw [tn_zero]
/-- what moves make and then leaving out v makes is led from some line -/
theorem Fam_led {A B : Wb K} (ok : Ok n A) (h : Reach n A B) : Fam n v A (out v B) := by
  induction h with
  | refl => exact .inl ⟨0, by rw [D_zero]; exact .refl _⟩
  | tn u c hu _ ih => exact Fam_tn ok hu (ih (ok.tn u c))
  | sc u s hu hs _ ih => exact Fam_sc ok hu hs (ih (ok.sc u s))
theorem E_led (ok : Ok n M) (hv : v < n) (hw : w < n) (wv : w ≠ v) (g0 : M v w ≠ 0) : Reach n (E v w M) (Q v w M) := by
  have k := E_Q (d := 1) (c := -(M v w * M v w)⁻¹) ok (Ne.symm wv) hw g0 (Ne.symm (Field.zero_ne_one (α := K))) (by
    have := mul_ne g0 g0
    grind)
  have c0 : -(M v w * M v w)⁻¹ ≠ 0 := by
    intro q
    exact inv_ne (mul_ne g0 g0) (by grind)
  unfold E
  rw [← k]
  exact Reach.symm (Q_ok ok hv hw) (.tn _ _ hw (.sc1 _ hw (mul_ne c0 g0)))
/-- the lines of a place: all turnings, and the last line at any tied place -/
theorem led_lines {A B : Wb K} (ok : Ok n A) (hv : v < n) (h : Reach n A B) : (∃ c, Reach n (D v c A) (out v B)) ∨ (∃ w, w < n ∧ A v w ≠ 0) ∧ ∀ w, w < n → w ≠ v → A v w ≠ 0 → Reach n (E v w A) (out v B) := by
  rcases Fam_led (v := v) ok h with h | ⟨w, hw, wv, g0, h⟩
  · exact .inl h
  · exact .inr ⟨⟨w, hw, g0⟩, fun u hu uv h0 => (E_led ok hv hu uv h0).trans ((Q_led ok hw hu wv uv g0 h0).trans h)⟩
end
end GW
namespace GW
open Lean.Grind
abbrev FP (p : Nat) := _root_.Fin p
/-- numbers modulo a prime -/
class PrimeP (p : Nat) [NeZero p] : Prop where
  one : (0 : Fin p) ≠ 1
  inv : ∀ a : Fin p, a ≠ 0 → ∃ b, a * b = 1
instance : PrimeP 2 := ⟨by decide, by decide⟩
instance : PrimeP 3 := ⟨by decide, by decide⟩
instance : PrimeP 5 := ⟨by decide, by decide⟩
instance : PrimeP 7 := ⟨by decide, by decide⟩
open Classical in
noncomputable def invF {p : Nat} [NeZero p] (a : Fin p) : Fin p := if h : ∃ b, a * b = 1 then Classical.choose h else 0
theorem invF_mul {p : Nat} [NeZero p] [PrimeP p] {a : Fin p} (h : a ≠ 0) : a * invF a = 1 := by
  have e := PrimeP.inv a h
  unfold invF
  rw [dif_pos e]
  exact Classical.choose_spec e
theorem invF_zero {p : Nat} [NeZero p] [PrimeP p] : invF (0 : Fin p) = 0 := by
  unfold invF
  rw [dif_neg]
  rintro ⟨b, h⟩
  rw [Semiring.zero_mul] at h
  exact PrimeP.one h
noncomputable def zpowF {p : Nat} [NeZero p] (a : Fin p) : Int → Fin p
  | .ofNat n => a ^ n
  | .negSucc n => invF (a ^ (n + 1))
noncomputable instance instFieldFin {p : Nat} [NeZero p] [PrimeP p] : Field (Fin p) :=
  { (inferInstance : CommRing (Fin p)) with
    inv := invF
    div := fun a b => a * invF b
    div_eq_mul_inv := fun _ _ => rfl
    zero_ne_one := PrimeP.one
    inv_zero := invF_zero
    mul_inv_cancel := fun h => invF_mul h
    zpow := ⟨zpowF⟩
    zpow_zero := fun a => Semiring.pow_zero a
    zpow_succ := fun a n => Semiring.pow_succ a n
    zpow_neg := fun a n => by
      have inv1 : ∀ x : Fin p, x ≠ 0 → invF (invF x) = x := fun x hx => by
        have h1 := invF_mul hx
        have h2 : invF x ≠ 0 := by
          intro e
          rw [e, Semiring.mul_zero] at h1
          exact PrimeP.one h1
        have h3 := invF_mul h2
        have : x * (invF x * invF (invF x)) = x * 1 := by rw [h3]
        rw [← Semiring.mul_assoc, h1, Semiring.one_mul, Semiring.mul_one] at this
        exact this
      have inv2 : ∀ x : Fin p, invF (invF x) = x := fun x => by
        by_cases hx : x = 0
        · rw [hx, invF_zero, invF_zero]
        · exact inv1 x hx
      have inv3 : invF (1 : Fin p) = 1 := by
        have := invF_mul (a := (1 : Fin p)) (Ne.symm PrimeP.one)
        rwa [Semiring.one_mul] at this
      match n with
      | .ofNat 0 => 
        show zpowF a 0 = invF (zpowF a 0)
        have : zpowF a 0 = 1 := Semiring.pow_zero a
        rw [this, inv3]
      | .ofNat (n + 1) => rfl
      | .negSucc n => exact (inv2 _).symm }
section
variable {p : Nat} [NeZero p] [PrimeP p]
theorem inv_unique {a b : Fin p} (h : a * b = 1) : a⁻¹ = b := by
  have a0 : a ≠ 0 := by
    intro e
    rw [e, Semiring.zero_mul] at h
    exact PrimeP.one h
  have := Field.mul_inv_cancel a0
  grind
end
example {p : Nat} [NeZero p] [PrimeP p] (a b : Fin p) (h : a ≠ 0) : a * (a⁻¹ * b) = b := by grind
end GW
set_option maxRecDepth 20000
/-! H1: webs over numbers modulo p as the program's webs. -/
namespace TW
open PySem PySem.Spec L2 GW
def toI {p : Nat} (X : Wb (FP p)) : Mat := fun a b => ((X a b).val : Int)
section
variable {p : Nat} [NeZero p] {n : Nat} {X : Wb (FP p)}
theorem toI_rng (a b : Nat) : 0 ≤ toI X a b ∧ toI X a b < p := by
  unfold toI
  have := (X a b).isLt
  omega
theorem toI_zero {a b : Nat} : toI X a b = 0 ↔ X a b = 0 := by
  unfold toI
  rw [_root_.Fin.ext_iff]
  simp
theorem toI_sym (h : ∀ a b, X a b = X b a) (a b : Nat) : toI X a b = toI X b a := by
  unfold toI
  rw [h]
variable [PrimeP p]
theorem p_pos : 0 < p := Nat.pos_of_ne_zero (NeZero.ne p)
theorem toI_dia (ok : Ok n X) (a : Nat) : toI X a a = 0 := toI_zero.mpr (ok.dia a)
theorem toI_ok (ok : Ok n X) : WebOk n (toI X) := ⟨toI_sym ok.sym, toI_dia ok⟩
theorem fin_val_add (a b : FP p) : (a + b).val = (a.val + b.val) % p := _root_.Fin.val_add a b
theorem fin_val_mul (a b : FP p) : (a * b).val = (a.val * b.val) % p := _root_.Fin.val_mul a b
theorem cast_tn (x c y z : FP p) : (((x + c * y * z).val : Nat) : Int) = ((x.val : Int) + (c.val : Int) * (y.val : Int) * (z.val : Int)) % (p : Int) := by
  rw [fin_val_add, fin_val_mul, fin_val_mul]
  have : ((x.val : Int) + (c.val : Int) * (y.val : Int) * (z.val : Int)) = ((x.val + c.val * y.val * z.val : Nat) : Int) := by push_cast; rfl
  rw [this, ← Int.natCast_emod]
  congr 1
  simp [Nat.add_mod, Nat.mul_mod]
theorem cast_mul (x s : FP p) : (((x * s).val : Nat) : Int) = ((x.val : Int) * (s.val : Int)) % (p : Int) := by
  rw [fin_val_mul]
  have : ((x.val : Int) * (s.val : Int)) = ((x.val * s.val : Nat) : Int) := by push_cast; rfl
  rw [this, ← Int.natCast_emod]
theorem toI_tn (ok : Ok n X) (v : Nat) (c : FP p) : mvM sTurn v (c.val : Int) p (toI X) = toI (tn v c X) := by
  funext a b
  have ec : condM sTurn v a b = (decide (a ≠ b) && (decide (a ≠ v) && decide (b ≠ v))) := by
    unfold condM
    rw [decide_eq_true rfl, decide_eq_false turn_scale, Bool.true_and, Bool.false_and, Bool.or_false]
  have eg : gM sTurn (c.val : Int) p (toI X v) a b (toI X a b) = (toI X a b + (c.val : Int) * toI X v a * toI X v b) % p := if_pos rfl
  unfold mvM
  rw [ec, eg]
  by_cases h1 : a = b
  · rw [if_neg (by simp [h1])]
    unfold toI tn
    simp [h1]
  · by_cases h2 : a = v
    · rw [if_neg (by simp [h2])]
      unfold toI tn
      rw [if_neg h1]
      congr 2
      have := ok.dia v
      subst h2
      grind
    · by_cases h3 : b = v
      · rw [if_neg (by simp [h3])]
        unfold toI tn
        rw [if_neg h1]
        congr 2
        have := ok.dia v
        subst h3
        grind
      · rw [if_pos (by simp [h1, h2, h3])]
        unfold toI tn
        rw [if_neg h1]
        exact (cast_tn _ _ _ _).symm
theorem toI_sc (ok : Ok n X) (v : Nat) (s : FP p) : mvM sScale v (s.val : Int) p (toI X) = toI (sc v s X) := by
  funext a b
  by_cases h1 : a = b
  · subst h1
    have e : condM sScale v a a = false := by
      unfold condM
      simp [Ne.symm turn_scale]
    unfold mvM
    rw [e, if_neg Bool.false_ne_true]
    unfold toI sc
    rw [ok.dia]
    congr 2
  · rw [mv_scale h1]
    by_cases h : a = v ∨ b = v
    · rw [if_pos h]
      unfold toI sc
      rw [← cast_mul]
      congr 2
      rcases h with h | h
      · have : b ≠ v := fun e => h1 (h.trans e.symm)
        rw [if_pos h, if_neg this]
        grind
      · have : a ≠ v := fun e => h1 (e.trans h.symm)
        rw [if_pos h, if_neg this]
        grind
    · rw [if_neg h]
      unfold toI sc
      rw [if_neg fun e => h (.inl e), if_neg fun e => h (.inr e)]
      congr 2
      grind
theorem toI_out (v : Nat) : outM (toI X) v = toI (out v X) := by
  funext a b
  unfold outM toI out
  split
  · rfl
  · rfl
theorem fin_mul_ne {x s : FP p} (hx : x ≠ 0) (hs : s ≠ 0) : ((x.val : Int) * (s.val : Int)) % (p : Int) ≠ 0 := by
  rw [← cast_mul]
  have : x * s ≠ 0 := GW.mul_ne hx hs
  intro e
  exact this (_root_.Fin.val_eq_zero_iff.mp (Int.natCast_eq_zero.mp e))
end
/-- a web of the program -/
def wD (n : Nat) {p : Nat} (X : Wb (FP p)) : D := webD p n (toI X)
/-- moves -/
inductive Mv (p : Nat) where
  | tn (v : Nat) (c : FP p) | sc (v : Nat) (s : FP p)
namespace Mv
def at_ {p : Nat} : Mv p → Nat
  | .tn v _ => v
  | .sc v _ => v
def d {p : Nat} : Mv p → D
  | .tn v c => moveD sTurn v (c.val : Int)
  | .sc v s => moveD sScale v (s.val : Int)
noncomputable def on {p : Nat} [NeZero p] [PrimeP p] : Mv p → Wb (FP p) → Wb (FP p)
  | .tn v c, X => GW.tn v c X
  | .sc v s, X => GW.sc v s X
def Ok {p : Nat} [NeZero p] (n : Nat) : Mv p → Prop
  | .tn v c => v < n
  | .sc v s => v < n ∧ s ≠ 0
theorem on_ok {p : Nat} [NeZero p] [PrimeP p] {n : Nat} {X : Wb (FP p)} (m : Mv p) (ok : GW.Ok n X) : GW.Ok n (m.on X) := by
  cases m with
  | tn v c => exact ok.tn v c
  | sc v s => exact ok.sc v s
end Mv
end TW
set_option maxRecDepth 20000
/-! H2: the calls of law k49's table, on webs over numbers modulo p. -/
namespace TW
open PySem PySem.Spec L2 GW
/-- calls of the table, kept shut -/
@[irreducible] def callT (fuel k : Nat) : Nat → List D → Src → Rs := evCall tab fuel k
theorem callT_def (fuel k : Nat) : callT fuel k = evCall tab fuel k := by unfold callT; rfl
theorem callT_eq {fuel k i : Nat} {f : Fn} {ds : List D} {S : Src} (h : tab[i]? = some f) (a : (if f.src then 1 else 0) + ds.length = f.ps.length) : callT fuel (k + 1) i ds S = outS (evSs ⟨callT fuel k, fuel⟩ f.body (startE f ds) S) := by
  rw [callT_def, callT_def]
  exact call_eq h a
section
variable {p : Nat} [NeZero p] [PrimeP p] {n fuel k : Nat} {X : Wb (FP p)} {S : Src}
theorem toI_k (hp : p ≤ 1000) (a b : Nat) : 0 ≤ toI X a b ∧ toI X a b < 1000 := by
  have := toI_rng (X := X) a b
  omega
theorem c_table_of (ok : Ok n X) (hn : n < 64) : callT fuel (k + 1) 1 [wD n X] S = some (tabT n (toI X), S) :=
  (callT_eq (f := f_table_of) rfl rfl).trans (m_table_of (toI_ok ok) (by omega))
theorem c_web_of {q : Int} {M : Mat} (hn : n < 64) : callT fuel (k + 1) 2 [.int q, .list (tabL n M)] S = some (webD q n M, S) :=
  (callT_eq (f := f_web_of) rfl rfl).trans (m_web_of (by omega))
theorem c_tied_to (ok : Ok n X) (hp : p ≤ 1000) (hn : n < 64) {v : Nat} (hv : v < n) : callT fuel (k + 1) 3 [wD n X, .int v] S = some (.list (nearD n (toI X) v), S) :=
  (callT_eq (f := f_tied_to) rfl rfl).trans (m_tied_to (toI_sym ok.sym) (toI_dia ok v) hv hn (toI_k hp))
theorem c_turned (ok : Ok n X) (hp : p ≤ 1000) (hn : n < 64) {v : Nat} (hv : v < n) (c : FP p) : callT fuel (k + 2) 4 [wD n X, .int v, .int (c.val : Int)] S = some (wD n (tn v c X), S) := by
  have h := m_turned (C := ⟨callT fuel (k + 1), fuel⟩) (S := S) (p := p) (c := (c.val : Int)) (n := n) (v := v) (M := toI X) (iT := 1) (iN := 3) (iW := 2) (body := f_turned.body) rfl (by have := p_pos (p := p); omega) (by omega) toI_rng (toI_dia ok v)
    (c_table_of ok hn) (c_tied_to ok hp hn hv) (fun M' => c_web_of hn)
  rw [toI_tn ok] at h
  exact (callT_eq (f := f_turned) rfl rfl).trans h
theorem c_scaled (ok : Ok n X) (hp : p ≤ 1000) {v : Nat} {s : FP p} (hs : s ≠ 0) : callT fuel (k + 1) 5 [wD n X, .int v, .int (s.val : Int)] S = some (wD n (sc v s X), S) := by
  have h := m_scaled (C := ⟨callT fuel k, fuel⟩) (S := S) (p := p) (s := (s.val : Int)) (n := n) (v := v) (M := toI X) (by have := p_pos (p := p); omega) (by have := s.isLt; omega) (fun a b h => fin_mul_ne (fun e => h (toI_zero.mpr e)) hs)
  rw [toI_sc ok] at h
  exact (callT_eq (f := f_scaled) rfl rfl).trans h
theorem c_moved (ok : Ok n X) (hp : p ≤ 1000) (hn : n < 64) (m : Mv p) (hm : m.Ok n) : callT fuel (k + 3) 6 [wD n X, m.d] S = some (wD n (m.on X), S) := by
  cases m with
  | tn v c =>
    have h := m_moved (C := ⟨callT fuel (k + 2), fuel⟩) (S := S) (p := p) (c := (c.val : Int)) (n := n) (v := v) (kind := sTurn) (M := toI X) (iT := 4) (iS := 5) (body := f_moved.body) rfl (.inl rfl)
      (fun _ => (c_turned ok hp hn hm c).trans (by rw [toI_tn ok]; rfl)) (fun e => absurd e turn_scale)
    rw [toI_tn ok] at h
    exact (callT_eq (f := f_moved) rfl rfl).trans h
  | sc v s =>
    have h := m_moved (C := ⟨callT fuel (k + 2), fuel⟩) (S := S) (p := p) (c := (s.val : Int)) (n := n) (v := v) (kind := sScale) (M := toI X) (iT := 4) (iS := 5) (body := f_moved.body) rfl (.inr rfl)
      (fun e => absurd e (Ne.symm turn_scale)) (fun _ => (c_scaled ok hp hm.2).trans (by rw [toI_sc ok]; rfl))
    rw [toI_sc ok] at h
    exact (callT_eq (f := f_moved) rfl rfl).trans h
theorem c_left_out {v : Nat} : callT fuel (k + 1) 8 [wD n X, .int v] S = some (wD n (out v X), S) := by
  have h := m_left_out (C := ⟨callT fuel k, fuel⟩) (S := S) (p := p) (n := n) (c := v) (M := toI X)
  rw [toI_out] at h
  exact (callT_eq (f := f_left_out) rfl rfl).trans h
theorem c_law_table (ok : Ok n X) (hn : n < 64) : callT fuel (k + 1) 13 [wD n X] S = some (.list (tabL n (toI X)), S) :=
  (callT_eq (f := f_law_table) rfl rfl).trans (m_law_table (toI_ok ok) (by omega))
theorem c_law_web {q : Int} {M : Mat} (hn : n < 64) : callT fuel (k + 1) 14 [.int q, .list (tabL n M)] S = some (webD q n M, S) :=
  (callT_eq (f := f_law_web) rfl rfl).trans (m_law_web (by omega))
theorem c_law_moved (ok : Ok n X) (hp : p ≤ 1000) (hn : n < 64) (m : Mv p) (hm : m.Ok n) : callT fuel (k + 2) 15 [wD n X, m.d] S = some (wD n (m.on X), S) := by
  have pp := p_pos (p := p)
  cases m with
  | tn v c =>
    have h := m_law_moved (C := ⟨callT fuel (k + 1), fuel⟩) (S := S) (p := p) (c := (c.val : Int)) (n := n) (v := v) (kind := sTurn) (M := toI X) (iT := 13) (iW := 14) (body := f_law_moved.body) rfl (by omega) (.inl rfl) (by omega) (by have := c.isLt; omega) (toI_k hp) hm
      (c_law_table ok hn) (fun M' => c_law_web hn)
    rw [toI_tn ok] at h
    exact (callT_eq (f := f_law_moved) rfl rfl).trans h
  | sc v s =>
    have h := m_law_moved (C := ⟨callT fuel (k + 1), fuel⟩) (S := S) (p := p) (c := (s.val : Int)) (n := n) (v := v) (kind := sScale) (M := toI X) (iT := 13) (iW := 14) (body := f_law_moved.body) rfl (by omega) (.inr rfl) (by omega) (by have := s.isLt; omega) (toI_k hp) hm.1
      (c_law_table ok hn) (fun M' => c_law_web hn)
    rw [toI_sc ok] at h
    exact (callT_eq (f := f_law_moved) rfl rfl).trans h
theorem c_law_moves {q : Nat} (hq : q ≤ 1000) (hn : n < 64) : callT fuel (k + 1) 16 [.int q, .int n] S = some (.list (movesL q n), S) :=
  (callT_eq (f := f_law_moves) rfl rfl).trans (m_law_moves hq (by omega))
theorem c_law_out {v : Nat} : callT fuel (k + 1) 18 [wD n X, .int v] S = some (wD n (out v X), S) := by
  have h := m_law_out (C := ⟨callT fuel k, fuel⟩) (S := S) (p := p) (n := n) (c := v) (M := toI X)
  rw [toI_out] at h
  exact (callT_eq (f := f_law_out) rfl rfl).trans h
end
end TW
set_option maxRecDepth 20000
namespace TW
open PySem PySem.Spec L2 GW
theorem fm_one {β : Type} (P : Nat → Prop) [DecidablePred P] (g : Nat → β) {x : Nat} : ∀ l : List Nat, l.Nodup → x ∈ l → (∀ i ∈ l, P i ↔ i = x) → l.filterMap (fun i => if P i then some (g i) else none) = [g x]
  | [], _, h, _ => by simp at h
  | y :: l, nd, h, q => by
    have nd' := List.nodup_cons.mp nd
    rw [List.filterMap_cons]
    by_cases e : y = x
    · subst e
      rw [if_pos ((q y List.mem_cons_self).mpr rfl)]
      have : l.filterMap (fun i => if P i then some (g i) else none) = [] := by
        refine List.filterMap_eq_nil_iff.mpr fun i hi => ?_
        rw [if_neg]
        intro hp
        have := (q i (List.mem_cons_of_mem _ hi)).mp hp
        exact nd'.1 (this ▸ hi)
      dsimp only
      rw [this]
    · rw [if_neg fun hp => e ((q y List.mem_cons_self).mp hp)]
      rcases List.mem_cons.mp h with e' | h'
      · exact absurd e'.symm e
      · exact fm_one P g l nd'.2 h' fun i hi => q i (List.mem_cons_of_mem _ hi)
section
variable {p : Nat} [NeZero p] [PrimeP p] {n fuel k : Nat} {X : Wb (FP p)} {S : Src}
theorem p_two : 2 ≤ p := by
  have h := PrimeP.one (p := p)
  have h0 := p_pos (p := p)
  have : p ≠ 1 := by
    intro e
    subst e
    exact h (_root_.Fin.ext (by omega))
  omega
theorem one_val : (1 : FP p).val = 1 := by
  have := p_two (p := p)
  exact Nat.mod_eq_of_lt (show 1 < p by omega)
theorem inv_iff {a : FP p} (ha : a ≠ 0) {b : Nat} (hb : b < p) : (a.val * b) % p = 1 ↔ b = (a⁻¹).val := by
  constructor
  · intro h
    have : a * (⟨b, hb⟩ : FP p) = 1 := by
      apply _root_.Fin.ext
      rw [fin_val_mul, one_val]
      exact h
    rw [inv_unique this]
  · intro h
    subst h
    have := Lean.Grind.Field.mul_inv_cancel ha
    have := congrArg _root_.Fin.val this
    rw [fin_val_mul, one_val] at this
    exact this
theorem inv_pos {a : FP p} (ha : a ≠ 0) : 0 < (a⁻¹).val := by
  have := (inv_iff ha (a⁻¹).isLt).mpr rfl
  rcases Nat.eq_zero_or_pos (a⁻¹).val with h | h
  · rw [h] at this; simp at this
  · exact h
/-- [b for b in range(lo, p) if a * b % p == 1][0] -/
theorem inv_list {lo : Nat} {a : FP p} (ha : a ≠ 0) (hlo : lo ≤ 1) : (List.range (p - lo)).filterMap (fun i => if (a.val * (lo + i)) % p = 1 then some (PyData.int ((lo + i : Nat) : Int)) else none) = [.int ((a⁻¹).val : Int)] := by
  have h1 := inv_pos ha
  have h2 := (a⁻¹).isLt
  have := fm_one (fun i => (a.val * (lo + i)) % p = 1) (fun i => PyData.int ((lo + i : Nat) : Int)) (x := (a⁻¹).val - lo) (List.range (p - lo)) List.nodup_range (List.mem_range.mpr (by omega)) (fun i hi => by
    have hi := List.mem_range.mp hi
    rw [inv_iff ha (by omega)]
    omega)
  rw [this]
  congr 3
  omega
theorem c_inverse (hp : p ≤ 1000) {a : FP p} (ha : a ≠ 0) : callT fuel (k + 1) 0 [.int p, .int (a.val : Int)] S = some (.int ((a⁻¹).val : Int), S) := by
  refine (callT_eq (f := f_inverse) rfl rfl).trans ?_
  have h2 := p_two (p := p)
  have hl : evE ⟨callT fuel k, fuel⟩ (.lc (.var 2) (.nm 2) (.rng2 (.int 1) (.var 0)) (.so (.cmp .eq (.bin .mod (.bin .mul (.var 1) (.var 2)) (.var 0)) (.int 1))) [2]) (startE f_inverse [.int p, .int (a.val : Int)]) S = some (.list [.int ((a⁻¹).val : Int)], S) := by
    have r1 : rngOk (1 : Int) = true := rfl
    have r2 : rngOk (p : Int) = true := by unfold rngOk; simp; omega
    have e0 : ((p : Int) - 1).toNat = p - 1 := by omega
    have r3 : decide (p - 1 ≤ LINE) = true := by simp [LINE]; omega
    have hI : evI ⟨callT fuel k, fuel⟩ (.rng2 (.int 1) (.var 0)) (startE f_inverse [.int p, .int (a.val : Int)]) S = some ((List.range (p - 1)).map fun i : Nat => .int (1 + (i : Int)), S) := by
      show (if rngOk (1 : Int) && rngOk (p : Int) && decide (((p : Int) - 1).toNat ≤ LINE) then some (rangeD 1 ((p : Int) - 1).toNat, S) else none) = _
      rw [r1, r2, e0, r3, rangeD_map]
      rfl
    refine ev_lcG hI ?_
    rw [lcGo_map (α := Nat) (fun i : Nat => .int (1 + (i : Int))) (fun i => if (a.val * (1 + i)) % p = 1 then some (.int ((1 + i : Nat) : Int)) else none), inv_list ha (by omega)]
    intro i hi
    have hi := List.mem_range.mp hi
    have ei : (1 + (i : Int)) = ((1 + i : Nat) : Int) := by push_cast; rfl
    have hm := bop_mul (x := (a.val : Int)) (y := 1 + (i : Int)) (by omega)
    have hd := bop_mod (x := (a.val : Int) * (1 + (i : Int))) (y := (p : Int)) (by omega)
    have ed : ((a.val : Int) * (1 + (i : Int))) % (p : Int) = (((a.val * (1 + i)) % p : Nat) : Int) := by push_cast; rfl
    rw [ed] at hd
    refine ⟨[some (.int p), some (.int (a.val : Int)), some (.int (1 + (i : Int)))], rfl, ?_, fun y hy => ?_⟩
    · refine evT_so ((ev_cmpG (ev_bin (ev_bin (ev_var rfl) (ev_var rfl) hm) (ev_var rfl) hd) ev_intC (cop_eq_int _ _)).trans ?_)
      by_cases h : (a.val * (1 + i)) % p = 1
      · rw [if_pos h, h]; rfl
      · rw [if_neg h, decide_eq_false (by omega)]; rfl
    · by_cases h : (a.val * (1 + i)) % p = 1
      · rw [if_pos h] at hy
        cases hy
        rw [← ei]
        exact ev_var rfl
      · rw [if_neg h] at hy; cases hy
  exact out_rt (sx_rt (sx_ret (ev_ixG hl ev_intC rfl)))
theorem c_law_back (hp : p ≤ 1000) {a : FP p} (ha : a ≠ 0) : callT fuel (k + 1) 12 [.int p, .int (a.val : Int)] S = some (.int ((a⁻¹).val : Int), S) := by
  refine (callT_eq (f := f_law_back) rfl rfl).trans ?_
  have h2 := p_two (p := p)
  have hl : evE ⟨callT fuel k, fuel⟩ (.lc (.var 2) (.nm 2) (.rng1 (.var 0)) (.so (.cmp .eq (.bin .mod (.b1 .int (.bin .mul (.var 1) (.var 2))) (.var 0)) (.int 1))) [2]) (startE f_law_back [.int p, .int (a.val : Int)]) S = some (.list [.int ((a⁻¹).val : Int)], S) := by
    refine ev_lcG (it_rng1 (ev_var rfl) (by omega)) ?_
    unfold natD
    have e := inv_list (lo := 0) ha (by omega)
    simp only [Nat.zero_add, Nat.sub_zero] at e
    rw [lcGo_map (α := Nat) (fun i : Nat => .int (i : Int)) (fun i => if (a.val * i) % p = 1 then some (.int ((i : Nat) : Int)) else none), e]
    intro i hi
    have hi := List.mem_range.mp hi
    have hm := bop_mul (x := (a.val : Int)) (y := (i : Int)) (by omega)
    have hd := bop_mod (x := (a.val : Int) * (i : Int)) (y := (p : Int)) (by omega)
    have ed : ((a.val : Int) * (i : Int)) % (p : Int) = (((a.val * i) % p : Nat) : Int) := by push_cast; rfl
    rw [ed] at hd
    refine ⟨[some (.int p), some (.int (a.val : Int)), some (.int (i : Int))], rfl, ?_, fun y hy => ?_⟩
    · refine evT_so ((ev_cmpG (ev_bin (ev_b1G (ev_bin (ev_var rfl) (ev_var rfl) hm) rfl) (ev_var rfl) hd) ev_intC (cop_eq_int _ _)).trans ?_)
      by_cases h : (a.val * i) % p = 1
      · rw [if_pos h, h]; rfl
      · rw [if_neg h, decide_eq_false (by omega)]; rfl
    · by_cases h : (a.val * i) % p = 1
      · rw [if_pos h] at hy
        cases hy
        exact ev_var rfl
      · rw [if_neg h] at hy; cases hy
  exact out_rt (sx_rt (sx_ret (ev_ixG hl ev_intC rfl)))
end
end TW
set_option maxRecDepth 20000
namespace TW
open PySem PySem.Spec L2 GW
/-- small data: no dict, not deep, short to show -/
structure Sm (k w : Nat) (d : D) : Prop where
  lay : d.canLay0 = true
  dep : d.depth ≤ k
  sho : d.leavesShort 13 = true
  abl : d.showable = true
  wgt : d.weight ≤ w
structure SmA (k w : Nat) (xs : List D) : Prop where
  lay : PyData.canLayAll0 xs = true
  dep : PyData.depthAll xs ≤ k
  sho : PyData.leavesShortAll 13 xs = true
  abl : PyData.showableAll xs = true
  wgt : PyData.weightAll xs ≤ w
theorem smA {k w : Nat} : ∀ {xs : List D}, (∀ x ∈ xs, Sm k w x) → SmA k (xs.length * (w + 1)) xs
  | [], _ => ⟨rfl, by simp [PyData.depthAll], rfl, rfl, by simp [PyData.weightAll]⟩
  | x :: xs, h => by
    have h1 := h x List.mem_cons_self
    have h2 := smA fun y hy => h y (List.mem_cons_of_mem _ hy)
    refine ⟨?_, ?_, ?_, ?_, ?_⟩
    · simp only [PyData.canLayAll0, h1.lay, h2.lay, Bool.and_self]
    · simp only [PyData.depthAll]
      have := h1.dep
      have := h2.dep
      omega
    · simp only [PyData.leavesShortAll, h1.sho, h2.sho, Bool.and_self]
    · simp only [PyData.showableAll, h1.abl, h2.abl, Bool.and_self]
    · simp only [PyData.weightAll, List.length_cons, Nat.succ_mul]
      have := h1.wgt
      have := h2.wgt
      omega
theorem Sm.mono {k w k' w' : Nat} {d : D} (h : Sm k w d) (hk : k ≤ k') (hw : w ≤ w') : Sm k' w' d := ⟨h.lay, Nat.le_trans h.dep hk, h.sho, h.abl, Nat.le_trans h.wgt hw⟩
theorem Sm.tuple {k w m : Nat} {xs : List D} (h : ∀ x ∈ xs, Sm k w x) (hm : xs.length ≤ m) : Sm (k + 1) (m * (w + 1)) (.tuple xs) := by
  have q := smA h
  refine ⟨?_, ?_, ?_, ?_, ?_⟩
  · simp only [PyData.canLay0, q.lay]
  · simp only [PyData.depth]; have := q.dep; omega
  · simp only [PyData.leavesShort, q.sho]
  · simp only [PyData.showable, q.abl]
  · simp only [PyData.weight]; exact Nat.le_trans q.wgt (Nat.mul_le_mul_right _ hm)
theorem Sm.list {k w m : Nat} {xs : List D} (h : ∀ x ∈ xs, Sm k w x) (hm : xs.length ≤ m) : Sm (k + 1) (m * (w + 1)) (.list xs) := by
  have q := smA h
  refine ⟨?_, ?_, ?_, ?_, ?_⟩
  · simp only [PyData.canLay0, q.lay]
  · simp only [PyData.depth]; have := q.dep; omega
  · simp only [PyData.leavesShort, q.sho]
  · simp only [PyData.showable, q.abl]
  · simp only [PyData.weight]; exact Nat.le_trans q.wgt (Nat.mul_le_mul_right _ hm)
theorem log2_le {x k : Nat} (h : x < 2 ^ (k + 1)) : x.log2 ≤ k := by
  by_cases h0 : x = 0
  · subst h0; simp
  · have := (Nat.log2_lt h0).mpr h
    omega
theorem Sm.int {i : Int} (h1 : -10000 ≤ i) (h2 : i ≤ 10000) : Sm 0 64 (.int i) := by
  have hl : i.natAbs.log2 ≤ 13 := log2_le (by omega)
  refine ⟨rfl, by simp [PyData.depth], ?_, ?_, ?_⟩
  · simp only [PyData.leavesShort]
    exact decide_eq_true (PyData.shown_int_le2 (by omega) (by omega))
  · simp only [PyData.showable]
    exact decide_eq_true (by omega)
  · simp only [PyData.weight]
    split <;> omega
theorem Sm.shp {k w : Nat} {d : D} (h : Sm k w d) (hk : k ≤ 64) : shp d = true := by
  unfold TW.shp SeqAt.shaped
  rw [h.lay, Bool.true_and]
  exact decide_eq_true (Nat.le_trans h.dep hk)
theorem Sm.repr {k w : Nat} {d : D} (h : Sm k w d) (hr : isRef d = true) (hk : k ≤ 60) (hw : w ≤ 2 ^ 20) : bu1 .repr d = some (.str d.shown) := by
  have h1 : d.shown.length ≤ LINE := PyData.shown_fits (B := 13) (by omega) (by omega) h.sho (Nat.le_trans h.wgt hw)
  have h2 : d.hasDict = false := PyData.hasDict_of_canLay d h.lay
  unfold bu1
  cases d with
  | list xs => simp [hr, h.abl, h2, Nat.le_trans h.dep hk, h1]
  | tuple xs => simp [hr, h.abl, h2, Nat.le_trans h.dep hk, h1]
  | none => cases hr
  | bool => cases hr
  | int => cases hr
  | str => cases hr
  | dict => cases hr
end TW
set_option maxRecDepth 20000
namespace TW
open PySem PySem.Spec L2 GW
theorem sm_turn : Sm 0 64 (.str sTurn) := ⟨by decide +kernel, by decide +kernel, by decide +kernel, by decide +kernel, by decide +kernel⟩
theorem sm_scale : Sm 0 64 (.str sScale) := ⟨by decide +kernel, by decide +kernel, by decide +kernel, by decide +kernel, by decide +kernel⟩
abbrev sOut : Str := "out"
theorem sm_out : Sm 0 64 (.str sOut) := ⟨by decide +kernel, by decide +kernel, by decide +kernel, by decide +kernel, by decide +kernel⟩
theorem out_ne_turn : sOut ≠ sTurn := by decide +kernel
theorem out_ne_scale : sOut ≠ sScale := by decide +kernel
theorem shp_out : shp (.str sOut) = true := by decide +kernel
section
variable {p : Nat} [NeZero p] [PrimeP p] {n fuel k : Nat} {X : Wb (FP p)} {S : Src}
theorem wD_sm (hn : n ≤ 8) (hp : p ≤ 1000) : Sm 3 37635 (wD n X) := by
  have hl : (tiesP n (toI X)).length ≤ 64 := by
    have := tiesP_len n (toI X)
    have : n * n ≤ 8 * 8 := Nat.mul_le_mul hn hn
    omega
  have ht : ∀ x ∈ tiesD (toI X) (tiesP n (toI X)), Sm 1 195 x := by
    intro x hx
    unfold tiesD at hx
    obtain ⟨q, hq, rfl⟩ := List.mem_map.mp hx
    have h1 := mem_ties.mp hq
    have h2 := toI_k (X := X) hp q.1 q.2
    refine Sm.tuple (k := 0) (w := 64) (m := 3) ?_ (by simp)
    intro y hy
    simp only [List.mem_cons, List.not_mem_nil, or_false] at hy
    rcases hy with rfl | rfl | rfl
    · exact Sm.int (by omega) (by omega)
    · exact Sm.int (by omega) (by omega)
    · exact Sm.int (by omega) (by omega)
  have h2 := Sm.tuple (k := 1) (w := 195) (m := 64) ht (by unfold tiesD; rw [List.length_map]; exact hl)
  refine Sm.tuple (k := 2) (w := 12544) (m := 3) ?_ (by simp)
  intro y hy
  simp only [List.mem_cons, List.not_mem_nil, or_false] at hy
  rcases hy with rfl | rfl | rfl
  · exact (Sm.int (by omega) (by omega)).mono (by omega) (by omega)
  · exact (Sm.int (by omega) (by omega)).mono (by omega) (by omega)
  · exact h2
theorem mv_sm (hn : n ≤ 8) (hp : p ≤ 1000) (m : Mv p) (hm : m.Ok n) : Sm 1 195 m.d := by
  cases m with
  | tn v c =>
    have h1 : v < n := hm
    have := c.isLt
    refine Sm.tuple (k := 0) (w := 64) (m := 3) ?_ (by simp)
    intro y hy
    simp only [List.mem_cons, List.not_mem_nil, or_false] at hy
    rcases hy with rfl | rfl | rfl
    · exact sm_turn
    · exact Sm.int (by omega) (by omega)
    · exact Sm.int (by omega) (by omega)
  | sc v c =>
    have h1 : v < n := hm.1
    have := c.isLt
    refine Sm.tuple (k := 0) (w := 64) (m := 3) ?_ (by simp)
    intro y hy
    simp only [List.mem_cons, List.not_mem_nil, or_false] at hy
    rcases hy with rfl | rfl | rfl
    · exact sm_scale
    · exact Sm.int (by omega) (by omega)
    · exact Sm.int (by omega) (by omega)
/-- a row of moves -/
noncomputable def onAll (ms : List (Mv p)) (X : Wb (FP p)) : Wb (FP p) := ms.foldl (fun X m => m.on X) X
theorem onAll_ok : ∀ (ms : List (Mv p)) {X : Wb (FP p)}, Ok n X → Ok n (onAll ms X)
  | [], _, h => h
  | m :: ms, _, h => onAll_ok ms (Mv.on_ok m h)
theorem c_made_moves (ok : Ok n X) (hp : p ≤ 1000) (hn : n < 64) (ms : List (Mv p)) (hm : ∀ m ∈ ms, m.Ok n) : callT fuel (k + 4) 7 [wD n X, .tuple (ms.map Mv.d)] S = some (wD n (onAll ms X), S) := by
  refine (callT_eq (f := f_made_moves) rfl rfl).trans ?_
  obtain ⟨ρ3, h3, X', ho, x, e, rfl⟩ := forGo_fold (S := S) (tg := .nm 2) (b := fun ρ S => evSs ⟨callT fuel (k + 3), fuel⟩ (.cons (.asg (.nm 0) (.call 6 (.cons (.var 0) (.cons (.var 2) .nil)))) .nil) ρ S) Mv.d
    (fun (X : Wb (FP p)) ρ => ∃ X', Ok n X' ∧ ∃ x, X' = X ∧ ρ = [some (wD n X'), some (.tuple (ms.map Mv.d)), x]) (fun X m => m.on X) ms X (startE f_made_moves [wD n X, .tuple (ms.map Mv.d)]) ⟨X, ok, none, rfl, rfl⟩ (by
      rintro X0 m hmem ρ ⟨X', ok', x, rfl, rfl⟩
      refine ⟨[some (wD n X'), some (.tuple (ms.map Mv.d)), some m.d], _, rfl, sx_nx (sx_asg (ev_callG (evs_cons' (ev_var rfl) (evs_cons' (ev_var rfl) evs_nil')) (c_moved ok' hp hn m (hm m hmem))) rfl) sx_nil, _, Mv.on_ok m ok', some m.d, rfl, rfl⟩)
  subst e
  exact out_rt (sx_nx (sx_loop (it_dat (ev_var rfl) rfl) h3) (sx_rt (sx_ret (ev_var rfl))))
/-- the places tied to v -/
theorem enum_row (f : Nat → Int) (n : Nat) : enumD 0 (rowL n f) = (List.range n).map fun i : Nat => PyData.tuple [.int (i : Int), .int (f i)] := by
  have : ∀ (l : List Nat) (i : Int), (∀ (j : Nat) (x : Nat), l[j]? = some x → (x : Int) = i + (j : Int)) → enumD i (l.map fun v => PyData.int (f v)) = l.map fun i : Nat => PyData.tuple [.int (i : Int), .int (f i)] := fun l => by
    induction l with
    | nil => intro _ _; rfl
    | cons a l ih =>
      intro i h
      have h0 := h 0 a rfl
      rw [List.map_cons, List.map_cons, enumD, ih (i + 1) fun j x hx => by have := h (j + 1) x (by simpa using hx); push_cast at this; omega]
      have e : i = (a : Int) := by rw [h0]; simp
      rw [e]
  exact this (List.range n) 0 fun j x hx => by
    obtain ⟨rfl, _⟩ := range_get' hx
    simp
theorem ev_tied {C : Ctx} {f : Nat → Int} {ρ : DEnv} {n : Nat} {d : D} (hd : d = .list (rowL n f) ∨ d = .tuple (rowL n f)) (h6 : ρ[6]? = some (some d)) (hl : 8 < ρ.length) :
    evE C (.lc (.var 7) (.tp [7, 8]) (.enu (.var 6)) (.so (.cmp .ne (.var 8) (.int 0))) [7, 8]) ρ S = some (.list (((List.range n).filter fun w => f w ≠ 0).map fun w : Nat => PyData.int (w : Int)), S) := by
  have hI : evI C (.enu (.var 6)) ρ S = some ((List.range n).map fun i : Nat => PyData.tuple [.int (i : Int), .int (f i)], S) := by
    rw [← enum_row]
    rcases hd with rfl | rfl
    · simp only [evI, evE, h6]
    · simp only [evI, evE, h6]
  refine ev_lcG hI ?_
  have hw : ∀ (ρ : DEnv) (a b : D), 8 < ρ.length → ((((wipeE ρ [7, 8]).set 7 (some a)).set 8 (some b))[7]? = some (some a)) ∧ ((((wipeE ρ [7, 8]).set 7 (some a)).set 8 (some b))[8]? = some (some b)) := fun ρ a b h => by
    unfold wipeE wipeE wipeE
    constructor
    · rw [List.getElem?_set_ne (by decide), List.getElem?_set]
      simp
      omega
    · rw [List.getElem?_set]
      simp
      omega
  rw [lcGo_map (α := Nat) (fun i : Nat => PyData.tuple [.int (i : Int), .int (f i)]) (fun i => if f i ≠ 0 then some (.int (i : Int)) else none)]
  · congr 2
    have : ∀ l : List Nat, l.filterMap (fun i => if f i ≠ 0 then some (PyData.int (i : Int)) else none) = (l.filter fun w => f w ≠ 0).map fun w : Nat => PyData.int (w : Int) := fun l => by
      induction l with
      | nil => rfl
      | cons a l ih =>
        rw [List.filterMap_cons, List.filter_cons]
        by_cases h : f a ≠ 0
        · rw [if_pos h, if_pos (decide_eq_true h), List.map_cons, ih]
        · rw [if_neg h, if_neg (by simpa using h)]; exact ih
    rw [this]
  · intro i _
    obtain ⟨w1, w2⟩ := hw ρ (.int (i : Int)) (.int (f i)) hl
    refine ⟨_, rfl, ?_, fun y hy => ?_⟩
    · refine evT_so ((ev_cmpG (ev_var w2) ev_intC (cop_ne_int _ _)).trans ?_)
      by_cases h : f i ≠ 0
      · rw [if_pos h, decide_eq_true h]; rfl
      · rw [if_neg h, decide_eq_false h]; rfl
    · by_cases h : f i ≠ 0
      · rw [if_pos h] at hy
        cases hy
        exact ev_var w1
      · rw [if_neg h] at hy; cases hy
end
end TW
set_option maxRecDepth 20000
namespace TW
open PySem PySem.Spec L2 GW
section
variable {p : Nat} [NeZero p] [PrimeP p] {n fuel k : Nat} {X : Wb (FP p)} {S : Src}
def kF (p : Nat) [NeZero p] (j : Nat) : FP p := _root_.Fin.ofNat p j
/-- the moves of line j of v -/
noncomputable def lineM (n j v : Nat) (X : Wb (FP p)) : List (Mv p) :=
  match nearP n (toI X) v with
  | [] => []
  | w :: _ => if j = 0 then [] else if j < p then [.tn v (kF p j)⁻¹] else [.tn w 1, .tn v (-(X v w * X v w)⁻¹)]
theorem neg_val {x : FP p} (h : 0 < x.val) : (((-x).val : Nat) : Int) = (p : Int) - (x.val : Int) := by
  have hx := x.isLt
  have e : (-x) + x = 0 := Lean.Grind.Ring.neg_add_cancel x
  have := congrArg _root_.Fin.val e
  rw [fin_val_add] at this
  have hy := (-x).isLt
  have h0 : (0 : FP p).val = 0 := rfl
  rw [h0] at this
  have h1 : ((-x).val + x.val) % p = 0 := this
  have h2 : (-x).val + x.val = p := by
    have d := Nat.dvd_of_mod_eq_zero h1
    obtain ⟨c, hc⟩ := d
    have : c = 1 := by
      have c1 : c < 2 := by
        apply Nat.lt_of_mul_lt_mul_left (a := p)
        omega
      have c0 : c ≠ 0 := by
        intro e; subst e; omega
      omega
    subst this
    omega
  omega
theorem neg_val' {x : FP p} (h : 0 < x.val) : (((-x).val : Nat) : Int) = (0 - (x.val : Int)) % (p : Int) := by
  have hx := x.isLt
  rw [neg_val h]
  have : (0 - (x.val : Int)) % (p : Int) = ((0 - (x.val : Int)) + p) % (p : Int) := by rw [Int.add_emod_right]
  rw [this, Int.emod_eq_of_lt (by omega) (by omega)]
  omega
theorem kF_val {j : Nat} (h : j < p) : (kF p j).val = j := Nat.mod_eq_of_lt h
theorem kF_ne {j : Nat} (h0 : j ≠ 0) (h : j < p) : kF p j ≠ 0 := by
  intro e
  have := congrArg _root_.Fin.val e
  rw [kF_val h] at this
  exact h0 this
theorem eqv_nil (x : D) (xs : List D) : PyData.eqv (.list (x :: xs)) (.list []) = false := rfl
theorem cop_list_nil {xs : List D} (h : shp (.list xs) = true) : cop .eq (.list xs) (.list []) = some (decide (xs = [])) := by
  have : shp (.list []) = true := rfl
  simp only [cop, h, this, Bool.and_self, if_true]
  cases xs with
  | nil => rfl
  | cons x xs => rw [eqv_nil]; rfl
def nearI' (n : Nat) (X : Wb (FP p)) (v : Nat) : List D := (nearP n (toI X) v).map fun w : Nat => PyData.int (w : Int)
theorem near_lt {w v : Nat} (h : w ∈ nearP n (toI X) v) : w < n := (mem_near.mp h).1
theorem nearI_sm (hn : n ≤ 8) {v : Nat} : Sm 1 520 (.list (nearI' n X v)) := by
  refine Sm.list (k := 0) (w := 64) (m := 8) ?_ ?_
  · intro x hx
    unfold nearI' at hx
    obtain ⟨w, hw, rfl⟩ := List.mem_map.mp hx
    have := near_lt hw
    exact Sm.int (by omega) (by omega)
  · unfold nearI' nearP
    rw [List.length_map]
    exact Nat.le_trans (List.length_filter_le _ _) (by simpa using hn)
theorem row_of_tab {v : Nat} {M : Mat} (hv : v < n) : dIx (tabT n M) (.int (v : Int)) = some (.tuple (rowL n (M v))) := by
  unfold tabT dIx
  exact atI_nat' (by simp [hv])
theorem c_line_moves (ok : Ok n X) (hp : p ≤ 1000) (hn : n ≤ 8) {v j : Nat} (hv : v < n) (hj : j ≤ p) : callT fuel (k + 2) 9 [wD n X, .int v, .int j] S = some (.tuple ((lineM n j v X).map Mv.d), S) := by
  refine (callT_eq (f := f_line_moves) rfl rfl).trans ?_
  let C : Ctx := ⟨callT fuel (k + 1), fuel⟩
  let tied := nearI' n X v
  let E (g t : Option D) : DEnv := [some (wD n X), some (.int v), some (.int j), t, g, some (.int p), some (.tuple (rowL n (toI X v))), none, none]
  have h1 : evS C (.par [5, 6] (.cons (.ix (.var 0) (.int 0)) (.cons (.ix (.call 1 (.cons (.var 0) .nil)) (.var 1)) .nil))) (startE f_line_moves [wD n X, .int v, .int j]) S = some (.nx, E none none, S) :=
    sx_par (evs_cons' (ev_ixG (ev_var rfl) ev_intC (d := .int p) rfl) (evs_cons' (ev_ixG (ev_callG (evs_cons' (ev_var rfl) evs_nil') (c_table_of ok (by omega))) (ev_var rfl) (row_of_tab hv)) evs_nil')) rfl
  have h2 : evS C (.asg (.nm 3) (.lc (.var 7) (.tp [7, 8]) (.enu (.var 6)) (.so (.cmp .ne (.var 8) (.int 0))) [7, 8])) (E none none) S = some (.nx, E none (some (.list tied)), S) :=
    sx_asg (ev_tied (n := n) (f := toI X v) (.inr rfl) rfl (by simp [E])) rfl
  have ht : evE C (.cmp .eq (.var 3) (.lst .nil)) (E none (some (.list tied))) S = some (.bool (decide (tied = [])), S) :=
    ev_cmpG (ev_var rfl) (ev_lstG evs_nil' (by simp)) (cop_list_nil ((nearI_sm hn).shp (by omega)))
  have hk : evE C (.cmp .eq (.var 2) (.int 0)) (E none (some (.list tied))) S = some (.bool (decide ((j : Int) = 0)), S) :=
    ev_cmpG (ev_var rfl) ev_intC (cop_eq_int _ _)
  have hc : evE C (.cmp .lt (.var 2) (.var 5)) (E none (some (.list tied))) S = some (.bool (decide ((j : Int) < p)), S) :=
    ev_cmpG (ev_var rfl) (ev_var rfl) rfl
  refine o_nx h1 (o_nx h2 ?_)
  by_cases j0 : j = 0
  · rw [decide_eq_true (by omega)] at hk
    have e : lineM n j v X = [] := by
      unfold lineM
      split
      · rfl
      · rw [if_pos j0]
    rw [e]
    exact o_rt (sx_ifT (ev_orT hk) (sx_rt (sx_ret (ev_tupG evs_nil' (by simp)))))
  · rw [decide_eq_false (by omega)] at hk
    cases q : nearP n (toI X) v with
    | nil =>
      have e : lineM n j v X = [] := by
        unfold lineM
        rw [q]
      rw [e]
      rw [decide_eq_true (by show nearI' n X v = []; unfold nearI'; rw [q]; rfl)] at ht
      exact o_rt (sx_ifT (ev_orF hk (ev_oneG ht)) (sx_rt (sx_ret (ev_tupG evs_nil' (by simp)))))
    | cons w r =>
      rw [decide_eq_false (by show nearI' n X v ≠ []; unfold nearI'; rw [q]; simp)] at ht
      refine o_nx (sx_ifF (ev_orF hk (ev_oneG ht)) sx_nil) ?_
      by_cases jp : j < p
      · rw [decide_eq_true (by omega)] at hc
        have e : lineM n j v X = [.tn v (kF p j)⁻¹] := by
          unfold lineM
          rw [q]
          dsimp only
          rw [if_neg j0, if_pos jp]
        rw [e]
        have ci := c_inverse (fuel := fuel) (k := k) (S := S) hp (kF_ne j0 jp)
        rw [kF_val jp] at ci
        exact o_rt (sx_ifT hc (sx_rt (sx_ret (ev_tupG (evs_cons' (ev_tupG (evs_cons' ev_strC (evs_cons' (ev_var rfl) (evs_cons' (ev_callG (evs_cons' (ev_var rfl) (evs_cons' (ev_var rfl) evs_nil')) ci) evs_nil'))) (by simp [LINE])) evs_nil') (by simp [LINE])))))
      · rw [decide_eq_false (by omega)] at hc
        have e : lineM n j v X = [.tn w 1, .tn v (-(X v w * X v w)⁻¹)] := by
          unfold lineM
          rw [q]
          dsimp only
          rw [if_neg j0, if_neg jp]
        rw [e]
        have hwm : w ∈ nearP n (toI X) v := by rw [q]; exact List.mem_cons_self
        have hw := near_lt hwm
        have g0 : X v w ≠ 0 := fun z => (mem_near.mp hwm).2 (toI_zero.mpr z)
        have ci := c_inverse (fuel := fuel) (k := k) (S := S) hp (GW.mul_ne g0 g0)
        rw [cast_mul] at ci
        have ip := inv_pos (GW.mul_ne g0 g0)
        have ht0 : dIx (.list tied) (.int 0) = some (.int w) := by
          show dIx (.list (nearI' n X v)) (.int 0) = _
          unfold nearI'
          rw [q]
          exact atI_nat' (i := 0) rfl
        have hg : dIx (.tuple (rowL n (toI X v))) (.int (w : Int)) = some (.int (toI X v w)) := row_at hw
        have e1 : evE C (.ix (.var 3) (.int 0)) (E none (some (.list tied))) S = some (.int w, S) := ev_ixG (ev_var rfl) ev_intC ht0
        refine o_nx (sx_ifF hc sx_nil) (o_nx (sx_asg (ev_ixG (ev_var rfl) e1 hg) rfl) ?_)
        have hgl := toI_k (X := X) hp v w
        have pp := p_pos (p := p)
        have e2 : evE C (.ix (.var 3) (.int 0)) (E (some (.int (toI X v w))) (some (.list tied))) S = some (.int w, S) := ev_ixG (ev_var rfl) ev_intC ht0
        have e3 : evE C (.bin .sub (.var 5) (.call 0 (.cons (.var 5) (.cons (.bin .mod (.bin .mul (.var 4) (.var 4)) (.var 5)) .nil)))) (E (some (.int (toI X v w))) (some (.list tied))) S = some (.int ((-(X v w * X v w)⁻¹).val : Int), S) := by
          rw [neg_val ip]
          exact ev_bin (ev_var rfl) (ev_callG (evs_cons' (ev_var rfl) (evs_cons' (ev_bin (ev_bin (ev_var rfl) (ev_var rfl) (bop_mul (by omega))) (ev_var rfl) (bop_mod (by omega))) evs_nil')) ci) rfl
        have r := ev_tupG (C := C) (evs_cons' (ev_tupG (evs_cons' (ev_strC (x := sTurn)) (evs_cons' e2 (evs_cons' (ev_intC (n := 1)) evs_nil'))) (by simp [LINE])) (evs_cons' (ev_tupG (evs_cons' (ev_strC (x := sTurn)) (evs_cons' (ev_var (i := 1) (d := .int v) rfl) (evs_cons' e3 evs_nil'))) (by simp [LINE])) evs_nil')) (by simp [LINE])
        refine (o_rt (sx_ret r)).trans ?_
        show some (PyData.tuple [.tuple [.str sTurn, .int w, .int 1], _], S) = some (PyData.tuple [.tuple [.str sTurn, .int w, .int ((1 : FP p).val : Int)], _], S)
        rw [one_val]
        rfl
theorem c_law_line_moves (ok : Ok n X) (hp : p ≤ 1000) (hn : n ≤ 8) {v j : Nat} (hv : v < n) (hj : j ≤ p) : callT fuel (k + 2) 22 [wD n X, .int v, .int j] S = some (.tuple ((lineM n j v X).map Mv.d), S) := by
  refine (callT_eq (f := f_law_line_moves) rfl rfl).trans ?_
  let C : Ctx := ⟨callT fuel (k + 1), fuel⟩
  let tied := nearI' n X v
  let E (g t : Option D) : DEnv := [some (wD n X), some (.int v), some (.int j), t, g, some (.int p), some (.list (rowL n (toI X v))), none, none]
  have h1 : evS C (.par [5, 6] (.cons (.ix (.var 0) (.int 0)) (.cons (.ix (.call 13 (.cons (.var 0) .nil)) (.var 1)) .nil))) (startE f_law_line_moves [wD n X, .int v, .int j]) S = some (.nx, E none none, S) :=
    sx_par (evs_cons' (ev_ixG (ev_var rfl) ev_intC (d := .int p) rfl) (evs_cons' (ev_ixG (ev_callG (evs_cons' (ev_var rfl) evs_nil') (c_law_table ok (by omega))) (ev_var rfl) (tab_at hv)) evs_nil')) rfl
  have h2 : evS C (.asg (.nm 3) (.lc (.var 7) (.tp [7, 8]) (.enu (.var 6)) (.so (.cmp .ne (.var 8) (.int 0))) [7, 8])) (E none none) S = some (.nx, E none (some (.list tied)), S) :=
    sx_asg (ev_tied (n := n) (f := toI X v) (.inl rfl) rfl (by simp [E])) rfl
  have ht : evE C (.cmp .eq (.var 3) (.lst .nil)) (E none (some (.list tied))) S = some (.bool (decide (tied = [])), S) :=
    ev_cmpG (ev_var rfl) (ev_lstG evs_nil' (by simp)) (cop_list_nil ((nearI_sm hn).shp (by omega)))
  have hk : evE C (.cmp .eq (.var 2) (.int 0)) (E none (some (.list tied))) S = some (.bool (decide ((j : Int) = 0)), S) :=
    ev_cmpG (ev_var rfl) ev_intC (cop_eq_int _ _)
  have hc : evE C (.cmp .lt (.var 2) (.var 5)) (E none (some (.list tied))) S = some (.bool (decide ((j : Int) < p)), S) :=
    ev_cmpG (ev_var rfl) (ev_var rfl) rfl
  refine o_nx h1 (o_nx h2 ?_)
  by_cases j0 : j = 0
  · rw [decide_eq_true (by omega)] at hk
    have e : lineM n j v X = [] := by
      unfold lineM
      split
      · rfl
      · rw [if_pos j0]
    rw [e]
    exact o_rt (sx_ifT (ev_orT hk) (sx_rt (sx_ret (ev_tupG evs_nil' (by simp)))))
  · rw [decide_eq_false (by omega)] at hk
    cases q : nearP n (toI X) v with
    | nil =>
      have e : lineM n j v X = [] := by
        unfold lineM
        rw [q]
      rw [e]
      rw [decide_eq_true (by show nearI' n X v = []; unfold nearI'; rw [q]; rfl)] at ht
      exact o_rt (sx_ifT (ev_orF hk (ev_oneG ht)) (sx_rt (sx_ret (ev_tupG evs_nil' (by simp)))))
    | cons w r =>
      rw [decide_eq_false (by show nearI' n X v ≠ []; unfold nearI'; rw [q]; simp)] at ht
      refine o_nx (sx_ifF (ev_orF hk (ev_oneG ht)) sx_nil) ?_
      by_cases jp : j < p
      · rw [decide_eq_true (by omega)] at hc
        have e : lineM n j v X = [.tn v (kF p j)⁻¹] := by
          unfold lineM
          rw [q]
          dsimp only
          rw [if_neg j0, if_pos jp]
        rw [e]
        have ci := c_law_back (fuel := fuel) (k := k) (S := S) hp (kF_ne j0 jp)
        rw [kF_val jp] at ci
        exact o_rt (sx_ifT hc (sx_rt (sx_ret (ev_tupG (evs_cons' (ev_tupG (evs_cons' ev_strC (evs_cons' (ev_var rfl) (evs_cons' (ev_callG (evs_cons' (ev_var rfl) (evs_cons' (ev_var rfl) evs_nil')) ci) evs_nil'))) (by simp [LINE])) evs_nil') (by simp [LINE])))))
      · rw [decide_eq_false (by omega)] at hc
        have e : lineM n j v X = [.tn w 1, .tn v (-(X v w * X v w)⁻¹)] := by
          unfold lineM
          rw [q]
          dsimp only
          rw [if_neg j0, if_neg jp]
        rw [e]
        have hwm : w ∈ nearP n (toI X) v := by rw [q]; exact List.mem_cons_self
        have hw := near_lt hwm
        have g0 : X v w ≠ 0 := fun z => (mem_near.mp hwm).2 (toI_zero.mpr z)
        have ci := c_law_back (fuel := fuel) (k := k) (S := S) hp (GW.mul_ne g0 g0)
        rw [cast_mul] at ci
        have ip := inv_pos (GW.mul_ne g0 g0)
        have ht0 : dIx (.list tied) (.int 0) = some (.int w) := by
          show dIx (.list (nearI' n X v)) (.int 0) = _
          unfold nearI'
          rw [q]
          exact atI_nat' (i := 0) rfl
        have hg : dIx (.list (rowL n (toI X v))) (.int (w : Int)) = some (.int (toI X v w)) := row_at hw
        have e1 : evE C (.ix (.var 3) (.int 0)) (E none (some (.list tied))) S = some (.int w, S) := ev_ixG (ev_var rfl) ev_intC ht0
        refine o_nx (sx_ifF hc sx_nil) (o_nx (sx_asg (ev_ixG (ev_var rfl) e1 hg) rfl) ?_)
        have hgl := toI_k (X := X) hp v w
        have pp := p_pos (p := p)
        have e2 : evE C (.ix (.var 3) (.int 0)) (E (some (.int (toI X v w))) (some (.list tied))) S = some (.int w, S) := ev_ixG (ev_var rfl) ev_intC ht0
        have e3 : evE C (.bin .mod (.b1 .int (.bin .sub (.int 0) (.call 12 (.cons (.var 5) (.cons (.bin .mod (.b1 .int (.bin .mul (.var 4) (.var 4))) (.var 5)) .nil))))) (.var 5)) (E (some (.int (toI X v w))) (some (.list tied))) S = some (.int ((-(X v w * X v w)⁻¹).val : Int), S) := by
          rw [neg_val' ip]
          exact ev_bin (ev_b1G (ev_bin ev_intC (ev_callG (evs_cons' (ev_var rfl) (evs_cons' (ev_bin (ev_b1G (ev_bin (ev_var rfl) (ev_var rfl) (bop_mul (by omega))) rfl) (ev_var rfl) (bop_mod (by omega))) evs_nil')) ci) rfl) rfl) (ev_var rfl) (bop_mod (by omega))
        have r := ev_tupG (C := C) (evs_cons' (ev_tupG (evs_cons' (ev_strC (x := sTurn)) (evs_cons' e2 (evs_cons' (ev_intC (n := 1)) evs_nil'))) (by simp [LINE])) (evs_cons' (ev_tupG (evs_cons' (ev_strC (x := sTurn)) (evs_cons' (ev_var (i := 1) (d := .int v) rfl) (evs_cons' e3 evs_nil'))) (by simp [LINE])) evs_nil')) (by simp [LINE])
        refine (o_rt (sx_ret r)).trans ?_
        show some (PyData.tuple [.tuple [.str sTurn, .int w, .int 1], _], S) = some (PyData.tuple [.tuple [.str sTurn, .int w, .int ((1 : FP p).val : Int)], _], S)
        rw [one_val]
        rfl
end
end TW
set_option maxRecDepth 20000
namespace TW
open PySem PySem.Spec L2 GW
inductive Sp (p : Nat) where
  | mv (m : Mv p) | out (v : Nat)
namespace Sp
def d {p : Nat} : Sp p → D
  | .mv m => m.d
  | .out v => .tuple [.str sOut, .int v]
noncomputable def on {p : Nat} [NeZero p] [PrimeP p] : Sp p → Wb (FP p) → Wb (FP p)
  | .mv m, X => m.on X
  | .out v, X => GW.out v X
def Ok {p : Nat} [NeZero p] (n : Nat) : Sp p → Prop
  | .mv m => m.Ok n
  | .out v => v < n
end Sp
section
variable {p : Nat} [NeZero p] [PrimeP p] {n fuel k : Nat} {X : Wb (FP p)} {S : Src}
noncomputable def goAll (ms : List (Sp p)) (X : Wb (FP p)) : Wb (FP p) := ms.foldl (fun X m => m.on X) X
theorem Sp.on_ok {X : Wb (FP p)} (m : Sp p) (ok : GW.Ok n X) : GW.Ok n (m.on X) := by
  cases m with
  | mv m => exact m.on_ok ok
  | out v => exact GW.Ok.out ok v
theorem goAll_ok : ∀ (ms : List (Sp p)) {X : Wb (FP p)}, Ok n X → Ok n (goAll ms X)
  | [], _, h => h
  | m :: ms, _, h => goAll_ok ms (Sp.on_ok m h)
theorem lineM_ok {v j : Nat} (hv : v < n) : ∀ m ∈ lineM n j v X, m.Ok n := by
  intro m hm
  unfold lineM at hm
  split at hm
  · simp at hm
  · rename_i w r q
    have hw : w ∈ nearP n (toI X) v := by rw [q]; exact List.mem_cons_self
    have hw := near_lt hw
    split at hm
    · simp at hm
    · split at hm
      · simp only [List.mem_singleton] at hm
        subst hm; exact hv
      · simp only [List.mem_cons, List.not_mem_nil, or_false] at hm
        rcases hm with rfl | rfl
        · exact hw
        · exact hv
theorem c_without_line (ok : Ok n X) (hp : p ≤ 1000) (hn : n ≤ 8) {v j : Nat} (hv : v < n) (hj : j ≤ p) : callT fuel (k + 5) 10 [wD n X, .int v, .int j] S = some (wD n (out v (onAll (lineM n j v X) X)), S) := by
  refine (callT_eq (f := f_without_line) rfl rfl).trans ?_
  exact o_rt (sx_ret (ev_callG (evs_cons' (ev_callG (evs_cons' (ev_var rfl) (evs_cons' (ev_callG (evs_cons' (ev_var rfl) (evs_cons' (ev_var rfl) (evs_cons' (ev_var rfl) evs_nil'))) (c_line_moves (k := k + 2) ok hp hn hv hj)) evs_nil')) (c_made_moves ok hp (by omega) _ (lineM_ok hv))) (evs_cons' (ev_var rfl) evs_nil')) (c_left_out (k := k + 3))))
theorem mv_word (m : Mv p) : ∃ x, dIx m.d (.int 0) = some (.str x) ∧ cop .eq (.str x) (.str sOut) = some false := by
  cases m with
  | tn v c => exact ⟨sTurn, rfl, by rw [cop_eq_str shp_turn shp_out, decide_eq_false (Ne.symm out_ne_turn)]⟩
  | sc v c => exact ⟨sScale, rfl, by rw [cop_eq_str shp_scale shp_out, decide_eq_false (Ne.symm out_ne_scale)]⟩
theorem c_made_steps (ok : Ok n X) (hp : p ≤ 1000) (hn : n < 64) (ms : List (Sp p)) (hm : ∀ m ∈ ms, m.Ok n) : callT fuel (k + 5) 11 [wD n X, .tuple (ms.map Sp.d)] S = some (wD n (goAll ms X), S) := by
  refine (callT_eq (f := f_made_steps) rfl rfl).trans ?_
  obtain ⟨ρ3, h3, X', ho, x, e, rfl⟩ := forGo_fold (S := S) (tg := .nm 2) (b := fun ρ S => evSs ⟨callT fuel (k + 4), fuel⟩ (.cons (.asg (.nm 0) (.ife (.cmp .eq (.ix (.var 2) (.int 0)) (.str "out")) (.call 8 (.cons (.var 0) (.cons (.ix (.var 2) (.int 1)) .nil))) (.call 7 (.cons (.var 0) (.cons (.tup (.cons (.var 2) .nil)) .nil))))) .nil) ρ S) Sp.d
    (fun (X : Wb (FP p)) ρ => ∃ X', Ok n X' ∧ ∃ x, X' = X ∧ ρ = [some (wD n X'), some (.tuple (ms.map Sp.d)), x]) (fun X m => m.on X) ms X (startE f_made_steps [wD n X, .tuple (ms.map Sp.d)]) ⟨X, ok, none, rfl, rfl⟩ (by
      rintro X0 m hmem ρ ⟨X', ok', x, rfl, rfl⟩
      refine ⟨[some (wD n X'), some (.tuple (ms.map Sp.d)), some m.d], [some (wD n (m.on X')), some (.tuple (ms.map Sp.d)), some m.d], rfl, ?_, _, Sp.on_ok m ok', some m.d, rfl, rfl⟩
      refine sx_nx (sx_asg ?_ rfl) sx_nil
      cases m with
      | mv m =>
        obtain ⟨x, h1, h2⟩ := mv_word m
        exact ev_ifeF (ev_cmpG (ev_ixG (ev_var rfl) ev_intC h1) (ev_strC (x := sOut)) h2) (ev_callG (evs_cons' (ev_var rfl) (evs_cons' (ev_tupG (evs_cons' (ev_var rfl) evs_nil') (by simp [LINE])) evs_nil')) (c_made_moves ok' hp hn [m] (fun q hq => by simp only [List.mem_singleton] at hq; subst hq; exact hm _ hmem)))
      | out v =>
        exact ev_ifeT (ev_cmpG (ev_ixG (ev_var rfl) ev_intC (d := .str sOut) rfl) (ev_strC (x := sOut)) (by rw [cop_eq_str shp_out shp_out, decide_eq_true rfl])) (ev_callG (evs_cons' (ev_var rfl) (evs_cons' (ev_ixG (ev_var rfl) ev_intC (d := .int v) rfl) evs_nil')) (c_left_out (k := k + 3))))
  subst e
  exact o_nx (sx_loop (it_dat (ev_var rfl) rfl) h3) (o_rt (sx_ret (ev_var rfl)))
theorem c_law_stepped (ok : Ok n X) (hp : p ≤ 1000) (hn : n < 64) (ms : List (Sp p)) (hm : ∀ m ∈ ms, m.Ok n) : callT fuel (k + 3) 19 [wD n X, .tuple (ms.map Sp.d)] S = some (wD n (goAll ms X), S) := by
  refine (callT_eq (f := f_law_stepped) rfl rfl).trans ?_
  obtain ⟨ρ3, h3, X', ho, x, e, rfl⟩ := forGo_fold (S := S) (tg := .nm 2) (b := fun ρ S => evSs ⟨callT fuel (k + 2), fuel⟩ (.cons (.asg (.nm 0) (.ife (.cmp .eq (.ix (.var 2) (.int 0)) (.str "out")) (.call 18 (.cons (.var 0) (.cons (.ix (.var 2) (.int 1)) .nil))) (.call 15 (.cons (.var 0) (.cons (.var 2) .nil))))) .nil) ρ S) Sp.d
    (fun (X : Wb (FP p)) ρ => ∃ X', Ok n X' ∧ ∃ x, X' = X ∧ ρ = [some (wD n X'), some (.tuple (ms.map Sp.d)), x]) (fun X m => m.on X) ms X (startE f_law_stepped [wD n X, .tuple (ms.map Sp.d)]) ⟨X, ok, none, rfl, rfl⟩ (by
      rintro X0 m hmem ρ ⟨X', ok', x, rfl, rfl⟩
      refine ⟨[some (wD n X'), some (.tuple (ms.map Sp.d)), some m.d], [some (wD n (m.on X')), some (.tuple (ms.map Sp.d)), some m.d], rfl, ?_, _, Sp.on_ok m ok', some m.d, rfl, rfl⟩
      refine sx_nx (sx_asg ?_ rfl) sx_nil
      cases m with
      | mv m =>
        obtain ⟨x, h1, h2⟩ := mv_word m
        exact ev_ifeF (ev_cmpG (ev_ixG (ev_var rfl) ev_intC h1) (ev_strC (x := sOut)) h2) (ev_callG (evs_cons' (ev_var rfl) (evs_cons' (ev_var rfl) evs_nil')) (c_law_moved ok' hp hn m (hm _ hmem)))
      | out v =>
        exact ev_ifeT (ev_cmpG (ev_ixG (ev_var rfl) ev_intC (d := .str sOut) rfl) (ev_strC (x := sOut)) (by rw [cop_eq_str shp_out shp_out, decide_eq_true rfl])) (ev_callG (evs_cons' (ev_var rfl) (evs_cons' (ev_ixG (ev_var rfl) ev_intC (d := .int v) rfl) evs_nil')) (c_law_out (k := k + 1))))
  subst e
  exact o_nx (sx_loop (it_dat (ev_var rfl) rfl) h3) (o_rt (sx_ret (ev_var rfl)))
end
end TW
set_option maxRecDepth 20000
namespace TW
open PySem PySem.Spec L2 GW
mutual
theorem keyOf_inj : ∀ (a b : D), plain a = true → plain b = true → keyOf a = keyOf b → a = b
  | .int i, b, _, hb, h => by
    cases b with
    | int j => simp only [keyOf, NestedKey.num.injEq] at h; rw [h]
    | str x => simp [keyOf] at h
    | tuple ys => simp [keyOf] at h
    | none => simp [plain] at hb
    | bool => simp [plain] at hb
    | list => simp [plain] at hb
    | dict => simp [plain] at hb
  | .str x, b, _, hb, h => by
    cases b with
    | int j => simp [keyOf] at h
    | str y => simp only [keyOf, NestedKey.text.injEq] at h; rw [h]
    | tuple ys => simp [keyOf] at h
    | none => simp [plain] at hb
    | bool => simp [plain] at hb
    | list => simp [plain] at hb
    | dict => simp [plain] at hb
  | .tuple xs, b, ha, hb, h => by
    cases b with
    | int j => simp [keyOf] at h
    | str y => simp [keyOf] at h
    | tuple ys =>
      simp only [keyOf, NestedKey.tup.injEq] at h
      rw [keysOf_inj xs ys (by simpa [plain] using ha) (by simpa [plain] using hb) h]
    | none => simp [plain] at hb
    | bool => simp [plain] at hb
    | list => simp [plain] at hb
    | dict => simp [plain] at hb
  | .none, _, ha, _, _ => by simp [plain] at ha
  | .bool _, _, ha, _, _ => by simp [plain] at ha
  | .list _, _, ha, _, _ => by simp [plain] at ha
  | .dict _, _, ha, _, _ => by simp [plain] at ha
theorem keysOf_inj : ∀ (xs ys : List D), plains xs = true → plains ys = true → keysOf xs = keysOf ys → xs = ys
  | [], ys, _, _, h => by
    cases ys with
    | nil => rfl
    | cons y ys => simp [keysOf] at h
  | x :: xs, ys, ha, hb, h => by
    cases ys with
    | nil => simp [keysOf] at h
    | cons y ys =>
      simp only [keysOf, List.cons.injEq] at h
      simp only [plains, Bool.and_eq_true] at ha hb
      rw [keyOf_inj x y ha.1 hb.1 h.1, keysOf_inj xs ys ha.2 hb.2 h.2]
end
theorem plains_iff : ∀ {xs : List D}, plains xs = true ↔ ∀ x ∈ xs, plain x = true
  | [] => by simp [plains]
  | x :: xs => by
    simp only [plains, Bool.and_eq_true, List.mem_cons, forall_eq_or_imp]
    rw [plains_iff]
theorem keysDepth {k : Nat} : ∀ {xs : List D}, (∀ x ∈ xs, (keyOf x).depth ≤ k) → NestedKey.depthAll (keysOf xs) ≤ k
  | [], _ => by simp [keysOf, NestedKey.depthAll]
  | x :: xs, h => by
    have h1 := h x List.mem_cons_self
    have h2 := keysDepth fun y hy => h y (List.mem_cons_of_mem _ hy)
    simp only [keysOf, NestedKey.depthAll]
    omega
theorem keyDepth_tup {k : Nat} {xs : List D} (h : ∀ x ∈ xs, (keyOf x).depth ≤ k) : (keyOf (.tuple xs)).depth ≤ k + 1 := by
  have := keysDepth h
  simp only [keyOf, NestedKey.depth]
  omega
section
variable {p : Nat} {n : Nat} {X Y : Wb (FP p)}
theorem tie_plain (a b : Nat) (w : Int) : plain (tieD a b w) = true := rfl
theorem ties_plain (M : Mat) (l : List (Nat × Nat)) : plains (tiesD M l) = true := by
  refine plains_iff.mpr fun x hx => ?_
  unfold tiesD at hx
  obtain ⟨q, _, rfl⟩ := List.mem_map.mp hx
  rfl
theorem webD_plain (q : Int) (n : Nat) (M : Mat) : plain (webD q n M) = true := by
  simp only [webD, plain, plains, ties_plain, Bool.and_self]
theorem webD_kOk (q : Int) (n : Nat) (M : Mat) : kOk (webD q n M) = true := by
  have h := webD_plain q n M
  unfold webD at h ⊢
  simp only [plain] at h
  simp only [kOk, h, Bool.true_and]
  refine decide_eq_true ?_
  have d1 : (keyOf (.tuple (tiesD M (tiesP n M)))).depth ≤ 2 := keyDepth_tup fun x hx => by
    unfold tiesD at hx
    obtain ⟨q, _, rfl⟩ := List.mem_map.mp hx
    exact keyDepth_tup (k := 0) fun y hy => by
      simp only [List.mem_cons, List.not_mem_nil, or_false] at hy
      rcases hy with rfl | rfl | rfl <;> simp [keyOf, NestedKey.depth]
  have := keyDepth_tup (k := 2) (xs := [.int q, .int n, .tuple (tiesD M (tiesP n M))]) fun y hy => by
    simp only [List.mem_cons, List.not_mem_nil, or_false] at hy
    rcases hy with rfl | rfl | rfl
    · simp [keyOf, NestedKey.depth]
    · simp [keyOf, NestedKey.depth]
    · exact d1
  rw [keyOf] at this
  omega
theorem wD_same (h : sameKey (wD n X) (wD n Y) = true) : wD n X = wD n Y := keyOf_inj _ _ (webD_plain _ _ _) (webD_plain _ _ _) (of_decide_eq_true h)
theorem sameKey_self (d : D) : sameKey d d = true := decide_eq_true rfl
theorem tieD_inj {a b c d : Nat} {w x : Int} (h : tieD a b w = tieD c d x) : a = c ∧ b = d ∧ w = x := by
  unfold tieD at h
  simp only [PyData.tuple.injEq, List.cons.injEq, PyData.int.injEq] at h
  omega
theorem mem_tiesD {M : Mat} {a b : Nat} {w : Int} : tieD a b w ∈ tiesD M (tiesP n M) ↔ a < b ∧ b < n ∧ M a b ≠ 0 ∧ M a b = w := by
  unfold tiesD
  rw [List.mem_map]
  constructor
  · rintro ⟨q, hq, e⟩
    obtain ⟨rfl, rfl, rfl⟩ := tieD_inj e
    obtain ⟨h1, h2, h3⟩ := mem_ties.mp hq
    exact ⟨h1, h2, h3, rfl⟩
  · rintro ⟨h1, h2, h3, rfl⟩
    exact ⟨(a, b), mem_ties.mpr ⟨h1, h2, h3⟩, rfl⟩
theorem webD_cells {q : Int} {M F : Mat} (h : webD q n M = webD q n F) {a b : Nat} (hab : a < b) (hb : b < n) : M a b = F a b := by
  unfold webD at h
  simp only [PyData.tuple.injEq, List.cons.injEq, true_and, and_true] at h
  by_cases z : M a b = 0
  · by_cases z' : F a b = 0
    · rw [z, z']
    · have : tieD a b (F a b) ∈ tiesD M (tiesP n M) := by rw [h]; exact mem_tiesD.mpr ⟨hab, hb, z', rfl⟩
      exact (mem_tiesD.mp this).2.2.2
  · have : tieD a b (M a b) ∈ tiesD F (tiesP n F) := by rw [← h]; exact mem_tiesD.mpr ⟨hab, hb, z, rfl⟩
    exact (mem_tiesD.mp this).2.2.2.symm
variable [NeZero p] [PrimeP p]
theorem wD_inj (okX : Ok n X) (okY : Ok n Y) (h : wD n X = wD n Y) : X = Y := by
  have key : ∀ a b, a < b → X a b = Y a b := fun a b hab => by
    by_cases hb : b < n
    · have := webD_cells h hab hb
      unfold toI at this
      exact _root_.Fin.ext (by omega)
    · rw [okX.sym, okY.sym, okX.far b a (by omega), okY.far b a (by omega)]
  funext a b
  rcases Nat.lt_trichotomy a b with h | h | h
  · exact key a b h
  · subst h; rw [okX.dia, okY.dia]
  · rw [okX.sym, okY.sym]; exact key b a h
end
/-! all moves -/
section
variable {p : Nat} [NeZero p] [PrimeP p] {n : Nat}
def mvs (p : Nat) [NeZero p] (n : Nat) : List (Mv p) := (List.range n).flatMap fun v => (List.range (p - 1)).map (fun i => Mv.tn v (kF p (1 + i))) ++ (List.range (p - 2)).map (fun i => Mv.sc v (kF p (2 + i)))
theorem mvs_d : (mvs p n).map Mv.d = movesL p n := by
  unfold mvs movesL
  generalize List.range n = l
  induction l with
  | nil => rfl
  | cons v l ih =>
    rw [List.flatMap_cons, List.flatMap_cons, List.map_append, ih, List.map_append, List.map_map, List.map_map]
    congr 2
    · unfold mvRow
      refine List.map_congr_left fun i hi => ?_
      have := List.mem_range.mp hi
      simp only [Function.comp, Mv.d]
      rw [kF_val (by omega)]
    · unfold mvRow
      refine List.map_congr_left fun i hi => ?_
      have := List.mem_range.mp hi
      simp only [Function.comp, Mv.d]
      rw [kF_val (by omega)]
theorem mvs_ok : ∀ m ∈ mvs p n, m.Ok n := by
  intro m hm
  unfold mvs at hm
  simp only [List.mem_flatMap, List.mem_range, List.mem_append, List.mem_map] at hm
  obtain ⟨v, hv, ⟨i, hi, rfl⟩ | ⟨i, hi, rfl⟩⟩ := hm
  · exact hv
  · exact ⟨hv, kF_ne (by omega) (by omega)⟩
theorem kF_self (x : FP p) : kF p x.val = x := _root_.Fin.ext (kF_val x.isLt)
theorem mvs_all (m : Mv p) (hm : m.Ok n) (X : Wb (FP p)) : m ∈ mvs p n ∨ m.on X = X := by
  cases m with
  | tn v c =>
    by_cases h : c = 0
    · subst h
      exact .inr (tn_zero X v)
    · left
      have hc : c.val ≠ 0 := fun e => h (_root_.Fin.val_eq_zero_iff.mp e)
      have := c.isLt
      unfold mvs
      simp only [List.mem_flatMap, List.mem_range, List.mem_append, List.mem_map]
      refine ⟨v, hm, .inl ⟨c.val - 1, by omega, ?_⟩⟩
      have e : 1 + (c.val - 1) = c.val := by omega
      rw [e, kF_self]
  | sc v s =>
    by_cases h : s = 1
    · subst h
      exact .inr (sc_one X v)
    · left
      have hs : s.val ≠ 0 := fun e => hm.2 (_root_.Fin.val_eq_zero_iff.mp e)
      have h1 : s.val ≠ 1 := fun e => h (_root_.Fin.ext (by rw [one_val]; exact e))
      have := s.isLt
      unfold mvs
      simp only [List.mem_flatMap, List.mem_range, List.mem_append, List.mem_map]
      refine ⟨v, hm.1, .inr ⟨s.val - 2, by omega, ?_⟩⟩
      have e : 2 + (s.val - 2) = s.val := by omega
      rw [e, kF_self]
end
end TW
set_option maxRecDepth 20000
namespace TW
open PySem PySem.Spec L2 GW
section
variable {p : Nat} [NeZero p] [PrimeP p] {n fuel k : Nat} {S : Src}
abbrev Fs (p : Nat) := List (Wb (FP p) × List (Mv p))
def foundD (n : Nat) (fs : Fs p) : List (D × D) := fs.map fun q => (wD n q.1, PyData.tuple (q.2.map Mv.d))
def keysF (fs : Fs p) : List (Wb (FP p)) := fs.map (·.1)
structure Good (n : Nat) (X : Wb (FP p)) (fs : Fs p) : Prop where
  nd : (keysF fs).Nodup
  ok : ∀ Y ∈ keysF fs, Ok n Y
  re : ∀ Y ∈ keysF fs, Reach n X Y
  ln : ∀ q ∈ fs, q.2.length ≤ fs.length
theorem foundD_len (fs : Fs p) : (foundD n fs).length = fs.length := by simp [foundD]
theorem find_no {fs : Fs p} {Y : Wb (FP p)} (ok : ∀ Y ∈ keysF fs, Ok n Y) (oY : Ok n Y) (h : Y ∉ keysF fs) : ∀ q ∈ foundD n fs, sameKey q.1 (wD n Y) = false := by
  intro q hq
  unfold foundD at hq
  obtain ⟨r, hr, rfl⟩ := List.mem_map.mp hq
  have hk : r.1 ∈ keysF fs := List.mem_map_of_mem (f := (·.1)) hr
  cases e : sameKey (wD n r.1) (wD n Y) with
  | false => rfl
  | true =>
    have := wD_inj (ok _ hk) oY (wD_same e)
    rw [this] at hk
    exact absurd hk h
theorem dFind_no {fs : Fs p} {Y : Wb (FP p)} (ok : ∀ Y ∈ keysF fs, Ok n Y) (oY : Ok n Y) (h : Y ∉ keysF fs) : dFind (foundD n fs) (wD n Y) = none := by
  unfold dFind
  rw [List.find?_eq_none.mpr]
  · rfl
  · intro q hq
    rw [find_no ok oY h q hq]
    exact Bool.false_ne_true
theorem dPut_no {fs : Fs p} {Y : Wb (FP p)} (ok : ∀ Y ∈ keysF fs, Ok n Y) (oY : Ok n Y) (h : Y ∉ keysF fs) (v : D) : dPut (foundD n fs) (wD n Y) v = foundD n fs ++ [(wD n Y, v)] := by
  unfold dPut
  rw [if_neg]
  intro e
  obtain ⟨q, hq, e⟩ := List.any_eq_true.mp e
  rw [find_no ok oY h q hq] at e
  exact Bool.false_ne_true e
theorem dFind_yes : ∀ {fs : Fs p} {Y : Wb (FP p)}, (∀ Y ∈ keysF fs, Ok n Y) → Ok n Y → Y ∈ keysF fs → ∃ ms, (Y, ms) ∈ fs ∧ dFind (foundD n fs) (wD n Y) = some (.tuple (ms.map Mv.d))
  | [], _, _, _, h => by simp [keysF] at h
  | q :: fs, Y, ok, oY, h => by
    unfold dFind foundD
    rw [List.map_cons, List.find?_cons]
    by_cases e : q.1 = Y
    · refine ⟨q.2, by rw [← e]; exact List.mem_cons_self, ?_⟩
      rw [e, sameKey_self]
      rfl
    · have h' : Y ∈ keysF fs := by
        rcases List.mem_cons.mp h with e' | h'
        · exact absurd e'.symm e
        · exact h'
      have : sameKey (wD n q.1) (wD n Y) = false := by
        cases e' : sameKey (wD n q.1) (wD n Y) with
        | false => rfl
        | true => exact absurd (wD_inj (ok _ List.mem_cons_self) oY (wD_same e')) e
      rw [this]
      obtain ⟨ms, h1, h2⟩ := dFind_yes (fs := fs) (fun Y hY => ok Y (List.mem_cons_of_mem _ hY)) oY h'
      exact ⟨ms, List.mem_cons_of_mem _ h1, h2⟩
abbrev inB : Sts := .cons (.asg (.nm 7) (.call 15 (.cons (.var 5) (.cons (.var 6) .nil)))) (.cons (.ife (.cmp .notIn (.var 7) (.var 2)) (.cons (.set1 2 (.var 7) (.bin .add (.ix (.var 2) (.var 5)) (.tup (.cons (.var 6) .nil)))) (.cons (.app 4 (.var 7)) .nil)) .nil) .nil)
abbrev outB : Sts := .cons (.asg (.nm 4) (.lst .nil)) (.cons (.loop (.nm 5) (.dat (.var 3)) (.cons (.loop (.nm 6) (.dat (.var 1)) inB) .nil)) (.cons (.asg (.nm 3) (.b1 .list (.var 4))) .nil))
def webs (n : Nat) (l : List (Wb (FP p))) : List D := l.map (wD n)
def envC (n : Nat) (X : Wb (FP p)) (fs : Fs p) (line : List (Wb (FP p))) (late here move there : Option D) : DEnv :=
  [some (wD n X), some (.list (movesL p n)), some (.dict (foundD n fs)), some (.list (webs n line)), late, here, move, there]
/-- one move of one web -/
theorem class_step {X Y : Wb (FP p)} {fs : Fs p} {line late : List (Wb (FP p))} {there : Option D} {m : Mv p} (hp : p ≤ 1000) (hn : n < 64) {N : Nat} (hN : ∀ l : List (Wb (FP p)), l.Nodup → (∀ Y ∈ l, Ok n Y) → l.length ≤ N) (hNL : N < LINE)
    (g : Good n X fs) (hY : Y ∈ keysF fs) (hm : m.Ok n) (hl : late.length ≤ fs.length) :
    ∃ fs' late', evSs ⟨callT fuel (k + 2), fuel⟩ inB (envC n X fs line (some (.list (webs n late))) (some (wD n Y)) (some m.d) there) S = some (.nx, envC n X fs' line (some (.list (webs n late'))) (some (wD n Y)) (some m.d) (some (wD n (m.on Y))), S) ∧
      Good n X fs' ∧ (∀ Z ∈ keysF fs, Z ∈ keysF fs') ∧ m.on Y ∈ keysF fs' ∧ (∀ Z ∈ keysF fs', Z ∈ keysF fs ∨ Z ∈ late') ∧ (∀ Z ∈ late, Z ∈ late') ∧ (∀ Z ∈ late', Z ∈ late ∨ Z ∈ keysF fs') ∧ fs'.length + late.length = fs.length + late'.length := by
  have okY := g.ok Y hY
  have okZ := Mv.on_ok m okY
  have fl : fs.length ≤ N := by have := hN _ g.nd g.ok; simpa [keysF] using this
  let C : Ctx := ⟨callT fuel (k + 2), fuel⟩
  have e1 : evS C (.asg (.nm 7) (.call 15 (.cons (.var 5) (.cons (.var 6) .nil)))) (envC n X fs line (some (.list (webs n late))) (some (wD n Y)) (some m.d) there) S = some (.nx, envC n X fs line (some (.list (webs n late))) (some (wD n Y)) (some m.d) (some (wD n (m.on Y))), S) :=
    sx_asg (ev_callG (evs_cons' (ev_var rfl) (evs_cons' (ev_var rfl) evs_nil')) (c_law_moved okY hp hn m hm)) rfl
  have hkOk : kOk (wD n (m.on Y)) = true := webD_kOk _ _ _
  by_cases hin : m.on Y ∈ keysF fs
  · obtain ⟨ms, _, hf⟩ := dFind_yes g.ok okZ hin
    have c : cop .notIn (wD n (m.on Y)) (.dict (foundD n fs)) = some false := by
      simp only [cop, dIn, hkOk, if_true, hf, Option.map, Option.isSome, Bool.not_true]
    refine ⟨fs, late, sx_nx e1 (sx_nx (sx_ifF (ev_cmpG (ev_var rfl) (ev_var rfl) c) sx_nil) sx_nil), g, fun _ h => h, hin, fun _ h => .inl h, fun _ h => h, fun _ h => .inl h, rfl⟩
  · have hf := dFind_no g.ok okZ hin
    have c : cop .notIn (wD n (m.on Y)) (.dict (foundD n fs)) = some true := by
      simp only [cop, dIn, hkOk, if_true, hf, Option.map, Option.isSome, Bool.not_false]
    obtain ⟨ms, hmem, hfY⟩ := dFind_yes g.ok okY hY
    have kY : kOk (wD n Y) = true := webD_kOk _ _ _
    have ix : dIx (.dict (foundD n fs)) (wD n Y) = some (.tuple (ms.map Mv.d)) := by
      simp only [dIx, kY, if_true, hfY]
    have ml := g.ln _ hmem
    have hb : bop .add (.tuple (ms.map Mv.d)) (.tuple [m.d]) = some (.tuple ((ms ++ [m]).map Mv.d)) := by
      simp only [bop, List.length_map, List.length_singleton, List.map_append, List.map_cons, List.map_nil]
      rw [if_pos (by dsimp only at ml; omega)]
    have hv : evE C (.bin .add (.ix (.var 2) (.var 5)) (.tup (.cons (.var 6) .nil))) (envC n X fs line (some (.list (webs n late))) (some (wD n Y)) (some m.d) (some (wD n (m.on Y)))) S = some (.tuple ((ms ++ [m]).map Mv.d), S) :=
      ev_bin (ev_ixG (ev_var rfl) (ev_var rfl) ix) (ev_tupG (evs_cons' (ev_var rfl) evs_nil') (by simp [LINE])) hb
    have hput := dPut_no g.ok okZ hin (.tuple ((ms ++ [m]).map Mv.d))
    have hfs : foundD n fs ++ [(wD n (m.on Y), PyData.tuple ((ms ++ [m]).map Mv.d))] = foundD n (fs ++ [(m.on Y, ms ++ [m])]) := by
      simp [foundD]
    have hlen : decide ((foundD n fs).length < LINE) = true := decide_eq_true (by rw [foundD_len]; omega)
    have e2 : evS C (.set1 2 (.var 7) (.bin .add (.ix (.var 2) (.var 5)) (.tup (.cons (.var 6) .nil)))) (envC n X fs line (some (.list (webs n late))) (some (wD n Y)) (some m.d) (some (wD n (m.on Y)))) S = some (.nx, envC n X (fs ++ [(m.on Y, ms ++ [m])]) line (some (.list (webs n late))) (some (wD n Y)) (some m.d) (some (wD n (m.on Y))), S) := by
      have h7 : evE C (.var 7) (envC n X fs line (some (.list (webs n late))) (some (wD n Y)) (some m.d) (some (wD n (m.on Y)))) S = some (wD n (m.on Y), S) := ev_var rfl
      have h2 : (envC n X fs line (some (.list (webs n late))) (some (wD n Y)) (some m.d) (some (wD n (m.on Y))))[2]? = some (some (.dict (foundD n fs))) := rfl
      have hw : wD n (m.on Y) = PyData.tuple [.int p, .int n, .tuple (tiesD (toI (m.on Y)) (tiesP n (toI (m.on Y))))] := rfl
      simp only [evS, hv, h7, h2]
      rw [hw] at hkOk hput hfs ⊢
      rw [hkOk, hlen, hput, hfs, ← hw]
      rfl
    have wl : (webs n late).length = late.length := by simp [webs]
    have e3 : evS C (.app 4 (.var 7)) (envC n X (fs ++ [(m.on Y, ms ++ [m])]) line (some (.list (webs n late))) (some (wD n Y)) (some m.d) (some (wD n (m.on Y)))) S = some (.nx, envC n X (fs ++ [(m.on Y, ms ++ [m])]) line (some (.list (webs n (late ++ [m.on Y])))) (some (wD n Y)) (some m.d) (some (wD n (m.on Y))), S) := by
      have := sx_app (C := C) (S := S) (i := 4) (xs := webs n late) (ρ := envC n X (fs ++ [(m.on Y, ms ++ [m])]) line (some (.list (webs n late))) (some (wD n Y)) (some m.d) (some (wD n (m.on Y)))) rfl (ev_var (i := 7) rfl) (by rw [wl]; omega)
      rw [this]
      unfold webs
      rw [List.map_append]
      rfl
    have kk : keysF (fs ++ [(m.on Y, ms ++ [m])]) = keysF fs ++ [m.on Y] := by simp [keysF]
    refine ⟨fs ++ [(m.on Y, ms ++ [m])], late ++ [m.on Y], sx_nx e1 (sx_nx (sx_ifT (ev_cmpG (ev_var rfl) (ev_var rfl) c) (sx_nx e2 (sx_nx e3 sx_nil))) sx_nil), ⟨?_, ?_, ?_, ?_⟩, ?_, ?_, ?_, ?_, ?_, ?_⟩
    · rw [kk]
      refine List.nodup_append.mpr ⟨g.nd, by simp, fun a ha b hb e => ?_⟩
      simp only [List.mem_singleton] at hb
      subst hb; subst e
      exact hin ha
    · rw [kk]
      intro Z hZ
      rcases List.mem_append.mp hZ with h | h
      · exact g.ok Z h
      · simp only [List.mem_singleton] at h; subst h; exact okZ
    · rw [kk]
      intro Z hZ
      rcases List.mem_append.mp hZ with h | h
      · exact g.re Z h
      · simp only [List.mem_singleton] at h
        subst h
        refine (g.re Y hY).trans ?_
        cases m with
        | tn v c => exact .tn1 _ _ hm
        | sc v s => exact .sc1 _ hm.1 hm.2
    · intro q hq
      rw [List.length_append, List.length_singleton]
      rcases List.mem_append.mp hq with h | h
      · have := g.ln q h; omega
      · simp only [List.mem_singleton] at h
        subst h
        dsimp only
        rw [List.length_append, List.length_singleton]
        dsimp only at ml
        omega
    · intro Z hZ; rw [kk]; exact List.mem_append_left _ hZ
    · rw [kk]; simp
    · intro Z hZ
      rw [kk] at hZ
      rcases List.mem_append.mp hZ with h | h
      · exact .inl h
      · exact .inr (List.mem_append_right _ h)
    · intro Z hZ; exact List.mem_append_left _ hZ
    · intro Z hZ
      rcases List.mem_append.mp hZ with h | h
      · exact .inl h
      · right; rw [kk]; exact List.mem_append_right _ h
    · rw [List.length_append, List.length_append, List.length_singleton]
      simp
      omega
end
end TW
set_option maxRecDepth 20000
namespace TW
open PySem PySem.Spec L2 GW
section
variable {p : Nat} [NeZero p] [PrimeP p] {n fuel k : Nat} {S : Src}
def Closed (n : Nat) (fs : Fs p) (Z : Wb (FP p)) : Prop := ∀ m ∈ mvs p n, m.on Z ∈ keysF fs
theorem movesL_d : movesL p n = (mvs p n).map Mv.d := mvs_d.symm
theorem class_moves {X Y : Wb (FP p)} {fs : Fs p} {line late : List (Wb (FP p))} {mv th : Option D} (hp : p ≤ 1000) (hn : n < 64) {N : Nat} (hN : ∀ l : List (Wb (FP p)), l.Nodup → (∀ Y ∈ l, Ok n Y) → l.length ≤ N) (hNL : N < LINE)
    (g : Good n X fs) (hY : Y ∈ keysF fs) (hl : late.length ≤ fs.length) (hs : ∀ Z ∈ late, Z ∈ keysF fs) :
    ∃ fs' late' mv' th', evSs ⟨callT fuel (k + 2), fuel⟩ (.cons (.loop (.nm 6) (.dat (.var 1)) inB) .nil) (envC n X fs line (some (.list (webs n late))) (some (wD n Y)) mv th) S = some (.nx, envC n X fs' line (some (.list (webs n late'))) (some (wD n Y)) mv' th', S) ∧
      Good n X fs' ∧ (∀ Z ∈ keysF fs, Z ∈ keysF fs') ∧ Closed n fs' Y ∧ (∀ Z ∈ keysF fs', Z ∈ keysF fs ∨ Z ∈ late') ∧ (∀ Z ∈ late, Z ∈ late') ∧ (∀ Z ∈ late', Z ∈ keysF fs') ∧ fs'.length + late.length = fs.length + late'.length := by
  obtain ⟨ρ', h, fs', late', mv', th', rfl, g', h1, h2, h3, h4, h5, h6⟩ := forGo_foldI (S := S) (tg := .nm 6) (b := fun ρ S => evSs ⟨callT fuel (k + 2), fuel⟩ inB ρ S) Mv.d
    (fun i (_ : Unit) ρ => ∃ fs' late' mv' th', ρ = envC n X fs' line (some (.list (webs n late'))) (some (wD n Y)) mv' th' ∧ Good n X fs' ∧ (∀ Z ∈ keysF fs, Z ∈ keysF fs') ∧ (∀ j m, j < i → (mvs p n)[j]? = some m → m.on Y ∈ keysF fs') ∧ (∀ Z ∈ keysF fs', Z ∈ keysF fs ∨ Z ∈ late') ∧ (∀ Z ∈ late, Z ∈ late') ∧ (∀ Z ∈ late', Z ∈ keysF fs') ∧ fs'.length + late.length = fs.length + late'.length)
    (fun _ _ => ()) (mvs p n) 0 () _ ⟨fs, late, mv, th, rfl, g, fun _ h => h, fun j m hj => by omega, fun _ h => .inl h, fun _ h => h, hs, rfl⟩ (by
      rintro i _ m ρ hm ⟨fs', late', mv', th', rfl, g', h1, h2, h3, h4, h5, h6⟩
      have hmok := mvs_ok m (List.mem_of_getElem? hm)
      obtain ⟨fs'', late'', q0, q1, q2, q3, q4, q5, q6, q7⟩ := class_step (k := k) (fuel := fuel) (S := S) (line := line) (late := late') (there := th') hp hn hN hNL g' (h1 Y hY) hmok (by omega)
      refine ⟨envC n X fs' line (some (.list (webs n late'))) (some (wD n Y)) (some m.d) th', _, rfl, q0, fs'', late'', some m.d, _, rfl, q1, fun Z hZ => q2 Z (h1 Z hZ), fun j m' hj hm' => ?_, fun Z hZ => ?_, fun Z hZ => q5 Z (h4 Z hZ), fun Z hZ => ?_, by omega⟩
      · by_cases e : j = i
        · subst e
          rw [hm] at hm'
          cases hm'
          exact q3
        · exact q2 _ (h2 j m' (by omega) hm')
      · rcases q4 Z hZ with h | h
        · rcases h3 Z h with h | h
          · exact .inl h
          · exact .inr (q5 Z h)
        · exact .inr h
      · rcases q6 Z hZ with h | h
        · exact q2 Z (h5 Z h)
        · exact h)
  refine ⟨fs', late', mv', th', sx_nx (sx_loop (it_dat (ev_var rfl) (by rw [movesL_d]; rfl)) h) sx_nil, g', h1, fun m hm => ?_, h3, h4, h5, h6⟩
  obtain ⟨j, hj, e⟩ := List.getElem_of_mem hm
  exact h2 j m (by omega) (by rw [List.getElem?_eq_getElem hj, e])
/-- one round -/
theorem class_round {X : Wb (FP p)} {fs : Fs p} {line : List (Wb (FP p))} {la he mv th : Option D} (hp : p ≤ 1000) (hn : n < 64) {N : Nat} (hN : ∀ l : List (Wb (FP p)), l.Nodup → (∀ Y ∈ l, Ok n Y) → l.length ≤ N) (hNL : N < LINE)
    (g : Good n X fs) (hl : ∀ Z ∈ line, Z ∈ keysF fs) (hc : ∀ Z ∈ keysF fs, Z ∈ line ∨ Closed n fs Z) :
    ∃ fs' late la' he' mv' th', evSs ⟨callT fuel (k + 2), fuel⟩ outB (envC n X fs line la he mv th) S = some (.nx, envC n X fs' late la' he' mv' th', S) ∧
      Good n X fs' ∧ (∀ Z ∈ keysF fs, Z ∈ keysF fs') ∧ (∀ Z ∈ late, Z ∈ keysF fs') ∧ (∀ Z ∈ keysF fs', Z ∈ late ∨ Closed n fs' Z) ∧ fs'.length = fs.length + late.length := by
  let C : Ctx := ⟨callT fuel (k + 2), fuel⟩
  have e1 : evS C (.asg (.nm 4) (.lst .nil)) (envC n X fs line la he mv th) S = some (.nx, envC n X fs line (some (.list (webs (p := p) n []))) he mv th, S) := sx_asg (ev_lstG evs_nil' (by simp)) rfl
  obtain ⟨ρ', h, fs', late', he', mv', th', rfl, g', h1, h2, h3, h4⟩ := forGo_foldI (S := S) (tg := .nm 5) (b := fun ρ S => evSs C (.cons (.loop (.nm 6) (.dat (.var 1)) inB) .nil) ρ S) (wD n)
    (fun i (_ : Unit) ρ => ∃ fs' late' he' mv' th', ρ = envC n X fs' line (some (.list (webs n late'))) he' mv' th' ∧ Good n X fs' ∧ (∀ Z ∈ keysF fs, Z ∈ keysF fs') ∧ (∀ Z ∈ late', Z ∈ keysF fs') ∧ (∀ Z ∈ keysF fs', Z ∈ late' ∨ (∃ j, i ≤ j ∧ line[j]? = some Z) ∨ Closed n fs' Z) ∧ fs'.length = fs.length + late'.length)
    (fun _ _ => ()) line 0 () _ ⟨fs, [], he, mv, th, rfl, g, fun _ h => h, fun _ h => by simp at h, fun Z hZ => (hc Z hZ).elim (fun h => by obtain ⟨j, hj, e⟩ := List.getElem_of_mem h; exact .inr (.inl ⟨j, by omega, by rw [List.getElem?_eq_getElem hj, e]⟩)) fun h => .inr (.inr h), rfl⟩ (by
      rintro i _ Y ρ hY ⟨fs', late', he', mv', th', rfl, g', h1, h2, h3, h4⟩
      have hYk := h1 Y (hl Y (List.mem_of_getElem? hY))
      obtain ⟨fs'', late'', mv'', th'', q0, q1, q2, q3, q4, q5, q6, q7⟩ := class_moves (k := k) (fuel := fuel) (S := S) (line := line) (late := late') (mv := mv') (th := th') hp hn hN hNL g' hYk (by omega) h2
      refine ⟨envC n X fs' line (some (.list (webs n late'))) (some (wD n Y)) mv' th', _, rfl, q0, fs'', late'', _, mv'', th'', rfl, q1, fun Z hZ => q2 Z (h1 Z hZ), q6, fun Z hZ => ?_, by omega⟩
      rcases q4 Z hZ with h | h
      · rcases h3 Z h with h | ⟨j, hj, e⟩ | h
        · exact .inl (q5 Z h)
        · by_cases ej : j = 0 + i
          · subst ej
            rw [Nat.zero_add, hY] at e
            cases e
            exact .inr (.inr q3)
          · exact .inr (.inl ⟨j, by omega, e⟩)
        · exact .inr (.inr fun m hm => q2 _ (h m hm))
      · exact .inl h)
  refine ⟨fs', late', _, he', mv', th', sx_nx e1 (sx_nx (sx_loop (it_dat (ev_var rfl) rfl) h) (sx_nx (sx_asg (ev_b1G (ev_var rfl) rfl) rfl) sx_nil)), g', h1, h2, fun Z hZ => ?_, h4⟩
  rcases h3 Z hZ with h | ⟨j, hj, e⟩ | h
  · exact .inl h
  · have := (List.getElem?_eq_some_iff.mp e).1
    omega
  · exact .inr h
theorem webs_shp (hn : n ≤ 8) (hp : p ≤ 1000) (line : List (Wb (FP p))) : shp (.list (webs n line)) = true :=
  (Sm.list (k := 3) (w := 37635) (m := line.length) (fun x hx => by
    unfold webs at hx
    obtain ⟨Y, _, rfl⟩ := List.mem_map.mp hx
    exact wD_sm hn hp) (by simp [webs])).shp (by omega)
theorem cop_ne_list_nil {xs : List D} (h : shp (.list xs) = true) : cop .ne (.list xs) (.list []) = some (decide (xs ≠ [])) := by
  have : shp (.list []) = true := rfl
  simp only [cop, h, this, Bool.and_self, if_true]
  cases xs with
  | nil => rfl
  | cons x xs => rw [eqv_nil]; rfl
/-- the rounds till nothing is new -/
theorem class_while {X : Wb (FP p)} (hp : p ≤ 1000) (hn : n ≤ 8) {N : Nat} (hN : ∀ l : List (Wb (FP p)), l.Nodup → (∀ Y ∈ l, Ok n Y) → l.length ≤ N) (hNL : N < LINE) :
    ∀ (f : Nat) (fs : Fs p) (line : List (Wb (FP p))) (la he mv th : Option D), Good n X fs → (∀ Z ∈ line, Z ∈ keysF fs) → (∀ Z ∈ keysF fs, Z ∈ line ∨ Closed n fs Z) → X ∈ keysF fs → (line = [] ∧ 1 ≤ f ∨ N + 2 ≤ f + fs.length) →
    ∃ fs' la' he' mv' th', whlGo (fun ρ S => evE ⟨callT fuel (k + 2), fuel⟩ (.cmp .ne (.var 3) (.lst .nil)) ρ S) (fun ρ S => evSs ⟨callT fuel (k + 2), fuel⟩ outB ρ S) f (envC n X fs line la he mv th) S = some (.nx, envC n X fs' [] la' he' mv' th', S) ∧
      Good n X fs' ∧ (∀ Z ∈ keysF fs', Closed n fs' Z) ∧ X ∈ keysF fs'
  | 0, fs, line, _, _, _, _, g, _, _, _, hf => by
    have fl : fs.length ≤ N := by have := hN _ g.nd g.ok; simpa [keysF] using this
    rcases hf with h | h <;> omega
  | f + 1, fs, line, la, he, mv, th, g, hl, hc, hX, hf => by
    have fl : fs.length ≤ N := by have := hN _ g.nd g.ok; simpa [keysF] using this
    have ht : evE ⟨callT fuel (k + 2), fuel⟩ (.cmp .ne (.var 3) (.lst .nil)) (envC n X fs line la he mv th) S = some (.bool (decide (webs n line ≠ [])), S) :=
      ev_cmpG (ev_var rfl) (ev_lstG evs_nil' (by simp)) (cop_ne_list_nil (webs_shp hn hp line))
    cases q : line with
    | nil =>
      subst q
      refine ⟨fs, la, he, mv, th, ?_, g, fun Z hZ => (hc Z hZ).resolve_left (by simp), hX⟩
      unfold whlGo
      rw [ht]
      rfl
    | cons Y r =>
      have e : decide (webs n line ≠ []) = true := by rw [q]; rfl
      rw [e] at ht
      obtain ⟨fs', late, la', he', mv', th', q0, q1, q2, q3, q4, q5⟩ := class_round (k := k) (fuel := fuel) (S := S) (la := la) (he := he) (mv := mv) (th := th) hp (by omega) hN hNL g hl hc
      have hf' : late = [] ∧ 1 ≤ f ∨ N + 2 ≤ f + fs'.length := by
        rcases hf with ⟨h, _⟩ | h
        · rw [q] at h; cases h
        · cases late with
          | nil => left; exact ⟨rfl, by omega⟩
          | cons _ _ => right; rw [q5]; simp only [List.length_cons]; omega
      obtain ⟨fs'', la'', he'', mv'', th'', r0, r1⟩ := class_while hp hn hN hNL f fs' late la' he' mv' th' q1 q3 q4 (q2 X hX) hf'
      refine ⟨fs'', la'', he'', mv'', th'', ?_, r1⟩
      rw [← q]
      unfold whlGo
      rw [ht]
      dsimp only
      rw [q0]
      exact r0
/-- all webs that moves make -/
theorem c_law_class {X : Wb (FP p)} (ok : Ok n X) (hp : p ≤ 1000) (hn : n ≤ 8) {N : Nat} (hN : ∀ l : List (Wb (FP p)), l.Nodup → (∀ Y ∈ l, Ok n Y) → l.length ≤ N) (hNL : N < LINE) (hfu : N + 2 ≤ fuel) :
    ∃ fs : Fs p, callT fuel (k + 3) 17 [wD n X] S = some (.dict (foundD n fs), S) ∧ Good n X fs ∧ (∀ Z ∈ keysF fs, Closed n fs Z) ∧ X ∈ keysF fs := by
  let C : Ctx := ⟨callT fuel (k + 2), fuel⟩
  have g0 : Good n X [(X, [])] := by
    refine ⟨by simp [keysF], ?_, ?_, ?_⟩
    · intro Y hY
      simp only [keysF, List.map_cons, List.map_nil, List.mem_singleton] at hY
      subst hY; exact ok
    · intro Y hY
      simp only [keysF, List.map_cons, List.map_nil, List.mem_singleton] at hY
      subst hY; exact .refl _
    · intro q hq
      simp only [List.mem_singleton] at hq
      subst hq
      simp
  have kX : kOk (wD n X) = true := webD_kOk _ _ _
  have ed : evE C (.dic (.cons (.var 0) .nil) (.cons (.tup .nil) .nil)) (startE f_law_class [wD n X]) S = some (.dict (foundD n [(X, [])]), S) := by
    exact ev_dic1 (ev_var rfl) (ev_tupG evs_nil' (by simp)) kX
  have e1 : evS C (.par [1, 2, 3] (.cons (.call 16 (.cons (.ix (.var 0) (.int 0)) (.cons (.ix (.var 0) (.int 1)) .nil))) (.cons (.dic (.cons (.var 0) .nil) (.cons (.tup .nil) .nil)) (.cons (.lst (.cons (.var 0) .nil)) .nil)))) (startE f_law_class [wD n X]) S = some (.nx, envC n X [(X, [])] [X] none none none none, S) :=
    sx_par (evs_cons' (ev_callG (evs_cons' (ev_ixG (ev_var rfl) ev_intC (d := .int p) rfl) (evs_cons' (ev_ixG (ev_var rfl) ev_intC (d := .int n) rfl) evs_nil')) (c_law_moves hp (by omega))) (evs_cons' ed (evs_cons' (ev_lstG (evs_cons' (ev_var rfl) evs_nil') (by simp [LINE])) evs_nil'))) rfl
  have hXk : X ∈ keysF [(X, ([] : List (Mv p)))] := by simp [keysF]
  obtain ⟨fs, la, he, mv, th, h, g, hc, hX⟩ := class_while (k := k) (fuel := fuel) (S := S) (X := X) hp hn hN hNL fuel [(X, [])] [X] none none none none g0 (fun Z hZ => by simpa [keysF] using hZ) (fun Z hZ => .inl (by simpa [keysF] using hZ)) hXk (.inr (by simp; omega))
  refine ⟨fs, (callT_eq (f := f_law_class) rfl rfl).trans ?_, g, hc, hX⟩
  have e2 : evS C (.whl (.cmp .ne (.var 3) (.lst .nil)) outB) (envC n X [(X, [])] [X] none none none none) S = some (.nx, envC n X fs [] la he mv th, S) := by
    simp only [evS]
    exact h
  exact o_nx e1 (o_nx e2 (o_rt (sx_ret (ev_var rfl))))
/-- a closed dict has all that is led to -/
theorem closed_led {fs : Fs p} (hc : ∀ Z ∈ keysF fs, Closed n fs Z) {A B : Wb (FP p)} (h : Reach n A B) : A ∈ keysF fs → B ∈ keysF fs := by
  induction h with
  | refl => exact id
  | @tn M N v c hv _ ih =>
    intro hA
    apply ih
    rcases mvs_all (.tn v c) hv M with h | h
    · exact hc M hA _ h
    · rw [show GW.tn v c M = M from h]; exact hA
  | @sc M N v s hv hs _ ih =>
    intro hA
    apply ih
    rcases mvs_all (.sc v s) ⟨hv, hs⟩ M with h | h
    · exact hc M hA _ h
    · rw [show GW.sc v s M = M from h]; exact hA
end
end TW
set_option maxRecDepth 20000
namespace TW
open PySem PySem.Spec L2 GW
/-! how many webs there are -/
theorem nodup_sub_len {α : Type} : ∀ (l m : List α), l.Nodup → (∀ x ∈ l, x ∈ m) → l.length ≤ m.length
  | [], _, _, _ => Nat.zero_le _
  | x :: l, m, nd, h => by
    classical
    obtain ⟨h1, h2⟩ := List.nodup_cons.mp nd
    have hx := h x List.mem_cons_self
    have ih := nodup_sub_len l (m.erase x) h2 fun y hy => by
      have hym := h y (List.mem_cons_of_mem _ hy)
      have : y ≠ x := fun e => h1 (e ▸ hy)
      exact (List.mem_erase_of_ne this).mpr hym
    rw [List.length_erase_of_mem hx] at ih
    have := List.length_pos_of_mem hx
    rw [List.length_cons]
    omega
theorem nodup_map_on {α β : Type} {f : α → β} : ∀ {l : List α}, l.Nodup → (∀ a ∈ l, ∀ b ∈ l, f a = f b → a = b) → (l.map f).Nodup
  | [], _, _ => List.nodup_nil
  | x :: l, nd, h => by
    obtain ⟨h1, h2⟩ := List.nodup_cons.mp nd
    rw [List.map_cons]
    refine List.nodup_cons.mpr ⟨fun hm => ?_, nodup_map_on h2 fun a ha b hb => h a (List.mem_cons_of_mem _ ha) b (List.mem_cons_of_mem _ hb)⟩
    obtain ⟨y, hy, e⟩ := List.mem_map.mp hm
    exact h1 (h y (List.mem_cons_of_mem _ hy) x List.mem_cons_self e ▸ hy)
theorem inj_of_nodup_map {α β : Type} {f : α → β} : ∀ {l : List α}, (l.map f).Nodup → ∀ a ∈ l, ∀ b ∈ l, f a = f b → a = b
  | [], _, a, ha, _, _, _ => by simp at ha
  | x :: l, nd, a, ha, b, hb, e => by
    rw [List.map_cons] at nd
    obtain ⟨h1, h2⟩ := List.nodup_cons.mp nd
    rcases List.mem_cons.mp ha with ea | ha'
    · rcases List.mem_cons.mp hb with eb | hb'
      · rw [ea, eb]
      · exact absurd (by rw [← ea, e]; exact List.mem_map_of_mem hb') h1
    · rcases List.mem_cons.mp hb with eb | hb'
      · exact absurd (by rw [← eb, ← e]; exact List.mem_map_of_mem ha') h1
      · exact inj_of_nodup_map h2 a ha' b hb' e
def allL (p : Nat) : Nat → List (List (FP p))
  | 0 => [[]]
  | k + 1 => (allL p k).flatMap fun l => (List.finRange p).map fun x => x :: l
theorem allL_len (p : Nat) : ∀ k, (allL p k).length = p ^ k
  | 0 => rfl
  | k + 1 => by
    rw [allL, List.length_flatMap]
    have : ∀ L : List (List (FP p)), (L.map fun l => ((List.finRange p).map fun x => x :: l).length).sum = L.length * p := fun L => by
      induction L with
      | nil => simp
      | cons l L ih => rw [List.map_cons, List.sum_cons, ih, List.length_map, List.length_finRange, List.length_cons, Nat.succ_mul, Nat.add_comm]
    rw [this, allL_len p k, Nat.pow_succ]
theorem allL_all {p : Nat} : ∀ l : List (FP p), l ∈ allL p l.length
  | [] => List.mem_singleton.mpr rfl
  | x :: l => by
    rw [List.length_cons, allL]
    exact List.mem_flatMap.mpr ⟨l, allL_all l, List.mem_map.mpr ⟨x, List.mem_finRange x, rfl⟩⟩
def pairsN (n : Nat) : List (Nat × Nat) := (List.range n).flatMap fun a => (List.range n).filterMap fun b => if a < b then some (a, b) else none
theorem mem_pairs {n a b : Nat} : (a, b) ∈ pairsN n ↔ a < b ∧ b < n := by
  unfold pairsN
  simp only [List.mem_flatMap, List.mem_filterMap, List.mem_range]
  constructor
  · rintro ⟨x, hx, y, hy, h⟩
    by_cases e : x < y
    · rw [if_pos e] at h; cases h; exact ⟨e, hy⟩
    · rw [if_neg e] at h; cases h
  · rintro ⟨h1, h2⟩
    exact ⟨a, by omega, b, h2, by rw [if_pos h1]⟩
section
variable {p : Nat} [NeZero p] [PrimeP p] {n : Nat}
def codeW (Ps : List (Nat × Nat)) (X : Wb (FP p)) : List (FP p) := Ps.map fun q => X q.1 q.2
/-- places that a list of pairs tells -/
def Tells (n : Nat) (Ps : List (Nat × Nat)) (X : Wb (FP p)) : Prop := ∀ a b, a < b → b < n → (a, b) ∉ Ps → X a b = 0
theorem codeW_inj {Ps : List (Nat × Nat)} {X Y : Wb (FP p)} (oX : Ok n X) (oY : Ok n Y) (tX : Tells n Ps X) (tY : Tells n Ps Y) (h : codeW Ps X = codeW Ps Y) : X = Y := by
  have key : ∀ a b, a < b → X a b = Y a b := fun a b hab => by
    by_cases hb : b < n
    · by_cases hm : (a, b) ∈ Ps
      · have : ∀ (l : List (Nat × Nat)), l.map (fun q => X q.1 q.2) = l.map (fun q => Y q.1 q.2) → ∀ q ∈ l, X q.1 q.2 = Y q.1 q.2 := fun l => by
          induction l with
          | nil => intro _ q hq; simp at hq
          | cons r l ih =>
            intro e q hq
            simp only [List.map_cons, List.cons.injEq] at e
            rcases List.mem_cons.mp hq with rfl | hq
            · exact e.1
            · exact ih e.2 q hq
        exact this Ps h (a, b) hm
      · rw [tX a b hab hb hm, tY a b hab hb hm]
    · rw [oX.sym, oY.sym, oX.far b a (by omega), oY.far b a (by omega)]
  funext a b
  rcases Nat.lt_trichotomy a b with h | h | h
  · exact key a b h
  · subst h; rw [oX.dia, oY.dia]
  · rw [oX.sym, oY.sym]; exact key b a h
theorem tells_all (X : Wb (FP p)) : Tells n (pairsN n) X := fun a b h1 h2 h3 => absurd (mem_pairs.mpr ⟨h1, h2⟩) h3
theorem count_webs (l : List (Wb (FP p))) (nd : l.Nodup) (ok : ∀ Y ∈ l, Ok n Y) : l.length ≤ p ^ (pairsN n).length := by
  rw [← allL_len, ← List.length_map (f := codeW (pairsN n))]
  refine nodup_sub_len _ _ ?_ ?_
  · exact nodup_map_on nd fun a ha b hb e => codeW_inj (ok a ha) (ok b hb) (tells_all a) (tells_all b) e
  · intro c hc
    obtain ⟨X, _, rfl⟩ := List.mem_map.mp hc
    have := allL_all (codeW (pairsN n) X)
    rwa [show (codeW (pairsN n) X).length = (pairsN n).length by simp [codeW]] at this
end
end TW
set_option maxRecDepth 20000
namespace TW
open PySem PySem.Spec L2 GW
section
variable {p : Nat} [NeZero p] {n : Nat}
/-- the value a list gives to a pair -/
def lookP : List (Nat × Nat) → List (FP p) → Nat → Nat → FP p
  | q :: Ps, x :: l, a, b => if q.1 = a ∧ q.2 = b then x else lookP Ps l a b
  | _, _, _, _ => 0
def mkW (Ps : List (Nat × Nat)) (l : List (FP p)) : Wb (FP p) := fun a b => if a < b then lookP Ps l a b else lookP Ps l b a
theorem lookP_code {X : Wb (FP p)} : ∀ {Ps : List (Nat × Nat)} {a b : Nat}, (a, b) ∈ Ps → lookP Ps (Ps.map fun q => X q.1 q.2) a b = X a b
  | [], _, _, h => by simp at h
  | q :: Ps, a, b, h => by
    rw [List.map_cons, lookP]
    by_cases e : q.1 = a ∧ q.2 = b
    · rw [if_pos e, e.1, e.2]
    · rw [if_neg e]
      rcases List.mem_cons.mp h with h | h
      · exact absurd ⟨by rw [← h], by rw [← h]⟩ e
      · exact lookP_code h
theorem lookP_no {X : Wb (FP p)} : ∀ {Ps : List (Nat × Nat)} {a b : Nat}, (a, b) ∉ Ps → lookP Ps (Ps.map fun q => X q.1 q.2) a b = 0
  | [], _, _, _ => rfl
  | q :: Ps, a, b, h => by
    rw [List.map_cons, lookP, if_neg, lookP_no fun hm => h (List.mem_cons_of_mem _ hm)]
    rintro ⟨rfl, rfl⟩
    exact h List.mem_cons_self
theorem mkW_code {Ps : List (Nat × Nat)} {X : Wb (FP p)} (tX : Tells n Ps X) {a b : Nat} (hab : a < b) (hb : b < n) : mkW Ps (codeW Ps X) a b = X a b := by
  unfold mkW codeW
  rw [if_pos hab]
  by_cases hm : (a, b) ∈ Ps
  · exact lookP_code hm
  · rw [lookP_no hm, tX a b hab hb hm]
/-- the hash of a web -/
def hashW (n : Nat) (X : Wb (FP p)) : Int := hashZ (keyOf (wD n X))
theorem webD_congr {q : Int} {M F : Mat} (h : ∀ a b, a < b → b < n → M a b = F a b) : webD q n M = webD q n F := by
  have e : tiesP n M = tiesP n F := ties_congr fun a b h1 h2 => by rw [h a b h1 h2]
  unfold webD
  rw [e]
  congr 5
  unfold tiesD
  refine List.map_congr_left fun r hr => ?_
  obtain ⟨h1, h2, _⟩ := mem_ties.mp hr
  rw [h _ _ h1 h2]
theorem hashW_code {Ps : List (Nat × Nat)} {X : Wb (FP p)} (tX : Tells n Ps X) : hashW n (mkW Ps (codeW Ps X)) = hashW n X := by
  unfold hashW wD
  rw [webD_congr (F := toI X)]
  intro a b h1 h2
  unfold toI
  rw [mkW_code tX h1 h2]
/-- pairs without a place -/
def pairsV (n v : Nat) : List (Nat × Nat) := (pairsN n).filter fun q => q.1 ≠ v ∧ q.2 ≠ v
def nodupB : List Int → Bool
  | [] => true
  | x :: l => (l.all fun y => x != y) && nodupB l
theorem nodupB_iff : ∀ {l : List Int}, nodupB l = true → l.Nodup
  | [], _ => List.nodup_nil
  | x :: l, h => by
    simp only [nodupB, Bool.and_eq_true, List.all_eq_true, bne_iff_ne] at h
    exact List.nodup_cons.mpr ⟨fun hm => h.1 x hm rfl, nodupB_iff h.2⟩
def chkH (p : Nat) [NeZero p] (n v : Nat) : Bool := nodupB ((allL p (pairsV n v).length).map fun l => hashW n (mkW (pairsV n v) l))
variable [PrimeP p]
/-- no ties at v -/
def Off (v : Nat) (X : Wb (FP p)) : Prop := ∀ a, X v a = 0
theorem off_tells {X : Wb (FP p)} {v : Nat} (ok : Ok n X) (h : Off v X) : Tells n (pairsV n v) X := by
  intro a b h1 h2 h3
  by_cases ha : a = v
  · subst ha; exact h b
  · by_cases hb : b = v
    · subst hb; rw [ok.sym]; exact h a
    · exact absurd (List.mem_filter.mpr ⟨mem_pairs.mpr ⟨h1, h2⟩, by simp [ha, hb]⟩) h3
theorem hash_off {v : Nat} (c : chkH p n v = true) {X Y : Wb (FP p)} (oX : Ok n X) (oY : Ok n Y) (fX : Off v X) (fY : Off v Y) (h : hashW n X = hashW n Y) : X = Y := by
  have nd := nodupB_iff c
  have tX := off_tells oX fX
  have tY := off_tells oY fY
  refine codeW_inj oX oY tX tY ?_
  have mem : ∀ Z : Wb (FP p), codeW (pairsV n v) Z ∈ allL p (pairsV n v).length := fun Z => by
    have := allL_all (codeW (pairsV n v) Z)
    rwa [show (codeW (pairsV n v) Z).length = (pairsV n v).length by simp [codeW]] at this
  refine inj_of_nodup_map nd _ (mem X) _ (mem Y) ?_
  rw [hashW_code tX, hashW_code tY, h]
end
mutual
def noStr : D → Bool
  | .int _ => true
  | .tuple xs => noStrs xs
  | _ => false
def noStrs : List D → Bool
  | [] => true
  | x :: xs => noStr x && noStrs xs
end
mutual
theorem noTx_of : ∀ d : D, noStr d = true → noTx (keyOf d) = true
  | .int _, _ => rfl
  | .tuple xs, h => by
    simp only [noStr] at h
    simp only [keyOf, noTx]
    exact noTxs_of xs h
  | .none, h => by simp [noStr] at h
  | .bool _, h => by simp [noStr] at h
  | .str _, h => by simp [noStr] at h
  | .list _, h => by simp [noStr] at h
  | .dict _, h => by simp [noStr] at h
theorem noTxs_of : ∀ xs : List D, noStrs xs = true → noTxs (keysOf xs) = true
  | [], _ => rfl
  | x :: xs, h => by
    simp only [noStrs, Bool.and_eq_true] at h
    simp only [keysOf, noTxs, noTx_of x h.1, noTxs_of xs h.2, Bool.and_self]
end
theorem noStrs_all : ∀ {xs : List D}, (∀ x ∈ xs, noStr x = true) → noStrs xs = true
  | [], _ => rfl
  | x :: xs, h => by
    simp only [noStrs, h x List.mem_cons_self, noStrs_all fun y hy => h y (List.mem_cons_of_mem _ hy), Bool.and_self]
theorem webD_noTx (q : Int) (n : Nat) (M : Mat) : noTx (keyOf (webD q n M)) = true := by
  apply noTx_of
  have : noStrs (tiesD M (tiesP n M)) = true := noStrs_all fun x hx => by
    unfold tiesD at hx
    obtain ⟨q, _, rfl⟩ := List.mem_map.mp hx
    rfl
  simp only [webD, noStr, noStrs, this, Bool.and_self]
section
variable {p : Nat} [NeZero p] [PrimeP p] {n : Nat}
theorem Off_on {v : Nat} {X : Wb (FP p)} (ok : Ok n X) (h : Off v X) (m : Mv p) : Off v (m.on X) := by
  intro a
  have h1 := h a
  cases m with
  | tn u c =>
    show GW.tn u c X v a = 0
    unfold GW.tn
    have h2 := h u
    have h3 := ok.sym u v
    grind
  | sc u s =>
    show GW.sc u s X v a = 0
    unfold GW.sc
    rw [h1]
    grind
theorem Off_led {v : Nat} {X Y : Wb (FP p)} (ok : Ok n X) (h : Off v X) (r : Reach n X Y) : Off v Y := by
  induction r with
  | refl => exact h
  | @tn M N u c hu _ ih => exact ih (ok.tn u c) (Off_on (n := n) ok h (.tn u c))
  | @sc M N u s hu hs _ ih => exact ih (ok.sc u s) (Off_on (n := n) ok h (.sc u s))
theorem Off_out {v : Nat} {X : Wb (FP p)} : Off v (out v X) := by
  intro a
  unfold out
  rw [if_pos (.inl rfl)]
end
theorem chk24 : ∀ v < 4, chkH 2 4 v = true := by decide +kernel
theorem chk23 : ∀ v < 3, chkH 2 3 v = true := by decide +kernel
theorem chk33 : ∀ v < 3, chkH 3 3 v = true := by decide +kernel
theorem chk53 : ∀ v < 3, chkH 5 3 v = true := by decide +kernel
theorem chk32 : ∀ v < 2, chkH 3 2 v = true := by decide +kernel
theorem chk25 : ∀ v < 5, chkH 2 5 v = true := by decide +kernel
end TW
set_option maxRecDepth 20000
namespace TW
open PySem PySem.Spec L2 GW
theorem forGo_inv {α : Type} {tg : Tg} {b : DEnv → Src → Ss} (it : α → D) (R : Nat → DEnv → Src → Prop) : ∀ (xs : List α) (k : Nat) (ρ : DEnv) (S : Src), R k ρ S →
    (∀ i x ρ S, xs[i]? = some x → R (k + i) ρ S → ∃ ρ1 ρ2 S2, setTg tg (it x) ρ = some ρ1 ∧ b ρ1 S = some (.nx, ρ2, S2) ∧ R (k + i + 1) ρ2 S2) → ∃ ρ' S', forGo b tg (xs.map it) ρ S = some (.nx, ρ', S') ∧ R (k + xs.length) ρ' S'
  | [], k, ρ, S, h, _ => ⟨ρ, S, rfl, h⟩
  | x :: xs, k, ρ, S, h, q => by
    obtain ⟨ρ1, ρ2, S2, h1, h2, h3⟩ := q 0 x ρ S rfl h
    obtain ⟨ρ', S', h4, h5⟩ := forGo_inv it R xs (k + 1) ρ2 S2 h3 fun i y ρ S hy hr => by
      have := q (i + 1) y ρ S (by simpa using hy) (by rwa [show k + (i + 1) = k + 1 + i by omega])
      rwa [show k + (i + 1) + 1 = k + 1 + i + 1 by omega] at this
    refine ⟨ρ', S', ?_, by rwa [show k + (x :: xs).length = k + 1 + xs.length by simp; omega]⟩
    rw [List.map_cons, forGo, h1]
    dsimp only
    rw [h2]
    exact h4
theorem it_rng2 {C : Ctx} {a b : Ex} {ρ : DEnv} {S S1 S2 : Src} {lo hi : Nat} (h1 : evE C a ρ S = some (.int lo, S1)) (h2 : evE C b ρ S1 = some (.int hi, S2)) (l1 : lo ≤ 1000000) (l2 : hi ≤ 1000000) :
    evI C (.rng2 a b) ρ S = some ((List.range (hi - lo)).map fun i : Nat => .int ((lo + i : Nat) : Int), S2) := by
  have r1 : rngOk (lo : Int) = true := by unfold rngOk; simp; omega
  have r2 : rngOk (hi : Int) = true := by unfold rngOk; simp; omega
  have e0 : ((hi : Int) - (lo : Int)).toNat = hi - lo := by omega
  have r3 : decide (hi - lo ≤ LINE) = true := by simp [LINE]; omega
  simp only [evI, h1, h2, r1, r2, e0, r3, Bool.and_self, if_true, rangeD_map]
  congr 2
/-- a draw lies in its range -/
theorem drawn_rng {m : Int} (h : 2 ≤ m) (S : Src) : 0 ≤ (drawn m S).1 ∧ (drawn m S).1 < m := by
  unfold drawn
  rw [if_neg (by omega)]
  dsimp only
  split
  · exact ⟨Int.emod_nonneg _ (by omega), Int.emod_lt_of_pos _ (by omega)⟩
  · exact ⟨Int.emod_nonneg _ (by omega), Int.emod_lt_of_pos _ (by omega)⟩
theorem drawn_nat {m : Nat} (h : 1 ≤ m) (S : Src) : ∃ j : Nat, j < m ∧ (drawn m S).1 = j := by
  by_cases h1 : m = 1
  · subst h1
    refine ⟨0, by omega, ?_⟩
    unfold drawn
    rw [if_pos (by omega)]
    rfl
  · have := drawn_rng (m := (m : Int)) (by omega) S
    exact ⟨(drawn m S).1.toNat, by omega, by omega⟩
/-- pick of a number of places -/
theorem ev_pickN {C : Ctx} {a : Ex} {ρ : DEnv} {S S1 : Src} {m : Nat} (h : evE C a ρ S = some (.int m, S1)) (h1 : 1 ≤ m) (h2 : m ≤ 1000000) : ∃ j S2, j < m ∧ evE C (.pick a) ρ S = some (.int ((j : Nat) : Int), S2) := by
  obtain ⟨j, hj, e⟩ := drawn_nat h1 S1
  refine ⟨j, (drawn m S1).2, hj, ?_⟩
  rw [ev_pickG h (by omega), e]
section
variable {p : Nat} [NeZero p] [PrimeP p] {n fuel k : Nat} {X : Wb (FP p)} {S : Src}
def upd (X : Wb (FP p)) (u v : Nat) (x : FP p) : Wb (FP p) := fun a b => if (a = u ∧ b = v) ∨ (a = v ∧ b = u) then x else X a b
theorem upd_ok (ok : Ok n X) {u v : Nat} (x : FP p) (huv : u ≠ v) (hu : u < n) (hv : v < n) : Ok n (upd X u v x) := by
  refine ⟨fun a b => ?_, fun a => ?_, fun a b h => ?_⟩
  · unfold upd
    by_cases h : (a = u ∧ b = v) ∨ (a = v ∧ b = u)
    · rw [if_pos h, if_pos (by omega)]
    · rw [if_neg h, if_neg (by omega), ok.sym]
  · unfold upd
    rw [if_neg (by omega), ok.dia]
  · unfold upd
    rw [if_neg (by omega), ok.far a b h]
theorem upd_tab {u v : Nat} {j : Nat} (hj : j < p) (huv : u ≠ v) : tabL n (put2 (put2 (toI X) u v (j : Int)) v u (j : Int)) = tabL n (toI (upd X u v (kF p j))) := by
  refine tab_ext fun a b _ _ => ?_
  unfold put2 toI upd
  by_cases h1 : a = v ∧ b = u
  · rw [if_pos h1, if_pos (.inr h1), kF_val hj]
  · rw [if_neg h1]
    by_cases h2 : a = u ∧ b = v
    · rw [if_pos h2, if_pos (.inl h2), kF_val hj]
    · rw [if_neg h2, if_neg (by omega)]
def zeroW (p : Nat) [NeZero p] : Wb (FP p) := fun _ _ => 0
theorem zeroW_ok : Ok n (zeroW p) := ⟨fun _ _ => rfl, fun _ => rfl, fun _ _ _ => rfl⟩
theorem zero_tab' : tabL n (fun _ _ => 0) = tabL n (toI (zeroW p)) := rfl
theorem c_drawn_web (hp : p ≤ 1000) (hn : n ≤ 8) : ∃ (X : Wb (FP p)) (S' : Src), Ok n X ∧ callT fuel (k + 2) 21 [.int p, .int n] S = some (wD n X, S') := by
  let C : Ctx := ⟨callT fuel (k + 1), fuel⟩
  let E (X : Wb (FP p)) (u v w : Option D) : DEnv := [none, some (.int p), some (.int n), some (.list (tabL n (toI X))), u, v, w]
  have h1 : evS C (.asg (.nm 3) (.lc (.bin .mul (.lst (.cons (.int 0) .nil)) (.var 2)) (.nm 5) (.rng1 (.var 2)) .no [5])) (startE f_law_drawn_web [.int p, .int n]) S = some (.nx, E (zeroW p) none none none, S) :=
    sx_asg (ev_zero (C := C) (i := 2) (j := 5) (n := n) (ρ := startE f_law_drawn_web [.int p, .int n]) (S := S) (by decide) (by omega) rfl (by simp [startE, f_law_drawn_web])) rfl
  have pp := p_two (p := p)
  -- one row
  have row : ∀ (u : Nat) (X : Wb (FP p)) (v w : Option D) (S : Src), u < n → Ok n X → ∃ X' v' w' S', Ok n X' ∧ evSs C (.cons (.loop (.nm 5) (.rng2 (.bin .add (.var 4) (.int 1)) (.var 2)) (.cons (.asg (.nm 6) (.ife (.cmp .gt (.pick (.int 3)) (.int 0)) (.pick (.var 1)) (.int 0))) (.cons (.set2 3 (.var 4) (.var 5) (.var 6)) (.cons (.set2 3 (.var 5) (.var 4) (.var 6)) .nil)))) .nil) (E X (some (.int u)) v w) S = some (.nx, E X' (some (.int u)) v' w', S') := by
    intro u X v w S hu ok
    obtain ⟨ρ', S', h, X', v', w', ok', rfl⟩ := forGo_inv (tg := .nm 5) (b := fun ρ S => evSs C (.cons (.asg (.nm 6) (.ife (.cmp .gt (.pick (.int 3)) (.int 0)) (.pick (.var 1)) (.int 0))) (.cons (.set2 3 (.var 4) (.var 5) (.var 6)) (.cons (.set2 3 (.var 5) (.var 4) (.var 6)) .nil))) ρ S)
      (fun i : Nat => PyData.int ((u + 1 + i : Nat) : Int)) (fun _ ρ _ => ∃ X' v' w', Ok n X' ∧ ρ = E X' (some (.int u)) v' w') (List.range (n - (u + 1))) 0 _ S ⟨X, v, w, ok, rfl⟩ (by
        rintro i x ρ S hx ⟨X', v', w', ok', rfl⟩
        obtain ⟨rfl, hi⟩ := range_get' hx
        have hv : u + 1 + x < n := by omega
        obtain ⟨j3, S3, hj3, e3⟩ := ev_pickN (C := C) (a := .int 3) (ρ := E X' (some (.int u)) (some (.int ((u + 1 + x : Nat) : Int))) w') (S := S) (S1 := S) (m := 3) ev_intC (by omega) (by omega)
        obtain ⟨jp, Sp, hjp, ep⟩ := ev_pickN (C := C) (a := .var 1) (ρ := E X' (some (.int u)) (some (.int ((u + 1 + x : Nat) : Int))) w') (S := S3) (S1 := S3) (m := p) (ev_var rfl) (by omega) (by omega)
        have hw : ∃ j S2, j < p ∧ evE C (.ife (.cmp .gt (.pick (.int 3)) (.int 0)) (.pick (.var 1)) (.int 0)) (E X' (some (.int u)) (some (.int ((u + 1 + x : Nat) : Int))) w') S = some (.int ((j : Nat) : Int), S2) := by
          have c : cop .gt (.int ((j3 : Nat) : Int)) (.int 0) = some (decide ((0 : Int) < j3)) := rfl
          by_cases h0 : 0 < j3
          · rw [decide_eq_true (by omega)] at c
            exact ⟨jp, Sp, hjp, ev_ifeT (ev_cmpG e3 ev_intC c) ep⟩
          · rw [decide_eq_false (by omega)] at c
            exact ⟨0, S3, by omega, ev_ifeF (ev_cmpG e3 ev_intC c) ev_intC⟩
        obtain ⟨j, S2, hj, ew⟩ := hw
        refine ⟨E X' (some (.int u)) (some (.int ((u + 1 + x : Nat) : Int))) w', E (upd X' u (u + 1 + x) (kF p j)) (some (.int u)) (some (.int ((u + 1 + x : Nat) : Int))) (some (.int (j : Int))), S2, rfl, ?_, _, _, _, upd_ok ok' _ (by omega) (by omega) hv, rfl⟩
        refine sx_nx (sx_asg ew rfl) (sx_nx (ev_set2 (n := n) (u := u) (v := u + 1 + x) (x := (j : Int)) (F := toI X') (ev_var rfl) (ev_var rfl) (ev_var rfl) rfl (by omega) hv) (sx_nx (ev_set2 (n := n) (u := u + 1 + x) (v := u) (x := (j : Int)) (F := put2 (toI X') u (u + 1 + x) j) (ev_var rfl) (ev_var rfl) (ev_var rfl) rfl hv (by omega)) ?_))
        rw [upd_tab hj (by omega)]
        exact sx_nil)
    exact ⟨X', v', w', S', ok', sx_nx (sx_loop (it_rng2 (lo := u + 1) (hi := n) (ev_bin (ev_var rfl) ev_intC rfl) (ev_var rfl) (by omega) (by omega)) h) sx_nil⟩
  obtain ⟨ρ', S', h, X', u', v', w', ok', rfl⟩ := forGo_inv (tg := .nm 4) (b := fun ρ S => evSs C (.cons (.loop (.nm 5) (.rng2 (.bin .add (.var 4) (.int 1)) (.var 2)) (.cons (.asg (.nm 6) (.ife (.cmp .gt (.pick (.int 3)) (.int 0)) (.pick (.var 1)) (.int 0))) (.cons (.set2 3 (.var 4) (.var 5) (.var 6)) (.cons (.set2 3 (.var 5) (.var 4) (.var 6)) .nil)))) .nil) ρ S)
    (fun i : Nat => PyData.int (i : Int)) (fun _ ρ _ => ∃ X' u' v' w', Ok n X' ∧ ρ = E X' u' v' w') (List.range n) 0 _ S ⟨zeroW p, none, none, none, zeroW_ok, rfl⟩ (by
      rintro i x ρ S hx ⟨X', u', v', w', ok', rfl⟩
      obtain ⟨rfl, hi⟩ := range_get' hx
      obtain ⟨X'', v'', w'', S'', ok'', h⟩ := row x X' v' w' S hi ok'
      exact ⟨_, _, S'', rfl, h, X'', _, v'', w'', ok'', rfl⟩)
  refine ⟨X', S', ok', (callT_eq (f := f_law_drawn_web) rfl rfl).trans ?_⟩
  exact o_nx h1 (o_nx (sx_loop (it_rng1 (ev_var rfl) (by omega)) h) (o_rt (sx_ret (ev_callG (evs_cons' (ev_var rfl) (evs_cons' (ev_var rfl) evs_nil')) (c_law_web (by omega))))))
def sizes : List (Nat × Nat) := [(2, 4), (2, 3), (3, 3), (2, 4), (3, 3), (5, 3), (2, 5), (3, 2)]
theorem c_drawn_size : ∃ q S', q ∈ sizes ∧ callT fuel (k + 1) 20 [] S = some (.tuple [.int ((q.1 : Nat) : Int), .int ((q.2 : Nat) : Int)], S') := by
  let C : Ctx := ⟨callT fuel k, fuel⟩
  obtain ⟨j, S', hj, e⟩ := ev_pickN (C := C) (a := .int 8) (ρ := startE f_law_drawn_size []) (S := S) (S1 := S) (m := 8) ev_intC (by omega) (by omega)
  have hl : evE C (.lst (.cons (.tup (.cons (.int 2) (.cons (.int 4) .nil))) (.cons (.tup (.cons (.int 2) (.cons (.int 3) .nil))) (.cons (.tup (.cons (.int 3) (.cons (.int 3) .nil))) (.cons (.tup (.cons (.int 2) (.cons (.int 4) .nil))) (.cons (.tup (.cons (.int 3) (.cons (.int 3) .nil))) (.cons (.tup (.cons (.int 5) (.cons (.int 3) .nil))) (.cons (.tup (.cons (.int 2) (.cons (.int 5) .nil))) (.cons (.tup (.cons (.int 3) (.cons (.int 2) .nil))) .nil))))))))) (startE f_law_drawn_size []) S = some (.list (sizes.map fun q => .tuple [.int ((q.1 : Nat) : Int), .int ((q.2 : Nat) : Int)]), S) := by
    simp [evE, evs, LINE, sizes]
  have hjs : j < sizes.length := hj
  refine ⟨sizes[j], S', List.getElem_mem _, (callT_eq (f := f_law_drawn_size) rfl rfl).trans ?_⟩
  refine o_rt (sx_ret (ev_ixG hl e ?_))
  exact atI_nat' (by rw [List.getElem?_map, List.getElem?_eq_getElem hjs]; rfl)
end
end TW
set_option maxRecDepth 20000
namespace TW
open PySem PySem.Spec L2 GW
/-! texts shown are texts -/
theorem strOk_iff {x : Str} : PyData.strOk x = true ↔ ∀ c ∈ x.cps.toList, c < 0x110000 := by
  unfold PyData.strOk
  rw [Array.all_eq_true_iff_forall_mem]
  simp
theorem strOk_of (s : String) : PyData.strOk (Str.ofString s) = true := by
  rw [strOk_iff, Str.ofString_eq_toList]
  intro c hc
  simp only [List.mem_map] at hc
  obtain ⟨a, _, rfl⟩ := hc
  have := a.valid
  unfold Char.toNat
  rcases this with h | ⟨_, h⟩
  · have : a.val.toNat < 0xD800 := h
    omega
  · exact h
theorem strOk_app {x y : Str} (hx : PyData.strOk x = true) (hy : PyData.strOk y = true) : PyData.strOk (x ++ y) = true := by
  rw [strOk_iff] at hx hy ⊢
  intro c hc
  have : c ∈ x.cps.toList ++ y.cps.toList := by
    have e : (x ++ y).cps = x.cps ++ y.cps := rfl
    rwa [e, Array.toList_append] at hc
  rcases List.mem_append.mp this with h | h
  · exact hx c h
  · exact hy c h
theorem strOk_textFrom : ∀ (ts : List Str) (k : Nat) (acc : Str), PyData.strOk acc = true → (∀ t ∈ ts, PyData.strOk t = true) → PyData.strOk (textFrom k acc ts) = true
  | [], _, _, h, _ => h
  | t :: ts, k, acc, h, q => by
    rw [textFrom]
    exact strOk_textFrom ts _ _ (strOk_app (strOk_app h (strOk_of _)) (q t List.mem_cons_self)) fun x hx => q x (List.mem_cons_of_mem _ hx)
theorem strOk_join : ∀ (ts : List Str), (∀ t ∈ ts, PyData.strOk t = true) → PyData.strOk (Str.join ", " ts) = true
  | [], _ => by decide +kernel
  | [t], q => q t List.mem_cons_self
  | t :: u :: ts, q => strOk_app (strOk_app (q t List.mem_cons_self) (strOk_of _)) (strOk_join (u :: ts) fun x hx => q x (List.mem_cons_of_mem _ hx))
mutual
/-- texts within show as texts -/
def txOk : D → Bool
  | .str x => PyData.strOk (reprText x)
  | .list xs => txOks xs
  | .tuple xs => txOks xs
  | .dict _ => false
  | _ => true
def txOks : List D → Bool
  | [] => true
  | x :: xs => txOk x && txOks xs
end
mutual
theorem strOk_shown : ∀ d : D, txOk d = true → PyData.strOk d.shown = true
  | .none, _ => by rw [PyData.shown]; exact strOk_of _
  | .bool b, _ => by
    rw [PyData.shown]
    split
    · exact strOk_of _
    · exact strOk_of _
  | .int i, _ => by rw [PyData.shown]; exact strOk_of _
  | .str x, h => by simpa [txOk, PyData.shown] using h
  | .list xs, h => by
    have := strOk_shownAll xs (by simpa [txOk] using h)
    rw [PyData.shown]
    exact strOk_app (strOk_textFrom _ _ _ (strOk_of _) this) (strOk_of _)
  | .tuple xs, h => by
    have := strOk_shownAll xs (by simpa [txOk] using h)
    rw [PyData.shown]
    exact strOk_app (strOk_app (strOk_of _) (strOk_join _ this)) (strOk_of _)
  | .dict _, h => by simp [txOk] at h
theorem strOk_shownAll : ∀ xs : List D, txOks xs = true → ∀ t ∈ PyData.shownAll xs, PyData.strOk t = true
  | [], _, t, h => by simp [PyData.shownAll] at h
  | x :: xs, h, t, ht => by
    simp only [txOks, Bool.and_eq_true] at h
    simp only [PyData.shownAll] at ht
    rcases List.mem_cons.mp ht with rfl | ht
    · exact strOk_shown x h.1
    · exact strOk_shownAll xs h.2 t ht
end
theorem txOks_all : ∀ {xs : List D}, (∀ x ∈ xs, txOk x = true) → txOks xs = true
  | [], _ => rfl
  | x :: xs, h => by
    simp only [txOks, h x List.mem_cons_self, txOks_all fun y hy => h y (List.mem_cons_of_mem _ hy), Bool.and_self]
/-- two shown values alike -/
theorem cop_shown {d : D} (h : txOk d = true) : cop .ne (.str d.shown) (.str d.shown) = some false := by
  have hs : shp (.str d.shown) = true := by
    unfold shp SeqAt.shaped
    simp [PyData.canLay0, PyData.depth, strOk_shown d h]
  simp only [cop, hs, Bool.and_self, if_true, eqv_str]
  simp
theorem webD_tx (q : Int) (n : Nat) (M : Mat) : txOk (webD q n M) = true := by
  have : txOks (tiesD M (tiesP n M)) = true := txOks_all fun x hx => by
    unfold tiesD at hx
    obtain ⟨q, _, rfl⟩ := List.mem_map.mp hx
    rfl
  simp only [webD, txOk, txOks, this, Bool.and_self]
theorem tx_turn : txOk (.str sTurn) = true := by decide +kernel
theorem tx_scale : txOk (.str sScale) = true := by decide +kernel
theorem tx_out : txOk (.str sOut) = true := by decide +kernel
theorem mv_tx {p : Nat} (m : Mv p) : txOk m.d = true := by
  have key : ∀ (x y z : D), txOk x = true → txOk y = true → txOk z = true → txOk (.tuple [x, y, z]) = true := fun x y z h1 h2 h3 => by
    simp only [txOk, txOks, h1, h2, h3, Bool.and_self]
  cases m with
  | tn v c => exact key _ _ _ tx_turn rfl rfl
  | sc v c => exact key _ _ _ tx_scale rfl rfl
end TW
set_option maxRecDepth 20000
namespace TW
open PySem PySem.Spec L2 GW
def E16 (a0 a1 a2 a3 a4 a5 a6 a7 a8 a9 a10 a11 a12 a13 a14 a15 : Option D) : DEnv := [a0, a1, a2, a3, a4, a5, a6, a7, a8, a9, a10, a11, a12, a13, a14, a15]
section
variable {p : Nat} [NeZero p] [PrimeP p] {n fuel k v : Nat} {X : Wb (FP p)} {S : Src}
/-- the web of line j without v -/
noncomputable def due (n v : Nat) (X : Wb (FP p)) (j : Nat) : Wb (FP p) := out v (onAll (lineM n j v X) X)
theorem due_ok (ok : Ok n X) (v j : Nat) : Ok n (due n v X j) := GW.Ok.out (onAll_ok _ ok) v
theorem inv_inv' (c : FP p) : (c⁻¹)⁻¹ = c := by
  by_cases h : c = 0
  · subst h; grind
  · have h2 := inv_ne h
    have h3 := Lean.Grind.Field.mul_inv_cancel h
    exact inv_unique (by rw [Lean.Grind.CommSemiring.mul_comm]; exact h3)
theorem due_all (ok : Ok n X) (hv : v < n) {Y : Wb (FP p)} (h : Reach n X Y) : ∃ j, j ≤ p ∧ Reach n (due n v X j) (out v Y) := by
  have pp := p_two (p := p)
  cases q : nearP n (toI X) v with
  | nil =>
    have e : ∀ j, due n v X j = out v X := fun j => by
      unfold due lineM
      rw [q]
      rfl
    have z : ∀ w, X v w = 0 := fun w => by
      by_cases hw : w < n
      · by_cases h0 : X v w = 0
        · exact h0
        · have : w ∈ nearP n (toI X) v := mem_near.mpr ⟨hw, fun z => h0 (toI_zero.mp z)⟩
          rw [q] at this
          simp at this
      · rw [ok.sym]; exact ok.far w v (by omega)
    rcases led_lines ok hv h with ⟨c, h⟩ | ⟨⟨w, _, h0⟩, _⟩
    · refine ⟨0, by omega, ?_⟩
      have ed : GW.D v c X = out v X := by
        unfold GW.D
        congr 1
        funext a b
        unfold tn
        rw [z a]
        grind
      rw [ed] at h
      rw [e]
      exact h
    · exact absurd (z w) h0
  | cons w r =>
    have hwm : w ∈ nearP n (toI X) v := by rw [q]; exact List.mem_cons_self
    have hw := near_lt hwm
    have g0 : X v w ≠ 0 := fun z => (mem_near.mp hwm).2 (toI_zero.mpr z)
    have wv : w ≠ v := fun e => g0 (by rw [e]; exact ok.dia v)
    rcases led_lines ok hv h with ⟨c, h⟩ | ⟨_, h⟩
    · by_cases c0 : c = 0
      · refine ⟨0, by omega, ?_⟩
        have e : due n v X 0 = GW.D v c X := by
          unfold due lineM
          rw [q]
          dsimp only
          rw [if_pos rfl, c0, D_zero]
          rfl
        rw [e]; exact h
      · have ip := inv_pos c0
        have il := (c⁻¹).isLt
        refine ⟨(c⁻¹).val, by omega, ?_⟩
        have e : due n v X (c⁻¹).val = GW.D v c X := by
          unfold due lineM
          rw [q]
          dsimp only
          rw [if_neg (by omega), if_pos il, kF_self, inv_inv']
          rfl
        rw [e]; exact h
    · refine ⟨p, Nat.le_refl _, ?_⟩
      have e : due n v X p = E v w X := by
        unfold due lineM
        rw [q]
        dsimp only
        rw [if_neg (by omega), if_neg (by omega)]
        rfl
      rw [e]
      exact h w hw wv g0
/-- what is made so far -/
structure Made (n v : Nat) (fs : Fs p) : Prop where
  nd : (keysF fs).Nodup
  ok : ∀ Y ∈ keysF fs, Ok n Y
  cl : ∀ Y ∈ keysF fs, Closed n fs Y
theorem foldPut : ∀ (gs fs : Fs p), (∀ Y ∈ keysF fs, Ok n Y) → (∀ Y ∈ keysF gs, Ok n Y) → (keysF gs).Nodup → (∀ Y ∈ keysF gs, Y ∉ keysF fs) → (foundD n gs).foldl (fun m q => dPut m q.1 q.2) (foundD n fs) = foundD n (fs ++ gs)
  | [], fs, _, _, _, _ => by simp [foundD]
  | q :: gs, fs, h1, h2, h3, h4 => by
    have hq : q.1 ∈ keysF (q :: gs) := List.mem_cons_self
    have nd := List.nodup_cons.mp (show (q.1 :: keysF gs).Nodup from h3)
    have e1 : foundD n (q :: gs) = (wD n q.1, PyData.tuple (q.2.map Mv.d)) :: foundD n gs := rfl
    have e2 : foundD n fs ++ [(wD n q.1, PyData.tuple (q.2.map Mv.d))] = foundD n (fs ++ [q]) := by simp [foundD]
    have kk : keysF (fs ++ [q]) = keysF fs ++ [q.1] := by simp [keysF]
    rw [e1, List.foldl_cons, dPut_no h1 (h2 _ hq) (h4 _ hq), e2, foldPut gs (fs ++ [q])]
    · rw [List.append_assoc]; rfl
    · intro Y hY
      rw [kk] at hY
      rcases List.mem_append.mp hY with h | h
      · exact h1 Y h
      · simp only [List.mem_singleton] at h; subst h; exact h2 _ hq
    · exact fun Y hY => h2 Y (List.mem_cons_of_mem _ hY)
    · exact nd.2
    · intro Y hY hm
      rw [kk] at hm
      rcases List.mem_append.mp hm with h | h
      · exact h4 Y (List.mem_cons_of_mem _ hY) h
      · simp only [List.mem_singleton] at h; subst h; exact nd.1 hY
theorem keysF_app (fs gs : Fs p) : keysF (fs ++ gs) = keysF fs ++ keysF gs := by simp [keysF]
theorem hashOk_off (c : chkH p n v = true) {X : Wb (FP p)} {gs : Fs p} (g : Good n X gs) (oX : Ok n X) (fX : Off v X) : hashOk (foundD n gs) = true := by
  unfold hashOk
  rw [Bool.and_eq_true]
  constructor
  · rw [List.all_eq_true]
    intro q hq
    unfold foundD at hq
    obtain ⟨r, _, rfl⟩ := List.mem_map.mp hq
    exact webD_noTx _ _ _
  · refine decide_eq_true ?_
    have e : (foundD n gs).map (fun q => hashZ (keyOf q.1)) = (keysF gs).map (hashW n) := by
      unfold foundD keysF
      rw [List.map_map, List.map_map]
      rfl
    rw [e]
    exact nodup_map_on g.nd fun a ha b hb h => hash_off c (g.ok a ha) (g.ok b hb) (Off_led oX fX (g.re a ha)) (Off_led oX fX (g.re b hb)) h
theorem made_app {fs gs : Fs p} (m : Made n v fs) {A : Wb (FP p)} (oA : Ok n A) (g : Good n A gs) (hc : ∀ Z ∈ keysF gs, Closed n gs Z) (hA : A ∉ keysF fs) : Made n v (fs ++ gs) ∧ ∀ Y ∈ keysF gs, Y ∉ keysF fs := by
  have dis : ∀ Y ∈ keysF gs, Y ∉ keysF fs := fun Y hY hm => hA (closed_led m.cl (Reach.symm oA (g.re Y hY)) hm)
  refine ⟨⟨?_, ?_, ?_⟩, dis⟩
  · rw [keysF_app]
    exact List.nodup_append.mpr ⟨m.nd, g.nd, fun a ha b hb e => dis b hb (e ▸ ha)⟩
  · intro Y hY
    rw [keysF_app] at hY
    exact (List.mem_append.mp hY).elim (m.ok Y) (g.ok Y)
  · intro Y hY mv hmv
    rw [keysF_app] at hY ⊢
    exact (List.mem_append.mp hY).elim (fun h => List.mem_append_left _ (m.cl Y h mv hmv)) fun h => List.mem_append_right _ (hc Y h mv hmv)
end
end TW
set_option maxRecDepth 200000
namespace TW
open PySem PySem.Spec L2 GW
section
variable {p : Nat} [NeZero p] [PrimeP p] {n fuel k v : Nat} {X : Wb (FP p)} {S : Src}
variable {a0 a1 a2 a3 a4 a5 a6 a7 a8 a9 a14 a15 : Option D}
theorem wD_repr (hn : n ≤ 8) (hp : p ≤ 1000) : bu1 .repr (wD n X) = some (.str (wD n X).shown) := (wD_sm hn hp).repr rfl (by omega) (by decide)
theorem wD_shown : cop .ne (.str (wD n X).shown) (.str (wD n X).shown) = some false := cop_shown (webD_tx _ _ _)
abbrev CL (fuel k : Nat) : Ctx := ⟨callT fuel (k + 8), fuel⟩
/-- the lap's variables: p, n, f, v -/
def E4 (p n v : Nat) (X : Wb (FP p)) (a0 a1 a2 a3 a4 a5 a6 a7 a8 a9 a14 a15 : Option D) : DEnv := [a0, a1, a2, a3, a4, a5, a6, a7, a8, a9, some (.int p), some (.int n), some (wD n X), some (.int v), a14, a15]
theorem lapB (hn : n ≤ 8) (hp : p ≤ 1000) : evS (CL fuel k) (.ife (.cmp .ne (.b1 .repr (.call 8 (.cons (.var 12) (.cons (.var 13) .nil)))) (.b1 .repr (.call 18 (.cons (.var 12) (.cons (.var 13) .nil))))) (.cons (.ret (.bl false)) .nil) .nil) (E4 p n v X a0 a1 a2 a3 a4 a5 a6 a7 a8 a9 a14 a15) S = some (.nx, E4 p n v X a0 a1 a2 a3 a4 a5 a6 a7 a8 a9 a14 a15, S) :=
  sx_ifF (ev_cmpG (ev_b1G (ev_callG (evs_cons' (ev_var rfl) (evs_cons' (ev_var rfl) evs_nil')) c_left_out) (wD_repr hn hp)) (ev_b1G (ev_callG (evs_cons' (ev_var rfl) (evs_cons' (ev_var rfl) evs_nil')) c_law_out) (wD_repr hn hp)) wD_shown) sx_nil
abbrev lineB : Sts := .cons (.asg (.nm 6) (.call 22 (.cons (.var 12) (.cons (.var 13) (.cons (.var 4) .nil))))) (.cons (.asg (.nm 14) (.call 18 (.cons (.call 19 (.cons (.var 12) (.cons (.var 6) .nil))) (.cons (.var 13) .nil)))) (.cons (.ife (.or (.cmp .ne (.b1 .repr (.call 9 (.cons (.var 12) (.cons (.var 13) (.cons (.var 4) .nil))))) (.b1 .repr (.var 6))) (.one (.cmp .ne (.b1 .repr (.call 10 (.cons (.var 12) (.cons (.var 13) (.cons (.var 4) .nil))))) (.b1 .repr (.var 14))))) (.cons (.ret (.bl false)) .nil) .nil) (.cons (.ife (.cmp .notIn (.var 14) (.var 3)) (.cons (.upd 3 (.call 17 (.cons (.var 14) .nil))) .nil) .nil) .nil)))
theorem lineM_repr (hn : n ≤ 8) (hp : p ≤ 1000) (hv : v < n) (j : Nat) : bu1 .repr (.tuple ((lineM n j v X).map Mv.d)) = some (.str (PyData.tuple ((lineM n j v X).map Mv.d)).shown) := by
  have hl : (lineM n j v X).length ≤ 2 := by
    unfold lineM
    split
    · simp
    · split
      · simp
      · split <;> simp
  refine (Sm.tuple (k := 1) (w := 195) (m := 2) ?_ (by simpa using hl)).repr rfl (by omega) (by decide)
  intro x hx
  obtain ⟨m, hm, rfl⟩ := List.mem_map.mp hx
  exact mv_sm hn hp m (lineM_ok hv m hm)
theorem mvs_tx (ms : List (Mv p)) : txOk (.tuple (ms.map Mv.d)) = true := by
  simp only [txOk]
  refine txOks_all fun x hx => ?_
  obtain ⟨m, _, rfl⟩ := List.mem_map.mp hx
  exact mv_tx m
theorem sp_mv (ms : List (Mv p)) : ms.map Mv.d = (ms.map Sp.mv).map Sp.d := by rw [List.map_map]; rfl
theorem go_on (ms : List (Mv p)) (X : Wb (FP p)) : goAll (ms.map Sp.mv) X = onAll ms X := by
  unfold goAll onAll
  rw [List.foldl_map]
  rfl
theorem sx_upd {C : Ctx} {ρ : DEnv} {S1 : Src} {i : Nat} {e : Ex} {xs ys : List (D × D)} (g : ρ[i]? = some (some (.dict xs))) (h : evE C e ρ S = some (.dict ys, S1)) (l : xs.length + ys.length < LINE) (q : xs.isEmpty = false ∨ hashOk ys = true) :
    evS C (.upd i e) ρ S = some (.nx, ρ.set i (some (.dict (ys.foldl (fun m p => dPut m p.1 p.2) xs))), S1) := by
  have hq : (decide (xs.length + ys.length < LINE) && (!xs.isEmpty || hashOk ys)) = true := by
    rw [Bool.and_eq_true]
    refine ⟨decide_eq_true l, ?_⟩
    rcases q with q | q
    · rw [q]; rfl
    · rw [q, Bool.or_true]
  simp only [evS, g, h]
  rw [if_pos hq]
/-- one line -/
theorem lapLine (ok : Ok n X) (hn : n ≤ 8) (hp : p ≤ 1000) (hv : v < n) {N : Nat} (hN : ∀ l : List (Wb (FP p)), l.Nodup → (∀ Y ∈ l, Ok n Y) → l.length ≤ N) (hNL : N < LINE) (hfu : N + 2 ≤ fuel) (chk : chkH p n v = true) {fs : Fs p} (m : Made n v fs) {j : Nat} (hj : j ≤ p) :
    ∃ fs' x6 x14, evSs (CL fuel k) lineB (E4 p n v X a0 a1 a2 (some (.dict (foundD n fs))) (some (.int j)) a5 a6 a7 a8 a9 a14 a15) S = some (.nx, E4 p n v X a0 a1 a2 (some (.dict (foundD n fs'))) (some (.int j)) a5 x6 a7 a8 a9 x14 a15, S) ∧ Made n v fs' ∧ (∀ Y ∈ keysF fs, Y ∈ keysF fs') ∧ due n v X j ∈ keysF fs' := by
  let C : Ctx := CL fuel k
  let ms := lineM n j v X
  let x6 : Option D := some (.tuple (ms.map Mv.d))
  let x14 : Option D := some (wD n (due n v X j))
  let E (md x y : Option D) : DEnv := E4 p n v X a0 a1 a2 md (some (.int j)) a5 x a7 a8 a9 y a15
  have h1 : evS C (.asg (.nm 6) (.call 22 (.cons (.var 12) (.cons (.var 13) (.cons (.var 4) .nil))))) (E (some (.dict (foundD n fs))) a6 a14) S = some (.nx, E (some (.dict (foundD n fs))) x6 a14, S) :=
    sx_asg (ev_callG (evs_cons' (ev_var rfl) (evs_cons' (ev_var rfl) (evs_cons' (ev_var rfl) evs_nil'))) (c_law_line_moves ok hp hn hv hj)) rfl
  have hst : callT fuel (k + 8) 19 [wD n X, .tuple (ms.map Mv.d)] S = some (wD n (onAll ms X), S) := by
    rw [sp_mv]
    have := c_law_stepped (k := k + 5) (fuel := fuel) (S := S) ok hp (by omega) (ms.map Sp.mv) (fun q hq => by
      obtain ⟨m, hm, rfl⟩ := List.mem_map.mp hq
      exact lineM_ok hv m hm)
    rw [go_on] at this
    exact this
  have h2 : evS C (.asg (.nm 14) (.call 18 (.cons (.call 19 (.cons (.var 12) (.cons (.var 6) .nil))) (.cons (.var 13) .nil)))) (E (some (.dict (foundD n fs))) x6 a14) S = some (.nx, E (some (.dict (foundD n fs))) x6 x14, S) :=
    sx_asg (ev_callG (evs_cons' (ev_callG (evs_cons' (ev_var rfl) (evs_cons' (ev_var rfl) evs_nil')) hst) (evs_cons' (ev_var rfl) evs_nil')) c_law_out) rfl
  have h3 : evS C (.ife (.or (.cmp .ne (.b1 .repr (.call 9 (.cons (.var 12) (.cons (.var 13) (.cons (.var 4) .nil))))) (.b1 .repr (.var 6))) (.one (.cmp .ne (.b1 .repr (.call 10 (.cons (.var 12) (.cons (.var 13) (.cons (.var 4) .nil))))) (.b1 .repr (.var 14))))) (.cons (.ret (.bl false)) .nil) .nil) (E (some (.dict (foundD n fs))) x6 x14) S = some (.nx, E (some (.dict (foundD n fs))) x6 x14, S) :=
    sx_ifF (ev_orF (ev_cmpG (ev_b1G (ev_callG (evs_cons' (ev_var rfl) (evs_cons' (ev_var rfl) (evs_cons' (ev_var rfl) evs_nil'))) (c_line_moves ok hp hn hv hj)) (lineM_repr hn hp hv j)) (ev_b1G (ev_var rfl) (lineM_repr hn hp hv j)) (cop_shown (mvs_tx _)))
      (ev_oneG (ev_cmpG (ev_b1G (ev_callG (evs_cons' (ev_var rfl) (evs_cons' (ev_var rfl) (evs_cons' (ev_var rfl) evs_nil'))) (c_without_line ok hp hn hv hj)) (wD_repr hn hp)) (ev_b1G (ev_var rfl) (wD_repr hn hp)) wD_shown))) sx_nil
  have od := due_ok ok v j
  have kOkd : kOk (wD n (due n v X j)) = true := webD_kOk _ _ _
  by_cases hin : due n v X j ∈ keysF fs
  · obtain ⟨ms', _, hf⟩ := dFind_yes m.ok od hin
    have c : cop .notIn (wD n (due n v X j)) (.dict (foundD n fs)) = some false := by
      simp only [cop, dIn, kOkd, if_true, hf, Option.map, Option.isSome, Bool.not_true]
    exact ⟨fs, x6, x14, sx_nx h1 (sx_nx h2 (sx_nx h3 (sx_nx (sx_ifF (ev_cmpG (ev_var rfl) (ev_var rfl) c) sx_nil) sx_nil))), m, fun _ h => h, hin⟩
  · have hf := dFind_no m.ok od hin
    have c : cop .notIn (wD n (due n v X j)) (.dict (foundD n fs)) = some true := by
      simp only [cop, dIn, kOkd, if_true, hf, Option.map, Option.isSome, Bool.not_false]
    obtain ⟨gs, hc, g, gc, gx⟩ := c_law_class (k := k + 5) (fuel := fuel) (S := S) od hp hn hN hNL hfu
    obtain ⟨m', dis⟩ := made_app m od g gc hin
    have hlen : (foundD n fs).length + (foundD n gs).length < LINE := by
      have := hN _ m'.nd m'.ok
      rw [keysF_app, List.length_append] at this
      simp only [foundD_len]
      simp only [keysF, List.length_map] at this
      omega
    have hhash : hashOk (foundD n gs) = true := hashOk_off chk g od Off_out
    have hcall : evE C (.call 17 (.cons (.var 14) .nil)) (E (some (.dict (foundD n fs))) x6 x14) S = some (.dict (foundD n gs), S) := ev_callG (evs_cons' (ev_var rfl) evs_nil') hc
    have e4 : evS C (.upd 3 (.call 17 (.cons (.var 14) .nil))) (E (some (.dict (foundD n fs))) x6 x14) S = some (.nx, E (some (.dict (foundD n (fs ++ gs)))) x6 x14, S) := by
      have := sx_upd (i := 3) rfl hcall hlen (.inr hhash)
      rw [foldPut gs fs m.ok g.ok g.nd dis] at this
      exact this
    refine ⟨fs ++ gs, x6, x14, sx_nx h1 (sx_nx h2 (sx_nx h3 (sx_nx (sx_ifT (ev_cmpG (ev_var rfl) (ev_var rfl) c) (sx_nx e4 sx_nil)) sx_nil))), m', fun Y hY => ?_, ?_⟩
    · rw [keysF_app]; exact List.mem_append_left _ hY
    · rw [keysF_app]; exact List.mem_append_right _ gx
/-- all lines -/
theorem lapD (ok : Ok n X) (hn : n ≤ 8) (hp : p ≤ 1000) (hv : v < n) {N : Nat} (hN : ∀ l : List (Wb (FP p)), l.Nodup → (∀ Y ∈ l, Ok n Y) → l.length ≤ N) (hNL : N < LINE) (hfu : N + 2 ≤ fuel) (chk : chkH p n v = true) :
    ∃ fs x4 x6 x14, evS (CL fuel k) (.loop (.nm 4) (.rng1 (.bin .add (.var 10) (.int 1))) lineB) (E4 p n v X a0 a1 a2 (some (.dict [])) a4 a5 a6 a7 a8 a9 a14 a15) S = some (.nx, E4 p n v X a0 a1 a2 (some (.dict (foundD n fs))) x4 a5 x6 a7 a8 a9 x14 a15, S) ∧ Made n v fs ∧ ∀ j, j ≤ p → due n v X j ∈ keysF fs := by
  obtain ⟨ρ', h, fs, x4, x6, x14, rfl, m, hd⟩ := forGo_foldI (S := S) (tg := .nm 4) (b := fun ρ S => evSs (CL fuel k) lineB ρ S) (fun j : Nat => PyData.int (j : Int))
    (fun i (_ : Unit) ρ => ∃ fs x4 x6 x14, ρ = E4 p n v X a0 a1 a2 (some (.dict (foundD n fs))) x4 a5 x6 a7 a8 a9 x14 a15 ∧ Made n v fs ∧ ∀ j, j < i → due n v X j ∈ keysF fs) (fun _ _ => ()) (List.range (p + 1)) 0 () _ ⟨[], a4, a6, a14, rfl, ⟨List.nodup_nil, fun Y h => by simp [keysF] at h, fun Y h => by simp [keysF] at h⟩, fun j hj => by omega⟩ (by
      rintro i _ j ρ hj ⟨fs, x4, x6, x14, rfl, m, hd⟩
      obtain ⟨rfl, hi⟩ := range_get' hj
      obtain ⟨fs', x6', x14', q0, q1, q2, q3⟩ := lapLine (k := k) (S := S) (a0 := a0) (a1 := a1) (a2 := a2) (a5 := a5) (a6 := x6) (a7 := a7) (a8 := a8) (a9 := a9) (a14 := x14) (a15 := a15) ok hn hp hv hN hNL hfu chk m (j := j) (by omega)
      refine ⟨E4 p n v X a0 a1 a2 (some (.dict (foundD n fs))) (some (.int j)) a5 x6 a7 a8 a9 x14 a15, _, rfl, q0, fs', _, x6', x14', rfl, q1, fun i hi => ?_⟩
      by_cases e : i = j
      · subst e; exact q3
      · exact q2 _ (hd i (by omega)))
  rw [List.length_range] at hd
  exact ⟨fs, x4, x6, x14, sx_loop (it_rng1 (n := p + 1) (ev_bin (ev_var rfl) ev_intC rfl) (by omega)) h, m, fun j hj => hd j (by omega)⟩
/-- each web that moves make, without v, is made -/
theorem lapE (ok : Ok n X) (hn : n ≤ 8) (hp : p ≤ 1000) (hv : v < n) {N : Nat} (hN : ∀ l : List (Wb (FP p)), l.Nodup → (∀ Y ∈ l, Ok n Y) → l.length ≤ N) (hNL : N < LINE) (hfu : N + 2 ≤ fuel) {fs : Fs p} (m : Made n v fs) (hd : ∀ j, j ≤ p → due n v X j ∈ keysF fs) :
    ∃ x5, evS (CL fuel k) (.loop (.nm 5) (.dat (.call 17 (.cons (.var 12) .nil))) (.cons (.ife (.cmp .notIn (.call 18 (.cons (.var 5) (.cons (.var 13) .nil))) (.var 3)) (.cons (.ret (.bl false)) .nil) .nil) .nil)) (E4 p n v X a0 a1 a2 (some (.dict (foundD n fs))) a4 a5 a6 a7 a8 a9 a14 a15) S = some (.nx, E4 p n v X a0 a1 a2 (some (.dict (foundD n fs))) a4 x5 a6 a7 a8 a9 a14 a15, S) := by
  obtain ⟨hs, hc, g, gc, gx⟩ := c_law_class (k := k + 5) (fuel := fuel) (S := S) ok hp hn hN hNL hfu
  obtain ⟨ρ', h, x5, rfl⟩ := forGo_fold (S := S) (tg := .nm 5) (b := fun ρ S => evSs (CL fuel k) (.cons (.ife (.cmp .notIn (.call 18 (.cons (.var 5) (.cons (.var 13) .nil))) (.var 3)) (.cons (.ret (.bl false)) .nil) .nil) .nil) ρ S) (wD n)
    (fun (_ : Unit) ρ => ∃ x5, ρ = E4 p n v X a0 a1 a2 (some (.dict (foundD n fs))) a4 x5 a6 a7 a8 a9 a14 a15) (fun _ _ => ()) (keysF hs) () (E4 p n v X a0 a1 a2 (some (.dict (foundD n fs))) a4 a5 a6 a7 a8 a9 a14 a15) ⟨a5, rfl⟩ (by
      rintro _ Y hY ρ ⟨x5, rfl⟩
      have r := g.re Y hY
      obtain ⟨j, hj, hr⟩ := due_all ok hv r
      have hin := closed_led m.cl hr (hd j hj)
      have oY : Ok n (out v Y) := GW.Ok.out (g.ok Y hY) v
      obtain ⟨ms', _, hf⟩ := dFind_yes m.ok oY hin
      have kO : kOk (wD n (out v Y)) = true := webD_kOk _ _ _
      have c : cop .notIn (wD n (out v Y)) (.dict (foundD n fs)) = some false := by
        simp only [cop, dIn, kO, if_true, hf, Option.map, Option.isSome, Bool.not_true]
      exact ⟨E4 p n v X a0 a1 a2 (some (.dict (foundD n fs))) a4 (some (wD n Y)) a6 a7 a8 a9 a14 a15, _, rfl, sx_nx (sx_ifF (ev_cmpG (ev_callG (evs_cons' (ev_var rfl) (evs_cons' (ev_var rfl) evs_nil')) c_law_out) (ev_var rfl) c) sx_nil) sx_nil, _, rfl⟩)
  refine ⟨x5, sx_loop (it_dat (ev_callG (evs_cons' (ev_var rfl) evs_nil') hc) ?_) h⟩
  simp only [itemsOf]
  congr 1
  unfold foundD keysF
  rw [List.map_map, List.map_map]
  rfl
end
end TW
set_option maxRecDepth 20000
namespace TW
open PySem PySem.Spec L2 GW
theorem lcGo_each {α : Type} {f c : DEnv → Src → Rs} {tg : Tg} {ρ : DEnv} (it : α → D) (P : D → Prop) : ∀ (xs : List α) (S : Src), (∀ x ∈ xs, ∀ S, ∃ ρ1 y S2, setTg tg (it x) ρ = some ρ1 ∧ c ρ1 S = some (.bool true, S) ∧ f ρ1 S = some (y, S2) ∧ P y) →
    ∃ ys S', lcGo f c tg ρ (xs.map it) S = some (ys, S') ∧ ys.length = xs.length ∧ ∀ y ∈ ys, P y
  | [], S, _ => ⟨[], S, rfl, rfl, fun y h => by simp at h⟩
  | x :: xs, S, h => by
    obtain ⟨ρ1, y, S2, h1, h2, h3, h4⟩ := h x List.mem_cons_self S
    obtain ⟨ys, S', h5, h6, h7⟩ := lcGo_each it P xs S2 fun y hy => h y (List.mem_cons_of_mem _ hy)
    refine ⟨y :: ys, S', ?_, by simp [h6], fun z hz => (List.mem_cons.mp hz).elim (fun e => e ▸ h4) (h7 z)⟩
    rw [List.map_cons, lcGo, h1]
    dsimp only
    rw [h2]
    dsimp only
    rw [h3]
    dsimp only
    rw [h5]
theorem ev_slG {C : Ctx} {a : Ex} {lo hi : Oe} {x d : D} {l u : Option Int} {ρ : DEnv} {S S1 S2 S3 : Src} (ha : evE C a ρ S = some (x, S1)) (hl : evO C lo ρ S1 = some (l, S2)) (hh : evO C hi ρ S2 = some (u, S3)) (k : dSl x l u = some d) : evE C (.sl a lo hi) ρ S = some (d, S3) := by
  simp only [evE, ha, hl, hh, k, Option.map]
theorem evO_no {C : Ctx} {ρ : DEnv} {S : Src} : evO C .no ρ S = some (none, S) := by simp only [evO]
theorem evO_so {C : Ctx} {e : Ex} {ρ : DEnv} {S S1 : Src} {i : Int} (h : evE C e ρ S = some (.int i, S1)) : evO C (.so e) ρ S = some (some i, S1) := by simp only [evO, h]
mutual
theorem eqv_self : ∀ d : D, d.canLay0 = true → PyData.eqv d d = true
  | .none, _ => by simp [PyData.eqv]
  | .bool b, _ => by simp [PyData.eqv]
  | .int i, _ => by simp [PyData.eqv]
  | .str x, _ => by simp [PyData.eqv]
  | .list xs, h => by
    simp only [PyData.canLay0] at h
    simp only [PyData.eqv]
    exact eqv_selfs xs h
  | .tuple xs, h => by
    simp only [PyData.canLay0] at h
    simp only [PyData.eqv]
    exact eqv_selfs xs h
  | .dict _, h => by simp [PyData.canLay0] at h
theorem eqv_selfs : ∀ xs : List D, PyData.canLayAll0 xs = true → PyData.eqvAll xs xs = true
  | [], _ => by simp [PyData.eqvAll]
  | x :: xs, h => by
    simp only [PyData.canLayAll0, Bool.and_eq_true] at h
    simp only [PyData.eqvAll, eqv_self x h.1, eqv_selfs xs h.2, Bool.and_self]
end
section
variable {p : Nat} [NeZero p] [PrimeP p] {n fuel k v : Nat} {X : Wb (FP p)} {S : Src}
variable {a0 a1 a2 a3 a4 a5 a6 a7 a8 a9 a14 a15 : Option D}
theorem wD_same_ne (hn : n ≤ 8) (hp : p ≤ 1000) : cop .ne (wD n X) (wD n X) = some false := by
  have h := wD_sm (X := X) hn hp
  have hs := h.shp (by omega)
  simp only [cop, hs, Bool.and_self, if_true, eqv_self _ h.lay, Bool.not_true]
theorem out_on (m : Mv p) (X : Wb (FP p)) (h : m.at_ ≠ v) : out v (m.on X) = m.on (out v X) := by
  cases m with
  | tn u c =>
    show out v (GW.tn u c X) = GW.tn u c (out v X)
    have hu : u ≠ v := h
    funext a b
    unfold out GW.tn
    by_cases h1 : a = v
    · subst h1; simp [hu]; grind
    · by_cases h2 : b = v
      · subst h2; simp [hu]; grind
      · simp [h1, h2, hu]
  | sc u s =>
    show out v (GW.sc u s X) = GW.sc u s (out v X)
    funext a b
    unfold out GW.sc
    dsimp only
    by_cases h1 : a = v ∨ b = v
    · rw [if_pos h1, if_pos h1]; grind
    · rw [if_neg h1, if_neg h1]
theorem mvs_pos (hn : 1 ≤ n) : 1 ≤ (mvs p n).length := by
  have pp := p_two (p := p)
  have : Mv.tn 0 (kF p 1) ∈ mvs p n := by
    unfold mvs
    simp only [List.mem_flatMap, List.mem_range, List.mem_append, List.mem_map]
    exact ⟨0, by omega, .inl ⟨0, by omega, rfl⟩⟩
  exact List.length_pos_of_mem this
theorem mvs_len (hn : n ≤ 8) (hp : p ≤ 1000) : (mvs p n).length ≤ 100000 := by
  unfold mvs
  have : ∀ l : List Nat, (l.flatMap fun v => (List.range (p - 1)).map (fun i => Mv.tn v (kF p (1 + i))) ++ (List.range (p - 2)).map (fun i => Mv.sc v (kF p (2 + i)))).length ≤ l.length * 2000 := fun l => by
    induction l with
    | nil => simp
    | cons a l ih =>
      rw [List.flatMap_cons, List.length_append, List.length_append, List.length_map, List.length_map, List.length_range, List.length_range, List.length_cons]
      omega
  have := this (List.range n)
  rw [List.length_range] at this
  omega
abbrev stepE1 : Ex := .bin .add (.lc (.ix (.var 6) (.pick (.b1 .len (.var 6)))) (.nm 15) (.rng1 (.int 4)) .no [15]) (.lst (.cons (.tup (.cons (.str "out") (.cons (.var 13) .nil))) .nil))
abbrev stepE2 : Ex := .b1 .tuple (.bin .add (.bin .add (.bin .add (.sl (.var 7) .no (.so (.int 2))) (.sl (.var 7) (.so (.int 4)) .no)) (.sl (.var 7) (.so (.int 2)) (.so (.int 4)))) (.lst (.cons (.tup (.cons (.str "out") (.cons (.pick (.var 11)) .nil))) .nil)))
theorem lapF1 (hn1 : 1 ≤ n) (hn : n ≤ 8) (hp : p ≤ 1000) : ∃ m0 m1 m2 m3 S', (m0 : Mv p).Ok n ∧ (m1 : Mv p).Ok n ∧ (m2 : Mv p).Ok n ∧ (m3 : Mv p).Ok n ∧
    evE (CL fuel k) stepE1 (E4 p n v X a0 a1 a2 a3 a4 a5 (some (.list (movesL p n))) a7 a8 a9 a14 a15) S = some (.list [m0.d, m1.d, m2.d, m3.d, (Sp.out (p := p) v).d], S') := by
  obtain ⟨ys, S', h, hl, hP⟩ := lcGo_each (f := fun ρ S => evE (CL fuel k) (.ix (.var 6) (.pick (.b1 .len (.var 6)))) ρ S) (c := fun ρ S => evT (CL fuel k) .no ρ S) (tg := .nm 15) (ρ := wipeE (E4 p n v X a0 a1 a2 a3 a4 a5 (some (.list (movesL p n))) a7 a8 a9 a14 a15) [15]) (fun i : Nat => PyData.int (i : Int)) (fun y => ∃ m : Mv p, m.Ok n ∧ y = m.d) (List.range 4) S (by
    intro x _ S
    have hlen : (movesL p n).length = (mvs p n).length := by rw [movesL_d, List.length_map]
    obtain ⟨j, S2, hj, e⟩ := ev_pickN (C := CL fuel k) (a := .b1 .len (.var 6)) (ρ := E4 p n v X a0 a1 a2 a3 a4 a5 (some (.list (movesL p n))) a7 a8 a9 a14 (some (.int x))) (S := S) (S1 := S) (m := (mvs p n).length) (ev_b1G (ev_var rfl) (by rw [← hlen]; rfl)) (mvs_pos hn1) (by have := mvs_len (p := p) hn hp; omega)
    have hm : (mvs p n)[j] ∈ mvs p n := List.getElem_mem _
    refine ⟨E4 p n v X a0 a1 a2 a3 a4 a5 (some (.list (movesL p n))) a7 a8 a9 a14 (some (.int x)), _, S2, rfl, evT_no, ev_ixG (ev_var rfl) e ?_, (mvs p n)[j], mvs_ok _ hm, rfl⟩
    refine atI_nat' ?_
    rw [movesL_d, List.getElem?_map, List.getElem?_eq_getElem hj]
    rfl)
  have h4 : ys.length = 4 := by rw [hl]; rfl
  match ys, h4, hP with
  | [y0, y1, y2, y3], _, hP =>
    obtain ⟨m0, o0, rfl⟩ := hP y0 (by simp)
    obtain ⟨m1, o1, rfl⟩ := hP y1 (by simp)
    obtain ⟨m2, o2, rfl⟩ := hP y2 (by simp)
    obtain ⟨m3, o3, rfl⟩ := hP y3 (by simp)
    refine ⟨m0, m1, m2, m3, S', o0, o1, o2, o3, ?_⟩
    refine ev_bin (ev_lcG (it_rng1 (n := 4) ev_intC (by omega)) h) (ev_lstG (evs_cons' (ev_tupG (evs_cons' (ev_strC (x := sOut)) (evs_cons' (ev_var rfl) evs_nil')) (by simp [LINE])) evs_nil') (by simp [LINE])) ?_
    exact bop_cat (by simp [LINE])
theorem lapF2 (hn1 : 1 ≤ n) (hn : n ≤ 8) (m0 m1 m2 m3 : Mv p) : ∃ u S', u < n ∧
    evE (CL fuel k) stepE2 (E4 p n v X a0 a1 a2 a3 a4 a5 a6 (some (.list [m0.d, m1.d, m2.d, m3.d, (Sp.out (p := p) v).d])) a8 a9 a14 a15) S = some (.tuple ([Sp.mv m0, Sp.mv m1, Sp.out v, Sp.mv m2, Sp.mv m3, Sp.out u].map Sp.d), S') := by
  obtain ⟨u, S2, hu, e⟩ := ev_pickN (C := CL fuel k) (a := .var 11) (ρ := E4 p n v X a0 a1 a2 a3 a4 a5 a6 (some (.list [m0.d, m1.d, m2.d, m3.d, (Sp.out (p := p) v).d])) a8 a9 a14 a15) (S := S) (S1 := S) (m := n) (ev_var rfl) hn1 (by omega)
  refine ⟨u, S2, hu, ev_b1G (ev_bin (ev_bin (ev_bin (ev_slG (ev_var rfl) evO_no (evO_so ev_intC) (d := .list [m0.d, m1.d]) rfl) (ev_slG (ev_var rfl) (evO_so ev_intC) evO_no (d := .list [(Sp.out (p := p) v).d]) rfl) (bop_cat (by simp [LINE]))) (ev_slG (ev_var rfl) (evO_so ev_intC) (evO_so ev_intC) (d := .list [m2.d, m3.d]) rfl) (bop_cat (by simp [LINE]))) (ev_lstG (evs_cons' (ev_tupG (evs_cons' (ev_strC (x := sOut)) (evs_cons' e evs_nil')) (by simp [LINE])) evs_nil') (by simp [LINE])) (bop_cat (by simp [LINE]))) rfl⟩
theorem lapF3 (ok : Ok n X) (hn : n ≤ 8) (hp : p ≤ 1000) (ms : List (Sp p)) (hm : ∀ m ∈ ms, m.Ok n) : evS (CL fuel k) (.ife (.cmp .ne (.b1 .repr (.call 11 (.cons (.var 12) (.cons (.var 7) .nil)))) (.b1 .repr (.call 19 (.cons (.var 12) (.cons (.var 7) .nil))))) (.cons (.ret (.bl false)) .nil) .nil) (E4 p n v X a0 a1 a2 a3 a4 a5 a6 (some (.tuple (ms.map Sp.d))) a8 a9 a14 a15) S = some (.nx, E4 p n v X a0 a1 a2 a3 a4 a5 a6 (some (.tuple (ms.map Sp.d))) a8 a9 a14 a15, S) :=
  sx_ifF (ev_cmpG (ev_b1G (ev_callG (evs_cons' (ev_var rfl) (evs_cons' (ev_var rfl) evs_nil')) (c_made_steps ok hp (by omega) ms hm)) (wD_repr hn hp)) (ev_b1G (ev_callG (evs_cons' (ev_var rfl) (evs_cons' (ev_var rfl) evs_nil')) (c_law_stepped ok hp (by omega) ms hm)) (wD_repr hn hp)) wD_shown) sx_nil
theorem mv_at (m : Mv p) : dIx m.d (.int 1) = some (.int m.at_) := by
  cases m with
  | tn v c => rfl
  | sc v c => rfl
theorem lapG (ok : Ok n X) (hn : n ≤ 8) (hp : p ≤ 1000) (hv : v < n) {w : Nat} : ∃ x9, evS (CL fuel k) (.loop (.nm 9) (.dat (.lc (.var 9) (.nm 9) (.dat (.var 6)) (.so (.and (.cmp .eq (.ix (.var 9) (.int 1)) (.var 8)) (.one (.cmp .ne (.var 8) (.var 13))))) [9])) (.cons (.ife (.cmp .ne (.call 18 (.cons (.call 15 (.cons (.var 12) (.cons (.var 9) .nil))) (.cons (.var 13) .nil))) (.call 15 (.cons (.call 8 (.cons (.var 12) (.cons (.var 13) .nil))) (.cons (.var 9) .nil)))) (.cons (.ret (.bl false)) .nil) .nil) .nil)) (E4 p n v X a0 a1 a2 a3 a4 a5 (some (.list (movesL p n))) a7 (some (.int (w : Int))) a9 a14 a15) S = some (.nx, E4 p n v X a0 a1 a2 a3 a4 a5 (some (.list (movesL p n))) a7 (some (.int (w : Int))) x9 a14 a15, S) := by
  let E (x : Option D) : DEnv := E4 p n v X a0 a1 a2 a3 a4 a5 (some (.list (movesL p n))) a7 (some (.int (w : Int))) x a14 a15
  let ms := (mvs p n).filter fun m => decide (m.at_ = w) && decide (w ≠ v)
  have hl : evE (CL fuel k) (.lc (.var 9) (.nm 9) (.dat (.var 6)) (.so (.and (.cmp .eq (.ix (.var 9) (.int 1)) (.var 8)) (.one (.cmp .ne (.var 8) (.var 13))))) [9]) (E a9) S = some (.list (ms.map Mv.d), S) := by
    refine ev_lcG (it_dat (ev_var rfl) (by rw [movesL_d]; rfl)) ?_
    rw [lcGo_map (α := Mv p) Mv.d (fun m => if (decide (m.at_ = w) && decide (w ≠ v)) = true then some m.d else none)]
    · congr 2
      have : ∀ l : List (Mv p), l.filterMap (fun m => if (decide (m.at_ = w) && decide (w ≠ v)) = true then some m.d else none) = (l.filter fun m => decide (m.at_ = w) && decide (w ≠ v)).map Mv.d := fun l => by
        induction l with
        | nil => rfl
        | cons a l ih =>
          rw [List.filterMap_cons, List.filter_cons]
          by_cases h : (decide (a.at_ = w) && decide (w ≠ v)) = true
          · rw [if_pos h, if_pos h, List.map_cons, ih]
          · rw [if_neg h, if_neg h]; exact ih
      rw [this]
    · intro m _
      refine ⟨E (some m.d), rfl, ?_, fun y hy => ?_⟩
      · have c1 : cop .eq (.int (m.at_ : Int)) (.int (w : Int)) = some (decide (m.at_ = w)) := by
          rw [cop_eq_int]
          congr 1
          by_cases h : m.at_ = w <;> simp [h] <;> omega
        refine evT_so ((ev_and (ev_cmpG (ev_ixG (ev_var rfl) ev_intC (mv_at m)) (ev_var rfl) c1) (ev_oneG (ev_cmpG (ev_var rfl) (ev_var rfl) (cop_ne_nat w v)))).trans ?_)
        cases (decide (m.at_ = w) && decide (w ≠ v)) <;> rfl
      · by_cases h : (decide (m.at_ = w) && decide (w ≠ v)) = true
        · rw [if_pos h] at hy; cases hy; exact ev_var rfl
        · rw [if_neg h] at hy; cases hy
  obtain ⟨ρ', h, x9, rfl⟩ := forGo_fold (S := S) (tg := .nm 9) (b := fun ρ S => evSs (CL fuel k) (.cons (.ife (.cmp .ne (.call 18 (.cons (.call 15 (.cons (.var 12) (.cons (.var 9) .nil))) (.cons (.var 13) .nil))) (.call 15 (.cons (.call 8 (.cons (.var 12) (.cons (.var 13) .nil))) (.cons (.var 9) .nil)))) (.cons (.ret (.bl false)) .nil) .nil) .nil) ρ S) Mv.d
    (fun (_ : Unit) ρ => ∃ x9, ρ = E x9) (fun _ _ => ()) ms () (E a9) ⟨a9, rfl⟩ (by
      rintro _ m hm ρ ⟨x9, rfl⟩
      obtain ⟨hm1, hm2⟩ := List.mem_filter.mp hm
      rw [Bool.and_eq_true] at hm2
      have e1 := of_decide_eq_true hm2.1
      have e2 := of_decide_eq_true hm2.2
      have hmo := mvs_ok m hm1
      have oo := GW.Ok.out ok v
      have c : cop .ne (wD n (out v (m.on X))) (wD n (m.on (out v X))) = some false := by
        rw [out_on m X (by rw [e1]; exact e2)]
        exact wD_same_ne hn hp
      exact ⟨E (some m.d), _, rfl, sx_nx (sx_ifF (ev_cmpG (ev_callG (evs_cons' (ev_callG (evs_cons' (ev_var rfl) (evs_cons' (ev_var rfl) evs_nil')) (c_law_moved ok hp (by omega) m hmo)) (evs_cons' (ev_var rfl) evs_nil')) c_law_out) (ev_callG (evs_cons' (ev_callG (evs_cons' (ev_var rfl) (evs_cons' (ev_var rfl) evs_nil')) c_left_out) (evs_cons' (ev_var rfl) evs_nil')) (c_law_moved oo hp (by omega) m hmo)) c) sx_nil) sx_nil, _, rfl⟩)
  exact ⟨x9, sx_loop (it_dat hl rfl) h⟩
end
end TW
set_option maxRecDepth 20000
namespace TW
open PySem PySem.Spec L2 GW
abbrev lapBody : Sts := match lawB with
  | .cons (.loop _ _ b) _ => b
  | _ => .nil
section
variable {p : Nat} [NeZero p] [PrimeP p] {n fuel k v : Nat} {S : Src}
/-- a lap, behind the draw of its size -/
theorem lap_one (hn1 : 1 ≤ n) (hn : n ≤ 8) (hp : p ≤ 1000) {N : Nat} (hN : ∀ l : List (Wb (FP p)), l.Nodup → (∀ Y ∈ l, Ok n Y) → l.length ≤ N) (hNL : N < LINE) (hfu : N + 2 ≤ fuel) (chk : ∀ v < n, chkH p n v = true)
    {S S1 : Src} (hs : callT fuel (k + 8) 20 [] S = some (.tuple [.int (p : Int), .int (n : Int)], S1)) (a0 a1 a2 a3 a4 a5 a6 a7 a8 a9 a10 a11 a12 a13 a14 a15 : Option D) :
    ∃ b0 b1 b2 b3 b4 b5 b6 b7 b8 b9 b10 b11 b12 b13 b14 b15 S', evSs (CL fuel k) lapBody (E16 a0 a1 a2 a3 a4 a5 a6 a7 a8 a9 a10 a11 a12 a13 a14 a15) S = some (.nx, E16 b0 b1 b2 b3 b4 b5 b6 b7 b8 b9 b10 b11 b12 b13 b14 b15, S') := by
  obtain ⟨X, S2, ok, hX⟩ := c_drawn_web (fuel := fuel) (k := k + 6) (n := n) (p := p) (S := S1) hp hn
  have h1 : evS (CL fuel k) (.asg (.tp [10, 11]) (.call 20 .nil)) (E16 a0 a1 a2 a3 a4 a5 a6 a7 a8 a9 a10 a11 a12 a13 a14 a15) S = some (.nx, E16 a0 a1 a2 a3 a4 a5 a6 a7 a8 a9 (some (.int p)) (some (.int n)) a12 a13 a14 a15, S1) :=
    sx_asg (ev_callG evs_nil' hs) rfl
  obtain ⟨v, S3, hv, ev⟩ := ev_pickN (C := CL fuel k) (a := .var 11) (ρ := E16 a0 a1 a2 a3 a4 a5 a6 a7 a8 a9 (some (.int p)) (some (.int n)) a12 a13 a14 a15) (S := S2) (S1 := S2) (m := n) (ev_var rfl) hn1 (by omega)
  have h2 : evS (CL fuel k) (.asg (.tp [12, 13]) (.tup (.cons (.call 21 (.cons (.var 10) (.cons (.var 11) .nil))) (.cons (.pick (.var 11)) .nil)))) (E16 a0 a1 a2 a3 a4 a5 a6 a7 a8 a9 (some (.int p)) (some (.int n)) a12 a13 a14 a15) S1 = some (.nx, E4 p n v X a0 a1 a2 a3 a4 a5 a6 a7 a8 a9 a14 a15, S3) :=
    sx_asg (ev_tupG (evs_cons' (ev_callG (evs_cons' (ev_var rfl) (evs_cons' (ev_var rfl) evs_nil')) hX) (evs_cons' ev evs_nil')) (by simp [LINE])) rfl
  have h3 := lapB (X := X) (fuel := fuel) (k := k) (S := S3) (v := v) (a0 := a0) (a1 := a1) (a2 := a2) (a3 := a3) (a4 := a4) (a5 := a5) (a6 := a6) (a7 := a7) (a8 := a8) (a9 := a9) (a14 := a14) (a15 := a15) hn hp
  have h4 : evS (CL fuel k) (.asg (.nm 3) (.dic .nil .nil)) (E4 p n v X a0 a1 a2 a3 a4 a5 a6 a7 a8 a9 a14 a15) S3 = some (.nx, E4 p n v X a0 a1 a2 (some (.dict [])) a4 a5 a6 a7 a8 a9 a14 a15, S3) := sx_asg ev_dic0 rfl
  obtain ⟨fs, x4, x6, x14, h5, m, hd⟩ := lapD (fuel := fuel) (k := k) (S := S3) (a0 := a0) (a1 := a1) (a2 := a2) (a4 := a4) (a5 := a5) (a6 := a6) (a7 := a7) (a8 := a8) (a9 := a9) (a14 := a14) (a15 := a15) ok hn hp hv hN hNL hfu (chk v hv)
  obtain ⟨x5, h6⟩ := lapE (fuel := fuel) (k := k) (S := S3) (a0 := a0) (a1 := a1) (a2 := a2) (a4 := x4) (a5 := a5) (a6 := x6) (a7 := a7) (a8 := a8) (a9 := a9) (a14 := x14) (a15 := a15) ok hn hp hv hN hNL hfu m hd
  have h7 : evS (CL fuel k) (.asg (.nm 6) (.call 16 (.cons (.var 10) (.cons (.var 11) .nil)))) (E4 p n v X a0 a1 a2 (some (.dict (foundD n fs))) x4 x5 x6 a7 a8 a9 x14 a15) S3 = some (.nx, E4 p n v X a0 a1 a2 (some (.dict (foundD n fs))) x4 x5 (some (.list (movesL p n))) a7 a8 a9 x14 a15, S3) :=
    sx_asg (ev_callG (evs_cons' (ev_var rfl) (evs_cons' (ev_var rfl) evs_nil')) (c_law_moves hp (by omega))) rfl
  obtain ⟨m0, m1, m2, m3, S4, o0, o1, o2, o3, e8⟩ := lapF1 (fuel := fuel) (k := k) (S := S3) (v := v) (X := X) (a0 := a0) (a1 := a1) (a2 := a2) (a3 := some (.dict (foundD n fs))) (a4 := x4) (a5 := x5) (a7 := a7) (a8 := a8) (a9 := a9) (a14 := x14) (a15 := a15) hn1 hn hp
  have h8 : evS (CL fuel k) (.asg (.nm 7) stepE1) (E4 p n v X a0 a1 a2 (some (.dict (foundD n fs))) x4 x5 (some (.list (movesL p n))) a7 a8 a9 x14 a15) S3 = some (.nx, E4 p n v X a0 a1 a2 (some (.dict (foundD n fs))) x4 x5 (some (.list (movesL p n))) (some (.list [m0.d, m1.d, m2.d, m3.d, (Sp.out (p := p) v).d])) a8 a9 x14 a15, S4) := sx_asg e8 rfl
  obtain ⟨u, S5, hu, e9⟩ := lapF2 (fuel := fuel) (k := k) (S := S4) (v := v) (X := X) (a0 := a0) (a1 := a1) (a2 := a2) (a3 := some (.dict (foundD n fs))) (a4 := x4) (a5 := x5) (a6 := some (.list (movesL p n))) (a8 := a8) (a9 := a9) (a14 := x14) (a15 := a15) hn1 hn m0 m1 m2 m3
  have h9 : evS (CL fuel k) (.asg (.nm 7) stepE2) (E4 p n v X a0 a1 a2 (some (.dict (foundD n fs))) x4 x5 (some (.list (movesL p n))) (some (.list [m0.d, m1.d, m2.d, m3.d, (Sp.out (p := p) v).d])) a8 a9 x14 a15) S4 = some (.nx, E4 p n v X a0 a1 a2 (some (.dict (foundD n fs))) x4 x5 (some (.list (movesL p n))) (some (.tuple ([Sp.mv m0, Sp.mv m1, Sp.out v, Sp.mv m2, Sp.mv m3, Sp.out u].map Sp.d))) a8 a9 x14 a15, S5) := sx_asg e9 rfl
  have h10 := lapF3 (fuel := fuel) (k := k) (S := S5) (v := v) (a0 := a0) (a1 := a1) (a2 := a2) (a3 := some (.dict (foundD n fs))) (a4 := x4) (a5 := x5) (a6 := some (.list (movesL p n))) (a8 := a8) (a9 := a9) (a14 := x14) (a15 := a15) ok hn hp [Sp.mv m0, Sp.mv m1, Sp.out v, Sp.mv m2, Sp.mv m3, Sp.out u] (by
    intro m hm
    simp only [List.mem_cons, List.not_mem_nil, or_false] at hm
    rcases hm with rfl | rfl | rfl | rfl | rfl | rfl
    · exact o0
    · exact o1
    · exact hv
    · exact o2
    · exact o3
    · exact hu)
  let w := (v + 1) % n
  have h11 : evS (CL fuel k) (.asg (.nm 8) (.bin .mod (.b1 .int (.bin .add (.var 13) (.int 1))) (.var 11))) (E4 p n v X a0 a1 a2 (some (.dict (foundD n fs))) x4 x5 (some (.list (movesL p n))) (some (.tuple ([Sp.mv m0, Sp.mv m1, Sp.out v, Sp.mv m2, Sp.mv m3, Sp.out u].map Sp.d))) a8 a9 x14 a15) S5 = some (.nx, E4 p n v X a0 a1 a2 (some (.dict (foundD n fs))) x4 x5 (some (.list (movesL p n))) (some (.tuple ([Sp.mv m0, Sp.mv m1, Sp.out v, Sp.mv m2, Sp.mv m3, Sp.out u].map Sp.d))) (some (.int (w : Int))) a9 x14 a15, S5) := by
    have ew : (((v : Int) + 1) % (n : Int)) = ((w : Nat) : Int) := by show _ = (((v + 1) % n : Nat) : Int); push_cast; rfl
    have hb := bop_mod (x := (v : Int) + 1) (y := (n : Int)) (by omega)
    rw [ew] at hb
    exact sx_asg (ev_bin (ev_b1G (ev_bin (ev_var rfl) ev_intC rfl) rfl) (ev_var rfl) hb) rfl
  obtain ⟨x9, h12⟩ := lapG (fuel := fuel) (k := k) (S := S5) (v := v) (w := w) (a0 := a0) (a1 := a1) (a2 := a2) (a3 := some (.dict (foundD n fs))) (a4 := x4) (a5 := x5) (a7 := some (.tuple ([Sp.mv m0, Sp.mv m1, Sp.out v, Sp.mv m2, Sp.mv m3, Sp.out u].map Sp.d))) (a9 := a9) (a14 := x14) (a15 := a15) ok hn hp hv
  exact ⟨_, _, _, _, _, _, _, _, _, _, _, _, _, _, _, _, _, sx_nx h1 (sx_nx h2 (sx_nx h3 (sx_nx h4 (sx_nx h5 (sx_nx h6 (sx_nx h7 (sx_nx h8 (sx_nx h9 (sx_nx h10 (sx_nx h11 (sx_nx h12 sx_nil)))))))))))⟩
end
theorem cnt (p n : Nat) [NeZero p] [PrimeP p] {N : Nat} (e : p ^ (pairsN n).length ≤ N) : ∀ l : List (Wb (FP p)), l.Nodup → (∀ Y ∈ l, Ok n Y) → l.length ≤ N := fun l nd ok => Nat.le_trans (count_webs l nd ok) e
theorem law_true : ∀ S : Src, ∃ ρ' S', evSs ⟨evCall tab 100000 12, 100000⟩ lawB (List.replicate lawN.length none) S = some (.rt (.bool true), ρ', S') := by
  intro S
  rw [← callT_def]
  obtain ⟨ρ', S', h, b0, b1, b2, b3, b4, b5, b6, b7, b8, b9, b10, b11, b12, b13, b14, b15, rfl⟩ := forGo_inv (tg := .nm 2) (b := fun ρ S => evSs (CL 100000 4) lapBody ρ S) (fun i : Nat => PyData.int (i : Int))
    (fun _ ρ _ => ∃ b0 b1 b2 b3 b4 b5 b6 b7 b8 b9 b10 b11 b12 b13 b14 b15, ρ = E16 b0 b1 b2 b3 b4 b5 b6 b7 b8 b9 b10 b11 b12 b13 b14 b15) (List.range 2) 0 (List.replicate 16 none) S ⟨none, none, none, none, none, none, none, none, none, none, none, none, none, none, none, none, rfl⟩ (by
      rintro i x ρ S hx ⟨b0, b1, b2, b3, b4, b5, b6, b7, b8, b9, b10, b11, b12, b13, b14, b15, rfl⟩
      obtain ⟨q, S1, hq, hs⟩ := c_drawn_size (fuel := 100000) (k := 11) (S := S)
      have fin : ∀ {c0 c1 c2 c3 c4 c5 c6 c7 c8 c9 c10 c11 c12 c13 c14 c15 : Option D}, (∃ d0 d1 d2 d3 d4 d5 d6 d7 d8 d9 d10 d11 d12 d13 d14 d15 S', evSs (CL 100000 4) lapBody (E16 c0 c1 c2 c3 c4 c5 c6 c7 c8 c9 c10 c11 c12 c13 c14 c15) S = some (.nx, E16 d0 d1 d2 d3 d4 d5 d6 d7 d8 d9 d10 d11 d12 d13 d14 d15, S')) →
        ∃ ρ2 S2, evSs (CL 100000 4) lapBody (E16 c0 c1 c2 c3 c4 c5 c6 c7 c8 c9 c10 c11 c12 c13 c14 c15) S = some (.nx, ρ2, S2) ∧ ∃ b0 b1 b2 b3 b4 b5 b6 b7 b8 b9 b10 b11 b12 b13 b14 b15, ρ2 = E16 b0 b1 b2 b3 b4 b5 b6 b7 b8 b9 b10 b11 b12 b13 b14 b15 :=
        fun ⟨_, _, _, _, _, _, _, _, _, _, _, _, _, _, _, _, S', h⟩ => ⟨_, S', h, _, _, _, _, _, _, _, _, _, _, _, _, _, _, _, _, rfl⟩
      have key : ∃ ρ2 S2, evSs (CL 100000 4) lapBody (E16 b0 b1 (some (.int x)) b3 b4 b5 b6 b7 b8 b9 b10 b11 b12 b13 b14 b15) S = some (.nx, ρ2, S2) ∧ ∃ b0 b1 b2 b3 b4 b5 b6 b7 b8 b9 b10 b11 b12 b13 b14 b15, ρ2 = E16 b0 b1 b2 b3 b4 b5 b6 b7 b8 b9 b10 b11 b12 b13 b14 b15 := by
        unfold sizes at hq
        simp only [List.mem_cons, List.not_mem_nil, or_false] at hq
        have s24 := fun h => fin (lap_one (p := 2) (n := 4) (fuel := 100000) (k := 4) (S := S) (S1 := S1) (N := 1024) (by omega) (by omega) (by omega) (cnt 2 4 (by decide)) (by decide) (by omega) chk24 h b0 b1 (some (.int x)) b3 b4 b5 b6 b7 b8 b9 b10 b11 b12 b13 b14 b15)
        have s23 := fun h => fin (lap_one (p := 2) (n := 3) (fuel := 100000) (k := 4) (S := S) (S1 := S1) (N := 1024) (by omega) (by omega) (by omega) (cnt 2 3 (by decide)) (by decide) (by omega) chk23 h b0 b1 (some (.int x)) b3 b4 b5 b6 b7 b8 b9 b10 b11 b12 b13 b14 b15)
        have s33 := fun h => fin (lap_one (p := 3) (n := 3) (fuel := 100000) (k := 4) (S := S) (S1 := S1) (N := 1024) (by omega) (by omega) (by omega) (cnt 3 3 (by decide)) (by decide) (by omega) chk33 h b0 b1 (some (.int x)) b3 b4 b5 b6 b7 b8 b9 b10 b11 b12 b13 b14 b15)
        have s53 := fun h => fin (lap_one (p := 5) (n := 3) (fuel := 100000) (k := 4) (S := S) (S1 := S1) (N := 1024) (by omega) (by omega) (by omega) (cnt 5 3 (by decide)) (by decide) (by omega) chk53 h b0 b1 (some (.int x)) b3 b4 b5 b6 b7 b8 b9 b10 b11 b12 b13 b14 b15)
        have s25 := fun h => fin (lap_one (p := 2) (n := 5) (fuel := 100000) (k := 4) (S := S) (S1 := S1) (N := 1024) (by omega) (by omega) (by omega) (cnt 2 5 (by decide)) (by decide) (by omega) chk25 h b0 b1 (some (.int x)) b3 b4 b5 b6 b7 b8 b9 b10 b11 b12 b13 b14 b15)
        have s32 := fun h => fin (lap_one (p := 3) (n := 2) (fuel := 100000) (k := 4) (S := S) (S1 := S1) (N := 1024) (by omega) (by omega) (by omega) (cnt 3 2 (by decide)) (by decide) (by omega) chk32 h b0 b1 (some (.int x)) b3 b4 b5 b6 b7 b8 b9 b10 b11 b12 b13 b14 b15)
        rcases hq with rfl | rfl | rfl | rfl | rfl | rfl | rfl | rfl
        · exact s24 hs
        · exact s23 hs
        · exact s33 hs
        · exact s24 hs
        · exact s33 hs
        · exact s53 hs
        · exact s25 hs
        · exact s32 hs
      obtain ⟨ρ2, S2, h1, h2⟩ := key
      exact ⟨_, ρ2, S2, rfl, h1, h2⟩)
  exact ⟨_, S', sx_nx (sx_loop (it_rng1 (n := 2) ev_intC (by omega)) h) (sx_rt (sx_ret ev_blC))⟩
end TW
set_option maxRecDepth 100000
namespace TW
open PySem PySem.Spec PyProof.Rows L2
def lawK : Nat := 12
def fuelL : Nat := 100000
def DefAt (K : PySem.W.Frag) (x : Str) (st : Stmt) : Prop := ∃ (f : Addr) (oc : Value) (od an : Option Addr) (osl : Array (Option Value)) (kV doc pm cdv ct : Value), PySem.W.nsIn K mainGlobals x = some (some (.ref f)) ∧
  K.lookup f = some ⟨oc, od, .func (PySem.W.fnOf x x (defArgs st) (defBody st) (defScope st) .none kV doc pm an cdv ct), osl⟩ ∧ PySem.W.codeIn K cdv x = true ∧ PySem.W.keepIn K (.ref f) = true
theorem DefAt.mk' {K : PySem.W.Frag} {x : Str} {st : Stmt} {f : Addr} {oc : Value} {od an : Option Addr} {osl : Array (Option Value)} {kV doc pm cdv ct : Value} (a : PySem.W.nsIn K mainGlobals x = some (some (.ref f)))
    (l : K.lookup f = some ⟨oc, od, .func (PySem.W.fnOf x x (defArgs st) (defBody st) (defScope st) .none kV doc pm an cdv ct), osl⟩) (c : PySem.W.codeIn K cdv x = true) (k : PySem.W.keepIn K (.ref f) = true) : DefAt K x st := ⟨f, oc, od, an, osl, kV, doc, pm, cdv, ct, a, l, c, k⟩
theorem def_facts {K : PySem.W.Frag} {h : Heap} {mg : Str → Option Value} {x : Str} {st : Stmt} {ps : List Str} (X : K.In h) (G : h.Ns mainGlobals mg) (d : DefAt K x st)
    (b : ∀ f fd, Fun K x x st f fd → Binds K fd ps []) : ∃ fa fd, mg x = some (.ref fa) ∧ Fun K x x st fa fd ∧ Binds K fd ps [] := by
  obtain ⟨f, oc, od, an, osl, kV, doc, pm, cdv, ct, h1, h2, h3, h4⟩ := d
  exact ⟨f, _, PySem.W.mg_of X G h1, fun_mk h2 h3 h4, b _ _ (fun_mk h2 h3 h4)⟩
theorem b_inverse {K : PySem.W.Frag} (f : Addr) (fd : FuncData) (F : Fun K "inverse" "inverse" (topS 1) f fd) : Binds K fd ["p", "a"] [] := F.binds (ps := ["p", "a"]) fun _ _ _ _ _ _ us hl => match us, hl with | [_, _], _ => rfl
theorem b_table_of {K : PySem.W.Frag} (f : Addr) (fd : FuncData) (F : Fun K "table_of" "table_of" (topS 3) f fd) : Binds K fd ["web"] [] := F.binds (ps := ["web"]) fun _ _ _ _ _ _ us hl => match us, hl with | [_], _ => rfl
theorem b_web_of {K : PySem.W.Frag} (f : Addr) (fd : FuncData) (F : Fun K "web_of" "web_of" (topS 4) f fd) : Binds K fd ["p", "table"] [] := F.binds (ps := ["p", "table"]) fun _ _ _ _ _ _ us hl => match us, hl with | [_, _], _ => rfl
theorem b_tied_to {K : PySem.W.Frag} (f : Addr) (fd : FuncData) (F : Fun K "tied_to" "tied_to" (topS 5) f fd) : Binds K fd ["web", "v"] [] := F.binds (ps := ["web", "v"]) fun _ _ _ _ _ _ us hl => match us, hl with | [_, _], _ => rfl
theorem b_turned {K : PySem.W.Frag} (f : Addr) (fd : FuncData) (F : Fun K "turned" "turned" (topS 7) f fd) : Binds K fd ["web", "v", "c"] [] := F.binds (ps := ["web", "v", "c"]) fun _ _ _ _ _ _ us hl => match us, hl with | [_, _, _], _ => rfl
theorem b_scaled {K : PySem.W.Frag} (f : Addr) (fd : FuncData) (F : Fun K "scaled" "scaled" (topS 8) f fd) : Binds K fd ["web", "v", "s"] [] := F.binds (ps := ["web", "v", "s"]) fun _ _ _ _ _ _ us hl => match us, hl with | [_, _, _], _ => rfl
theorem b_moved {K : PySem.W.Frag} (f : Addr) (fd : FuncData) (F : Fun K "moved" "moved" (topS 9) f fd) : Binds K fd ["web", "move"] [] := F.binds (ps := ["web", "move"]) fun _ _ _ _ _ _ us hl => match us, hl with | [_, _], _ => rfl
theorem b_made_moves {K : PySem.W.Frag} (f : Addr) (fd : FuncData) (F : Fun K "made_moves" "made_moves" (topS 10) f fd) : Binds K fd ["web", "moves"] [] := F.binds (ps := ["web", "moves"]) fun _ _ _ _ _ _ us hl => match us, hl with | [_, _], _ => rfl
theorem b_left_out {K : PySem.W.Frag} (f : Addr) (fd : FuncData) (F : Fun K "left_out" "left_out" (topS 12) f fd) : Binds K fd ["web", "v"] [] := F.binds (ps := ["web", "v"]) fun _ _ _ _ _ _ us hl => match us, hl with | [_, _], _ => rfl
theorem b_line_moves {K : PySem.W.Frag} (f : Addr) (fd : FuncData) (F : Fun K "line_moves" "line_moves" (topS 13) f fd) : Binds K fd ["web", "v", "k"] [] := F.binds (ps := ["web", "v", "k"]) fun _ _ _ _ _ _ us hl => match us, hl with | [_, _, _], _ => rfl
theorem b_without_line {K : PySem.W.Frag} (f : Addr) (fd : FuncData) (F : Fun K "without_line" "without_line" (topS 14) f fd) : Binds K fd ["web", "v", "k"] [] := F.binds (ps := ["web", "v", "k"]) fun _ _ _ _ _ _ us hl => match us, hl with | [_, _, _], _ => rfl
theorem b_made_steps {K : PySem.W.Frag} (f : Addr) (fd : FuncData) (F : Fun K "made_steps" "made_steps" (topS 15) f fd) : Binds K fd ["web", "steps"] [] := F.binds (ps := ["web", "steps"]) fun _ _ _ _ _ _ us hl => match us, hl with | [_, _], _ => rfl
theorem b_law_back {K : PySem.W.Frag} (f : Addr) (fd : FuncData) (F : Fun K "_law_back" "_law_back" (topS 19) f fd) : Binds K fd ["p", "a"] [] := F.binds (ps := ["p", "a"]) fun _ _ _ _ _ _ us hl => match us, hl with | [_, _], _ => rfl
theorem b_law_table {K : PySem.W.Frag} (f : Addr) (fd : FuncData) (F : Fun K "_law_table" "_law_table" (topS 20) f fd) : Binds K fd ["web"] [] := F.binds (ps := ["web"]) fun _ _ _ _ _ _ us hl => match us, hl with | [_], _ => rfl
theorem b_law_web {K : PySem.W.Frag} (f : Addr) (fd : FuncData) (F : Fun K "_law_web" "_law_web" (topS 21) f fd) : Binds K fd ["p", "table"] [] := F.binds (ps := ["p", "table"]) fun _ _ _ _ _ _ us hl => match us, hl with | [_, _], _ => rfl
theorem b_law_moved {K : PySem.W.Frag} (f : Addr) (fd : FuncData) (F : Fun K "_law_moved" "_law_moved" (topS 22) f fd) : Binds K fd ["web", "move"] [] := F.binds (ps := ["web", "move"]) fun _ _ _ _ _ _ us hl => match us, hl with | [_, _], _ => rfl
theorem b_law_moves {K : PySem.W.Frag} (f : Addr) (fd : FuncData) (F : Fun K "_law_moves" "_law_moves" (topS 23) f fd) : Binds K fd ["p", "n"] [] := F.binds (ps := ["p", "n"]) fun _ _ _ _ _ _ us hl => match us, hl with | [_, _], _ => rfl
theorem b_law_class {K : PySem.W.Frag} (f : Addr) (fd : FuncData) (F : Fun K "_law_class" "_law_class" (topS 24) f fd) : Binds K fd ["web"] [] := F.binds (ps := ["web"]) fun _ _ _ _ _ _ us hl => match us, hl with | [_], _ => rfl
theorem b_law_out {K : PySem.W.Frag} (f : Addr) (fd : FuncData) (F : Fun K "_law_out" "_law_out" (topS 25) f fd) : Binds K fd ["web", "v"] [] := F.binds (ps := ["web", "v"]) fun _ _ _ _ _ _ us hl => match us, hl with | [_, _], _ => rfl
theorem b_law_stepped {K : PySem.W.Frag} (f : Addr) (fd : FuncData) (F : Fun K "_law_stepped" "_law_stepped" (topS 26) f fd) : Binds K fd ["web", "steps"] [] := F.binds (ps := ["web", "steps"]) fun _ _ _ _ _ _ us hl => match us, hl with | [_, _], _ => rfl
theorem b_law_drawn_size {K : PySem.W.Frag} (f : Addr) (fd : FuncData) (F : Fun K "_law_drawn_size" "_law_drawn_size" (topS 27) f fd) : Binds K fd ["source"] [] := F.binds (ps := ["source"]) fun _ _ _ _ _ _ us hl => match us, hl with | [_], _ => rfl
theorem b_law_drawn_web {K : PySem.W.Frag} (f : Addr) (fd : FuncData) (F : Fun K "_law_drawn_web" "_law_drawn_web" (topS 28) f fd) : Binds K fd ["source", "p", "n"] [] := F.binds (ps := ["source", "p", "n"]) fun _ _ _ _ _ _ us hl => match us, hl with | [_, _, _], _ => rfl
theorem b_law_line_moves {K : PySem.W.Frag} (f : Addr) (fd : FuncData) (F : Fun K "_law_line_moves" "_law_line_moves" (topS 29) f fd) : Binds K fd ["web", "v", "k"] [] := F.binds (ps := ["web", "v", "k"]) fun _ _ _ _ _ _ us hl => match us, hl with | [_, _, _], _ => rfl
theorem b_law_open_cells {K : PySem.W.Frag} (f : Addr) (fd : FuncData) (F : Fun K "_law_open_cells" "_law_open_cells" (sOpen) f fd) : Binds K fd ["script"] [] := F.binds (ps := ["script"]) fun _ _ _ _ _ _ us hl => match us, hl with | [_], _ => rfl
theorem b_law_pick {K : PySem.W.Frag} (f : Addr) (fd : FuncData) (F : Fun K "_law_pick" "_law_pick" (sPick) f fd) : Binds K fd ["source", "most"] [] := F.binds (ps := ["source", "most"]) fun _ _ _ _ _ _ us hl => match us, hl with | [_, _], _ => rfl
structure Top (K : PySem.W.Frag) : Prop where
  d_inverse : DefAt K "inverse" (topS 1)
  d_table_of : DefAt K "table_of" (topS 3)
  d_web_of : DefAt K "web_of" (topS 4)
  d_tied_to : DefAt K "tied_to" (topS 5)
  d_turned : DefAt K "turned" (topS 7)
  d_scaled : DefAt K "scaled" (topS 8)
  d_moved : DefAt K "moved" (topS 9)
  d_made_moves : DefAt K "made_moves" (topS 10)
  d_left_out : DefAt K "left_out" (topS 12)
  d_line_moves : DefAt K "line_moves" (topS 13)
  d_without_line : DefAt K "without_line" (topS 14)
  d_made_steps : DefAt K "made_steps" (topS 15)
  d_law_back : DefAt K "_law_back" (topS 19)
  d_law_table : DefAt K "_law_table" (topS 20)
  d_law_web : DefAt K "_law_web" (topS 21)
  d_law_moved : DefAt K "_law_moved" (topS 22)
  d_law_moves : DefAt K "_law_moves" (topS 23)
  d_law_class : DefAt K "_law_class" (topS 24)
  d_law_out : DefAt K "_law_out" (topS 25)
  d_law_stepped : DefAt K "_law_stepped" (topS 26)
  d_law_drawn_size : DefAt K "_law_drawn_size" (topS 27)
  d_law_drawn_web : DefAt K "_law_drawn_web" (topS 28)
  d_law_line_moves : DefAt K "_law_line_moves" (topS 29)
  d_law_open_cells : DefAt K "_law_open_cells" (sOpen)
  d_law_pick : DefAt K "_law_pick" (sPick)
  d_law : DefAt K "law" (sLaw)
  n_len : PySem.W.nsIn K mainGlobals "len" = some none
  n_tuple : PySem.W.nsIn K mainGlobals "tuple" = some none
  n_list : PySem.W.nsIn K mainGlobals "list" = some none
  n_sorted : PySem.W.nsIn K mainGlobals "sorted" = some none
  n_abs : PySem.W.nsIn K mainGlobals "abs" = some none
  n_int : PySem.W.nsIn K mainGlobals "int" = some none
  n_repr : PySem.W.nsIn K mainGlobals "repr" = some none
  n_range : PySem.W.nsIn K mainGlobals "range" = some none
  n_enumerate : PySem.W.nsIn K mainGlobals "enumerate" = some none
  n_zip : PySem.W.nsIn K mainGlobals "zip" = some none
theorem Top.facts {K : PySem.W.Frag} {h : Heap} {mg : Str → Option Value} (T : Top K) (X : K.In h) (G : h.Ns mainGlobals mg) : ∀ (i : Nat) (f : Fn) (st : Stmt), tab[i]? = some f → sts[i]? = some st → ∃ fa fd, mg f.name = some (.ref fa) ∧ Fun K f.name f.name st fa fd ∧ Binds K fd f.ps []
  | 0, _, _, h1, h2 => by cases h1; cases h2; exact def_facts X G T.d_inverse b_inverse
  | 1, _, _, h1, h2 => by cases h1; cases h2; exact def_facts X G T.d_table_of b_table_of
  | 2, _, _, h1, h2 => by cases h1; cases h2; exact def_facts X G T.d_web_of b_web_of
  | 3, _, _, h1, h2 => by cases h1; cases h2; exact def_facts X G T.d_tied_to b_tied_to
  | 4, _, _, h1, h2 => by cases h1; cases h2; exact def_facts X G T.d_turned b_turned
  | 5, _, _, h1, h2 => by cases h1; cases h2; exact def_facts X G T.d_scaled b_scaled
  | 6, _, _, h1, h2 => by cases h1; cases h2; exact def_facts X G T.d_moved b_moved
  | 7, _, _, h1, h2 => by cases h1; cases h2; exact def_facts X G T.d_made_moves b_made_moves
  | 8, _, _, h1, h2 => by cases h1; cases h2; exact def_facts X G T.d_left_out b_left_out
  | 9, _, _, h1, h2 => by cases h1; cases h2; exact def_facts X G T.d_line_moves b_line_moves
  | 10, _, _, h1, h2 => by cases h1; cases h2; exact def_facts X G T.d_without_line b_without_line
  | 11, _, _, h1, h2 => by cases h1; cases h2; exact def_facts X G T.d_made_steps b_made_steps
  | 12, _, _, h1, h2 => by cases h1; cases h2; exact def_facts X G T.d_law_back b_law_back
  | 13, _, _, h1, h2 => by cases h1; cases h2; exact def_facts X G T.d_law_table b_law_table
  | 14, _, _, h1, h2 => by cases h1; cases h2; exact def_facts X G T.d_law_web b_law_web
  | 15, _, _, h1, h2 => by cases h1; cases h2; exact def_facts X G T.d_law_moved b_law_moved
  | 16, _, _, h1, h2 => by cases h1; cases h2; exact def_facts X G T.d_law_moves b_law_moves
  | 17, _, _, h1, h2 => by cases h1; cases h2; exact def_facts X G T.d_law_class b_law_class
  | 18, _, _, h1, h2 => by cases h1; cases h2; exact def_facts X G T.d_law_out b_law_out
  | 19, _, _, h1, h2 => by cases h1; cases h2; exact def_facts X G T.d_law_stepped b_law_stepped
  | 20, _, _, h1, h2 => by cases h1; cases h2; exact def_facts X G T.d_law_drawn_size b_law_drawn_size
  | 21, _, _, h1, h2 => by cases h1; cases h2; exact def_facts X G T.d_law_drawn_web b_law_drawn_web
  | 22, _, _, h1, h2 => by cases h1; cases h2; exact def_facts X G T.d_law_line_moves b_law_line_moves
  | i + 23, _, _, h1, _ => by
    have := (List.getElem?_eq_some_iff.mp h1).1
    simp [tab] at this
    omega
theorem Top.bl {K : PySem.W.Frag} {h : Heap} {mg : Str → Option Value} (T : Top K) (X : K.In h) (G : h.Ns mainGlobals mg) : ∀ b ∈ builtinNames, mg b = none := by
  simp only [builtinNames, List.forall_mem_cons, List.forall_mem_nil, and_true]
  exact ⟨PySem.W.mg_none_of X G T.n_len, PySem.W.mg_none_of X G T.n_tuple, PySem.W.mg_none_of X G T.n_list, PySem.W.mg_none_of X G T.n_sorted, PySem.W.mg_none_of X G T.n_abs, PySem.W.mg_none_of X G T.n_int, PySem.W.mg_none_of X G T.n_repr, PySem.W.mg_none_of X G T.n_range, PySem.W.mg_none_of X G T.n_enumerate, PySem.W.mg_none_of X G T.n_zip, fun _ h => by simp at h⟩
theorem all_mk {fuel kk : Nat} (truth : ∀ S : Src, ∃ ρ' S', evSs ⟨evCall tab fuel kk, fuel⟩ lawB (List.replicate lawN.length none) S = some (.rt (.bool true), ρ', S')) {P : Program} {w : World} {K : PySem.W.Frag} {h : Heap} {mg : Str → Option Value} {fa : Addr} (X : K.In h) (G : h.Ns mainGlobals mg) (hfa : mg "law" = some (.ref fa)) (T : Top K) :
    ∃ fd : FuncData, (∀ (s : Shared) (v : Value), BindsTo s fd ⟨[v], []⟩ [("script", v)]) ∧ ∀ base : Heap, K.In base → base.Ns mainGlobals mg → FnG P w K mg base (kk + 3) fa fd ["script"] (spLawG K) := by
  obtain ⟨f, oc, od, an, osl, kV, doc, pm, cdv, ct, h1, h2, h3, h4⟩ := T.d_law
  cases hfa.symm.trans (PySem.W.mg_of X G h1)
  obtain ⟨fO, fdO, o1, o2, o3⟩ := def_facts X G T.d_law_open_cells b_law_open_cells
  obtain ⟨fP, fdP, p1, p2, p3⟩ := def_facts X G T.d_law_pick b_law_pick
  exact ⟨_, fun s v => .of_eq rfl, fun base _ _ => fn_law truth (fun_mk h2 h3 h4) o2 o3 o1 p2 p3 p1 (T.facts X G) (T.bl X G)⟩
end TW
open PySem PySem.W PyProof.Rows
set_option maxHeartbeats 0 in
theorem PySem.Challenge.cw_turnedweights_k49_whole_webs_without_a_p_holds : PySem.Challenge.rw_turnedweights_k49_whole_webs_without_a_p.Holds := by
  w_on; o_law; k_head; (case hw => w_witness2)
  k_fill
  refine TW.walk_ofG (l := PySem.Challenge.rw_turnedweights_k49_whole_webs_without_a_p) (n := 63) (k := TW.lawK + 3) (x := "script") (sp := fun K => TW.spLawG K) rfl (by decide) rfl ⟨rfl, by decide, by decide⟩ (fun w h Y => PySem.W.kIn_of Y) ?F (fun _ _ a ns hl hS => ⟨a, ns, rfl, hS, hl, fun _ => rfl⟩)
  case F =>
    intro w mg fa h KX G hmg
    refine' TW.all_mk TW.law_true KX G hmg ⟨
      TW.DefAt.mk' ?a0 ?l0 ?c0 ?k0, TW.DefAt.mk' ?a1 ?l1 ?c1 ?k1, TW.DefAt.mk' ?a2 ?l2 ?c2 ?k2, TW.DefAt.mk' ?a3 ?l3 ?c3 ?k3, TW.DefAt.mk' ?a4 ?l4 ?c4 ?k4, TW.DefAt.mk' ?a5 ?l5 ?c5 ?k5, TW.DefAt.mk' ?a6 ?l6 ?c6 ?k6, TW.DefAt.mk' ?a7 ?l7 ?c7 ?k7, TW.DefAt.mk' ?a8 ?l8 ?c8 ?k8, TW.DefAt.mk' ?a9 ?l9 ?c9 ?k9, TW.DefAt.mk' ?a10 ?l10 ?c10 ?k10, TW.DefAt.mk' ?a11 ?l11 ?c11 ?k11, TW.DefAt.mk' ?a12 ?l12 ?c12 ?k12, TW.DefAt.mk' ?a13 ?l13 ?c13 ?k13, TW.DefAt.mk' ?a14 ?l14 ?c14 ?k14, TW.DefAt.mk' ?a15 ?l15 ?c15 ?k15, TW.DefAt.mk' ?a16 ?l16 ?c16 ?k16, TW.DefAt.mk' ?a17 ?l17 ?c17 ?k17, TW.DefAt.mk' ?a18 ?l18 ?c18 ?k18, TW.DefAt.mk' ?a19 ?l19 ?c19 ?k19, TW.DefAt.mk' ?a20 ?l20 ?c20 ?k20, TW.DefAt.mk' ?a21 ?l21 ?c21 ?k21, TW.DefAt.mk' ?a22 ?l22 ?c22 ?k22, TW.DefAt.mk' ?a23 ?l23 ?c23 ?k23, TW.DefAt.mk' ?a24 ?l24 ?c24 ?k24, TW.DefAt.mk' ?a25 ?l25 ?c25 ?k25, ?z0, ?z1, ?z2, ?z3, ?z4, ?z5, ?z6, ?z7, ?z8, ?z9⟩
    (case a0 => k_is); (case l0 => k_is); (case c0 => k_is); (case k0 => k_is); (case a1 => k_is); (case l1 => k_is); (case c1 => k_is); (case k1 => k_is); (case a2 => k_is); (case l2 => k_is); (case c2 => k_is); (case k2 => k_is); (case a3 => k_is); (case l3 => k_is); (case c3 => k_is); (case k3 => k_is); (case a4 => k_is); (case l4 => k_is); (case c4 => k_is); (case k4 => k_is); (case a5 => k_is); (case l5 => k_is); (case c5 => k_is); (case k5 => k_is); (case a6 => k_is); (case l6 => k_is); (case c6 => k_is); (case k6 => k_is); (case a7 => k_is); (case l7 => k_is); (case c7 => k_is); (case k7 => k_is); (case a8 => k_is); (case l8 => k_is); (case c8 => k_is); (case k8 => k_is); (case a9 => k_is); (case l9 => k_is); (case c9 => k_is); (case k9 => k_is); (case a10 => k_is); (case l10 => k_is); (case c10 => k_is); (case k10 => k_is); (case a11 => k_is); (case l11 => k_is); (case c11 => k_is); (case k11 => k_is); (case a12 => k_is); (case l12 => k_is); (case c12 => k_is); (case k12 => k_is); (case a13 => k_is); (case l13 => k_is); (case c13 => k_is); (case k13 => k_is); (case a14 => k_is); (case l14 => k_is); (case c14 => k_is); (case k14 => k_is); (case a15 => k_is); (case l15 => k_is); (case c15 => k_is); (case k15 => k_is); (case a16 => k_is); (case l16 => k_is); (case c16 => k_is); (case k16 => k_is); (case a17 => k_is); (case l17 => k_is); (case c17 => k_is); (case k17 => k_is); (case a18 => k_is); (case l18 => k_is); (case c18 => k_is); (case k18 => k_is); (case a19 => k_is); (case l19 => k_is); (case c19 => k_is); (case k19 => k_is); (case a20 => k_is); (case l20 => k_is); (case c20 => k_is); (case k20 => k_is); (case a21 => k_is); (case l21 => k_is); (case c21 => k_is); (case k21 => k_is); (case a22 => k_is); (case l22 => k_is); (case c22 => k_is); (case k22 => k_is); (case a23 => k_is); (case l23 => k_is); (case c23 => k_is); (case k23 => k_is); (case a24 => k_is); (case l24 => k_is); (case c24 => k_is); (case k24 => k_is); (case a25 => k_is); (case l25 => k_is); (case c25 => k_is); (case k25 => k_is); (case z0 => k_is); (case z1 => k_is); (case z2 => k_is); (case z3 => k_is); (case z4 => k_is); (case z5 => k_is); (case z6 => k_is); (case z7 => k_is); (case z8 => k_is); (case z9 => k_is)
