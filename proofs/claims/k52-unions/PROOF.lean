import PyProof.Rows.All
import HandS.ForMost
import HandS.ForExc
import HandS.TryMany
import HandS.Deep
import HandS.DictComp
import HandS.TupAny
import HandS.TupMul
import HandS.TupLe
import HandS.Conv
import HandS.Zip
import HandS.SortInts
import HandS.More
import HandS.SetFor
import HandS.Strs
import HandS.HeadHook2
import HandS.IsInst
import KE.KSortedM
import HandS.Iter
import KE.GoesMore
import PySem.Challenge.RW_everfresh_k52_whole_unions
import HandS.Head2
import HandS.HeadEnd
set_option linter.all false
/-! A small evaluator: Python's forms that the laws use, over plain values; lists that are being filled are held by one name alone. -/
namespace Ev
noncomputable section
theorem hid {α : Type} (f : α) : ∃ g : α, g = f := ⟨f, rfl⟩

/-- a value: nothing changes it any more -/
inductive D where
  | non | bl (b : Bool) | int (i : Int) | str (s : String)
  | tup (xs : List D) | lst (xs : List D)

/-- what one name alone holds, or what is shared -/
inductive O where
  | sh (d : D)
  /-- a dict that is shared -/
  | fd (kvs : List (D × D))
  /-- the script: it is walked and copied, no more -/
  | scr (ns : List Int)
  | lst (xs : List O)
  | dic (kvs : List (D × O))
  | ins (c : Nat) (fs : List (String × O))

instance : Inhabited D := ⟨.non⟩
instance : Inhabited O := ⟨.sh .non⟩

mutual
def D.eqv : D → D → Bool
  | .non, .non => true
  | .bl a, .bl b => a == b
  | .bl a, .int j => (if a then 1 else 0) == j
  | .int i, .bl b => i == (if b then 1 else 0)
  | .int i, .int j => i == j
  | .str x, .str y => x == y
  | .lst xs, .lst ys => D.eqvs xs ys
  | .tup xs, .tup ys => D.eqvs xs ys
  | _, _ => false
def D.eqvs : List D → List D → Bool
  | [], [] => true
  | x :: xs, y :: ys => D.eqv x y && D.eqvs xs ys
  | _, _ => false
end
mutual
/-- how deep lists and tuples stand in one another -/
def D.depth : D → Nat
  | .lst xs => D.depths xs + 1
  | .tup xs => D.depths xs + 1
  | _ => 0
def D.depths : List D → Nat
  | [] => 0
  | x :: xs => max x.depth (D.depths xs)
end

/-! what is held, as a value -/
mutual
def O.frz : O → Option D
  | .sh d => some d
  | .lst xs => (O.frzs xs).map D.lst
  | _ => none
def O.frzs : List O → Option (List D)
  | [] => some []
  | x :: xs => match O.frz x with
    | some d => (O.frzs xs).map (d :: ·)
    | none => none
end
def O.frzk : List (D × O) → Option (List (D × D))
  | [] => some []
  | (k, x) :: xs => match O.frz x with
    | some d => (O.frzk xs).map ((k, d) :: ·)
    | none => none
/-- given to all -/
def O.share : O → Option O
  | .sh d => some (.sh d)
  | .fd kvs => some (.fd kvs)
  | .scr ns => some (.scr ns)
  | .lst xs => (O.frzs xs).map fun ds => .sh (.lst ds)
  | .dic kvs => (O.frzk kvs).map O.fd
  | .ins _ _ => none

/-- what is all shared -/
def shs : List O → Option (List D)
  | [] => some []
  | .sh d :: r => (shs r).map (d :: ·)
  | _ => none
def shk : List (D × O) → Option (List (D × D))
  | [] => some []
  | (k, .sh d) :: r => (shk r).map ((k, d) :: ·)
  | _ => none
/-- looked at: nothing in it is held by one name alone, but itself -/
def rd : O → Option D
  | .sh d => some d
  | .lst xs => (shs xs).map D.lst
  | _ => none

/-- an env: by slots -/
abbrev Env := List (Option O)
def get : Env → Nat → Option O
  | [], _ => none
  | x :: _, 0 => x
  | _ :: r, n + 1 => get r n
def put : Env → Nat → Option O → Env
  | [], _, _ => []
  | _ :: r, 0, y => y :: r
  | x :: r, n + 1, y => x :: put r n y

inductive Out (α : Type) where
  | ok (a : α) (env : Env)
  | exc (c : Nat) (env : Env)
  | bad

abbrev M (α : Type) := Env → Out α
def ret {α : Type} (a : α) : M α := fun env => .ok a env
def bad {α : Type} : M α := fun _ => .bad
def Out.bnd {α β : Type} (x : Out α) (f : α → Env → Out β) : Out β := match x with
  | .ok a env => f a env
  | .exc c env => .exc c env
  | .bad => .bad
def ofO {α : Type} : Option α → M α
  | some a => ret a
  | none => bad
def need (b : Bool) {α : Type} (x : Out α) : Out α := if b then x else .bad
/-- nothing is raised -/
def Out.nox {α : Type} (x : Out α) : Out α := match x with
  | .exc _ _ => .bad
  | y => y

/-- the most that a list may hold -/
def cap : Nat := 16777216

/-! ### operations -/
inductive U1 where
  | len | tuple | list | int | bool | abs | all | any | sum | min | max | sorted | neg
  | isInt | isBool | isStr | isTuple | isList | isNone | notNone | isTrue | isFalse
inductive B2 where
  | add | sub | mul | fdiv | mod | pow | eq | ne | lt | le | gt | ge | inn | nin | min2 | max2 | count | index | get1
deriving DecidableEq

def asInts : List D → Option (List Int)
  | [] => some []
  | .int i :: r => (asInts r).map (i :: ·)
  | _ => none
def asBools : List D → Option (List Bool)
  | [] => some []
  | .bl b :: r => (asBools r).map (b :: ·)
  | _ => none
def minI : Int → List Int → Int
  | m, [] => m
  | m, x :: r => minI (if x < m then x else m) r
def maxI : Int → List Int → Int
  | m, [] => m
  | m, x :: r => maxI (if m < x then x else m) r
def insI (x : Int) : List Int → List Int
  | [] => [x]
  | y :: r => if x ≤ y then x :: y :: r else y :: insI x r
def sortI : List Int → List Int
  | [] => []
  | x :: r => insI x (sortI r)
def sumI : List Int → Int
  | [] => 0
  | x :: r => x + sumI r

/-- the length of what can be counted -/
def lenO : O → Option Nat
  | .sh (.lst xs) => some xs.length
  | .sh (.tup xs) => some xs.length
  | .lst xs => some xs.length
  | .dic kvs => some kvs.length
  | .fd kvs => some kvs.length
  | _ => none

def own (xs : List D) : O := .lst (xs.map O.sh)

def un1 (op : U1) (x : O) : Option O := match op with
  | .len => (lenO x).map fun (n : Nat) => O.sh (.int (n : Int))
  | .isNone => match x with
    | .sh .non => some (.sh (.bl true))
    | .sh _ => some (.sh (.bl false))
    | .lst _ => some (.sh (.bl false))
    | _ => none
  | .notNone => match x with
    | .sh .non => some (.sh (.bl false))
    | .sh _ => some (.sh (.bl true))
    | .lst _ => some (.sh (.bl true))
    | _ => none
  | .isInt => match x with
    | .sh (.int _) => some (.sh (.bl true))
    | .sh (.bl _) => some (.sh (.bl true))
    | .sh _ => some (.sh (.bl false))
    | _ => none
  | .isBool => match x with
    | .sh (.bl _) => some (.sh (.bl true))
    | .sh _ => some (.sh (.bl false))
    | _ => none
  | .isStr => match x with
    | .sh (.str _) => some (.sh (.bl true))
    | .sh _ => some (.sh (.bl false))
    | _ => none
  | .isTuple => match x with
    | .sh (.tup _) => some (.sh (.bl true))
    | .sh _ => some (.sh (.bl false))
    | _ => none
  | .isList => match x with
    | .sh (.lst _) => some (.sh (.bl true))
    | .sh _ => some (.sh (.bl false))
    | .lst _ => some (.sh (.bl true))
    | _ => none
  | .neg => match x with
    | .sh (.int i) => some (.sh (.int (-i)))
    | _ => none
  | .int => match x with
    | .sh (.int i) => some (.sh (.int i))
    | .sh (.bl b) => some (.sh (.int (if b then 1 else 0)))
    | _ => none
  | .bool => match x with
    | .sh (.int i) => some (.sh (.bl (i != 0)))
    | .sh (.bl b) => some (.sh (.bl b))
    | _ => none
  | .abs => match x with
    | .sh (.int i) => some (.sh (.int (if i < 0 then -i else i)))
    | _ => none
  | .isTrue => match x with
    | .sh (.bl b) => some (.sh (.bl b))
    | _ => none
  | .isFalse => match x with
    | .sh (.bl b) => some (.sh (.bl (!b)))
    | _ => none
  | .tuple => match (rd x) with
    | some (.lst xs) => some (.sh (.tup xs))
    | some (.tup xs) => some (.sh (.tup xs))
    | _ => none
  | .list => match x with
    | .scr ns => some (own (ns.map D.int))
    | x => match rd x with
      | some (.lst xs) => some (own xs)
      | some (.tup xs) => some (own xs)
      | _ => none
  | .all => match (rd x) with
    | some (.lst xs) => (asBools xs).map fun bs => .sh (.bl (bs.all id))
    | _ => none
  | .any => match (rd x) with
    | some (.lst xs) => (asBools xs).map fun bs => .sh (.bl (bs.any id))
    | _ => none
  | .sum => match (rd x) with
    | some (.lst xs) => (asInts xs).map fun ns => .sh (.int (sumI ns))
    | _ => none
  | .min => match (rd x) with
    | some (.lst xs) => match asInts xs with
      | some (n :: ns) => some (.sh (.int (minI n ns)))
      | _ => none
    | _ => none
  | .max => match (rd x) with
    | some (.lst xs) => match asInts xs with
      | some (n :: ns) => some (.sh (.int (maxI n ns)))
      | _ => none
    | _ => none
  | .sorted => match (rd x) with
    | some (.lst xs) => (asInts xs).map fun ns => own ((sortI ns).map D.int)
    | _ => none

/-- the place of an index -/
def ixN (n : Nat) (i : Int) : Option Nat := if 0 ≤ i then (if i < n then some i.toNat else none) else if -(n : Int) ≤ i then some (i + n).toNat else none
/-- a slice's end -/
def sIx (n d : Nat) : Option Int → Nat
  | none => d
  | some v => if v < 0 then (v + (n : Int)).toNat else min v.toNat n
def cut {α : Type} (xs : List α) (lo hi : Option Int) : List α := (xs.drop (sIx xs.length 0 lo)).take (sIx xs.length xs.length hi - sIx xs.length 0 lo)

def mulOk0 (i j : Int) : Bool := (decide (-(2 ^ 64) < i) && decide (i < 2 ^ 64)) || (decide (-(2 ^ 64) < j) && decide (j < 2 ^ 64))
def mulOk : Int → Int → Bool := Classical.choose (hid mulOk0)
theorem mulOk_eq : mulOk = mulOk0 := Classical.choose_spec (hid mulOk0)
def deep (d e : D) : Bool := decide (min d.depth e.depth ≤ 64)
def findK {α : Type} (k : D) : List (D × α) → Option α
  | [] => none
  | (j, x) :: r => if D.eqv j k then some x else findK k r
def putK {α : Type} (k : D) (v : α) : List (D × α) → List (D × α)
  | [] => [(k, v)]
  | (j, x) :: r => if D.eqv j k then (j, v) :: r else (j, x) :: putK k v r
/-- what can be a key here -/
def keyOk : D → Bool
  | .int _ => true
  | .str _ => true
  | _ => false
def anyEq (x : D) (xs : List D) : Bool := xs.any fun y => D.eqv y x
def countEq (x : D) : List D → Nat
  | [] => 0
  | y :: r => (if D.eqv y x then 1 else 0) + countEq x r
def indexEq (x : D) : List D → Option Nat
  | [] => none
  | y :: r => if D.eqv y x then some 0 else (indexEq x r).map (· + 1)

/-! two readings of values -/
def intsD (f : Int → Int → Option D) : D → D → Option O
  | .int i, .int j => (f i j).map O.sh
  | _, _ => none
def addD : D → D → Option O
  | .int i, .int j => some (.sh (.int (i + j)))
  | .tup xs, .tup ys => if xs.length + ys.length ≤ cap then some (.sh (.tup (xs ++ ys))) else none
  | .lst xs, .lst ys => if xs.length + ys.length ≤ cap then some (own (xs ++ ys)) else none
  | _, _ => none
def repL0 (n : Nat) (k : Int) : Bool := decide (0 ≤ k ∧ k < 2 ^ 62 ∧ n * k.toNat ≤ cap)
def repL : Nat → Int → Bool := Classical.choose (hid repL0)
theorem repL_eq : repL = repL0 := Classical.choose_spec (hid repL0)
def repT0 (n : Nat) (k : Int) : Bool := decide (0 ≤ k ∧ k ≤ 1000 ∧ n ≤ 1000)
def repT : Nat → Int → Bool := Classical.choose (hid repT0)
theorem repT_eq : repT = repT0 := Classical.choose_spec (hid repT0)
def mulD : D → D → Option O
  | .int i, .int j => if mulOk i j then some (.sh (.int (i * j))) else none
  | .lst xs, .int k => if repL xs.length k then some (own (List.replicate k.toNat xs).flatten) else none
  | .tup xs, .int k => if repT xs.length k then some (.sh (.tup (List.replicate k.toNat xs).flatten)) else none
  | _, _ => none
def itemsOf : D → Option (List D)
  | .lst xs => some xs
  | .tup xs => some xs
  | _ => none
def inD (x y : D) : Option Bool := match itemsOf y with
  | some ys => if deep y x then some (anyEq x ys) else none
  | none => none
def countD (x y : D) : Option O := match itemsOf x with
  | some xs => if deep x y then some (.sh (.int (countEq y xs))) else none
  | none => none
def indexD (x y : D) : Option O := match itemsOf x with
  | some xs => if deep x y then (match indexEq y xs with
    | some n => some (.sh (.int (n : Nat)))
    | none => none) else none
  | none => none
def bin2 (op : B2) (x y : D) : Option O := match op with
  | .add => addD x y
  | .mul => mulD x y
  | .sub => intsD (fun i j => some (.int (i - j))) x y
  | .fdiv => intsD (fun i j => if 0 < j ∧ j < 1073741824 then some (.int (i / j)) else none) x y
  | .mod => intsD (fun i j => if 0 < j then some (.int (i % j)) else none) x y
  | .pow => intsD (fun i j => if 0 ≤ j ∧ j ≤ 1000000 ∧ i.natAbs < 2 ^ 64 then some (.int (i ^ j.toNat)) else none) x y
  | .lt => intsD (fun i j => some (.bl (decide (i < j)))) x y
  | .le => intsD (fun i j => some (.bl (decide (i ≤ j)))) x y
  | .gt => intsD (fun i j => some (.bl (decide (j < i)))) x y
  | .ge => intsD (fun i j => some (.bl (decide (j ≤ i)))) x y
  | .min2 => intsD (fun i j => some (.int (if j < i then j else i))) x y
  | .max2 => intsD (fun i j => some (.int (if i < j then j else i))) x y
  | .eq => if deep x y then some (.sh (.bl (D.eqv x y))) else none
  | .ne => if deep x y then some (.sh (.bl (!D.eqv x y))) else none
  | .inn => (inD x y).map fun b => .sh (.bl b)
  | .nin => (inD x y).map fun b => .sh (.bl (!b))
  | .count => countD x y
  | .index => indexD x y
  | .get1 => none

/-- what a dict has, by its keys -/
def dictOf : O → Option (List (D × O))
  | .fd kvs => some (kvs.map fun p => (p.1, O.sh p.2))
  | .dic kvs => some kvs
  | _ => none
def getD (x : Option O) : Option O := match x with
  | some (.sh v) => some (.sh v)
  | some _ => none
  | none => some (.sh .non)
def plain (op : B2) (x y : O) : Option O := match rd x, rd y with
  | some a, some b => bin2 op a b
  | _, _ => none
/-- two things looked at -/
def binO (op : B2) (x y : O) : Option O := match op with
  | .inn => match dictOf y, x with
    | some kvs, .sh k => if keyOk k then some (.sh (.bl (findK k kvs).isSome)) else none
    | _, _ => plain .inn x y
  | .nin => match dictOf y, x with
    | some kvs, .sh k => if keyOk k then some (.sh (.bl (!(findK k kvs).isSome))) else none
    | _, _ => plain .nin x y
  | .get1 => match dictOf x, y with
    | some kvs, .sh k => if keyOk k then getD (findK k kvs) else none
    | _, _ => none
  | op => plain op x y

/-- o[k], read -/
def item (x : O) (k : D) : Option O := match x, k with
  | .sh (.lst xs), .int i => (ixN xs.length i).bind fun j => (xs[j]?).map O.sh
  | .sh (.tup xs), .int i => (ixN xs.length i).bind fun j => (xs[j]?).map O.sh
  | .lst xs, .int i => (ixN xs.length i).bind fun j => xs[j]?
  | .dic kvs, k => if keyOk k then findK k kvs else none
  | .fd kvs, k => if keyOk k then findK k (kvs.map fun p => (p.1, O.sh p.2)) else none
  | _, _ => none
def cutO (x : O) (lo hi : Option Int) : Option O := match (rd x) with
  | some (.lst xs) => some (own (cut xs lo hi))
  | some (.tup xs) => some (.sh (.tup (cut xs lo hi)))
  | _ => none
def truth : O → Option Bool
  | .sh .non => some false
  | .sh (.bl b) => some b
  | .sh (.int i) => some (i != 0)
  | .sh (.lst xs) => some (!xs.isEmpty)
  | .sh (.tup xs) => some (!xs.isEmpty)
  | .lst xs => some (!xs.isEmpty)
  | _ => none

/-! ### the text -/
inductive Tg where
  | nm (i : Nat)
  | tp (ts : List Tg)

mutual
inductive E where
  | var (i : Nat)
  | mv (i : Nat)
  | lit (d : D)
  | glob (x : String) (d : D)
  | tup (es : Es)
  | lst (es : Es)
  | un (op : U1) (a : E)
  | bin (op : B2) (a b : E)
  | chain (op1 op2 : B2) (a b c : E)
  | not (a : E)
  | and (es : Es)
  | or (es : Es)
  | ite (c : T) (a b : E)
  | sub (a k : E)
  | slice (a : E) (lo hi : Es)
  | call (f : Nat) (as : Es)
  | comp (deep : Bool) (vs : List Nat) (elt : E) (tg : Tg) (it : It) (ifs : Ts)
  | comp2 (deep : Bool) (vs ws : List Nat) (elt : E) (tg : Tg) (it : It) (tg2 : Tg) (it2 : It)
  | dcomp (vs : List Nat) (k v : E) (tg : Tg) (it : It)
  | dict (kvs : Es)
  | fz (a : E)
  | listr (it : It)
  | tupler (it : It)
inductive Es where
  | nil
  | cons (e : E) (r : Es)
  | io (i : Nat) (r : Es)
inductive T where
  | e (a : E)
  | not (a : T)
  | and (ts : Ts)
  | or (ts : Ts)
inductive Ts where
  | nil
  | cons (t : T) (r : Ts)
inductive It where
  | seq (e : E)
  | r1 (a : E)
  | r2 (a b : E)
  | r3 (a b c : E)
  | enum (e : E)
  | zip (a b : E)
end

mutual
/-- nothing is lent in it: what stands stays as it is -/
def E.noIo : E → Bool
  | .var _ => true
  | .mv _ => true
  | .lit _ => true
  | .glob _ _ => true
  | .tup es => es.noIo
  | .lst es => es.noIo
  | .un _ a => a.noIo
  | .bin _ a b => a.noIo && b.noIo
  | .chain _ _ a b c => a.noIo && b.noIo && c.noIo
  | .not a => a.noIo
  | .and es => es.noIo
  | .or es => es.noIo
  | .ite c a b => c.noIo && a.noIo && b.noIo
  | .sub a k => a.noIo && k.noIo
  | .slice a lo hi => a.noIo && lo.noIo && hi.noIo
  | .call _ as => as.noIo
  | .comp _ _ elt _ it ifs => elt.noIo && it.noIo && ifs.noIo
  | .comp2 _ _ _ elt _ it _ it2 => elt.noIo && it.noIo && it2.noIo
  | .dcomp _ k v _ it => k.noIo && v.noIo && it.noIo
  | .dict kvs => kvs.noIo
  | .fz a => a.noIo
  | .listr it => it.noIo
  | .tupler it => it.noIo
def Es.noIo : Es → Bool
  | .nil => true
  | .cons e r => e.noIo && r.noIo
  | .io _ _ => false
def T.noIo : T → Bool
  | .e a => a.noIo
  | .not a => a.noIo
  | .and ts => ts.noIo
  | .or ts => ts.noIo
def Ts.noIo : Ts → Bool
  | .nil => true
  | .cons t r => t.noIo && r.noIo
def It.noIo : It → Bool
  | .seq e => e.noIo
  | .r1 a => a.noIo
  | .r2 a b => a.noIo && b.noIo
  | .r3 a b c => a.noIo && b.noIo && c.noIo
  | .enum e => e.noIo
  | .zip a b => a.noIo && b.noIo
end
def isSh : O → Bool
  | .sh _ => true
  | _ => false
/-- no one's own -/
def isShd : O → Bool
  | .sh _ => true
  | .fd _ => true
  | .scr _ => true
  | _ => false

/-- an argument: a value, or the slot that is lent -/
inductive AV where
  | v (o : O)
  | io (i : Nat)
/-- what a call gives: the value, what the lent slots hold then -/
inductive CRes where
  | ret (o : O) (ios : List O)
  | exc (c : Nat) (ios : List O)
  | bad

def wipe (env : Env) : List Nat → Env
  | [] => env
  | v :: vs => put (wipe env vs) v none
/-- the slots vs as they were -/
def back (was env : Env) : List Nat → Env
  | [] => env
  | v :: vs => put (back was env vs) v (get was v)

/-! a target takes a value -/
mutual
def take : Tg → O → M Unit
  | .nm i, o => fun env => .ok () (put env i (some o))
  | .tp ts, o => match o with
    | .sh (.tup ds) => takes ts ds
    | _ => bad
def takes : List Tg → List D → M Unit
  | [], [] => ret ()
  | t :: ts, d :: ds => fun env => (take t (.sh d) env).bnd fun _ env => takes ts ds env
  | _, _ => bad
end

def freeze (o : O) : M O := match o.share with
  | some d => ret d
  | none => bad

/-- it has such a method -/
def methOk (op : B2) (o : O) : Bool := match op with
  | .count => (match rd o with
    | some (.lst _) => true
    | some (.tup _) => true
    | _ => false)
  | .index => (match rd o with
    | some (.lst _) => true
    | some (.tup _) => true
    | _ => false)
  | .get1 => (dictOf o).isSome
  | _ => true
def flat1 : O → List O
  | .lst ys => ys
  | _ => []
/-- a list comprehension's turns -/
def turns (f : O → M (Option O)) (vs : List Nat) : List O → M (List O)
  | [] => ret []
  | x :: r => fun env => (f x env).bnd fun y env => (turns f vs r (wipe env vs)).bnd fun ys env => .ok (match y with
    | some y => y :: ys
    | none => ys) env

/-- the asInts lo, lo + 1, .. -/
def rangeD (lo : Int) (n : Nat) : List O := (List.range n).map fun k => .sh (.int (lo + (k : Nat)))
def downD (lo : Int) (n : Nat) : List O := (List.range n).map fun k => .sh (.int (lo - (k : Nat)))
def rgOk0 (lo hi : Int) : Bool := decide (-(2 ^ 61) ≤ lo) && decide (lo < 2 ^ 61) && decide (-(2 ^ 61) ≤ hi) && decide (hi < 2 ^ 61) && decide (hi - lo ≤ 16777216)
def rgOk : Int → Int → Bool := Classical.choose (hid rgOk0)
theorem rgOk_eq : rgOk = rgOk0 := Classical.choose_spec (hid rgOk0)
def enumD (k : Nat) : List D → List O
  | [] => []
  | x :: r => .sh (.tup [.int (k : Nat), x]) :: enumD (k + 1) r
def zipD : List D → List D → List O
  | x :: r, y :: s => .sh (.tup [x, y]) :: zipD r s
  | _, _ => []

/-- the lent slots, from the left -/
def lent : List AV → List Nat
  | [] => []
  | .v _ :: r => lent r
  | .io i :: r => i :: lent r
/-- the arguments as the callee has them -/
def args (env : Env) : List AV → Option (List O)
  | [] => some []
  | .v o :: r => (args env r).map (o :: ·)
  | .io i :: r => match get env i with
    | some o => (args env r).map (o :: ·)
    | none => none
def puts : Env → List Nat → List O → Env
  | env, i :: is, o :: os => puts (put env i (some o)) is os
  | env, _, _ => env
def nodupN : List Nat → Bool
  | [] => true
  | x :: r => !(r.contains x) && nodupN r
def iosOk : List Bool → List AV → Bool
  | [], [] => true
  | false :: r, .v o :: s => isShd o && iosOk r s
  | true :: r, .io _ :: s => iosOk r s
  | _, _ => false

def pairUp : List D → Option (List (D × D))
  | [] => some []
  | k :: v :: r => if keyOk k then (pairUp r).map ((k, v) :: ·) else none
  | _ => none

section
variable (cl : Nat → List O → CRes) (io : Nat → List Bool)

mutual
/-- the value of an expression; b: it is only looked at -/
def ev (b : Bool) : E → M O
  | .var i => fun env => match get env i with
    | some o => if b || isShd o then .ok o env else match o.share with
      | some d => .ok d (put env i (some d))
      | none => .bad
    | none => .bad
  | .mv i => fun env => match get env i with
    | some o => if isShd o then .ok o env else .ok o (put env i none)
    | none => .bad
  | .fz a => fun env => (ev false a env).bnd fun o env => freeze o env
  | .lit d => ret (.sh d)
  | .glob _ d => ret (.sh d)
  | .tup es => fun env => (evs es env).bnd fun ds env => .ok (.sh (.tup ds)) env
  | .lst es => fun env => (evs es env).bnd fun ds env => .ok (own ds) env
  | .un op a => fun env => (ev true a env).bnd fun o env => ofO (un1 op o) env
  | .bin op a c => fun env => (ev true a env).bnd fun o env => need ((isShd o || c.noIo) && methOk op o) ((ev true c env).bnd fun o2 env => ofO (binO op o o2) env)
  | .chain op1 op2 a c d => fun env => (ev true a env).bnd fun o env => (ev true c env).bnd fun o2 env => match o, o2 with
    | .sh x, .sh y => (ofO (bin2 op1 x y) env).bnd fun t env => match t with
      | .sh (.bl true) => (ev true d env).bnd fun o3 env => match o3 with
        | .sh z => ofO (bin2 op2 y z) env
        | _ => .bad
      | .sh (.bl false) => .ok (.sh (.bl false)) env
      | _ => .bad
    | _, _ => .bad
  | .not a => fun env => (ev true a env).bnd fun o env => match o with
    | .sh (.bl c) => .ok (.sh (.bl (!c))) env
    | _ => .bad
  | .and es => evAnd es
  | .or es => evOr es
  | .ite c a d => fun env => (evT c env).bnd fun t env => if t then ev b a env else ev b d env
  | .sub a k => fun env => (ev true a env).bnd fun o env => need (isShd o || k.noIo) ((ev true k env).bnd fun i env => match i with
    | .sh i => match item o i with
      | some (.sh d) => .ok (.sh d) env
      | some p => if b then .ok p env else .bad
      | none => .bad
    | _ => .bad)
  | .slice a lo hi => fun env => (ev true a env).bnd fun o env => need (isShd o || (lo.noIo && hi.noIo)) ((evEnd lo env).bnd fun l env => (evEnd hi env).bnd fun h env => ofO (cutO o l h) env)
  | .call f as => fun env => (evArgs as env).bnd fun avs env => if iosOk (io f) avs && nodupN (lent avs) then
    (match args env avs with
      | some os => match cl f os with
        | .ret o ios => if ios.length = (lent avs).length then .ok o (puts env (lent avs) ios) else .bad
        | .exc c ios => if ios.length = (lent avs).length then .exc c (puts env (lent avs) ios) else .bad
        | .bad => .bad
      | none => .bad) else .bad
  | .comp dp vs elt tg it ifs => fun env => (evIt it env).bnd fun xs env => (turns (fun x env => (take tg x env).bnd fun _ env => (evTs ifs env).bnd fun t env =>
      if t then (ev false elt env).bnd fun o env => if dp then .ok (some o) env else (freeze o env).bnd fun o env => .ok (some o) env else .ok none env) vs xs (wipe env vs)).nox.bnd fun os env2 => .ok (.lst os) (back env env2 vs)
  | .comp2 dp vs ws elt tg it tg2 it2 => fun env => (evIt it env).bnd fun xs env => (turns (fun x env => (take tg x env).bnd fun _ env => (evIt it2 env).bnd fun zs env =>
      (turns (fun z env => (take tg2 z env).bnd fun _ env => (ev false elt env).bnd fun o env => if dp then .ok (some o) env else (freeze o env).bnd fun o env => .ok (some o) env) ws zs (wipe env ws)).bnd fun os env => .ok (some (.lst os)) env) vs xs (wipe env vs)).nox.bnd fun os env2 =>
        need (decide ((os.flatMap flat1).length ≤ cap)) (.ok (.lst (os.flatMap flat1)) (back env env2 vs))
  | .dcomp vs k v tg it => fun env => (evIt it env).bnd fun xs env => (turns (fun x env => (take tg x env).bnd fun _ env => (ev true k env).bnd fun a env => (ev false v env).bnd fun o env => match a with
      | .sh a => if keyOk a then .ok (some (.dic [(a, o)])) env else .bad
      | _ => .bad) vs xs (wipe env vs)).nox.bnd fun os env2 => .ok (.dic (os.foldl (fun acc o => match o with
        | .dic [(a, o)] => putK a o acc
        | _ => acc) [])) (back env env2 vs)
  | .dict kvs => fun env => (evs kvs env).bnd fun ds env => match pairUp ds with
    | some ps => .ok (.dic (ps.foldl (fun acc p => putK p.1 (.sh p.2) acc) [])) env
    | none => .bad
  | .listr it => fun env => (evIt it env).bnd fun xs env => .ok (.lst xs) env
  | .tupler it => fun env => (evIt it env).bnd fun xs env => match O.frzs xs with
    | some ds => .ok (.sh (.tup ds)) env
    | none => .bad
/-- values that are shared -/
def evs : Es → M (List D)
  | .nil => ret []
  | .cons e r => fun env => (ev false e env).bnd fun o env => match o.frz with
    | some d => (evs r env).bnd fun ds env => .ok (d :: ds) env
    | none => .bad
  | .io _ _ => bad
/-- arguments -/
def evArgs : Es → M (List AV)
  | .nil => ret []
  | .cons e r => fun env => (ev false e env).bnd fun o env => (freeze o env).bnd fun o env => (evArgs r env).bnd fun as env => .ok (.v o :: as) env
  | .io i r => fun env => match get env i with
    | some o => if isShd o then .bad else (evArgs r env).bnd fun as env => .ok (.io i :: as) env
    | none => .bad
/-- a slice's end -/
def evEnd : Es → M (Option Int)
  | .nil => ret none
  | .cons e .nil => fun env => (ev true e env).bnd fun o env => match o with
    | .sh (.int i) => .ok (some i) env
    | _ => .bad
  | _ => bad
def evAnd : Es → M O
  | .nil => bad
  | .cons e .nil => fun env => (ev true e env).bnd fun o env => need (isSh o) (.ok o env)
  | .cons e r => fun env => (ev true e env).bnd fun o env => match o with
    | .sh (.bl true) => evAnd r env
    | .sh (.bl false) => .ok (.sh (.bl false)) env
    | _ => .bad
  | .io _ _ => bad
def evOr : Es → M O
  | .nil => bad
  | .cons e .nil => fun env => (ev true e env).bnd fun o env => need (isSh o) (.ok o env)
  | .cons e r => fun env => (ev true e env).bnd fun o env => match o with
    | .sh (.bl true) => .ok (.sh (.bl true)) env
    | .sh (.bl false) => evOr r env
    | _ => .bad
  | .io _ _ => bad
def evT : T → M Bool
  | .e a => fun env => (ev true a env).bnd fun o env => ofO (truth o) env
  | .not a => fun env => (evT a env).bnd fun t env => .ok (!t) env
  | .and ts => evTs ts
  | .or ts => evTo ts
def evTs : Ts → M Bool
  | .nil => ret true
  | .cons t r => fun env => (evT t env).bnd fun b env => if b then evTs r env else .ok false env
def evTo : Ts → M Bool
  | .nil => ret false
  | .cons t r => fun env => (evT t env).bnd fun b env => if b then .ok true env else evTo r env
/-- what a loop walks -/
def evIt : It → M (List O)
  | .seq e => fun env => (ev false e env).bnd fun o env => (freeze o env).bnd fun o env => match o with
    | .sh (.lst xs) => .ok (xs.map O.sh) env
    | .sh (.tup xs) => .ok (xs.map O.sh) env
    | .scr ns => .ok (ns.map fun n => O.sh (.int n)) env
    | _ => .bad
  | .r1 a => fun env => (ev true a env).bnd fun o env => match o with
    | .sh (.int n) => need (rgOk 0 n) (.ok (rangeD 0 n.toNat) env)
    | _ => .bad
  | .r2 a c => fun env => (ev true a env).bnd fun o env => (ev true c env).bnd fun p env => match o, p with
    | .sh (.int lo), .sh (.int hi) => need (rgOk lo hi) (.ok (rangeD lo (hi - lo).toNat) env)
    | _, _ => .bad
  | .r3 a c d => fun env => (ev true a env).bnd fun o env => (ev true c env).bnd fun p env => (ev true d env).bnd fun q env => match o, p, q with
    | .sh (.int lo), .sh (.int hi), .sh (.int st) => need (st == -1 && rgOk hi lo) (.ok (downD lo (lo - hi).toNat) env)
    | _, _, _ => .bad
  | .enum e => fun env => (ev false e env).bnd fun o env => (freeze o env).bnd fun o env => match o with
    | .sh (.lst xs) => .ok (enumD 0 xs) env
    | .sh (.tup xs) => .ok (enumD 0 xs) env
    | _ => .bad
  | .zip a c => fun env => (ev false a env).bnd fun o env => (freeze o env).bnd fun o env => (ev false c env).bnd fun p env => (freeze p env).bnd fun p env => match o, p with
    | .sh (.tup xs), .sh (.tup ys) => .ok (zipD xs ys) env
    | .sh (.lst xs), .sh (.lst ys) => .ok (zipD xs ys) env
    | _, _ => .bad
end
end

/-! ### statements -/
mutual
inductive S where
  | asg (tg : Tg) (e : E)
  /-- x[k] = e -/
  | setIx (i : Nat) (k e : E)
  /-- x[k][j] = e -/
  | setIx2 (i : Nat) (k j e : E)
  /-- x[k] op= e -/
  | augIx (i : Nat) (k : E) (op : B2) (e : E)
  | app (i : Nat) (e : E)
  /-- x[k].append(e) -/
  | app2 (i : Nat) (k e : E)
  | ext (i : Nat) (e : E)
  | ins (i : Nat) (k e : E)
  | popAt (i : Nat) (k : E)
  | ex (e : E)
  | ifs (c : T) (a b : Ss)
  | loop (tg : Tg) (it : It) (b : Ss)
  | whl (fuel : Nat) (c : T) (b : Ss)
  | ret (e : E)
  | retn
  | raise (c : Nat)
  | tryx (b : Ss) (hs : List (Nat × Sx))
  | brk
  | cnt
  | pass
inductive Ss where
  | nil
  | cons (s : S) (r : Ss)
/-- what an except clause does -/
inductive Sx where
  | ret (c : Wc)
  | asg (i : Nat) (c : Wc)
/-- written values -/
inductive Wc where
  | lit (d : D)
  | lst (ds : List D)
end

inductive SOut where
  | nx (env : Env)
  | rt (o : O) (env : Env)
  | bk (env : Env)
  | ct (env : Env)
  | exc (c : Nat) (env : Env)
  | bad
def Out.thn {α : Type} (x : Out α) (f : α → Env → SOut) : SOut := match x with
  | .ok a env => f a env
  | .exc c env => .exc c env
  | .bad => .bad
def SOut.thn (x : SOut) (f : Env → SOut) : SOut := match x with
  | .nx env => f env
  | y => y
def needS (b : Bool) (x : SOut) : SOut := if b then x else .bad

/-- a for's turns -/
def fors (f : O → Env → SOut) : List O → Env → SOut
  | [], env => .nx env
  | x :: r, env => match f x env with
    | .nx env => fors f r env
    | .ct env => fors f r env
    | .bk env => .nx env
    | y => y
def whiles (t : Env → Out Bool) (f : Env → SOut) : Nat → Env → SOut
  | 0, _ => .bad
  | n + 1, env => (t env).thn fun c env => if c then (match f env with
    | .nx env => whiles t f n env
    | .ct env => whiles t f n env
    | .bk env => .nx env
    | y => y) else .nx env

/-- xs with the place j changed -/
def setN {α : Type} (xs : List α) (j : Nat) (y : α) : List α := xs.set j y
/-- o[k] = y, of what one name holds -/
def setO (x : O) (k : D) (y : O) : Option O := match x, k with
  | .lst xs, .int i => (ixN xs.length i).map fun j => .lst (xs.set j y)
  | _, _ => none
/-- down a way of keys, a change at its end -/
def downO (f : O → Option O) : O → List D → Option O
  | x, [] => f x
  | x, k :: ks => match item x k with
    | some y => match downO f y ks with
      | some z => setO x k z
      | none => none
    | none => none
def lastK : List D → Option (List D × D)
  | [] => none
  | [k] => some ([], k)
  | k :: r => (lastK r).map fun p => (k :: p.1, p.2)
def appO (y : D) : O → Option O
  | .lst xs => if xs.length < cap then some (.lst (xs ++ [.sh y])) else none
  | _ => none
def insAt {α : Type} (xs : List α) (i : Nat) (y : α) : List α := xs.take i ++ y :: xs.drop i

section
variable (cl : Nat → List O → CRes) (io : Nat → List Bool) (sub : Nat → Nat → Bool)

def evC : Wc → O
  | .lit d => .sh d
  | .lst ds => own ds
def runX (env : Env) : Sx → SOut
  | .ret v => .rt (evC v) env
  | .asg i v => .nx (put env i (some (evC v)))
def handle (hs : List (Nat × Sx)) (c : Nat) (env : Env) : SOut := match hs with
  | [] => .exc c env
  | (h, x) :: r => if sub c h then runX env x else handle r c env

mutual
def exe : S → Env → SOut
  | .asg tg e => fun env => (ev cl io false e env).thn fun o env => (take tg o env).thn fun _ env => .nx env
  | .setIx i k e => fun env => (ev cl io false e env).thn fun o env => (freeze o env).thn fun o env => needS (get env i).isSome ((ev cl io true k env).thn fun k env => match get env i, k with
    | some x, .sh k => match setO x k o with
      | some x => .nx (put env i (some x))
      | none => .bad
    | _, _ => .bad)
  | .setIx2 i k j e => fun env => (ev cl io false e env).thn fun o env => (freeze o env).thn fun o env => needS (get env i).isSome ((ev cl io true k env).thn fun k env => match get env i, k with
    | some x, .sh k => match item x k with
      | some (.lst _) => needS j.noIo ((ev cl io true j env).thn fun j env => match get env i, j with
        | some x, .sh j => match item x k with
          | some y => match setO y j o with
            | some z => match setO x k z with
              | some x => .nx (put env i (some x))
              | none => .bad
            | none => .bad
          | none => .bad
        | _, _ => .bad)
      | _ => .bad
    | _, _ => .bad)
  | .augIx i k op e => fun env => (ev cl io true k env).thn fun k env => match get env i, k with
    | some x, .sh k => match item x k with
      | some (.sh d) => needS e.noIo ((ev cl io true e env).thn fun o env => match o with
        | .sh d2 => match bin2 op d d2, get env i with
          | some (.sh z), some x => match setO x k (.sh z) with
            | some x => .nx (put env i (some x))
            | none => .bad
          | _, _ => .bad
        | _ => .bad)
      | _ => .bad
    | _, _ => .bad
  | .app i e => fun env => match get env i with
    | some (.lst _) => (ev cl io false e env).thn fun o env => (freeze o env).thn fun o env => match get env i with
      | some (.lst xs) => if xs.length < cap then .nx (put env i (some (.lst (xs ++ [o])))) else .bad
      | _ => .bad
    | _ => .bad
  | .app2 i k e => fun env => .bad
  | .ext i e => fun env => match get env i with
    | some (.lst _) => (ev cl io false e env).thn fun o env => match get env i, o with
      | some (.lst xs), .lst ys => if xs.length + ys.length ≤ cap then .nx (put env i (some (.lst (xs ++ ys)))) else .bad
      | some (.lst xs), .sh (.lst ys) => if xs.length + ys.length ≤ cap then .nx (put env i (some (.lst (xs ++ ys.map O.sh)))) else .bad
      | _, _ => .bad
    | _ => .bad
  | .ins i k e => fun env => match get env i with
    | some (.lst _) => (ev cl io true k env).thn fun k env => (ev cl io false e env).thn fun o env => (freeze o env).thn fun o env => match get env i, k with
      | some (.lst xs), .sh (.int k) => if 0 ≤ k ∧ k < 2 ^ 62 ∧ xs.length < cap then .nx (put env i (some (.lst (insAt xs k.toNat o)))) else .bad
      | _, _ => .bad
    | _ => .bad
  | .popAt i k => fun env => match get env i with
    | some (.lst _) => (ev cl io true k env).thn fun k env => match get env i, k with
      | some (.lst xs), .sh (.int k) => match ixN xs.length k with
        | some j => .nx (put env i (some (.lst (xs.eraseIdx j))))
        | none => .bad
      | _, _ => .bad
    | _ => .bad
  | .ex e => fun env => (ev cl io false e env).thn fun _ env => .nx env
  | .ifs c a b => fun env => (evT cl io c env).thn fun t env => if t then exes a env else exes b env
  | .loop tg it b => fun env => (evIt cl io it env).thn fun xs env => fors (fun x env => (take tg x env).thn fun _ env => exes b env) xs env
  | .whl n c b => whiles (evT cl io c) (exes b) n
  | .ret e => fun env => (ev cl io false e env).thn fun o env => .rt o env
  | .retn => fun env => .rt (.sh .non) env
  | .raise c => fun env => .exc c env
  | .tryx b hs => fun env => match exes b env with
    | .exc c env => handle sub hs c env
    | y => y
  | .brk => fun env => .bk env
  | .cnt => fun env => .ct env
  | .pass => fun env => .nx env
def exes : Ss → Env → SOut
  | .nil => fun env => .nx env
  | .cons s r => fun env => (exe s env).thn fun env => exes r env
end
end

/-! ### defs -/
structure FDef where
  io : List Bool
  slots : Nat
  body : Ss
/-- what the lent parameters hold behind it -/
def iosOf : List Bool → Env → Option (List O)
  | [], _ => some []
  | false :: r, _ :: s => iosOf r s
  | true :: r, some o :: s => if isShd o then none else (iosOf r s).map (o :: ·)
  | _, _ => none
def FDef.start (f : FDef) (os : List O) : Env := os.map some ++ List.replicate (f.slots - os.length) none
def finish (f : FDef) : SOut → CRes
  | .nx env => match iosOf f.io env with
    | some ios => .ret (.sh .non) ios
    | none => .bad
  | .rt o env => match iosOf f.io env with
    | some ios => .ret o ios
    | none => .bad
  | .exc c env => match iosOf f.io env with
    | some ios => .exc c ios
    | none => .bad
  | _ => .bad
def call (tbl : Nat → Option FDef) (sub : Nat → Nat → Bool) : Nat → Nat → List O → CRes
  | 0, _, _ => .bad
  | n + 1, f, os => match tbl f with
    | some d => if os.length = d.io.length then finish d (exes (call tbl sub n) (fun g => match tbl g with
      | some e => e.io
      | none => []) sub d.body (d.start os)) else .bad
    | none => .bad
end
end Ev
set_option linter.all false
namespace Ev
theorem evAnd_cons {cl : Nat → List O → CRes} {io : Nat → List Bool} {e f : E} {r : Es} : evAnd cl io (.cons e (.cons f r)) = fun env => (ev cl io true e env).bnd fun o env => match o with
    | .sh (.bl true) => evAnd cl io (.cons f r) env
    | .sh (.bl false) => .ok (.sh (.bl false)) env
    | _ => .bad := by
  rw [evAnd] <;> first | rfl | (intro h; cases h)
theorem evOr_cons {cl : Nat → List O → CRes} {io : Nat → List Bool} {e f : E} {r : Es} : evOr cl io (.cons e (.cons f r)) = fun env => (ev cl io true e env).bnd fun o env => match o with
    | .sh (.bl true) => .ok (.sh (.bl true)) env
    | .sh (.bl false) => evOr cl io (.cons f r) env
    | _ => .bad := by
  rw [evOr] <;> first | rfl | (intro h; cases h)
theorem bnd_assoc {α β γ : Type} {x : Out α} {f : α → Env → Out β} {g : β → Env → Out γ} : (x.bnd f).bnd g = x.bnd fun a env => (f a env).bnd g := by cases x <;> rfl
theorem bnd_congr {α β : Type} {x : Out α} {f g : α → Env → Out β} (h : ∀ a env, f a env = g a env) : x.bnd f = x.bnd g := by
  cases x with
  | ok a env => exact h a env
  | _ => rfl
theorem frzs_sh : ∀ ds : List D, O.frzs (ds.map O.sh) = some ds
  | [] => rfl
  | d :: ds => by simp [O.frzs, O.frz, frzs_sh ds]
end Ev
set_option Elab.async false
set_option linter.all false
set_option maxRecDepth 100000
namespace Ev
open PySem PySem.Spec PyProof.Rows L2

/-! ### how values lie in the heap -/
/-- a tuple of our own: its object is known to have no dict -/
def TupAt (H : Hp) (a : Addr) (xs : List V) : Prop := ∃ o : Obj, H a = some (.frz o (.tup xs)) ∧ o.dict = none
/-- a list of the written part -/
def KLst (K : PySem.W.Frag) (a : Addr) (xs : List V) : Prop := ∃ (o : Obj) (its : Array Value) (n : Nat), K.lookup a = some o ∧ o.cls = .type "list" ∧ o.dict = none ∧ o.data = .seq its n ∧ its.size ≤ sizeLine ∧ Vals xs its.toList
def keyD : D → Option Key
  | .int i => some (.inl i)
  | .str s => some (.inr (Str.ofString s))
  | _ => none
section
variable (K : PySem.W.Frag) (W : Addr → Prop) (H : Hp)
/-- a tuple of the written part -/
def KTup (a : Addr) (xs : List V) : Prop := ∃ (o : Obj) (its : Array Value) (n : Nat), K.lookup a = some o ∧ o.cls = .type "tuple" ∧ o.dict = none ∧ o.data = .seq its n ∧ its.size ≤ sizeLine ∧ Vals xs its.toList
mutual
def RD : D → V → Prop
  | .non, v => v = .non
  | .bl b, v => v = .bl b
  | .int i, v => v = .int i
  | .str s, v => v = .str (Str.ofString s)
  | .tup ds, v => ∃ a xs, v = .ref a ∧ ((W a ∧ TupAt H a xs) ∨ KTup K a xs) ∧ RDs ds xs
  | .lst ds, v => ∃ a xs, v = .ref a ∧ W a ∧ H a = some (.lst xs) ∧ RDs ds xs
def RDs : List D → List V → Prop
  | [], xs => xs = []
  | d :: ds, xs => ∃ x r, xs = x :: r ∧ RD d x ∧ RDs ds r
end
def RDk : List (D × D) → List (Key × V) → Prop
  | [], xs => xs = []
  | (k, d) :: ds, xs => ∃ q x r, xs = (q, x) :: r ∧ keyD k = some q ∧ RD K W H d x ∧ RDk ds r
/-! what one holder alone has: A: the addresses of it -/
mutual
def RO : O → V → List Addr → Prop
  | .sh d, v, A => RD K W H d v ∧ A = []
  | .fd kvs, v, A => (∃ a es, v = .ref a ∧ W a ∧ H a = some (.dK es) ∧ RDk K W H kvs es) ∧ A = []
  | .scr ns, v, A => (∃ a, v = .ref a ∧ ((W a ∧ Rd H a (.lst (ns.map V.int))) ∨ KLst K a (ns.map V.int))) ∧ A = []
  | .lst os, v, A => ∃ a xs B, v = .ref a ∧ A = a :: B ∧ H a = some (.lst xs) ∧ ROs os xs B
  | .dic kvs, v, A => ∃ a es B, v = .ref a ∧ A = a :: B ∧ H a = some (.dK es) ∧ ROk kvs es B
  | .ins _ _, _, _ => False
def ROs : List O → List V → List Addr → Prop
  | [], xs, A => xs = [] ∧ A = []
  | o :: os, xs, A => ∃ x r B C, xs = x :: r ∧ A = B ++ C ∧ RO o x B ∧ ROs os r C
def ROk : List (D × O) → List (Key × V) → List Addr → Prop
  | [], xs, A => xs = [] ∧ A = []
  | (k, o) :: os, xs, A => ∃ q x r B C, xs = (q, x) :: r ∧ A = B ++ C ∧ keyD k = some q ∧ RO o x B ∧ ROk os r C
end
end

section
variable {K : PySem.W.Frag} {W W' : Addr → Prop} {H H' : Hp}
mutual
theorem RD.mono (hw : ∀ a, W a → W' a) (hh : ∀ a o, W a → H a = some o → H' a = some o) : ∀ {d : D} {v : V}, RD K W H d v → RD K W' H' d v
  | .non, _, h => by simpa [RD] using h
  | .bl _, _, h => by simpa [RD] using h
  | .int _, _, h => by simpa [RD] using h
  | .str _, _, h => by simpa [RD] using h
  | .tup ds, v, h => by
    simp only [RD] at h ⊢
    obtain ⟨a, xs, e, h1, h2⟩ := h
    refine ⟨a, xs, e, ?_, RDs.mono hw hh h2⟩
    rcases h1 with ⟨p, o, q, z⟩ | p
    · exact .inl ⟨hw a p, o, hh a _ p q, z⟩
    · exact .inr p
  | .lst ds, v, h => by
    simp only [RD] at h ⊢
    obtain ⟨a, xs, e, p, q, h2⟩ := h
    exact ⟨a, xs, e, hw a p, hh a _ p q, RDs.mono hw hh h2⟩
theorem RDs.mono (hw : ∀ a, W a → W' a) (hh : ∀ a o, W a → H a = some o → H' a = some o) : ∀ {ds : List D} {xs : List V}, RDs K W H ds xs → RDs K W' H' ds xs
  | [], _, h => by simpa [RDs] using h
  | d :: ds, xs, h => by
    simp only [RDs] at h ⊢
    obtain ⟨x, r, e, h1, h2⟩ := h
    exact ⟨x, r, e, RD.mono hw hh h1, RDs.mono hw hh h2⟩
end
theorem RDk.mono (hw : ∀ a, W a → W' a) (hh : ∀ a o, W a → H a = some o → H' a = some o) : ∀ {ds : List (D × D)} {xs : List (Key × V)}, RDk K W H ds xs → RDk K W' H' ds xs
  | [], _, h => by simpa [RDk] using h
  | (k, d) :: ds, xs, h => by
    simp only [RDk] at h ⊢
    obtain ⟨q, x, r, e, h0, h1, h2⟩ := h
    exact ⟨q, x, r, e, h0, RD.mono hw hh h1, RDk.mono hw hh h2⟩
mutual
theorem RO.mono (hw : ∀ a, W a → W' a) (hh : ∀ a o, W a → H a = some o → H' a = some o) : ∀ {d : O} {v : V} {A : List Addr}, (∀ a ∈ A, ∀ o, H a = some o → H' a = some o) → RO K W H d v A → RO K W' H' d v A
  | .sh d, v, A, ha, h => by
    simp only [RO] at h ⊢
    exact ⟨RD.mono hw hh h.1, h.2⟩
  | .fd kvs, v, A, ha, h => by
    simp only [RO] at h ⊢
    obtain ⟨⟨a, es, e, p, q, h2⟩, h3⟩ := h
    exact ⟨⟨a, es, e, hw a p, hh a _ p q, RDk.mono hw hh h2⟩, h3⟩
  | .scr ns, v, A, ha, h => by
    simp only [RO] at h ⊢
    obtain ⟨⟨a, e, q⟩, h3⟩ := h
    refine ⟨⟨a, e, ?_⟩, h3⟩
    rcases q with ⟨p, q | ⟨o, q⟩⟩ | q
    · exact .inl ⟨hw a p, .inl (hh a _ p q)⟩
    · exact .inl ⟨hw a p, .inr ⟨o, hh a _ p q⟩⟩
    · exact .inr q
  | .lst ds, v, A, ha, h => by
    simp only [RO] at h ⊢
    obtain ⟨a, xs, B, e, rfl, q, h2⟩ := h
    exact ⟨a, xs, B, e, rfl, ha a List.mem_cons_self _ q, ROs.mono hw hh (fun b hb => ha b (List.mem_cons_of_mem _ hb)) h2⟩
  | .dic ds, v, A, ha, h => by
    simp only [RO] at h ⊢
    obtain ⟨a, xs, B, e, rfl, q, h2⟩ := h
    exact ⟨a, xs, B, e, rfl, ha a List.mem_cons_self _ q, ROk.mono hw hh (fun b hb => ha b (List.mem_cons_of_mem _ hb)) h2⟩
  | .ins _ _, _, _, _, h => by simp only [RO] at h
theorem ROs.mono (hw : ∀ a, W a → W' a) (hh : ∀ a o, W a → H a = some o → H' a = some o) : ∀ {ds : List O} {xs : List V} {A : List Addr}, (∀ a ∈ A, ∀ o, H a = some o → H' a = some o) → ROs K W H ds xs A → ROs K W' H' ds xs A
  | [], _, _, _, h => by simpa [ROs] using h
  | d :: ds, xs, A, ha, h => by
    simp only [ROs] at h ⊢
    obtain ⟨x, r, B, C, e, rfl, h1, h2⟩ := h
    exact ⟨x, r, B, C, e, rfl, RO.mono hw hh (fun b hb => ha b (List.mem_append_left _ hb)) h1, ROs.mono hw hh (fun b hb => ha b (List.mem_append_right _ hb)) h2⟩
theorem ROk.mono (hw : ∀ a, W a → W' a) (hh : ∀ a o, W a → H a = some o → H' a = some o) : ∀ {ds : List (D × O)} {xs : List (Key × V)} {A : List Addr}, (∀ a ∈ A, ∀ o, H a = some o → H' a = some o) → ROk K W H ds xs A → ROk K W' H' ds xs A
  | [], _, _, _, h => by simpa [ROk] using h
  | (k, d) :: ds, xs, A, ha, h => by
    simp only [ROk] at h ⊢
    obtain ⟨q, x, r, B, C, e, rfl, h0, h1, h2⟩ := h
    exact ⟨q, x, r, B, C, e, rfl, h0, RO.mono hw hh (fun b hb => ha b (List.mem_append_left _ hb)) h1, ROk.mono hw hh (fun b hb => ha b (List.mem_append_right _ hb)) h2⟩
end
/-! what is held is given to all -/
mutual
theorem RO.frz (hw : ∀ a, W a → W' a) : ∀ {o : O} {v : V} {A : List Addr} {d : D}, (∀ a ∈ A, W' a) → RO K W H o v A → o.frz = some d → RD K W' H d v
  | .sh d, v, A, e, ha, h, hf => by
    simp only [RO] at h
    simp only [O.frz, Option.some.injEq] at hf
    subst hf
    exact RD.mono hw (fun _ _ _ q => q) h.1
  | .lst os, v, A, e, ha, h, hf => by
    simp only [RO] at h
    simp only [O.frz, Option.map_eq_some_iff] at hf
    obtain ⟨ds, h1, rfl⟩ := hf
    obtain ⟨a, xs, B, rfl, rfl, q, h2⟩ := h
    simp only [RD]
    exact ⟨a, xs, rfl, ha a List.mem_cons_self, q, ROs.frz hw (fun b hb => ha b (List.mem_cons_of_mem _ hb)) h2 h1⟩
  | .fd _, _, _, _, _, h, hf => by simp [O.frz] at hf
  | .scr _, _, _, _, _, h, hf => by simp [O.frz] at hf
  | .dic os, v, A, e, ha, h, hf => by simp [O.frz] at hf
  | .ins _ _, _, _, _, _, h, _ => by simp only [RO] at h
theorem ROs.frz (hw : ∀ a, W a → W' a) : ∀ {os : List O} {xs : List V} {A : List Addr} {ds : List D}, (∀ a ∈ A, W' a) → ROs K W H os xs A → O.frzs os = some ds → RDs K W' H ds xs
  | [], xs, A, e, ha, h, hf => by
    simp only [ROs] at h
    simp only [O.frzs, Option.some.injEq] at hf
    subst hf
    simp only [RDs]
    exact h.1
  | o :: os, xs, A, e, ha, h, hf => by
    simp only [ROs] at h
    obtain ⟨x, r, B, C, rfl, rfl, h1, h2⟩ := h
    simp only [O.frzs] at hf
    split at hf
    · rename_i d hd
      simp only [Option.map_eq_some_iff] at hf
      obtain ⟨ds, h3, rfl⟩ := hf
      simp only [RDs]
      exact ⟨x, r, rfl, RO.frz hw (fun b hb => ha b (List.mem_append_left _ hb)) h1 hd, ROs.frz hw (fun b hb => ha b (List.mem_append_right _ hb)) h2 h3⟩
    · cases hf
end
theorem ROk.frz (hw : ∀ a, W a → W' a) : ∀ {os : List (D × O)} {xs : List (Key × V)} {A : List Addr} {ds : List (D × D)}, (∀ a ∈ A, W' a) → ROk K W H os xs A → O.frzk os = some ds → RDk K W' H ds xs
  | [], xs, A, e, ha, h, hf => by
    simp only [ROk] at h
    simp only [O.frzk, Option.some.injEq] at hf
    subst hf
    simp only [RDk]
    exact h.1
  | (k, o) :: os, xs, A, e, ha, h, hf => by
    simp only [ROk] at h
    obtain ⟨q, x, r, B, C, rfl, rfl, h0, h1, h2⟩ := h
    simp only [O.frzk] at hf
    split at hf
    · rename_i d hd
      simp only [Option.map_eq_some_iff] at hf
      obtain ⟨ds, h3, rfl⟩ := hf
      simp only [RDk]
      exact ⟨q, x, r, rfl, h0, RO.frz hw (fun b hb => ha b (List.mem_append_left _ hb)) h1 hd, ROk.frz hw (fun b hb => ha b (List.mem_append_right _ hb)) h2 h3⟩
    · cases hf
/-- what is held, given to all -/
theorem RO.share (hw : ∀ a, W a → W' a) {o p : O} {v : V} {A : List Addr} (ha : ∀ a ∈ A, W' a) (h : RO K W H o v A) (hf : o.share = some p) : RO K W' H p v [] ∧ isShd p = true := by
  cases o with
  | sh d =>
    simp only [O.share, Option.some.injEq] at hf
    subst hf
    simp only [RO, and_true] at h ⊢
    exact ⟨RD.mono hw (fun _ _ _ q => q) h.1, rfl⟩
  | fd kvs =>
    simp only [O.share, Option.some.injEq] at hf
    subst hf
    have := h
    simp only [RO] at h
    obtain ⟨_, rfl⟩ := h
    exact ⟨RO.mono hw (fun _ _ _ q => q) (fun _ z => absurd z (by simp)) this, rfl⟩
  | scr ns =>
    simp only [O.share, Option.some.injEq] at hf
    subst hf
    have := h
    simp only [RO] at h
    obtain ⟨_, rfl⟩ := h
    exact ⟨RO.mono hw (fun _ _ _ q => q) (fun _ z => absurd z (by simp)) this, rfl⟩
  | lst os =>
    simp only [O.share, Option.map_eq_some_iff] at hf
    obtain ⟨ds, h1, rfl⟩ := hf
    have : (O.lst os).frz = some (.lst ds) := by simp [O.frz, h1]
    have q := RO.frz hw ha h this
    simp only [RO, and_true]
    exact ⟨q, rfl⟩
  | dic os =>
    simp only [O.share, Option.map_eq_some_iff] at hf
    obtain ⟨ds, h1, rfl⟩ := hf
    simp only [RO] at h
    obtain ⟨a, es, B, rfl, rfl, q, h2⟩ := h
    simp only [RO, and_true]
    exact ⟨⟨a, es, rfl, ha a List.mem_cons_self, q, ROk.frz hw (fun b hb => ha b (List.mem_cons_of_mem _ hb)) h2 h1⟩, rfl⟩
  | ins _ _ => simp only [RO] at h
theorem RO.shd {o : O} {v : V} {A : List Addr} (h : RO K W H o v A) (s : isShd o = true) : A = [] := by
  cases o with
  | sh d => simp only [RO] at h; exact h.2
  | fd d => simp only [RO] at h; exact h.2
  | scr d => simp only [RO] at h; exact h.2
  | _ => cases s
/-! what is held is there -/
mutual
theorem RO.there : ∀ {o : O} {v : V} {A : List Addr}, RO K W H o v A → ∀ a ∈ A, H a ≠ none
  | .sh d, v, A, h, a, ha => by
    simp only [RO] at h
    rw [h.2] at ha
    exact absurd ha (by simp)
  | .fd d, v, A, h, a, ha => by
    simp only [RO] at h
    rw [h.2] at ha
    exact absurd ha (by simp)
  | .scr d, v, A, h, a, ha => by
    simp only [RO] at h
    rw [h.2] at ha
    exact absurd ha (by simp)
  | .lst os, v, A, h, a, ha => by
    simp only [RO] at h
    obtain ⟨b, xs, B, rfl, rfl, q, h2⟩ := h
    rcases List.mem_cons.mp ha with rfl | ha
    · rw [q]; simp
    · exact ROs.there h2 a ha
  | .dic os, v, A, h, a, ha => by
    simp only [RO] at h
    obtain ⟨b, xs, B, rfl, rfl, q, h2⟩ := h
    rcases List.mem_cons.mp ha with rfl | ha
    · rw [q]; simp
    · exact ROk.there h2 a ha
  | .ins _ _, _, _, h, _, _ => by simp only [RO] at h
theorem ROs.there : ∀ {os : List O} {xs : List V} {A : List Addr}, ROs K W H os xs A → ∀ a ∈ A, H a ≠ none
  | [], _, _, h, a, ha => by
    simp only [ROs] at h
    rw [h.2] at ha
    exact absurd ha (by simp)
  | o :: os, xs, A, h, a, ha => by
    simp only [ROs] at h
    obtain ⟨x, r, B, C, rfl, rfl, h1, h2⟩ := h
    rcases List.mem_append.mp ha with ha | ha
    · exact RO.there h1 a ha
    · exact ROs.there h2 a ha
theorem ROk.there : ∀ {os : List (D × O)} {xs : List (Key × V)} {A : List Addr}, ROk K W H os xs A → ∀ a ∈ A, H a ≠ none
  | [], _, _, h, a, ha => by
    simp only [ROk] at h
    rw [h.2] at ha
    exact absurd ha (by simp)
  | (k, o) :: os, xs, A, h, a, ha => by
    simp only [ROk] at h
    obtain ⟨q, x, r, B, C, rfl, rfl, h0, h1, h2⟩ := h
    rcases List.mem_append.mp ha with ha | ha
    · exact RO.there h1 a ha
    · exact ROk.there h2 a ha
end
/-! lists -/
theorem RDs.len : ∀ {ds : List D} {xs : List V}, RDs K W H ds xs → xs.length = ds.length
  | [], _, h => by simp only [RDs] at h; rw [h]; rfl
  | d :: ds, xs, h => by
    simp only [RDs] at h
    obtain ⟨x, r, rfl, _, h2⟩ := h
    simp [RDs.len h2]
theorem RDs.get : ∀ {ds : List D} {xs : List V} {i : Nat} {d : D}, RDs K W H ds xs → ds[i]? = some d → ∃ x, xs[i]? = some x ∧ RD K W H d x
  | [], _, _, _, h, e => by simp at e
  | d :: ds, xs, 0, e, h, q => by
    simp only [RDs] at h
    obtain ⟨x, r, rfl, h1, h2⟩ := h
    simp at q
    subst q
    exact ⟨x, by simp, h1⟩
  | d :: ds, xs, i + 1, e, h, q => by
    simp only [RDs] at h
    obtain ⟨x, r, rfl, h1, h2⟩ := h
    simp at q
    obtain ⟨y, h3, h4⟩ := RDs.get h2 q
    exact ⟨y, by simpa using h3, h4⟩
theorem RDs.getV : ∀ {ds : List D} {xs : List V} {i : Nat} {x : V}, RDs K W H ds xs → xs[i]? = some x → ∃ d, ds[i]? = some d ∧ RD K W H d x := fun {ds xs i x} h q => by
  have hl := h.len
  have hi : i < ds.length := by
    rw [← hl]
    exact (List.getElem?_eq_some_iff.mp q).1
  obtain ⟨y, h1, h2⟩ := h.get (List.getElem?_eq_getElem hi)
  rw [q] at h1
  cases h1
  exact ⟨_, List.getElem?_eq_getElem hi, h2⟩
theorem RDs.nil : RDs K W H [] [] := by simp [RDs]
theorem RDs.cons {d : D} {ds : List D} {x : V} {xs : List V} (h : RD K W H d x) (r : RDs K W H ds xs) : RDs K W H (d :: ds) (x :: xs) := by
  simp only [RDs]
  exact ⟨x, xs, rfl, h, r⟩
theorem RDs.app : ∀ {ds es : List D} {xs ys : List V}, RDs K W H ds xs → RDs K W H es ys → RDs K W H (ds ++ es) (xs ++ ys)
  | [], _, _, _, h, k => by simp only [RDs] at h; subst h; exact k
  | d :: ds, es, xs, ys, h, k => by
    simp only [RDs] at h
    obtain ⟨x, r, rfl, h1, h2⟩ := h
    exact RDs.cons h1 (RDs.app h2 k)
theorem RDs.take : ∀ {ds : List D} {xs : List V} (n : Nat), RDs K W H ds xs → RDs K W H (ds.take n) (xs.take n)
  | _, _, 0, _ => by simp [RDs]
  | [], _, n + 1, h => by simp only [RDs] at h; subst h; simp [RDs]
  | d :: ds, xs, n + 1, h => by
    simp only [RDs] at h
    obtain ⟨x, r, rfl, h1, h2⟩ := h
    exact RDs.cons h1 (RDs.take n h2)
theorem RDs.drop : ∀ {ds : List D} {xs : List V} (n : Nat), RDs K W H ds xs → RDs K W H (ds.drop n) (xs.drop n)
  | _, _, 0, h => h
  | [], _, n + 1, h => by simp only [RDs] at h; subst h; simp [RDs]
  | d :: ds, xs, n + 1, h => by
    simp only [RDs] at h
    obtain ⟨x, r, rfl, h1, h2⟩ := h
    exact RDs.drop n h2
theorem RDs.rep {ds : List D} {xs : List V} (h : RDs K W H ds xs) : ∀ n, RDs K W H (List.replicate n ds).flatten (List.replicate n xs).flatten
  | 0 => RDs.nil
  | n + 1 => by
    rw [List.replicate_succ, List.replicate_succ, List.flatten_cons, List.flatten_cons]
    exact RDs.app h (RDs.rep h n)
theorem RDs.cut {ds : List D} {xs : List V} (h : RDs K W H ds xs) (lo hi : Option Int) : RDs K W H (cut ds lo hi) (cutV xs lo hi) := by
  unfold Ev.cut L2.cutV
  rw [h.len]
  have e : ∀ n d o, HT.sIx n d o = Ev.sIx n d o := fun n d o => by cases o <;> rfl
  rw [e, e]
  exact RDs.take _ (RDs.drop _ h)
theorem ROs.own : ∀ {ds : List D} {xs : List V}, RDs K W H ds xs → ROs K W H (ds.map O.sh) xs []
  | [], _, h => by simp only [RDs] at h; subst h; simp [ROs]
  | d :: ds, xs, h => by
    simp only [RDs] at h
    obtain ⟨x, r, rfl, h1, h2⟩ := h
    simp only [List.map_cons, ROs]
    exact ⟨x, r, [], [], rfl, rfl, by simp only [RO, and_true]; exact h1, ROs.own h2⟩
theorem ROs.len : ∀ {ds : List O} {xs : List V} {A : List Addr}, ROs K W H ds xs A → xs.length = ds.length
  | [], _, _, h => by simp only [ROs] at h; rw [h.1]; rfl
  | d :: ds, xs, _, h => by
    simp only [ROs] at h
    obtain ⟨x, r, _, _, rfl, _, _, h2⟩ := h
    simp [ROs.len h2]
theorem ROs.shs : ∀ {os : List O} {xs : List V} {A : List Addr} {ds : List D}, ROs K W H os xs A → Ev.shs os = some ds → RDs K W H ds xs ∧ A = [] ∧ os = ds.map O.sh
  | [], _, _, _, h, e => by
    simp only [Ev.shs, Option.some.injEq] at e
    subst e
    simp only [ROs] at h
    exact ⟨by simpa [RDs] using h.1, h.2, rfl⟩
  | .sh d :: os, xs, A, ds, h, e => by
    simp only [Ev.shs, Option.map_eq_some_iff] at e
    obtain ⟨es, e1, rfl⟩ := e
    simp only [ROs] at h
    obtain ⟨x, r, B, C, rfl, rfl, h1, h2⟩ := h
    simp only [RO] at h1
    obtain ⟨h3, h4, h5⟩ := ROs.shs h2 e1
    exact ⟨RDs.cons h1.1 h3, by rw [h1.2, h4]; rfl, by rw [h5]; rfl⟩
  | .lst _ :: os, _, _, _, _, e => by simp only [Ev.shs] at e; cases e
  | .fd _ :: os, _, _, _, _, e => by simp only [Ev.shs] at e; cases e
  | .scr _ :: os, _, _, _, _, e => by simp only [Ev.shs] at e; cases e
  | .dic _ :: os, _, _, _, _, e => by simp only [Ev.shs] at e; cases e
  | .ins _ _ :: os, _, _, _, _, e => by simp only [Ev.shs] at e; cases e
theorem ROk.shk : ∀ {os : List (D × O)} {xs : List (Key × V)} {A : List Addr} {ds : List (D × D)}, ROk K W H os xs A → Ev.shk os = some ds → RDk K W H ds xs ∧ A = []
  | [], _, _, _, h, e => by
    simp only [Ev.shk, Option.some.injEq] at e
    subst e
    simp only [ROk] at h
    exact ⟨by simpa [RDk] using h.1, h.2⟩
  | (k, .sh d) :: os, xs, A, ds, h, e => by
    simp only [Ev.shk, Option.map_eq_some_iff] at e
    obtain ⟨es, e1, rfl⟩ := e
    simp only [ROk] at h
    obtain ⟨q, x, r, B, C, rfl, rfl, h0, h1, h2⟩ := h
    simp only [RO] at h1
    obtain ⟨h3, h4⟩ := ROk.shk h2 e1
    exact ⟨by simp only [RDk]; exact ⟨q, x, r, rfl, h0, h1.1, h3⟩, by rw [h1.2, h4]; rfl⟩
  | (_, .lst _) :: os, _, _, _, _, e => by simp only [Ev.shk] at e; cases e
  | (_, .fd _) :: os, _, _, _, _, e => by simp only [Ev.shk] at e; cases e
  | (_, .scr _) :: os, _, _, _, _, e => by simp only [Ev.shk] at e; cases e
  | (_, .dic _) :: os, _, _, _, _, e => by simp only [Ev.shk] at e; cases e
  | (_, .ins _ _) :: os, _, _, _, _, e => by simp only [Ev.shk] at e; cases e
theorem ROs.get : ∀ {os : List O} {xs : List V} {A : List Addr} {i : Nat} {o : O}, ROs K W H os xs A → os[i]? = some o → ∃ x B, xs[i]? = some x ∧ RO K W H o x B ∧ ∀ b ∈ B, b ∈ A
  | [], _, _, _, _, h, e => by simp at e
  | d :: ds, xs, A, 0, e, h, q => by
    simp only [ROs] at h
    obtain ⟨x, r, B, C, rfl, rfl, h1, h2⟩ := h
    simp at q
    subst q
    exact ⟨x, B, by simp, h1, fun b hb => List.mem_append_left _ hb⟩
  | d :: ds, xs, A, i + 1, e, h, q => by
    simp only [ROs] at h
    obtain ⟨x, r, B, C, rfl, rfl, h1, h2⟩ := h
    simp at q
    obtain ⟨y, D, h3, h4, h5⟩ := ROs.get h2 q
    exact ⟨y, D, by simpa using h3, h4, fun b hb => List.mem_append_right _ (h5 b hb)⟩
theorem ROs.app : ∀ {os ps : List O} {xs ys : List V} {A B : List Addr}, ROs K W H os xs A → ROs K W H ps ys B → ROs K W H (os ++ ps) (xs ++ ys) (A ++ B)
  | [], _, _, _, _, _, h, k => by
    simp only [ROs] at h
    obtain ⟨rfl, rfl⟩ := h
    exact k
  | o :: os, ps, xs, ys, A, B, h, k => by
    simp only [ROs] at h
    obtain ⟨x, r, B', C, rfl, rfl, h1, h2⟩ := h
    simp only [List.cons_append, ROs]
    exact ⟨x, r ++ ys, B', C ++ B, rfl, by rw [List.append_assoc], h1, ROs.app h2 k⟩
end
end Ev
set_option Elab.async false
set_option linter.all false
set_option maxRecDepth 100000
set_option maxHeartbeats 1000000
namespace Ev
open PySem PySem.Spec PyProof.Rows L2

/-! ### tuples whose object is known -/
theorem TupAt.seq {K : PySem.W.Frag} {H : Hp} {a : Addr} {xs : List V} (h : TupAt H a xs) : SqT K H a xs := let ⟨o, e, _⟩ := h; .inl (.inr ⟨o, e⟩)
theorem KTup.seq {K : PySem.W.Frag} {H : Hp} {a : Addr} {xs : List V} (h : KTup K a xs) : SqT K H a xs := let ⟨o, its, n, h1, h2, _, h3, h4, h5⟩ := h; .inr ⟨o, its, n, h1, h2, h3, h4, h5⟩
theorem KLst.seq {K : PySem.W.Frag} {H : Hp} {a : Addr} {xs : List V} (h : KLst K a xs) : SqL K H a xs := .inr h
abbrev tupO (its : List Value) : Obj := { cls := .type "tuple", data := .seq its.toArray }
def frzT (its : List Value) (xs : List V) : HO := .frz (tupO its) (.tup xs)
theorem laidT {X : Cx} {pins : List (Addr × Obj)} {σ : L2.St} {H : Hp} {s : Shared} {xs : List V} {its : List Value} {t' : Nat} (I : Inv X pins σ H s) (r : Vals xs its) (hz : xs.length ≤ sizeLine) :
    Inv X pins σ (upd H s.heap.objs.size (frzT its xs)) { s with heap := s.heap.push (tupO its), toks := t' } := by
  refine I.laid (fun b o e => Heap.get?_push_of_some _ e) (Nat.le_refl _) ?_
  exact ⟨Heap.get?_push_size s.heap rfl, hz, its, r, IsTup.new _ _⟩
/-- a new tuple -/
def NewT (Q : VK) (H : Hp) (xs : List V) : Prop := ∀ p o, H p = none → o.dict = none → Q (.ref p) (upd H p (.frz o (.tup xs)))
theorem NewT.at {X : Cx} {pins : List (Addr × Obj)} {σ : L2.St} {H : Hp} {s : Shared} {Q : VK} {xs : List V} {its : List Value} (I : Inv X pins σ H s) (r : Vals xs its) (hz : xs.length ≤ sizeLine) (q : NewT Q H xs) :
    EP X pins σ Q (.ref s.heap.objs.size) { s with heap := s.heap.push (tupO its) } :=
  ⟨.ref s.heap.objs.size, _, laidT (t' := s.toks) I r hz, rfl, q _ _ (I.hok.fresh (Nat.le_refl _)) rfl⟩
section
variable {X : Cx}
def tTupZ (t : TA) : TE := fun σ H Q => t σ H fun xs H1 => xs.length ≤ sizeLine ∧ NewT Q H1 xs
theorem pe_tupZ {es : List Expr} {t : TA} {x1} {pos : Pos} (h : PA X es t) : PE X (.Tuple es x1 pos) (tTupZ t) := by
  refine ⟨fun pins s σ H Q I hq => ?_⟩
  refine wpAny_Tuple_spliced (thn (h.run pos pins s σ H _ I hq) fun us s1 ⟨xs, H1, I1, r, z, q⟩ => ⟨by rw [← r.length]; exact z, ?_⟩)
  exact NewT.at I1 r z q
def rCatZ (K : PySem.W.Frag) : R2 := fun x y H Q => ∃ a b xs ys, x = .ref a ∧ y = .ref b ∧ SqT K H a xs ∧ SqT K H b ys ∧ xs.length + ys.length ≤ sizeLine ∧
  (xs = [] → Q (.ref b) H) ∧ (xs ≠ [] → ys = [] → Q (.ref a) H) ∧ (xs ≠ [] → ys ≠ [] → NewT Q H (xs ++ ys))
theorem op_catZ : OpR X (binaryOp .Add) (rCatZ X.K) := by
  intro pins s σ H x y v u Q I rx ry h
  obtain ⟨a, b, xs, ys, rfl, rfl, ha, hb, hz, q0, q1, q2⟩ := h
  cases rx
  cases ry
  obtain ⟨its, r1, p1, _⟩ := I.tuple ha
  obtain ⟨its2, r2, p2, _⟩ := I.tuple hb
  by_cases hx : xs = []
  · subst hx
    cases r1
    exact cat_tup0 p1 p2 ⟨.ref b, H, I, rfl, q0 rfl⟩
  · refine HT.cat_tup p1 p2 (fun z => hx (r1.nil_iff.mp z)) (fun z => ⟨.ref a, H, I, rfl, q1 hx (r2.nil_iff.mp z)⟩) (fun z => ?_) (by rw [← r1.length, ← r2.length]; exact hz)
    exact NewT.at I (r1.append r2) (by rw [List.length_append]; exact hz) (q2 hx fun w => z (r2.nil_iff.mpr w))
def rSlZ (K : PySem.W.Frag) : V → Option Int → Option Int → Hp → VK → Prop := fun x lo hi H Q => ∃ a xs, x = .ref a ∧ SqT K H a xs ∧
  (cutV xs lo hi = xs → Q (.ref a) H) ∧ NewT Q H (cutV xs lo hi)
theorem sl_tupZ : SlR X (rSlZ X.K) := by
  intro pins s σ H x v vl vu lo hi sl Q I rx hs pl pu h
  obtain ⟨a, xs, rfl, hx, q1, q2⟩ := h
  cases rx
  obtain ⟨its, r, ht, hz⟩ := I.tuple hx
  have hlen : its.toArray.size = xs.length := by rw [List.size_toArray]; exact r.length.symm
  refine ⟨"tuple", _, PyProof.Rows.slot_tuple_getitem.lookup, ht.typeIs, ?_⟩
  by_cases hw : HT.sIx xs.length 0 lo = 0 ∧ HT.sIx xs.length xs.length hi = xs.length
  · refine getItem_tuple_whole ht hs pl pu (by rw [hlen]; exact hw) ⟨.ref a, H, I, rfl, q1 ?_⟩
    unfold cutV
    rw [hw.1, hw.2]
    simp
  · refine HT.getItem_tuple_cut ht hs pl pu (by rw [hlen]; exact hw) ?_ (by rw [hlen]; exact hz)
    rw [hlen]
    exact NewT.at I ((r.drop (HT.sIx xs.length 0 lo)).take (HT.sIx xs.length xs.length hi - HT.sIx xs.length 0 lo)) (Nat.le_trans (cutV_length xs lo hi) hz) q2
theorem call_tupleZ : CallR X (.type "tuple") (fun xs H Q => ∃ p ys, xs = [.ref p] ∧ ((SqL X.K H p ys ∧ NewT Q H ys) ∨ (SqT X.K H p ys ∧ Q (.ref p) H))) := by
  intro pins s σ H xs us Q I r h
  obtain ⟨p, ys, rfl, h⟩ := h
  obtain ⟨u, rfl, rx⟩ := vals1 r
  cases rx
  rcases h with ⟨hq, q⟩ | ⟨hq, q⟩
  · obtain ⟨its, r', pl, hz⟩ := I.list hq
    have hlen := r'.length
    refine call_tuple_list pl.isList (fun h' kp => ?_) (by simp only [List.size_toArray] <;> omega)
    have I1 : Inv X pins σ H { s with heap := h' } := I.kept (t' := s.toks) kp
    exact NewT.at I1 r' hz q
  · obtain ⟨its, r', pl, hz⟩ := I.tuple hq
    exact call_tuple_same pl ⟨.ref p, H, I, rfl, q⟩
/-! t * k -/
open PySem in
theorem tuple_mul_any (l : Addr) (items : Array Value) (n : Nat) (dd : Option Addr) (sl : Array (Option Value)) (x : Int) (u : Tok) (h0 : 0 ≤ x) (h1 : x ≤ 1000) (h2 : items.size ≤ 1000) :
    Meets (Builtin.«tuple.__mul__» ⟨[.ref l, .int x u], []⟩) (fun _ R s => s.heap.get? l = some { cls := .type "tuple", dict := dd, data := .seq items n, slots := sl } ∧
      ((items.isEmpty || x == 1) = true → R (.ok (.ret (Value.ref l))) s) ∧
      ((items.isEmpty || x == 1) = false → R (.ok (.ret (Value.ref s.heap.objs.size))) { s with heap := s.heap.push { cls := Value.type "tuple", data := Data.seq (if x ≤ 0 then #[] else List.foldl (fun x1 x2 => x1 ++ x2) #[] (List.replicate x.toNat items)) }, toks := s.toks })) := by
  have c0 : (decide (x < -(2 ^ 63)) || decide (x ≥ 2 ^ 63)) = false := by
    rw [decide_eq_false (by omega), decide_eq_false (by omega)] <;> rfl
  cases c1 : (items.isEmpty || x == 1) with
  | true =>
    exact .of_wp fun prog w A R s h => by
      obtain ⟨hp, g, d, tk, os⟩ := s
      obtain ⟨hl, h, _⟩ := h
      have f1 := AutoSeq1.idx_int
      wp_walk using wpAny_loadPart' hl
      repeat (first
        | (refine wpAny_ite_false (decide_eq_false (by rw [c0]; exact Bool.false_ne_true)) ?_; wp_walk using wpAny_loadPart' hl)
        | (refine wpAny_ite_true (decide_eq_true c1) ?_; wp_walk using wpAny_loadPart' hl))
      exact ⟨_, rfl, h rfl⟩
  | false =>
    have hi : items.isEmpty = false := (Bool.or_eq_false_iff.mp c1).1
    by_cases hx : x ≤ 0
    · have c2 : (decide (x ≤ 0) || items.isEmpty) = true := by rw [decide_eq_true hx] <;> rfl
      exact .of_wp fun prog w A R s h => by
        obtain ⟨hp, g, d, tk, os⟩ := s
        obtain ⟨hl, _, h⟩ := h
        have f1 := AutoSeq1.idx_int
        wp_walk using wpAny_loadPart' hl
        repeat (first
          | (refine wpAny_ite_false (decide_eq_false (by rw [c0]; exact Bool.false_ne_true)) ?_; wp_walk using wpAny_loadPart' hl)
          | (refine wpAny_ite_false (decide_eq_false (by rw [c1]; exact Bool.false_ne_true)) ?_; wp_walk using wpAny_loadPart' hl)
          | (refine wpAny_ite_true (decide_eq_true c2) ?_; wp_walk using wpAny_loadPart' hl))
        have h := h rfl
        rw [if_pos hx] at h
        exact ⟨_, rfl, h⟩
    · have c2 : (decide (x ≤ 0) || items.isEmpty) = false := by rw [decide_eq_false hx, hi] <;> rfl
      have hm : ((items.size : Nat) : Int) * x ≤ 1000000 := by
        have a1 : ((items.size : Nat) : Int) * x ≤ 1000 * x := Int.mul_le_mul_of_nonneg_right (by omega) (by omega)
        omega
      have c4 : Builtin.Tuple.tupleTooMany (((items.size : Nat) : Int) * x) = false := by
        unfold Builtin.Tuple.tupleTooMany
        rw [sizeLine_eq]
        exact decide_eq_false (by omega)
      intro prog w A R s h
      obtain ⟨hl, _, h⟩ := h
      have h := h rfl
      rw [if_neg hx] at h
      have flen : (List.foldl (fun x1 x2 => x1 ++ x2) #[] (List.replicate x.toNat items)).size ≤ sizeLine := by
        have e : items = items.toList.toArray := by simp
        rw [e, size_rep, List.size_toArray, PyProof.Rows.lm_len_rep_flat, sizeLine_eq, Array.length_toList]
        have a1 : x.toNat * items.size ≤ 1000 * 1000 := Nat.mul_le_mul (by omega) h2
        omega
      exact tuple_mulW l items n dd sl x u c0 c1 c2 (by omega) c4 flen prog w A R s ⟨hl, h⟩
def rRepZ (K : PySem.W.Frag) : R2 := fun x y H Q => ∃ l k xs, x = .ref l ∧ y = .int k ∧ SqT K H l xs ∧ 0 ≤ k ∧ k ≤ 1000 ∧ xs.length ≤ 1000 ∧ ((List.replicate k.toNat xs).flatten = xs → Q (.ref l) H) ∧ NewT Q H (List.replicate k.toNat xs).flatten
theorem op_repZ : OpR X (binaryOp .Mult) (rRepZ X.K) := by
  intro pins s σ H x y v u Q I rx ry h
  obtain ⟨l, k, xs, rfl, rfl, hT, h1, h2, hz, q1, q⟩ := h
  cases rx
  obtain ⟨t, rfl⟩ := ry
  obtain ⟨its, r, ⟨⟨cls, dd, data, sl⟩, ho, hc, n, hd⟩, hs⟩ := I.tuple hT
  simp only at hc hd
  subst hc hd
  have hle : its.length = xs.length := r.length.symm
  refine wpAny_binaryOp_repeat_ref (T := "tuple") (U := "int") (by decide) ⟨_, ho, rfl⟩ (fun s' => typeIs_int s' k t) noFill_tuple_mul F.fills_int_mul F.slot_int_rmul repeat_tuple F.slot_int_index.lookup
    (call_meets F.slot_int_rmul (typeIs_int s k t) F.entry_int_rmul (F.args_int_rmul_2 _ _) (int_rmul_tuple k t l its.toArray n dd sl)
      ⟨ho, rfl, ⟨_, ho, rfl⟩, call_meets F.slot_tuple_mul ⟨_, ho, rfl⟩ F.entry_tuple_mul (F.args_tuple_mul_2 _ _) (tuple_mul_any l its.toArray n dd sl k t h1 h2 (by rw [List.size_toArray, hle]; exact hz)) ⟨ho, fun c => ?_, fun c => ?_⟩⟩)
  · refine ⟨.ref l, H, I, rfl, q1 ?_⟩
    rcases Bool.or_eq_true_iff.mp c with c | c
    · have e : its = [] := by simpa using c
      have e2 : xs = [] := r.nil_iff.mp e
      rw [e2]
      simp
    · have e : k = 1 := by simpa using c
      rw [e]
      simp [List.replicate]
  · have e : (if k ≤ 0 then #[] else List.foldl (fun x1 x2 => x1 ++ x2) #[] (List.replicate k.toNat its.toArray)) = (List.replicate k.toNat its).flatten.toArray := by
      by_cases hk : k ≤ 0
      · have : k.toNat = 0 := by omega
        rw [if_pos hk, this]
        rfl
      · rw [if_neg hk, size_rep]
    rw [e]
    refine NewT.at I (r.rep k.toNat) ?_ q
    rw [PyProof.Rows.lm_len_rep_flat, sizeLine_eq]
    have a1 : k.toNat * xs.length ≤ 1000 * 1000 := Nat.mul_le_mul (by omega) hz
    omega
/-! tuple(range(..)) -/
def tTupRgZ (te : L2.St → Hp → (Int → Int → Hp → Prop) → Prop) : TE := fun σ H Q => te σ H fun a b H1 => RgOk a b ∧ NewT Q H1 (rgV a b)
theorem pe_tupRgZ {e : Expr} {te : L2.St → Hp → (Int → Int → Hp → Prop) → Prop} {p pos : Pos} (hc : X.calm = true) (hg : Gl X "tuple") (hm : X.mg "tuple" = none) (he : PRg X e te) (na : starEach [e] X.env = (false, eval e X.env) :: starEach [] X.env := by rfl) : PE X (.Call (.Name "tuple" p) [e] [] pos) (tTupRgZ te) := by
  refine ⟨fun pins s σ H Q I h => ?_⟩
  refine Call_ (ld_blt I hg hm boot_tuple (PyProof.Rows.callWith_type1 (args_cons (thn (he pins s σ H _ I h) fun x s1 ⟨r, a, b, t, u, v, H1, ex, hr, I1, ok, q⟩ => args_nil ?_) na) na))
  subst ex
  obtain ⟨b1, b2, b3, b4, b5⟩ := ok
  refine call_tuple_range (n := (b - a).toNat) (I1.ok.hd hc) hr (small_one b1 b2 b3 b4) (rangeSize_nat a b) b5 fun h' tk acc hk hi => ?_
  have I2 : Inv X pins σ H1 { s1 with heap := h', toks := tk } := I1.kept hk
  have z := NewT.at (its := acc.toList) I2 (vals_rg hi) (by rw [rgV_length, sizeLine_eq]; omega) q
  rw [show tupO acc.toList = { cls := .type "tuple", data := .seq acc } by simp] at z
  exact z
end
end Ev
set_option Elab.async false
set_option linter.all false
set_option maxRecDepth 100000
set_option maxHeartbeats 1000000
namespace Ev
open PySem PySem.Spec PyProof.Rows L2

/-! ### values as the library's data -/
mutual
def toPD : D → PyData
  | .non => .none
  | .bl b => .bool b
  | .int i => .int i
  | .str s => .str (Str.ofString s)
  | .tup xs => .tuple (toPDs xs)
  | .lst xs => .list (toPDs xs)
def toPDs : List D → List PyData
  | [] => []
  | x :: xs => toPD x :: toPDs xs
end
theorem toPDs_map : ∀ ds, toPDs ds = ds.map toPD
  | [] => by simp [toPDs]
  | d :: ds => by simp [toPDs, toPDs_map ds]
theorem ofString_inj {s t : String} (h : Str.ofString s = Str.ofString t) : s = t := by
  rw [Str.ofString_eq_toList, Str.ofString_eq_toList] at h
  have h1 : (s.toList.map Char.toNat) = (t.toList.map Char.toNat) := by
    have := congrArg (fun z : Str => z.cps.toList) h
    simpa using this
  have h2 : ∀ (a b : List Char), a.map Char.toNat = b.map Char.toNat → a = b := by
    intro a
    induction a with
    | nil => intro b e; cases b with
      | nil => rfl
      | cons _ _ => simp at e
    | cons x r ih =>
      intro b e
      cases b with
      | nil => simp at e
      | cons y q =>
        simp only [List.map_cons, List.cons.injEq] at e
        have exy : x = y := by
          apply Char.ext
          apply UInt32.toNat_inj.mp
          exact e.1
        rw [exy, ih q e.2]
  have := h2 _ _ h1
  exact String.toList_inj.mp this
theorem ofString_beq (s t : String) : (Str.ofString s == Str.ofString t) = (s == t) := by
  rw [Bool.eq_iff_iff]
  simp only [beq_iff_eq]
  exact ⟨ofString_inj, fun e => by rw [e]⟩
mutual
theorem eqv_pd : ∀ a b : D, PyData.eqv (toPD a) (toPD b) = D.eqv a b
  | .non, b => by cases b <;> simp [toPD, PyData.eqv, D.eqv]
  | .bl x, b => by cases b <;> simp [toPD, PyData.eqv, D.eqv]
  | .int x, b => by cases b <;> simp [toPD, PyData.eqv, D.eqv]
  | .str x, b => by
    cases b <;> simp only [toPD, PyData.eqv, D.eqv]
    exact ofString_beq _ _
  | .tup xs, b => by
    cases b <;> simp only [toPD, PyData.eqv, D.eqv]
    exact eqv_pds xs _
  | .lst xs, b => by
    cases b <;> simp only [toPD, PyData.eqv, D.eqv]
    exact eqv_pds xs _
theorem eqv_pds : ∀ xs ys : List D, PyData.eqvAll (toPDs xs) (toPDs ys) = D.eqvs xs ys
  | [], [] => by simp [toPDs, PyData.eqvAll, D.eqvs]
  | [], _ :: _ => by simp [toPDs, PyData.eqvAll, D.eqvs]
  | _ :: _, [] => by simp [toPDs, PyData.eqvAll, D.eqvs]
  | x :: xs, y :: ys => by
    simp only [toPDs, PyData.eqvAll, D.eqvs]
    rw [eqv_pd x y, eqv_pds xs ys]
end
theorem strOk_of (s : String) : PyData.strOk (Str.ofString s) = true := by
  unfold PyData.strOk
  rw [Str.ofString_eq_toList]
  rw [Array.all_eq_true_iff_forall_mem]
  intro x hx
  simp only [List.mem_toArray, List.mem_map] at hx
  obtain ⟨c, _, rfl⟩ := hx
  simp only [decide_eq_true_eq]
  have h := c.valid
  simp only [UInt32.isValidChar, Nat.isValidChar] at h
  show c.val.toNat < _
  omega
mutual
theorem lay_pd : ∀ a : D, (toPD a).canLay0 = true
  | .non => by simp [toPD, PyData.canLay0]
  | .bl x => by simp [toPD, PyData.canLay0]
  | .int x => by simp [toPD, PyData.canLay0]
  | .str x => by simp only [toPD, PyData.canLay0]; exact strOk_of x
  | .tup xs => by simp only [toPD, PyData.canLay0]; exact lay_pds xs
  | .lst xs => by simp only [toPD, PyData.canLay0]; exact lay_pds xs
theorem lay_pds : ∀ xs : List D, PyData.canLayAll0 (toPDs xs) = true
  | [] => by simp [toPDs, PyData.canLayAll0]
  | x :: xs => by simp only [toPDs, PyData.canLayAll0, lay_pd x, lay_pds xs, Bool.and_self]
end
mutual
theorem depth_pd : ∀ a : D, (toPD a).depth = a.depth
  | .non => by simp [toPD, PyData.depth, D.depth]
  | .bl x => by simp [toPD, PyData.depth, D.depth]
  | .int x => by simp [toPD, PyData.depth, D.depth]
  | .str x => by simp [toPD, PyData.depth, D.depth]
  | .tup xs => by simp only [toPD, PyData.depth, D.depth]; rw [depth_pds xs] <;> omega
  | .lst xs => by simp only [toPD, PyData.depth, D.depth]; rw [depth_pds xs] <;> omega
theorem depth_pds : ∀ xs : List D, PyData.depthAll (toPDs xs) = D.depths xs
  | [] => by simp [toPDs, PyData.depthAll, D.depths]
  | x :: xs => by simp only [toPDs, PyData.depthAll, D.depths]; rw [depth_pd x, depth_pds xs]
end

/-! ### a value that is looked at -/
section
variable {K : PySem.W.Frag} {W : Addr → Prop} {H : Hp}
/-- as RD, but a list may be someone's own -/
def RR (K : PySem.W.Frag) (W : Addr → Prop) (H : Hp) : D → V → Prop
  | .lst ds, v => ∃ a xs, v = .ref a ∧ H a = some (.lst xs) ∧ RDs K W H ds xs
  | d, v => RD K W H d v
theorem RD.rr {d : D} {v : V} (h : RD K W H d v) : RR K W H d v := by
  cases d with
  | lst ds =>
    simp only [RD] at h
    obtain ⟨a, xs, e, _, q, r⟩ := h
    exact ⟨a, xs, e, q, r⟩
  | _ => exact h
theorem RO.rd {o : O} {d : D} {v : V} {A : List Addr} (h : RO K W H o v A) (e : rd o = some d) : RR K W H d v := by
  cases o with
  | sh x =>
    simp only [Ev.rd, Option.some.injEq] at e
    subst e
    simp only [RO] at h
    exact h.1.rr
  | lst os =>
    simp only [Ev.rd, Option.map_eq_some_iff] at e
    obtain ⟨ds, e1, rfl⟩ := e
    simp only [RO] at h
    obtain ⟨a, xs, B, rfl, rfl, q, r⟩ := h
    exact ⟨a, xs, rfl, q, (r.shs e1).1⟩
  | _ => simp [Ev.rd] at e
mutual
theorem RD.dp : ∀ {d : D} {v : V}, RD K W H d v → Dp K H v (toPD d)
  | .non, v, h => by simp only [RD] at h; subst h; simp only [toPD]; exact .non
  | .bl b, v, h => by simp only [RD] at h; subst h; simp only [toPD]; exact .bl b
  | .int i, v, h => by simp only [RD] at h; subst h; simp only [toPD]; exact .int i
  | .str s, v, h => by simp only [RD] at h; subst h; simp only [toPD]; exact .str _
  | .tup ds, v, h => by
    simp only [RD] at h
    obtain ⟨a, xs, rfl, h1, h2⟩ := h
    simp only [toPD]
    refine .tup ?_ (RDs.dp h2)
    rcases h1 with ⟨_, q⟩ | q
    · exact q.seq
    · exact q.seq
  | .lst ds, v, h => by
    simp only [RD] at h
    obtain ⟨a, xs, rfl, _, q, h2⟩ := h
    simp only [toPD]
    exact .lst (SqL.of q) (RDs.dp h2)
theorem RDs.dp : ∀ {ds : List D} {xs : List V}, RDs K W H ds xs → DpAll K H xs (toPDs ds)
  | [], _, h => by simp only [RDs] at h; subst h; simp only [toPDs]; exact .nil
  | d :: ds, xs, h => by
    simp only [RDs] at h
    obtain ⟨x, r, rfl, h1, h2⟩ := h
    simp only [toPDs]
    exact .cons (RD.dp h1) (RDs.dp h2)
end
theorem RR.dp {d : D} {v : V} (h : RR K W H d v) : Dp K H v (toPD d) := by
  cases d with
  | lst ds =>
    obtain ⟨a, xs, rfl, q, r⟩ := h
    simp only [toPD]
    exact .lst (SqL.of q) r.dp
  | non => exact RD.dp (W := W) h
  | bl _ => exact RD.dp (W := W) h
  | int _ => exact RD.dp (W := W) h
  | str _ => exact RD.dp (W := W) h
  | tup _ => exact RD.dp (W := W) h
theorem RR.int {i : Int} {v : V} (h : RR K W H (.int i) v) : v = .int i := by simpa [RR, RD] using h
theorem RR.tup {ds : List D} {v : V} (h : RR K W H (.tup ds) v) : ∃ a xs, v = .ref a ∧ ((W a ∧ TupAt H a xs) ∨ KTup K a xs) ∧ SqT K H a xs ∧ RDs K W H ds xs := by
  simp only [RR, RD] at h
  obtain ⟨a, xs, e, h1, h2⟩ := h
  refine ⟨a, xs, e, h1, ?_, h2⟩
  rcases h1 with ⟨_, q⟩ | q
  · exact q.seq
  · exact q.seq
end

/-! ### what an operation gives: something new, or something shared -/
section
variable {K : PySem.W.Frag} {W : Addr → Prop} {H : Hp} {Q : VK}
abbrev Dom (W : Addr → Prop) (H : Hp) : Prop := ∀ a, W a → H a ≠ none
structure Ext (K : PySem.W.Frag) (W : Addr → Prop) (H : Hp) (o : O) (v : V) (W' : Addr → Prop) (H' : Hp) (B : List Addr) : Prop where
  w : ∀ a, W a → W' a
  w2 : ∀ a, W' a → W a ∨ H a = none
  same : ∀ a u, H a = some u → H' a = some u
  dom : Dom W' H'
  ro : RO K W' H' o v B
  nd : B.Nodup
  sep : ∀ b ∈ B, ¬ W' b ∧ H b = none
def To (K : PySem.W.Frag) (W : Addr → Prop) (H : Hp) (o : O) (Q : VK) : Prop := ∀ v W' H' B, Ext K W H o v W' H' B → Q v H'
theorem To.sh {d : D} {v : V} (q : To K W H (.sh d) Q) (dm : Dom W H) (h : RD K W H d v) : Q v H :=
  q v W H [] ⟨fun _ x => x, fun _ x => .inl x, fun _ _ x => x, dm, by simp only [RO, and_true]; exact h, by simp, fun _ z => absurd z (by simp)⟩
theorem To.bl {b : Bool} (q : To K W H (.sh (.bl b)) Q) (dm : Dom W H) : Q (.bl b) H := q.sh dm (by simp [RD])
theorem To.int {b : Int} (q : To K W H (.sh (.int b)) Q) (dm : Dom W H) : Q (.int b) H := q.sh dm (by simp [RD])
theorem upd_keep {p : Addr} {u : HO} (hp : H p = none) : ∀ a o, H a = some o → upd H p u a = some o := fun a o e => by
  rw [upd_ne (fun z => by rw [z, hp] at e; cases e)]
  exact e
theorem To.tup {ds : List D} {xs : List V} (q : To K W H (.sh (.tup ds)) Q) (dm : Dom W H) (h : RDs K W H ds xs) : NewT Q H xs := by
  intro p o hp hd
  have hw : ∀ a, W a → a ≠ p := fun a ha e => dm a ha (by rw [e, hp])
  refine q (.ref p) (fun a => W a ∨ a = p) _ [] ⟨fun _ x => .inl x, fun a x => ?_, upd_keep hp, fun a x => ?_, ?_, by simp, fun _ z => absurd z (by simp)⟩
  · rcases x with x | rfl
    · exact .inl x
    · exact .inr hp
  · rcases x with x | rfl
    · rw [upd_ne (hw a x)]; exact dm a x
    · rw [upd_same]; simp
  · simp only [RO, and_true]
    simp only [RD]
    exact ⟨p, xs, rfl, .inl ⟨.inr rfl, o, upd_same, hd⟩, RDs.mono (fun _ x => .inl x) (fun a u _ e => upd_keep hp a u e) h⟩
theorem To.own {ds : List D} {xs : List V} {p : Addr} (q : To K W H (own ds) Q) (dm : Dom W H) (h : RDs K W H ds xs) (hp : H p = none) : Q (.ref p) (upd H p (.lst xs)) := by
  have hw : ∀ a, W a → a ≠ p := fun a ha e => dm a ha (by rw [e, hp])
  refine q (.ref p) W _ [p] ⟨fun _ x => x, fun a x => .inl x, upd_keep hp, fun a x => ?_, ?_, by simp, fun b z => ?_⟩
  · rw [upd_ne (hw a x)]; exact dm a x
  · simp only [Ev.own, RO]
    exact ⟨p, xs, [], rfl, rfl, upd_same, ROs.own (RDs.mono (fun _ x => x) (fun a u _ e => upd_keep hp a u e) h)⟩
  · simp only [List.mem_singleton] at z
    subst z
    exact ⟨fun x => hw _ x rfl, hp⟩
end

/-! ### two things -/
section
variable {X : L2.Cx}
/-- the reading of a two-place operation -/
def RB (K : PySem.W.Frag) (op : B2) : R2 := fun x y H Q => ∃ W o1 o2 o A1 A2, Dom W H ∧ RO K W H o1 x A1 ∧ RO K W H o2 y A2 ∧ binO op o1 o2 = some o ∧ To K W H o Q
theorem rb_arith {op : B2} (h1 : op ≠ .inn) (h2 : op ≠ .nin) (h3 : op ≠ .get1) {o1 o2 o : O} (h : binO op o1 o2 = some o) : ∃ a b, rd o1 = some a ∧ rd o2 = some b ∧ bin2 op a b = some o := by
  have e : binO op o1 o2 = plain op o1 o2 := by
    cases op <;> first | rfl | exact absurd rfl h1 | exact absurd rfl h2 | exact absurd rfl h3
  rw [e] at h
  unfold plain at h
  split at h
  · rename_i a b e1 e2
    exact ⟨a, b, e1, e2, h⟩
  · cases h
theorem RB.get {K : PySem.W.Frag} {op : B2} {x y : V} {H : Hp} {Q : VK} (h1 : op ≠ .inn) (h2 : op ≠ .nin) (h3 : op ≠ .get1) (h : RB K op x y H Q) :
    ∃ W a b o, Dom W H ∧ RR K W H a x ∧ RR K W H b y ∧ bin2 op a b = some o ∧ To K W H o Q := by
  obtain ⟨W, o1, o2, o, A1, A2, dm, r1, r2, e, q⟩ := h
  obtain ⟨a, b, e1, e2, e3⟩ := rb_arith h1 h2 h3 e
  exact ⟨W, a, b, o, dm, r1.rd e1, r2.rd e2, e3, q⟩
theorem cap_eq : cap = sizeLine := by rw [sizeLine_eq]; rfl
theorem or_add : OpR X (binaryOp .Add) (RB X.K .add) := by
  intro pins s σ H x y v u Q I rx ry h
  obtain ⟨W, a, b, o, dm, r1, r2, e, q⟩ := RB.get (by decide) (by decide) (by decide) h
  replace e : addD a b = some o := e
  unfold addD at e
  split at e
  · rename_i i j
    simp only [Option.some.injEq] at e
    subst e
    have e1 := r1.int
    have e2 := r2.int
    subst e1
    subst e2
    exact op_add pins s σ H _ _ v u Q I rx ry ⟨i, j, rfl, rfl, q.int dm⟩
  · rename_i xs ys
    split at e
    · rename_i hz
      simp only [Option.some.injEq] at e
      subst e
      obtain ⟨a, as, rfl, wa, sa, ra⟩ := r1.tup
      obtain ⟨b, bs, rfl, wb, sb, rb⟩ := r2.tup
      refine op_catZ pins s σ H _ _ v u Q I rx ry ⟨a, b, as, bs, rfl, rfl, sa, sb, by rw [ra.len, rb.len, ← cap_eq]; exact hz, fun z => ?_, fun _ z => ?_, fun _ _ => q.tup dm (ra.app rb)⟩
      · subst z
        have : xs = [] := by have := ra.len; simpa using this.symm
        subst this
        exact q.sh dm (by simp only [RD, List.nil_append]; exact ⟨b, bs, rfl, wb, rb⟩)
      · subst z
        have : ys = [] := by have := rb.len; simpa using this.symm
        subst this
        exact q.sh dm (by simp only [RD, List.append_nil]; exact ⟨a, as, rfl, wa, ra⟩)
    · cases e
  · rename_i xs ys
    split at e
    · rename_i hz
      simp only [Option.some.injEq] at e
      subst e
      obtain ⟨a, as, rfl, ha, ra⟩ := r1
      obtain ⟨b, bs, rfl, hb, rb⟩ := r2
      exact op_cat pins s σ H _ _ v u Q I rx ry ⟨a, b, as, bs, rfl, rfl, ha, hb, by rw [ra.len, rb.len, ← cap_eq]; exact hz, fun p hp => q.own dm (ra.app rb) hp⟩
    · cases e
  · cases e
/-- two ints -/
theorem RB.ints {K : PySem.W.Frag} {op : B2} {f : Int → Int → Option D} {x y : V} {H : Hp} {Q : VK} (h1 : op ≠ .inn) (h2 : op ≠ .nin) (h3 : op ≠ .get1) (hb : ∀ a b, bin2 op a b = intsD f a b) (h : RB K op x y H Q) :
    ∃ i j d W, x = .int i ∧ y = .int j ∧ f i j = some d ∧ Dom W H ∧ To K W H (.sh d) Q := by
  obtain ⟨W, a, b, o, dm, r1, r2, e, q⟩ := RB.get h1 h2 h3 h
  rw [hb] at e
  unfold intsD at e
  split at e
  · rename_i i j
    simp only [Option.map_eq_some_iff] at e
    obtain ⟨d, e, rfl⟩ := e
    exact ⟨i, j, d, W, r1.int, r2.int, e, dm, q⟩
  · cases e
end
end Ev
set_option Elab.async false
set_option linter.all false
set_option maxRecDepth 100000
set_option maxHeartbeats 1000000
namespace Ev
open PySem PySem.Spec PyProof.Rows L2
section
variable {X : L2.Cx}
theorem or_sub : OpR X (binaryOp .Sub) (RB X.K .sub) := by
  intro pins s σ H x y v u Q I rx ry h
  obtain ⟨i, j, d, W, rfl, rfl, e, dm, q⟩ := RB.ints (by decide) (by decide) (by decide) (fun _ _ => rfl) h
  cases e
  exact op_sub pins s σ H _ _ v u Q I rx ry ⟨i, j, rfl, rfl, q.int dm⟩
theorem or_fdiv : OpR X (binaryOp .FloorDiv) (RB X.K .fdiv) := by
  intro pins s σ H x y v u Q I rx ry h
  obtain ⟨i, j, d, W, rfl, rfl, e, dm, q⟩ := RB.ints (by decide) (by decide) (by decide) (fun _ _ => rfl) h
  split at e
  · rename_i hc
    cases e
    exact op_fdiv pins s σ H _ _ v u Q I rx ry ⟨i, j, rfl, rfl, hc, q.int dm⟩
  · cases e
theorem or_mod : OpR X (binaryOp .Mod) (RB X.K .mod) := by
  intro pins s σ H x y v u Q I rx ry h
  obtain ⟨i, j, d, W, rfl, rfl, e, dm, q⟩ := RB.ints (by decide) (by decide) (by decide) (fun _ _ => rfl) h
  split at e
  · rename_i hc
    cases e
    exact op_mod pins s σ H _ _ v u Q I rx ry ⟨i, j, rfl, rfl, hc, q.int dm⟩
  · cases e
theorem or_pow : OpR X (binaryOp .Pow) (RB X.K .pow) := by
  intro pins s σ H x y v u Q I rx ry h
  obtain ⟨i, j, d, W, rfl, rfl, e, dm, q⟩ := RB.ints (by decide) (by decide) (by decide) (fun _ _ => rfl) h
  split at e
  · rename_i hc
    cases e
    exact op_pow pins s σ H _ _ v u Q I rx ry ⟨i, j, rfl, rfl, hc, q.int dm⟩
  · cases e
theorem or_lt : OpR X (compareOp .Lt) (RB X.K .lt) := by
  intro pins s σ H x y v u Q I rx ry h
  obtain ⟨i, j, d, W, rfl, rfl, e, dm, q⟩ := RB.ints (by decide) (by decide) (by decide) (fun _ _ => rfl) h
  cases e
  exact op_lt pins s σ H _ _ v u Q I rx ry ⟨i, j, rfl, rfl, q.bl dm⟩
theorem or_le : OpR X (compareOp .LtE) (RB X.K .le) := by
  intro pins s σ H x y v u Q I rx ry h
  obtain ⟨i, j, d, W, rfl, rfl, e, dm, q⟩ := RB.ints (by decide) (by decide) (by decide) (fun _ _ => rfl) h
  cases e
  exact op_le pins s σ H _ _ v u Q I rx ry ⟨i, j, rfl, rfl, q.bl dm⟩
theorem or_gt : OpR X (compareOp .Gt) (RB X.K .gt) := by
  intro pins s σ H x y v u Q I rx ry h
  obtain ⟨i, j, d, W, rfl, rfl, e, dm, q⟩ := RB.ints (by decide) (by decide) (by decide) (fun _ _ => rfl) h
  cases e
  exact op_gt pins s σ H _ _ v u Q I rx ry ⟨i, j, rfl, rfl, q.bl dm⟩
theorem or_ge : OpR X (compareOp .GtE) (RB X.K .ge) := by
  intro pins s σ H x y v u Q I rx ry h
  obtain ⟨i, j, d, W, rfl, rfl, e, dm, q⟩ := RB.ints (by decide) (by decide) (by decide) (fun _ _ => rfl) h
  cases e
  exact op_ge pins s σ H _ _ v u Q I rx ry ⟨i, j, rfl, rfl, q.bl dm⟩
theorem mulOk_c {i j : Int} (h : mulOk i j = true) : CMul i j := by
  rw [mulOk_eq] at h
  unfold mulOk0 at h
  simp only [Bool.or_eq_true, Bool.and_eq_true, decide_eq_true_eq] at h
  exact h
theorem or_mul : OpR X (binaryOp .Mult) (RB X.K .mul) := by
  intro pins s σ H x y v u Q I rx ry h
  obtain ⟨W, a, b, o, dm, r1, r2, e, q⟩ := RB.get (by decide) (by decide) (by decide) h
  replace e : mulD a b = some o := e
  unfold mulD at e
  split at e
  · rename_i i j
    split at e
    · rename_i hc
      simp only [Option.some.injEq] at e
      subst e
      have e1 := r1.int
      have e2 := r2.int
      subst e1
      subst e2
      exact op_mul pins s σ H _ _ v u Q I rx ry ⟨i, j, rfl, rfl, mulOk_c hc, q.int dm⟩
    · cases e
  · rename_i xs k
    split at e
    · rename_i hc
      rw [repL_eq] at hc
      replace hc := of_decide_eq_true hc
      simp only [Option.some.injEq] at e
      subst e
      have e2 := r2.int
      subst e2
      obtain ⟨a, as, rfl, ha, ra⟩ := r1
      exact op_rep pins s σ H _ _ v u Q I rx ry ⟨a, k, as, rfl, rfl, ha, by omega, by omega, by rw [ra.len, ← cap_eq]; exact hc.2.2, fun p hp => q.own dm (ra.rep _) hp⟩
    · cases e
  · rename_i xs k
    split at e
    · rename_i hc
      rw [repT_eq] at hc
      replace hc := of_decide_eq_true hc
      simp only [Option.some.injEq] at e
      subst e
      have e2 := r2.int
      subst e2
      obtain ⟨a, as, rfl, wa, sa, ra⟩ := r1.tup
      refine op_repZ pins s σ H _ _ v u Q I rx ry ⟨a, k, as, rfl, rfl, sa, hc.1, hc.2.1, by rw [ra.len]; exact hc.2.2, fun z => ?_, q.tup dm (ra.rep _)⟩
      refine q.sh dm ?_
      simp only [RD]
      exact ⟨a, as, rfl, wa, by have := ra.rep k.toNat; rw [z] at this; exact this⟩
    · cases e
  · cases e
theorem deep_ok {d e : D} (h : deep d e = true) : min (toPD d).depth (toPD e).depth ≤ 64 := by
  rw [depth_pd, depth_pd]
  unfold deep at h
  exact of_decide_eq_true h
theorem or_eq (hu : X.A.units + 70 < cLine) : OpR X (compareOp .Eq) (RB X.K .eq) := by
  intro pins s σ H x y v u Q I rx ry h
  obtain ⟨W, a, b, o, dm, r1, r2, e, q⟩ := RB.get (by decide) (by decide) (by decide) h
  replace e : (if deep a b then some (O.sh (.bl (D.eqv a b))) else none) = some o := e
  split at e
  · rename_i hc
    simp only [Option.some.injEq] at e
    subst e
    obtain ⟨as, p1⟩ := Dp.reads I _ x v r1.dp rx
    obtain ⟨bs, p2⟩ := Dp.reads I _ y u r2.dp ry
    have hd := deep_ok hc
    refine SeqAt.compareEq_reads p1 p2 (lay_pd a) (lay_pd b) (by omega) ⟨.bl _, H, I, rfl, ?_⟩
    rw [eqv_pd]
    exact q.bl dm
  · cases e
theorem or_ne (hu : X.A.units + 70 < cLine) : OpR X (compareOp .NotEq) (RB X.K .ne) := by
  intro pins s σ H x y v u Q I rx ry h
  obtain ⟨W, a, b, o, dm, r1, r2, e, q⟩ := RB.get (by decide) (by decide) (by decide) h
  replace e : (if deep a b then some (O.sh (.bl (!D.eqv a b))) else none) = some o := e
  split at e
  · rename_i hc
    simp only [Option.some.injEq] at e
    subst e
    obtain ⟨as, p1⟩ := Dp.reads I _ x v r1.dp rx
    obtain ⟨bs, p2⟩ := Dp.reads I _ y u r2.dp ry
    have hd := deep_ok hc
    refine SeqAt.compareNe_reads p1 p2 (lay_pd a) (lay_pd b) (by omega) ⟨.bl _, H, I, rfl, ?_⟩
    rw [eqv_pd]
    exact q.bl dm
  · cases e
/-! in -/
theorem any_pd (x : D) : ∀ ys : List D, ((toPDs ys).any fun y => PyData.eqv y (toPD x)) = anyEq x ys
  | [] => by simp [toPDs, anyEq]
  | y :: ys => by
    have ih := any_pd x ys
    simp only [toPDs, List.any_cons, eqv_pd]
    rw [ih]
    simp [anyEq]
theorem deep_in {x : D} {ys : List D} (h : deep (.lst ys) x = true) : min (PyData.depthAll (toPDs ys)) (toPD x).depth ≤ 64 := by
  rw [depth_pds, depth_pd]
  unfold deep at h
  have := of_decide_eq_true h
  simp only [D.depth] at this
  omega
theorem findK_key {α β : Type} {F : α → β → Prop} : ∀ {kvs : List (D × α)} {es : List (Key × β)} {k : D} {q : Key},
    Paired (fun p e => keyD p.1 = some e.1 ∧ F p.2 e.2) kvs es → keyD k = some q →
    (findK k kvs = none ∧ (es.find? fun kv => decide (kv.1 = q)).map (·.2) = none) ∨ ∃ a b, findK k kvs = some a ∧ (es.find? fun kv => decide (kv.1 = q)).map (·.2) = some b ∧ F a b
  | _, _, _, _, .nil, _ => .inl ⟨rfl, rfl⟩
  | (j, a) :: kvs, (p, b) :: es, k, q, .cons h r, hk => by
    obtain ⟨hj, hf⟩ := h
    have key : D.eqv j k = decide (p = q) := by
      cases j with
      | int i =>
        simp only [keyD, Option.some.injEq] at hj
        subst hj
        cases k with
        | int i2 =>
          simp only [keyD, Option.some.injEq] at hk
          subst hk
          simp only [D.eqv]
          exact (key_ll _ _).symm
        | str s2 =>
          simp only [keyD, Option.some.injEq] at hk
          subst hk
          simp only [D.eqv]
          exact (key_lr _ _).symm
        | _ => simp [keyD] at hk
      | str s1 =>
        simp only [keyD, Option.some.injEq] at hj
        subst hj
        cases k with
        | int i2 =>
          simp only [keyD, Option.some.injEq] at hk
          subst hk
          simp only [D.eqv]
          exact (key_rl _ _).symm
        | str s2 =>
          simp only [keyD, Option.some.injEq] at hk
          subst hk
          simp only [D.eqv]
          rw [key_rr, ← ofString_beq, Bool.beq_eq_decide_eq]
        | _ => simp [keyD] at hk
      | _ => simp [keyD] at hj
    unfold findK
    rw [List.find?_cons, key]
    by_cases h2 : p = q
    · simp only [decide_eq_true h2, if_true]
      exact .inr ⟨a, b, rfl, rfl, hf⟩
    · simp only [decide_eq_false h2, Bool.false_eq_true, if_false]
      exact findK_key r hk
theorem keyOk_key {k : D} (h : keyOk k = true) : ∃ q, keyD k = some q := by
  cases k <;> first | exact ⟨_, rfl⟩ | cases h
theorem RDk.pair {K : PySem.W.Frag} {W : Addr → Prop} {H : Hp} : ∀ {kvs : List (D × D)} {es : List (Key × V)}, RDk K W H kvs es → Paired (fun p e => keyD p.1 = some e.1 ∧ RD K W H p.2 e.2) kvs es
  | [], _, h => by simp only [RDk] at h; subst h; exact .nil
  | (k, d) :: kvs, es, h => by
    simp only [RDk] at h
    obtain ⟨q, x, r, rfl, h0, h1, h2⟩ := h
    exact .cons ⟨h0, h1⟩ (RDk.pair h2)
theorem ROk.pair {K : PySem.W.Frag} {W : Addr → Prop} {H : Hp} : ∀ {kvs : List (D × O)} {es : List (Key × V)} {A : List Addr}, ROk K W H kvs es A → Paired (fun p e => keyD p.1 = some e.1 ∧ ∃ B, RO K W H p.2 e.2 B ∧ ∀ b ∈ B, b ∈ A) kvs es
  | [], _, _, h => by simp only [ROk] at h; rw [h.1]; exact .nil
  | (k, d) :: kvs, es, A, h => by
    simp only [ROk] at h
    obtain ⟨q, x, r, B, C, rfl, rfl, h0, h1, h2⟩ := h
    refine .cons ⟨h0, B, h1, fun b hb => List.mem_append_left _ hb⟩ (Paired.mapP (ROk.pair h2) fun p e z => ?_)
    obtain ⟨z1, D', z2, z3⟩ := z
    exact ⟨z1, D', z2, fun b hb => List.mem_append_right _ (z3 b hb)⟩
theorem keyD_V {K : PySem.W.Frag} {W : Addr → Prop} {H : Hp} {k : D} {q : Key} {v : V} (h : keyD k = some q) (r : RD K W H k v) : v = kV q := by
  cases k with
  | int i => simp only [keyD, Option.some.injEq] at h; subst h; simpa [RD, kV] using r
  | str i => simp only [keyD, Option.some.injEq] at h; subst h; simpa [RD, kV] using r
  | _ => simp [keyD] at h
/-- the place of a dict, and what it holds at a key -/
theorem dict_at {K : PySem.W.Frag} {W : Addr → Prop} {H : Hp} {o : O} {v : V} {A : List Addr} {k : D} {vk : V} {kvs : List (D × O)} (hr : RO K W H o v A) (hk : keyOk k = true) (rk : RD K W H k vk)
    (ho : o = .dic kvs ∨ ∃ ds, o = .fd ds ∧ kvs = ds.map fun p => (p.1, O.sh p.2)) :
    ∃ a es, v = .ref a ∧ H a = some (.dK es) ∧ ((findK k kvs = none ∧ DGet H a vk none) ∨ ∃ p y B, findK k kvs = some p ∧ DGet H a vk (some y) ∧ RO K W H p y B ∧ ∀ b ∈ B, b ∈ A) := by
  obtain ⟨q, hq⟩ := keyOk_key hk
  have hv := keyD_V hq rk
  subst hv
  rcases ho with rfl | ⟨ds, rfl, rfl⟩
  · simp only [RO] at hr
    obtain ⟨a, es, B, rfl, rfl, ha, h2⟩ := hr
    refine ⟨a, es, rfl, ha, ?_⟩
    rcases findK_key (F := fun o y => ∃ B', RO K W H o y B' ∧ ∀ b ∈ B', b ∈ B) (ROk.pair h2) hq with ⟨h3, h4⟩ | ⟨p, y, h3, h4, B', h5, h6⟩
    · exact .inl ⟨h3, by rw [← h4]; exact DGet.k ha⟩
    · exact .inr ⟨p, y, B', h3, by rw [← h4]; exact DGet.k ha, h5, fun b hb => List.mem_cons_of_mem _ (h6 b hb)⟩
  · simp only [RO] at hr
    obtain ⟨⟨a, es, rfl, wa, ha, h2⟩, rfl⟩ := hr
    refine ⟨a, es, rfl, ha, ?_⟩
    have h2' : Paired (fun (p : D × O) (e : Key × V) => keyD p.1 = some e.1 ∧ RO K W H p.2 e.2 []) (ds.map fun p => (p.1, O.sh p.2)) es := by
      have := RDk.pair h2
      clear h2 ha
      induction this with
      | nil => exact .nil
      | cons h r ih => exact .cons ⟨h.1, by simp only [RO, and_true]; exact h.2⟩ ih
    rcases findK_key (F := fun o y => RO K W H o y []) h2' hq with ⟨h3, h4⟩ | ⟨p, y, h3, h4, h5⟩
    · exact .inl ⟨h3, by rw [← h4]; exact DGet.k ha⟩
    · exact .inr ⟨p, y, [], h3, by rw [← h4]; exact DGet.k ha, h5, fun b hb => absurd hb (by simp)⟩
theorem findK_map (k : D) : ∀ ds : List (D × D), findK k (ds.map fun p => (p.1, O.sh p.2)) = (findK k ds).map O.sh
  | [] => rfl
  | (j, x) :: r => by
    simp only [List.map_cons, findK]
    split
    · rfl
    · exact findK_map k r
end
end Ev
set_option Elab.async false
set_option linter.all false
set_option maxRecDepth 100000
set_option maxHeartbeats 1000000
namespace Ev
open PySem PySem.Spec PyProof.Rows L2
section
variable {X : L2.Cx}
theorem deep_inT {x : D} {ys : List D} (h : deep (.tup ys) x = true) : min (PyData.depthAll (toPDs ys)) (toPD x).depth ≤ 64 := by
  rw [depth_pds, depth_pd]
  unfold deep at h
  have := of_decide_eq_true h
  simp only [D.depth] at this
  omega
/-! ### in -/
theorem dictOf_at {K : PySem.W.Frag} {W : Addr → Prop} {H : Hp} {o : O} {v : V} {A : List Addr} {k : D} {vk : V} {kvs : List (D × O)} (hr : RO K W H o v A) (hk : keyOk k = true) (rk : RD K W H k vk) (ho : dictOf o = some kvs) :
    ∃ a es, v = .ref a ∧ H a = some (.dK es) ∧ ((findK k kvs = none ∧ DGet H a vk none) ∨ ∃ p y B, findK k kvs = some p ∧ DGet H a vk (some y) ∧ RO K W H p y B ∧ ∀ b ∈ B, b ∈ A) := by
  cases o with
  | dic ds =>
    simp only [dictOf, Option.some.injEq] at ho
    subst ho
    exact dict_at hr hk rk (.inl rfl)
  | fd ds =>
    simp only [dictOf, Option.some.injEq] at ho
    subst ho
    exact dict_at hr hk rk (.inr ⟨ds, rfl, rfl⟩)
  | _ => simp [dictOf] at ho
theorem inD_reads {K : PySem.W.Frag} {W : Addr → Prop} {H : Hp} {pins : List (Addr × Obj)} {s : Shared} {σ : L2.St} {a b : D} {x y : V} {v u : Value} {c : Bool} (I : Inv X pins σ H s) (r1 : RR X.K W H a x) (r2 : RR X.K W H b y) (rx : RelV x v) (ry : RelV y u) (e : inD a b = some c) (hu : X.A.units + 70 < cLine)
    {Q : Value → Shared → Prop} {E : Value → Shared → Prop} : (Q (.bool c) s → wpAny (model X.prog X.w) X.A (compareOp .In v u) Q E s) ∧ (Q (.bool (!c)) s → wpAny (model X.prog X.w) X.A (compareOp .NotIn v u) Q E s) := by
  unfold inD itemsOf at e
  obtain ⟨as, p1⟩ := Dp.reads I _ x v r1.dp rx
  obtain ⟨bs, p2⟩ := Dp.reads I _ y u r2.dp ry
  cases b with
  | lst ys =>
    simp only at e
    split at e
    · rename_i hc
      simp only [Option.some.injEq] at e
      subst e
      have hd := deep_in hc
      simp only [toPD] at p2
      exact ⟨fun q => SeqAt.in_list_reads p2 p1 (lay_pds ys) (lay_pd a) (by omega) (by rw [any_pd]; exact q), fun q => SeqAt.notIn_list_reads p2 p1 (lay_pds ys) (lay_pd a) (by omega) (by rw [any_pd]; exact q)⟩
    · cases e
  | tup ys =>
    simp only at e
    split at e
    · rename_i hc
      simp only [Option.some.injEq] at e
      subst e
      have hd : min (PyData.depthAll (toPDs ys)) (toPD a).depth ≤ 64 := deep_inT hc
      simp only [toPD] at p2
      exact ⟨fun q => SeqAt.in_tuple_reads p2 p1 (lay_pds ys) (lay_pd a) (by omega) (by rw [any_pd]; exact q), fun q => SeqAt.notIn_tuple_reads p2 p1 (lay_pds ys) (lay_pd a) (by omega) (by rw [any_pd]; exact q)⟩
    · cases e
  | _ => simp at e
theorem RO.shv {K : PySem.W.Frag} {W : Addr → Prop} {H : Hp} {d : D} {v : V} {A : List Addr} (h : RO K W H (.sh d) v A) : RD K W H d v := by
  simp only [RO] at h
  exact h.1
theorem or_in (hu : X.A.units + 70 < cLine) : OpR X (compareOp .In) (RB X.K .inn) := by
  intro pins s σ H x y v u Q I rx ry h
  obtain ⟨W, o1, o2, o, A1, A2, dm, r1, r2, e, q⟩ := h
  simp only [binO] at e
  split at e
  · rename_i kvs k hd
    split at e
    · rename_i hk
      simp only [Option.some.injEq] at e
      subst e
      obtain ⟨a, es, rfl, ha, hh⟩ := dictOf_at r2 hk r1.shv hd
      cases ry
      rcases hh with ⟨h1, h2⟩ | ⟨p, y, B, h1, h2, _⟩
      · refine d_in (by omega) I h2 rx fun s' I' => ⟨.bl false, H, I', rfl, ?_⟩
        have := q.bl dm
        rw [h1] at this
        exact this
      · refine d_in (by omega) I h2 rx fun s' I' => ⟨.bl true, H, I', rfl, ?_⟩
        have := q.bl dm
        rw [h1] at this
        exact this
    · cases e
  · unfold plain at e
    split at e
    · rename_i a b e1 e2
      simp only [bin2, Option.map_eq_some_iff] at e
      obtain ⟨c, e, rfl⟩ := e
      exact (inD_reads (K := X.K) I (r1.rd e1) (r2.rd e2) rx ry e hu).1 ⟨.bl c, H, I, rfl, q.bl dm⟩
    · cases e
theorem or_nin (hu : X.A.units + 70 < cLine) : OpR X (compareOp .NotIn) (RB X.K .nin) := by
  intro pins s σ H x y v u Q I rx ry h
  obtain ⟨W, o1, o2, o, A1, A2, dm, r1, r2, e, q⟩ := h
  simp only [binO] at e
  split at e
  · rename_i kvs k hd
    split at e
    · rename_i hk
      simp only [Option.some.injEq] at e
      subst e
      obtain ⟨a, es, rfl, ha, hh⟩ := dictOf_at r2 hk r1.shv hd
      cases ry
      rcases hh with ⟨h1, h2⟩ | ⟨p, y, B, h1, h2, _⟩
      · refine d_notIn (by omega) I h2 rx fun s' I' => ⟨.bl true, H, I', rfl, ?_⟩
        have := q.bl dm
        rw [h1] at this
        exact this
      · refine d_notIn (by omega) I h2 rx fun s' I' => ⟨.bl false, H, I', rfl, ?_⟩
        have := q.bl dm
        rw [h1] at this
        exact this
    · cases e
  · unfold plain at e
    split at e
    · rename_i a b e1 e2
      simp only [bin2, Option.map_eq_some_iff] at e
      obtain ⟨c, e, rfl⟩ := e
      exact (inD_reads (K := X.K) I (r1.rd e1) (r2.rd e2) rx ry e hu).2 ⟨.bl (!c), H, I, rfl, q.bl dm⟩
    · cases e

/-! ### methods that look -/
/-- the type of what is asked -/
def tyO (T : String) (o : O) : Prop := match T with
  | "list" => ∃ ds, rd o = some (.lst ds)
  | "tuple" => ∃ ds, rd o = some (.tup ds)
  | "dict" => ∃ kvs, dictOf o = some kvs
  | _ => False
def rM (K : PySem.W.Frag) (op : B2) (T : String) : V → List V → Hp → VK → Prop := fun x xs H Q => ∃ y W o1 o2 o A1 A2, xs = [y] ∧ tyO T o1 ∧ Dom W H ∧ RO K W H o1 x A1 ∧ RO K W H o2 y A2 ∧ binO op o1 o2 = some o ∧ To K W H o Q
theorem count_map {s : Shared} {its : List Value} {ds : List D} {as : List Addr} (y : D) (h : ReadsAll s.heap its (toPDs ds) as) :
    its.countP (fun u => PyData.eqv (SeqAt.readOf s.heap u) (toPD y)) = countEq y ds := by
  have hm := SeqAt.readsAll_map (toPDs ds) its as (lay_pds ds) h
  have e1 : its.countP (fun u => PyData.eqv (SeqAt.readOf s.heap u) (toPD y)) = (toPDs ds).countP fun d => PyData.eqv d (toPD y) := by
    rw [← hm, List.countP_map]
    rfl
  rw [e1]
  clear hm h e1
  induction ds with
  | nil => simp [toPDs, countEq]
  | cons d ds ih =>
    simp only [toPDs, List.countP_cons, countEq, eqv_pd, ih]
    omega
theorem mt_list_count (hu : X.A.units + 70 < cLine) : MtR X "list.count" (rM X.K .count "list") := by
  intro pins s σ H x xs v us Q I rx rxs h
  obtain ⟨y, W, o1, o2, o, A1, A2, rfl, ⟨ds, ty⟩, dm, r1, r2, e, q⟩ := h
  obtain ⟨a, b, e1, e2, e3⟩ := rb_arith (by decide) (by decide) (by decide) e
  rw [ty] at e1
  cases e1
  have r1 := r1.rd ty
  have r2 := r2.rd e2
  obtain ⟨p, vs, rfl, hp, rv⟩ := r1
  obtain ⟨u, rfl, ry⟩ := vals1 rxs
  cases rx
  replace e3 : countD (.lst ds) b = some o := e3
  unfold countD itemsOf at e3
  simp only at e3
  split at e3
  · rename_i hc
    simp only [Option.some.injEq] at e3
    subst e3
    have hd := deep_in hc
    obtain ⟨its, rvs, ⟨⟨cls, dd, data, sl⟩, n, ho, hcl, hdn, hdd⟩, hlen⟩ := I.list (SqL.of hp)
    simp only at hcl hdd
    subst hcl hdd
    obtain ⟨as, p1⟩ := Dp.readsAll I _ _ its rv.dp rvs
    obtain ⟨bs, p2⟩ := Dp.reads I _ y u r2.dp ry
    refine call_meets PySem.F.slot_list_count ⟨_, ho, rfl⟩ PySem.F.entry_list_count (PySem.F.args_list_count_2 _ _)
      (SeqAt.list_countAt p its.toArray n dd sl u (fun z => PyData.eqv (SeqAt.readOf s.heap z) (toPD b))) ⟨ho, SeqAt.items_eqAt (vs := its.toArray) p1 p2 (lay_pds ds) (lay_pd b) (by show X.A.units + 1 + _ < _; omega), ?_⟩
    refine ⟨.int (countEq b ds : Nat), H, I.tok _, ⟨s.toks, ?_⟩, q.int dm⟩
    show Value.int ((its.toArray.toList.countP _ : Nat) : Int) s.toks = _
    rw [show its.toArray.toList = its by simp, count_map b p1]
  · cases e3
theorem mt_tuple_count (hu : X.A.units + 70 < cLine) : MtR X "tuple.count" (rM X.K .count "tuple") := by
  intro pins s σ H x xs v us Q I rx rxs h
  obtain ⟨y, W, o1, o2, o, A1, A2, rfl, ⟨ds, ty⟩, dm, r1, r2, e, q⟩ := h
  obtain ⟨a, b, e1, e2, e3⟩ := rb_arith (by decide) (by decide) (by decide) e
  rw [ty] at e1
  cases e1
  have r1 := r1.rd ty
  have r2 := r2.rd e2
  obtain ⟨p, vs, rfl, _, hp, rv⟩ := r1.tup
  obtain ⟨u, rfl, ry⟩ := vals1 rxs
  cases rx
  replace e3 : countD (.tup ds) b = some o := e3
  unfold countD itemsOf at e3
  simp only at e3
  split at e3
  · rename_i hc
    simp only [Option.some.injEq] at e3
    subst e3
    have hd : min (PyData.depthAll (toPDs ds)) (toPD b).depth ≤ 64 := deep_inT hc
    obtain ⟨its, rvs, ⟨⟨cls, dd, data, sl⟩, ho, hcl, n, hdd⟩, hlen⟩ := I.tuple hp
    simp only at hcl hdd
    subst hcl hdd
    obtain ⟨as, p1⟩ := Dp.readsAll I _ _ its rv.dp rvs
    obtain ⟨bs, p2⟩ := Dp.reads I _ y u r2.dp ry
    refine call_meets PySem.F.slot_tuple_count ⟨_, ho, rfl⟩ PySem.F.entry_tuple_count (PySem.F.args_tuple_count_2 _ _)
      (SeqAt.tuple_countAt p its.toArray n dd sl u (fun z => PyData.eqv (SeqAt.readOf s.heap z) (toPD b))) ⟨ho, SeqAt.items_eqAt (vs := its.toArray) p1 p2 (lay_pds ds) (lay_pd b) (by show X.A.units + 1 + _ < _; omega), ?_⟩
    refine ⟨.int (countEq b ds : Nat), H, I.tok _, ⟨s.toks, ?_⟩, q.int dm⟩
    show Value.int ((its.toArray.toList.countP _ : Nat) : Int) s.toks = _
    rw [show its.toArray.toList = its by simp, count_map b p1]
  · cases e3
theorem index_at : ∀ {ds : List D} {y : D} {n : Nat}, indexEq y ds = some n → ∃ z, ds[n]? = some z ∧ D.eqv z y = true ∧ ∀ m z', m < n → ds[m]? = some z' → D.eqv z' y = false
  | [], _, _, h => by simp [indexEq] at h
  | d :: ds, y, n, h => by
    unfold indexEq at h
    split at h
    · rename_i hd
      simp only [Option.some.injEq] at h
      subst h
      exact ⟨d, by simp, hd, fun m _ hm _ => absurd hm (Nat.not_lt_zero m)⟩
    · rename_i hd
      simp only [Option.map_eq_some_iff] at h
      obtain ⟨k, hk, rfl⟩ := h
      obtain ⟨z, h1, h2, h3⟩ := index_at hk
      refine ⟨z, by simpa using h1, h2, fun m z' hm e => ?_⟩
      cases m with
      | zero =>
        simp at e
        subst e
        simpa using hd
      | succ m => exact h3 m z' (by omega) (by simpa using e)
theorem index_facts {s : Shared} {its : List Value} {ds : List D} {as : List Addr} {y : D} {n : Nat} (h : ReadsAll s.heap its (toPDs ds) as) (hi : indexEq y ds = some n) :
    ∃ hn : n < its.toArray.size, PyData.eqv (SeqAt.readOf s.heap its.toArray[n]) (toPD y) = true ∧ ∀ m (hm : m < its.toArray.size), m < n → PyData.eqv (SeqAt.readOf s.heap its.toArray[m]) (toPD y) = false := by
  have hm := SeqAt.readsAll_map (toPDs ds) its as (lay_pds ds) h
  obtain ⟨z, h1, h2, h3⟩ := index_at hi
  have hl : its.length = ds.length := by
    have := congrArg List.length hm
    rw [List.length_map, toPDs_map, List.length_map] at this
    exact this
  have at_ : ∀ (m : Nat) (hmm : m < its.toArray.size) (z' : D), ds[m]? = some z' → SeqAt.readOf s.heap its.toArray[m] = toPD z' := by
    intro m hmm z' hz'
    have hml : m < its.length := by simpa using hmm
    have e : (its.map (SeqAt.readOf s.heap))[m]? = some (toPD z') := by
      rw [hm, toPDs_map, List.getElem?_map, hz']
      rfl
    rw [List.getElem?_map, List.getElem?_eq_getElem hml] at e
    have := Option.some.inj e
    simpa using this
  have hn : n < ds.length := (List.getElem?_eq_some_iff.mp h1).1
  refine ⟨by simp; omega, ?_, fun m hmm hmn => ?_⟩
  · rw [at_ n (by simp; omega) z h1, eqv_pd]
    exact h2
  · have hmd : m < ds.length := by omega
    rw [at_ m hmm _ (List.getElem?_eq_getElem hmd), eqv_pd]
    exact h3 m _ hmn (List.getElem?_eq_getElem hmd)
theorem mt_list_index (hu : X.A.units + 70 < cLine) : MtR X "list.index" (rM X.K .index "list") := by
  intro pins s σ H x xs v us Q I rx rxs h
  obtain ⟨y, W, o1, o2, o, A1, A2, rfl, ⟨ds, ty⟩, dm, r1, r2, e, q⟩ := h
  obtain ⟨a, b, e1, e2, e3⟩ := rb_arith (by decide) (by decide) (by decide) e
  rw [ty] at e1
  cases e1
  have r1 := r1.rd ty
  have r2 := r2.rd e2
  obtain ⟨p, vs, rfl, hp, rv⟩ := r1
  obtain ⟨u, rfl, ry⟩ := vals1 rxs
  cases rx
  replace e3 : indexD (.lst ds) b = some o := e3
  unfold indexD itemsOf at e3
  simp only at e3
  split at e3
  · rename_i hc
    split at e3
    · rename_i j hj
      simp only [Option.some.injEq] at e3
      subst e3
      have hd := deep_in hc
      obtain ⟨its, rvs, ⟨⟨cls, dd, data, sl⟩, n, ho, hcl, hdn, hdd⟩, hlen⟩ := I.list (SqL.of hp)
      simp only at hcl hdd
      subst hcl hdd
      obtain ⟨as, p1⟩ := Dp.readsAll I _ _ its rv.dp rvs
      obtain ⟨bs, p2⟩ := Dp.reads I _ y u r2.dp ry
      obtain ⟨hn, f1, f2⟩ := index_facts p1 hj
      have hvl := rvs.length
      have hsl := sizeLine_eq
      have hjl : j < its.length := by simpa using hn
      exact call_meets PySem.F.slot_list_index ⟨_, ho, rfl⟩ PySem.F.entry_list_index (PySem.F.args_list_index_2 _ _)
        (SeqAt.list_indexAt p its.toArray n dd sl u (fun z => PyData.eqv (SeqAt.readOf s.heap z) (toPD b)) j hn (by omega) f1 f2) ⟨ho, SeqAt.items_eqAt (vs := its.toArray) p1 p2 (lay_pds ds) (lay_pd b) (by show X.A.units + 1 + _ < _; omega), ⟨.int (j : Nat), H, I.tok _, ⟨_, rfl⟩, q.int dm⟩⟩
    · cases e3
  · cases e3
theorem mt_tuple_index (hu : X.A.units + 70 < cLine) : MtR X "tuple.index" (rM X.K .index "tuple") := by
  intro pins s σ H x xs v us Q I rx rxs h
  obtain ⟨y, W, o1, o2, o, A1, A2, rfl, ⟨ds, ty⟩, dm, r1, r2, e, q⟩ := h
  obtain ⟨a, b, e1, e2, e3⟩ := rb_arith (by decide) (by decide) (by decide) e
  rw [ty] at e1
  cases e1
  have r1 := r1.rd ty
  have r2 := r2.rd e2
  obtain ⟨p, vs, rfl, _, hp, rv⟩ := r1.tup
  obtain ⟨u, rfl, ry⟩ := vals1 rxs
  cases rx
  replace e3 : indexD (.tup ds) b = some o := e3
  unfold indexD itemsOf at e3
  simp only at e3
  split at e3
  · rename_i hc
    split at e3
    · rename_i j hj
      simp only [Option.some.injEq] at e3
      subst e3
      have hd : min (PyData.depthAll (toPDs ds)) (toPD b).depth ≤ 64 := deep_inT hc
      obtain ⟨its, rvs, ⟨⟨cls, dd, data, sl⟩, ho, hcl, n, hdd⟩, hlen⟩ := I.tuple hp
      simp only at hcl hdd
      subst hcl hdd
      obtain ⟨as, p1⟩ := Dp.readsAll I _ _ its rv.dp rvs
      obtain ⟨bs, p2⟩ := Dp.reads I _ y u r2.dp ry
      obtain ⟨hn, f1, f2⟩ := index_facts p1 hj
      exact call_meets PySem.F.slot_tuple_index ⟨_, ho, rfl⟩ PySem.F.entry_tuple_index (PySem.F.args_tuple_index_2 _ _)
        (TI.tuple_indexAt p its.toArray n dd sl u (fun z => PyData.eqv (SeqAt.readOf s.heap z) (toPD b)) j hn f1 f2) ⟨ho, SeqAt.items_eqAt (vs := its.toArray) p1 p2 (lay_pds ds) (lay_pd b) (by show X.A.units + 1 + _ < _; omega), ⟨.int (j : Nat), H, I.tok _, ⟨_, rfl⟩, q.int dm⟩⟩
    · cases e3
  · cases e3
theorem mt_dict_get (hu : X.A.units + 70 < cLine) : MtR X "dict.get" (rM X.K .get1 "dict") := by
  intro pins s σ H x xs v us Q I rx rxs h
  obtain ⟨y, W, o1, o2, o, A1, A2, rfl, ⟨kvs, ty⟩, dm, r1, r2, e, q⟩ := h
  simp only [binO, ty] at e
  split at e
  · rename_i kvs' k hk0
    cases hk0
    split at e
    · rename_i hk
      obtain ⟨a, es, rfl, ha, hh⟩ := dictOf_at r1 hk r2.shv ty
      cases rx
      obtain ⟨u, rfl, ry⟩ := vals1 rxs
      rcases hh with ⟨h1, h2⟩ | ⟨p, y2, B, h1, h2, h3, _⟩
      · rw [h1] at e
        simp only [getD, Option.some.injEq] at e
        subst e
        exact d_get1 (by omega) I h2 ry fun w' s' I' r' => ⟨.non, H, I', r', q.sh dm (by simp [RD])⟩
      · rw [h1] at e
        unfold getD at e
        split at e
        · rename_i d hd
          cases hd
          simp only [Option.some.injEq] at e
          subst e
          exact d_get1 (by omega) I h2 ry fun w' s' I' r' => ⟨y2, H, I', r', q.sh dm h3.shv⟩
        · cases e
        · rename_i hh
          cases hh
    · cases e
  · cases e
/-! ### min and max of two -/
theorem cr_min2 (hc : X.calm = true) : CallR X (.builtin "min") (fun xs H Q => ∃ x y, xs = [x, y] ∧ RB X.K .min2 x y H Q) := by
  intro pins s σ H xs us Q I r h
  obtain ⟨x, y, rfl, h⟩ := h
  obtain ⟨i, j, d, W, rfl, rfl, e, dm, q⟩ := RB.ints (by decide) (by decide) (by decide) (fun _ _ => rfl) h
  cases e
  exact call_min2 hc pins s σ H _ us Q I r ⟨i, j, rfl, q.int dm⟩
theorem cr_max2 (hc : X.calm = true) : CallR X (.builtin "max") (fun xs H Q => ∃ x y, xs = [x, y] ∧ RB X.K .max2 x y H Q) := by
  intro pins s σ H xs us Q I r h
  obtain ⟨x, y, rfl, h⟩ := h
  obtain ⟨i, j, d, W, rfl, rfl, e, dm, q⟩ := RB.ints (by decide) (by decide) (by decide) (fun _ _ => rfl) h
  cases e
  exact call_max2 hc pins s σ H _ us Q I r ⟨i, j, rfl, q.int dm⟩
end
end Ev
set_option Elab.async false
set_option linter.all false
set_option maxRecDepth 100000
set_option maxHeartbeats 1000000
namespace Ev
open PySem PySem.Spec PyProof.Rows L2
/-! ### one thing -/
section
variable {X : L2.Cx} {K : PySem.W.Frag} {W : Addr → Prop} {H : Hp}
def RU (K : PySem.W.Frag) (op : U1) : V → Hp → VK → Prop := fun x H Q => ∃ W o1 o A, Dom W H ∧ RO K W H o1 x A ∧ un1 op o1 = some o ∧ To K W H o Q
abbrev RU1 (K : PySem.W.Frag) (op : U1) : List V → Hp → VK → Prop := fun xs H Q => ∃ x, xs = [x] ∧ RU K op x H Q
theorem RDs.asBools : ∀ {ds : List D} {xs : List V} {bs : List Bool}, RDs K W H ds xs → asBools ds = some bs → xs = bs.map V.bl
  | [], _, _, h, e => by simp only [RDs] at h; simp only [Ev.asBools, Option.some.injEq] at e; subst h; subst e; rfl
  | .bl b :: ds, _, _, h, e => by
    simp only [RDs] at h
    obtain ⟨x, r, rfl, h1, h2⟩ := h
    simp only [Ev.asBools, Option.map_eq_some_iff] at e
    obtain ⟨cs, e1, rfl⟩ := e
    simp only [RD] at h1
    rw [h1, RDs.asBools h2 e1]
    rfl
  | .non :: _, _, _, _, e => by simp [Ev.asBools] at e
  | .int _ :: _, _, _, _, e => by simp [Ev.asBools] at e
  | .str _ :: _, _, _, _, e => by simp [Ev.asBools] at e
  | .tup _ :: _, _, _, _, e => by simp [Ev.asBools] at e
  | .lst _ :: _, _, _, _, e => by simp [Ev.asBools] at e
theorem RDs.asInts : ∀ {ds : List D} {xs : List V} {bs : List Int}, RDs K W H ds xs → asInts ds = some bs → xs = bs.map V.int
  | [], _, _, h, e => by simp only [RDs] at h; simp only [Ev.asInts, Option.some.injEq] at e; subst h; subst e; rfl
  | .int b :: ds, _, _, h, e => by
    simp only [RDs] at h
    obtain ⟨x, r, rfl, h1, h2⟩ := h
    simp only [Ev.asInts, Option.map_eq_some_iff] at e
    obtain ⟨cs, e1, rfl⟩ := e
    simp only [RD] at h1
    rw [h1, RDs.asInts h2 e1]
    rfl
  | .non :: _, _, _, _, e => by simp [Ev.asInts] at e
  | .bl _ :: _, _, _, _, e => by simp [Ev.asInts] at e
  | .str _ :: _, _, _, _, e => by simp [Ev.asInts] at e
  | .tup _ :: _, _, _, _, e => by simp [Ev.asInts] at e
  | .lst _ :: _, _, _, _, e => by simp [Ev.asInts] at e
theorem RDs_int : ∀ ns : List Int, RDs K W H (ns.map D.int) (ns.map V.int)
  | [] => RDs.nil
  | n :: ns => RDs.cons (by simp [RD]) (RDs_int ns)
/-- a list that is looked at, a tuple -/
theorem RO.seq {o : O} {v : V} {A : List Addr} {ds : List D} (h : RO K W H o v A) (e : Ev.rd o = some (.lst ds)) : ∃ a xs, v = .ref a ∧ H a = some (.lst xs) ∧ RDs K W H ds xs := h.rd e
/-! len -/
theorem len_dict {kvs : List (D × O)} {es : List (Key × V)} {A : List Addr} (h : ROk K W H kvs es A) : es.length = kvs.length := (Paired.length (ROk.pair h)).symm
theorem cr_len : CallR X (.builtin "len") (RU1 X.K .len) := by
  intro pins s σ H xs us Q I r h
  obtain ⟨x, rfl, W, o1, o, A, dm, ro, e, q⟩ := h
  simp only [un1, Option.map_eq_some_iff] at e
  obtain ⟨n, e, rfl⟩ := e
  have q' := q.int dm
  cases o1 with
  | sh d =>
    simp only [RO] at ro
    cases d with
    | lst ds =>
      simp only [lenO, Option.some.injEq] at e
      subst e
      obtain ⟨a, ys, rfl, ha, rv⟩ := ro.1.rr
      rw [← rv.len] at q'
      exact call_len_seq pins s σ H _ us Q I r ⟨a, ys, rfl, .inl (SqL.of ha), q'⟩
    | tup ds =>
      simp only [lenO, Option.some.injEq] at e
      subst e
      obtain ⟨a, ys, rfl, _, ha, rv⟩ := ro.1.rr.tup
      rw [← rv.len] at q'
      exact call_len_seq pins s σ H _ us Q I r ⟨a, ys, rfl, .inr ha, q'⟩
    | _ => simp [lenO] at e
  | lst os =>
    simp only [lenO, Option.some.injEq] at e
    subst e
    simp only [RO] at ro
    obtain ⟨a, ys, B, rfl, rfl, ha, rv⟩ := ro
    rw [← rv.len] at q'
    exact call_len_seq pins s σ H _ us Q I r ⟨a, ys, rfl, .inl (SqL.of ha), q'⟩
  | dic kvs =>
    simp only [lenO, Option.some.injEq] at e
    subst e
    simp only [RO] at ro
    obtain ⟨a, es, B, rfl, rfl, ha, rv⟩ := ro
    rw [← len_dict rv] at q'
    exact call_lenD pins s σ H _ us Q I r ⟨a, es, rfl, ha, q'⟩
  | fd kvs =>
    simp only [lenO, Option.some.injEq] at e
    subst e
    simp only [RO] at ro
    obtain ⟨⟨a, es, rfl, wa, ha, rv⟩, rfl⟩ := ro
    have hl : es.length = kvs.length := (Paired.length (RDk.pair rv)).symm
    rw [← hl] at q'
    exact call_lenD pins s σ H _ us Q I r ⟨a, es, rfl, ha, q'⟩
  | _ => simp [lenO] at e
/-! int, bool, abs -/
theorem cr_int : CallR X (.type "int") (RU1 X.K .int) := by
  intro pins s σ H xs us Q I r h
  obtain ⟨x, rfl, W, o1, o, A, dm, ro, e, q⟩ := h
  simp only [un1] at e
  split at e
  · simp only [Option.some.injEq] at e
    subst e
    simp only [RO, RD] at ro
    exact call_int1 pins s σ H _ us Q I r (.inl ⟨_, by rw [ro.1], q.int dm⟩)
  · simp only [Option.some.injEq] at e
    subst e
    simp only [RO, RD] at ro
    exact call_int1 pins s σ H _ us Q I r (.inr ⟨_, by rw [ro.1], q.int dm⟩)
  · cases e
theorem cr_bool : CallR X (.type "bool") (RU1 X.K .bool) := by
  intro pins s σ H xs us Q I r h
  obtain ⟨x, rfl, W, o1, o, A, dm, ro, e, q⟩ := h
  simp only [un1] at e
  split at e
  · simp only [Option.some.injEq] at e
    subst e
    simp only [RO, RD] at ro
    exact call_bool1 pins s σ H _ us Q I r (.inl ⟨_, by rw [ro.1], q.bl dm⟩)
  · simp only [Option.some.injEq] at e
    subst e
    simp only [RO, RD] at ro
    exact call_bool1 pins s σ H _ us Q I r (.inr ⟨_, by rw [ro.1], q.bl dm⟩)
  · cases e
theorem cr_abs : CallR X (.builtin "abs") (RU1 X.K .abs) := by
  intro pins s σ H xs us Q I r h
  obtain ⟨x, rfl, W, o1, o, A, dm, ro, e, q⟩ := h
  simp only [un1] at e
  split at e
  · simp only [Option.some.injEq] at e
    subst e
    simp only [RO, RD] at ro
    exact call_abs pins s σ H _ us Q I r ⟨_, by rw [ro.1], q.int dm⟩
  · cases e
theorem un_negE : UnR X (unaryOp .USub) (RU X.K .neg) := by
  intro pins s σ H x v Q I r h
  obtain ⟨W, o1, o, A, dm, ro, e, q⟩ := h
  simp only [un1] at e
  split at e
  · simp only [Option.some.injEq] at e
    subst e
    simp only [RO, RD] at ro
    exact un_neg pins s σ H _ v Q I r ⟨_, ro.1, q.int dm⟩
  · cases e
/-! tuple, list -/
theorem cr_tuple : CallR X (.type "tuple") (RU1 X.K .tuple) := by
  intro pins s σ H xs us Q I r h
  obtain ⟨x, rfl, W, o1, o, A, dm, ro, e, q⟩ := h
  simp only [un1] at e
  split at e
  · rename_i ds hd
    simp only [Option.some.injEq] at e
    subst e
    obtain ⟨a, ys, rfl, ha, rv⟩ := ro.seq hd
    exact call_tupleZ pins s σ H _ us Q I r ⟨a, ys, rfl, .inl ⟨SqL.of ha, q.tup dm rv⟩⟩
  · rename_i ds hd
    simp only [Option.some.injEq] at e
    subst e
    obtain ⟨a, ys, rfl, wa, ha, rv⟩ := (ro.rd hd).tup
    exact call_tupleZ pins s σ H _ us Q I r ⟨a, ys, rfl, .inr ⟨ha, q.sh dm (by simp only [RD]; exact ⟨a, ys, rfl, wa, rv⟩)⟩⟩
  · cases e
theorem cr_list : CallR X (.type "list") (RU1 X.K .list) := by
  intro pins s σ H xs us Q I r h
  obtain ⟨x, rfl, W, o1, o, A, dm, ro, e, q⟩ := h
  simp only [un1] at e
  split at e
  · rename_i ns
    simp only [Option.some.injEq] at e
    subst e
    simp only [RO] at ro
    obtain ⟨⟨a, rfl, ha⟩, _⟩ := ro
    have hs : SqL X.K H a (ns.map V.int) := by
      rcases ha with ⟨_, ha⟩ | ha
      · exact .inl ha
      · exact ha.seq
    exact call_list_of pins s σ H _ us Q I r ⟨a, _, rfl, .inl hs, fun l hl => q.own dm (RDs_int ns) hl⟩
  · split at e
    · rename_i ds hd
      simp only [Option.some.injEq] at e
      subst e
      obtain ⟨a, ys, rfl, ha, rv⟩ := ro.seq hd
      exact call_list_of pins s σ H _ us Q I r ⟨a, ys, rfl, .inl (SqL.of ha), fun l hl => q.own dm rv hl⟩
    · rename_i ds hd
      simp only [Option.some.injEq] at e
      subst e
      obtain ⟨a, ys, rfl, wa, ha, rv⟩ := (ro.rd hd).tup
      exact call_list_of pins s σ H _ us Q I r ⟨a, ys, rfl, .inr ha, fun l hl => q.own dm rv hl⟩
    · cases e
/-! all, any, sum, min, max, sorted -/
theorem cr_allE (hc : X.calm = true) : CallR X (.builtin "all") (RU1 X.K .all) := by
  intro pins s σ H xs us Q I r h
  obtain ⟨x, rfl, W, o1, o, A, dm, ro, e, q⟩ := h
  simp only [un1] at e
  split at e
  · rename_i ds hd
    simp only [Option.map_eq_some_iff] at e
    obtain ⟨bs, e, rfl⟩ := e
    obtain ⟨a, ys, rfl, ha, rv⟩ := ro.seq hd
    have := rv.asBools e
    subst this
    exact cr_all hc pins s σ H _ us Q I r ⟨a, bs, rfl, SqL.of ha, q.bl dm⟩
  · cases e
theorem cr_anyE (hc : X.calm = true) : CallR X (.builtin "any") (RU1 X.K .any) := by
  intro pins s σ H xs us Q I r h
  obtain ⟨x, rfl, W, o1, o, A, dm, ro, e, q⟩ := h
  simp only [un1] at e
  split at e
  · rename_i ds hd
    simp only [Option.map_eq_some_iff] at e
    obtain ⟨bs, e, rfl⟩ := e
    obtain ⟨a, ys, rfl, ha, rv⟩ := ro.seq hd
    have := rv.asBools e
    subst this
    exact cr_any hc pins s σ H _ us Q I r ⟨a, bs, rfl, SqL.of ha, q.bl dm⟩
  · cases e
theorem sumI_eq : ∀ ns : List Int, sumI ns = ns.sum
  | [] => rfl
  | n :: ns => by rw [sumI, sumI_eq ns, List.sum_cons]
theorem cr_sumE (hc : X.calm = true) : CallR X (.builtin "sum") (RU1 X.K .sum) := by
  intro pins s σ H xs us Q I r h
  obtain ⟨x, rfl, W, o1, o, A, dm, ro, e, q⟩ := h
  simp only [un1] at e
  split at e
  · rename_i ds hd
    simp only [Option.map_eq_some_iff] at e
    obtain ⟨bs, e, rfl⟩ := e
    obtain ⟨a, ys, rfl, ha, rv⟩ := ro.seq hd
    have := rv.asInts e
    subst this
    rw [sumI_eq] at q
    exact cr_sum hc pins s σ H _ us Q I r ⟨a, bs, rfl, SqL.of ha, q.int dm⟩
  · cases e
theorem minI_le : ∀ (ns : List Int) (m : Int), minI m ns ≤ m ∧ (∀ y ∈ ns, minI m ns ≤ y) ∧ (minI m ns = m ∨ minI m ns ∈ ns)
  | [], m => ⟨Int.le_refl _, by simp, .inl rfl⟩
  | n :: ns, m => by
    obtain ⟨h1, h2, h3⟩ := minI_le ns (if n < m then n else m)
    simp only [minI]
    refine ⟨?_, ?_, ?_⟩
    · split at h1 <;> rename_i hh <;> (try rw [if_pos hh]) <;> (try rw [if_neg hh]) <;> omega
    · intro y hy
      rcases List.mem_cons.mp hy with rfl | hy
      · split at h1 <;> rename_i hh <;> (try rw [if_pos hh]) <;> (try rw [if_neg hh]) <;> omega
      · exact h2 y hy
    · rcases h3 with h3 | h3
      · rw [h3]
        split
        · exact .inr List.mem_cons_self
        · exact .inl rfl
      · exact .inr (List.mem_cons_of_mem _ h3)
theorem maxI_ge : ∀ (ns : List Int) (m : Int), m ≤ maxI m ns ∧ (∀ y ∈ ns, y ≤ maxI m ns) ∧ (maxI m ns = m ∨ maxI m ns ∈ ns)
  | [], m => ⟨Int.le_refl _, by simp, .inl rfl⟩
  | n :: ns, m => by
    obtain ⟨h1, h2, h3⟩ := maxI_ge ns (if m < n then n else m)
    simp only [maxI]
    refine ⟨?_, ?_, ?_⟩
    · split at h1 <;> rename_i hh <;> (try rw [if_pos hh]) <;> (try rw [if_neg hh]) <;> omega
    · intro y hy
      rcases List.mem_cons.mp hy with rfl | hy
      · split at h1 <;> rename_i hh <;> (try rw [if_pos hh]) <;> (try rw [if_neg hh]) <;> omega
      · exact h2 y hy
    · rcases h3 with h3 | h3
      · rw [h3]
        split
        · exact .inr List.mem_cons_self
        · exact .inl rfl
      · exact .inr (List.mem_cons_of_mem _ h3)
theorem cr_minE (hc : X.calm = true) : CallR X (.builtin "min") (RU1 X.K .min) := by
  intro pins s σ H xs us Q I r h
  obtain ⟨x, rfl, W, o1, o, A, dm, ro, e, q⟩ := h
  simp only [un1] at e
  split at e
  · rename_i ds hd
    split at e
    · rename_i n ns hi
      simp only [Option.some.injEq] at e
      subst e
      obtain ⟨a, ys, rfl, ha, rv⟩ := ro.seq hd
      have := rv.asInts hi
      subst this
      refine cr_min hc pins s σ H _ us Q I r ⟨a, n :: ns, rfl, SqL.of ha, by simp, fun m h1 h2 => ?_⟩
      obtain ⟨k1, k2, k3⟩ := minI_le ns n
      have e : m = minI n ns := by
        have g1 : m ≤ minI n ns := by
          rcases k3 with k3 | k3
          · rw [k3]; exact h2 n List.mem_cons_self
          · exact h2 _ (List.mem_cons_of_mem _ k3)
        have g2 : minI n ns ≤ m := by
          rcases List.mem_cons.mp h1 with rfl | h1
          · exact k1
          · exact k2 m h1
        omega
      rw [e]
      exact q.int dm
    · cases e
  · cases e
theorem cr_maxE (hc : X.calm = true) : CallR X (.builtin "max") (RU1 X.K .max) := by
  intro pins s σ H xs us Q I r h
  obtain ⟨x, rfl, W, o1, o, A, dm, ro, e, q⟩ := h
  simp only [un1] at e
  split at e
  · rename_i ds hd
    split at e
    · rename_i n ns hi
      simp only [Option.some.injEq] at e
      subst e
      obtain ⟨a, ys, rfl, ha, rv⟩ := ro.seq hd
      have := rv.asInts hi
      subst this
      refine cr_max hc pins s σ H _ us Q I r ⟨a, n :: ns, rfl, SqL.of ha, by simp, fun m h1 h2 => ?_⟩
      obtain ⟨k1, k2, k3⟩ := maxI_ge ns n
      have e : m = maxI n ns := by
        have g1 : maxI n ns ≤ m := by
          rcases k3 with k3 | k3
          · rw [k3]; exact h2 n List.mem_cons_self
          · exact h2 _ (List.mem_cons_of_mem _ k3)
        have g2 : m ≤ maxI n ns := by
          rcases List.mem_cons.mp h1 with rfl | h1
          · exact k1
          · exact k2 m h1
        omega
      rw [e]
      exact q.int dm
    · cases e
  · cases e
theorem insI_perm (x : Int) : ∀ ns : List Int, (insI x ns).Perm (x :: ns)
  | [] => .refl _
  | y :: r => by
    simp only [insI]
    split
    · exact .refl _
    · exact ((insI_perm x r).cons y).trans (.swap x y r)
theorem insI_sorted (x : Int) : ∀ ns : List Int, ns.Pairwise (· ≤ ·) → (insI x ns).Pairwise (· ≤ ·)
  | [], _ => by simp [insI]
  | y :: r, h => by
    simp only [insI]
    rw [List.pairwise_cons] at h
    split
    · rename_i hxy
      refine List.pairwise_cons.mpr ⟨fun z hz => ?_, List.pairwise_cons.mpr h⟩
      rcases List.mem_cons.mp hz with rfl | hz
      · exact hxy
      · exact Int.le_trans hxy (h.1 z hz)
    · rename_i hxy
      refine List.pairwise_cons.mpr ⟨fun z hz => ?_, insI_sorted x r h.2⟩
      rcases List.mem_cons.mp ((insI_perm x r).mem_iff.mp hz) with rfl | hz
      · omega
      · exact h.1 z hz
theorem sortI_perm : ∀ ns : List Int, (sortI ns).Perm ns
  | [] => .refl _
  | x :: r => (insI_perm x (sortI r)).trans ((sortI_perm r).cons x)
theorem sortI_sorted : ∀ ns : List Int, (sortI ns).Pairwise (· ≤ ·)
  | [] => .nil
  | x :: r => insI_sorted x _ (sortI_sorted r)
theorem cr_sortedE : CallR X (.builtin "sorted") (RU1 X.K .sorted) := by
  intro pins s σ H xs us Q I r h
  obtain ⟨x, rfl, W, o1, o, A, dm, ro, e, q⟩ := h
  simp only [un1] at e
  split at e
  · rename_i ds hd
    simp only [Option.map_eq_some_iff] at e
    obtain ⟨ns, e, rfl⟩ := e
    obtain ⟨a, ys, rfl, ha, rv⟩ := ro.seq hd
    have := rv.asInts e
    subst this
    refine cr_sortedI pins s σ H _ us Q I r ⟨a, ns, rfl, SqL.of ha, fun ns' p h1 h2 hp => ?_⟩
    have : ns' = sortI ns := PySem.W.ksm_same (h1.trans (sortI_perm ns).symm) h2 (sortI_sorted ns)
    subst this
    exact q.own dm (RDs_int _) hp
  · cases e
/-! is None, is True -/
theorem isnone_val {op : U1} {o1 o : O} {v : V} {A : List Addr} (ro : RO K W H o1 v A) : (un1 .isNone o1 = some o → o = .sh (.bl (decide (v = .non)))) ∧ (un1 .notNone o1 = some o → o = .sh (.bl (!decide (v = .non)))) := by
  cases o1 with
  | sh d =>
    simp only [RO] at ro
    cases d with
    | non =>
      have e := ro.1
      simp only [RD] at e
      subst e
      exact ⟨fun h => by simpa [un1] using h.symm, fun h => by simpa [un1] using h.symm⟩
    | bl b => have e := ro.1; simp only [RD] at e; subst e; exact ⟨fun h => by simpa [un1] using h.symm, fun h => by simpa [un1] using h.symm⟩
    | int b => have e := ro.1; simp only [RD] at e; subst e; exact ⟨fun h => by simpa [un1] using h.symm, fun h => by simpa [un1] using h.symm⟩
    | str b => have e := ro.1; simp only [RD] at e; subst e; exact ⟨fun h => by simpa [un1] using h.symm, fun h => by simpa [un1] using h.symm⟩
    | tup b => have e := ro.1; simp only [RD] at e; obtain ⟨_, _, rfl, _⟩ := e; exact ⟨fun h => by simpa [un1] using h.symm, fun h => by simpa [un1] using h.symm⟩
    | lst b => have e := ro.1; simp only [RD] at e; obtain ⟨_, _, rfl, _⟩ := e; exact ⟨fun h => by simpa [un1] using h.symm, fun h => by simpa [un1] using h.symm⟩
  | lst os =>
    simp only [RO] at ro
    obtain ⟨_, _, _, rfl, _⟩ := ro
    exact ⟨fun h => by simpa [un1] using h.symm, fun h => by simpa [un1] using h.symm⟩
  | _ => exact ⟨fun h => by simp [un1] at h, fun h => by simp [un1] at h⟩
theorem or_isNone : OpR X (compareOp .Is) (fun x y H Q => y = .non ∧ RU X.K .isNone x H Q) := by
  intro pins s σ H x y v u Q I rx ry h
  obtain ⟨rfl, W, o1, o, A, dm, ro, e, q⟩ := h
  have := (isnone_val (op := .len) ro).1 e
  subst this
  exact op_isN pins s σ H _ _ v u Q I rx ry ⟨rfl, q.bl dm⟩
theorem or_notNone : OpR X (compareOp .IsNot) (fun x y H Q => y = .non ∧ RU X.K .notNone x H Q) := by
  intro pins s σ H x y v u Q I rx ry h
  obtain ⟨rfl, W, o1, o, A, dm, ro, e, q⟩ := h
  have := (isnone_val (op := .len) ro).2 e
  subst this
  exact op_notN pins s σ H _ _ v u Q I rx ry ⟨rfl, q.bl dm⟩
theorem or_isBl (b : Bool) : OpR X (compareOp .Is) (fun x y H Q => y = .bl b ∧ RU X.K (if b then .isTrue else .isFalse) x H Q) := by
  intro pins s σ H x y v u Q I rx ry h
  obtain ⟨rfl, W, o1, o, A, dm, ro, e, q⟩ := h
  cases b with
  | true =>
    simp only [if_true, un1] at e
    split at e
    · rename_i c
      simp only [Option.some.injEq] at e
      subst e
      simp only [RO, RD] at ro
      exact op_is_bl pins s σ H _ _ v u Q I rx ry ⟨c, true, ro.1, rfl, by have := q.bl dm; rwa [show decide (c = true) = c by simp]⟩
    · cases e
  | false =>
    simp only [Bool.false_eq_true, if_false, un1] at e
    split at e
    · rename_i c
      simp only [Option.some.injEq] at e
      subst e
      simp only [RO, RD] at ro
      exact op_is_bl pins s σ H _ _ v u Q I rx ry ⟨c, false, ro.1, rfl, by have := q.bl dm; rwa [show decide (c = false) = !c by cases c <;> rfl]⟩
    · cases e
/-! isinstance -/
def isOp (T : String) : Option U1 := match T with
  | "int" => some .isInt
  | "bool" => some .isBool
  | "str" => some .isStr
  | "tuple" => some .isTuple
  | "list" => some .isList
  | _ => none
def tyB (d : V) : Prop := True
theorem kit_all {K : PySem.W.Frag} {t c : String} {r : Bool} (h : kitB t c = some r) : PySem.W.kitOne K (.type t) (.type c) = some r := kit_ty h
def isAns (t c : String) : Bool := (t == c) || (t == "bool" && c == "int")
theorem kit_ans (t : String) (ht : t = "NoneType" ∨ t = "bool" ∨ t = "int" ∨ t = "str" ∨ t = "list" ∨ t = "tuple") (c : String) (hc : c = "int" ∨ c = "bool" ∨ c = "str" ∨ c = "tuple" ∨ c = "list") : kitB t c = some (isAns t c) := by
  rcases ht with rfl | rfl | rfl | rfl | rfl | rfl <;> rcases hc with rfl | rfl | rfl | rfl | rfl <;> decide +kernel
/-- the built-in type of a value -/
def tyName : O → String
  | .sh .non => "NoneType"
  | .sh (.bl _) => "bool"
  | .sh (.int _) => "int"
  | .sh (.str _) => "str"
  | .sh (.tup _) => "tuple"
  | .sh (.lst _) => "list"
  | .lst _ => "list"
  | _ => ""
theorem is_ans {T : String} {op : U1} (ho : isOp T = some op) {o1 o : O} (e : un1 op o1 = some o) : o = .sh (.bl (isAns (tyName o1) T)) ∧ (tyName o1 = "NoneType" ∨ tyName o1 = "bool" ∨ tyName o1 = "int" ∨ tyName o1 = "str" ∨ tyName o1 = "list" ∨ tyName o1 = "tuple") := by
  unfold isOp at ho
  split at ho <;> first | (cases ho; done) | skip
  all_goals
    cases ho
    cases o1 with
    | sh d => cases d <;> simp only [un1, Option.some.injEq] at e <;> subst e <;> exact ⟨by simp [tyName, isAns], by simp [tyName]⟩
    | lst _ => first
      | (simp only [un1, Option.some.injEq] at e; subst e; exact ⟨by simp [tyName, isAns], by simp [tyName]⟩)
      | (simp [un1] at e)
    | _ => simp [un1] at e
theorem cr_isinst {T : String} {op : U1} (ho : isOp T = some op) : CallR X (.builtin "isinstance") (fun xs H Q => ∃ x, xs = [x, .ty T] ∧ RU X.K op x H Q) := by
  intro pins s σ H xs us Q I r h
  obtain ⟨x, rfl, W, o1, o, A, dm, ro, e, q⟩ := h
  obtain ⟨u, w', rfl, ru, rw'⟩ := vals2 r
  cases rw'
  obtain ⟨rfl, ht⟩ := is_ans ho e
  have hc : T = "int" ∨ T = "bool" ∨ T = "str" ∨ T = "tuple" ∨ T = "list" := by
    unfold isOp at ho
    split at ho <;> first | (cases ho; done) | simp
  have k := kit_ty (K := X.K) (kit_ans _ ht T hc)
  have fin : ∀ tk, EP X pins σ Q (.bool (isAns (tyName o1) T)) { s with toks := tk } := fun tk => ⟨.bl _, H, I.tok _, rfl, q.bl dm⟩
  have lst : ∀ {a xs}, u = Value.ref a → H a = some (.lst xs) → tyName o1 = "list" → wpAny (model X.prog X.w) X.A (PySem.call (.builtin "isinstance") [u, .type T]) (EP X pins σ Q) X.xe s := fun {a xs} eu ha et => by
    rw [et] at k fin
    exact isinst_ok I (show RelV (.ref a) u from eu) (.lst ha) k (fun tk => fin tk)
  have tup : ∀ {a xs}, u = Value.ref a → SqT X.K H a xs → tyName o1 = "tuple" → wpAny (model X.prog X.w) X.A (PySem.call (.builtin "isinstance") [u, .type T]) (EP X pins σ Q) X.xe s := fun {a xs} eu ha et => by
    rw [et] at k fin
    subst eu
    obtain ⟨its, _, ⟨o, h1, h2, _⟩, _⟩ := I.tuple ha
    exact PySem.W.kia_one PySem.W.kitx_tuple I.kIn ⟨o, h1, h2⟩ k (fun z => nomatch z) fin
  cases o1 with
  | sh d =>
    simp only [RO] at ro
    cases d with
    | non => have e := ro.1; simp only [RD] at e; subst e; exact isinst_ok I ru .non k fin
    | bl b => have e := ro.1; simp only [RD] at e; subst e; exact isinst_ok I ru (.bl b) k fin
    | int b => have e := ro.1; simp only [RD] at e; subst e; exact isinst_ok I ru (.int b) k fin
    | str b => have e := ro.1; simp only [RD] at e; subst e; exact isinst_ok I ru (.str _) k fin
    | tup b =>
      obtain ⟨a, ys, rfl, _, ha, _⟩ := ro.1.rr.tup
      exact tup ru ha rfl
    | lst b =>
      obtain ⟨a, ys, rfl, ha, _⟩ := ro.1.rr
      exact lst ru ha rfl
  | lst os =>
    simp only [RO] at ro
    obtain ⟨a, ys, B, rfl, rfl, ha, _⟩ := ro
    exact lst ru ha rfl
  | fd _ => simp [tyName] at ht
  | scr _ => simp [tyName] at ht
  | dic _ => simp [tyName] at ht
  | ins _ _ => simp [tyName] at ht
/-! truth -/
theorem truth_V {o : O} {v : V} {A : List Addr} {b : Bool} (ro : RO K W H o v A) (e : truth o = some b) : TruV K v H b := by
  cases o with
  | sh d =>
    simp only [RO] at ro
    cases d with
    | non => have h := ro.1; simp only [RD] at h; subst h; simp only [truth, Option.some.injEq] at e; exact e.symm
    | bl c => have h := ro.1; simp only [RD] at h; subst h; simp only [truth, Option.some.injEq] at e; exact e.symm
    | int c => have h := ro.1; simp only [RD] at h; subst h; simp only [truth, Option.some.injEq] at e; exact e.symm
    | str c => simp [truth] at e
    | tup ds =>
      obtain ⟨a, ys, rfl, _, ha, rv⟩ := ro.1.rr.tup
      simp only [truth, Option.some.injEq] at e
      refine .inr (.inl ⟨ys, ha, ?_⟩)
      rw [← e]
      have := rv.len
      cases ds <;> cases ys <;> simp_all
    | lst ds =>
      obtain ⟨a, ys, rfl, ha, rv⟩ := ro.1.rr
      simp only [truth, Option.some.injEq] at e
      refine .inl ⟨ys, SqL.of ha, ?_⟩
      rw [← e]
      have := rv.len
      cases ds <;> cases ys <;> simp_all
  | lst os =>
    simp only [RO] at ro
    obtain ⟨a, ys, B, rfl, rfl, ha, rv⟩ := ro
    simp only [truth, Option.some.injEq] at e
    refine .inl ⟨ys, SqL.of ha, ?_⟩
    rw [← e]
    have := rv.len
    cases os <;> cases ys <;> simp_all
  | _ => simp [truth] at e
end
end Ev
set_option Elab.async false
set_option linter.all false
set_option maxRecDepth 100000
set_option maxHeartbeats 1000000
namespace Ev
open PySem PySem.Spec PyProof.Rows L2
/-! ### o[k], o[a:b] -/
section
variable {X : L2.Cx} {K : PySem.W.Frag} {W : Addr → Prop} {H : Hp}
def RI (K : PySem.W.Frag) : R2 := fun x y H Q => ∃ W o1 k o A, Dom W H ∧ RO K W H o1 x A ∧ RD K W H k y ∧ item o1 k = some o ∧ ∀ v B, RO K W H o v B → (∀ b ∈ B, b ∈ A) → Q v H
theorem ix_at {ds : List D} {xs : List V} {i : Int} {o : O} (rv : RDs K W H ds xs) (e : ((ixN ds.length i).bind fun j => (ds[j]?).map O.sh) = some o) : ∃ d v, o = .sh d ∧ atI xs i = some v ∧ RD K W H d v := by
  simp only [Option.bind_eq_some_iff, Option.map_eq_some_iff] at e
  obtain ⟨j, hj, d, hd, rfl⟩ := e
  obtain ⟨x, hx, hr⟩ := rv.get hd
  refine ⟨d, x, rfl, ?_, hr⟩
  unfold L2.atI
  rw [rv.len]
  have : L2.ixN ds.length i = some j := hj
  rw [this]
  exact hx
theorem ix_rule (hu : X.A.units + 70 < cLine) : IxR X (RI X.K) := by
  intro value slice pins s σ H x y v u Q I rx ry h hs
  obtain ⟨W, o1, k, o, A, dm, ro, rk, e, q⟩ := h
  unfold item at e
  split at e
  · rename_i ds i
    obtain ⟨a, xs, rfl, ha, rv⟩ := ro.shv.rr
    obtain ⟨d, z, rfl, h1, h2⟩ := ix_at rv e
    simp only [RD] at rk
    subst rk
    exact ix_list value slice pins s σ H _ _ v u Q I rx ry ⟨a, xs, i, z, rfl, rfl, SqL.of ha, h1, q z [] (by simp only [RO, and_true]; exact h2) (fun _ hb => absurd hb (by simp))⟩ hs
  · rename_i ds i
    obtain ⟨a, xs, rfl, _, ha, rv⟩ := ro.shv.rr.tup
    obtain ⟨d, z, rfl, h1, h2⟩ := ix_at rv e
    simp only [RD] at rk
    subst rk
    exact ix_tup value slice pins s σ H _ _ v u Q I rx ry ⟨a, xs, i, z, rfl, rfl, ha, h1, q z [] (by simp only [RO, and_true]; exact h2) (fun _ hb => absurd hb (by simp))⟩ hs
  · rename_i os i
    simp only [RO] at ro
    obtain ⟨a, xs, B, rfl, rfl, ha, rv⟩ := ro
    simp only [Option.bind_eq_some_iff] at e
    obtain ⟨j, hj, ho⟩ := e
    obtain ⟨z, C, hz, hr, hC⟩ := rv.get ho
    simp only [RD] at rk
    subst rk
    refine ix_list value slice pins s σ H _ _ v u Q I rx ry ⟨a, xs, i, z, rfl, rfl, SqL.of ha, ?_, q z C hr (fun b hb => List.mem_cons_of_mem _ (hC b hb))⟩ hs
    unfold L2.atI
    rw [rv.len]
    have : L2.ixN os.length i = some j := hj
    rw [this]
    exact hz
  · split at e
    · rename_i kvs k _ hk
      obtain ⟨a, es, rfl, ha, hh⟩ := dictOf_at ro hk rk rfl
      rcases hh with ⟨h1, _⟩ | ⟨p, z, C, h1, h2, h3, hC⟩
      · rw [h1] at e; cases e
      · rw [h1] at e
        cases e
        cases rx
        exact tail_any (dict_typeIs I h2) PySem.F.slot_dict_getitem.lookup (d_getItem (by omega) I h2 ry fun w' s' I' r' => ⟨z, H, I', r', q z C h3 hC⟩) hs
    · cases e
  · split at e
    · rename_i kvs k _ hk
      obtain ⟨a, es, rfl, ha, hh⟩ := dictOf_at ro hk rk rfl
      rcases hh with ⟨h1, _⟩ | ⟨p, z, C, h1, h2, h3, hC⟩
      · rw [h1] at e; cases e
      · rw [h1] at e
        cases e
        cases rx
        exact tail_any (dict_typeIs I h2) PySem.F.slot_dict_getitem.lookup (d_getItem (by omega) I h2 ry fun w' s' I' r' => ⟨z, H, I', r', q z C h3 hC⟩) hs
    · cases e
  · cases e
def RSl (K : PySem.W.Frag) : V → Option Int → Option Int → Hp → VK → Prop := fun x lo hi H Q => ∃ W o1 o A, Dom W H ∧ RO K W H o1 x A ∧ cutO o1 lo hi = some o ∧ To K W H o Q
theorem sl_rule : SlR X (RSl X.K) := by
  intro pins s σ H x v vl vu lo hi sl Q I rx hs pl pu h
  obtain ⟨W, o1, o, A, dm, ro, e, q⟩ := h
  unfold cutO at e
  split at e
  · rename_i ds hd
    simp only [Option.some.injEq] at e
    subst e
    obtain ⟨a, xs, rfl, ha, rv⟩ := ro.seq hd
    exact sl_list pins s σ H _ v vl vu lo hi sl Q I rx hs pl pu ⟨a, xs, rfl, SqL.of ha, fun p hp => q.own dm (rv.cut lo hi) hp⟩
  · rename_i ds hd
    simp only [Option.some.injEq] at e
    subst e
    obtain ⟨a, xs, rfl, wa, ha, rv⟩ := (ro.rd hd).tup
    refine sl_tupZ pins s σ H _ v vl vu lo hi sl Q I rx hs pl pu ⟨a, xs, rfl, ha, fun z => ?_, q.tup dm (rv.cut lo hi)⟩
    refine q.sh dm ?_
    simp only [RD]
    refine ⟨a, xs, rfl, wa, ?_⟩
    have := rv.cut lo hi
    rw [z] at this
    exact this
  · cases e
end

/-! ### the state: what the slots hold -/
section
variable (K : PySem.W.Frag)
structure Sat (W : Addr → Prop) (H : Hp) (env : Env) (σ : L2.St) (A : Nat → List Addr) : Prop where
  len : env.length = σ.length
  at_ : ∀ i o, get env i = some o → ∃ v, σ[i]? = some (some v) ∧ RO K W H o v (A i)
  nil : ∀ i, get env i = none → A i = []
  nd : ∀ i, (A i).Nodup
  dj : ∀ i j a, i ≠ j → a ∈ A i → a ∉ A j
  sep : ∀ i a, a ∈ A i → ¬ W a
  dom : Dom W H
end
def Owns (A : Nat → List Addr) (a : Addr) : Prop := ∃ i, a ∈ A i
structure Tr (W : Addr → Prop) (H : Hp) (A : Addr → Prop) (W' : Addr → Prop) (H' : Hp) (A' : Addr → Prop) : Prop where
  w : ∀ a, W a → W' a
  w2 : ∀ a, W' a → W a ∨ A a ∨ H a = none
  h : ∀ a o, H a = some o → ¬ A a → H' a = some o
  d : ∀ a, H a ≠ none → H' a ≠ none
  a : ∀ a, A' a → A a ∨ H a = none
theorem Tr.refl {W : Addr → Prop} {H : Hp} {A : Addr → Prop} : Tr W H A W H A := ⟨fun _ x => x, fun _ x => .inl x, fun _ _ x _ => x, fun _ x => x, fun _ x => .inl x⟩
theorem Tr.trans {W W1 W2 : Addr → Prop} {H H1 H2 : Hp} {A A1 A2 : Addr → Prop} (a : Tr W H A W1 H1 A1) (b : Tr W1 H1 A1 W2 H2 A2) : Tr W H A W2 H2 A2 := by
  have back : ∀ x, H1 x = none → H x = none := fun x hx => by
    cases e : H x with
    | none => rfl
    | some o => exact absurd hx (a.d x (by rw [e]; simp))
  refine ⟨fun x h => b.w x (a.w x h), fun x h => ?_, fun x o h n => ?_, fun x h => b.d x (a.d x h), fun x h => ?_⟩
  · rcases b.w2 x h with h | h | h
    · exact a.w2 x h
    · rcases a.a x h with h | h
      · exact .inr (.inl h)
      · exact .inr (.inr h)
    · exact .inr (.inr (back x h))
  · refine b.h x o (a.h x o h n) fun z => ?_
    rcases a.a x z with z | z
    · exact n z
    · rw [z] at h; cases h
  · rcases b.a x h with h | h
    · exact a.a x h
    · exact .inr (back x h)
/-- fewer are held behind it, more ahead of it -/
theorem Tr.sub {W W' : Addr → Prop} {H H' : Hp} {A A' B B' : Addr → Prop} (t : Tr W H A W' H' A') (ha : ∀ a, A a → B a) (hb : ∀ a, B' a → A' a) : Tr W H B W' H' B' :=
  ⟨t.w, fun x h => by
    rcases t.w2 x h with h | h | h
    · exact .inl h
    · exact .inr (.inl (ha x h))
    · exact .inr (.inr h), fun x o h n => t.h x o h fun z => n (ha x z), t.d, fun x h => by
    rcases t.a x (hb x h) with h | h
    · exact .inl (ha x h)
    · exact .inr h⟩
section
variable {K : PySem.W.Frag} {W W' : Addr → Prop} {H H' : Hp} {env : Env} {σ : L2.St} {A : Nat → List Addr}
theorem get_put_self : ∀ {env : Env} {i : Nat} {x : Option O}, i < env.length → get (put env i x) i = x
  | [], _, _, h => absurd h (Nat.not_lt_zero _)
  | _ :: _, 0, _, _ => rfl
  | _ :: r, i + 1, x, h => by
    show get (put r i x) i = x
    exact get_put_self (by simpa using h)
theorem get_put_ne : ∀ {env : Env} {i j : Nat} {x : Option O}, i ≠ j → get (put env i x) j = get env j
  | [], _, _, _, _ => rfl
  | _ :: _, 0, 0, _, h => absurd rfl h
  | _ :: _, 0, _ + 1, _, _ => rfl
  | _ :: _, _ + 1, 0, _, _ => rfl
  | _ :: r, i + 1, j + 1, x, h => by
    show get (put r i x) j = get r j
    exact get_put_ne (by omega)
theorem put_len : ∀ {env : Env} {i : Nat} {x : Option O}, (put env i x).length = env.length
  | [], _, _ => rfl
  | _ :: _, 0, _ => rfl
  | _ :: r, i + 1, x => by
    show (put r i x).length + 1 = r.length + 1
    rw [put_len]
theorem get_lt : ∀ {env : Env} {i : Nat} {o : O}, get env i = some o → i < env.length
  | [], _, _, h => by cases h
  | _ :: _, 0, _, _ => Nat.zero_lt_succ _
  | _ :: r, i + 1, o, h => by
    have := get_lt (env := r) (i := i) h
    simpa using this
theorem get_ge : ∀ {env : Env} {i : Nat}, env.length ≤ i → get env i = none
  | [], _, _ => rfl
  | _ :: _, 0, h => by simp at h
  | _ :: r, i + 1, h => get_ge (env := r) (i := i) (by simpa using h)
/-- the heap grows, or what is not ours turns -/
theorem Sat.mono (S : Sat K W H env σ A) (hw : ∀ a, W a → W' a) (hs : ∀ i a, a ∈ A i → ¬ W' a) (dm : Dom W' H') (hh : ∀ a o, (W a ∨ Owns A a) → H a = some o → H' a = some o) : Sat K W' H' env σ A :=
  ⟨S.len, fun i o e => let ⟨v, h1, h2⟩ := S.at_ i o e; ⟨v, h1, RO.mono hw (fun a o h => hh a o (.inl h)) (fun a ha o => hh a o (.inr ⟨i, ha⟩)) h2⟩, S.nil, S.nd, S.dj, hs, dm⟩
/-- one slot is stored anew -/
def updA (A : Nat → List Addr) (i : Nat) (B : List Addr) : Nat → List Addr := fun j => if j = i then B else A j
theorem updA_self {i : Nat} {B : List Addr} : updA A i B i = B := by unfold updA; rw [if_pos rfl]
theorem updA_ne {i j : Nat} {B : List Addr} (h : j ≠ i) : updA A i B j = A j := by unfold updA; rw [if_neg h]
theorem Sat.put (S : Sat K W H env σ A) {i : Nat} {o : O} {v : V} {B : List Addr} (hi : i < env.length) (ro : RO K W H o v B) (nd : B.Nodup) (sep : ∀ b ∈ B, ¬ W b) (dj : ∀ b ∈ B, ∀ j, j ≠ i → b ∉ A j) :
    Sat K W H (put env i (some o)) (σ.set i (some v)) (updA A i B) := by
  have hs : i < σ.length := by rw [← S.len]; exact hi
  refine ⟨by rw [put_len, List.length_set]; exact S.len, fun j p e => ?_, fun j e => ?_, fun j => ?_, fun j k a hjk h1 h2 => ?_, fun j a h => ?_, S.dom⟩
  · by_cases hj : i = j
    · subst hj
      rw [get_put_self hi] at e
      cases e
      exact ⟨v, List.getElem?_set_self hs, by rw [updA_self]; exact ro⟩
    · rw [get_put_ne hj] at e
      obtain ⟨w, h1, h2⟩ := S.at_ j p e
      exact ⟨w, by rw [List.getElem?_set_ne hj]; exact h1, by rw [updA_ne (Ne.symm hj)]; exact h2⟩
  · by_cases hj : i = j
    · subst hj
      rw [get_put_self hi] at e
      cases e
    · rw [get_put_ne hj] at e
      rw [updA_ne (Ne.symm hj)]
      exact S.nil j e
  · by_cases hj : j = i
    · subst hj; rw [updA_self]; exact nd
    · rw [updA_ne hj]; exact S.nd j
  · by_cases hj : j = i
    · subst hj
      rw [updA_self] at h1
      rw [updA_ne (Ne.symm hjk)] at h2
      exact dj a h1 k (Ne.symm hjk) h2
    · rw [updA_ne hj] at h1
      by_cases hk : k = i
      · subst hk
        rw [updA_self] at h2
        exact dj a h2 j hj h1
      · rw [updA_ne hk] at h2
        exact S.dj j k a hjk h1 h2
  · by_cases hj : j = i
    · subst hj; rw [updA_self] at h; exact sep a h
    · rw [updA_ne hj] at h; exact S.sep j a h
/-- .. the value in the slot stays -/
theorem Sat.putE (S : Sat K W H env σ A) {i : Nat} {o : O} {v : V} {B : List Addr} (hv : σ[i]? = some (some v)) (ro : RO K W H o v B) (nd : B.Nodup) (sep : ∀ b ∈ B, ¬ W b) (dj : ∀ b ∈ B, ∀ j, j ≠ i → b ∉ A j) :
    Sat K W H (Ev.put env i (some o)) σ (updA A i B) := by
  have hi : i < env.length := by rw [S.len]; exact (List.getElem?_eq_some_iff.mp hv).1
  have := S.put hi ro nd sep dj
  have e : σ.set i (some v) = σ := by
    apply List.ext_getElem?
    intro j
    by_cases hj : i = j
    · subst hj; rw [List.getElem?_set_self (by rw [← S.len]; exact hi), hv]
    · rw [List.getElem?_set_ne hj]
  rw [e] at this
  exact this
/-- a slot is let go -/
theorem Sat.drop (S : Sat K W H env σ A) (i : Nat) : Sat K W H (Ev.put env i none) σ (updA A i []) := by
  refine ⟨by rw [put_len]; exact S.len, fun j p e => ?_, fun j e => ?_, fun j => ?_, fun j k a hjk h1 h2 => ?_, fun j a h => ?_, S.dom⟩
  · by_cases hj : i = j
    · subst hj
      by_cases hi : i < env.length
      · rw [get_put_self hi] at e; cases e
      · have := get_lt e
        rw [put_len] at this
        exact absurd this hi
    · rw [get_put_ne hj] at e
      obtain ⟨w, h1, h2⟩ := S.at_ j p e
      exact ⟨w, h1, by rw [updA_ne (Ne.symm hj)]; exact h2⟩
  · by_cases hj : i = j
    · subst hj; rw [updA_self]
    · rw [get_put_ne hj] at e
      rw [updA_ne (Ne.symm hj)]
      exact S.nil j e
  · by_cases hj : j = i
    · subst hj; rw [updA_self]; exact .nil
    · rw [updA_ne hj]; exact S.nd j
  · by_cases hj : j = i
    · subst hj
      rw [updA_self] at h1
      exact absurd h1 (by simp)
    · rw [updA_ne hj] at h1
      by_cases hk : k = i
      · subst hk
        rw [updA_self] at h2
        exact absurd h2 (by simp)
      · rw [updA_ne hk] at h2
        exact S.dj j k a hjk h1 h2
  · by_cases hj : j = i
    · subst hj; rw [updA_self] at h; exact absurd h (by simp)
    · rw [updA_ne hj] at h; exact S.sep j a h
/-- a slot's own is given to all -/
theorem Sat.share (S : Sat K W H env σ A) {i : Nat} {o p : O} (hg : get env i = some o) (hs : o.share = some p) : ∃ W', (∀ a, W' a ↔ (W a ∨ a ∈ A i)) ∧ Sat K W' H (Ev.put env i (some p)) σ (updA A i []) := by
  obtain ⟨v, hv, ro⟩ := S.at_ i o hg
  refine ⟨fun a => W a ∨ a ∈ A i, fun _ => .rfl, ?_⟩
  have hd : ∀ a ∈ A i, H a ≠ none := by
    exact ro.there
  have S1 := S.drop i
  have S2 : Sat K (fun a => W a ∨ a ∈ A i) H (Ev.put env i none) σ (updA A i []) := S1.mono (fun _ x => .inl x) (fun j a h z => by
    by_cases hj : j = i
    · subst hj; rw [updA_self] at h; exact absurd h (by simp)
    · rw [updA_ne hj] at h
      rcases z with z | z
      · exact S.sep j a h z
      · exact S.dj j i a hj h z) (fun a h => by
    rcases h with h | h
    · exact S.dom a h
    · exact hd a h) fun _ _ _ e => e
  have := S2.putE (i := i) (o := p) (v := v) (B := []) hv (ro.share (fun _ x => .inl x) (fun a h => .inr h) hs).1 .nil (fun _ z => absurd z (by simp)) (fun _ z => absurd z (by simp))
  have e1 : Ev.put (Ev.put env i none) i (some p) = Ev.put env i (some p) := put_put
  have e2 : updA (updA A i []) i [] = updA A i [] := by
    funext j
    unfold updA
    split <;> rfl
  rw [e1, e2] at this
  exact this
where
  put_put {env : Env} {i : Nat} {x y : Option O} : Ev.put (Ev.put env i x) i y = Ev.put env i y := by
    induction env generalizing i with
    | nil => rfl
    | cons a r ih =>
      cases i with
      | zero => rfl
      | succ i =>
        show a :: Ev.put (Ev.put r i x) i y = a :: Ev.put r i y
        rw [ih]
end
end Ev
set_option Elab.async false
set_option linter.all false
set_option maxRecDepth 100000
set_option maxHeartbeats 1000000
/-! enumerate of a tuple -/
namespace PySem
open Sem (wp)
open AutoSeq1 (wpAny_loadPart')
theorem meets_enumerate_newT (l : Addr) (items : Array Value) (n : Nat) (dct : Option Addr) (sl : Array (Option Value)) :
    Meets (Builtin.«enumerate.__new__» ⟨[.type "enumerate", .ref l], []⟩) (fun _ R s => s.heap.get? l = some { cls := .type "tuple", dict := dct, data := .seq items n, slots := sl } ∧
      R (.ok (.ret (.ref (s.heap.push { cls := .type "tuple_iterator", data := .fields #[.ref l, .int 0 0] }).objs.size)))
        { s with heap := (s.heap.push { cls := .type "tuple_iterator", data := .fields #[.ref l, .int 0 0] }).push { cls := .type "enumerate", data := .fields #[.none, .bool false, .ref s.heap.objs.size, rawInt 0, .none, .none] } }) :=
  .of_wp fun prog w A R s h => by
    obtain ⟨hp, g, d, tk, os⟩ := s; obtain ⟨hl, h⟩ := h
    have hsub := sub_enumerate
    have hL : Heap.IsTuple (Shared.heap ⟨hp, g, d, tk, os⟩) l items := ⟨_, hl, rfl, n, rfl⟩
    wp_walk using wpAny_loadPart' hl
    refine wpAny_stack_any fun st => wpAny_pure ?_
    split
    · rename_i c _ _ _ _ _
      cases (c == Value.type "enumerate")
      · wp_walk using wpAny_loadPart' hl, wpAny_pyIter_tuple hL
        exact ⟨_, rfl, h⟩
      · wp_walk using wpAny_loadPart' hl, wpAny_pyIter_tuple hL
        exact ⟨_, rfl, h⟩
    · wp_walk using wpAny_loadPart' hl, wpAny_pyIter_tuple hL
      exact ⟨_, rfl, h⟩
theorem call_enumerate_tuple {prog : Program} {w : World} {A : Around} {E : Value → Shared → Prop} {s : Shared} {l : Addr} {items : Array Value} {Q : Value → Shared → Prop} (hL : s.heap.IsTuple l items)
    (h : ∀ h', IsEnum h' (s.heap.objs.size + 1) s.heap.objs.size 0 .none → h'.IsTupleIter s.heap.objs.size l 0 → h'.objs.size = s.heap.objs.size + 2 →
      (∀ b o, s.heap.get? b = some o → h'.get? b = some o) → Q (.ref (s.heap.objs.size + 1)) { s with heap := h' }) :
    wpAny (model prog w) A (call (.type "enumerate") [.ref l]) Q E s := by
  obtain ⟨⟨c, dct, dt, sl⟩, hl, hc, n, hd⟩ := hL
  replace hc : c = .type "tuple" := hc
  replace hd : dt = .seq items n := hd
  subst hc hd
  refine callType_new F.called_enumerate (by decide) (F.typeCall_enumerate_1 _) (F.newCall_enumerate_1 _) (fun obj => F.args_object_init_2 obj _) F.entry_enumerate_new
    (meets_enumerate_newT l items n dct sl) ⟨hl, ?_⟩
  have hz : (s.heap.push { cls := .type "tuple_iterator", data := .fields #[.ref l, .int 0 0] }).objs.size = s.heap.objs.size + 1 := Heap.size_push ..
  show _ ∧ _
  rw [hz]
  have he : IsEnum ((s.heap.push { cls := .type "tuple_iterator", data := .fields #[.ref l, .int 0 0] }).push
      { cls := .type "enumerate", data := .fields #[.none, .bool false, .ref s.heap.objs.size, rawInt 0, .none, .none] }) (s.heap.objs.size + 1) s.heap.objs.size 0 .none := by
    have := Heap.get?_push_size (s.heap.push { cls := .type "tuple_iterator", data := .fields #[.ref l, .int 0 0] })
      (o := { cls := .type "enumerate", data := .fields #[.none, .bool false, .ref s.heap.objs.size, rawInt 0, .none, .none] }) rfl
    rw [hz] at this; exact this
  refine ⟨⟨_, he, rfl⟩, h _ he ⟨_, Heap.get?_push_of_some _ (Heap.get?_push_size _ rfl), rfl, rfl⟩ (by rw [Heap.size_push, hz]) fun b o x => Heap.get?_push_of_some _ (Heap.get?_push_of_some _ x)⟩
end PySem
namespace Ev
open PySem PySem.Spec PyProof.Rows L2
def IteT (K : PySem.W.Frag) (a : Addr) : L2.It :=
  ⟨fun i H => ∃ (xs : List V) (x : V), SqT K H a xs ∧ xs[i]? = some x, fun i H v H' => ∃ T x, v = .ref T ∧ H T = none ∧ H' = upd H T (.tup [.int (i : Nat), x]) ∧ ∀ xs, SqT K H a xs → xs[i]? = some x, fun i H => ∃ xs : List V, SqT K H a xs ∧ xs.length ≤ i⟩
theorem turn_enumT {P : Program} {w : World} {K : PySem.W.Frag} {elts : List Expr} {kk : Nat} {tpos : Pos} (a e it : Addr) (hne : a ≠ it) :
    Turn P w K (.Tuple elts kk tpos) (IteT K a) [e, it] e (fun i h => (∃ old, IsEnum h e it ((i : Nat) : Int) old) ∧ h.IsTupleIter it a i ∧ e ≠ it ∧ e ≠ a) where
  mem := by simp
  obj := fun i h st b hb => by
    obtain ⟨⟨old, he⟩, ⟨o, ho, hc, hd⟩, _⟩ := st
    have e' : b = e ∨ b = it := by simpa using hb
    rcases e' with z | z
    · rw [z]; exact ⟨_, he, fun v q => nomatch q⟩
    · rw [z]; exact ⟨o, ho, fun v q => by rw [hd] at q; cases q⟩
  keep := fun i h h' st k => let ⟨⟨old, he⟩, hi, hne⟩ := st; ⟨⟨old, k e (by simp) _ he⟩, hi.at fun o q => k it (by simp) o q, hne⟩
  item := by
    intro X hP hw hK hc i pins s σ H E I hf st hg
    subst hP hw hK
    obtain ⟨⟨old, he⟩, hit, hne', hea⟩ := st
    obtain ⟨xs, x, hq, hx⟩ := hg
    obtain ⟨its, rv, p, hz⟩ := I.tuple hq
    obtain ⟨u, hu, ru⟩ := rv.get hx
    have hel : e < s.heap.objs.size := Heap.lt_size he
    have hil : it < s.heap.objs.size := by obtain ⟨_, q, _⟩ := hit; exact Heap.lt_size q
    have hsz : i < its.toArray.size := by
      rw [List.size_toArray]
      exact (List.getElem?_eq_some_iff.mp hu).1
    refine wpAny_pyNext_enum_itemD (n := its.toArray.size) (Draws.tuple (prog := X.prog) (w := X.w) (A := X.A.in1) (I.ok.hd hc) it a hne its.toArray) he ⟨hit, show s.heap.IsTuple a its.toArray from p⟩ hsz hne' (by simp only [List.mem_cons, List.not_mem_nil, or_false, not_or]; exact ⟨hne', hea⟩) fun x' h' tk hx' ho hit' hT hsz' hk => ?_
    obtain ⟨hit', _⟩ := hit'
    have ex : x' = u := by
      have : its.toArray[i]? = some u := by simpa using hu
      rw [this] at hx'
      exact (Option.some.inj hx').symm
    subst ex
    refine ⟨_, rfl, wpAny_letOwnedTupleGo_enum (s := { s with heap := h', toks := tk + 1 }) ho fun h'' he' sb => ?_⟩
    have hT2 : h''.get? s.heap.objs.size = some { cls := .type "tuple", data := .seq #[.int i tk, x'] } := (sb.2 _ (Nat.ne_of_gt hel)).trans hT
    have new : ObjOk X.prog X.w (upd H s.heap.objs.size (.tup [.int (i : Nat), x])) h'' s.heap.objs.size (.tup [.int (i : Nat), x]) :=
      ⟨by show 2 ≤ sizeLine; decide, [.int i tk, x'], .cons ⟨_, rfl⟩ (.cons ru .nil), ⟨_, hT2, rfl, _, rfl⟩⟩
    have I1 : Inv X pins σ (upd H s.heap.objs.size (.tup [.int (i : Nat), x])) { s with heap := h'', toks := tk + 1 } :=
      I.turnedNew (ch := [e, it]) (fun b ob hb q => (sb.2 b (fun z => hb (by simp [z]))).trans (hk b ob (fun z => hb (by simp [z])) (fun z => hb (by simp [z])) q)) hf (Nat.le_refl _) new
    refine ⟨.ref s.heap.objs.size, _, I1, rfl, ⟨_, x, rfl, I.hok.fresh (Nat.le_refl _), rfl, fun ys hy => by rw [I.tuple_inj hy hq]; exact hx⟩, ⟨⟨x', ?_⟩, hit'.at fun o q => (sb.2 it (Ne.symm hne')).trans q, hne', hea⟩, fun b hb => ?_⟩
    · have e1 : ((i + 1 : Nat) : Int) = (i : Int) + 1 := by omega
      rw [e1]; exact he'
    · have hb' : b < s.heap.objs.size := by
        have e' : b = e ∨ b = it := by simpa using hb
        rcases e' with z | z
        · rw [z]; exact hel
        · rw [z]; exact hil
      rw [upd_ne (Nat.ne_of_lt hb')]
      exact (hf b hb).1
  done := by
    intro X hP hw hK hc i pins s σ H E I hf st hg
    subst hP hw hK
    obtain ⟨⟨old, he⟩, hit, hne', hea⟩ := st
    obtain ⟨xs, hq, hx⟩ := hg
    obtain ⟨its, rv, p, hz⟩ := I.tuple hq
    obtain ⟨f0, f1, f2, f3, f4, f5⟩ := hf it (by simp)
    have hl := rv.length
    have hT : s.TypeIs (.ref e) "enumerate" := ⟨_, he, rfl⟩
    unfold pyNext
    refine wpAny_bind (wpAny_attempt (wpAny_callSpecial?_slot (name := Str.ofString "__next__") hT F.slot_enumerate_next
      (wpAny_call_entry F.slot_enumerate_next hT F.entry_enumerate_next ?_ (F.args_enumerate_next_1 _))))
    show wpAny _ _ (field (.ref e) 2 >>= _) _ _ _
    refine wpAny_bind (wpAny_field he rfl (x := .ref it) rfl ?_)
    refine wpAny_bind (wpAny_nextOf_tuple_end (show X.A.in1.handled = none from I.ok.hd hc) hit (show s.heap.IsTuple a its.toArray from p) (by simp; omega) fun h' x he' hx' => ?_)
    obtain ⟨o, ho, hc⟩ := hx'
    refine wpAny_bind (wpAny_isInstance (T := "StopIteration") (b := true) ⟨o, ho, hc⟩ isSubtype_stop ?_)
    exact wpAny_pure ⟨rfl, I.turned (t' := s.toks) (fun b o hb q => he' b o hb q) f0 f1 f3 f4 f5⟩
  self := fun A i s Q E st h => let ⟨⟨_, he⟩, _⟩ := st; wpAny_pyIter_enum he h
def iEnumT (K : PySem.W.Frag) (ta : TA) : TI := fun σ H R => ta σ H fun vs H1 => ∃ a xs, vs = [.ref a] ∧ SqT K H1 a xs ∧ R (IteT K a) H1
theorem pi_enumT {X : L2.Cx} {e : Expr} {ta : TA} {p pos tpos : Pos} {elts : List Expr} {kk : Nat} (hg : Gl X "enumerate") (hm : X.mg "enumerate" = none) (ha : PA X [e] ta) (hs : starEach [e] X.env = [(false, eval e X.env)] := by rfl) :
    PI X (.Tuple elts kk tpos) (.Call (.Name "enumerate" p) [e] [] pos) (iEnumT X.K ta) := by
  refine ⟨fun pins s σ H R I h => ?_⟩
  refine Call_ (ld_blt I hg hm boot_enumerate (PyProof.Rows.callWith_type1 (thn (ha.run pos pins s σ H _ I h) fun us s1 ⟨vs, H1, I1, r1, q1⟩ => ?_) hs rfl))
  obtain ⟨a, xs, ex, hq, q⟩ := q1
  subst ex
  cases r1 with
  | cons r rr =>
    cases rr
    cases r
    obtain ⟨its, rv, p', hz⟩ := I1.tuple hq
    have hal : a < s1.heap.objs.size := by obtain ⟨o, ho, _⟩ := p'; exact Heap.lt_size ho
    refine call_enumerate_tuple (show s1.heap.IsTuple a its.toArray from p') fun h' he hit hsz hk => wpAny_pyIter_enum he ?_
    have I2 : Inv X pins σ H1 { s1 with heap := h' } := I1.kept (t' := s1.toks) hk
    refine ⟨s1.heap.objs.size + 1, [s1.heap.objs.size + 1, s1.heap.objs.size], _, _, H1, rfl, I2, turn_enumT a (s1.heap.objs.size + 1) s1.heap.objs.size (Nat.ne_of_lt hal), ⟨⟨.none, he⟩, hit, Nat.succ_ne_self _, Nat.ne_of_gt (Nat.lt_succ_of_lt hal)⟩, fun b hb => ?_, q⟩
    have e' : b = s1.heap.objs.size + 1 ∨ b = s1.heap.objs.size := by simpa using hb
    have hle : s1.heap.objs.size ≤ b := by
      rcases e' with z | z
      · rw [z]; exact Nat.le_succ _
      · rw [z]; exact Nat.le_refl _
    exact I1.fpOk hle (I1.hok.fresh hle)
end Ev
set_option Elab.async false
set_option linter.all false
set_option maxRecDepth 100000
set_option maxHeartbeats 1000000
namespace Ev
open PySem PySem.Spec PyProof.Rows L2 RZ
/-! ### what a loop walks -/
/-- what is shared stays -/
structure Pr (W : Addr → Prop) (H : Hp) (W' : Addr → Prop) (H' : Hp) : Prop where
  w : ∀ a, W a → W' a
  h : ∀ a o, W a → H a = some o → H' a = some o
theorem Pr.refl {W : Addr → Prop} {H : Hp} : Pr W H W H := ⟨fun _ x => x, fun _ _ _ x => x⟩
theorem Pr.trans {W W1 W2 : Addr → Prop} {H H1 H2 : Hp} (a : Pr W H W1 H1) (b : Pr W1 H1 W2 H2) : Pr W H W2 H2 := ⟨fun x h => b.w x (a.w x h), fun x o h e => b.h x o (a.w x h) (a.h x o h e)⟩
theorem Pr.ro {K : PySem.W.Frag} {W W' : Addr → Prop} {H H' : Hp} (p : Pr W H W' H') {o : O} {v : V} (h : RO K W H o v []) : RO K W' H' o v [] := RO.mono p.w p.h (fun _ z => absurd z (by simp)) h
theorem Pr.rds {K : PySem.W.Frag} {W W' : Addr → Prop} {H H' : Hp} (p : Pr W H W' H') {d : List D} {v : List V} (h : RDs K W H d v) : RDs K W' H' d v := RDs.mono p.w p.h h
theorem Pr.rd {K : PySem.W.Frag} {W W' : Addr → Prop} {H H' : Hp} (p : Pr W H W' H') {d : D} {v : V} (h : RD K W H d v) : RD K W' H' d v := RD.mono p.w p.h h
/-- a value for a target: a tuple that goes to names at once may be any tuple -/
def RV (K : PySem.W.Frag) (W : Addr → Prop) (H : Hp) (weak : Bool) (o : O) (v : V) (B : List Addr) : Prop :=
  if weak then ∃ ds a xs, o = .sh (.tup ds) ∧ v = .ref a ∧ SqT K H a xs ∧ RDs K W H ds xs ∧ B = [] else RO K W H o v B
structure Wk (K : PySem.W.Frag) (W : Addr → Prop) (H : Hp) (weak : Bool) (J : L2.It) (xs : List O) : Prop where
  go : ∀ W' H' i, Pr W H W' H' → Dom W' H' → i < xs.length → J.go i H'
  yld : ∀ W' H' i x H'' o, Pr W H W' H' → Dom W' H' → J.yld i H' x H'' → xs[i]? = some o →
    ∃ W'', (∀ a, W' a → W'' a) ∧ (∀ a, W'' a → W' a ∨ H' a = none) ∧ (∀ a u, H' a = some u → H'' a = some u) ∧ Dom W'' H'' ∧ RV K W'' H'' weak o x []
  stop : ∀ W' H', Pr W H W' H' → Dom W' H' → J.stop xs.length H'
section
variable {K : PySem.W.Frag} {W : Addr → Prop} {H : Hp}
theorem ro_sh {d : D} {v : V} (h : RD K W H d v) : RO K W H (.sh d) v [] := by simp only [RO, and_true]; exact h
theorem RO.sh_inv {d : D} {v : V} {A : List Addr} (h : RO K W H (.sh d) v A) : RD K W H d v ∧ A = [] := by simpa only [RO] using h
theorem get_map {α β : Type} {f : α → β} {xs : List α} {i : Nat} {y : β} (h : (xs.map f)[i]? = some y) : ∃ x, xs[i]? = some x ∧ f x = y := by
  rw [List.getElem?_map] at h
  cases e : xs[i]? with
  | none => rw [e] at h; cases h
  | some x => rw [e] at h; exact ⟨x, rfl, Option.some.inj h⟩
theorem wk_list {ds : List D} {a : Addr} (h : RD K W H (.lst ds) (.ref a)) : Wk K W H false (Itl K a) (ds.map O.sh) := by
  simp only [RD] at h
  obtain ⟨a', xs, e, wa, ha, rv⟩ := h
  cases e
  refine ⟨fun W' H' i p _ hi => ?_, fun W' H' i x H'' o p dm y ho => ?_, fun W' H' p _ => ?_⟩
  · have hi : i < xs.length := by rw [rv.len]; simpa using hi
    exact ⟨xs, xs[i], SqL.of (p.h a _ wa ha), by simp [hi]⟩
  · obtain ⟨rfl, y⟩ := y
    obtain ⟨d, hd, rfl⟩ := get_map ho
    obtain ⟨z, hz, hr⟩ := rv.get hd
    have := y xs (SqL.of (p.h a _ wa ha))
    rw [hz] at this
    cases this
    exact ⟨W', fun _ h => h, fun _ h => .inl h, fun _ _ h => h, dm, ro_sh (p.rd hr)⟩
  · exact ⟨xs, SqL.of (p.h a _ wa ha), by rw [rv.len]; simp⟩
theorem wk_tup {ds : List D} {a : Addr} (h : RD K W H (.tup ds) (.ref a)) : Wk K W H false (Itt K a) (ds.map O.sh) := by
  simp only [RD] at h
  obtain ⟨a', xs, e, wa, rv⟩ := h
  cases e
  have sq : ∀ W' H', Pr W H W' H' → SqT K H' a xs := fun W' H' p => by
    rcases wa with ⟨w, o, h, _⟩ | h
    · exact .inl (.inr ⟨o, p.h a _ w h⟩)
    · exact h.seq
  refine ⟨fun W' H' i p _ hi => ?_, fun W' H' i x H'' o p dm y ho => ?_, fun W' H' p _ => ?_⟩
  · have hi : i < xs.length := by rw [rv.len]; simpa using hi
    exact ⟨xs, xs[i], sq W' H' p, by simp [hi]⟩
  · obtain ⟨rfl, y⟩ := y
    obtain ⟨d, hd, rfl⟩ := get_map ho
    obtain ⟨z, hz, hr⟩ := rv.get hd
    have := y xs (sq _ _ p)
    rw [hz] at this
    cases this
    exact ⟨W', fun _ h => h, fun _ h => .inl h, fun _ _ h => h, dm, ro_sh (p.rd hr)⟩
  · exact ⟨xs, sq W' H' p, by rw [rv.len]; simp⟩
theorem wk_scr {ns : List Int} {a : Addr} (h : RO K W H (.scr ns) (.ref a) []) : Wk K W H false (Itl K a) (ns.map fun n => O.sh (.int n)) := by
  simp only [RO, and_true] at h
  obtain ⟨a', e, ha⟩ := h
  cases e
  have sq : ∀ W' H', Pr W H W' H' → SqL K H' a (ns.map V.int) := fun W' H' p => by
    rcases ha with ⟨w, h | ⟨o, h⟩⟩ | h
    · exact .inl (.inl (p.h a _ w h))
    · exact .inl (.inr ⟨o, p.h a _ w h⟩)
    · exact h.seq
  refine ⟨fun W' H' i p _ hi => ?_, fun W' H' i x H'' o p dm y ho => ?_, fun W' H' p _ => ?_⟩
  · have hi : i < (ns.map V.int).length := by simpa using hi
    exact ⟨_, (ns.map V.int)[i], sq W' H' p, by simp [hi]⟩
  · obtain ⟨rfl, y⟩ := y
    obtain ⟨n, hn, rfl⟩ := get_map ho
    have := y _ (sq _ _ p)
    rw [List.getElem?_map, hn] at this
    cases this
    exact ⟨W', fun _ h => h, fun _ h => .inl h, fun _ _ h => h, dm, ro_sh (by simp [RD])⟩
  · exact ⟨_, sq W' H' p, by simp⟩
theorem rangeD_len {lo : Int} {n : Nat} : (rangeD lo n).length = n := by simp [rangeD]
theorem wk_range {lo : Int} {n : Nat} : Wk K W H false (Itr lo n) (rangeD lo n) := by
  refine ⟨fun W' H' i p _ hi => ?_, fun W' H' i x H'' o p dm y ho => ?_, fun W' H' p _ => ?_⟩
  · rw [rangeD_len] at hi; exact hi
  · obtain ⟨rfl, rfl⟩ := y
    obtain ⟨k, hk, rfl⟩ := get_map (f := fun k : Nat => O.sh (.int (lo + (k : Nat)))) ho
    have : k = i := by
      rw [List.getElem?_eq_some_iff] at hk
      obtain ⟨_, hk⟩ := hk
      simpa using hk.symm
    subst this
    exact ⟨W', fun _ h => h, fun _ h => .inl h, fun _ _ h => h, dm, ro_sh (by simp [RD])⟩
  · rw [rangeD_len]; exact Nat.le_refl _
theorem downD_len {lo : Int} {n : Nat} : (downD lo n).length = n := by simp [downD]
theorem wk_down {lo : Int} {n : Nat} : Wk K W H false (Itc lo (-1) n) (downD lo n) := by
  refine ⟨fun W' H' i p _ hi => ?_, fun W' H' i x H'' o p dm y ho => ?_, fun W' H' p _ => ?_⟩
  · rw [downD_len] at hi; exact hi
  · obtain ⟨rfl, rfl⟩ := y
    obtain ⟨k, hk, rfl⟩ := get_map (f := fun k : Nat => O.sh (.int (lo - (k : Nat)))) ho
    have : k = i := by
      rw [List.getElem?_eq_some_iff] at hk
      obtain ⟨_, hk⟩ := hk
      simpa using hk.symm
    subst this
    exact ⟨W', fun _ h => h, fun _ h => .inl h, fun _ _ h => h, dm, ro_sh (by simp only [RD, V.int.injEq]; omega)⟩
  · rw [downD_len]; exact Nat.le_refl _
theorem enumD_get : ∀ {ds : List D} {k i : Nat} {o : O}, (enumD k ds)[i]? = some o → ∃ d, ds[i]? = some d ∧ o = .sh (.tup [.int ((k + i : Nat) : Int), d])
  | [], _, _, _, h => by simp [enumD] at h
  | d :: ds, k, 0, o, h => by
    simp only [enumD, List.getElem?_cons_zero, Option.some.injEq] at h
    exact ⟨d, by simp, by rw [← h]; rfl⟩
  | d :: ds, k, i + 1, o, h => by
    simp only [enumD, List.getElem?_cons_succ] at h
    obtain ⟨e, h1, h2⟩ := enumD_get h
    exact ⟨e, by simpa using h1, by rw [h2]; congr 5; omega⟩
theorem enumD_len : ∀ {ds : List D} {k : Nat}, (enumD k ds).length = ds.length
  | [], _ => rfl
  | d :: ds, k => by
    show (enumD (k + 1) ds).length + 1 = ds.length + 1
    rw [enumD_len]
theorem pair_new {W' : Addr → Prop} {H' H'' : Hp} {T : Addr} {x y : V} {d e : D} (dm : Dom W' H') (hT : H' T = none) (eH : H'' = upd H' T (.tup [x, y])) (r1 : RD K W' H' d x) (r2 : RD K W' H' e y) :
    ∃ W'', (∀ a, W' a → W'' a) ∧ (∀ a, W'' a → W' a ∨ H' a = none) ∧ (∀ a u, H' a = some u → H'' a = some u) ∧ Dom W'' H'' ∧ RV K W'' H'' true (.sh (.tup [d, e])) (.ref T) [] := by
  subst eH
  have kp := upd_keep (u := .tup [x, y]) hT
  have p : Pr W' H' W' (upd H' T (.tup [x, y])) := ⟨fun _ h => h, fun a o _ e => kp a o e⟩
  refine ⟨W', fun _ h => h, fun _ h => .inl h, kp, fun a h => ?_, ?_⟩
  · rw [upd_ne (fun z => dm a h (by rw [z]; exact hT))]
    exact dm a h
  · exact ⟨[d, e], T, [x, y], rfl, rfl, SqT.of upd_same, RDs.cons (p.rd r1) (RDs.cons (p.rd r2) RDs.nil), rfl⟩
theorem wk_enumL {ds : List D} {a : Addr} (h : RD K W H (.lst ds) (.ref a)) : Wk K W H true (Ite K a) (enumD 0 ds) := by
  simp only [RD] at h
  obtain ⟨a', xs, e, wa, ha, rv⟩ := h
  cases e
  refine ⟨fun W' H' i p _ hi => ?_, fun W' H' i x H'' o p dm y ho => ?_, fun W' H' p _ => ?_⟩
  · have hi : i < xs.length := by rw [rv.len]; rw [enumD_len] at hi; exact hi
    exact ⟨xs, xs[i], SqL.of (p.h a _ wa ha), by simp [hi]⟩
  · obtain ⟨T, z, rfl, hT, eH, y⟩ := y
    obtain ⟨d, hd, rfl⟩ := enumD_get ho
    obtain ⟨z', hz, hr⟩ := rv.get hd
    have := y xs (SqL.of (p.h a _ wa ha))
    rw [hz] at this
    cases this
    rw [Nat.zero_add]
    exact pair_new dm hT eH (by simp [RD]) (p.rd hr)
  · exact ⟨xs, SqL.of (p.h a _ wa ha), by rw [rv.len, enumD_len]; exact Nat.le_refl _⟩
theorem wk_enumT {ds : List D} {a : Addr} (h : RD K W H (.tup ds) (.ref a)) : Wk K W H true (IteT K a) (enumD 0 ds) := by
  simp only [RD] at h
  obtain ⟨a', xs, e, wa, rv⟩ := h
  cases e
  have sq : ∀ W' H', Pr W H W' H' → SqT K H' a xs := fun W' H' p => by
    rcases wa with ⟨w, o, h, _⟩ | h
    · exact .inl (.inr ⟨o, p.h a _ w h⟩)
    · exact h.seq
  refine ⟨fun W' H' i p _ hi => ?_, fun W' H' i x H'' o p dm y ho => ?_, fun W' H' p _ => ?_⟩
  · have hi : i < xs.length := by rw [rv.len]; rw [enumD_len] at hi; exact hi
    exact ⟨xs, xs[i], sq _ _ p, by simp [hi]⟩
  · obtain ⟨T, z, rfl, hT, eH, y⟩ := y
    obtain ⟨d, hd, rfl⟩ := enumD_get ho
    obtain ⟨z', hz, hr⟩ := rv.get hd
    have := y xs (sq _ _ p)
    rw [hz] at this
    cases this
    rw [Nat.zero_add]
    exact pair_new dm hT eH (by simp [RD]) (p.rd hr)
  · exact ⟨xs, sq _ _ p, by rw [rv.len, enumD_len]; exact Nat.le_refl _⟩
theorem zipD_get : ∀ {ds es : List D} {i : Nat} {o : O}, (zipD ds es)[i]? = some o → ∃ d e, ds[i]? = some d ∧ es[i]? = some e ∧ o = .sh (.tup [d, e])
  | [], _, _, _, h => by simp [zipD] at h
  | _ :: _, [], _, _, h => by simp [zipD] at h
  | d :: ds, e :: es, 0, o, h => by
    simp only [zipD, List.getElem?_cons_zero, Option.some.injEq] at h
    exact ⟨d, e, by simp, by simp, h.symm⟩
  | d :: ds, e :: es, i + 1, o, h => by
    simp only [zipD, List.getElem?_cons_succ] at h
    obtain ⟨d', e', h1, h2, h3⟩ := zipD_get h
    exact ⟨d', e', by simpa using h1, by simpa using h2, h3⟩
theorem zipD_len : ∀ {ds es : List D}, (zipD ds es).length = min ds.length es.length
  | [], _ => by simp [zipD]
  | _ :: _, [] => by simp [zipD]
  | d :: ds, e :: es => by
    show (zipD ds es).length + 1 = min (ds.length + 1) (es.length + 1)
    rw [zipD_len]
    omega
theorem wk_zipL {ds es : List D} {a b : Addr} (h : RD K W H (.lst ds) (.ref a)) (h2 : RD K W H (.lst es) (.ref b)) : Wk K W H true (Itz K a b) (zipD ds es) := by
  simp only [RD] at h h2
  obtain ⟨a', xs, e, wa, ha, rv⟩ := h
  obtain ⟨b', ys, e2, wb, hb, rw_⟩ := h2
  cases e
  cases e2
  refine ⟨fun W' H' i p _ hi => ?_, fun W' H' i x H'' o p dm y ho => ?_, fun W' H' p _ => ?_⟩
  · rw [zipD_len] at hi
    have hi1 : i < xs.length := by rw [rv.len]; omega
    have hi2 : i < ys.length := by rw [rw_.len]; omega
    exact ⟨xs, ys, xs[i], ys[i], SqL.of (p.h a _ wa ha), SqL.of (p.h b _ wb hb), by simp [hi1], by simp [hi2]⟩
  · obtain ⟨T, z, u, rfl, hT, eH, y1, y2⟩ := y
    obtain ⟨d, e, hd, he, rfl⟩ := zipD_get ho
    obtain ⟨z', hz, hr⟩ := rv.get hd
    obtain ⟨u', hu, hr2⟩ := rw_.get he
    have t1 := y1 xs (SqL.of (p.h a _ wa ha))
    have t2 := y2 ys (SqL.of (p.h b _ wb hb))
    rw [hz] at t1
    rw [hu] at t2
    cases t1
    cases t2
    exact pair_new dm hT eH (p.rd hr) (p.rd hr2)
  · refine ⟨xs, ys, SqL.of (p.h a _ wa ha), SqL.of (p.h b _ wb hb), ?_⟩
    rw [zipD_len, rv.len, rw_.len]
    omega
theorem wk_zipT {ds es : List D} {a b : Addr} (h : RD K W H (.tup ds) (.ref a)) (h2 : RD K W H (.tup es) (.ref b)) : Wk K W H true (ItzT K a b) (zipD ds es) := by
  obtain ⟨a', xs, e, wa, _, rv⟩ := RR.tup h.rr
  obtain ⟨b', ys, e2, wb, _, rw_⟩ := RR.tup h2.rr
  cases e
  cases e2
  have sq : ∀ {c zs}, ((W c ∧ TupAt H c zs) ∨ KTup K c zs) → ∀ W' H', Pr W H W' H' → SqT K H' c zs := fun {c zs} wa W' H' p => by
    rcases wa with ⟨w, o, h, _⟩ | h
    · exact .inl (.inr ⟨o, p.h c _ w h⟩)
    · exact h.seq
  refine ⟨fun W' H' i p _ hi => ?_, fun W' H' i x H'' o p dm y ho => ?_, fun W' H' p _ => ?_⟩
  · rw [zipD_len] at hi
    have hi1 : i < xs.length := by rw [rv.len]; omega
    have hi2 : i < ys.length := by rw [rw_.len]; omega
    exact ⟨xs, ys, xs[i], ys[i], sq wa _ _ p, sq wb _ _ p, by simp [hi1], by simp [hi2]⟩
  · obtain ⟨T, z, u, rfl, hT, eH, y1, y2⟩ := y
    obtain ⟨d, e, hd, he, rfl⟩ := zipD_get ho
    obtain ⟨z', hz, hr⟩ := rv.get hd
    obtain ⟨u', hu, hr2⟩ := rw_.get he
    have t1 := y1 xs (sq wa _ _ p)
    have t2 := y2 ys (sq wb _ _ p)
    rw [hz] at t1
    rw [hu] at t2
    cases t1
    cases t2
    exact pair_new dm hT eH (p.rd hr) (p.rd hr2)
  · refine ⟨xs, ys, sq wa _ _ p, sq wb _ _ p, ?_⟩
    rw [zipD_len, rv.len, rw_.len]
    omega
end
/-! no list, no tuple is too long -/
def HL (K : PySem.W.Frag) (H : Hp) : Prop := ∀ a xs, (SqL K H a xs ∨ SqT K H a xs) → xs.length ≤ cap
theorem hl_of {X : L2.Cx} {pins : List (Addr × Obj)} {σ : L2.St} {H : Hp} {s : Shared} (I : Inv X pins σ H s) : HL X.K H := fun a xs h => by
  rw [cap_eq]
  rcases h with h | h
  · obtain ⟨_, _, _, z⟩ := I.list h; exact z
  · obtain ⟨_, _, _, z⟩ := I.tuple h; exact z
theorem PI.hl {X : L2.Cx} {tg it : Expr} {wi : TI} (h : PI X tg it wi) : PI X tg it (fun σ H R => wi σ H fun J H1 => HL X.K H1 → R J H1) := by
  refine ⟨fun pins s σ H R I q => ?_⟩
  refine thn (h.run pins s σ H _ I q) fun v s1 q1 => thn q1 fun itv s2 h2 => ?_
  obtain ⟨it, fp, tn, J, H2, e, I2, T, st2, f2, q⟩ := h2
  exact ⟨it, fp, tn, J, H2, e, I2, T, st2, f2, q (hl_of I2)⟩
theorem PI.weak {X : L2.Cx} {tg it : Expr} {wi wi' : TI} (h : PI X tg it wi) (k : ∀ σ H R, wi' σ H R → wi σ H R) : PI X tg it wi' := ⟨fun pins s σ H R I q => h.run pins s σ H R I (k σ H R q)⟩
theorem PI.or {X : L2.Cx} {tg it : Expr} {wi wi' : TI} (h : PI X tg it wi) (h' : PI X tg it wi') : PI X tg it (fun σ H R => wi σ H R ∨ wi' σ H R) := ⟨fun pins s σ H R I q => q.elim (h.run pins s σ H R I) (h'.run pins s σ H R I)⟩
theorem PE.weak {X : L2.Cx} {e : Expr} {t t' : TE} (h : PE X e t) (k : ∀ σ H Q, t' σ H Q → t σ H Q) : PE X e t' := ⟨fun pins s σ H Q I q => h.run pins s σ H Q I (k σ H Q q)⟩
theorem PT.weak {X : L2.Cx} {e : Expr} {t t' : TT} (h : PT X e t) (k : ∀ σ H Q, t' σ H Q → t σ H Q) : PT X e t' := ⟨fun pins s σ H Q I q => h.run pins s σ H Q I (k σ H Q q)⟩
theorem PW.weak {X : L2.Cx} {e : Expr} {t t' : TT} (h : PW X e t) (k : ∀ σ H Q, t' σ H Q → t σ H Q) : PW X e t' := ⟨fun w pins s σ H Q I q => h.run w pins s σ H Q I (k σ H Q q)⟩
theorem PA.weak {X : L2.Cx} {e : List Expr} {t t' : TA} (h : PA X e t) (k : ∀ σ H Q, t' σ H Q → t σ H Q) : PA X e t' := ⟨fun pos pins s σ H Q I q => h.run pos pins s σ H Q I (k σ H Q q)⟩
theorem PS.weak {X : L2.Cx} {e : Stmt} {t t' : TS} (h : PS X e t) (k : ∀ D σ H, t' D σ H → t D σ H) : PS X e t' := ⟨fun pins s σ H D I q => h.run pins s σ H D I (k D σ H q)⟩
theorem PSs.weak {X : L2.Cx} {e : List Stmt} {t t' : TS} (h : PSs X e t) (k : ∀ D σ H, t' D σ H → t D σ H) : PSs X e t' := ⟨fun pins s σ H D I q => h.run pins s σ H D I (k D σ H q)⟩
theorem PE.or {X : L2.Cx} {e : Expr} {t t' : TE} (h : PE X e t) (h' : PE X e t') : PE X e (fun σ H Q => t σ H Q ∨ t' σ H Q) := ⟨fun pins s σ H Q I q => q.elim (h.run pins s σ H Q I) (h'.run pins s σ H Q I)⟩
theorem PE.hl {X : L2.Cx} {e : Expr} {t : TE} (h : PE X e t) : PE X e (fun σ H Q => HL X.K H → t σ H Q) := ⟨fun pins s σ H Q I q => h.run pins s σ H Q I (q (hl_of I))⟩
theorem PG.weak {X : L2.Cx} {e : Expr} {t t' : TG} (h : PG X e t) (k : ∀ v σ H Q, t' v σ H Q → t v σ H Q) : PG X e t' := ⟨fun pins s σ H v u Q I r q => h.run pins s σ H v u Q I r (k v σ H Q q)⟩
theorem PTs.weak {X : L2.Cx} {e : List Expr} {t t' : TT} (h : PTs X e t) (k : ∀ σ H Q, t' σ H Q → t σ H Q) : PTs X e t' := ⟨fun pins s σ H Q I q => h.run pins s σ H Q I (k σ H Q q)⟩
end Ev
set_option Elab.async false
set_option linter.all false
set_option maxRecDepth 100000
set_option maxHeartbeats 1000000
namespace Ev
open PySem PySem.Spec PyProof.Rows L2 RZ
/-! ### is this the text? -/
structure Txt where
  fnm : Nat → Option String
  exn : Nat → Option String
  glb : String → D → Bool
def nmB (N : List Str) (sc : Scope) (i : Nat) (x : Str) : Bool :=
  decide (N[i]? = some x) && (match sc.names.lookup x with | some .local => true | some .cell => true | some .free => true | _ => false) && !(x == ("__debug__" : Str)) && !(x == ("__classdict__" : Str))
def glB (sc : Scope) (x : Str) (f : String) : Bool := decide (x = Str.ofString f) && decide (sc.names.lookup x = some .globalImplicit) && !(x == ("__debug__" : Str)) && decide (x ≠ "__name__")
def ownB (osc : Scope) (x : Str) : Bool := match osc.names.lookup x with | some .local => true | some .cell => true | _ => false
def litB : D → Const → Bool
  | .non, .none => true
  | .bl b, .bool c => b == c
  | .int i, .int j => decide (i = j)
  | .str s, .str x => decide (x = Str.ofString s)
  | _, _ => false
def notStar : Expr → Bool
  | .Starred _ _ => false
  | _ => true
def plainBase : Expr → Bool
  | .Call (.Name _ _) [] [] _ => false
  | _ => true
def notSlice : Expr → Bool
  | .Slice _ _ _ _ => false
  | _ => true
def notSet : Expr → Bool
  | .Set _ _ _ => false
  | _ => true
/-- a test that is its value's truth -/
def plainTest : Expr → Bool
  | .UnaryOp .Not _ _ => false
  | .BoolOp _ _ _ => false
  | .IfExp _ _ _ _ => false
  | _ => true
def notFz : E → Bool
  | .fz _ => false
  | _ => true
inductive UK where
  | blt (f : String) | ty (f : String) | usub | isinst (T : String) | isC (o : CmpOp) (c : Const)
def ukind : U1 → UK
  | .len => .blt "len"
  | .abs => .blt "abs"
  | .all => .blt "all"
  | .any => .blt "any"
  | .sum => .blt "sum"
  | .min => .blt "min"
  | .max => .blt "max"
  | .sorted => .blt "sorted"
  | .tuple => .ty "tuple"
  | .list => .ty "list"
  | .int => .ty "int"
  | .bool => .ty "bool"
  | .neg => .usub
  | .isInt => .isinst "int"
  | .isBool => .isinst "bool"
  | .isStr => .isinst "str"
  | .isTuple => .isinst "tuple"
  | .isList => .isinst "list"
  | .isNone => .isC .Is .none
  | .notNone => .isC .IsNot .none
  | .isTrue => .isC .Is (.bool true)
  | .isFalse => .isC .Is (.bool false)
def unSub (sc : Scope) (k : UK) (e : Expr) : Option Expr := match k, e with
  | .blt f, .Call (.Name x _) [a] [] _ => if glB sc x f && notStar a then some a else none
  | .ty f, .Call (.Name x _) [a] [] _ => if glB sc x f && notStar a then some a else none
  | .isinst T, .Call (.Name x _) [a, .Name t _] [] _ => if glB sc x "isinstance" && glB sc t T && notStar a then some a else none
  | .usub, .UnaryOp .USub a _ => some a
  | .isC o c, .Compare a [o'] [.Constant c' _ _] _ => if decide (o = o') && decide (c = c') then some a else none
  | _, _ => none
inductive BK where
  | op (o : Operator) | cmp (o : CmpOp) | blt (f : String) | meth (m : String)
def bkind : B2 → BK
  | .add => .op .Add
  | .sub => .op .Sub
  | .mul => .op .Mult
  | .fdiv => .op .FloorDiv
  | .mod => .op .Mod
  | .pow => .op .Pow
  | .eq => .cmp .Eq
  | .ne => .cmp .NotEq
  | .lt => .cmp .Lt
  | .le => .cmp .LtE
  | .gt => .cmp .Gt
  | .ge => .cmp .GtE
  | .inn => .cmp .In
  | .nin => .cmp .NotIn
  | .min2 => .blt "min"
  | .max2 => .blt "max"
  | .count => .meth "count"
  | .index => .meth "index"
  | .get1 => .meth "get"
def binSub (sc : Scope) (k : BK) (e : Expr) : Option (Expr × Expr) := match k, e with
  | .op o, .BinOp a o' b _ => if decide (o = o') then some (a, b) else none
  | .cmp o, .Compare a [o'] [b] _ => if decide (o = o') && !behindInMarks o b then some (a, b) else none
  | .blt f, .Call (.Name x _) [a, b] [] _ => if glB sc x f && notStar a && notStar b then some (a, b) else none
  | .meth m, .Call (.Attribute a m' ap) [b] [] cp => if decide (m' = Str.ofString m) && (ap.endLine == cp.line) && plainBase a && notStar b then some (a, b) else none
  | _, _ => none
def chSub (k1 k2 : BK) (e : Expr) : Option (Expr × Expr × Expr) := match k1, k2, e with
  | .cmp o1, .cmp o2, .Compare a [p1, p2] [b, c] _ => if decide (o1 = p1) && decide (o2 = p2) && !lastMarks [p1, p2] [b, c] then some (a, b, c) else none
  | _, _, _ => none
section
variable (tx : Txt) (N : List Str)
mutual
def isTg (osc : Scope) : Tg → Expr → Bool
  | .nm i, .Name x _ => decide (N[i]? = some x) && ownB osc x
  | .tp ts, .Tuple es _ _ => isTgs osc ts es
  | _, _ => false
def isTgs (osc : Scope) : List Tg → List Expr → Bool
  | [], [] => true
  | t :: ts, e :: es => isTg osc t e && notStar e && isTgs osc ts es
  | _, _ => false
end
mutual
def tgs : Tg → List Nat
  | .nm i => [i]
  | .tp ts => tgss ts
def tgss : List Tg → List Nat
  | [] => []
  | t :: ts => tgs t ++ tgss ts
end
def isTp : Tg → Bool
  | .tp _ => true
  | _ => false
def ownL (vs : List Nat) : List (Str × Nat) := vs.map fun v => ((N[v]?).getD "", v)
def inAll (xs ys : List Nat) : Bool := xs.all fun x => ys.contains x
mutual
def isE (sc : Scope) : E → Expr → Bool
  | .var i, .Name x _ => nmB N sc i x
  | .mv i, .Name x _ => nmB N sc i x
  | .lit d, .Constant c _ _ => litB d c
  | .glob f d, .Name x _ => glB sc x f && tx.glb f d
  | .tup es, .Tuple xs _ _ => isEs sc es xs && decide (xs.length ≤ 1000)
  | .lst es, .List xs _ => isEs sc es xs && decide (xs.length ≤ 1000)
  | .un op a, e => match unSub sc (ukind op) e with
    | some x => isE sc a x
    | none => false
  | .bin op a b, e => match binSub sc (bkind op) e with
    | some (x, y) => isE sc a x && isE sc b y
    | none => false
  | .chain o1 o2 a b c, e => match chSub (bkind o1) (bkind o2) e with
    | some (x, y, z) => isE sc a x && isE sc b y && isE sc c z
    | none => false
  | .not a, .UnaryOp .Not x _ => isE sc a x
  | .and es, .BoolOp .And xs _ => isEs sc es xs
  | .or es, .BoolOp .Or xs _ => isEs sc es xs
  | .ite c a b, .IfExp t x y _ => isT sc c t && isE sc a x && isE sc b y
  | .sub a k, .Subscript x y _ => isE sc a x && isE sc k y && notSlice y
  | .slice a lo hi, .Subscript x (.Slice l h none _) _ => isE sc a x && isEnd sc lo l && isEnd sc hi h
  | .call f as, .Call (.Name x _) xs [] _ => (match tx.fnm f with
    | some n => glB sc x n
    | none => false) && isAs sc as xs
  | .comp _ vs elt tg it ifs, .ListComp x [⟨g, i, fs, 0⟩] bs _ => isIt sc it tg i && blkC N sc bs (ownL N vs) && isTg N bs tg g && inAll (tgs tg) vs && isTs (relS bs sc) ifs fs && isE (relS bs sc) elt x && notSet i && decide (fs.length ≤ 1)
  | .comp2 _ vs ws elt tg it tg2 it2, .ListComp x [⟨g, i, [], 0⟩, ⟨g2, i2, [], 0⟩] bs _ => isIt sc it tg i && blkC N sc bs (ownL N vs) && isTg N bs tg g && inAll (tgs tg) vs && inAll ws vs && isIt (relS bs sc) it2 tg2 i2 && isTg N bs tg2 g2 && inAll (tgs tg2) ws && isE (relS bs sc) elt x && notSet i && notSet i2
  | .dict .nil, .Dict [] [] _ => true
  | .fz a, e => isE sc a e
  | .listr it, .Call (.Name x _) [r] [] _ => glB sc x "list" && isRg sc it r && notStar r
  | .tupler it, .Call (.Name x _) [r] [] _ => glB sc x "tuple" && isRg sc it r && notStar r
  | _, _ => false
def isEs (sc : Scope) : Es → List Expr → Bool
  | .nil, [] => true
  | .cons e r, x :: xs => isE sc e x && notStar x && isEs sc r xs
  | _, _ => false
def isAs (sc : Scope) : Es → List Expr → Bool
  | .nil, [] => true
  | .cons e r, x :: xs => isE sc e x && notStar x && isAs sc r xs
  | .io i r, .Name x _ :: xs => nmB N sc i x && isAs sc r xs
  | _, _ => false
def isEnd (sc : Scope) : Es → Option Expr → Bool
  | .nil, none => true
  | .cons e .nil, some x => isE sc e x
  | _, _ => false
def isKv (sc : Scope) : Es → List (Option Expr) → List Expr → Bool
  | .nil, [], [] => true
  | .cons k (.cons v r), some x :: xs, y :: ys => isE sc k x && isE sc v y && isKv sc r xs ys
  | _, _, _ => false
def isT (sc : Scope) : T → Expr → Bool
  | .e a, e => isE sc a e && plainTest e && notFz a
  | .not a, .UnaryOp .Not x _ => isT sc a x
  | .and ts, .BoolOp .And xs _ => isTs sc ts xs && !xs.isEmpty
  | .or ts, .BoolOp .Or xs _ => isTs sc ts xs && !xs.isEmpty
  | _, _ => false
def isTs (sc : Scope) : Ts → List Expr → Bool
  | .nil, [] => true
  | .cons t r, x :: xs => isT sc t x && isTs sc r xs
  | _, _ => false
def isIt (sc : Scope) : It → Tg → Expr → Bool
  | .seq e, _, x => isE sc e x
  | .r1 a, _, .Call (.Name f _) [x] [] _ => glB sc f "range" && isE sc a x && notStar x
  | .r2 a b, _, .Call (.Name f _) [x, y] [] _ => glB sc f "range" && isE sc a x && isE sc b y && notStar x && notStar y
  | .r3 a b c, _, .Call (.Name f _) [x, y, z] [] _ => glB sc f "range" && isE sc a x && isE sc b y && isE sc c z && notStar x && notStar y && notStar z
  | .enum e, .tp _, .Call (.Name f _) [x] [] _ => glB sc f "enumerate" && isE sc e x && notStar x
  | .zip a b, .tp _, .Call (.Name f _) [x, y] [] _ => glB sc f "zip" && isE sc a x && isE sc b y && notStar x && notStar y
  | _, _, _ => false
def isRg (sc : Scope) : It → Expr → Bool
  | .r1 a, .Call (.Name f _) [x] [] _ => glB sc f "range" && isE sc a x && notStar x
  | .r2 a b, .Call (.Name f _) [x, y] [] _ => glB sc f "range" && isE sc a x && isE sc b y && notStar x && notStar y
  | _, _ => false
end
end

/-! ### side conditions of the rules -/
theorem star_of {e : Expr} {es : List Expr} {env : PySem.Env} (h : notStar e = true) : starEach (e :: es) env = (false, eval e env) :: starEach es env := by
  cases e <;> first | rfl | cases h
theorem assignEach_of {e : Expr} {es : List Expr} {env : PySem.Env} (h : notStar e = true) : assignEach (e :: es) env = (false, assign e env) :: assignEach es env := by
  cases e <;> first | rfl | cases h
theorem base_of {a : Expr} {m : Str} {env : PySem.Env} {w : Sem Value} (h : plainBase a = true) : attributeBase a m env w = w := by
  unfold attributeBase
  split
  · cases h
  · rfl
theorem fold_of {e : Expr} {env : PySem.Env} (h : notSet e = true) (x : Value) : foldedSetIterable e env x = pure x := by
  unfold foldedSetIterable
  split
  · cases h
  · rfl
theorem ix_of {e : Expr} (h : notSlice e = true) : PlainIx e := by
  intro o i
  unfold subscripted
  split
  · cases h
  · rename_i hh
    exact absurd hh (by decide)
  · rfl
theorem truth_of {e : Expr} {env : PySem.Env} (h : plainTest e = true) (hc : ∀ a ops cs p, e ≠ .Compare a ops cs p) (w : Sem Value) : PySem.isTrue e env w = (do let v ← w; standAt e.pos; holding [v] (truthy v)) := by
  unfold PySem.isTrue
  split
  · cases h
  · cases h
  · cases h
  · exact absurd rfl (hc _ _ _ _)
  · rfl
end Ev
set_option Elab.async false
set_option linter.all false
set_option maxRecDepth 100000
set_option maxHeartbeats 1000000
namespace Ev
open PySem PySem.Spec PyProof.Rows L2 RZ
/-! ### readings -/
structure Go (K : PySem.W.Frag) (W : Addr → Prop) (H : Hp) (A : Nat → List Addr) (σ : L2.St) (nio : Bool) (env' : Env) (W' : Addr → Prop) (H' : Hp) (A' : Nat → List Addr) : Prop where
  tr : Tr W H (Owns A) W' H' (Owns A')
  sat : Sat K W' H' env' σ A'
  sm : nio = true → ∀ a u, H a = some u → H' a = some u
/-- what is run: the calls, the exceptions -/
structure Rn where
  K : PySem.W.Frag
  exv : Nat → Value
  Wx : WX
  cl : Nat → List O → CRes
  io : Nat → List Bool
def Oc (R : Rn) (W : Addr → Prop) (H : Hp) (A : Nat → List Addr) (σ : L2.St) {α : Type} (x : Out α) (P : α → Env → Prop) : Prop := match x with
  | .ok a env => P a env
  | .exc c env => ∀ W' H' A', Tr W H (Owns A) W' H' (Owns A') → Sat R.K W' H' env σ A' → R.Wx (R.exv c) none σ H'
  | .bad => False
section
variable {R : Rn} {K : PySem.W.Frag} {W W1 W2 : Addr → Prop} {H H1 H2 : Hp} {A A1 A2 : Nat → List Addr} {σ : L2.St} {n n1 n2 : Bool} {env env1 env2 : Env} {α β γ : Type}
theorem Tr.back {A A' : Addr → Prop} (t : Tr W H A W1 H1 A') {a : Addr} (h : H1 a = none) : H a = none := by
  cases e : H a with
  | none => rfl
  | some o => exact absurd h (t.d a (by rw [e]; simp))
theorem Go.refl (S : Sat K W H env σ A) : Go K W H A σ n env W H A := ⟨.refl, S, fun _ _ _ h => h⟩
theorem Go.trans (a : Go K W H A σ n1 env1 W1 H1 A1) (b : Go K W1 H1 A1 σ n2 env2 W2 H2 A2) (h : n = true → n1 = true ∧ n2 = true) : Go K W H A σ n env2 W2 H2 A2 :=
  ⟨a.tr.trans b.tr, b.sat, fun e x u q => b.sm (h e).2 x u (a.sm (h e).1 x u q)⟩
theorem Go.nio (a : Go K W H A σ n1 env1 W1 H1 A1) (h : n = true → n1 = true) : Go K W H A σ n env1 W1 H1 A1 := ⟨a.tr, a.sat, fun e => a.sm (h e)⟩
theorem Go.pr (a : Go K W H A σ n env1 W1 H1 A1) (S : Sat K W H env σ A) : Pr W H W1 H1 := ⟨a.tr.w, fun x o w e => a.tr.h x o e fun ⟨i, z⟩ => S.sep i x z w⟩
theorem Oc.bnd {x : Out α} {k : α → Env → Out β} {P : β → Env → Prop} (h : Oc R W H A σ (x.bnd k) P) : Oc R W H A σ x fun a env1 => Oc R W H A σ (k a env1) P := by
  cases x with
  | ok a env => exact h
  | exc c env => exact h
  | bad => exact h
theorem Oc.imp {x : Out α} {P P' : α → Env → Prop} (h : Oc R W H A σ x P) (q : ∀ a env, P a env → P' a env) : Oc R W H A σ x P' := by
  cases x with
  | ok a env => exact q a env h
  | exc c env => exact h
  | bad => exact h
theorem Oc.from {x : Out α} {P : α → Env → Prop} (h : Oc R W H A σ x P) (t : Tr W H (Owns A) W1 H1 (Owns A1)) : Oc R W1 H1 A1 σ x P := by
  cases x with
  | ok a env => exact h
  | exc c env => exact fun W' H' A' t' S => h W' H' A' (t.trans t') S
  | bad => exact h
theorem Oc.need {b : Bool} {x : Out α} {P : α → Env → Prop} (h : Oc R W H A σ (need b x) P) : b = true ∧ Oc R W H A σ x P := by
  cases b with
  | true => exact ⟨rfl, h⟩
  | false => exact h.elim
theorem Oc.ofO {x : Option α} {P : α → Env → Prop} (h : Oc R W H A σ (ofO x env) P) : ∃ a, x = some a ∧ P a env := by
  cases x with
  | none => exact h.elim
  | some a => exact ⟨a, rfl, h⟩
/-- a part, read -/
def tX (R : Rn) (n : Bool) (f : Env → Out α) (r : L2.St → (Addr → Prop) → Hp → (Nat → List Addr) → (Addr → Prop) → Hp → (Nat → List Addr) → α → β → Prop) : L2.St → Hp → (β → Hp → Prop) → Prop :=
  fun σ H Q => ∃ W env A, Sat R.K W H env σ A ∧ Oc R W H A σ (f env) fun a env' => ∀ y W' H' A', Go R.K W H A σ n env' W' H' A' → r σ W H A W' H' A' a y → Q y H'
theorem tX.step {f : Env → Out α} {r : L2.St → (Addr → Prop) → Hp → (Nat → List Addr) → (Addr → Prop) → Hp → (Nat → List Addr) → α → β → Prop} {k : α → Env → Out γ} {P : γ → Env → Prop} {Q : β → Hp → Prop}
    (S : Sat R.K W H env σ A) (h : Oc R W H A σ ((f env).bnd k) P) (q : ∀ a env1 y W1 H1 A1, Go R.K W H A σ n env1 W1 H1 A1 → r σ W H A W1 H1 A1 a y → Oc R W H A σ (k a env1) P → Q y H1) : tX R n f r σ H Q :=
  ⟨W, env, A, S, h.bnd.imp fun a env1 hk y W1 H1 A1 g rr => q a env1 y W1 H1 A1 g rr hk⟩
theorem tX.run {f : Env → Out α} {r : L2.St → (Addr → Prop) → Hp → (Nat → List Addr) → (Addr → Prop) → Hp → (Nat → List Addr) → α → β → Prop} {P : α → Env → Prop} {Q : β → Hp → Prop}
    (S : Sat R.K W H env σ A) (h : Oc R W H A σ (f env) P) (q : ∀ a env1 y W1 H1 A1, Go R.K W H A σ n env1 W1 H1 A1 → r σ W H A W1 H1 A1 a y → P a env1 → Q y H1) : tX R n f r σ H Q :=
  ⟨W, env, A, S, h.imp fun a env1 hk y W1 H1 A1 g rr => q a env1 y W1 H1 A1 g rr hk⟩
theorem tX.steps {f : Env → Out α} {r : L2.St → (Addr → Prop) → Hp → (Nat → List Addr) → (Addr → Prop) → Hp → (Nat → List Addr) → α → β → Prop} {x : Out γ} {k : α → Env → Out γ} {P : γ → Env → Prop} {Q : β → Hp → Prop}
    (S : Sat R.K W H env σ A) (h : Oc R W H A σ x P) (e : x = (f env).bnd k) (q : ∀ a env1 y W1 H1 A1, Go R.K W H A σ n env1 W1 H1 A1 → r σ W H A W1 H1 A1 a y → Oc R W H A σ (k a env1) P → Q y H1) : tX R n f r σ H Q :=
  tX.step S (e ▸ h) q
end
/-- a value, got -/
structure Vv (K : PySem.W.Frag) (b : Bool) (W : Addr → Prop) (H : Hp) (A : Nat → List Addr) (W' : Addr → Prop) (H' : Hp) (A' : Nat → List Addr) (o : O) (v : V) (B : List Addr) : Prop where
  ro : RO K W' H' o v B
  nd : b = false → B.Nodup
  sep : b = false → ∀ a ∈ B, ¬ W' a ∧ ¬ Owns A' a ∧ (Owns A a ∨ H a = none)
section
variable {R : Rn} {K : PySem.W.Frag} {W W1 W2 W' : Addr → Prop} {H H1 H2 H' : Hp} {A A1 A2 A' : Nat → List Addr} {σ : L2.St} {b n n1 n2 : Bool} {env env1 env2 : Env} {α β γ : Type} {o p : O} {v : V} {B : List Addr} {d : D}
theorem Vv.sh (h : RD K W' H' d v) : Vv K b W H A W' H' A' (.sh d) v [] := ⟨ro_sh h, fun _ => .nil, fun _ _ z => absurd z (by simp)⟩
theorem Vv.nil (h : RO K W' H' o v []) : Vv K b W H A W' H' A' o v [] := ⟨h, fun _ => .nil, fun _ _ z => absurd z (by simp)⟩
theorem Vv.trans (g : Go K W H A σ n env1 W1 H1 A1) (V : Vv K b W1 H1 A1 W2 H2 A2 o v B) : Vv K b W H A W2 H2 A2 o v B := by
  refine ⟨V.ro, V.nd, fun e a ha => ?_⟩
  obtain ⟨x, y, z⟩ := V.sep e a ha
  refine ⟨x, y, ?_⟩
  rcases z with z | z
  · exact g.tr.a a z
  · exact .inr (g.tr.back z)
theorem Vv.read (V : Vv K b W H A W' H' A' o v B) : Vv K true W H A W' H' A' o v B := ⟨V.ro, fun e => (nomatch e), fun e => (nomatch e)⟩
/-- the first stays, when the second is got -/
theorem Vv.keep (V : RO K W1 H1 o v B) (S : Sat K W1 H1 env1 σ A1) (g : Go K W1 H1 A1 σ n env2 W2 H2 A2) (h : isShd o = true ∨ n = true) : RO K W2 H2 o v B :=
  RO.mono g.tr.w (g.pr S).h (fun a ha u e => by
    rcases h with h | h
    · rw [V.shd h] at ha; exact absurd ha (by simp)
    · exact g.sm h a u e) V
theorem Go.ext (g : Go K W H A σ n env1 W1 H1 A1) (x : Ext K W1 H1 o v W' H' B) : Go K W H A σ n env1 W' H' A1 := by
  have ow : ∀ i a, a ∈ A1 i → H1 a ≠ none := fun i a ha => by
    cases e : get env1 i with
    | none => rw [g.sat.nil i e] at ha; exact absurd ha (by simp)
    | some o => exact let ⟨_, _, r⟩ := g.sat.at_ i o e; r.there a ha
  refine ⟨⟨fun a w => x.w a (g.tr.w a w), fun a w => ?_, fun a u e na => x.same a u (g.tr.h a u e na), fun a ha e => ?_, g.tr.a⟩, ?_, fun e a u q => x.same a u (g.sm e a u q)⟩
  · rcases x.w2 a w with w | w
    · exact g.tr.w2 a w
    · exact .inr (.inr (g.tr.back w))
  · cases e2 : H1 a with
    | none => exact g.tr.d a ha e2
    | some u => rw [x.same a u e2] at e; cases e
  · refine g.sat.mono x.w (fun i a ha w => ?_) x.dom fun a o _ e => x.same a o e
    rcases x.w2 a w with w | w
    · exact g.sat.sep i a ha w
    · exact ow i a ha w
theorem To.vl {Q : VK} (g : Go K W H A σ n env1 W1 H1 A1) (h : ∀ v W' H' A', Go K W H A σ n env1 W' H' A' → (∃ B, Vv K b W H A W' H' A' o v B) → Q v H') : To K W1 H1 o Q := fun v W' H' B x =>
  h v W' H' A1 (g.ext x) ⟨B, x.ro, fun _ => x.nd, fun _ a ha => by
    obtain ⟨h1, h2⟩ := x.sep a ha
    refine ⟨h1, fun ⟨i, hi⟩ => ?_, .inr (g.tr.back h2)⟩
    cases e : get env1 i with
    | none => rw [g.sat.nil i e] at hi; exact absurd hi (by simp)
    | some o => exact let ⟨_, _, r⟩ := g.sat.at_ i o e; r.there a hi h2⟩
/-- what is got is given to all -/
theorem Go.frz (g : Go K W H A σ n env1 W1 H1 A1) (V : Vv K false W H A W1 H1 A1 o v B) : Go K W H A σ n env1 (fun a => W1 a ∨ a ∈ B) H1 A1 := by
  refine ⟨⟨fun a w => .inl (g.tr.w a w), fun a w => ?_, g.tr.h, g.tr.d, g.tr.a⟩, ?_, g.sm⟩
  · rcases w with w | w
    · exact g.tr.w2 a w
    · exact .inr (V.sep rfl a w).2.2
  · refine g.sat.mono (fun _ w => .inl w) (fun i a ha w => ?_) (fun a w => ?_) fun _ _ _ e => e
    · rcases w with w | w
      · exact g.sat.sep i a ha w
      · exact (V.sep rfl a w).2.1 ⟨i, ha⟩
    · rcases w with w | w
      · exact g.sat.dom a w
      · exact V.ro.there a w
theorem Vv.share (V : Vv K false W H A W1 H1 A1 o v B) (h : o.share = some p) : Vv K b W H A (fun a => W1 a ∨ a ∈ B) H1 A1 p v [] :=
  .nil (V.ro.share (fun _ w => .inl w) (fun _ w => .inr w) h).1
theorem Vv.frz (V : Vv K false W H A W1 H1 A1 o v B) (h : o.frz = some d) : RD K (fun a => W1 a ∨ a ∈ B) H1 d v := V.ro.frz (fun _ w => .inl w) (fun _ w => .inr w) h
theorem share_shd (h : RO K W H o v B) (e : o.share = some p) : isShd p = true := (h.share (W' := fun a => W a ∨ a ∈ B) (fun _ w => .inl w) (fun _ w => .inr w) e).2
end
/-! the readings of parts -/
def vR (K : PySem.W.Frag) (b : Bool) : L2.St → (Addr → Prop) → Hp → (Nat → List Addr) → (Addr → Prop) → Hp → (Nat → List Addr) → O → V → Prop := fun _ W H A W' H' A' o v => ∃ B, Vv K b W H A W' H' A' o v B
def tE (R : Rn) (b : Bool) (e : E) : TE := tX R e.noIo (ev R.cl R.io b e) (vR R.K b)
def tT (R : Rn) (t : T) : TT := tX R t.noIo (evT R.cl R.io t) fun _ _ _ _ _ _ _ c c' => c = c'
def tTs (R : Rn) (t : Ts) : TT := tX R t.noIo (evTs R.cl R.io t) fun _ _ _ _ _ _ _ c c' => c = c'
def tTo (R : Rn) (t : Ts) : TT := tX R t.noIo (evTo R.cl R.io t) fun _ _ _ _ _ _ _ c c' => c = c'
def tEs (R : Rn) (es : Es) : TA := tX R es.noIo (evs R.cl R.io es) fun _ _ _ _ W' H' _ ds vs => RDs R.K W' H' ds vs
def tEnd (R : Rn) (es : Es) : TO := tX R es.noIo (evEnd R.cl R.io es) fun _ _ _ _ _ _ _ i j => i = j
def RA (K : PySem.W.Frag) (W : Addr → Prop) (H : Hp) (σ : L2.St) : List AV → List V → Prop
  | [], xs => xs = []
  | .v o :: r, xs => ∃ x t, xs = x :: t ∧ isShd o = true ∧ RO K W H o x [] ∧ RA K W H σ r t
  | .io i :: r, xs => ∃ x t, xs = x :: t ∧ σ[i]? = some (some x) ∧ RA K W H σ r t
def tAs (R : Rn) (es : Es) : TA := tX R es.noIo (evArgs R.cl R.io es) fun σ _ _ _ W' H' _ as vs => RA R.K W' H' σ as vs ∧ (es.noIo = true → lent as = [])
def It.weak : It → Bool
  | .enum _ => true
  | .zip _ _ => true
  | _ => false
def tI (R : Rn) (it : It) : TI := tX R it.noIo (evIt R.cl R.io it) fun _ _ _ _ W' H' _ xs J => Wk R.K W' H' it.weak J xs ∧ xs.length ≤ cap
end Ev
set_option Elab.async false
set_option linter.all false
set_option maxRecDepth 100000
set_option maxHeartbeats 1000000
namespace Ev
open PySem PySem.Spec PyProof.Rows L2 RZ
section
variable {R : Rn} {σ : L2.St} {H : Hp} {Q : VK} {b : Bool}
theorem and_l {x y : Bool} (h : (x && y) = true) : x = true := by cases x <;> simp_all
theorem and_r {x y : Bool} (h : (x && y) = true) : y = true := by cases x <;> simp_all
theorem and_lr {x y : Bool} (h : (x && y) = true) : x = true ∧ y = true := ⟨and_l h, and_r h⟩
theorem wk_var {i : Nat} (h : tE R b (.var i) σ H Q) : tVar i σ H Q := by
  obtain ⟨W, env, A, S, h⟩ := h
  unfold ev at h
  split at h
  · rename_i o e
    obtain ⟨v, hv, ro⟩ := S.at_ i o e
    refine ⟨v, hv, ?_⟩
    split at h
    · rename_i c
      refine h v W H A (.refl S) ⟨A i, ro, fun e => ?_, fun e => ?_⟩
      · exact S.nd i
      · subst e
        rw [ro.shd (by simpa using c)]
        exact fun _ z => absurd z (by simp)
    · rename_i c
      split at h
      · rename_i p hp
        obtain ⟨W', hw, S'⟩ := S.share e hp
        refine h v W' H _ ⟨⟨fun a w => (hw a).mpr (.inl w), fun a w => ?_, fun _ _ q _ => q, fun _ q => q, fun a ha => ?_⟩, S', fun _ _ _ q => q⟩ ⟨[], Vv.nil ?_⟩
        · rcases (hw a).mp w with w | w
          · exact .inl w
          · exact .inr (.inl ⟨i, w⟩)
        · obtain ⟨j, hj⟩ := ha
          by_cases e : j = i
          · subst e; rw [updA_self] at hj; exact absurd hj (by simp)
          · rw [updA_ne e] at hj; exact .inl ⟨j, hj⟩
        · exact (ro.share (W' := W') (fun a w => (hw a).mpr (.inl w)) (fun a w => (hw a).mpr (.inr w)) hp).1
      · exact h.elim
  · exact h.elim
theorem wk_mv {i : Nat} (h : tE R b (.mv i) σ H Q) : tVar i σ H Q := by
  obtain ⟨W, env, A, S, h⟩ := h
  unfold ev at h
  split at h
  · rename_i o e
    obtain ⟨v, hv, ro⟩ := S.at_ i o e
    refine ⟨v, hv, ?_⟩
    split at h
    · rename_i c
      have z := ro.shd c
      rw [z] at ro
      exact h v W H A (.refl S) ⟨[], .nil ro⟩
    · refine h v W H _ ⟨⟨fun _ w => w, fun _ w => .inl w, fun _ _ q _ => q, fun _ q => q, fun a ha => ?_⟩, S.drop i, fun _ _ _ q => q⟩ ⟨A i, ro, fun _ => S.nd i, fun _ a ha => ⟨S.sep i a ha, fun ⟨j, hj⟩ => ?_, .inl ⟨i, ha⟩⟩⟩
      · obtain ⟨j, hj⟩ := ha
        by_cases e : j = i
        · subst e; rw [updA_self] at hj; exact absurd hj (by simp)
        · rw [updA_ne e] at hj; exact .inl ⟨j, hj⟩
      · by_cases e : j = i
        · subst e; rw [updA_self] at hj; exact absurd hj (by simp)
        · rw [updA_ne e] at hj; exact S.dj j i a e hj ha
  · exact h.elim
/-- a value that is told at once -/
theorem wk_c {e : E} {d : D} {v : V} (he : ∀ env, ev R.cl R.io b e env = .ok (.sh d) env) (hv : ∀ W H, RD R.K W H d v) (h : tE R b e σ H Q) : tC v σ H Q := by
  obtain ⟨W, env, A, S, h⟩ := h
  rw [he] at h
  exact h v W H A (.refl S) ⟨[], .sh (hv W H)⟩
theorem wk_un {op : U1} {a : E} (h : tE R b (.un op a) σ H Q) : tUn (RU R.K op) (tE R true a) σ H Q := by
  obtain ⟨W, env, A, S, h⟩ := h
  refine tX.steps S h (by rw [ev]) fun o env1 v W1 H1 A1 g ⟨B, V⟩ hk => ?_
  obtain ⟨o', e, hk⟩ := hk.ofO
  exact ⟨W1, o, o', B, g.sat.dom, V.ro, e, To.vl g hk⟩
theorem wk_bin {op : B2} {a c : E} (h : tE R b (.bin op a c) σ H Q) : tOp (RB R.K op) (tE R true a) (tE R true c) σ H Q := by
  obtain ⟨W, env, A, S, h⟩ := h
  refine tX.steps S h (by rw [ev]) fun o env1 v W1 H1 A1 g ⟨B, V⟩ hk => ?_
  obtain ⟨hb, hk⟩ := hk.need
  have hb := and_l hb
  refine tX.step g.sat (hk.from g.tr) fun o2 env2 v2 W2 H2 A2 g2 ⟨B2, V2⟩ hk => ?_
  obtain ⟨o', e, hk⟩ := hk.ofO
  exact ⟨W2, o, o2, o', B, B2, g2.sat.dom, Vv.keep V.ro g.sat g2 (by simpa using hb), V2.ro, e, To.vl (g.trans g2 and_lr) hk⟩
theorem binO_sh {op : B2} {x y : D} {z : O} (h : bin2 op x y = some z) : binO op (.sh x) (.sh y) = some z := by
  cases op <;> first | exact h | (simp only [bin2] at h; cases h)
theorem wk_chain {o1 o2 : B2} {a c d : E} (h : tE R b (.chain o1 o2 a c d) σ H Q) : tChain (RB R.K o1) (RB R.K o2) (tE R true a) (tE R true c) (tE R true d) σ H Q := by
  obtain ⟨W, env, A, S, h⟩ := h
  refine tX.steps S h (by rw [ev]) fun p env1 v W1 H1 A1 g ⟨B, V⟩ hk => ?_
  refine tX.step g.sat (hk.from g.tr) fun q env2 v2 W2 H2 A2 g2 ⟨B2, V2⟩ hk => ?_
  cases p with
  | sh x => ?_
  | _ => exact hk.elim
  cases q with
  | sh y => ?_
  | _ => exact hk.elim
  obtain ⟨rv, rfl⟩ := V.ro.sh_inv
  obtain ⟨rv2, rfl⟩ := V2.ro.sh_inv
  obtain ⟨t, e, hk⟩ := (show Oc R W1 H1 A1 σ (ofO (bin2 o1 x y) env2) _ from hk.bnd).ofO
  have p2 := g2.pr g.sat
  refine ⟨W2, .sh x, .sh y, t, [], [], g2.sat.dom, ro_sh (p2.rd rv), V2.ro, binO_sh e, fun v3 W3 H3 B3 x3 => ?_⟩
  have g3 := (g.trans (n := a.noIo && c.noIo) g2 and_lr).ext x3
  cases t with
  | sh t => ?_
  | _ => exact hk.elim
  cases t with
  | bl t => ?_
  | _ => exact hk.elim
  obtain ⟨z, _⟩ := x3.ro.sh_inv
  simp only [RD] at z
  refine ⟨t, z, ?_⟩
  cases t with
  | false => exact hk (.bl false) W3 H3 A2 (g3.nio fun q => by have := and_l q; exact this) ⟨[], .sh (by simp [RD])⟩
  | true =>
    have p3 : Pr W2 H2 W3 H3 := ⟨x3.w, fun a o _ e => x3.same a o e⟩
    refine tX.step g3.sat (hk.from (g2.ext x3).tr) fun r env4 v4 W4 H4 A4 g4 ⟨B4, V4⟩ hk => ?_
    cases r with
    | sh w => ?_
    | _ => exact hk.elim
    obtain ⟨rv4, rfl⟩ := V4.ro.sh_inv
    obtain ⟨u, e2, hk⟩ := hk.ofO
    exact ⟨W4, .sh y, .sh w, u, [], [], g4.sat.dom, ro_sh ((g4.pr g3.sat).rd (p3.rd rv2)), ro_sh rv4, binO_sh e2, To.vl (g3.trans g4 and_lr) hk⟩
theorem wk_not {a : E} (h : tE R b (.not a) σ H Q) : tNotV (tE R true a) σ H Q := by
  obtain ⟨W, env, A, S, h⟩ := h
  refine tX.steps S h (by rw [ev]) fun o env1 v W1 H1 A1 g ⟨B, V⟩ hk => ?_
  cases o with
  | sh x => ?_
  | _ => exact hk.elim
  cases x with
  | bl c => ?_
  | _ => exact hk.elim
  obtain ⟨rv, rfl⟩ := V.ro.sh_inv
  simp only [RD] at rv
  exact ⟨c, rv, hk _ _ _ _ g ⟨[], .sh (by simp [RD])⟩⟩
theorem wk_and1 {a : E} (h : tE R b (.and (.cons a .nil)) σ H Q) : tE R true a σ H Q := by
  obtain ⟨W, env, A, S, h⟩ := h
  refine tX.steps S h (by rw [ev, evAnd]) fun o env1 v W1 H1 A1 g ⟨B, V⟩ hk => ?_
  obtain ⟨c, hk⟩ := hk.need
  cases o with
  | sh x => ?_
  | _ => cases c
  obtain ⟨rv, rfl⟩ := V.ro.sh_inv
  exact hk _ _ _ _ (g.nio fun e => and_l e) ⟨[], .sh rv⟩
theorem wk_or1 {a : E} (h : tE R b (.or (.cons a .nil)) σ H Q) : tE R true a σ H Q := by
  obtain ⟨W, env, A, S, h⟩ := h
  refine tX.steps S h (by rw [ev, evOr]) fun o env1 v W1 H1 A1 g ⟨B, V⟩ hk => ?_
  obtain ⟨c, hk⟩ := hk.need
  cases o with
  | sh x => ?_
  | _ => cases c
  obtain ⟨rv, rfl⟩ := V.ro.sh_inv
  exact hk _ _ _ _ (g.nio fun e => and_l e) ⟨[], .sh rv⟩
theorem wk_and {a c : E} {r : Es} (h : tE R b (.and (.cons a (.cons c r))) σ H Q) : tAndV (tE R true a) (tE R b (.and (.cons c r))) σ H Q := by
  obtain ⟨W, env, A, S, h⟩ := h
  refine tX.steps S h (by rw [ev, evAnd_cons]) fun o env1 v W1 H1 A1 g ⟨B, V⟩ hk => ?_
  cases o with
  | sh x => ?_
  | _ => exact hk.elim
  cases x with
  | bl t => ?_
  | _ => exact hk.elim
  obtain ⟨rv, rfl⟩ := V.ro.sh_inv
  simp only [RD] at rv
  refine ⟨t, rv, ?_⟩
  cases t with
  | false => exact hk _ _ _ _ (g.nio fun e => and_l e) ⟨[], .sh (by simp [RD])⟩
  | true =>
    refine tX.run (n := (E.and (.cons c r)).noIo) g.sat (show Oc R W1 H1 A1 σ (ev R.cl R.io b (.and (.cons c r)) env1) _ by rw [ev]; exact hk.from g.tr) fun o2 env2 v2 W2 H2 A2 g2 ⟨B2, V2⟩ hk => ?_
    exact hk _ _ _ _ (g.trans g2 and_lr) ⟨B2, V2.trans g⟩
theorem wk_or {a c : E} {r : Es} (h : tE R b (.or (.cons a (.cons c r))) σ H Q) : tOrV (tE R true a) (tE R b (.or (.cons c r))) σ H Q := by
  obtain ⟨W, env, A, S, h⟩ := h
  refine tX.steps S h (by rw [ev, evOr_cons]) fun o env1 v W1 H1 A1 g ⟨B, V⟩ hk => ?_
  cases o with
  | sh x => ?_
  | _ => exact hk.elim
  cases x with
  | bl t => ?_
  | _ => exact hk.elim
  obtain ⟨rv, rfl⟩ := V.ro.sh_inv
  simp only [RD] at rv
  refine ⟨t, rv, ?_⟩
  cases t with
  | true => exact hk _ _ _ _ (g.nio fun e => and_l e) ⟨[], .sh (by simp [RD])⟩
  | false =>
    refine tX.run (n := (E.or (.cons c r)).noIo) g.sat (show Oc R W1 H1 A1 σ (ev R.cl R.io b (.or (.cons c r)) env1) _ by rw [ev]; exact hk.from g.tr) fun o2 env2 v2 W2 H2 A2 g2 ⟨B2, V2⟩ hk => ?_
    exact hk _ _ _ _ (g.trans g2 and_lr) ⟨B2, V2.trans g⟩
theorem wk_ite {c : T} {a d : E} (h : tE R b (.ite c a d) σ H Q) : tIf (tT R c) (tE R b a) (tE R b d) σ H Q := by
  obtain ⟨W, env, A, S, h⟩ := h
  show tT R c σ H (fun t H1 => if t = true then tE R b a σ H1 Q else tE R b d σ H1 Q)
  refine tX.steps S h (by rw [ev]) fun t env1 t' W1 H1 A1 g e hk => ?_
  subst e
  cases t with
  | true =>
    refine tX.run g.sat (hk.from g.tr) fun o2 env2 v2 W2 H2 A2 g2 ⟨B2, V2⟩ hk => ?_
    exact hk _ _ _ _ (g.trans g2 fun e => and_lr (and_l e)) ⟨B2, V2.trans g⟩
  | false =>
    refine tX.run g.sat (hk.from g.tr) fun o2 env2 v2 W2 H2 A2 g2 ⟨B2, V2⟩ hk => ?_
    exact hk _ _ _ _ (g.trans g2 fun e => ⟨and_l (and_l e), and_r e⟩) ⟨B2, V2.trans g⟩
theorem wk_sub {a k : E} (h : tE R b (.sub a k) σ H Q) : tOp (RI R.K) (tE R true a) (tE R true k) σ H Q := by
  obtain ⟨W, env, A, S, h⟩ := h
  refine tX.steps S h (by rw [ev]) fun o env1 v W1 H1 A1 g ⟨B, V⟩ hk => ?_
  obtain ⟨hb, hk⟩ := hk.need
  refine tX.step g.sat (hk.from g.tr) fun o2 env2 v2 W2 H2 A2 g2 ⟨B2, V2⟩ hk => ?_
  cases o2 with
  | sh i => ?_
  | _ => exact hk.elim
  obtain ⟨rv2, rfl⟩ := V2.ro.sh_inv
  have ro := Vv.keep V.ro g.sat g2 (by simpa using hb)
  have gg := g.trans (n := a.noIo && k.noIo) g2 and_lr
  cases e : item o i with
  | none => simp only [e] at hk; exact hk.elim
  | some p =>
    refine ⟨W2, o, i, p, B, g2.sat.dom, ro, rv2, e, fun v3 B3 r3 hB => ?_⟩
    simp only [e] at hk
    cases p with
    | sh d =>
      obtain ⟨r4, rfl⟩ := r3.sh_inv
      exact hk _ _ _ _ gg ⟨[], .sh r4⟩
    | _ =>
      cases b with
      | false => exact hk.elim
      | true => exact hk _ _ _ _ gg ⟨B3, r3, fun e => (nomatch e), fun e => (nomatch e)⟩
theorem wk_part {e : E} {Q : Option Int → Hp → Prop} (h : tEnd R (.cons e .nil) σ H Q) : tPart (tE R true e) σ H Q := by
  obtain ⟨W, env, A, S, h⟩ := h
  refine tX.steps S h (by rw [evEnd]) fun o env1 v W1 H1 A1 g ⟨B, V⟩ hk => ?_
  cases o with
  | sh i => ?_
  | _ => exact hk.elim
  cases i with
  | int i => ?_
  | _ => exact hk.elim
  obtain ⟨rv, rfl⟩ := V.ro.sh_inv
  simp only [RD] at rv
  exact ⟨i, rv, hk _ _ _ _ (g.nio fun e => and_l e) rfl⟩
theorem wk_noPart {Q : Option Int → Hp → Prop} (h : tEnd R .nil σ H Q) : tNoPart σ H Q := by
  obtain ⟨W, env, A, S, h⟩ := h
  rw [evEnd] at h
  exact h _ _ _ _ (.refl S) rfl
theorem wk_slice {a : E} {lo hi : Es} (h : tE R b (.slice a lo hi) σ H Q) : L2.tSl (RSl R.K) (tE R true a) (tEnd R lo) (tEnd R hi) σ H Q := by
  obtain ⟨W, env, A, S, h⟩ := h
  refine tX.steps S h (by rw [ev]) fun o env1 v W1 H1 A1 g ⟨B, V⟩ hk => ?_
  obtain ⟨hb, hk⟩ := hk.need
  refine tX.step g.sat (hk.from g.tr) fun l env2 l' W2 H2 A2 g2 e hk => ?_
  subst e
  refine tX.step g2.sat (hk.from g2.tr) fun u env3 u' W3 H3 A3 g3 e hk => ?_
  subst e
  obtain ⟨o', e, hk⟩ := hk.ofO
  have hb : isShd o = true ∨ (lo.noIo = true ∧ hi.noIo = true) := by simpa using hb
  have r2 := Vv.keep V.ro g.sat g2 (hb.imp (fun x => x) (·.1))
  have r3 := Vv.keep r2 g2.sat g3 (hb.imp (fun x => x) (·.2))
  exact ⟨W3, o, o', B, g3.sat.dom, r3, e, To.vl ((g.trans (n := a.noIo && lo.noIo) g2 and_lr).trans g3 and_lr) hk⟩
theorem Oc.freeze {W : Addr → Prop} {A : Nat → List Addr} {env : Env} {o : O} {P : O → Env → Prop} (h : Oc R W H A σ (freeze o env) P) : ∃ p, o.share = some p ∧ P p env := by
  cases e : o.share with
  | none => simp only [Ev.freeze, e] at h; exact h.elim
  | some p => simp only [Ev.freeze, e] at h; exact ⟨p, rfl, h⟩
theorem wk_fz {a : E} (h : tE R b (.fz a) σ H Q) : tE R false a σ H Q := by
  obtain ⟨W, env, A, S, h⟩ := h
  refine tX.steps S h (by rw [ev]) fun o env1 v W1 H1 A1 g ⟨B, V⟩ hk => ?_
  obtain ⟨p, hp, hk⟩ := hk.freeze
  exact hk _ _ _ _ (g.frz V) ⟨[], V.share hp⟩
/-! tuples, lists -/
theorem wk_esN {Q : List V → Hp → Prop} (h : tEs R .nil σ H Q) : tNil σ H Q := by
  obtain ⟨W, env, A, S, h⟩ := h
  rw [evs] at h
  exact h _ _ _ _ (.refl S) RDs.nil
theorem wk_esC {e : E} {r : Es} {Q : List V → Hp → Prop} (h : tEs R (.cons e r) σ H Q) : tCons (tE R false e) (tEs R r) σ H Q := by
  obtain ⟨W, env, A, S, h⟩ := h
  refine tX.steps S h (by rw [evs]) fun o env1 v W1 H1 A1 g ⟨B, V⟩ hk => ?_
  cases hd : o.frz with
  | none => simp only [hd] at hk; exact hk.elim
  | some d =>
    simp only [hd] at hk
    have g' := g.frz V
    refine tX.step g'.sat (hk.from g'.tr) fun ds env2 vs W2 H2 A2 g2 rr hk => ?_
    exact hk _ _ _ _ (g'.trans g2 and_lr) (RDs.cons ((g2.pr g'.sat).rd (V.frz hd)) rr)
end
end Ev
set_option Elab.async false
set_option linter.all false
set_option maxRecDepth 100000
set_option maxHeartbeats 1000000
namespace Ev
open PySem PySem.Spec PyProof.Rows L2 RZ
/-! ### tests -/
section
variable {R : Rn} {σ : L2.St} {H : Hp} {b : Bool} {Q : Bool → Hp → Prop}
theorem tX.stepE {α β γ : Type} {n : Bool} {W : Addr → Prop} {A : Nat → List Addr} {env : Env} {f : Env → Out α} {r : L2.St → (Addr → Prop) → Hp → (Nat → List Addr) → (Addr → Prop) → Hp → (Nat → List Addr) → α → β → Prop} {x : Out γ} {k : α → Env → Out γ} {P : γ → Env → Prop} {Q : β → Hp → Prop}
    (S : Sat R.K W H env σ A) (h : Oc R W H A σ x P) (e : x = (f env).bnd k) (q : ∀ a env1 y W1 H1 A1, f env = .ok a env1 → Go R.K W H A σ n env1 W1 H1 A1 → r σ W H A W1 H1 A1 a y → Oc R W H A σ (k a env1) P → Q y H1) : tX R n f r σ H Q := by
  subst e
  refine ⟨W, env, A, S, ?_⟩
  cases e : f env with
  | ok a env1 =>
    rw [e] at h
    exact fun y W1 H1 A1 g rr => q a env1 y W1 H1 A1 e g rr h
  | exc c env1 => rw [e] at h; exact h
  | bad => rw [e] at h; exact h
theorem wk_tE {a : E} (h : tT R (.e a) σ H Q) : tE R true a σ H (fun x H' => ∃ k, TruV R.K x H' k ∧ Q k H') := by
  obtain ⟨W, env, A, S, h⟩ := h
  refine tX.steps S h (by rw [evT]) fun o env1 v W1 H1 A1 g ⟨B, V⟩ hk => ?_
  obtain ⟨t, e, hk⟩ := hk.ofO
  exact ⟨t, truth_V V.ro e, hk _ _ _ _ g rfl⟩
/-- .. where it is a bool -/
theorem wk_tB {a : E} (hb : ∀ env o env', ev R.cl R.io true a env = .ok o env' → ∃ k, o = .sh (.bl k)) (h : tT R (.e a) σ H Q) : tE R true a σ H (fun x H' => ∃ k, x = .bl k ∧ Q k H') := by
  obtain ⟨W, env, A, S, h⟩ := h
  refine tX.stepE S h (by rw [evT]) fun o env1 v W1 H1 A1 he g ⟨B, V⟩ hk => ?_
  obtain ⟨t, e, hk⟩ := hk.ofO
  obtain ⟨k, rfl⟩ := hb _ _ _ he
  obtain ⟨rv, rfl⟩ := V.ro.sh_inv
  simp only [truth, Option.some.injEq] at e
  subst e
  simp only [RD] at rv
  exact ⟨_, rv, hk _ _ _ _ g rfl⟩
theorem ok_bnd {α β : Type} {x : Out α} {k : α → Env → Out β} {y : β} {env' : Env} (h : x.bnd k = .ok y env') : ∃ a env1, x = .ok a env1 ∧ k a env1 = .ok y env' := by
  cases x with
  | ok a env => exact ⟨a, env, rfl, h⟩
  | exc c env => cases h
  | bad => cases h
theorem ok_need {α : Type} {b : Bool} {x : Out α} {y : α} {env' : Env} (h : need b x = .ok y env') : b = true ∧ x = .ok y env' := by
  cases b with
  | true => exact ⟨rfl, h⟩
  | false => cases h
theorem ok_ofO {α : Type} {x : Option α} {y : α} {env env' : Env} (h : ofO x env = .ok y env') : x = some y := by
  cases x with
  | none => cases h
  | some a => cases h; rfl
def isCmp : B2 → Bool
  | .eq => true | .ne => true | .lt => true | .le => true | .gt => true | .ge => true | .inn => true | .nin => true
  | _ => false
theorem intsD_bl {f : Int → Int → Option D} {x y : D} {o : O} (hf : ∀ i j d, f i j = some d → ∃ k, d = .bl k) (h : intsD f x y = some o) : ∃ k, o = .sh (.bl k) := by
  unfold intsD at h
  split at h
  · rename_i i j
    cases e : f i j with
    | none => rw [e] at h; cases h
    | some d =>
      rw [e] at h
      obtain ⟨k, rfl⟩ := hf i j d e
      simp only [Option.map_some, Option.some.injEq] at h
      exact ⟨k, h.symm⟩
  · cases h
theorem cmp2_bl {op : B2} {x y : D} {o : O} (hc : isCmp op = true) (h : bin2 op x y = some o) : ∃ k, o = .sh (.bl k) := by
  cases op <;> first | cases hc | skip
  · simp only [bin2] at h; split at h
    · exact ⟨_, (Option.some.inj h).symm⟩
    · cases h
  · simp only [bin2] at h; split at h
    · exact ⟨_, (Option.some.inj h).symm⟩
    · cases h
  · exact intsD_bl (fun i j d e => ⟨_, (Option.some.inj e).symm⟩) h
  · exact intsD_bl (fun i j d e => ⟨_, (Option.some.inj e).symm⟩) h
  · exact intsD_bl (fun i j d e => ⟨_, (Option.some.inj e).symm⟩) h
  · exact intsD_bl (fun i j d e => ⟨_, (Option.some.inj e).symm⟩) h
  · simp only [bin2, Option.map_eq_some_iff] at h
    obtain ⟨k, _, rfl⟩ := h
    exact ⟨k, rfl⟩
  · simp only [bin2, Option.map_eq_some_iff] at h
    obtain ⟨k, _, rfl⟩ := h
    exact ⟨!k, rfl⟩
theorem plain_bl {op : B2} {x y o : O} (hc : isCmp op = true) (h : plain op x y = some o) : ∃ k, o = .sh (.bl k) := by
  unfold plain at h
  split at h
  · exact cmp2_bl hc h
  · cases h
theorem cmp_bl {op : B2} {x y o : O} (hc : isCmp op = true) (h : binO op x y = some o) : ∃ k, o = .sh (.bl k) := by
  unfold binO at h
  split at h
  · split at h
    · split at h
      · exact ⟨_, (Option.some.inj h).symm⟩
      · cases h
    · exact plain_bl hc h
  · split at h
    · split at h
      · exact ⟨_, (Option.some.inj h).symm⟩
      · cases h
    · exact plain_bl hc h
  · cases hc
  · exact plain_bl hc h
theorem bin_bl {op : B2} {a c : E} {env env' : Env} {o : O} (hc : isCmp op = true) (h : ev R.cl R.io b (.bin op a c) env = .ok o env') : ∃ k, o = .sh (.bl k) := by
  rw [ev] at h
  obtain ⟨o1, env1, _, h⟩ := ok_bnd h
  obtain ⟨_, h⟩ := ok_need h
  obtain ⟨o2, env2, _, h⟩ := ok_bnd h
  exact cmp_bl hc (ok_ofO h)
theorem chain_bl {o1 o2 : B2} {a c d : E} {env env' : Env} {o : O} (hc : isCmp o2 = true) (h : ev R.cl R.io b (.chain o1 o2 a c d) env = .ok o env') : ∃ k, o = .sh (.bl k) := by
  rw [ev] at h
  obtain ⟨p, env1, _, h⟩ := ok_bnd h
  obtain ⟨q, env2, _, h⟩ := ok_bnd h
  cases p with
  | sh x => ?_
  | _ => cases h
  cases q with
  | sh y => ?_
  | _ => cases h
  obtain ⟨t, env3, _, h⟩ := ok_bnd h
  cases t with
  | sh t => ?_
  | _ => cases h
  cases t with
  | bl t => ?_
  | _ => cases h
  cases t with
  | false => simp only [Out.ok.injEq] at h; exact ⟨false, h.1.symm⟩
  | true =>
    obtain ⟨r, env4, _, h⟩ := ok_bnd h
    cases r with
    | sh z => exact cmp2_bl hc (ok_ofO h)
    | _ => cases h
def isIs : U1 → Bool
  | .isNone => true | .notNone => true | .isTrue => true | .isFalse => true
  | _ => false
theorem un_bl {op : U1} {a : E} {env env' : Env} {o : O} (hc : isIs op = true) (h : ev R.cl R.io b (.un op a) env = .ok o env') : ∃ k, o = .sh (.bl k) := by
  rw [ev] at h
  obtain ⟨o1, env1, _, h⟩ := ok_bnd h
  have h := ok_ofO h
  cases op <;> first | cases hc | skip
  all_goals
    simp only [un1] at h
    split at h <;> first | cases h | skip
    all_goals (try exact ⟨_, rfl⟩)
theorem wk_tNot {a : T} (h : tT R (.not a) σ H Q) : tNot (tT R a) σ H Q := by
  obtain ⟨W, env, A, S, h⟩ := h
  show tT R a σ H (fun c H1 => Q (!c) H1)
  refine tX.steps S h (by rw [evT]) fun t env1 t' W1 H1 A1 g e hk => ?_
  subst e
  exact hk _ _ _ _ g rfl
theorem wk_tAnd {ts : Ts} (h : tT R (.and ts) σ H Q) : tTs R ts σ H Q := by
  obtain ⟨W, env, A, S, h⟩ := h
  exact ⟨W, env, A, S, by rw [evT] at h; exact h⟩
theorem wk_tOr {ts : Ts} (h : tT R (.or ts) σ H Q) : tTo R ts σ H Q := by
  obtain ⟨W, env, A, S, h⟩ := h
  exact ⟨W, env, A, S, by rw [evT] at h; exact h⟩
theorem wk_tsN (h : tTs R .nil σ H Q) : tYes σ H Q := by
  obtain ⟨W, env, A, S, h⟩ := h
  rw [evTs] at h
  exact h _ _ _ _ (.refl S) rfl
theorem wk_ts1 {t : T} (h : tTs R (.cons t .nil) σ H Q) : tT R t σ H Q := by
  obtain ⟨W, env, A, S, h⟩ := h
  refine tX.steps S h (by rw [evTs]) fun t env1 t' W1 H1 A1 g e hk => ?_
  subst e
  cases t with
  | true =>
    simp only [if_pos, evTs] at hk
    exact hk _ _ _ _ (g.nio fun e => and_l e) rfl
  | false => exact hk _ _ _ _ (g.nio fun e => and_l e) rfl
theorem wk_to1 {t : T} (h : tTo R (.cons t .nil) σ H Q) : tT R t σ H Q := by
  obtain ⟨W, env, A, S, h⟩ := h
  refine tX.steps S h (by rw [evTo]) fun t env1 t' W1 H1 A1 g e hk => ?_
  subst e
  cases t with
  | false =>
    simp only [Bool.false_eq_true, if_false, evTo] at hk
    exact hk _ _ _ _ (g.nio fun e => and_l e) rfl
  | true => exact hk _ _ _ _ (g.nio fun e => and_l e) rfl
theorem wk_tsC {t : T} {r : Ts} (h : tTs R (.cons t r) σ H Q) : L2.tAnd (tT R t) (tTs R r) σ H Q := by
  obtain ⟨W, env, A, S, h⟩ := h
  show tT R t σ H (fun c H1 => if c = true then tTs R r σ H1 Q else Q false H1)
  refine tX.steps S h (by rw [evTs]) fun t env1 t' W1 H1 A1 g e hk => ?_
  subst e
  cases t with
  | true =>
    show tTs R r σ H1 Q
    refine tX.run g.sat (hk.from g.tr) fun o2 env2 v2 W2 H2 A2 g2 e hk => ?_
    exact hk _ _ _ _ (g.trans g2 and_lr) e
  | false => exact hk _ _ _ _ (g.nio fun e => and_l e) rfl
theorem wk_toC {t : T} {r : Ts} (h : tTo R (.cons t r) σ H Q) : L2.tOr (tT R t) (tTo R r) σ H Q := by
  obtain ⟨W, env, A, S, h⟩ := h
  show tT R t σ H (fun c H1 => if c = true then Q true H1 else tTo R r σ H1 Q)
  refine tX.steps S h (by rw [evTo]) fun t env1 t' W1 H1 A1 g e hk => ?_
  subst e
  cases t with
  | false =>
    show tTo R r σ H1 Q
    refine tX.run g.sat (hk.from g.tr) fun o2 env2 v2 W2 H2 A2 g2 e hk => ?_
    exact hk _ _ _ _ (g.trans g2 and_lr) e
  | true => exact hk _ _ _ _ (g.nio fun e => and_l e) rfl
end
/-! ### arguments, calls -/
section
variable {R : Rn} {K : PySem.W.Frag} {σ : L2.St} {H H' : Hp} {W W' : Addr → Prop} {b : Bool}
theorem RA.mono (p : Pr W H W' H') : ∀ {as : List AV} {xs : List V}, RA K W H σ as xs → RA K W' H' σ as xs
  | [], _, h => h
  | .v o :: r, xs, h => by
    obtain ⟨x, t, e, s, h1, h2⟩ := h
    exact ⟨x, t, e, s, p.ro h1, RA.mono p h2⟩
  | .io i :: r, xs, h => by
    obtain ⟨x, t, e, h1, h2⟩ := h
    exact ⟨x, t, e, h1, RA.mono p h2⟩
theorem wk_asN {Q : List V → Hp → Prop} (h : tAs R .nil σ H Q) : tNil σ H Q := by
  obtain ⟨W, env, A, S, h⟩ := h
  rw [evArgs] at h
  exact h _ _ _ _ (.refl S) ⟨rfl, fun _ => rfl⟩
theorem wk_asC {e : E} {r : Es} {Q : List V → Hp → Prop} (h : tAs R (.cons e r) σ H Q) : tCons (tE R false e) (tAs R r) σ H Q := by
  obtain ⟨W, env, A, S, h⟩ := h
  refine tX.steps S h (by rw [evArgs]) fun o env1 v W1 H1 A1 g ⟨B, V⟩ hk => ?_
  obtain ⟨p, hp, hk⟩ := (show Oc R W H A σ (freeze o env1) _ from hk.bnd).freeze
  have g' := g.frz V
  refine tX.step g'.sat (hk.from g'.tr) fun ds env2 vs W2 H2 A2 g2 rr hk => ?_
  exact hk _ _ _ _ (g'.trans g2 and_lr) ⟨⟨v, vs, rfl, share_shd V.ro hp, (g2.pr g'.sat).ro (V.share (b := true) hp).ro, rr.1⟩, fun e => rr.2 (and_r e)⟩
theorem wk_asI {i : Nat} {r : Es} {Q : List V → Hp → Prop} (h : tAs R (.io i r) σ H Q) : tCons (tVar i) (tAs R r) σ H Q := by
  obtain ⟨W, env, A, S, h⟩ := h
  rw [evArgs] at h
  simp only at h
  split at h
  · rename_i o e
    obtain ⟨v, hv, ro⟩ := S.at_ i o e
    refine ⟨v, hv, ?_⟩
    split at h
    · exact h.elim
    · refine tX.step S h fun ds env2 vs W2 H2 A2 g2 rr hk => ?_
      exact hk _ _ _ _ (g2.nio fun e => nomatch e) ⟨⟨v, vs, rfl, hv, rr.1⟩, fun e => nomatch e⟩
  · exact h.elim
/-- what a def is given -/
def RArg (K : PySem.W.Frag) (W : Addr → Prop) (H : Hp) : List Bool → List O → List V → List (List Addr) → Prop
  | [], [], [], [] => True
  | false :: f, o :: os, v :: vs, Bs => isShd o = true ∧ RO K W H o v [] ∧ RArg K W H f os vs Bs
  | true :: f, o :: os, v :: vs, B :: Bs => RO K W H o v B ∧ RArg K W H f os vs Bs
  | _, _, _, _ => False
/-- what is lent -/
def lentV : List Bool → List V → List V
  | false :: f, _ :: vs => lentV f vs
  | true :: f, v :: vs => v :: lentV f vs
  | _, _ => []
def RIo (K : PySem.W.Frag) (W : Addr → Prop) (H : Hp) : List O → List V → List (List Addr) → Prop
  | [], [], [] => True
  | o :: os, v :: vs, B :: Bs => RO K W H o v B ∧ RIo K W H os vs Bs
  | _, _, _ => False
structure Beh (K : PySem.W.Frag) (W : Addr → Prop) (H : Hp) (Bs : List (List Addr)) (ios : List O) (vs : List V) (W' : Addr → Prop) (H' : Hp) (Bs' : List (List Addr)) : Prop where
  tr : Tr W H (fun a => a ∈ Bs.flatten) W' H' (fun a => a ∈ Bs'.flatten)
  io : RIo K W' H' ios vs Bs'
  nd : Bs'.flatten.Nodup
  sep : ∀ a ∈ Bs'.flatten, ¬ W' a
  dom : Dom W' H'
/-- a def's promise -/
def spF (R : Rn) (f : Nat) : Sp := fun vs H Q E => ∃ W os Bs, Dom W H ∧ RArg R.K W H (R.io f) os vs Bs ∧ Bs.flatten.Nodup ∧ (∀ a ∈ Bs.flatten, ¬ W a) ∧ match R.cl f os with
  | .ret o ios => ∀ v W' H' B Bs', Beh R.K W H Bs ios (lentV (R.io f) vs) W' H' Bs' → RO R.K W' H' o v B → B.Nodup → (∀ a ∈ B, ¬ W' a ∧ a ∉ Bs'.flatten ∧ (a ∈ Bs.flatten ∨ H a = none)) → Q v H'
  | .exc c ios => ∀ W' H' Bs', Beh R.K W H Bs ios (lentV (R.io f) vs) W' H' Bs' → E (R.exv c) none H'
  | .bad => False
/-! lent slots -/
def clr (A : Nat → List Addr) (is : List Nat) : Nat → List Addr := fun j => if is.contains j then [] else A j
theorem put_put {env : Env} {i : Nat} {x y : Option O} : put (put env i x) i y = put env i y := by
  induction env generalizing i with
  | nil => rfl
  | cons a r ih =>
    cases i with
    | zero => rfl
    | succ i =>
      show a :: put (put r i x) i y = a :: put r i y
      rw [ih]
theorem put_comm {env : Env} {i j : Nat} {x y : Option O} (h : i ≠ j) : put (put env i x) j y = put (put env j y) i x := by
  induction env generalizing i j with
  | nil => rfl
  | cons a r ih =>
    cases i with
    | zero =>
      cases j with
      | zero => exact absurd rfl h
      | succ j => rfl
    | succ i =>
      cases j with
      | zero => rfl
      | succ j =>
        show a :: put (put r i x) j y = a :: put (put r j y) i x
        rw [ih (by omega)]
theorem wipe_put {env : Env} {i : Nat} {x : Option O} : ∀ {is : List Nat}, i ∉ is → wipe (put env i x) is = put (wipe env is) i x
  | [], _ => rfl
  | j :: is, h => by
    have h1 : i ≠ j := fun e => h (by rw [e]; exact List.mem_cons_self)
    show put (wipe (put env i x) is) j none = put (put (wipe env is) j none) i x
    rw [wipe_put fun z => h (List.mem_cons_of_mem _ z), put_comm h1]
inductive Slots (σ : L2.St) : List Nat → List V → Prop
  | nil : Slots σ [] []
  | cons {i : Nat} {is : List Nat} {v : V} {vs : List V} (h : σ[i]? = some (some v)) (r : Slots σ is vs) : Slots σ (i :: is) (v :: vs)
theorem clr_upd {A : Nat → List Addr} {i : Nat} {is : List Nat} {B : List Addr} (h : i ∉ is) : clr (updA A i B) is = updA (clr A (i :: is)) i B := by
  funext j
  unfold clr updA
  by_cases hj : j = i
  · subst hj
    simp [h]
  · simp [hj]
theorem puts_sat : ∀ {is : List Nat} {ios : List O} {vs : List V} {Bs : List (List Addr)} {env : Env} {A : Nat → List Addr}, Sat K W H (wipe env is) σ (clr A is) → is.Nodup → RIo K W H ios vs Bs → Slots σ is vs →
    Bs.flatten.Nodup → (∀ a ∈ Bs.flatten, ¬ W a) → (∀ a ∈ Bs.flatten, ∀ j, a ∉ clr A is j) → ∃ A', Sat K W H (puts env is ios) σ A' ∧ ∀ j a, a ∈ A' j → a ∈ clr A is j ∨ a ∈ Bs.flatten
  | [], ios, vs, Bs, env, A, S, _, hi, hs, _, _, _ => by
    cases hs
    cases ios with
    | nil => exact ⟨clr A [], S, fun j a h => .inl h⟩
    | cons o os => exact hi.elim
  | i :: is, ios, vs, Bs, env, A, S, nd, hi, hs, nb, sp, dj => by
    cases hs with
    | @cons _ _ v vs hv hs => ?_
    cases ios with
    | nil => exact hi.elim
    | cons o os => ?_
    cases Bs with
    | nil => exact hi.elim
    | cons B Bs => ?_
    obtain ⟨ro, hi⟩ := hi
    rw [List.flatten_cons] at nb sp dj
    obtain ⟨hn, nd⟩ := List.nodup_cons.mp nd
    obtain ⟨nb1, nb2, nb3⟩ := List.nodup_append.mp nb
    have S1 := S.putE (i := i) (o := o) (v := v) (B := B) hv ro nb1 (fun a ha => sp a (List.mem_append_left _ ha)) (fun a ha j _ => dj a (List.mem_append_left _ ha) j)
    have e1 : put (wipe env (i :: is)) i (some o) = wipe (put env i (some o)) is := by
      rw [wipe_put hn]
      exact put_put
    have e2 := clr_upd (A := A) (B := B) hn
    rw [e1, ← e2] at S1
    obtain ⟨A', S2, hA⟩ := puts_sat S1 nd hi hs nb2 (fun a ha => sp a (List.mem_append_right _ ha)) (fun a ha j => by
      rw [e2]
      by_cases hj : j = i
      · subst hj
        rw [updA_self]
        exact fun z => nb3 a z a ha rfl
      · rw [updA_ne hj]
        exact dj a (List.mem_append_right _ ha) j)
    refine ⟨A', S2, fun j a ha => ?_⟩
    rcases hA j a ha with h | h
    · rw [e2] at h
      by_cases hj : j = i
      · subst hj
        rw [updA_self] at h
        exact .inr (by rw [List.flatten_cons]; exact List.mem_append_left _ h)
      · rw [updA_ne hj] at h
        exact .inl h
    · exact .inr (by rw [List.flatten_cons]; exact List.mem_append_right _ h)
theorem sat_wipe {env : Env} {A : Nat → List Addr} (S : Sat K W H env σ A) : ∀ is : List Nat, Sat K W H (wipe env is) σ (clr A is)
  | [] => S
  | i :: is => by
    have := (sat_wipe S is).drop i
    have e : updA (clr A is) i [] = clr A (i :: is) := by
      funext j
      unfold clr updA
      by_cases hj : j = i
      · subst hj; simp
      · simp [hj]
    rw [e] at this
    exact this
/-- the arguments, as the callee has them -/
theorem args_at {env : Env} {A : Nat → List Addr} (S : Sat K W H env σ A) : ∀ {fl : List Bool} {avs : List AV} {os : List O} {vs : List V}, RA K W H σ avs vs → args env avs = some os → iosOk fl avs = true →
    RArg K W H fl os vs ((lent avs).map A) ∧ Slots σ (lent avs) (lentV fl vs)
  | [], [], os, vs, ra, ea, _ => by
    simp only [args, Option.some.injEq] at ea
    subst ea
    simp only [RA] at ra
    subst ra
    exact ⟨trivial, .nil⟩
  | false :: fl, .v o :: avs, os, vs, ra, ea, ok => by
    obtain ⟨x, t, rfl, s, h1, h2⟩ := ra
    simp only [args, Option.map_eq_some_iff] at ea
    obtain ⟨os', e, rfl⟩ := ea
    obtain ⟨h3, h4⟩ := args_at S (fl := fl) h2 e (and_r ok)
    exact ⟨⟨s, h1, h3⟩, h4⟩
  | true :: fl, .io i :: avs, os, vs, ra, ea, ok => by
    obtain ⟨x, t, rfl, h1, h2⟩ := ra
    simp only [args] at ea
    split at ea
    · rename_i o ho
      simp only [Option.map_eq_some_iff] at ea
      obtain ⟨os', e, rfl⟩ := ea
      obtain ⟨h3, h4⟩ := args_at S (fl := fl) h2 e ok
      obtain ⟨v, hv, ro⟩ := S.at_ i o ho
      rw [h1] at hv
      cases hv
      exact ⟨⟨ro, h3⟩, .cons h1 h4⟩
    · cases ea
  | [], .v _ :: _, _, _, _, _, ok => by cases ok
  | [], .io _ :: _, _, _, _, _, ok => by cases ok
  | false :: _, [], _, _, _, _, ok => by cases ok
  | true :: _, [], _, _, _, _, ok => by cases ok
  | false :: _, .io _ :: _, _, _, _, _, ok => by cases ok
  | true :: _, .v _ :: _, _, _, _, _, ok => by cases ok
theorem lent_flat {A : Nat → List Addr} (nd : ∀ i, (A i).Nodup) (dj : ∀ i j a, i ≠ j → a ∈ A i → a ∉ A j) : ∀ {is : List Nat}, is.Nodup → ((is.map A).flatten).Nodup ∧ ∀ a ∈ (is.map A).flatten, ∃ i ∈ is, a ∈ A i
  | [], _ => ⟨.nil, fun a h => absurd h (by simp)⟩
  | i :: is, h => by
    obtain ⟨h1, h2⟩ := List.nodup_cons.mp h
    obtain ⟨h3, h4⟩ := lent_flat nd dj h2
    rw [List.map_cons, List.flatten_cons]
    refine ⟨List.nodup_append.mpr ⟨nd i, h3, fun a ha c hc e => ?_⟩, fun a ha => ?_⟩
    · subst e
      obtain ⟨j, hj, ha2⟩ := h4 a hc
      exact dj i j a (fun e => h1 (by rw [e]; exact hj)) ha ha2
    · rcases List.mem_append.mp ha with ha | ha
      · exact ⟨i, List.mem_cons_self, ha⟩
      · obtain ⟨j, hj, ha⟩ := h4 a ha
        exact ⟨j, List.mem_cons_of_mem _ hj, ha⟩
theorem nodupN_of : ∀ {is : List Nat}, nodupN is = true → is.Nodup
  | [], _ => .nil
  | i :: is, h => List.nodup_cons.mpr ⟨fun z => by
      have := and_l h
      simp [z] at this, nodupN_of (and_r h)⟩
theorem clr_sub {A : Nat → List Addr} {is : List Nat} {j : Nat} {a : Addr} (h : a ∈ clr A is j) : a ∈ A j ∧ j ∉ is := by
  unfold clr at h
  split at h
  · exact absurd h (by simp)
  · rename_i z
    exact ⟨h, by simpa using z⟩
/-- behind a call -/
theorem call_go {env : Env} {A : Nat → List Addr} {is : List Nat} {ios : List O} {vs : List V} {Bs' : List (List Addr)} {n : Bool} (S : Sat K W H env σ A) (nd : is.Nodup) (sl : Slots σ is vs) (B : Beh K W H (is.map A) ios vs W' H' Bs') (hn : n = true → is = []) :
    ∃ A', Go K W H A σ n (puts env is ios) W' H' A' ∧ (∀ j a, a ∈ A' j → (a ∈ A j ∧ j ∉ is) ∨ a ∈ Bs'.flatten) := by
  obtain ⟨f1, f2⟩ := lent_flat S.nd S.dj nd
  have there : ∀ i a, a ∈ A i → H a ≠ none := fun i a ha => by
    cases e : get env i with
    | none => rw [S.nil i e] at ha; exact absurd ha (by simp)
    | some o => exact let ⟨_, _, r⟩ := S.at_ i o e; r.there a ha
  have other : ∀ j a, j ∉ is → a ∈ A j → a ∉ (is.map A).flatten := fun j a hj ha z => by
    obtain ⟨i, hi, h⟩ := f2 a z
    exact S.dj j i a (fun e => hj (by rw [e]; exact hi)) ha h
  have S1 : Sat K W' H' (wipe env is) σ (clr A is) := (sat_wipe S is).mono B.tr.w (fun j a ha w => by
    obtain ⟨h1, h2⟩ := clr_sub ha
    rcases B.tr.w2 a w with w | w | w
    · exact S.sep j a h1 w
    · exact other j a h2 h1 w
    · exact there j a h1 w) B.dom fun a o ha e => B.tr.h a o e fun z => by
      rcases ha with w | ⟨j, ha⟩
      · obtain ⟨i, _, h⟩ := f2 a z
        exact S.sep i a h w
      · obtain ⟨h1, h2⟩ := clr_sub ha
        exact other j a h2 h1 z
  obtain ⟨A', S2, hA⟩ := puts_sat S1 nd B.io sl B.nd B.sep (fun a ha j z => by
    obtain ⟨h1, h2⟩ := clr_sub z
    rcases B.tr.a a ha with w | w
    · exact other j a h2 h1 w
    · exact there j a h1 w)
  refine ⟨A', ⟨⟨B.tr.w, fun a w => ?_, fun a o e na => B.tr.h a o e fun z => ?_, B.tr.d, fun a ⟨j, ha⟩ => ?_⟩, S2, fun e a u q => ?_⟩, fun j a ha => (hA j a ha).imp (fun h => clr_sub h) fun h => h⟩
  · rcases B.tr.w2 a w with w | w | w
    · exact .inl w
    · exact let ⟨i, _, h⟩ := f2 a w; .inr (.inl ⟨i, h⟩)
    · exact .inr (.inr w)
  · exact let ⟨i, _, h⟩ := f2 a z; na ⟨i, h⟩
  · rcases hA j a ha with h | h
    · exact .inl ⟨j, (clr_sub h).1⟩
    · rcases B.tr.a a h with w | w
      · exact let ⟨i, _, h⟩ := f2 a w; .inl ⟨i, h⟩
      · exact .inr w
  · refine B.tr.h a u q ?_
    rw [hn e]
    exact fun z => absurd z (by simp)
theorem wk_call {f : Nat} {as : Es} {Q : VK} (h : tE R b (.call f as) σ H Q) : tCallS (spF R f) (WE R.Wx) (tAs R as) σ H Q := by
  obtain ⟨W, env, A, S, h⟩ := h
  show tAs R as σ H (fun vs H1 => spF R f vs H1 Q (WE R.Wx σ))
  refine tX.steps S h (by rw [ev]) fun avs env1 vs W1 H1 A1 g ⟨ra, hl⟩ hk => ?_
  split at hk
  · rename_i c
    obtain ⟨c1, c2⟩ := and_lr c
    have nd := nodupN_of c2
    cases ea : args env1 avs with
    | none => simp only [ea] at hk; exact hk.elim
    | some os =>
      simp only [ea] at hk
      obtain ⟨rg, sl⟩ := args_at g.sat ra ea c1
      obtain ⟨f1, f2⟩ := lent_flat g.sat.nd g.sat.dj nd
      refine ⟨W1, os, (lent avs).map A1, g.sat.dom, rg, f1, fun a ha => let ⟨i, _, h⟩ := f2 a ha; g.sat.sep i a h, ?_⟩
      split
      · rename_i o ios ec
        rw [ec] at hk
        simp only at hk
        split at hk
        · intro v W' H' B Bs' bh ro nb sp
          obtain ⟨A', g2, hA⟩ := call_go (n := as.noIo) g.sat nd sl bh hl
          refine hk _ _ _ _ (g.trans g2 fun e => ⟨e, e⟩) ⟨B, ro, fun _ => nb, fun _ a ha => ?_⟩
          obtain ⟨s1, s2, s3⟩ := sp a ha
          refine ⟨s1, fun ⟨j, hj⟩ => ?_, ?_⟩
          · rcases hA j a hj with ⟨h1, h2⟩ | h
            · rcases s3 with s3 | s3
              · obtain ⟨i, hi, h⟩ := f2 a s3
                exact g.sat.dj j i a (fun e => h2 (by rw [e]; exact hi)) h1 h
              · cases e : get env1 j with
                | none => rw [g.sat.nil j e] at h1; exact absurd h1 (by simp)
                | some o => exact let ⟨_, _, r⟩ := g.sat.at_ j o e; r.there a h1 s3
            · exact s2 h
          · rcases s3 with s3 | s3
            · obtain ⟨i, _, h⟩ := f2 a s3
              exact g.tr.a a ⟨i, h⟩
            · exact .inr (g.tr.back s3)
        · exact hk.elim
      · rename_i c ios ec
        rw [ec] at hk
        simp only at hk
        split at hk
        · intro W' H' Bs' bh
          obtain ⟨A', g2, hA⟩ := call_go (n := false) g.sat nd sl bh fun e => nomatch e
          exact hk _ _ _ (g.tr.trans g2.tr) g2.sat
        · exact hk.elim
      · rename_i ec
        rw [ec] at hk
        exact hk.elim
  · exact hk.elim
end
end Ev
set_option Elab.async false
set_option linter.all false
set_option maxRecDepth 100000
set_option maxHeartbeats 1000000
namespace Ev
open PySem PySem.Spec PyProof.Rows L2 RZ
/-! ### targets -/
def Ch (ts : List Nat) (σ σ' : L2.St) : Prop := σ'.length = σ.length ∧ ∀ i, i ∉ ts → σ'[i]? = σ[i]?
theorem Ch.refl {ts : List Nat} {σ : L2.St} : Ch ts σ σ := ⟨rfl, fun _ _ => rfl⟩
theorem Ch.trans {ts us : List Nat} {σ σ1 σ2 : L2.St} (a : Ch ts σ σ1) (b : Ch us σ1 σ2) : Ch (ts ++ us) σ σ2 :=
  ⟨b.1.trans a.1, fun i h => (b.2 i fun z => h (List.mem_append_right _ z)).trans (a.2 i fun z => h (List.mem_append_left _ z))⟩
theorem Ch.wipe {ts vs : List Nat} {σ σ' : L2.St} (a : Ch ts σ σ') (h : inAll ts vs = true) : L2.wipe σ' vs = L2.wipe σ vs := by
  have key : ∀ (us : List Nat) (i : Nat), (L2.wipe σ us)[i]? = if i ∈ us ∧ i < σ.length then some none else σ[i]? := by
    intro us
    induction us with
    | nil => intro i; simp [L2.wipe]
    | cons u us ih =>
      intro i
      show ((L2.wipe σ us).set u none)[i]? = _
      by_cases hu : u = i
      · subst hu
        by_cases hl : u < σ.length
        · rw [List.getElem?_set_self (by rw [wipe_length]; exact hl), if_pos ⟨List.mem_cons_self, hl⟩]
        · rw [if_neg fun z => hl z.2, List.getElem?_eq_none (by rw [List.length_set, wipe_length]; omega), List.getElem?_eq_none (by omega)]
      · rw [List.getElem?_set_ne hu, ih]
        have : i ∈ u :: us ↔ i ∈ us := ⟨fun h => (List.mem_cons.mp h).resolve_left (Ne.symm hu), List.mem_cons_of_mem _⟩
        simp only [this]
  have key2 : ∀ (us : List Nat) (i : Nat), (L2.wipe σ' us)[i]? = if i ∈ us ∧ i < σ'.length then some none else σ'[i]? := by
    intro us
    induction us with
    | nil => intro i; simp [L2.wipe]
    | cons u us ih =>
      intro i
      show ((L2.wipe σ' us).set u none)[i]? = _
      by_cases hu : u = i
      · subst hu
        by_cases hl : u < σ'.length
        · rw [List.getElem?_set_self (by rw [wipe_length]; exact hl), if_pos ⟨List.mem_cons_self, hl⟩]
        · rw [if_neg fun z => hl z.2, List.getElem?_eq_none (by rw [List.length_set, wipe_length]; omega), List.getElem?_eq_none (by omega)]
      · rw [List.getElem?_set_ne hu, ih]
        have : i ∈ u :: us ↔ i ∈ us := ⟨fun h => (List.mem_cons.mp h).resolve_left (Ne.symm hu), List.mem_cons_of_mem _⟩
        simp only [this]
  apply List.ext_getElem?
  intro i
  rw [key, key2, a.1]
  split
  · rfl
  · rename_i hn
    by_cases hi : i ∈ ts
    · have : i ∈ vs := by
        have := List.all_eq_true.mp h i hi
        simpa using this
      have hl : ¬ i < σ.length := fun z => hn ⟨this, z⟩
      rw [List.getElem?_eq_none (show σ'.length ≤ i by rw [a.1]; omega), List.getElem?_eq_none (show σ.length ≤ i by omega)]
    · exact a.2 i hi
def tG (K : PySem.W.Frag) (weak : Bool) (tg : Tg) : TG := fun v σ H Q => ∃ W env A o B, Sat K W H env σ A ∧ RV K W H weak o v B ∧ B.Nodup ∧ (∀ a ∈ B, ¬ W a ∧ ¬ Owns A a) ∧ (weak = true → isTp tg = true) ∧ match take tg o env with
  | .ok _ env' => ∀ σ' A', Sat K W H env' σ' A' → Ch (tgs tg) σ σ' → (∀ a, Owns A' a → Owns A a ∨ a ∈ B) → Q σ' H
  | _ => False
def tGs (K : PySem.W.Frag) (ts : List Tg) : TGs := fun vs σ H Q => ∃ W env A ds, Sat K W H env σ A ∧ RDs K W H ds vs ∧ match takes ts ds env with
  | .ok _ env' => ∀ σ' A', Sat K W H env' σ' A' → Ch (tgss ts) σ σ' → (∀ a, Owns A' a → Owns A a) → Q σ' H
  | _ => False
theorem PG.weakL {X : L2.Cx} {e : Expr} {t t' : TG} (h : PG X e t) (k : ∀ v σ H Q, σ.length = X.N.length → t' v σ H Q → t v σ H Q) : PG X e t' := ⟨fun pins s σ H v u Q I r q => h.run pins s σ H v u Q I r (k v σ H Q I.len q)⟩
theorem PGs.weakL {X : L2.Cx} {e : List Expr} {t t' : TGs} (h : PGs X e t) (k : ∀ v σ H Q, t' v σ H Q → t v σ H Q) : PGs X e t' := ⟨fun pins s σ H v u Q I r q => h.run pins s σ H v u Q I r (k v σ H Q q)⟩
theorem rv_nil {K : PySem.W.Frag} {W : Addr → Prop} {H : Hp} {o : O} {v : V} {B : List Addr} {w : Bool} {ts : List Tg} {env env' : Env} {u : Unit} (h : RV K W H w o v B) (e : take (.tp ts) o env = .ok u env') : ∃ ds a xs, o = .sh (.tup ds) ∧ v = .ref a ∧ SqT K H a xs ∧ RDs K W H ds xs ∧ takes ts ds env = .ok u env' ∧ B = [] := by
  unfold take at e
  split at e
  · rename_i ds
    unfold RV at h
    split at h
    · obtain ⟨ds', a, xs, e1, e2, e3, e4, e5⟩ := h
      cases e1
      exact ⟨ds, a, xs, rfl, e2, e3, e4, e, e5⟩
    · obtain ⟨r, rfl⟩ := h.sh_inv
      obtain ⟨a, xs, e1, _, e2, e3⟩ := RR.tup r.rr
      exact ⟨ds, a, xs, rfl, e1, e2, e3, e, rfl⟩
  · cases e
theorem takes_len : ∀ {ts : List Tg} {ds : List D} {env env' : Env} {u : Unit}, takes ts ds env = .ok u env' → ts.length = ds.length
  | [], [], _, _, _, _ => rfl
  | [], _ :: _, _, _, _, h => by unfold takes at h; cases h
  | _ :: _, [], _, _, _, h => by unfold takes at h; cases h
  | t :: ts, d :: ds, env, env', u, h => by
    unfold takes at h
    obtain ⟨_, env1, _, h⟩ := ok_bnd h
    rw [List.length_cons, List.length_cons, takes_len h]
theorem isTgs_star {N : List Str} {osc : Scope} : ∀ {ts : List Tg} {es : List Expr} {env : PySem.Env}, isTgs N osc ts es = true → assignEach es env = es.map (fun e => (false, assign e env)) ∧ es.length = ts.length
  | [], [], _, _ => ⟨rfl, rfl⟩
  | [], _ :: _, _, h => by unfold isTgs at h; cases h
  | _ :: _, [], _, h => by unfold isTgs at h; cases h
  | t :: ts, e :: es, env, h => by
    unfold isTgs at h
    obtain ⟨h1, h2⟩ := isTgs_star (env := env) (and_r h)
    rw [assignEach_of (and_r (and_l h)), h1, List.length_cons, List.length_cons, h2]
    exact ⟨rfl, rfl⟩
section
variable {X : L2.Cx} {osc : Scope}
mutual
theorem pg_of (hN : X.N.Nodup) (hc : X.calm = true) (own : ∀ x, ownB osc x = true → Loc X.env.scope x ∧ (X.fn x = true ∨ X.env.scope.names.lookup x = some .local)) : ∀ (tg : Tg) (e : Expr), isTg X.N osc tg e = true → ∀ w, PG X e (tG X.K w tg)
  | .nm i, e, h, w => by
    cases e with
    | Name x pos => ?_
    | _ => (unfold isTg at h; cases h)
    unfold isTg at h
    obtain ⟨h1, h2⟩ := and_lr h
    have h1 : X.N[i]? = some x := by simpa using h1
    obtain ⟨o1, o2⟩ := own x h2
    refine PG.weakL (pg_name hN h1 o1 o2) fun v σ H Q hl q => ?_
    obtain ⟨W, env, A, o, B, S, rv, nd, sep, hw, q⟩ := q
    have hw : w = false := by
      cases w with
      | true => exact nomatch hw rfl
      | false => rfl
    subst hw
    have hi : i < env.length := by
      rw [S.len, hl]
      exact (List.getElem?_eq_some_iff.mp h1).1
    have S2 := S.put hi rv nd (fun b hb => (sep b hb).1) (fun b hb j _ z => (sep b hb).2 ⟨j, z⟩)
    unfold take at q
    refine q _ _ S2 ⟨List.length_set .., fun j hj => List.getElem?_set_ne (fun e => hj (by rw [e]; exact List.mem_cons_self))⟩ fun a ⟨j, ha⟩ => ?_
    by_cases e : j = i
    · subst e; rw [updA_self] at ha; exact .inr ha
    · rw [updA_ne e] at ha; exact .inl ⟨j, ha⟩
  | .tp ts, e, h, w => by
    cases e with
    | Tuple es k pos => ?_
    | _ => (unfold isTg at h; cases h)
    unfold isTg at h
    obtain ⟨s1, s2⟩ := isTgs_star (env := X.env) h
    refine PG.weakL (pg_tup (n := ts.length) hc (pgs_of hN hc own ts es h) (by rw [s1, List.length_map, s2]) (by rw [s1]; rw [List.findIdx?_eq_none_iff]; intro z hz; obtain ⟨y, _, rfl⟩ := List.mem_map.mp hz; rfl)) fun v σ H Q hl q => ?_
    obtain ⟨W, env, A, o, B, S, rv, nd, sep, hw, q⟩ := q
    cases e : take (.tp ts) o env with
    | ok u env' =>
      rw [e] at q
      obtain ⟨ds, a, xs, rfl, rfl, sq, rs, e2, rfl⟩ := rv_nil rv e
      refine ⟨a, xs, rfl, sq, by rw [rs.len]; exact (takes_len e2).symm, W, env, A, ds, S, rs, ?_⟩
      rw [e2]
      exact fun σ' A' S' c ha => q σ' A' S' c fun a h => .inl (ha a h)
    | exc c env' => rw [e] at q; exact q.elim
    | bad => rw [e] at q; exact q.elim
theorem pgs_of (hN : X.N.Nodup) (hc : X.calm = true) (own : ∀ x, ownB osc x = true → Loc X.env.scope x ∧ (X.fn x = true ∨ X.env.scope.names.lookup x = some .local)) : ∀ (ts : List Tg) (es : List Expr), isTgs X.N osc ts es = true → PGs X es (tGs X.K ts)
  | [], [], h => PGs.weakL pgs_nil fun vs σ H Q q => by
    obtain ⟨W, env, A, ds, S, rs, q⟩ := q
    cases ds with
    | nil =>
      simp only [RDs] at rs
      unfold takes at q
      exact ⟨rs, q σ A S Ch.refl fun _ h => h⟩
    | cons d ds => unfold takes at q; exact q.elim
  | [], _ :: _, h => by unfold isTgs at h; cases h
  | _ :: _, [], h => by unfold isTgs at h; cases h
  | t :: ts, e :: es, h => by
    unfold isTgs at h
    refine PGs.weakL (pgs_cons (pg_of hN hc own t e (and_l (and_l h)) false) (pgs_of hN hc own ts es (and_r h)) (by rw [assignEach_of (and_r (and_l h))]; rfl)) fun vs σ H Q q => ?_
    obtain ⟨W, env, A, ds, S, rs, q⟩ := q
    cases ds with
    | nil => unfold takes at q; exact q.elim
    | cons d ds => ?_
    simp only [RDs] at rs
    obtain ⟨x, r, rfl, r1, r2⟩ := rs
    refine ⟨x, r, rfl, W, env, A, .sh d, [], S, ro_sh r1, .nil, fun _ z => absurd z (by simp), fun e => (nomatch e), ?_⟩
    unfold takes at q
    cases e : take t (.sh d) env with
    | ok u env1 =>
      rw [e] at q
      refine fun σ1 A1 S1 c1 h1 => ⟨W, env1, A1, ds, S1, r2, ?_⟩
      simp only [Out.bnd] at q
      cases e2 : takes ts ds env1 with
      | ok u env2 =>
        rw [e2] at q
        exact fun σ2 A2 S2 c2 h2 => q σ2 A2 S2 (c1.trans c2) fun a ha => (h1 a (h2 a ha)).elim id fun z => absurd z (by simp)
      | exc c env' => rw [e2] at q; exact q.elim
      | bad => rw [e2] at q; exact q.elim
    | exc c env' => rw [e] at q; exact q.elim
    | bad => rw [e] at q; exact q.elim
end
end
/-! ### what is walked -/
section
variable {R : Rn} {σ : L2.St} {H : Hp} {Q : L2.It → Hp → Prop}
theorem itl_len {K : PySem.W.Frag} {H : Hp} {W : Addr → Prop} {ds : List D} {a : Addr} (hl : HL K H) (h : RD K W H (.lst ds) (.ref a)) : ds.length ≤ cap := by
  simp only [RD] at h
  obtain ⟨a', xs, e, wa, ha, rv⟩ := h
  cases e
  rw [← rv.len]
  exact hl a xs (.inl (SqL.of ha))
theorem itt_len {K : PySem.W.Frag} {H : Hp} {W : Addr → Prop} {ds : List D} {a : Addr} (hl : HL K H) (h : RD K W H (.tup ds) (.ref a)) : ds.length ≤ cap := by
  obtain ⟨a', xs, e, _, sq, rv⟩ := RR.tup h.rr
  cases e
  rw [← rv.len]
  exact hl a xs (.inr sq)
theorem sq_lst {K : PySem.W.Frag} {H : Hp} {W : Addr → Prop} {ds : List D} {v : V} (h : RD K W H (.lst ds) v) : ∃ a xs, v = .ref a ∧ SqL K H a xs := by
  simp only [RD] at h
  obtain ⟨a, xs, e, _, ha, _⟩ := h
  exact ⟨a, xs, e, SqL.of ha⟩
theorem sq_scr {K : PySem.W.Frag} {H : Hp} {W : Addr → Prop} {ns : List Int} {v : V} (h : RO K W H (.scr ns) v []) : ∃ a, v = .ref a ∧ SqL K H a (ns.map V.int) := by
  simp only [RO, and_true] at h
  obtain ⟨a, e, ha⟩ := h
  refine ⟨a, e, ?_⟩
  rcases ha with ⟨_, h | ⟨o, h⟩⟩ | h
  · exact .inl (.inl h)
  · exact .inl (.inr ⟨o, h⟩)
  · exact h.seq
theorem wk_seq {e : E} (h : tI R (.seq e) σ H Q) : (iList R.K (tE R false e) σ H fun J H1 => HL R.K H1 → Q J H1) ∨ (iTup R.K (tE R false e) σ H fun J H1 => HL R.K H1 → Q J H1) := by
  obtain ⟨W, env, A, S, h⟩ := h
  by_cases c : ∃ o env1 ds, ev R.cl R.io false e env = .ok o env1 ∧ o.share = some (.sh (.tup ds))
  · right
    refine tX.stepE S h (by rw [evIt]) fun o env1 v W1 H1 A1 he g ⟨B, V⟩ hk => ?_
    obtain ⟨o', env', ds, e1, e2⟩ := c
    rw [he] at e1
    cases e1
    obtain ⟨p, hp, hk⟩ := (show Oc R W H A σ (freeze o env1) _ from hk.bnd).freeze
    rw [hp] at e2
    cases e2
    have V' := V.share (b := true) hp
    obtain ⟨rv, _⟩ := V'.ro.sh_inv
    obtain ⟨a, xs, e, _, sq, _⟩ := RR.tup rv.rr
    subst e
    exact ⟨a, rfl, ⟨xs, sq⟩, fun hl => hk _ _ _ _ (g.frz V) ⟨wk_tup rv, by rw [List.length_map]; exact itt_len hl rv⟩⟩
  · left
    refine tX.stepE S h (by rw [evIt]) fun o env1 v W1 H1 A1 he g ⟨B, V⟩ hk => ?_
    obtain ⟨p, hp, hk⟩ := (show Oc R W H A σ (freeze o env1) _ from hk.bnd).freeze
    have V' := V.share (b := true) hp
    cases p with
    | sh d =>
      cases d with
      | lst ds =>
        obtain ⟨rv, _⟩ := V'.ro.sh_inv
        obtain ⟨a, xs, e, sq⟩ := sq_lst rv
        subst e
        exact ⟨a, rfl, ⟨xs, sq⟩, fun hl => hk _ _ _ _ (g.frz V) ⟨wk_list rv, by rw [List.length_map]; exact itl_len hl rv⟩⟩
      | tup ds => exact absurd ⟨o, env1, ds, he, hp⟩ c
      | _ => exact hk.elim
    | scr ns =>
      obtain ⟨a, e, sq⟩ := sq_scr V'.ro
      subst e
      exact ⟨a, rfl, ⟨_, sq⟩, fun hl => hk _ _ _ _ (g.frz V) ⟨wk_scr V'.ro, by rw [List.length_map]; have := hl a _ (.inl sq); rw [List.length_map] at this; exact this⟩⟩
    | _ => exact hk.elim
theorem rg_cap {lo hi : Int} (h : rgOk lo hi = true) : -(2 ^ 62) ≤ lo ∧ lo < 2 ^ 62 ∧ -(2 ^ 62) ≤ hi ∧ hi < 2 ^ 62 ∧ (hi - lo).toNat ≤ cap := by
  simp only [rgOk_eq, rgOk0, Bool.and_eq_true, decide_eq_true_eq] at h
  obtain ⟨⟨⟨⟨h1, h2⟩, h3⟩, h4⟩, h5⟩ := h
  have e : (2 : Int) ^ 61 = 2305843009213693952 := by decide
  have e2 : (2 : Int) ^ 62 = 4611686018427387904 := by decide
  rw [e] at h1 h2 h3 h4
  rw [e2]
  unfold cap
  omega
theorem wk_r1 {a : E} (h : tI R (.r1 a) σ H Q) : iRng1 (tCons (tE R true a) tNil) σ H Q := by
  obtain ⟨W, env, A, S, h⟩ := h
  refine tX.steps S h (by rw [evIt]) fun o env1 v W1 H1 A1 g ⟨B, V⟩ hk => ?_
  cases o with
  | sh i => ?_
  | _ => exact hk.elim
  cases i with
  | int i => ?_
  | _ => exact hk.elim
  obtain ⟨rv, rfl⟩ := V.ro.sh_inv
  simp only [RD] at rv
  subst rv
  obtain ⟨c, hk⟩ := hk.need
  obtain ⟨c1, c2, c3, c4, c5⟩ := rg_cap c
  exact ⟨i, rfl, c3, c4, hk _ _ _ _ g ⟨wk_range, by rw [rangeD_len]; simpa using c5⟩⟩
theorem wk_r2 {a c : E} (h : tI R (.r2 a c) σ H Q) : iRng2 (tCons (tE R true a) (tCons (tE R true c) tNil)) σ H Q := by
  obtain ⟨W, env, A, S, h⟩ := h
  refine tX.steps S h (by rw [evIt]) fun o env1 v W1 H1 A1 g ⟨B, V⟩ hk => ?_
  refine tX.step g.sat (hk.from g.tr) fun o2 env2 v2 W2 H2 A2 g2 ⟨B2, V2⟩ hk => ?_
  cases o with
  | sh i => ?_
  | _ => exact hk.elim
  cases i with
  | int i => ?_
  | _ => exact hk.elim
  cases o2 with
  | sh j => ?_
  | _ => exact hk.elim
  cases j with
  | int j => ?_
  | _ => exact hk.elim
  obtain ⟨rv, rfl⟩ := V.ro.sh_inv
  obtain ⟨rv2, rfl⟩ := V2.ro.sh_inv
  simp only [RD] at rv rv2
  subst rv
  subst rv2
  obtain ⟨c, hk⟩ := hk.need
  obtain ⟨c1, c2, c3, c4, c5⟩ := rg_cap c
  exact ⟨i, j, rfl, ⟨c1, c2, c3, c4⟩, hk _ _ _ _ (g.trans g2 and_lr) ⟨wk_range, by rw [rangeD_len]; exact c5⟩⟩
theorem wk_r3 {a c d : E} (h : tI R (.r3 a c d) σ H Q) : iRng3 (tCons (tE R true a) (tCons (tE R true c) (tCons (tE R true d) tNil))) σ H Q := by
  obtain ⟨W, env, A, S, h⟩ := h
  refine tX.steps S h (by rw [evIt]) fun o env1 v W1 H1 A1 g ⟨B, V⟩ hk => ?_
  refine tX.step g.sat (hk.from g.tr) fun o2 env2 v2 W2 H2 A2 g2 ⟨B2, V2⟩ hk => ?_
  refine tX.step g2.sat (hk.from g2.tr) fun o3 env3 v3 W3 H3 A3 g3 ⟨B3, V3⟩ hk => ?_
  have gg := (g.trans (n := a.noIo && c.noIo) g2 and_lr).trans (n := (a.noIo && c.noIo) && d.noIo) g3 and_lr
  cases o with
  | sh i => ?_
  | _ => exact hk.elim
  cases i with
  | int i => ?_
  | _ => exact hk.elim
  cases o2 with
  | sh j => ?_
  | _ => exact hk.elim
  cases j with
  | int j => ?_
  | _ => exact hk.elim
  cases o3 with
  | sh k => ?_
  | _ => exact hk.elim
  cases k with
  | int k => ?_
  | _ => exact hk.elim
  obtain ⟨rv, rfl⟩ := V.ro.sh_inv
  obtain ⟨rv2, rfl⟩ := V2.ro.sh_inv
  obtain ⟨rv3, rfl⟩ := V3.ro.sh_inv
  simp only [RD] at rv rv2 rv3
  subst rv
  subst rv2
  subst rv3
  obtain ⟨cc, hk2⟩ := hk.need
  obtain ⟨ck, cc⟩ := and_lr cc
  have ck : k = -1 := by simpa using ck
  subst ck
  obtain ⟨c1, c2, c3, c4, c5⟩ := rg_cap cc
  exact ⟨i, j, -1, (i - j).toNat, rfl, RgC.neg c3 c4 c1 c2, hk2 _ _ _ _ gg ⟨wk_down, by rw [downD_len]; exact c5⟩⟩
theorem wk_enum {e : E} (h : tI R (.enum e) σ H Q) : (iEnum R.K (tCons (tE R false e) tNil) σ H fun J H1 => HL R.K H1 → Q J H1) ∨ (iEnumT R.K (tCons (tE R false e) tNil) σ H fun J H1 => HL R.K H1 → Q J H1) := by
  obtain ⟨W, env, A, S, h⟩ := h
  by_cases c : ∃ o env1 ds, ev R.cl R.io false e env = .ok o env1 ∧ o.share = some (.sh (.tup ds))
  · right
    refine tX.stepE S h (by rw [evIt]) fun o env1 v W1 H1 A1 he g ⟨B, V⟩ hk => ?_
    obtain ⟨o', env', ds, e1, e2⟩ := c
    rw [he] at e1
    cases e1
    obtain ⟨p, hp, hk⟩ := (show Oc R W H A σ (freeze o env1) _ from hk.bnd).freeze
    rw [hp] at e2
    cases e2
    have V' := V.share (b := true) hp
    obtain ⟨rv, _⟩ := V'.ro.sh_inv
    obtain ⟨a, xs, e, _, sq, _⟩ := RR.tup rv.rr
    subst e
    exact ⟨a, xs, rfl, sq, fun hl => hk _ _ _ _ (g.frz V) ⟨wk_enumT rv, by rw [enumD_len]; exact itt_len hl rv⟩⟩
  · left
    refine tX.stepE S h (by rw [evIt]) fun o env1 v W1 H1 A1 he g ⟨B, V⟩ hk => ?_
    obtain ⟨p, hp, hk⟩ := (show Oc R W H A σ (freeze o env1) _ from hk.bnd).freeze
    have V' := V.share (b := true) hp
    cases p with
    | sh d =>
      cases d with
      | lst ds =>
        obtain ⟨rv, _⟩ := V'.ro.sh_inv
        obtain ⟨a, xs, e, sq⟩ := sq_lst rv
        subst e
        exact ⟨a, xs, rfl, sq, fun hl => hk _ _ _ _ (g.frz V) ⟨wk_enumL rv, by rw [enumD_len]; exact itl_len hl rv⟩⟩
      | tup ds => exact absurd ⟨o, env1, ds, he, hp⟩ c
      | _ => exact hk.elim
    | _ => exact hk.elim
theorem wk_zip {a c : E} (h : tI R (.zip a c) σ H Q) : iZipA R.K (tCons (tE R false a) (tCons (tE R false c) tNil)) σ H fun J H1 => HL R.K H1 → Q J H1 := by
  obtain ⟨W, env, A, S, h⟩ := h
  refine tX.steps S h (by rw [evIt]) fun o env1 v W1 H1 A1 g ⟨B, V⟩ hk => ?_
  obtain ⟨p, hp, hk⟩ := (show Oc R W H A σ (freeze o env1) _ from hk.bnd).freeze
  have V' := V.share (b := true) hp
  have g' := g.frz V
  refine tX.step g'.sat (hk.from g'.tr) fun o2 env2 v2 W2 H2 A2 g2 ⟨B2, V2⟩ hk => ?_
  obtain ⟨p2, hp2, hk⟩ := (show Oc R _ _ A1 σ (freeze o2 env2) _ from hk.bnd).freeze
  have V2' := V2.share (b := true) hp2
  have g2' := g2.frz V2
  have r1 := (g2'.pr g'.sat).ro V'.ro
  have r2 := V2'.ro
  have gg := g'.trans (n := a.noIo && c.noIo) g2' and_lr
  cases p with
  | sh d => ?_
  | _ => exact hk.elim
  cases d with
  | tup ds =>
    cases p2 with
    | sh d2 => ?_
    | _ => exact hk.elim
    cases d2 with
    | tup es => ?_
    | _ => exact hk.elim
    obtain ⟨rv, _⟩ := r1.sh_inv
    obtain ⟨rv2, _⟩ := r2.sh_inv
    obtain ⟨a, xs, e, _, sq, _⟩ := RR.tup rv.rr
    obtain ⟨b, ys, e2, _, sq2, _⟩ := RR.tup rv2.rr
    subst e
    subst e2
    exact ⟨a, b, xs, ys, rfl, .inr ⟨sq, sq2, fun hl => hk _ _ _ _ gg ⟨wk_zipT rv rv2, by rw [zipD_len]; have := itt_len hl rv; omega⟩⟩⟩
  | lst ds =>
    cases p2 with
    | sh d2 => ?_
    | _ => exact hk.elim
    cases d2 with
    | lst es => ?_
    | _ => exact hk.elim
    obtain ⟨rv, _⟩ := r1.sh_inv
    obtain ⟨rv2, _⟩ := r2.sh_inv
    obtain ⟨a, xs, e, sq⟩ := sq_lst rv
    obtain ⟨b, ys, e2, sq2⟩ := sq_lst rv2
    subst e
    subst e2
    exact ⟨a, b, xs, ys, rfl, .inl ⟨sq, sq2, fun hl => hk _ _ _ _ gg ⟨wk_zipL rv rv2, by rw [zipD_len]; have := itl_len hl rv; omega⟩⟩⟩
  | _ => exact hk.elim
/-! list(range(..)), tuple(range(..)) -/
def rgD (lo : Int) (n : Nat) : List D := (List.range n).map fun k => .int (lo + (k : Nat))
theorem rgD_sh (lo : Int) (n : Nat) : rangeD lo n = (rgD lo n).map O.sh := by simp [rangeD, rgD]
theorem RDs_rg {K : PySem.W.Frag} {W : Addr → Prop} {H : Hp} (lo hi : Int) : RDs K W H (rgD lo (hi - lo).toNat) (rgV lo hi) := by
  have := RDs_int (K := K) (W := W) (H := H) ((List.range (hi - lo).toNat).map fun k => lo + (k : Nat))
  rw [List.map_map, List.map_map] at this
  exact this
theorem wk_listr1 {b : Bool} {a : E} {Q : VK} (h : tE R b (.listr (.r1 a)) σ H Q) : tLstRg (tRg1 (tE R true a)) σ H Q := by
  obtain ⟨W, env, A, S, h⟩ := h
  show tE R true a σ H _
  refine tX.steps S (show Oc R W H A σ ((evIt R.cl R.io (.r1 a) env).bnd fun xs env => Out.ok (O.lst xs) env) _ by rw [ev] at h; exact h) (k := fun o env => (match o with
    | .sh (.int n) => need (rgOk 0 n) (.ok (rangeD 0 n.toNat) env)
    | _ => .bad).bnd fun xs env => Out.ok (O.lst xs) env) (by rw [evIt]; exact bnd_assoc) fun o env1 v W1 H1 A1 g ⟨B, V⟩ hk => ?_
  cases o with
  | sh i => ?_
  | _ => exact hk.elim
  cases i with
  | int i => ?_
  | _ => exact hk.elim
  obtain ⟨rv, rfl⟩ := V.ro.sh_inv
  simp only [RD] at rv
  subst rv
  obtain ⟨c, hk⟩ := (show Oc R W H A σ (need (rgOk 0 i) (.ok (rangeD 0 i.toNat) env1)) _ from hk.bnd).need
  obtain ⟨c1, c2, c3, c4, c5⟩ := rg_cap c
  refine ⟨i, rfl, ⟨c1, c2, c3, c4, c5⟩, fun q hq => ?_⟩
  have hk : ∀ v W' H' A', Go R.K W H A σ a.noIo env1 W' H' A' → vR R.K b σ W H A W' H' A' (.lst (rangeD 0 i.toNat)) v → Q v H' := hk
  rw [rgD_sh] at hk
  exact To.own (ds := rgD 0 i.toNat) (To.vl g hk) g.sat.dom (by have := RDs_rg (K := R.K) (W := W1) (H := H1) 0 i; rw [Int.sub_zero] at this; exact this) hq
theorem wk_listr2 {b : Bool} {a c : E} {Q : VK} (h : tE R b (.listr (.r2 a c)) σ H Q) : tLstRg (tRg2 (tE R true a) (tE R true c)) σ H Q := by
  obtain ⟨W, env, A, S, h⟩ := h
  show tE R true a σ H _
  refine tX.steps S (show Oc R W H A σ ((evIt R.cl R.io (.r2 a c) env).bnd fun xs env => Out.ok (O.lst xs) env) _ by rw [ev] at h; exact h) (k := fun o env => (ev R.cl R.io true c env).bnd fun p env => (match o, p with
    | .sh (.int lo), .sh (.int hi) => need (rgOk lo hi) (.ok (rangeD lo (hi - lo).toNat) env)
    | _, _ => .bad).bnd fun xs env => Out.ok (O.lst xs) env) (by rw [evIt]; exact bnd_assoc.trans (bnd_congr fun o env1 => bnd_assoc)) fun o env1 v W1 H1 A1 g ⟨B, V⟩ hk => ?_
  refine tX.step g.sat (hk.from g.tr) fun o2 env2 v2 W2 H2 A2 g2 ⟨B2, V2⟩ hk => ?_
  cases o with
  | sh i => ?_
  | _ => exact hk.elim
  cases i with
  | int i => ?_
  | _ => exact hk.elim
  cases o2 with
  | sh j => ?_
  | _ => exact hk.elim
  cases j with
  | int j => ?_
  | _ => exact hk.elim
  obtain ⟨rv, rfl⟩ := V.ro.sh_inv
  obtain ⟨rv2, rfl⟩ := V2.ro.sh_inv
  simp only [RD] at rv rv2
  subst rv
  subst rv2
  obtain ⟨cc, hk⟩ := (show Oc R W1 H1 A1 σ (need (rgOk i j) (.ok (rangeD i (j - i).toNat) env2)) _ from hk.bnd).need
  obtain ⟨c1, c2, c3, c4, c5⟩ := rg_cap cc
  refine ⟨i, j, rfl, rfl, ⟨c1, c2, c3, c4, c5⟩, fun q hq => ?_⟩
  have hk : ∀ v W' H' A', Go R.K W H A σ (a.noIo && c.noIo) env2 W' H' A' → vR R.K b σ W H A W' H' A' (.lst (rangeD i (j - i).toNat)) v → Q v H' := hk
  rw [rgD_sh] at hk
  exact To.own (ds := rgD i (j - i).toNat) (To.vl (g.trans g2 and_lr) hk) g2.sat.dom (RDs_rg i j) hq
theorem wk_tupler1 {b : Bool} {a : E} {Q : VK} (h : tE R b (.tupler (.r1 a)) σ H Q) : tTupRgZ (tRg1 (tE R true a)) σ H Q := by
  obtain ⟨W, env, A, S, h⟩ := h
  show tE R true a σ H _
  refine tX.steps S (show Oc R W H A σ ((evIt R.cl R.io (.r1 a) env).bnd fun xs env => match O.frzs xs with
    | some ds => Out.ok (O.sh (D.tup ds)) env
    | none => Out.bad) _ by rw [ev] at h; exact h) (k := fun o env => (match o with
    | .sh (.int n) => need (rgOk 0 n) (.ok (rangeD 0 n.toNat) env)
    | _ => .bad).bnd fun xs env => match O.frzs xs with
    | some ds => Out.ok (O.sh (D.tup ds)) env
    | none => Out.bad) (by rw [evIt]; exact bnd_assoc) fun o env1 v W1 H1 A1 g ⟨B, V⟩ hk => ?_
  cases o with
  | sh i => ?_
  | _ => exact hk.elim
  cases i with
  | int i => ?_
  | _ => exact hk.elim
  obtain ⟨rv, rfl⟩ := V.ro.sh_inv
  simp only [RD] at rv
  subst rv
  obtain ⟨c, hk⟩ := (show Oc R W H A σ (need (rgOk 0 i) (.ok (rangeD 0 i.toNat) env1)) _ from hk.bnd).need
  obtain ⟨c1, c2, c3, c4, c5⟩ := rg_cap c
  refine ⟨i, rfl, ⟨c1, c2, c3, c4, c5⟩, ?_⟩
  rw [rgD_sh] at hk
  have hk := (show Oc R W H A σ (match O.frzs ((rgD 0 i.toNat).map O.sh) with
    | some ds => Out.ok (O.sh (D.tup ds)) env1
    | none => Out.bad) _ from hk)
  rw [frzs_sh] at hk
  have hk : ∀ v W' H' A', Go R.K W H A σ a.noIo env1 W' H' A' → vR R.K b σ W H A W' H' A' (.sh (.tup (rgD 0 i.toNat))) v → Q v H' := hk
  exact To.tup (To.vl g hk) g.sat.dom (by have := RDs_rg (K := R.K) (W := W1) (H := H1) 0 i; rw [Int.sub_zero] at this; exact this)
theorem wk_tupler2 {b : Bool} {a c : E} {Q : VK} (h : tE R b (.tupler (.r2 a c)) σ H Q) : tTupRgZ (tRg2 (tE R true a) (tE R true c)) σ H Q := by
  obtain ⟨W, env, A, S, h⟩ := h
  show tE R true a σ H _
  refine tX.steps S (show Oc R W H A σ ((evIt R.cl R.io (.r2 a c) env).bnd fun xs env => match O.frzs xs with
    | some ds => Out.ok (O.sh (D.tup ds)) env
    | none => Out.bad) _ by rw [ev] at h; exact h) (k := fun o env => (ev R.cl R.io true c env).bnd fun p env => (match o, p with
    | .sh (.int lo), .sh (.int hi) => need (rgOk lo hi) (.ok (rangeD lo (hi - lo).toNat) env)
    | _, _ => .bad).bnd fun xs env => match O.frzs xs with
    | some ds => Out.ok (O.sh (D.tup ds)) env
    | none => Out.bad) (by rw [evIt]; exact bnd_assoc.trans (bnd_congr fun o env1 => bnd_assoc)) fun o env1 v W1 H1 A1 g ⟨B, V⟩ hk => ?_
  refine tX.step g.sat (hk.from g.tr) fun o2 env2 v2 W2 H2 A2 g2 ⟨B2, V2⟩ hk => ?_
  cases o with
  | sh i => ?_
  | _ => exact hk.elim
  cases i with
  | int i => ?_
  | _ => exact hk.elim
  cases o2 with
  | sh j => ?_
  | _ => exact hk.elim
  cases j with
  | int j => ?_
  | _ => exact hk.elim
  obtain ⟨rv, rfl⟩ := V.ro.sh_inv
  obtain ⟨rv2, rfl⟩ := V2.ro.sh_inv
  simp only [RD] at rv rv2
  subst rv
  subst rv2
  obtain ⟨cc, hk⟩ := (show Oc R W1 H1 A1 σ (need (rgOk i j) (.ok (rangeD i (j - i).toNat) env2)) _ from hk.bnd).need
  obtain ⟨c1, c2, c3, c4, c5⟩ := rg_cap cc
  refine ⟨i, j, rfl, rfl, ⟨c1, c2, c3, c4, c5⟩, ?_⟩
  rw [rgD_sh] at hk
  have hk := (show Oc R W1 H1 A1 σ (match O.frzs ((rgD i (j - i).toNat).map O.sh) with
    | some ds => Out.ok (O.sh (D.tup ds)) env2
    | none => Out.bad) _ from hk)
  rw [frzs_sh] at hk
  have hk : ∀ v W' H' A', Go R.K W H A σ (a.noIo && c.noIo) env2 W' H' A' → vR R.K b σ W H A W' H' A' (.sh (.tup (rgD i (j - i).toNat))) v → Q v H' := hk
  exact To.tup (To.vl (g.trans g2 and_lr) hk) g2.sat.dom (RDs_rg i j)
end
end Ev
set_option Elab.async false
set_option linter.all false
set_option maxRecDepth 100000
set_option maxHeartbeats 1000000
namespace Ev
open PySem PySem.Spec PyProof.Rows L2 RZ
/-! ### comprehensions -/
structure Acc (K : PySem.W.Frag) (W1 : Addr → Prop) (H1 : Hp) (A1 : Addr → Prop) (n : Bool) (W : Addr → Prop) (H : Hp) (A : Nat → List Addr) (env : Env) (σ : L2.St) (o : O) (D : Addr) (B : List Addr) : Prop where
  sat : Sat K W H env σ A
  tr : Tr W1 H1 A1 W H (Owns A)
  sm : n = true → ∀ a u, H1 a = some u → H a = some u
  ro : RO K W H o (.ref D) B
  nd : B.Nodup
  sep : ∀ a ∈ B, ¬ W a ∧ ¬ Owns A a ∧ (A1 a ∨ H1 a = none)
  new : H1 D = none
section
variable {K : PySem.W.Frag} {W0 W1 W W2 : Addr → Prop} {H0 H1 H H2 : Hp} {A1 : Addr → Prop} {A0 A A2 : Nat → List Addr} {n n2 : Bool} {env0 env env2 : Env} {σ σ2 : L2.St} {o p : O} {D : Addr} {B B' : List Addr} {y : V} {vs : List Nat}
theorem Sat.there (S : Sat K W H env σ A) : ∀ i a, a ∈ A i → H a ≠ none := fun i a ha => by
  cases e : get env i with
  | none => rw [S.nil i e] at ha; exact absurd ha (by simp)
  | some o => exact let ⟨_, _, r⟩ := S.at_ i o e; r.there a ha
theorem Go.grow (S : Sat K W H env σ A) (w : ∀ a, W a → W2 a) (w2 : ∀ a, W2 a → W a ∨ H a = none) (same : ∀ a u, H a = some u → H2 a = some u) (dom : Dom W2 H2) : Go K W H A σ n env W2 H2 A := by
  refine ⟨⟨w, fun a h => (w2 a h).imp id .inr, fun a o e _ => same a o e, fun a h e => ?_, fun a h => .inl h⟩, S.mono w (fun i a ha h => ?_) dom fun a o _ e => same a o e, fun _ => same⟩
  · cases e2 : H a with
    | none => exact h e2
    | some u => rw [same a u e2] at e; cases e
  · rcases w2 a h with h | h
    · exact S.sep i a ha h
    · exact S.there i a ha h
theorem Acc.go (a : Acc K W1 H1 A1 n W H A env σ o D B) (g : Go K W H A σ n2 env2 W2 H2 A2) (h : n = true → n2 = true) : Acc K W1 H1 A1 n W2 H2 A2 env2 σ o D B := by
  refine ⟨g.sat, a.tr.trans g.tr, fun e x u q => g.sm (h e) x u (a.sm e x u q), ?_, a.nd, fun x hx => ?_, a.new⟩
  · exact RO.mono g.tr.w (g.pr a.sat).h (fun x hx u e => g.tr.h x u e (a.sep x hx).2.1) a.ro
  · obtain ⟨s1, s2, s3⟩ := a.sep x hx
    have th := a.ro.there x hx
    refine ⟨fun w => ?_, fun w => ?_, s3⟩
    · rcases g.tr.w2 x w with w | w | w
      · exact s1 w
      · exact s2 w
      · exact th w
    · rcases g.tr.a x w with w | w
      · exact s2 w
      · exact th w
theorem Acc.re (a : Acc K W1 H1 A1 n W H A env σ o D B) (S : Sat K W H env2 σ2 A2) (h : ∀ x, Owns A2 x → Owns A x) : Acc K W1 H1 A1 n W H A2 env2 σ2 o D B :=
  ⟨S, a.tr.sub (fun _ q => q) h, a.sm, a.ro, a.nd, fun x hx => let ⟨s1, s2, s3⟩ := a.sep x hx; ⟨s1, fun z => s2 (h x z), s3⟩, a.new⟩
theorem get_wipe : ∀ {vs : List Nat} {env : Env} {i : Nat} {o : O}, get (wipe env vs) i = some o → get env i = some o ∧ i ∉ vs
  | [], _, _, _, h => ⟨h, by simp⟩
  | v :: vs, env, i, o, h => by
    by_cases e : v = i
    · subst e
      have hl := get_lt h
      rw [show wipe env (v :: vs) = put (wipe env vs) v none from rfl] at h hl
      rw [put_len] at hl
      rw [get_put_self hl] at h
      cases h
    · rw [show wipe env (v :: vs) = put (wipe env vs) v none from rfl, get_put_ne e] at h
      obtain ⟨h1, h2⟩ := get_wipe h
      exact ⟨h1, fun z => (List.mem_cons.mp z).elim (fun z => e z.symm) h2⟩
theorem Sat.wiped (S : Sat K W H env σ A) (vs : List Nat) : Sat K W H (wipe env vs) (L2.wipe σ vs) (clr A vs) := by
  have S1 := sat_wipe S vs
  refine ⟨by rw [wipe_length]; exact S1.len, fun i o e => ?_, S1.nil, S1.nd, S1.dj, S1.sep, S1.dom⟩
  obtain ⟨v, hv, ro⟩ := S1.at_ i o e
  exact ⟨v, by rw [wipe_out (get_wipe e).2]; exact hv, ro⟩
theorem owns_clr {x : Addr} (h : Owns (clr A vs) x) : Owns A x := let ⟨i, hi⟩ := h; ⟨i, (clr_sub hi).1⟩
theorem Acc.wipe (a : Acc K W1 H1 A1 n W H A env σ o D B) (vs : List Nat) : Acc K W1 H1 A1 n W H (clr A vs) (Ev.wipe env vs) (L2.wipe σ vs) o D B := a.re (a.sat.wiped vs) fun _ => owns_clr
theorem Acc.apart (a : Acc K W1 H1 A1 n W0 H0 A0 env0 σ o D B) (V : Vv K false W0 H0 A0 W H A p y B') : ∀ x ∈ B', x ∉ B ∧ (A1 x ∨ H1 x = none) := fun x hx => by
  obtain ⟨_, _, s⟩ := V.sep rfl x hx
  refine ⟨fun z => ?_, ?_⟩
  · rcases s with s | s
    · exact (a.sep x z).2.1 s
    · exact a.ro.there x z s
  · rcases s with s | s
    · exact a.tr.a x s
    · exact .inr (a.tr.back s)
theorem Acc.upd (a : Acc K W1 H1 A1 n W H A env σ o D B) (u : HO) (hD : D ∈ B) : Sat K W (upd H D u) env σ A ∧ Tr W1 H1 A1 W (upd H D u) (Owns A) ∧ (n = true → ∀ x v, H1 x = some v → upd H D u x = some v) := by
  obtain ⟨s1, s2, s3⟩ := a.sep D hD
  refine ⟨a.sat.mono (fun _ h => h) a.sat.sep (fun x w => ?_) (fun x v hx e => ?_), ⟨a.tr.w, a.tr.w2, fun x v e na => ?_, fun x hx => ?_, a.tr.a⟩, fun e x v q => ?_⟩
  · rw [upd_ne fun z => s1 (by rw [← z]; exact w)]; exact a.sat.dom x w
  · rw [upd_ne fun z => by subst z; exact hx.elim s1 s2]; exact e
  · rw [upd_ne (ne_of_none e a.new)]; exact a.tr.h x v e na
  · rw [upd_ne fun z => hx (by rw [z]; exact a.new)]; exact a.tr.d x hx
  · rw [upd_ne (ne_of_none q a.new)]; exact a.sm e x v q
/-- one more -/
theorem Acc.app {os : List O} (a : Acc K W1 H1 A1 n W0 H0 A0 env0 σ (.lst os) D B) (g : Go K W0 H0 A0 σ n2 env W H A) (h : n = true → n2 = true) (V : Vv K false W0 H0 A0 W H A p y B') :
    ∃ acc, H D = some (.lst acc) ∧ acc.length = os.length ∧ Acc K W1 H1 A1 n W (L2.upd H D (.lst (acc ++ [y]))) A env σ (.lst (os ++ [p])) D (B ++ B') ∧ Pr W0 H0 W (L2.upd H D (.lst (acc ++ [y]))) := by
  have a2 := a.go g h
  have ap := a.apart V
  have ro := a2.ro
  simp only [RO] at ro
  obtain ⟨D', acc, C, e, rfl, hD, rs⟩ := ro
  cases e
  have u := a2.upd (.lst (acc ++ [y])) List.mem_cons_self
  have ne : ∀ x ∈ B', x ≠ D := fun x hx e => (ap x hx).1 (by rw [e]; exact List.mem_cons_self)
  have hDW : ¬ W D := (a2.sep D List.mem_cons_self).1
  refine ⟨acc, hD, rs.len, ⟨u.1, u.2.1, u.2.2, ?_, ?_, fun x hx => ?_, a.new⟩, ⟨g.tr.w, fun x v w e => ?_⟩⟩
  · simp only [RO]
    refine ⟨D, acc ++ [y], C ++ B', rfl, rfl, upd_same, ROs.app ?_ ?_⟩
    · exact ROs.mono (fun _ q => q) (fun x v w e => by rw [upd_ne fun z => hDW (by rw [← z]; exact w)]; exact e) (fun x hx v e => by rw [upd_ne fun z => (List.nodup_cons.mp a2.nd).1 (by rw [← z]; exact hx)]; exact e) rs
    · simp only [ROs]
      refine ⟨y, [], B', [], rfl, by simp, ?_, rfl, rfl⟩
      exact RO.mono (fun _ q => q) (fun x v w e => by rw [upd_ne fun z => hDW (by rw [← z]; exact w)]; exact e) (fun x hx v e => by rw [upd_ne (ne x hx)]; exact e) V.ro
  · exact List.nodup_append.mpr ⟨a2.nd, V.nd rfl, fun x hx z hz e => (ap z hz).1 (by rw [← e]; exact hx)⟩
  · rcases List.mem_append.mp hx with hx | hx
    · exact a2.sep x hx
    · obtain ⟨s1, s2, _⟩ := V.sep rfl x hx
      exact ⟨s1, s2, (ap x hx).2⟩
  · have z := (g.pr a.sat).h x v w e
    rw [upd_ne fun q => hDW (by rw [← q]; exact g.tr.w x w)]
    exact z
theorem get_back : ∀ {vs : List Nat} {was env : Env} {i : Nat}, was.length = env.length → get (back was env vs) i = if i ∈ vs then get was i else get env i
  | [], _, _, _, _ => by simp [back]
  | v :: vs, was, env, i, h => by
    show get (put (back was env vs) v (get was v)) i = _
    have ln : ∀ us : List Nat, (back was env us).length = env.length := by
      intro us
      induction us with
      | nil => rfl
      | cons u us ih => show (put _ _ _).length = _; rw [put_len]; exact ih
    by_cases e : v = i
    · subst e
      by_cases hl : v < env.length
      · rw [get_put_self (by rw [ln]; exact hl)]
        simp
      · rw [get_ge (by rw [put_len, ln]; omega), get_ge (show was.length ≤ v by omega), get_ge (show env.length ≤ v by omega)]
        simp
    · rw [get_put_ne e, get_back h]
      have : i ∈ v :: vs ↔ i ∈ vs := ⟨fun h => (List.mem_cons.mp h).resolve_left (Ne.symm e), List.mem_cons_of_mem _⟩
      simp only [this]
/-- done: the slots as they were -/
theorem Acc.done {env1 : Env} {A1 : Nat → List Addr} (S1 : Sat K W1 H1 env1 σ A1) (a : Acc K W1 H1 (Owns (clr A1 vs)) n W H A env (L2.wipe σ vs) o D B) :
    ∃ A', Go K W1 H1 A1 σ n (back env1 env vs) W H A' ∧ Vv K false W1 H1 A1 W H A' o (.ref D) B := by
  have hl : env1.length = env.length := by rw [S1.len, a.sat.len, wipe_length]
  have out : ∀ x i, i ∈ vs → x ∈ A1 i → ¬ Owns (clr A1 vs) x := fun x i hi hx ⟨j, hj⟩ => by
    obtain ⟨h1, h2⟩ := clr_sub hj
    exact S1.dj i j x (fun e => h2 (by rw [← e]; exact hi)) hx h1
  have nA : ∀ x i j, i ∈ vs → x ∈ A1 i → x ∉ A j := fun x i j hi hx hj => by
    rcases a.tr.a x ⟨j, hj⟩ with h | h
    · exact out x i hi hx h
    · exact S1.there i x hx h
  have hA : ∀ j x, x ∈ (fun j => if vs.contains j then A1 j else A j) j → (j ∈ vs ∧ x ∈ A1 j) ∨ (j ∉ vs ∧ x ∈ A j) := fun j x h => by
    have h : x ∈ (if vs.contains j then A1 j else A j) := h
    split at h
    · rename_i c; exact .inl ⟨by simpa using c, h⟩
    · rename_i c; exact .inr ⟨by simpa using c, h⟩
  refine ⟨fun j => if vs.contains j then A1 j else A j, ⟨⟨a.tr.w, fun x w => ?_, fun x u e na => a.tr.h x u e fun z => na (owns_clr z), a.tr.d, fun x ⟨j, hj⟩ => ?_⟩, ⟨?_, fun i p e => ?_, fun i e => ?_, fun i => ?_, fun i j x hij h1 h2 => ?_, fun i x h w => ?_, a.sat.dom⟩, a.sm⟩, a.ro, fun _ => a.nd, fun _ x hx => ?_⟩
  · rcases a.tr.w2 x w with w | w | w
    · exact .inl w
    · exact .inr (.inl (owns_clr w))
    · exact .inr (.inr w)
  · rcases hA j x hj with ⟨_, h⟩ | ⟨_, h⟩
    · exact .inl ⟨j, h⟩
    · rcases a.tr.a x ⟨j, h⟩ with h | h
      · exact .inl (owns_clr h)
      · exact .inr h
  · have ln : ∀ us : List Nat, (back env1 env us).length = env.length := by
      intro us
      induction us with
      | nil => rfl
      | cons u us ih => show (put _ _ _).length = _; rw [put_len]; exact ih
    rw [ln, ← hl, S1.len]
  · rw [get_back hl] at e
    split at e
    · rename_i c
      obtain ⟨v, hv, ro⟩ := S1.at_ i p e
      refine ⟨v, hv, ?_⟩
      simp only [List.contains_iff_mem, c, if_true]
      exact RO.mono a.tr.w (fun x u w q => a.tr.h x u q fun z => S1.sep _ x (owns_clr z).choose_spec w) (fun x hx u q => a.tr.h x u q (out x i c hx)) ro
    · rename_i c
      obtain ⟨v, hv, ro⟩ := a.sat.at_ i p e
      refine ⟨v, (wipe_some hv).1, ?_⟩
      simp only [List.contains_iff_mem, c, if_false]
      exact ro
  · rw [get_back hl] at e
    split at e
    · rename_i c
      simp only [List.contains_iff_mem, c, if_true]
      exact S1.nil i e
    · rename_i c
      simp only [List.contains_iff_mem, c, if_false]
      exact a.sat.nil i e
  · show (if vs.contains i then A1 i else A i).Nodup
    split
    · exact S1.nd i
    · exact a.sat.nd i
  · rcases hA i x h1 with ⟨c, h1⟩ | ⟨c, h1⟩
    · rcases hA j x h2 with ⟨_, h2⟩ | ⟨_, h2⟩
      · exact S1.dj i j x hij h1 h2
      · exact nA x i j c h1 h2
    · rcases hA j x h2 with ⟨c2, h2⟩ | ⟨_, h2⟩
      · exact nA x j i c2 h2 h1
      · exact a.sat.dj i j x hij h1 h2
  · rcases hA i x h with ⟨c, h⟩ | ⟨c, h⟩
    · rcases a.tr.w2 x w with w | w | w
      · exact S1.sep i x h w
      · exact out x i c h w
      · exact S1.there i x h w
    · exact a.sat.sep i x h w
  · obtain ⟨s1, s2, s3⟩ := a.sep x hx
    refine ⟨s1, fun ⟨j, hj⟩ => ?_, s3.imp owns_clr id⟩
    rcases hA j x hj with ⟨c, h⟩ | ⟨_, h⟩
    · rcases s3 with s3 | s3
      · exact out x j c h s3
      · exact S1.there j x h s3
    · exact s2 ⟨j, h⟩
theorem Acc.start {env1 : Env} {A1 : Nat → List Addr} (S1 : Sat K W1 H1 env1 σ A1) (hD : H1 D = none) (u : HO) (ro : RO K W1 (L2.upd H1 D u) o (.ref D) [D]) : Acc K W1 H1 (Owns (clr A1 vs)) n W1 (L2.upd H1 D u) (clr A1 vs) (Ev.wipe env1 vs) (L2.wipe σ vs) o D [D] := by
  have kp := upd_keep (u := u) hD
  have S := S1.wiped vs
  have g : Go K W1 H1 (clr A1 vs) (L2.wipe σ vs) n (Ev.wipe env1 vs) W1 (L2.upd H1 D u) (clr A1 vs) := Go.grow S (fun _ h => h) (fun _ h => .inl h) kp fun x w => by
    rw [upd_ne fun z => S.dom x w (by rw [z]; exact hD)]
    exact S.dom x w
  refine ⟨g.sat, g.tr, g.sm, ro, by simp, fun x hx => ?_, hD⟩
  cases List.mem_singleton.mp hx
  exact ⟨fun w => S.dom _ w hD, fun ⟨i, hi⟩ => S.there i _ hi hD, .inr hD⟩
end
theorem ok_turns {f : O → M (Option O)} {vs : List Nat} {x : O} {r : List O} {env envF : Env} {os : List O} (h : turns f vs (x :: r) env = .ok os envF) :
    ∃ y env1 ys, f x env = .ok y env1 ∧ turns f vs r (wipe env1 vs) = .ok ys envF ∧ os = (match y with
      | some y => y :: ys
      | none => ys) := by
  rw [turns] at h
  obtain ⟨y, env1, h1, h⟩ := ok_bnd h
  obtain ⟨ys, env2, h2, h⟩ := ok_bnd h
  cases h
  exact ⟨y, env1, ys, h1, h2, rfl⟩
def Rn.no (R : Rn) : Rn := { R with Wx := fun _ _ _ _ => False }
theorem wipe_wipe {σ : L2.St} {vs : List Nat} : L2.wipe (L2.wipe σ vs) vs = L2.wipe σ vs := by
  have key : ∀ (σ : L2.St) (us : List Nat) (i : Nat), (L2.wipe σ us)[i]? = if i ∈ us ∧ i < σ.length then some none else σ[i]? := by
    intro σ us
    induction us with
    | nil => intro i; simp [L2.wipe]
    | cons u us ih =>
      intro i
      show ((L2.wipe σ us).set u none)[i]? = _
      by_cases hu : u = i
      · subst hu
        by_cases hl : u < σ.length
        · rw [List.getElem?_set_self (by rw [wipe_length]; exact hl), if_pos ⟨List.mem_cons_self, hl⟩]
        · rw [if_neg fun z => hl z.2, List.getElem?_eq_none (by rw [List.length_set, wipe_length]; omega), List.getElem?_eq_none (by omega)]
      · rw [List.getElem?_set_ne hu, ih]
        have : i ∈ u :: us ↔ i ∈ us := ⟨fun h => (List.mem_cons.mp h).resolve_left (Ne.symm hu), List.mem_cons_of_mem _⟩
        simp only [this]
  apply List.ext_getElem?
  intro i
  rw [key, key, wipe_length]
  by_cases c : i ∈ vs ∧ i < σ.length
  · rw [if_pos c, if_pos c]
  · rw [if_neg c, if_neg c]
section
variable {R : Rn} {σ : L2.St} {H : Hp} {Q : VK} {b : Bool}
theorem Oc.ok {α : Type} {W : Addr → Prop} {A : Nat → List Addr} {env : Env} {x : Out α} {a : α} {P : α → Env → Prop} (e : x = .ok a env) (h : P a env) : Oc R W H A σ x P := by subst e; exact h
theorem Oc.nox {α : Type} {W : Addr → Prop} {A : Nat → List Addr} {x : Out α} {P : α → Env → Prop} (h : Oc R W H A σ x.nox P) : ∃ a env, x = .ok a env ∧ P a env := by
  cases x with
  | ok a env => exact ⟨a, env, rfl, h⟩
  | exc c env => exact h.elim
  | bad => exact h.elim
theorem wk_comp {dp : Bool} {vs : List Nat} {elt : E} {tg : Tg} {it : It} {ifs : Ts} (hw : it.weak = true → isTp tg = true) (ht : inAll (tgs tg) vs = true) (h : tE R b (.comp dp vs elt tg it ifs) σ H Q) :
    tLc (tI R it) (tG R.K it.weak tg) (tTs R.no ifs) (tE R.no false elt) vs σ H Q := by
  obtain ⟨W, env, A, S, h⟩ := h
  show tI R it σ H _
  refine tX.steps S h (by rw [ev]) fun xs env1 J W1 H1 A1 g ⟨wk, hcap⟩ hk => ?_
  obtain ⟨os, envF, ht0, hk⟩ := (show Oc R W H A σ (Out.nox _) _ from hk.bnd).nox
  refine fun D hD => ?_
  generalize hf : (fun x env => (take tg x env).bnd fun _ env => (evTs R.cl R.io ifs env).bnd fun t env =>
      if t then (ev R.cl R.io false elt env).bnd fun o env => if dp then .ok (some o) env else (freeze o env).bnd fun o env => .ok (some o) env else Out.ok (none : Option O) env) = f at ht0
  refine ⟨fun i m H => m = xs.length - i ∧ i ≤ xs.length ∧ ∃ W2 A2 env2 os0 os1 B, Acc R.K W1 H1 (Owns (clr A1 vs)) (elt.noIo && ifs.noIo) W2 H A2 env2 (L2.wipe σ vs) (.lst os0) D B ∧ os0.length ≤ i ∧ turns f vs (xs.drop i) env2 = .ok os1 envF ∧ os = os0 ++ os1,
    ⟨xs.length, by simp, Nat.zero_le _, W1, _, _, [], os, [D], Acc.start g.sat hD _ (by simp only [RO, ROs]; exact ⟨D, [], [], rfl, rfl, upd_same, rfl, rfl⟩), Nat.zero_le _, ht0, rfl⟩, ?_⟩
  rintro i m H2 ⟨rfl, hi, W2, A2, env2, os0, os1, B, a, hlen, hr, he⟩
  have p2 : Pr W1 H1 W2 H2 := ⟨a.tr.w, fun x u w e => a.tr.h x u e fun z => let ⟨j, hj⟩ := owns_clr z; g.sat.sep j x hj w⟩
  by_cases hlt : i < xs.length
  · right
    refine ⟨wk.go W2 H2 i p2 a.sat.dom hlt, fun H' => ∃ m, m < xs.length - i ∧ (m = xs.length - (i + 1) ∧ i + 1 ≤ xs.length ∧ ∃ W2 A2 env2 os0 os1 B, Acc R.K W1 H1 (Owns (clr A1 vs)) (elt.noIo && ifs.noIo) W2 H' A2 env2 (L2.wipe σ vs) (.lst os0) D B ∧ os0.length ≤ i + 1 ∧ turns f vs (xs.drop (i + 1)) env2 = .ok os1 envF ∧ os = os0 ++ os1), fun H' q => q, fun x H3 yl => ?_⟩
    obtain ⟨W3, w1, w2, sm, dom, rv⟩ := wk.yld W2 H2 i x H3 xs[i] p2 a.sat.dom yl (by simp [hlt])
    have g3 : Go R.K W2 H2 A2 (L2.wipe σ vs) (elt.noIo && ifs.noIo) env2 W3 H3 A2 := Go.grow a.sat w1 w2 sm dom
    have a3 := a.go g3 id
    rw [List.drop_eq_getElem_cons hlt] at hr
    obtain ⟨y, envY, ys, hy, hr2, rfl⟩ := ok_turns hr
    subst hf
    obtain ⟨_, envT, hT, hy⟩ := ok_bnd hy
    obtain ⟨t, envU, hU, hy⟩ := ok_bnd hy
    refine ⟨W3, env2, A2, xs[i], [], g3.sat, rv, .nil, fun _ z => absurd z (by simp), hw, ?_⟩
    rw [hT]
    intro σ2 A4 S4 ch ho
    have wp : L2.wipe σ2 vs = L2.wipe σ vs := (ch.wipe ht).trans wipe_wipe
    refine ⟨wp, ?_⟩
    have a4 := a3.re S4 fun z hz => (ho z hz).elim id fun q => absurd q (by simp)
    refine ⟨W3, envT, A4, S4, Oc.ok hU ?_⟩
    rintro t' W5 H5 A5 g5 rfl
    have a5 := a4.go g5 and_r
    cases t with
    | true =>
      obtain ⟨o, envV, hV, hy⟩ := ok_bnd hy
      refine ⟨W5, envU, A5, g5.sat, Oc.ok hV ?_⟩
      rintro v W6 H6 A6 g6 ⟨B6, V6⟩
      cases dp with
      | true =>
        cases hy
        obtain ⟨acc, hD6, hl6, a6, _⟩ := a5.app g6 and_l V6
        refine ⟨acc, hD6, ?_, xs.length - (i + 1), by omega, rfl, hlt, W6, _, _, _, ys, _, (wp ▸ a6.wipe vs), by simp; omega, hr2, by rw [he]; simp⟩
        rw [hl6, ← cap_eq]; omega
      | false =>
        obtain ⟨p, envP, hp, hy⟩ := ok_bnd hy
        cases hy
        have hp2 : o.share = some p ∧ envV = envY := by
          cases e : o.share with
          | none => simp only [freeze, e] at hp; cases hp
          | some q => simp only [freeze, e] at hp; cases hp; exact ⟨rfl, rfl⟩
        obtain ⟨hp1, rfl⟩ := hp2
        obtain ⟨acc, hD6, hl6, a6, _⟩ := a5.app (g6.frz V6) and_l (V6.share hp1)
        refine ⟨acc, hD6, ?_, xs.length - (i + 1), by omega, rfl, hlt, _, _, _, _, ys, _, (wp ▸ a6.wipe vs), by simp; omega, hr2, by rw [he]; simp⟩
        rw [hl6, ← cap_eq]; omega
    | false =>
      cases hy
      exact ⟨xs.length - (i + 1), by omega, rfl, hlt, W5, _, _, os0, ys, B, (wp ▸ a5.wipe vs), by omega, hr2, he⟩
  · left
    have e : i = xs.length := by omega
    subst e
    refine ⟨wk.stop W2 H2 p2 a.sat.dom, ?_⟩
    rw [List.drop_length] at hr
    cases hr
    obtain ⟨A', g', V'⟩ := Acc.done g.sat a
    have e : os = os0 := by rw [he]; simp
    subst e
    refine hk _ _ _ _ (g.trans g' fun e => ?_) ⟨B, ?_⟩
    · have e : (elt.noIo && it.noIo && ifs.noIo) = true := e
      exact ⟨and_r (and_l e), by rw [and_l (and_l e), and_r e] <;> rfl⟩
    · have V2 := Vv.trans g V'
      exact ⟨V2.ro, fun _ => V2.nd rfl, fun _ => V2.sep rfl⟩
end
end Ev
set_option Elab.async false
set_option linter.all false
set_option maxRecDepth 100000
set_option maxHeartbeats 1000000
namespace Ev
open PySem PySem.Spec PyProof.Rows L2 RZ
/-! ### two clauses -/
theorem wipe_in {σ : L2.St} {ws vs : List Nat} (h : inAll ws vs = true) : L2.wipe (L2.wipe σ ws) vs = L2.wipe σ vs :=
  Ch.wipe (ts := ws) ⟨wipe_length .., fun i hi => wipe_out hi⟩ h
section
variable {R : Rn} {σ : L2.St} {H : Hp} {Q : VK} {b : Bool}
theorem wk_comp2 {dp : Bool} {vs ws : List Nat} {elt : E} {tg tg2 : Tg} {it it2 : It} (hw : it.weak = true → isTp tg = true) (hw2 : it2.weak = true → isTp tg2 = true) (ht : inAll (tgs tg) vs = true) (ht2 : inAll (tgs tg2) ws = true) (hws : inAll ws vs = true)
    (h : tE R b (.comp2 dp vs ws elt tg it tg2 it2) σ H Q) :
    tLc2 (tI R it) (tG R.K it.weak tg) tYes (tI R.no it2) (tG R.K it2.weak tg2) tYes (tE R.no false elt) vs ws σ H Q := by
  obtain ⟨W, env, A, S, h⟩ := h
  show tI R it σ H _
  refine tX.steps S h (by rw [ev]) fun xs env1 J W1 H1 A1 g ⟨wk, hcap⟩ hk => ?_
  obtain ⟨os, envF, ht0, hk⟩ := (show Oc R W H A σ (Out.nox _) _ from hk.bnd).nox
  obtain ⟨hc, hk⟩ := (show Oc R W H A σ (need (decide ((os.flatMap flat1).length ≤ cap)) (Out.ok (O.lst (os.flatMap flat1)) (back env1 envF vs))) _ from hk).need
  have hc : (os.flatMap flat1).length ≤ cap := by simpa using hc
  refine fun D hD => ?_
  generalize hall : os.flatMap flat1 = all at hk hc
  generalize hfi : (fun z env => (take tg2 z env).bnd fun _ env => (ev R.cl R.io false elt env).bnd fun o env => if dp then .ok (some o) env else (freeze o env).bnd fun o env => Out.ok (some o) env) = fi at ht0
  generalize hf : (fun x env => (take tg x env).bnd fun _ env => (evIt R.cl R.io it2 env).bnd fun zs env => (turns fi ws zs (wipe env ws)).bnd fun os env => .ok (some (O.lst os)) env) = f at ht0
  refine ⟨fun i m H => m = xs.length - i ∧ i ≤ xs.length ∧ ∃ W2 A2 env2 os0 os1 B, Acc R.K W1 H1 (Owns (clr A1 vs)) (elt.noIo && it2.noIo) W2 H A2 env2 (L2.wipe σ vs) (.lst os0) D B ∧ turns f vs (xs.drop i) env2 = .ok os1 envF ∧ all = os0 ++ os1.flatMap flat1,
    ⟨xs.length, by simp, Nat.zero_le _, W1, _, _, [], os, [D], Acc.start g.sat hD _ (by simp only [RO, ROs]; exact ⟨D, [], [], rfl, rfl, upd_same, rfl, rfl⟩), ht0, by rw [hall]; rfl⟩, ?_⟩
  rintro i m H2 ⟨rfl, hi, W2, A2, env2, os0, os1, B, a, hr, he⟩
  have p2 : Pr W1 H1 W2 H2 := ⟨a.tr.w, fun x u w e => a.tr.h x u e fun z => let ⟨j, hj⟩ := owns_clr z; g.sat.sep j x hj w⟩
  by_cases hlt : i < xs.length
  · right
    refine ⟨wk.go W2 H2 i p2 a.sat.dom hlt, fun H' => ∃ m, m < xs.length - i ∧ (m = xs.length - (i + 1) ∧ i + 1 ≤ xs.length ∧ ∃ W2 A2 env2 os0 os1 B, Acc R.K W1 H1 (Owns (clr A1 vs)) (elt.noIo && it2.noIo) W2 H' A2 env2 (L2.wipe σ vs) (.lst os0) D B ∧ turns f vs (xs.drop (i + 1)) env2 = .ok os1 envF ∧ all = os0 ++ os1.flatMap flat1), fun H' q => q, fun x H3 yl => ?_⟩
    obtain ⟨W3, w1, w2, sm, dom, rv⟩ := wk.yld W2 H2 i x H3 xs[i] p2 a.sat.dom yl (by simp [hlt])
    have g3 : Go R.K W2 H2 A2 (L2.wipe σ vs) (elt.noIo && it2.noIo) env2 W3 H3 A2 := Go.grow a.sat w1 w2 sm dom
    have a3 := a.go g3 id
    rw [List.drop_eq_getElem_cons hlt] at hr
    obtain ⟨y, envY, ys, hy, hr2, rfl⟩ := ok_turns hr
    subst hf
    obtain ⟨_, envT, hT, hy⟩ := ok_bnd hy
    obtain ⟨zs, envI, hI, hy⟩ := ok_bnd hy
    obtain ⟨oj, envJ, hJ, hy⟩ := ok_bnd hy
    cases hy
    have he : all = os0 ++ (oj ++ ys.flatMap flat1) := by rw [he]; simp [flat1]
    refine ⟨W3, env2, A2, xs[i], [], g3.sat, rv, .nil, fun _ z => absurd z (by simp), hw, ?_⟩
    rw [hT]
    intro σ2 A4 S4 ch ho
    have wp : L2.wipe σ2 vs = L2.wipe σ vs := (ch.wipe ht).trans wipe_wipe
    refine ⟨wp, ?_⟩
    have a4 := a3.re S4 fun z hz => (ho z hz).elim id fun q => absurd q (by simp)
    show tI R.no it2 σ2 H3 _
    refine ⟨W3, envT, A4, S4, Oc.ok hI ?_⟩
    rintro J1 W5 H5 A5 g5 ⟨wk1, hcap1⟩
    have a5 := a4.go g5 and_r
    refine ⟨fun j k H => k = zs.length - j ∧ j ≤ zs.length ∧ ∃ W6 A6 env6 osc osr B, Acc R.K W1 H1 (Owns (clr A1 vs)) (elt.noIo && it2.noIo) W6 H A6 env6 (L2.wipe σ2 ws) (.lst osc) D B ∧ Pr W5 H5 W6 H ∧ turns fi ws (zs.drop j) env6 = .ok osr envY ∧ all = osc ++ (osr ++ ys.flatMap flat1),
      ⟨zs.length, by simp, Nat.zero_le _, W5, _, _, os0, oj, B, a5.wipe ws, .refl, hJ, he⟩, ?_⟩
    rintro j k H6 ⟨rfl, hj, W6, A6, env6, osc, osr, B6, a6, p6, hr6, he6⟩
    by_cases hlj : j < zs.length
    · right
      refine ⟨wk1.go W6 H6 j p6 a6.sat.dom hlj, fun H' => ∃ k, k < zs.length - j ∧ (k = zs.length - (j + 1) ∧ j + 1 ≤ zs.length ∧ ∃ W6 A6 env6 osc osr B, Acc R.K W1 H1 (Owns (clr A1 vs)) (elt.noIo && it2.noIo) W6 H' A6 env6 (L2.wipe σ2 ws) (.lst osc) D B ∧ Pr W5 H5 W6 H' ∧ turns fi ws (zs.drop (j + 1)) env6 = .ok osr envY ∧ all = osc ++ (osr ++ ys.flatMap flat1)), fun H' q => q, fun x1 H7 yl1 => ?_⟩
      obtain ⟨W7, w71, w72, sm7, dom7, rv7⟩ := wk1.yld W6 H6 j x1 H7 zs[j] p6 a6.sat.dom yl1 (by simp [hlj])
      have g7 : Go R.K W6 H6 A6 (L2.wipe σ2 ws) (elt.noIo && it2.noIo) env6 W7 H7 A6 := Go.grow a6.sat w71 w72 sm7 dom7
      have a7 := a6.go g7 id
      have p7 := p6.trans (g7.pr a6.sat)
      rw [List.drop_eq_getElem_cons hlj] at hr6
      obtain ⟨y7, envY7, ys7, hy7, hr7, rfl⟩ := ok_turns hr6
      subst hfi
      obtain ⟨_, envT7, hT7, hy7⟩ := ok_bnd hy7
      obtain ⟨o7, envV7, hV7, hy7⟩ := ok_bnd hy7
      refine ⟨W7, env6, A6, zs[j], [], g7.sat, rv7, .nil, fun _ z => absurd z (by simp), hw2, ?_⟩
      rw [hT7]
      intro σ3 A8 S8 ch8 ho8
      have wp8 : L2.wipe σ3 ws = L2.wipe σ2 ws := (ch8.wipe ht2).trans wipe_wipe
      refine ⟨wp8, ?_⟩
      have a8 := a7.re S8 fun z hz => (ho8 z hz).elim id fun q => absurd q (by simp)
      show tE R.no false elt σ3 H7 _
      refine ⟨W7, envT7, A8, S8, Oc.ok hV7 ?_⟩
      rintro v W9 H9 A9 g9 ⟨B9, V9⟩
      cases dp with
      | true =>
        cases hy7
        obtain ⟨acc, hD9, hl9, a9, p9⟩ := a8.app g9 and_l V9
        refine ⟨acc, hD9, ?_, zs.length - (j + 1), by omega, rfl, hlj, W9, _, _, _, ys7, _, (wp8 ▸ a9.wipe ws), p7.trans p9, hr7, by rw [he6]; simp⟩
        have hc6 := hc
        rw [he6] at hc6
        simp at hc6
        rw [hl9, ← cap_eq]; omega
      | false =>
        obtain ⟨p, envP, hp, hy7⟩ := ok_bnd hy7
        cases hy7
        have hp2 : o7.share = some p ∧ envV7 = envY7 := by
          cases e : o7.share with
          | none => simp only [freeze, e] at hp; cases hp
          | some q => simp only [freeze, e] at hp; cases hp; exact ⟨rfl, rfl⟩
        obtain ⟨hp1, rfl⟩ := hp2
        obtain ⟨acc, hD9, hl9, a9, p9⟩ := a8.app (g9.frz V9) and_l (V9.share hp1)
        refine ⟨acc, hD9, ?_, zs.length - (j + 1), by omega, rfl, hlj, _, _, _, _, ys7, _, (wp8 ▸ a9.wipe ws), p7.trans p9, hr7, by rw [he6]; simp⟩
        have hc6 := hc
        rw [he6] at hc6
        simp at hc6
        rw [hl9, ← cap_eq]; omega
    · left
      have e : j = zs.length := by omega
      subst e
      rw [List.drop_length] at hr6
      cases hr6
      have z := a6.wipe vs
      rw [wipe_in hws, wp] at z
      exact ⟨wk1.stop W6 H6 p6 a6.sat.dom, xs.length - (i + 1), by omega, rfl, hlt, W6, _, _, osc, ys, B6, z, hr2, by rw [he6]; rfl⟩
  · left
    have e : i = xs.length := by omega
    subst e
    refine ⟨wk.stop W2 H2 p2 a.sat.dom, ?_⟩
    rw [List.drop_length] at hr
    cases hr
    obtain ⟨A', g', V'⟩ := Acc.done g.sat a
    have e : all = os0 := by rw [he]; simp
    subst e
    refine hk _ _ _ _ (g.trans g' fun e => ?_) ⟨B, ?_⟩
    · have e : (elt.noIo && it.noIo && it2.noIo) = true := e
      exact ⟨and_r (and_l e), by rw [and_l (and_l e), and_r e] <;> rfl⟩
    · have V2 := Vv.trans g V'
      exact ⟨V2.ro, fun _ => V2.nd rfl, fun _ => V2.sep rfl⟩
end
end Ev
set_option Elab.async false
set_option linter.all false
set_option maxRecDepth 100000
set_option maxHeartbeats 1000000
namespace Ev
open PySem PySem.Spec PyProof.Rows L2 RZ
/-! ### methods of lists, tuples, dicts -/
def tyE (K : PySem.W.Frag) (T : String) (x : V) (H : Hp) : Prop := tyV K T x H ∨ (T = "tuple" ∧ ∃ p xs, x = .ref p ∧ (TupAt H p xs ∨ KTup K p xs))
theorem tyE_is {X : L2.Cx} {pins : List (Addr × Obj)} {σ : L2.St} {H : Hp} {s : Shared} {T : String} {x : V} {v : Value} (I : Inv X pins σ H s) (r : L2.RelV x v) (ty : tyE X.K T x H) :
    s.TypeIs v T ∧ ∀ a, v = .ref a → ∃ ob, s.heap.get? a = some ob ∧ ob.dict = none := by
  rcases ty with ty | ⟨rfl, p, xs, rfl, ⟨o, h, hd⟩ | ⟨o, its, n, hk, hc, hd, _⟩⟩
  · exact tyV_is I r ty
  · cases r
    obtain ⟨ho, _, its, _, o', ho', hc, _⟩ := I.hok p _ h
    rw [ho] at ho'
    cases ho'
    exact ⟨⟨o, ho, hc⟩, fun a e => by cases e; exact ⟨o, ho, hd⟩⟩
  · cases r
    have ho := I.kIn p o hk
    exact ⟨⟨o, ho, hc⟩, fun a e => by cases e; exact ⟨o, ho, hd⟩⟩
def tBME (K : PySem.W.Frag) (ok : String → Prop) (r : String → V → List V → Hp → VK → Prop) (to : TE) (t : TA) : TE := fun σ H Q => to σ H fun x H1 => ∃ T, ok T ∧ tyE K T x H1 ∧ t σ H1 fun xs H2 => r T x xs H2 Q
theorem pe_bmE {X : L2.Cx} {o e : Expr} {to : TE} {t : TA} {name : Str} {apos cpos : Pos} {ok : String → Prop} {r : String → V → List V → Hp → VK → Prop}
    (hm : ∀ T, ok T → ∃ id, PlainAttrs T ∧ Slot T name id ∧ typeOf (.builtin id) = pure (.type "method_descriptor") ∧ MtR X id (r T)) (ho : PE X o to) (ha : PA X [e] t)
    (hbase : attributeBase o name X.env (eval o X.env) = eval o X.env) (hline : (apos.endLine == cpos.line) = true) (hs : starEach [e] X.env = [(false, eval e X.env)]) :
    PE X (.Call (.Attribute o name apos) [e] [] cpos) (tBME X.K ok r to t) := by
  refine ⟨fun pins s σ H Q I h => ?_⟩
  refine wpAny_Call_method_late hbase (by rw [hs]; rfl) hline rfl (thn (ho.run pins s σ H _ I h) fun v s1 ⟨x, H1, I1, r1, T, ot, ty, q1⟩ => ?_)
  obtain ⟨h1, h2⟩ := tyE_is I1 r1 ty
  obtain ⟨id, pa, slot, hty, hm⟩ := hm T ot
  refine ⟨T, id, pa, slot, hty, h1, h2, ?_⟩
  have hA := ha.run cpos pins s1 σ H1 _ I1 q1
  rw [hs] at hA ⊢
  refine Calls.callWith_builtin (by rfl) (Calls.evalArgs_plain ?_)
  exact thn hA fun us s2 ⟨vs, H2, I2, r2, q2⟩ => hm pins s2 σ H2 x vs v us Q I2 r1 r2 q2
section
variable {R : Rn} {σ : L2.St} {H : Hp} {b : Bool} {Q : VK}
theorem tX.mono {α β : Type} {n : Bool} {f : Env → Out α} {r : L2.St → (Addr → Prop) → Hp → (Nat → List Addr) → (Addr → Prop) → Hp → (Nat → List Addr) → α → β → Prop} {Q Q' : β → Hp → Prop} (h : tX R n f r σ H Q) (k : ∀ y H', Q y H' → Q' y H') : tX R n f r σ H Q' := by
  obtain ⟨W, env, A, S, h⟩ := h
  exact ⟨W, env, A, S, h.imp fun a env' q y W' H' A' g rr => k y H' (q y W' H' A' g rr)⟩
/-- whose the method is -/
def mTy (op : B2) (T : String) : Prop := match op with
  | .count => T = "list" ∨ T = "tuple"
  | .index => T = "list" ∨ T = "tuple"
  | .get1 => T = "dict"
  | _ => False
theorem ro_dict {K : PySem.W.Frag} {W : Addr → Prop} {o : O} {v : V} {A : List Addr} {kvs : List (D × O)} (h : RO K W H o v A) (e : dictOf o = some kvs) : ∃ a es, v = .ref a ∧ H a = some (.dK es) := by
  unfold dictOf at e
  split at e
  · simp only [RO] at h
    obtain ⟨⟨a, es, e1, _, e2, _⟩, _⟩ := h
    exact ⟨a, es, e1, e2⟩
  · simp only [RO] at h
    obtain ⟨a, es, _, e1, _, e2, _⟩ := h
    exact ⟨a, es, e1, e2⟩
  · cases e
theorem seq_ty {K : PySem.W.Frag} {W : Addr → Prop} {o : O} {v : V} {A : List Addr} {op : B2} (hm : mTy op "list") (hm2 : mTy op "tuple") (ro : RO K W H o v A) (h : (match rd o with
    | some (.lst _) => true
    | some (.tup _) => true
    | _ => false) = true) : ∃ T, mTy op T ∧ tyE K T v H ∧ tyO T o := by
  cases e : rd o with
  | none => rw [e] at h; cases h
  | some d =>
    rw [e] at h
    cases d with
    | lst ds =>
      obtain ⟨a, xs, rfl, ha, _⟩ := ro.seq e
      exact ⟨"list", hm, .inl (.inl ⟨rfl, xs, SqL.of ha⟩), ds, e⟩
    | tup ds =>
      obtain ⟨a, xs, rfl, ha, _⟩ := (ro.rd e).tup
      exact ⟨"tuple", hm2, .inr ⟨rfl, a, xs, rfl, ha.imp (·.2) id⟩, ds, e⟩
    | _ => cases h
theorem meth_ty {K : PySem.W.Frag} {W : Addr → Prop} {op : B2} {o : O} {v : V} {A : List Addr} (ro : RO K W H o v A) (hc : op = .count ∨ op = .index ∨ op = .get1) (h : methOk op o = true) : ∃ T, mTy op T ∧ tyE K T v H ∧ tyO T o := by
  rcases hc with rfl | rfl | rfl
  · exact seq_ty (.inl rfl) (.inr rfl) ro h
  · exact seq_ty (.inl rfl) (.inr rfl) ro h
  · obtain ⟨kvs, e⟩ := Option.isSome_iff_exists.mp (show (dictOf o).isSome = true from h)
    obtain ⟨a, es, rfl, ha⟩ := ro_dict ro e
    exact ⟨"dict", rfl, .inl (.inr (.inr (.inl ⟨rfl, .inl ⟨es, ha⟩⟩))), kvs, e⟩
theorem wk_meth {op : B2} {a c : E} (hc : op = .count ∨ op = .index ∨ op = .get1) (h : tE R b (.bin op a c) σ H Q) : tBME R.K (mTy op) (rM R.K op) (tE R true a) (tCons (tE R true c) tNil) σ H Q := by
  obtain ⟨W, env, A, S, h⟩ := h
  refine tX.steps S h (by rw [ev]) fun o env1 v W1 H1 A1 g ⟨B, V⟩ hk => ?_
  obtain ⟨hb, hk⟩ := hk.need
  obtain ⟨T, t1, t2, t3⟩ := meth_ty V.ro hc (and_r hb)
  have hb := and_l hb
  refine ⟨T, t1, t2, ?_⟩
  show tE R true c σ H1 _
  refine tX.step g.sat (hk.from g.tr) fun o2 env2 v2 W2 H2 A2 g2 ⟨B2, V2⟩ hk => ?_
  obtain ⟨o', e, hk⟩ := hk.ofO
  exact ⟨v2, W2, o, o2, o', B, B2, rfl, t3, g2.sat.dom, Vv.keep V.ro g.sat g2 (by simpa using hb), V2.ro, e, To.vl (g.trans g2 and_lr) hk⟩
end
/-! ### contexts -/
structure Cn where
  exv : Nat → Value
  cl : Nat → List O → CRes
  io : Nat → List Bool
abbrev rn (X : L2.Cx) (C : Cn) (Wx : WX) : Rn := ⟨X.K, C.exv, Wx, C.cl, C.io⟩
def blts : List String := ["len", "abs", "all", "any", "sum", "min", "max", "sorted", "tuple", "list", "int", "bool", "str", "isinstance", "range", "enumerate", "zip"]
structure Mo (tx : Txt) (C : Cn) (k : Nat) (X : L2.Cx) : Prop where
  blt : ∀ f, blts.contains f = true → X.mg (Str.ofString f) = none
  glb : ∀ f d, tx.glb f d = true → ∃ u v, X.mg (Str.ofString f) = some u ∧ L2.RelV v u ∧ ∀ W H, RD X.K W H d v
  fns : ∀ f n, tx.fnm f = some n → ∃ fa fd ps, X.mg (Str.ofString n) = some (.ref fa) ∧ PySem.W.keepIn X.K (.ref fa) = true ∧ L2.Binds X.K fd ps [] ∧
    FnOk X.prog X.w X.K X.mg X.base (L2.CX X.prog X.w) k fa fd ps (spF (rn X C fun _ _ _ _ => False) f)
structure CO (tx : Txt) (C : Cn) (k : Nat) (X : L2.Cx) (Wx : WX) (sc osc : Scope) : Prop where
  nd : X.N.Nodup
  sc : X.env.scope = sc
  own : ∀ x, ownB osc x = true → L2.Loc X.env.scope x ∧ (X.fn x = true ∨ X.env.scope.names.lookup x = some .local)
  calm : X.calm = true
  room : Room k X.A
  tk : Takes X Wx
  mo : Mo tx C k X
section
variable {tx : Txt} {C : Cn} {k : Nat} {X : L2.Cx} {Wx : WX} {sc osc : Scope}
theorem CO.units (c : CO tx C k X Wx sc osc) : X.A.units + 70 < cLine := by have := c.room.un; omega
theorem CO.gl (c : CO tx C k X Wx sc osc) {x : Str} {f : String} (h : glB sc x f = true) : x = Str.ofString f ∧ Gl X x ∧ (x == ("__debug__" : Str)) = false ∧ x ≠ "__name__" := by
  unfold glB at h
  obtain ⟨h, h4⟩ := and_lr h
  obtain ⟨h, h3⟩ := and_lr h
  obtain ⟨h1, h2⟩ := and_lr h
  refine ⟨by simpa using h1, ?_, by simpa using h3, by simpa using h4⟩
  show List.lookup x X.env.scope.names = _
  rw [c.sc]
  simpa using h2
theorem CO.vis (c : CO tx C k X Wx sc osc) {x : Str} {i : Nat} (h : nmB X.N sc i x = true) : X.N[i]? = some x ∧ Vis X.env.scope x ∧ (x == ("__debug__" : Str)) = false ∧ (x == ("__classdict__" : Str)) = false := by
  unfold nmB at h
  obtain ⟨h, h4⟩ := and_lr h
  obtain ⟨h, h3⟩ := and_lr h
  obtain ⟨h1, h2⟩ := and_lr h
  refine ⟨by simpa using h1, ?_, by simpa using h3, by simpa using h4⟩
  unfold Vis
  rw [c.sc]
  split at h2
  · rename_i e; exact .inl e
  · rename_i e; exact .inr (.inl e)
  · rename_i e; exact .inr (.inr e)
  · cases h2
theorem CO.blk (c : CO tx C k X Wx sc osc) (s : Shared) (H : Hp) (scope : Scope) (Cc : Addr) (cl : List (Str × Addr)) (fp : List Addr) : CO tx C k (X.blk s H scope (compEnvC scope cl Cc X.env) fp) (fun _ _ _ _ => False) (relS scope sc) scope := by
  refine ⟨c.nd, by rw [← c.sc]; rfl, fun x h => ?_, c.calm, c.room, fun u s' h => ?_, ⟨c.mo.blt, c.mo.glb, c.mo.fns⟩⟩
  · unfold ownB at h
    have rl : ∀ kd, kd ≠ .free → scope.names.lookup x = some kd → (compEnvC scope cl Cc X.env).scope.names.lookup x = some kd := fun kd hk hl => lookup_relS_keep (sc := X.env.scope) hk hl
    split at h
    · rename_i e
      have := rl _ (by decide) e
      exact ⟨.inl this, .inr this⟩
    · rename_i e
      exact ⟨.inr (rl _ (by decide) e), .inl (by show (scope.names.lookup x == some .cell) = true; rw [e]; rfl)⟩
    · cases h
  · obtain ⟨_, _, _, _, _, _, _, _, _, _, _, _, _, _, _, _, h⟩ := h
    exact h
/-! the text, taken apart -/
theorem unSub_blt {f : String} {e x : Expr} (h : unSub sc (.blt f) e = some x) : ∃ y p pos, e = .Call (.Name y p) [x] [] pos ∧ glB sc y f = true ∧ notStar x = true := by
  unfold unSub at h
  split at h
  all_goals first | contradiction | (cases h; done) | skip
  all_goals
    rename_i hq
    cases hq
    split at h
    · rename_i c
      cases h
      exact ⟨_, _, _, rfl, and_l c, and_r c⟩
    · cases h
theorem unSub_ty {f : String} {e x : Expr} (h : unSub sc (.ty f) e = some x) : ∃ y p pos, e = .Call (.Name y p) [x] [] pos ∧ glB sc y f = true ∧ notStar x = true := by
  unfold unSub at h
  split at h
  all_goals first | contradiction | (cases h; done) | skip
  all_goals
    rename_i hq
    cases hq
    split at h
    · rename_i c
      cases h
      exact ⟨_, _, _, rfl, and_l c, and_r c⟩
    · cases h
theorem unSub_isinst {f : String} {e x : Expr} (h : unSub sc (.isinst f) e = some x) : ∃ y p t q pos, e = .Call (.Name y p) [x, .Name t q] [] pos ∧ glB sc y "isinstance" = true ∧ glB sc t f = true ∧ notStar x = true := by
  unfold unSub at h
  split at h
  all_goals first | contradiction | (cases h; done) | skip
  all_goals
    rename_i hq
    cases hq
    split at h
    · rename_i c
      cases h
      exact ⟨_, _, _, _, _, rfl, and_l (and_l c), and_r (and_l c), and_r c⟩
    · cases h
theorem unSub_usub {e x : Expr} (h : unSub sc .usub e = some x) : ∃ pos, e = .UnaryOp .USub x pos := by
  unfold unSub at h
  split at h
  all_goals first | contradiction | (cases h; done) | skip
  all_goals
    rename_i hq
    cases hq
    cases h
    exact ⟨_, rfl⟩
theorem unSub_isC {o : CmpOp} {k : Const} {e x : Expr} (h : unSub sc (.isC o k) e = some x) : ∃ j p pos, e = .Compare x [o] [.Constant k j p] pos := by
  unfold unSub at h
  split at h
  all_goals first | contradiction | (cases h; done) | skip
  all_goals
    rename_i hq
    cases hq
    split at h
    · rename_i c
      cases h
      obtain ⟨c1, c2⟩ := and_lr c
      have c1 := of_decide_eq_true c1
      have c2 := of_decide_eq_true c2
      subst c1
      subst c2
      exact ⟨_, _, _, rfl⟩
    · cases h
theorem binSub_op {o : Operator} {e x y : Expr} (h : binSub sc (.op o) e = some (x, y)) : ∃ pos, e = .BinOp x o y pos := by
  unfold binSub at h
  split at h
  all_goals first | contradiction | (cases h; done) | skip
  all_goals
    rename_i hq
    cases hq
    split at h
    · rename_i c
      cases h
      have c1 := of_decide_eq_true c
      subst c1
      exact ⟨_, rfl⟩
    · cases h
theorem binSub_cmp {o : CmpOp} {e x y : Expr} (h : binSub sc (.cmp o) e = some (x, y)) : ∃ pos, e = .Compare x [o] [y] pos ∧ behindInMarks o y = false := by
  unfold binSub at h
  split at h
  all_goals first | contradiction | (cases h; done) | skip
  all_goals
    rename_i hq
    cases hq
    split at h
    · rename_i c
      cases h
      have c1 := of_decide_eq_true (and_l c)
      subst c1
      exact ⟨_, rfl, by simpa using and_r c⟩
    · cases h
theorem binSub_blt {f : String} {e x y : Expr} (h : binSub sc (.blt f) e = some (x, y)) : ∃ n p pos, e = .Call (.Name n p) [x, y] [] pos ∧ glB sc n f = true ∧ notStar x = true ∧ notStar y = true := by
  unfold binSub at h
  split at h
  all_goals first | contradiction | (cases h; done) | skip
  all_goals
    rename_i hq
    cases hq
    split at h
    · rename_i c
      cases h
      exact ⟨_, _, _, rfl, and_l (and_l c), and_r (and_l c), and_r c⟩
    · cases h
theorem binSub_meth {m : String} {e x y : Expr} (h : binSub sc (.meth m) e = some (x, y)) : ∃ ap cp, e = .Call (.Attribute x (Str.ofString m) ap) [y] [] cp ∧ (ap.endLine == cp.line) = true ∧ plainBase x = true ∧ notStar y = true := by
  unfold binSub at h
  split at h
  all_goals first | contradiction | (cases h; done) | skip
  all_goals
    rename_i hq
    cases hq
    split at h
    · rename_i c
      cases h
      have c1 := of_decide_eq_true (and_l (and_l (and_l c)))
      subst c1
      exact ⟨_, _, rfl, and_r (and_l (and_l c)), and_r (and_l c), and_r c⟩
    · cases h
theorem chSub_cmp {k1 k2 : BK} {e x y z : Expr} (h : chSub k1 k2 e = some (x, y, z)) : ∃ o1 o2 pos, k1 = .cmp o1 ∧ k2 = .cmp o2 ∧ e = .Compare x [o1, o2] [y, z] pos ∧ lastMarks [o1, o2] [y, z] = false := by
  unfold chSub at h
  split at h
  · split at h
    · rename_i c
      cases h
      obtain ⟨c, c3⟩ := and_lr c
      have c1 := of_decide_eq_true (and_l c)
      have c2 := of_decide_eq_true (and_r c)
      subst c1
      subst c2
      exact ⟨_, _, _, rfl, rfl, rfl, by simpa using c3⟩
    · cases h
  · cases h
end
end Ev
set_option Elab.async false
set_option linter.all false
set_option maxRecDepth 100000
set_option maxHeartbeats 1000000
namespace Ev
open PySem PySem.Spec PyProof.Rows L2 RZ
section
variable {tx : Txt} {C : Cn} {k : Nat} {X : L2.Cx} {Wx : WX} {sc osc : Scope}
/-! the rules of operations -/
theorem op_rule {op : B2} {o : Operator} (h : bkind op = .op o) : OpR X (binaryOp o) (RB X.K op) := by
  cases op <;> cases h
  · exact or_add
  · exact or_sub
  · exact or_mul
  · exact or_fdiv
  · exact or_mod
  · exact or_pow
theorem cmp_rule (hu : X.A.units + 70 < cLine) {op : B2} {o : CmpOp} (h : bkind op = .cmp o) : OpR X (compareOp o) (RB X.K op) ∧ isCmp op = true := by
  cases op <;> cases h
  · exact ⟨or_eq hu, rfl⟩
  · exact ⟨or_ne hu, rfl⟩
  · exact ⟨or_lt, rfl⟩
  · exact ⟨or_le, rfl⟩
  · exact ⟨or_gt, rfl⟩
  · exact ⟨or_ge, rfl⟩
  · exact ⟨or_in hu, rfl⟩
  · exact ⟨or_nin hu, rfl⟩
theorem blt_rule (hc : X.calm = true) {op : B2} {f : String} (h : bkind op = .blt f) : CallR X (.builtin f) (fun xs H Q => ∃ x y, xs = [x, y] ∧ RB X.K op x y H Q) ∧ bootBuiltins (Str.ofString f) = some (.builtin f) ∧ blts.contains f = true := by
  cases op <;> cases h
  · exact ⟨cr_min2 hc, rfl, by decide⟩
  · exact ⟨cr_max2 hc, rfl, by decide⟩
theorem meth_rule (hu : X.A.units + 70 < cLine) {op : B2} {m : String} (h : bkind op = .meth m) : (op = .count ∨ op = .index ∨ op = .get1) ∧
    ∀ T, mTy op T → ∃ id, PlainAttrs T ∧ Slot T (Str.ofString m) id ∧ typeOf (.builtin id) = pure (.type "method_descriptor") ∧ MtR X id (rM X.K op T) := by
  cases op <;> cases h
  · refine ⟨.inl rfl, fun T hT => ?_⟩
    rcases hT with rfl | rfl
    · exact ⟨_, PySem.F.plainAttrs_list, PySem.F.slot_list_count, PySem.F.type_list_count, mt_list_count hu⟩
    · exact ⟨_, PySem.F.plainAttrs_tuple, PySem.F.slot_tuple_count, PySem.F.type_tuple_count, mt_tuple_count hu⟩
  · refine ⟨.inr (.inl rfl), fun T hT => ?_⟩
    rcases hT with rfl | rfl
    · exact ⟨_, PySem.F.plainAttrs_list, PySem.F.slot_list_index, PySem.F.type_list_index, mt_list_index hu⟩
    · exact ⟨_, PySem.F.plainAttrs_tuple, PySem.F.slot_tuple_index, PySem.F.type_tuple_index, mt_tuple_index hu⟩
  · refine ⟨.inr (.inr rfl), fun T hT => ?_⟩
    cases (show T = "dict" from hT)
    exact ⟨_, PySem.F.plainAttrs_dict, PySem.F.slot_dict_get, PySem.F.type_dict_get, mt_dict_get hu⟩
theorem un_blt_rule (hc : X.calm = true) {op : U1} {f : String} (h : ukind op = .blt f) : CallR X (.builtin f) (RU1 X.K op) ∧ bootBuiltins (Str.ofString f) = some (.builtin f) ∧ blts.contains f = true := by
  cases op <;> cases h
  · exact ⟨cr_len, rfl, by decide⟩
  · exact ⟨cr_abs, rfl, by decide⟩
  · exact ⟨cr_allE hc, rfl, by decide⟩
  · exact ⟨cr_anyE hc, rfl, by decide⟩
  · exact ⟨cr_sumE hc, rfl, by decide⟩
  · exact ⟨cr_minE hc, rfl, by decide⟩
  · exact ⟨cr_maxE hc, rfl, by decide⟩
  · exact ⟨cr_sortedE, rfl, by decide⟩
theorem un_ty_rule {op : U1} {f : String} (h : ukind op = .ty f) : CallR X (.type f) (RU1 X.K op) ∧ bootBuiltins (Str.ofString f) = some (.type f) ∧ blts.contains f = true := by
  cases op <;> cases h
  · exact ⟨cr_tuple, rfl, by decide⟩
  · exact ⟨cr_list, rfl, by decide⟩
  · exact ⟨cr_int, rfl, by decide⟩
  · exact ⟨cr_bool, rfl, by decide⟩
theorem un_isinst_rule {op : U1} {f : String} (h : ukind op = .isinst f) : isOp f = some op ∧ bootBuiltins (Str.ofString f) = some (.type f) ∧ blts.contains f = true := by
  cases op <;> cases h <;> exact ⟨rfl, rfl, by decide⟩
theorem un_usub_rule {op : U1} (h : ukind op = .usub) : op = .neg := by cases op <;> cases h <;> rfl
theorem un_isC_rule {op : U1} {o : CmpOp} {cc : Const} (h : ukind op = .isC o cc) : isIs op = true ∧ ∃ v, (∀ j p, PE X (.Constant cc j p) (tC v)) ∧ OpR X (compareOp o) (fun x y H Q => y = v ∧ RU X.K op x H Q) := by
  cases op <;> cases h
  · exact ⟨rfl, .non, fun _ _ => pe_non, or_isNone⟩
  · exact ⟨rfl, .non, fun _ _ => pe_non, or_notNone⟩
  · exact ⟨rfl, .bl true, fun _ _ => pe_bl, or_isBl true⟩
  · exact ⟨rfl, .bl false, fun _ _ => pe_bl, or_isBl false⟩
def Es.len : Es → Nat
  | .nil => 0
  | .cons _ r => r.len + 1
  | .io _ r => r.len + 1
theorem evs_len {cl : Nat → List O → CRes} {io : Nat → List Bool} : ∀ {es : Es} {env env' : Env} {ds : List D}, evs cl io es env = .ok ds env' → ds.length = es.len
  | .nil, _, _, _, h => by rw [evs] at h; cases h; rfl
  | .cons e r, env, env', ds, h => by
    rw [evs] at h
    obtain ⟨o, env1, _, h⟩ := ok_bnd h
    cases e : o.frz with
    | none => simp only [e] at h; cases h
    | some d =>
      simp only [e] at h
      obtain ⟨ds', env2, h2, h⟩ := ok_bnd h
      cases h
      rw [List.length_cons, evs_len h2]
      rfl
  | .io _ _, _, _, _, h => by rw [evs] at h; cases h
theorem isEs_len {N : List Str} : ∀ {es : Es} {xs : List Expr}, isEs tx N sc es xs = true → es.len = xs.length
  | .nil, [], _ => rfl
  | .nil, _ :: _, h => nomatch (show false = true from h)
  | .cons e r, [], h => nomatch (show false = true from h)
  | .cons e r, x :: xs, h => by
    have h : (isE tx N sc e x && notStar x && isEs tx N sc r xs) = true := h
    show r.len + 1 = xs.length + 1
    rw [isEs_len (and_r h)]
  | .io _ _, _, h => nomatch (show false = true from h)
theorem isAs_star {N : List Str} : ∀ {es : Es} {xs : List Expr} {env : PySem.Env}, isAs tx N sc es xs = true → starEach xs env = xs.map (fun e => (false, eval e env))
  | .nil, [], _, _ => rfl
  | .nil, _ :: _, _, h => nomatch (show false = true from h)
  | .cons e r, [], _, h => nomatch (show false = true from h)
  | .cons e r, x :: xs, env, h => by
    have h : (isE tx N sc e x && notStar x && isAs tx N sc r xs) = true := h
    rw [star_of (and_r (and_l h)), isAs_star (and_r h)]
    rfl
  | .io i r, [], _, h => nomatch (show false = true from h)
  | .io i r, x :: xs, env, h => by
    cases x with
    | Name y p =>
      have h : (nmB N sc i y && isAs tx N sc r xs) = true := h
      rw [star_of (e := .Name y p) rfl, isAs_star (and_r h)]
      rfl
    | _ => exact nomatch (show false = true from h)
theorem plain_map {pos : Pos} {env : PySem.Env} (xs : List Expr) : (backTo pos (xs.map (fun e => (false, eval e env)))).any (·.1) = false := by
  induction xs with
  | nil => rfl
  | cons x xs ih =>
    show (false || (backTo pos (xs.map (fun e => (false, eval e env)))).any (·.1)) = false
    rw [ih]
    rfl
theorem wk_eTup {R : Rn} {σ : L2.St} {H : Hp} {Q : VK} {b : Bool} {es : Es} (hl : es.len ≤ 1000) (h : tE R b (.tup es) σ H Q) : tTupZ (tEs R es) σ H Q := by
  obtain ⟨W, env, A, S, h⟩ := h
  show tEs R es σ H _
  refine tX.stepE S h (by rw [ev]) fun ds env1 vs W1 H1 A1 he g rs hk => ?_
  refine ⟨by rw [rs.len, evs_len he, sizeLine_eq]; omega, ?_⟩
  exact To.tup (To.vl g hk) g.sat.dom rs
theorem wk_eLst {R : Rn} {σ : L2.St} {H : Hp} {Q : VK} {b : Bool} {es : Es} (hl : es.len ≤ 1000) (h : tE R b (.lst es) σ H Q) : tLst (tEs R es) σ H Q := by
  obtain ⟨W, env, A, S, h⟩ := h
  show tEs R es σ H _
  refine tX.stepE S h (by rw [ev]) fun ds env1 vs W1 H1 A1 he g rs hk => ?_
  exact ⟨by rw [rs.len, evs_len he, sizeLine_eq]; omega, fun p hp => To.own (To.vl g hk) g.sat.dom rs hp⟩
theorem wk_dictN {R : Rn} {σ : L2.St} {H : Hp} {Q : VK} {b : Bool} (h : tE R b (.dict .nil) σ H Q) : tDNewK σ H Q := by
  obtain ⟨W, env, A, S, h⟩ := h
  rw [ev, evs] at h
  intro d hd
  have h : ∀ v W' H' A', Go R.K W H A σ true env W' H' A' → vR R.K b σ W H A W' H' A' (.dic []) v → Q v H' := h
  have kp := upd_keep (u := HO.dK []) hd
  have g : Go R.K W H A σ true env W (upd H d (.dK [])) A := Go.grow S (fun _ h => h) (fun _ h => .inl h) kp fun x w => by
    rw [upd_ne fun z => S.dom x w (by rw [z]; exact hd)]
    exact S.dom x w
  refine h _ _ _ _ g ⟨[d], by simp only [RO, ROk]; exact ⟨d, [], [], rfl, rfl, upd_same, rfl, rfl⟩, fun _ => by simp, fun _ x hx => ?_⟩
  cases List.mem_singleton.mp hx
  exact ⟨fun w => S.dom _ w hd, fun ⟨i, hi⟩ => S.there i _ hi hd, .inr hd⟩
theorem ownL_map (N : List Str) (vs : List Nat) : (ownL N vs).map (·.2) = vs := by
  unfold ownL
  rw [List.map_map]
  exact List.map_id vs
theorem isIt_weak {N : List Str} {it : It} {tg : Tg} {x : Expr} (h : isIt tx N sc it tg x = true) (hw : it.weak = true) : isTp tg = true := by
  cases it with
  | enum e => cases tg with
    | tp ts => rfl
    | nm i => exact nomatch (show false = true from h)
  | zip a b => cases tg with
    | tp ts => rfl
    | nm i => exact nomatch (show false = true from h)
  | _ => cases hw
theorem isTg_tp {N : List Str} {tg : Tg} {g : Expr} (h : isTg N osc tg g = true) (ht : isTp tg = true) : ∃ es k pos, g = .Tuple es k pos := by
  cases tg with
  | nm i => cases ht
  | tp ts => cases g with
    | Tuple es k pos => exact ⟨es, k, pos, rfl⟩
    | _ => exact nomatch (show false = true from h)
theorem pe_call0S {CX : CXT} {f : Addr} {fd : FuncData} {ps : List Str} {sp : Sp} {E : L2.St → XK} {x : Str} {p pos : Pos} (F : FnOk X.prog X.w X.K X.mg X.base CX k f fd ps sp) (hr : Room k X.A) (hg : Gl X x) (hm : X.mg x = some (.ref f)) (hk : PySem.W.keepIn X.K (.ref f) = true) (hb : L2.Binds X.K fd ps []) (hx : ∀ σ, PassesAt CX X σ (E σ))
    (hdb : (x == ("__debug__" : Str)) = false) : PE X (.Call (.Name x p) [] [] pos) (tCallS sp E tNil) := by
  refine ⟨fun pins s σ H Q I h => ?_⟩
  refine wpAny_Call_Name_kw (ld_glob I hg hm ?_ hdb)
  exact PySem.W.callWith_K0 I.kIn hk (run_fnS (us := []) F hr hb (hx σ) I .nil h)
/-! ### the text does what it says -/
theorem s_un {a : E} {op : U1} {e x : Expr} {b : Bool} (c : CO tx C k X Wx sc osc) (hx : unSub sc (ukind op) e = some x) (ih : PE X x (tE (rn X C Wx) true a)) : PE X e (tE (rn X C Wx) b (.un op a)) := by
  cases hk : ukind op with
  | blt f =>
    rw [hk] at hx
    obtain ⟨y, p, pos, rfl, h1, h2⟩ := unSub_blt hx
    obtain ⟨r1, r2, r3⟩ := un_blt_rule c.calm hk
    obtain ⟨rfl, hg, hd, hn⟩ := c.gl h1
    exact PE.weak (pe_callB r1 hg (c.mo.blt _ r3) r2 (pa_cons ih pa_nil (star_of h2)) hn hd (star_of h2) rfl) fun σ H Q q => (wk_un q).mono fun x H1 q => ⟨x, rfl, q⟩
  | ty f =>
    rw [hk] at hx
    obtain ⟨y, p, pos, rfl, h1, h2⟩ := unSub_ty hx
    obtain ⟨r1, r2, r3⟩ := un_ty_rule hk
    obtain ⟨rfl, hg, hd, hn⟩ := c.gl h1
    exact PE.weak (pe_callTy r1 hg (c.mo.blt _ r3) r2 (pa_cons ih pa_nil (star_of h2)) hn hd (star_of h2) rfl) fun σ H Q q => (wk_un q).mono fun x H1 q => ⟨x, rfl, q⟩
  | isinst f =>
    rw [hk] at hx
    obtain ⟨y, p, t, q, pos, rfl, h1, h2, h3⟩ := unSub_isinst hx
    obtain ⟨r1, r2, r3⟩ := un_isinst_rule hk
    obtain ⟨rfl, hg, hd, hn⟩ := c.gl h1
    obtain ⟨rfl, hg2, hd2, hn2⟩ := c.gl h2
    exact PE.weak (pe_callB (cr_isinst r1) hg (c.mo.blt _ (by decide)) rfl (pa_cons ih (pa_cons (pe_bltn hg2 (c.mo.blt _ r3) r2 (v := .ty f) rfl hn2 hd2) pa_nil rfl) (star_of h3)) hn hd (star_of h3) rfl) fun σ H Q q => (wk_un q).mono fun x H1 q => ⟨x, rfl, q⟩
  | usub =>
    rw [hk] at hx
    obtain ⟨pos, rfl⟩ := unSub_usub hx
    cases un_usub_rule hk
    exact PE.weak (pe_un un_negE ih) fun σ H Q q => wk_un q
  | isC o cc =>
    rw [hk] at hx
    obtain ⟨j, p, pos, rfl⟩ := unSub_isC hx
    obtain ⟨_, v, r1, r2⟩ := un_isC_rule (X := X) hk
    exact PE.weak (pe_cmpR r2 ih (r1 j p) (by cases cc <;> rfl)) fun σ H Q q => (wk_un q).mono fun x H1 q => ⟨rfl, q⟩
theorem s_bin {a d : E} {op : B2} {e x y : Expr} {b : Bool} (c : CO tx C k X Wx sc osc) (hx : binSub sc (bkind op) e = some (x, y)) (ih : PE X x (tE (rn X C Wx) true a)) (ih2 : PE X y (tE (rn X C Wx) true d)) : PE X e (tE (rn X C Wx) b (.bin op a d)) := by
  cases hk : bkind op with
  | op o =>
    rw [hk] at hx
    obtain ⟨pos, rfl⟩ := binSub_op hx
    exact PE.weak (pe_op (op_rule hk) ih ih2) fun σ H Q q => wk_bin q
  | cmp o =>
    rw [hk] at hx
    obtain ⟨pos, rfl, h1⟩ := binSub_cmp hx
    exact PE.weak (pe_cmpR (cmp_rule c.units hk).1 ih ih2 h1) fun σ H Q q => wk_bin q
  | blt f =>
    rw [hk] at hx
    obtain ⟨n, p, pos, rfl, h1, h2, h3⟩ := binSub_blt hx
    obtain ⟨r1, r2, r3⟩ := blt_rule c.calm hk
    obtain ⟨rfl, hg, hd, hn⟩ := c.gl h1
    exact PE.weak (pe_callB r1 hg (c.mo.blt _ r3) r2 (pa_cons ih (pa_cons ih2 pa_nil (star_of h3)) (star_of h2)) hn hd (star_of h2) (by rw [star_of h3]; rfl)) fun σ H Q q => (wk_bin q).mono fun x H1 q => q.mono fun y H2 q => ⟨x, y, rfl, q⟩
  | meth m =>
    rw [hk] at hx
    obtain ⟨ap, cp, rfl, h1, h2, h3⟩ := binSub_meth hx
    obtain ⟨r1, r2⟩ := meth_rule (X := X) c.units hk
    exact PE.weak (pe_bmE r2 ih (pa_cons ih2 pa_nil (star_of h3)) (base_of h2) h1 (star_of h3)) fun σ H Q q => wk_meth r1 q
end
end Ev
set_option Elab.async false
set_option linter.all false
set_option maxRecDepth 100000
set_option maxHeartbeats 1000000
namespace Ev
open PySem PySem.Spec PyProof.Rows L2 RZ
section
variable {tx : Txt} {C : Cn} {k : Nat}
/-! what one form asks -/
section
variable {X : L2.Cx} {Wx : WX} {sc osc : Scope}
theorem s_lit {d : D} {e : Expr} {b : Bool} (h : isE tx X.N sc (.lit d) e = true) : PE X e (tE (rn X C Wx) b (.lit d)) := by
  cases e with
  | Constant cc j p => ?_
  | _ => exact nomatch (show false = true from h)
  have h : litB d cc = true := h
  cases d with
  | non =>
    cases cc with
    | none => exact PE.weak pe_non fun σ H Q q => wk_c (d := .non) (fun _ => rfl) (fun _ _ => by simp [RD]) q
    | _ => exact nomatch (show false = true from h)
  | bl b1 =>
    cases cc with
    | bool b2 =>
      have e : b1 = b2 := by simpa [litB] using h
      subst e
      exact PE.weak pe_bl fun σ H Q q => wk_c (d := .bl b1) (fun _ => rfl) (fun _ _ => by simp [RD]) q
    | _ => exact nomatch (show false = true from h)
  | int i =>
    cases cc with
    | int j =>
      have e : i = j := of_decide_eq_true h
      subst e
      exact PE.weak pe_int fun σ H Q q => wk_c (d := .int i) (fun _ => rfl) (fun _ _ => by simp [RD]) q
    | _ => exact nomatch (show false = true from h)
  | str s =>
    cases cc with
    | str x =>
      have e : x = Str.ofString s := of_decide_eq_true h
      subst e
      exact PE.weak pe_str fun σ H Q q => wk_c (d := .str s) (fun _ => rfl) (fun _ _ => by simp [RD]) q
    | _ => exact nomatch (show false = true from h)
  | _ => cases cc <;> exact nomatch (show false = true from h)
theorem s_call {f : Nat} {as : Es} {e : Expr} {b : Bool} (c : CO tx C k X Wx sc osc) (h : isE tx X.N sc (.call f as) e = true) (ih : ∀ xs, isAs tx X.N sc as xs = true → PA X xs (tAs (rn X C Wx) as)) : PE X e (tE (rn X C Wx) b (.call f as)) := by
  cases e with
  | Call fe xs kws pos => ?_
  | _ => exact nomatch (show false = true from h)
  cases fe with
  | Name x p => ?_
  | _ => exact nomatch (show false = true from h)
  cases kws with
  | cons _ _ => exact nomatch (show false = true from h)
  | nil => ?_
  have h : ((match tx.fnm f with
    | some n => glB sc x n
    | none => false) && isAs tx X.N sc as xs) = true := h
  obtain ⟨h1, h2⟩ := and_lr h
  cases hf : tx.fnm f with
  | none => rw [hf] at h1; cases h1
  | some n =>
    rw [hf] at h1
    obtain ⟨rfl, hg, hd, hn⟩ := c.gl h1
    obtain ⟨fa, fd, ps, m1, m2, m3, m4⟩ := c.mo.fns f n hf
    have F : FnOk X.prog X.w X.K X.mg X.base (L2.CX X.prog X.w) k fa fd ps (spF (rn X C Wx) f) := m4
    cases xs with
    | nil =>
      cases as with
      | nil => exact PE.weak (pe_call0S F c.room hg m1 m2 m3 (fun σ => passAt c.tk σ) hd) fun σ H Q q => wk_asN (wk_call q)
      | _ => exact nomatch (show false = true from h2)
    | cons x xs =>
      have st := isAs_star (env := X.env) h2
      have st2 : starEach xs X.env = xs.map (fun e => (false, eval e X.env)) := by
        cases as with
        | nil => exact nomatch (show false = true from h2)
        | cons a as => exact isAs_star (and_r (show (isE tx X.N sc a x && notStar x && isAs tx X.N sc as xs) = true from h2))
        | io i as =>
          cases x with
          | Name y p => exact isAs_star (and_r (show (nmB X.N sc i y && isAs tx X.N sc as xs) = true from h2))
          | _ => exact nomatch (show false = true from h2)
      exact PE.weak (pe_callS F c.room hg m1 m2 m3 (fun σ => passAt c.tk σ) (ih _ h2) hd (by rw [st, st2]; rfl) (by rw [st2]; exact plain_map xs)) fun σ H Q q => wk_call q
theorem s_comp {dp : Bool} {vs : List Nat} {elt : E} {tg : Tg} {it : It} {ifs : Ts} {e : Expr} {b : Bool} (c : CO tx C k X Wx sc osc) (h : isE tx X.N sc (.comp dp vs elt tg it ifs) e = true)
    (ih1 : ∀ {X : L2.Cx} {Wx : WX} {sc osc : Scope} {e : Expr}, CO tx C k X Wx sc osc → isE tx X.N sc elt e = true → PE X e (tE (rn X C Wx) false elt))
    (ih2 : ∀ {g x : Expr}, (isTp tg = true → ∃ es k pos, g = .Tuple es k pos) → isIt tx X.N sc it tg x = true → PI X g x (tI (rn X C Wx) it))
    (ih3 : ∀ {X : L2.Cx} {Wx : WX} {sc osc : Scope} {xs : List Expr}, CO tx C k X Wx sc osc → isTs tx X.N sc ifs xs = true → xs.length ≤ 1 → PTs X xs (tTs (rn X C Wx) ifs)) : 
    ∃ x g i fs bs pos, e = .ListComp x [⟨g, i, fs, 0⟩] bs pos ∧ BlkOk X.N X.env.scope bs (ownL X.N vs) ∧ PI X g i (tI (rn X C Wx) it) ∧
      (∀ (s : Shared) (H : Hp) (Ca : Addr) (cl : List (Str × Addr)) (fp : List Addr), PG (X.blk s H bs (compEnvC bs cl Ca X.env) fp) g (tG X.K it.weak tg)) ∧
      (∀ (s : Shared) (H : Hp) (Ca : Addr) (cl : List (Str × Addr)) (fp : List Addr), PTs (X.blk s H bs (compEnvC bs cl Ca X.env) fp) fs (tTs (rn X C Wx).no ifs)) ∧
      (∀ (s : Shared) (H : Hp) (Ca : Addr) (cl : List (Str × Addr)) (fp : List Addr), PE (X.blk s H bs (compEnvC bs cl Ca X.env) fp) x (tE (rn X C Wx).no false elt)) ∧
      (∀ x, foldedSetIterable i X.env x = pure x) ∧ (it.weak = true → isTp tg = true) ∧ inAll (tgs tg) vs = true := by
  cases e with
  | ListComp x gs bs pos => ?_
  | _ => exact nomatch (show false = true from h)
  cases gs with
  | nil => exact nomatch (show false = true from h)
  | cons gg r => ?_
  obtain ⟨g, i, fs, n⟩ := gg
  cases n with
  | negSucc n => cases r <;> exact nomatch (show false = true from h)
  | ofNat n => ?_
  cases n with
  | succ n => cases r <;> exact nomatch (show false = true from h)
  | zero => ?_
  cases r with
  | cons _ _ => exact nomatch (show false = true from h)
  | nil => ?_
  have h : (isIt tx X.N sc it tg i && blkC X.N sc bs (ownL X.N vs) && isTg X.N bs tg g && inAll (tgs tg) vs && isTs tx X.N (relS bs sc) ifs fs && isE tx X.N (relS bs sc) elt x && notSet i && decide (fs.length ≤ 1)) = true := h
  obtain ⟨h, h8⟩ := and_lr h
  obtain ⟨h, h7⟩ := and_lr h
  obtain ⟨h, h6⟩ := and_lr h
  obtain ⟨h, h5⟩ := and_lr h
  obtain ⟨h, h4⟩ := and_lr h
  obtain ⟨h, h3⟩ := and_lr h
  obtain ⟨h1, h2⟩ := and_lr h
  refine ⟨x, g, i, fs, bs, pos, rfl, blkOk_by (by rw [c.sc]; exact h2), ih2 (isTg_tp h3) h1, fun s H Ca cl fp => ?_, fun s H Ca cl fp => ?_, fun s H Ca cl fp => ?_, fold_of h7, isIt_weak h1, h4⟩
  · have cb := c.blk s H bs Ca cl fp
    exact pg_of (X := X.blk s H bs (compEnvC bs cl Ca X.env) fp) cb.nd cb.calm cb.own tg g h3 it.weak
  · exact ih3 (c.blk s H bs Ca cl fp) h5 (of_decide_eq_true h8)
  · exact ih1 (c.blk s H bs Ca cl fp) h6
theorem s_comp2 {dp : Bool} {vs ws : List Nat} {elt : E} {tg tg2 : Tg} {it it2 : It} {e : Expr} {b : Bool} (c : CO tx C k X Wx sc osc) (h : isE tx X.N sc (.comp2 dp vs ws elt tg it tg2 it2) e = true)
    (ih1 : ∀ {X : L2.Cx} {Wx : WX} {sc osc : Scope} {e : Expr}, CO tx C k X Wx sc osc → isE tx X.N sc elt e = true → PE X e (tE (rn X C Wx) false elt))
    (ih2 : ∀ {g x : Expr}, (isTp tg = true → ∃ es k pos, g = .Tuple es k pos) → isIt tx X.N sc it tg x = true → PI X g x (tI (rn X C Wx) it))
    (ih3 : ∀ {X : L2.Cx} {Wx : WX} {sc osc : Scope} {g x : Expr}, CO tx C k X Wx sc osc → (isTp tg2 = true → ∃ es k pos, g = .Tuple es k pos) → isIt tx X.N sc it2 tg2 x = true → PI X g x (tI (rn X C Wx) it2)) : 
    ∃ x g i g2 i2 bs pos, e = .ListComp x [⟨g, i, [], 0⟩, ⟨g2, i2, [], 0⟩] bs pos ∧ BlkOk X.N X.env.scope bs (ownL X.N vs) ∧ PI X g i (tI (rn X C Wx) it) ∧
      (∀ (s : Shared) (H : Hp) (Ca : Addr) (cl : List (Str × Addr)) (fp : List Addr), PG (X.blk s H bs (compEnvC bs cl Ca X.env) fp) g (tG X.K it.weak tg)) ∧
      (∀ (s : Shared) (H : Hp) (Ca : Addr) (cl : List (Str × Addr)) (fp : List Addr), PI (X.blk s H bs (compEnvC bs cl Ca X.env) fp) g2 i2 (tI (rn X C Wx).no it2)) ∧
      (∀ (s : Shared) (H : Hp) (Ca : Addr) (cl : List (Str × Addr)) (fp : List Addr), PG (X.blk s H bs (compEnvC bs cl Ca X.env) fp) g2 (tG X.K it2.weak tg2)) ∧
      (∀ (s : Shared) (H : Hp) (Ca : Addr) (cl : List (Str × Addr)) (fp : List Addr), PE (X.blk s H bs (compEnvC bs cl Ca X.env) fp) x (tE (rn X C Wx).no false elt)) ∧
      (∀ x, foldedSetIterable i X.env x = pure x) ∧ (∀ env x, foldedSetIterable i2 env x = pure x) ∧ (it.weak = true → isTp tg = true) ∧ (it2.weak = true → isTp tg2 = true) ∧ inAll (tgs tg) vs = true ∧ inAll (tgs tg2) ws = true ∧ inAll ws vs = true := by
  cases e with
  | ListComp x gs bs pos => ?_
  | _ => exact nomatch (show false = true from h)
  cases gs with
  | nil => exact nomatch (show false = true from h)
  | cons gg r => ?_
  obtain ⟨g, i, fs, n⟩ := gg
  cases r with
  | nil =>
    cases n with
    | negSucc n => cases fs <;> exact nomatch (show false = true from h)
    | ofNat n => cases n <;> cases fs <;> exact nomatch (show false = true from h)
  | cons gg2 r => ?_
  obtain ⟨g2, i2, fs2, n2⟩ := gg2
  cases fs with
  | cons _ _ => exact nomatch (show false = true from h)
  | nil => ?_
  cases n with
  | negSucc n => exact nomatch (show false = true from h)
  | ofNat n => ?_
  cases n with
  | succ n => exact nomatch (show false = true from h)
  | zero => ?_
  cases fs2 with
  | cons _ _ => exact nomatch (show false = true from h)
  | nil => ?_
  cases n2 with
  | negSucc n => exact nomatch (show false = true from h)
  | ofNat n2 => ?_
  cases n2 with
  | succ n => exact nomatch (show false = true from h)
  | zero => ?_
  cases r with
  | cons _ _ => exact nomatch (show false = true from h)
  | nil => ?_
  have h : (isIt tx X.N sc it tg i && blkC X.N sc bs (ownL X.N vs) && isTg X.N bs tg g && inAll (tgs tg) vs && inAll ws vs && isIt tx X.N (relS bs sc) it2 tg2 i2 && isTg X.N bs tg2 g2 && inAll (tgs tg2) ws && isE tx X.N (relS bs sc) elt x && notSet i && notSet i2) = true := h
  obtain ⟨h, h11⟩ := and_lr h
  obtain ⟨h, h10⟩ := and_lr h
  obtain ⟨h, h9⟩ := and_lr h
  obtain ⟨h, h8⟩ := and_lr h
  obtain ⟨h, h7⟩ := and_lr h
  obtain ⟨h, h6⟩ := and_lr h
  obtain ⟨h, h5⟩ := and_lr h
  obtain ⟨h, h4⟩ := and_lr h
  obtain ⟨h, h3⟩ := and_lr h
  obtain ⟨h1, h2⟩ := and_lr h
  refine ⟨x, g, i, g2, i2, bs, pos, rfl, blkOk_by (by rw [c.sc]; exact h2), ih2 (isTg_tp h3) h1, fun s H Ca cl fp => ?_, fun s H Ca cl fp => ?_, fun s H Ca cl fp => ?_, fun s H Ca cl fp => ?_, fold_of h10, fun env => fold_of h11, isIt_weak h1, isIt_weak h6, h4, h8, h5⟩
  · have cb := c.blk s H bs Ca cl fp
    exact pg_of (X := X.blk s H bs (compEnvC bs cl Ca X.env) fp) cb.nd cb.calm cb.own tg g h3 it.weak
  · exact ih3 (c.blk s H bs Ca cl fp) (isTg_tp h7) h6
  · have cb := c.blk s H bs Ca cl fp
    exact pg_of (X := X.blk s H bs (compEnvC bs cl Ca X.env) fp) cb.nd cb.calm cb.own tg2 g2 h7 it2.weak
  · exact ih1 (c.blk s H bs Ca cl fp) h9
end
mutual
theorem sE : ∀ (a : E) {X : L2.Cx} {Wx : WX} {sc osc : Scope} {e : Expr} (b : Bool), CO tx C k X Wx sc osc → isE tx X.N sc a e = true → PE X e (tE (rn X C Wx) b a)
  | .var i, X, Wx, sc, osc, e, b, c, h => by
    cases e with
    | Name x p => ?_
    | _ => exact nomatch (show false = true from h)
    obtain ⟨h1, h2, h3, h4⟩ := c.vis (show nmB X.N sc i x = true from h)
    exact PE.weak (pe_var h1 h2 h3 h4) fun σ H Q q => wk_var q
  | .mv i, X, Wx, sc, osc, e, b, c, h => by
    cases e with
    | Name x p => ?_
    | _ => exact nomatch (show false = true from h)
    obtain ⟨h1, h2, h3, h4⟩ := c.vis (show nmB X.N sc i x = true from h)
    exact PE.weak (pe_var h1 h2 h3 h4) fun σ H Q q => wk_mv q
  | .lit d, X, Wx, sc, osc, e, b, c, h => s_lit h
  | .glob f d, X, Wx, sc, osc, e, b, c, h => by
    cases e with
    | Name x p => ?_
    | _ => exact nomatch (show false = true from h)
    obtain ⟨h1, h2⟩ := and_lr (show (glB sc x f && tx.glb f d) = true from h)
    obtain ⟨rfl, hg, hd, hn⟩ := c.gl h1
    obtain ⟨u, v, hm, r, hr⟩ := c.mo.glb f d h2
    exact PE.weak (pe_glob hg hm r hd) fun σ H Q q => wk_c (d := d) (fun _ => rfl) hr q
  | .tup es, X, Wx, sc, osc, e, b, c, h => by
    cases e with
    | Tuple xs p1 p2 => ?_
    | _ => exact nomatch (show false = true from h)
    obtain ⟨h1, h2⟩ := and_lr (show (isEs tx X.N sc es xs && decide (xs.length ≤ 1000)) = true from h)
    exact PE.weak (pe_tupZ (sEs es c h1)) fun σ H Q q => wk_eTup (by rw [isEs_len h1]; exact of_decide_eq_true h2) q
  | .lst es, X, Wx, sc, osc, e, b, c, h => by
    cases e with
    | List xs p => ?_
    | _ => exact nomatch (show false = true from h)
    obtain ⟨h1, h2⟩ := and_lr (show (isEs tx X.N sc es xs && decide (xs.length ≤ 1000)) = true from h)
    exact PE.weak (pe_lst (sEs es c h1)) fun σ H Q q => wk_eLst (by rw [isEs_len h1]; exact of_decide_eq_true h2) q
  | .un op a, X, Wx, sc, osc, e, b, c, h => by
    have hh : (match unSub sc (ukind op) e with
      | some x => isE tx X.N sc a x
      | none => false) = true := h
    cases hx : unSub sc (ukind op) e with
    | none => rw [hx] at hh; cases hh
    | some x =>
      rw [hx] at hh
      exact s_un c hx (sE a true c hh)
  | .bin op a d, X, Wx, sc, osc, e, b, c, h => by
    have hh : (match binSub sc (bkind op) e with
      | some (x, y) => isE tx X.N sc a x && isE tx X.N sc d y
      | none => false) = true := h
    cases hx : binSub sc (bkind op) e with
    | none => rw [hx] at hh; cases hh
    | some p =>
      obtain ⟨x, y⟩ := p
      rw [hx] at hh
      exact s_bin c hx (sE a true c (and_l hh)) (sE d true c (and_r hh))
  | .chain o1 o2 a d f, X, Wx, sc, osc, e, b, c, h => by
    have hh : (match chSub (bkind o1) (bkind o2) e with
      | some (x, y, z) => isE tx X.N sc a x && isE tx X.N sc d y && isE tx X.N sc f z
      | none => false) = true := h
    cases hx : chSub (bkind o1) (bkind o2) e with
    | none => rw [hx] at hh; cases hh
    | some p =>
      obtain ⟨x, y, z⟩ := p
      rw [hx] at hh
      obtain ⟨p1, p2, pos, e1, e2, rfl, hm⟩ := chSub_cmp hx
      exact PE.weak (pe_chain (cmp_rule c.units e1).1 (cmp_rule c.units e2).1 (sE a true c (and_l (and_l hh))) (sE d true c (and_r (and_l hh))) (sE f true c (and_r hh)) hm) fun σ H Q q => wk_chain q
  | .not a, X, Wx, sc, osc, e, b, c, h => by
    cases e with
    | UnaryOp o x p => ?_
    | _ => exact nomatch (show false = true from h)
    cases o with
    | Not => exact PE.weak (pe_not (sE a true c h)) fun σ H Q q => wk_not q
    | _ => exact nomatch (show false = true from h)
  | .and es, X, Wx, sc, osc, e, b, c, h => by
    cases e with
    | BoolOp o xs p => ?_
    | _ => exact nomatch (show false = true from h)
    cases o with
    | And => exact sAnd es b c h
    | _ => exact nomatch (show false = true from h)
  | .or es, X, Wx, sc, osc, e, b, c, h => by
    cases e with
    | BoolOp o xs p => ?_
    | _ => exact nomatch (show false = true from h)
    cases o with
    | Or => exact sOr es b c h
    | _ => exact nomatch (show false = true from h)
  | .ite t a d, X, Wx, sc, osc, e, b, c, h => by
    cases e with
    | IfExp x y z p => ?_
    | _ => exact nomatch (show false = true from h)
    have h : (isT tx X.N sc t x && isE tx X.N sc a y && isE tx X.N sc d z) = true := h
    exact PE.weak (pe_ifExp (sT t c (and_l (and_l h))) (sE a b c (and_r (and_l h))) (sE d b c (and_r h))) fun σ H Q q => wk_ite q
  | .sub a i, X, Wx, sc, osc, e, b, c, h => by
    cases e with
    | Subscript x y p => ?_
    | _ => exact nomatch (show false = true from h)
    have h : (isE tx X.N sc a x && isE tx X.N sc i y && notSlice y) = true := h
    exact PE.weak (pe_ix (ix_rule c.units) (sE a true c (and_l (and_l h))) (sE i true c (and_r (and_l h))) (ix_of (and_r h))) fun σ H Q q => wk_sub q
  | .slice a lo hi, X, Wx, sc, osc, e, b, c, h => by
    cases e with
    | Subscript x y p => ?_
    | _ => exact nomatch (show false = true from h)
    cases y with
    | Slice l u st p2 => ?_
    | _ => exact nomatch (show false = true from h)
    cases st with
    | some _ => exact nomatch (show false = true from h)
    | none => ?_
    have h : (isE tx X.N sc a x && isEnd tx X.N sc lo l && isEnd tx X.N sc hi u) = true := h
    exact PE.weak (pe_slice sl_rule (sE a true c (and_l (and_l h))) (sEnd lo c (and_r (and_l h))) (sEnd hi c (and_r h))) fun σ H Q q => wk_slice q
  | .call f as, X, Wx, sc, osc, e, b, c, h => s_call c h fun xs h => sAs as c h
  | .comp dp vs elt tg it ifs, X, Wx, sc, osc, e, b, c, h => by
    obtain ⟨x, g, i, fs, bs, pos, rfl, bo, p1, p2, p3, p4, p5, p6, p7⟩ := s_comp (b := b) c h (fun c h => sE elt false c h) (fun hg h => sIt it c hg h) (fun c h hl => sIfs ifs c h hl)
    have z := pe_lc (pos := pos) c.calm c.nd p1 bo p2 p3 p4 p5
    rw [ownL_map] at z
    exact PE.weak z fun σ H Q q => wk_comp p6 p7 q
  | .comp2 dp vs ws elt tg it tg2 it2, X, Wx, sc, osc, e, b, c, h => by
    obtain ⟨x, g, i, g2, i2, bs, pos, rfl, bo, p1, p2, p3, p4, p5, p6, p7, p8, p9, p10, p11, p12⟩ := s_comp2 (b := b) c h (fun c h => sE elt false c h) (fun hg h => sIt it c hg h) (fun c hg h => sIt it2 c hg h)
    have z := pe_lc2 (pos := pos) (vs1 := ws) (tt := tYes) (tt1 := tYes) c.calm c.nd p1 bo (by rw [ownL_map]; intro j hj; simpa using List.all_eq_true.mp p12 j hj) p2 (fun _ _ _ _ _ => pts_nil) p3 p4 (fun _ _ _ _ _ => pts_nil) p5 p6 p7
    rw [ownL_map] at z
    exact PE.weak z fun σ H Q q => wk_comp2 p8 p9 p10 p11 p12 q
  | .dcomp vs kx vx tg it, X, Wx, sc, osc, e, b, c, h => by cases e <;> exact nomatch (show false = true from h)
  | .dict kvs, X, Wx, sc, osc, e, b, c, h => by
    cases kvs with
    | nil => ?_
    | _ => cases e <;> exact nomatch (show false = true from h)
    cases e with
    | Dict ks vs p => ?_
    | _ => exact nomatch (show false = true from h)
    cases ks with
    | cons _ _ => exact nomatch (show false = true from h)
    | nil => ?_
    cases vs with
    | cons _ _ => exact nomatch (show false = true from h)
    | nil => exact PE.weak pe_dnewK fun σ H Q q => wk_dictN q
  | .fz a, X, Wx, sc, osc, e, b, c, h => PE.weak (sE a false c h) fun σ H Q q => wk_fz q
  | .listr it, X, Wx, sc, osc, e, b, c, h => by
    cases e with
    | Call fe xs kws pos => ?_
    | _ => exact nomatch (show false = true from h)
    cases fe with
    | Name f p => ?_
    | _ => exact nomatch (show false = true from h)
    cases xs with
    | nil => exact nomatch (show false = true from h)
    | cons x r => ?_
    cases r with
    | cons _ _ => exact nomatch (show false = true from h)
    | nil => ?_
    cases kws with
    | cons _ _ => exact nomatch (show false = true from h)
    | nil => ?_
    have h : (glB sc f "list" && isRg tx X.N sc it x && notStar x) = true := h
    obtain ⟨rfl, hg, hd, hn⟩ := c.gl (and_l (and_l h))
    rcases sRg it c (and_r (and_l h)) with ⟨a, rfl, hr⟩ | ⟨a, d, rfl, hr⟩
    · exact PE.weak (pe_listRg c.calm hg (c.mo.blt _ (by decide)) hr (star_of (and_r h))) fun σ H Q q => wk_listr1 q
    · exact PE.weak (pe_listRg c.calm hg (c.mo.blt _ (by decide)) hr (star_of (and_r h))) fun σ H Q q => wk_listr2 q
  | .tupler it, X, Wx, sc, osc, e, b, c, h => by
    cases e with
    | Call fe xs kws pos => ?_
    | _ => exact nomatch (show false = true from h)
    cases fe with
    | Name f p => ?_
    | _ => exact nomatch (show false = true from h)
    cases xs with
    | nil => exact nomatch (show false = true from h)
    | cons x r => ?_
    cases r with
    | cons _ _ => exact nomatch (show false = true from h)
    | nil => ?_
    cases kws with
    | cons _ _ => exact nomatch (show false = true from h)
    | nil => ?_
    have h : (glB sc f "tuple" && isRg tx X.N sc it x && notStar x) = true := h
    obtain ⟨rfl, hg, hd, hn⟩ := c.gl (and_l (and_l h))
    rcases sRg it c (and_r (and_l h)) with ⟨a, rfl, hr⟩ | ⟨a, d, rfl, hr⟩
    · exact PE.weak (pe_tupRgZ c.calm hg (c.mo.blt _ (by decide)) hr (star_of (and_r h))) fun σ H Q q => wk_tupler1 q
    · exact PE.weak (pe_tupRgZ c.calm hg (c.mo.blt _ (by decide)) hr (star_of (and_r h))) fun σ H Q q => wk_tupler2 q
theorem sEs : ∀ (es : Es) {X : L2.Cx} {Wx : WX} {sc osc : Scope} {xs : List Expr}, CO tx C k X Wx sc osc → isEs tx X.N sc es xs = true → PA X xs (tEs (rn X C Wx) es)
  | .nil, X, Wx, sc, osc, xs, c, h => by
    cases xs with
    | cons _ _ => exact nomatch (show false = true from h)
    | nil => exact PA.weak pa_nil fun σ H Q q => wk_esN q
  | .cons a r, X, Wx, sc, osc, xs, c, h => by
    cases xs with
    | nil => exact nomatch (show false = true from h)
    | cons x xs => ?_
    have h : (isE tx X.N sc a x && notStar x && isEs tx X.N sc r xs) = true := h
    exact PA.weak (pa_cons (sE a false c (and_l (and_l h))) (sEs r c (and_r h)) (star_of (and_r (and_l h)))) fun σ H Q q => wk_esC q
  | .io _ _, X, Wx, sc, osc, xs, c, h => nomatch (show false = true from h)
theorem sAs : ∀ (es : Es) {X : L2.Cx} {Wx : WX} {sc osc : Scope} {xs : List Expr}, CO tx C k X Wx sc osc → isAs tx X.N sc es xs = true → PA X xs (tAs (rn X C Wx) es)
  | .nil, X, Wx, sc, osc, xs, c, h => by
    cases xs with
    | cons _ _ => exact nomatch (show false = true from h)
    | nil => exact PA.weak pa_nil fun σ H Q q => wk_asN q
  | .cons a r, X, Wx, sc, osc, xs, c, h => by
    cases xs with
    | nil => exact nomatch (show false = true from h)
    | cons x xs => ?_
    have h : (isE tx X.N sc a x && notStar x && isAs tx X.N sc r xs) = true := h
    exact PA.weak (pa_cons (sE a false c (and_l (and_l h))) (sAs r c (and_r h)) (star_of (and_r (and_l h)))) fun σ H Q q => wk_asC q
  | .io i r, X, Wx, sc, osc, xs, c, h => by
    cases xs with
    | nil => exact nomatch (show false = true from h)
    | cons x xs => ?_
    cases x with
    | Name y p => ?_
    | _ => exact nomatch (show false = true from h)
    have h : (nmB X.N sc i y && isAs tx X.N sc r xs) = true := h
    obtain ⟨h1, h2, h3, h4⟩ := c.vis (and_l h)
    exact PA.weak (pa_cons (pe_var h1 h2 h3 h4) (sAs r c (and_r h)) (star_of (e := .Name y p) rfl)) fun σ H Q q => wk_asI q
theorem sEnd : ∀ (es : Es) {X : L2.Cx} {Wx : WX} {sc osc : Scope} {x : Option Expr}, CO tx C k X Wx sc osc → isEnd tx X.N sc es x = true → PO X x (tEnd (rn X C Wx) es)
  | .nil, X, Wx, sc, osc, x, c, h => by
    cases x with
    | some _ => exact nomatch (show false = true from h)
    | none => exact ⟨fun pins s σ H Q I q => po_none.run pins s σ H Q I (wk_noPart q)⟩
  | .cons a r, X, Wx, sc, osc, x, c, h => by
    cases r with
    | nil => ?_
    | _ => cases x <;> exact nomatch (show false = true from h)
    cases x with
    | none => exact nomatch (show false = true from h)
    | some x => exact ⟨fun pins s σ H Q I q => (po_some (sE a true c h)).run pins s σ H Q I (wk_part q)⟩
  | .io _ _, X, Wx, sc, osc, x, c, h => nomatch (show false = true from h)
theorem sAnd : ∀ (es : Es) {X : L2.Cx} {Wx : WX} {sc osc : Scope} {xs : List Expr} {p : Pos} (b : Bool), CO tx C k X Wx sc osc → isEs tx X.N sc es xs = true → PE X (.BoolOp .And xs p) (tE (rn X C Wx) b (.and es))
  | .nil, X, Wx, sc, osc, xs, p, b, c, h => ⟨fun pins s σ H Q I q => by
    obtain ⟨W, env, A, S, q⟩ := q
    rw [ev, evAnd] at q
    exact q.elim⟩
  | .cons a .nil, X, Wx, sc, osc, xs, p, b, c, h => by
    cases xs with
    | nil => exact nomatch (show false = true from h)
    | cons x xs => ?_
    have h : (isE tx X.N sc a x && notStar x && isEs tx X.N sc .nil xs) = true := h
    cases xs with
    | cons _ _ => exact nomatch (show false = true from and_r h)
    | nil => exact PE.weak (pe_one (sE a true c (and_l (and_l h)))) fun σ H Q q => wk_and1 q
  | .cons a (.cons d r), X, Wx, sc, osc, xs, p, b, c, h => by
    cases xs with
    | nil => exact nomatch (show false = true from h)
    | cons x xs => ?_
    have h : (isE tx X.N sc a x && notStar x && isEs tx X.N sc (.cons d r) xs) = true := h
    cases xs with
    | nil => exact nomatch (show false = true from and_r h)
    | cons y xs => exact PE.weak (pe_and (sE a true c (and_l (and_l h))) (sAnd (.cons d r) b c (and_r h))) fun σ H Q q => wk_and q
  | .cons a (.io _ _), X, Wx, sc, osc, xs, p, b, c, h => by
    cases xs with
    | nil => exact nomatch (show false = true from h)
    | cons x xs => exact nomatch (show false = true from and_r (show (isE tx X.N sc a x && notStar x && false) = true from h))
  | .io _ _, X, Wx, sc, osc, xs, p, b, c, h => nomatch (show false = true from h)
theorem sOr : ∀ (es : Es) {X : L2.Cx} {Wx : WX} {sc osc : Scope} {xs : List Expr} {p : Pos} (b : Bool), CO tx C k X Wx sc osc → isEs tx X.N sc es xs = true → PE X (.BoolOp .Or xs p) (tE (rn X C Wx) b (.or es))
  | .nil, X, Wx, sc, osc, xs, p, b, c, h => ⟨fun pins s σ H Q I q => by
    obtain ⟨W, env, A, S, q⟩ := q
    rw [ev, evOr] at q
    exact q.elim⟩
  | .cons a .nil, X, Wx, sc, osc, xs, p, b, c, h => by
    cases xs with
    | nil => exact nomatch (show false = true from h)
    | cons x xs => ?_
    have h : (isE tx X.N sc a x && notStar x && isEs tx X.N sc .nil xs) = true := h
    cases xs with
    | cons _ _ => exact nomatch (show false = true from and_r h)
    | nil => exact PE.weak (pe_one (sE a true c (and_l (and_l h)))) fun σ H Q q => wk_or1 q
  | .cons a (.cons d r), X, Wx, sc, osc, xs, p, b, c, h => by
    cases xs with
    | nil => exact nomatch (show false = true from h)
    | cons x xs => ?_
    have h : (isE tx X.N sc a x && notStar x && isEs tx X.N sc (.cons d r) xs) = true := h
    cases xs with
    | nil => exact nomatch (show false = true from and_r h)
    | cons y xs => exact PE.weak (pe_or (sE a true c (and_l (and_l h))) (sOr (.cons d r) b c (and_r h))) fun σ H Q q => wk_or q
  | .cons a (.io _ _), X, Wx, sc, osc, xs, p, b, c, h => by
    cases xs with
    | nil => exact nomatch (show false = true from h)
    | cons x xs => exact nomatch (show false = true from and_r (show (isE tx X.N sc a x && notStar x && false) = true from h))
  | .io _ _, X, Wx, sc, osc, xs, p, b, c, h => nomatch (show false = true from h)
theorem sT : ∀ (t : T) {X : L2.Cx} {Wx : WX} {sc osc : Scope} {e : Expr}, CO tx C k X Wx sc osc → isT tx X.N sc t e = true → PT X e (tT (rn X C Wx) t)
  | .e a, X, Wx, sc, osc, e, c, h => by
    have h : (isE tx X.N sc a e && plainTest e && notFz a) = true := h
    obtain ⟨h, h3⟩ := and_lr h
    obtain ⟨h1, h2⟩ := and_lr h
    by_cases hc : ∃ l ops cs pos, e = .Compare l ops cs pos
    · obtain ⟨l, ops, cs, pos, rfl⟩ := hc
      cases a with
      | un op a =>
        have hh : (match unSub sc (ukind op) (.Compare l ops cs pos) with
          | some x => isE tx X.N sc a x
          | none => false) = true := h1
        cases hx : unSub sc (ukind op) (.Compare l ops cs pos) with
        | none => rw [hx] at hh; cases hh
        | some x =>
          rw [hx] at hh
          cases hk : ukind op with
          | isC o cc =>
            rw [hk] at hx
            obtain ⟨j, p, pos, e⟩ := unSub_isC hx
            cases e
            obtain ⟨hi, v, r1, r2⟩ := un_isC_rule (X := X) hk
            exact PT.weak (pt_cmpR r2 (sE a true c hh) (r1 j p) (by cases cc <;> rfl)) fun σ H Q q => (wk_un (wk_tB (fun _ _ _ e => un_bl hi e) q)).mono fun x H1 q => ⟨rfl, q⟩
          | blt f => rw [hk] at hx; obtain ⟨_, _, _, e, _⟩ := unSub_blt hx; cases e
          | ty f => rw [hk] at hx; obtain ⟨_, _, _, e, _⟩ := unSub_ty hx; cases e
          | isinst f => rw [hk] at hx; obtain ⟨_, _, _, _, _, e, _⟩ := unSub_isinst hx; cases e
          | usub => rw [hk] at hx; obtain ⟨_, e⟩ := unSub_usub hx; cases e
      | bin op a d =>
        have hh : (match binSub sc (bkind op) (.Compare l ops cs pos) with
          | some (x, y) => isE tx X.N sc a x && isE tx X.N sc d y
          | none => false) = true := h1
        cases hx : binSub sc (bkind op) (.Compare l ops cs pos) with
        | none => rw [hx] at hh; cases hh
        | some p =>
          obtain ⟨x, y⟩ := p
          rw [hx] at hh
          cases hk : bkind op with
          | cmp o =>
            rw [hk] at hx
            obtain ⟨pos, e, hm⟩ := binSub_cmp hx
            cases e
            obtain ⟨r1, r2⟩ := cmp_rule (X := X) c.units hk
            exact PT.weak (pt_cmpR r1 (sE a true c (and_l hh)) (sE d true c (and_r hh)) hm) fun σ H Q q => wk_bin (wk_tB (fun _ _ _ e => bin_bl r2 e) q)
          | op o => rw [hk] at hx; obtain ⟨_, e⟩ := binSub_op hx; cases e
          | blt f => rw [hk] at hx; obtain ⟨_, _, _, e, _⟩ := binSub_blt hx; cases e
          | meth m => rw [hk] at hx; obtain ⟨_, _, e, _⟩ := binSub_meth hx; cases e
      | chain o1 o2 a d f =>
        have hh : (match chSub (bkind o1) (bkind o2) (.Compare l ops cs pos) with
          | some (x, y, z) => isE tx X.N sc a x && isE tx X.N sc d y && isE tx X.N sc f z
          | none => false) = true := h1
        cases hx : chSub (bkind o1) (bkind o2) (.Compare l ops cs pos) with
        | none => rw [hx] at hh; cases hh
        | some p =>
          obtain ⟨x, y, z⟩ := p
          rw [hx] at hh
          obtain ⟨p1, p2, pos, e1, e2, e, hm⟩ := chSub_cmp hx
          cases e
          obtain ⟨r1, _⟩ := cmp_rule (X := X) c.units e1
          obtain ⟨r2, i2⟩ := cmp_rule (X := X) c.units e2
          exact PT.weak (pt_chain r1 r2 (sE a true c (and_l (and_l hh))) (sE d true c (and_r (and_l hh))) (sE f true c (and_r hh)) hm) fun σ H Q q => wk_chain (wk_tB (fun _ _ _ e => chain_bl i2 e) q)
      | fz _ => cases h3
      | dict kvs => cases kvs <;> exact nomatch (show false = true from h1)
      | _ => exact nomatch (show false = true from h1)
    · exact PT.weak (pt_truth (sE a true c h1) (truth_of h2 fun l ops cs p e => hc ⟨l, ops, cs, p, e⟩)) fun σ H Q q => wk_tE q
  | .not a, X, Wx, sc, osc, e, c, h => by
    cases e with
    | UnaryOp o x p => ?_
    | _ => exact nomatch (show false = true from h)
    cases o with
    | Not => exact PT.weak (pt_not (sT a c h)) fun σ H Q q => wk_tNot q
    | _ => exact nomatch (show false = true from h)
  | .and ts, X, Wx, sc, osc, e, c, h => by
    cases e with
    | BoolOp o xs p => ?_
    | _ => exact nomatch (show false = true from h)
    cases o with
    | And =>
      have h : (isTs tx X.N sc ts xs && !xs.isEmpty) = true := h
      exact PT.weak (PW.pt (sTsW ts c (and_l h) (by simpa using and_r h))) fun σ H Q q => wk_tAnd q
    | _ => exact nomatch (show false = true from h)
  | .or ts, X, Wx, sc, osc, e, c, h => by
    cases e with
    | BoolOp o xs p => ?_
    | _ => exact nomatch (show false = true from h)
    cases o with
    | Or =>
      have h : (isTs tx X.N sc ts xs && !xs.isEmpty) = true := h
      exact PT.weak (PW.pt (sToW ts c (and_l h) (by simpa using and_r h))) fun σ H Q q => wk_tOr q
    | _ => exact nomatch (show false = true from h)
theorem sTsW : ∀ (ts : Ts) {X : L2.Cx} {Wx : WX} {sc osc : Scope} {xs : List Expr} {p : Pos}, CO tx C k X Wx sc osc → isTs tx X.N sc ts xs = true → xs ≠ [] → PW X (.BoolOp .And xs p) (tTs (rn X C Wx) ts)
  | .nil, X, Wx, sc, osc, xs, p, c, h, hn => by
    cases xs with
    | nil => exact absurd rfl hn
    | cons _ _ => exact nomatch (show false = true from h)
  | .cons t r, X, Wx, sc, osc, xs, p, c, h, hn => by
    cases xs with
    | nil => exact absurd rfl hn
    | cons x xs => ?_
    have h : (isT tx X.N sc t x && isTs tx X.N sc r xs) = true := h
    cases xs with
    | nil =>
      cases r with
      | nil => exact PW.weak (pw_and1 (sT t c (and_l h))) fun σ H Q q => wk_ts1 q
      | cons _ _ => exact nomatch (show false = true from and_r h)
    | cons y xs => exact PW.weak (pw_and (sT t c (and_l h)) (sTsW r c (and_r h) (by simp))) fun σ H Q q => wk_tsC q
theorem sToW : ∀ (ts : Ts) {X : L2.Cx} {Wx : WX} {sc osc : Scope} {xs : List Expr} {p : Pos}, CO tx C k X Wx sc osc → isTs tx X.N sc ts xs = true → xs ≠ [] → PW X (.BoolOp .Or xs p) (tTo (rn X C Wx) ts)
  | .nil, X, Wx, sc, osc, xs, p, c, h, hn => by
    cases xs with
    | nil => exact absurd rfl hn
    | cons _ _ => exact nomatch (show false = true from h)
  | .cons t r, X, Wx, sc, osc, xs, p, c, h, hn => by
    cases xs with
    | nil => exact absurd rfl hn
    | cons x xs => ?_
    have h : (isT tx X.N sc t x && isTs tx X.N sc r xs) = true := h
    cases xs with
    | nil =>
      cases r with
      | nil => exact PW.weak (pw_or1 (sT t c (and_l h))) fun σ H Q q => wk_to1 q
      | cons _ _ => exact nomatch (show false = true from and_r h)
    | cons y xs => exact PW.weak (pw_or (sT t c (and_l h)) (sToW r c (and_r h) (by simp))) fun σ H Q q => wk_toC q
theorem sIfs : ∀ (ts : Ts) {X : L2.Cx} {Wx : WX} {sc osc : Scope} {xs : List Expr}, CO tx C k X Wx sc osc → isTs tx X.N sc ts xs = true → xs.length ≤ 1 → PTs X xs (tTs (rn X C Wx) ts)
  | .nil, X, Wx, sc, osc, xs, c, h, hn => by
    cases xs with
    | nil => exact ⟨fun pins s σ H Q I q => pts_nil.run pins s σ H Q I (wk_tsN q)⟩
    | cons _ _ => exact nomatch (show false = true from h)
  | .cons t r, X, Wx, sc, osc, xs, c, h, hn => by
    cases xs with
    | nil => exact nomatch (show false = true from h)
    | cons x xs => ?_
    have h : (isT tx X.N sc t x && isTs tx X.N sc r xs) = true := h
    cases xs with
    | nil =>
      cases r with
      | nil => exact ⟨fun pins s σ H Q I q => (pts_one (sT t c (and_l h))).run pins s σ H Q I (wk_ts1 q)⟩
      | cons _ _ => exact nomatch (show false = true from and_r h)
    | cons y xs => exact absurd hn (by simp)
theorem sIt : ∀ (it : It) {X : L2.Cx} {Wx : WX} {sc osc : Scope} {tg : Tg} {g x : Expr}, CO tx C k X Wx sc osc → (isTp tg = true → ∃ es k pos, g = .Tuple es k pos) → isIt tx X.N sc it tg x = true → PI X g x (tI (rn X C Wx) it)
  | .seq e, X, Wx, sc, osc, tg, g, x, c, hg, h => PI.weak (PI.or (PI.hl (pi_list (sE e false c h))) (PI.hl (pi_tup (sE e false c h)))) fun σ H Q q => wk_seq q
  | .r1 a, X, Wx, sc, osc, tg, g, x, c, hg, h => by
    obtain ⟨f, p, y, pos, rfl, h⟩ : ∃ f p y pos, x = .Call (.Name f p) [y] [] pos ∧ (glB sc f "range" && isE tx X.N sc a y && notStar y) = true := by
      cases x with
      | Call fe xs kws pos => ?_
      | _ => exact nomatch (show false = true from h)
      cases fe with
      | Name f p => ?_
      | _ => exact nomatch (show false = true from h)
      cases xs with
      | nil => exact nomatch (show false = true from h)
      | cons y r => ?_
      cases r with
      | cons _ _ => exact nomatch (show false = true from h)
      | nil => ?_
      cases kws with
      | cons _ _ => exact nomatch (show false = true from h)
      | nil => exact ⟨f, p, y, pos, rfl, h⟩
    obtain ⟨rfl, hgl, hd, hn⟩ := c.gl (and_l (and_l h))
    have s1 := star_of (es := []) (env := X.env) (and_r h)
    exact PI.weak (pi_range1 hgl (c.mo.blt _ (by decide)) (pa_cons (sE a true c (and_r (and_l h))) pa_nil s1) s1) fun σ H Q q => wk_r1 q
  | .r2 a d, X, Wx, sc, osc, tg, g, x, c, hg, h => by
    obtain ⟨f, p, y, z, pos, rfl, h⟩ : ∃ f p y z pos, x = .Call (.Name f p) [y, z] [] pos ∧ (glB sc f "range" && isE tx X.N sc a y && isE tx X.N sc d z && notStar y && notStar z) = true := by
      cases x with
      | Call fe xs kws pos => ?_
      | _ => exact nomatch (show false = true from h)
      cases fe with
      | Name f p => ?_
      | _ => exact nomatch (show false = true from h)
      cases xs with
      | nil => exact nomatch (show false = true from h)
      | cons y r => ?_
      cases r with
      | nil => exact nomatch (show false = true from h)
      | cons z r => ?_
      cases r with
      | cons _ _ => exact nomatch (show false = true from h)
      | nil => ?_
      cases kws with
      | cons _ _ => exact nomatch (show false = true from h)
      | nil => exact ⟨f, p, y, z, pos, rfl, h⟩
    obtain ⟨h, n2⟩ := and_lr h
    obtain ⟨h, n1⟩ := and_lr h
    obtain ⟨h, e2⟩ := and_lr h
    obtain ⟨h, e1⟩ := and_lr h
    obtain ⟨rfl, hgl, hd, hn⟩ := c.gl h
    have s1 := star_of (es := [z]) (env := X.env) n1
    have s2 := star_of (es := []) (env := X.env) n2
    exact PI.weak (pi_range2 hgl (c.mo.blt _ (by decide)) (pa_cons (sE a true c e1) (pa_cons (sE d true c e2) pa_nil s2) s1) (by rw [s1, s2]; rfl) (by rw [s2]; rfl)) fun σ H Q q => wk_r2 q
  | .r3 a d f, X, Wx, sc, osc, tg, g, x, c, hg, h => by
    obtain ⟨f', p, y, z, w, pos, rfl, h⟩ : ∃ f' p y z w pos, x = .Call (.Name f' p) [y, z, w] [] pos ∧ (glB sc f' "range" && isE tx X.N sc a y && isE tx X.N sc d z && isE tx X.N sc f w && notStar y && notStar z && notStar w) = true := by
      cases x with
      | Call fe xs kws pos => ?_
      | _ => exact nomatch (show false = true from h)
      cases fe with
      | Name f p => ?_
      | _ => exact nomatch (show false = true from h)
      cases xs with
      | nil => exact nomatch (show false = true from h)
      | cons y r => ?_
      cases r with
      | nil => exact nomatch (show false = true from h)
      | cons z r => ?_
      cases r with
      | nil => exact nomatch (show false = true from h)
      | cons w r => ?_
      cases r with
      | cons _ _ => exact nomatch (show false = true from h)
      | nil => ?_
      cases kws with
      | cons _ _ => exact nomatch (show false = true from h)
      | nil => exact ⟨f, p, y, z, w, pos, rfl, h⟩
    obtain ⟨h, n3⟩ := and_lr h
    obtain ⟨h, n2⟩ := and_lr h
    obtain ⟨h, n1⟩ := and_lr h
    obtain ⟨h, e3⟩ := and_lr h
    obtain ⟨h, e2⟩ := and_lr h
    obtain ⟨h, e1⟩ := and_lr h
    obtain ⟨rfl, hgl, hd, hn⟩ := c.gl h
    have s1 := star_of (es := [z, w]) (env := X.env) n1
    have s2 := star_of (es := [w]) (env := X.env) n2
    have s3 := star_of (es := []) (env := X.env) n3
    exact PI.weak (pi_range3 hgl (c.mo.blt _ (by decide)) (pa_cons (sE a true c e1) (pa_cons (sE d true c e2) (pa_cons (sE f true c e3) pa_nil s3) s2) s1) s1 (by rw [s2, s3]; rfl)) fun σ H Q q => wk_r3 q
  | .enum e, X, Wx, sc, osc, tg, g, x, c, hg, h => by
    obtain ⟨es, kk, tpos, rfl⟩ := hg (isIt_weak h rfl)
    cases tg with
    | nm i => exact nomatch (show false = true from h)
    | tp ts => ?_
    obtain ⟨f, p, y, pos, rfl, h⟩ : ∃ f p y pos, x = .Call (.Name f p) [y] [] pos ∧ (glB sc f "enumerate" && isE tx X.N sc e y && notStar y) = true := by
      cases x with
      | Call fe xs kws pos => ?_
      | _ => exact nomatch (show false = true from h)
      cases fe with
      | Name f p => ?_
      | _ => exact nomatch (show false = true from h)
      cases xs with
      | nil => exact nomatch (show false = true from h)
      | cons y r => ?_
      cases r with
      | cons _ _ => exact nomatch (show false = true from h)
      | nil => ?_
      cases kws with
      | cons _ _ => exact nomatch (show false = true from h)
      | nil => exact ⟨f, p, y, pos, rfl, h⟩
    obtain ⟨rfl, hgl, hd, hn⟩ := c.gl (and_l (and_l h))
    have s1 := star_of (es := []) (env := X.env) (and_r h)
    have pa := pa_cons (sE e false c (and_r (and_l h))) pa_nil s1
    exact PI.weak (PI.or (PI.hl (pi_enum hgl (c.mo.blt _ (by decide)) pa s1)) (PI.hl (pi_enumT hgl (c.mo.blt _ (by decide)) pa s1))) fun σ H Q q => wk_enum q
  | .zip a d, X, Wx, sc, osc, tg, g, x, c, hg, h => by
    obtain ⟨es, kk, tpos, rfl⟩ := hg (isIt_weak h rfl)
    cases tg with
    | nm i => exact nomatch (show false = true from h)
    | tp ts => ?_
    obtain ⟨f, p, y, z, pos, rfl, h⟩ : ∃ f p y z pos, x = .Call (.Name f p) [y, z] [] pos ∧ (glB sc f "zip" && isE tx X.N sc a y && isE tx X.N sc d z && notStar y && notStar z) = true := by
      cases x with
      | Call fe xs kws pos => ?_
      | _ => exact nomatch (show false = true from h)
      cases fe with
      | Name f p => ?_
      | _ => exact nomatch (show false = true from h)
      cases xs with
      | nil => exact nomatch (show false = true from h)
      | cons y r => ?_
      cases r with
      | nil => exact nomatch (show false = true from h)
      | cons z r => ?_
      cases r with
      | cons _ _ => exact nomatch (show false = true from h)
      | nil => ?_
      cases kws with
      | cons _ _ => exact nomatch (show false = true from h)
      | nil => exact ⟨f, p, y, z, pos, rfl, h⟩
    obtain ⟨h, n2⟩ := and_lr h
    obtain ⟨h, n1⟩ := and_lr h
    obtain ⟨h, e2⟩ := and_lr h
    obtain ⟨h, e1⟩ := and_lr h
    obtain ⟨rfl, hgl, hd, hn⟩ := c.gl h
    have s1 := star_of (es := [z]) (env := X.env) n1
    have s2 := star_of (es := []) (env := X.env) n2
    exact PI.weak (PI.hl (pi_zipA hgl (c.mo.blt _ (by decide)) (pa_cons (sE a false c e1) (pa_cons (sE d false c e2) pa_nil s2) s1) s1 (by rw [s2]; rfl))) fun σ H Q q => wk_zip q
theorem sRg : ∀ (it : It) {X : L2.Cx} {Wx : WX} {sc osc : Scope} {x : Expr}, CO tx C k X Wx sc osc → isRg tx X.N sc it x = true →
    (∃ a, it = .r1 a ∧ PRg X x (tRg1 (tE (rn X C Wx) true a))) ∨ ∃ a d, it = .r2 a d ∧ PRg X x (tRg2 (tE (rn X C Wx) true a) (tE (rn X C Wx) true d))
  | .r1 a, X, Wx, sc, osc, x, c, h => by
    obtain ⟨f, p, y, pos, rfl, h⟩ : ∃ f p y pos, x = .Call (.Name f p) [y] [] pos ∧ (glB sc f "range" && isE tx X.N sc a y && notStar y) = true := by
      cases x with
      | Call fe xs kws pos => ?_
      | _ => exact nomatch (show false = true from h)
      cases fe with
      | Name f p => ?_
      | _ => exact nomatch (show false = true from h)
      cases xs with
      | nil => exact nomatch (show false = true from h)
      | cons y r => ?_
      cases r with
      | cons _ _ => exact nomatch (show false = true from h)
      | nil => ?_
      cases kws with
      | cons _ _ => exact nomatch (show false = true from h)
      | nil => exact ⟨f, p, y, pos, rfl, h⟩
    obtain ⟨rfl, hgl, hd, hn⟩ := c.gl (and_l (and_l h))
    exact .inl ⟨a, rfl, prg_1 hgl (c.mo.blt _ (by decide)) (sE a true c (and_r (and_l h))) (star_of (and_r h))⟩
  | .r2 a d, X, Wx, sc, osc, x, c, h => by
    obtain ⟨f, p, y, z, pos, rfl, h⟩ : ∃ f p y z pos, x = .Call (.Name f p) [y, z] [] pos ∧ (glB sc f "range" && isE tx X.N sc a y && isE tx X.N sc d z && notStar y && notStar z) = true := by
      cases x with
      | Call fe xs kws pos => ?_
      | _ => exact nomatch (show false = true from h)
      cases fe with
      | Name f p => ?_
      | _ => exact nomatch (show false = true from h)
      cases xs with
      | nil => exact nomatch (show false = true from h)
      | cons y r => ?_
      cases r with
      | nil => exact nomatch (show false = true from h)
      | cons z r => ?_
      cases r with
      | cons _ _ => exact nomatch (show false = true from h)
      | nil => ?_
      cases kws with
      | cons _ _ => exact nomatch (show false = true from h)
      | nil => exact ⟨f, p, y, z, pos, rfl, h⟩
    obtain ⟨h, n2⟩ := and_lr h
    obtain ⟨h, n1⟩ := and_lr h
    obtain ⟨h, e2⟩ := and_lr h
    obtain ⟨h, e1⟩ := and_lr h
    obtain ⟨rfl, hgl, hd, hn⟩ := c.gl h
    have s1 := star_of (es := [z]) (env := X.env) n1
    have s2 := star_of (es := []) (env := X.env) n2
    exact .inr ⟨a, d, rfl, prg_2 hgl (c.mo.blt _ (by decide)) (sE a true c e1) (sE d true c e2) (by rw [s1, s2]) s2 (by rw [s2]; rfl)⟩
  | .seq _, X, Wx, sc, osc, x, c, h => nomatch (show false = true from h)
  | .r3 _ _ _, X, Wx, sc, osc, x, c, h => nomatch (show false = true from h)
  | .enum _, X, Wx, sc, osc, x, c, h => nomatch (show false = true from h)
  | .zip _ _, X, Wx, sc, osc, x, c, h => nomatch (show false = true from h)
end
end
end Ev
set_option Elab.async false
set_option linter.all false
set_option maxRecDepth 100000
set_option maxHeartbeats 1000000
namespace Ev
open PySem PySem.Spec PyProof.Rows L2 RZ
/-! targets never raise -/
mutual
theorem take_nox : ∀ (t : Tg) (o : O) (env env' : Env) (c : Nat), take t o env ≠ .exc c env'
  | .nm i, o, env, env', c => fun h => by unfold take at h; cases h
  | .tp ts, o, env, env', c => fun h => by
    unfold take at h
    split at h
    · exact takes_nox ts _ env env' c h
    · cases h
theorem takes_nox : ∀ (ts : List Tg) (ds : List D) (env env' : Env) (c : Nat), takes ts ds env ≠ .exc c env'
  | [], [], env, env', c => fun h => by unfold takes at h; cases h
  | [], _ :: _, env, env', c => fun h => by unfold takes at h; cases h
  | _ :: _, [], env, env', c => fun h => by unfold takes at h; cases h
  | t :: ts, d :: ds, env, env', c => fun h => by
    unfold takes at h
    cases e : take t (.sh d) env with
    | ok u env1 => rw [e] at h; exact takes_nox ts ds env1 env' c h
    | exc c env1 => exact take_nox t _ _ _ _ e
    | bad => rw [e] at h; cases h
end
/-! ### statements: what is behind them -/
def Fx (fx : Nat → Bool) (σ σ' : L2.St) : Prop := σ'.length = σ.length ∧ ∀ i, fx i = true → σ'[i]? = σ[i]?
theorem Fx.refl {fx : Nat → Bool} {σ : L2.St} : Fx fx σ σ := ⟨rfl, fun _ _ => rfl⟩
theorem Fx.trans {fx : Nat → Bool} {σ σ1 σ2 : L2.St} (a : Fx fx σ σ1) (b : Fx fx σ1 σ2) : Fx fx σ σ2 := ⟨b.1.trans a.1, fun i h => (b.2 i h).trans (a.2 i h)⟩
theorem Fx.ch {fx : Nat → Bool} {ts : List Nat} {σ σ' : L2.St} (c : Ch ts σ σ') (h : ts.all (fun i => !fx i) = true) : Fx fx σ σ' := ⟨c.1, fun i hi => c.2 i fun z => by
  have := List.all_eq_true.mp h i z
  rw [hi] at this
  cases this⟩
def So (R : Rn) (fx : Nat → Bool) (W : Addr → Prop) (H : Hp) (A : Nat → List Addr) (σ : L2.St) (x : SOut) (D : Ends) : Prop := match x with
  | .nx env => ∀ W' H' A' σ', Tr W H (Owns A) W' H' (Owns A') → Sat R.K W' H' env σ' A' → Fx fx σ σ' → D.nx σ' H'
  | .bk env => ∀ W' H' A' σ', Tr W H (Owns A) W' H' (Owns A') → Sat R.K W' H' env σ' A' → Fx fx σ σ' → D.bk σ' H'
  | .ct env => ∀ W' H' A' σ', Tr W H (Owns A) W' H' (Owns A') → Sat R.K W' H' env σ' A' → Fx fx σ σ' → D.ct σ' H'
  | .rt o env => ∀ W' H' A' σ' v B, Tr W H (Owns A) W' H' (Owns A') → Sat R.K W' H' env σ' A' → Fx fx σ σ' → Vv R.K false W H A W' H' A' o v B → D.rt v H'
  | .exc c env => ∀ W' H' A' σ', Tr W H (Owns A) W' H' (Owns A') → Sat R.K W' H' env σ' A' → Fx fx σ σ' → R.Wx (R.exv c) none σ' H'
  | .bad => False
section
variable {R : Rn} {K : PySem.W.Frag} {fx : Nat → Bool} {W W1 W' : Addr → Prop} {H H1 H' : Hp} {A A1 A' : Nat → List Addr} {σ σ1 : L2.St} {D D' : Ends} {env env1 : Env} {x : SOut}
theorem So.thn {α : Type} {x : Out α} {f : α → Env → SOut} (h : So R fx W H A σ (x.thn f) D) : Oc R W H A σ x fun a env1 => So R fx W H A σ (f a env1) D := by
  cases x with
  | ok a env => exact h
  | exc c env => exact fun W' H' A' t S => h W' H' A' σ t S .refl
  | bad => exact h
theorem vv_tr {b : Bool} {W2 : Addr → Prop} {H2 : Hp} {A2 : Nat → List Addr} {o : O} {v : V} {B : List Addr} (t : Tr W H (Owns A) W1 H1 (Owns A1)) (V : Vv K b W1 H1 A1 W2 H2 A2 o v B) : Vv K b W H A W2 H2 A2 o v B := by
  refine ⟨V.ro, V.nd, fun e a ha => ?_⟩
  obtain ⟨x, y, z⟩ := V.sep e a ha
  exact ⟨x, y, z.elim (fun z => t.a a z) fun z => .inr (t.back z)⟩
theorem So.from (h : So R fx W H A σ x D) (t : Tr W H (Owns A) W1 H1 (Owns A1)) (f : Fx fx σ σ1) : So R fx W1 H1 A1 σ1 x D := by
  cases x with
  | nx env => exact fun W' H' A' σ' t' S f' => h W' H' A' σ' (t.trans t') S (f.trans f')
  | bk env => exact fun W' H' A' σ' t' S f' => h W' H' A' σ' (t.trans t') S (f.trans f')
  | ct env => exact fun W' H' A' σ' t' S f' => h W' H' A' σ' (t.trans t') S (f.trans f')
  | rt o env => exact fun W' H' A' σ' v B t' S f' V => h W' H' A' σ' v B (t.trans t') S (f.trans f') (vv_tr t V)
  | exc c env => exact fun W' H' A' σ' t' S f' => h W' H' A' σ' (t.trans t') S (f.trans f')
  | bad => exact h
theorem So.needS {b : Bool} (h : So R fx W H A σ (needS b x) D) : b = true ∧ So R fx W H A σ x D := by
  cases b with
  | true => exact ⟨rfl, h⟩
  | false => exact h.elim
/-- a statement, read -/
def tX2 (R : Rn) (fx : Nat → Bool) (f : Env → SOut) : TS := fun D σ H => ∃ W env A, Sat R.K W H env σ A ∧ So R fx W H A σ (f env) D
def tS (R : Rn) (sub : Nat → Nat → Bool) (fx : Nat → Bool) (s : S) : TS := tX2 R fx (exe R.cl R.io sub s)
def tSs (R : Rn) (sub : Nat → Nat → Bool) (fx : Nat → Bool) (s : Ss) : TS := tX2 R fx (exes R.cl R.io sub s)
theorem tX.stepS {α β : Type} {n : Bool} {f : Env → Out α} {r : L2.St → (Addr → Prop) → Hp → (Nat → List Addr) → (Addr → Prop) → Hp → (Nat → List Addr) → α → β → Prop} {k : α → Env → SOut} {Q : β → Hp → Prop}
    (S : Sat R.K W H env σ A) (h : So R fx W H A σ x D) (e : x = (f env).thn k) (q : ∀ a env1 y W1 H1 A1, Go R.K W H A σ n env1 W1 H1 A1 → r σ W H A W1 H1 A1 a y → So R fx W H A σ (k a env1) D → Q y H1) : tX R n f r σ H Q := by
  subst e
  exact ⟨W, env, A, S, h.thn.imp fun a env1 hk y W1 H1 A1 g rr => q a env1 y W1 H1 A1 g rr hk⟩
theorem So.freeze {o : O} {k : O → Env → SOut} (h : So R fx W H A σ ((freeze o env).thn k) D) : ∃ p, o.share = some p ∧ So R fx W H A σ (k p env) D := by
  cases e : o.share with
  | none => simp only [Ev.freeze, e] at h; exact h.elim
  | some p => simp only [Ev.freeze, e] at h; exact ⟨p, rfl, h⟩
/-! ends of statements -/
theorem wk_ret {sub : Nat → Nat → Bool} {e : E} (h : tS R sub fx (.ret e) D σ H) : tRet (tE R false e) D σ H := by
  obtain ⟨W, env, A, S, h⟩ := h
  refine tX.stepS S h (by rw [exe]) fun o env1 v W1 H1 A1 g ⟨B, V⟩ hk => ?_
  exact hk _ _ _ _ _ _ g.tr g.sat .refl V
theorem wk_retn {sub : Nat → Nat → Bool} (h : tS R sub fx .retn D σ H) : tRetN D σ H := by
  obtain ⟨W, env, A, S, h⟩ := h
  rw [exe] at h
  exact h _ _ _ _ .non [] .refl S .refl (.sh (by simp [RD]))
theorem wk_brk {sub : Nat → Nat → Bool} (h : tS R sub fx .brk D σ H) : tBreak D σ H := by
  obtain ⟨W, env, A, S, h⟩ := h
  rw [exe] at h
  exact h _ _ _ _ .refl S .refl
theorem wk_cnt {sub : Nat → Nat → Bool} (h : tS R sub fx .cnt D σ H) : tCont D σ H := by
  obtain ⟨W, env, A, S, h⟩ := h
  rw [exe] at h
  exact h _ _ _ _ .refl S .refl
theorem wk_pass {sub : Nat → Nat → Bool} (h : tS R sub fx .pass D σ H) : tNext D σ H := by
  obtain ⟨W, env, A, S, h⟩ := h
  rw [exe] at h
  exact h _ _ _ _ .refl S .refl
theorem wk_raise {sub : Nat → Nat → Bool} {c : Nat} (h : tS R sub fx (.raise c) D σ H) : R.Wx (R.exv c) none σ H := by
  obtain ⟨W, env, A, S, h⟩ := h
  rw [exe] at h
  exact h _ _ _ _ .refl S .refl
theorem wk_ex {sub : Nat → Nat → Bool} {e : E} (h : tS R sub fx (.ex e) D σ H) : tDrop (tE R false e) D σ H := by
  obtain ⟨W, env, A, S, h⟩ := h
  refine tX.stepS S h (by rw [exe]) fun o env1 v W1 H1 A1 g ⟨B, V⟩ hk => ?_
  exact hk _ _ _ _ g.tr g.sat .refl
theorem wk_ssN {sub : Nat → Nat → Bool} (h : tSs R sub fx .nil D σ H) : tNext D σ H := by
  obtain ⟨W, env, A, S, h⟩ := h
  rw [exes] at h
  exact h _ _ _ _ .refl S .refl
theorem So.seq {f : Env → SOut} (h : So R fx W H A σ (x.thn f) D) : So R fx W H A σ x { D with nx := fun σ' H' => tX2 R fx f D σ' H' } := by
  cases x with
  | nx env => exact fun W' H' A' σ' t S f' => ⟨W', env, A', S, So.from h t f'⟩
  | _ => exact h
theorem wk_ssC {sub : Nat → Nat → Bool} {s : S} {r : Ss} (h : tSs R sub fx (.cons s r) D σ H) : tSeq (tS R sub fx s) (tSs R sub fx r) D σ H := by
  obtain ⟨W, env, A, S, h⟩ := h
  rw [exes] at h
  exact ⟨W, env, A, S, So.seq h⟩
theorem wk_ifs {sub : Nat → Nat → Bool} {c : T} {a b : Ss} (h : tS R sub fx (.ifs c a b) D σ H) : tIfS (tT R c) (tSs R sub fx a) (tSs R sub fx b) D σ H := by
  obtain ⟨W, env, A, S, h⟩ := h
  show tT R c σ H (fun t H1 => if t = true then tSs R sub fx a D σ H1 else tSs R sub fx b D σ H1)
  refine tX.stepS S h (by rw [exe]) fun t env1 t' W1 H1 A1 g e hk => ?_
  subst e
  cases t with
  | true => exact ⟨W1, env1, A1, g.sat, So.from hk g.tr .refl⟩
  | false => exact ⟨W1, env1, A1, g.sat, So.from hk g.tr .refl⟩
/-- a target takes it -/
theorem so_take {tg : Tg} {o : O} {v : V} {B : List Addr} {w : Bool} {k : Env → SOut} {Q : L2.St → Hp → Prop} (t : Tr W H (Owns A) W1 H1 (Owns A1)) (S : Sat R.K W1 H1 env1 σ1 A1) (f : Fx fx σ σ1) (rv : RV R.K W1 H1 w o v B) (nd : B.Nodup)
    (sep : ∀ a ∈ B, ¬ W1 a ∧ ¬ Owns A1 a ∧ (Owns A a ∨ H a = none)) (hw : w = true → isTp tg = true) (hf : (tgs tg).all (fun i => !fx i) = true) (h : So R fx W H A σ ((take tg o env1).thn fun _ env => k env) D)
    (q : ∀ env2 A2 σ2, Sat R.K W1 H1 env2 σ2 A2 → Tr W H (Owns A) W1 H1 (Owns A2) → Fx fx σ σ2 → So R fx W H A σ (k env2) D → Q σ2 H1) : tG R.K w tg v σ1 H1 Q := by
  refine ⟨W1, env1, A1, o, B, S, rv, nd, fun a ha => ⟨(sep a ha).1, (sep a ha).2.1⟩, hw, ?_⟩
  cases e : take tg o env1 with
  | ok u env2 =>
    rw [e] at h
    intro σ2 A2 S2 c ho
    refine q env2 A2 σ2 S2 ⟨t.w, t.w2, t.h, t.d, fun a ha => ?_⟩ (f.trans (Fx.ch c hf)) h
    rcases ho a ha with z | z
    · exact t.a a z
    · exact (sep a z).2.2
  | exc c env2 => exact take_nox _ _ _ _ _ e
  | bad => rw [e] at h; exact h.elim
theorem wk_asg {sub : Nat → Nat → Bool} {tg : Tg} {e : E} (hf : (tgs tg).all (fun i => !fx i) = true) (h : tS R sub fx (.asg tg e) D σ H) : tAsg (tE R false e) (tG R.K false tg) D σ H := by
  obtain ⟨W, env, A, S, h⟩ := h
  refine tX.stepS S h (by rw [exe]) fun o env1 v W1 H1 A1 g ⟨B, V⟩ hk => ?_
  exact so_take (w := false) g.tr g.sat .refl V.ro (V.nd rfl) (V.sep rfl) (fun e => nomatch e) hf hk fun env2 A2 σ2 S2 t f hk => hk _ _ _ _ t S2 f
/-! loops -/
theorem wk_loop {sub : Nat → Nat → Bool} {tg : Tg} {it : It} {b : Ss} (hw : it.weak = true → isTp tg = true) (hf : (tgs tg).all (fun i => !fx i) = true) (h : tS R sub fx (.loop tg it b) D σ H) : tFor (tI R it) (tG R.K it.weak tg) (tSs R sub fx b) D σ H := by
  obtain ⟨W, env, A, S, h⟩ := h
  show tI R it σ H _
  refine tX.stepS S h (by rw [exe]) fun xs env1 J W1 H1 A1 g ⟨wk, hcap⟩ hk => ?_
  generalize hfn : (fun x env => (take tg x env).thn fun _ env => exes R.cl R.io sub b env) = f at hk
  refine ⟨fun i m σ2 H2 => m = xs.length - i ∧ i ≤ xs.length ∧ ∃ W2 A2 env2, Sat R.K W2 H2 env2 σ2 A2 ∧ Tr W H (Owns A) W2 H2 (Owns A2) ∧ Fx fx σ σ2 ∧ Pr W1 H1 W2 H2 ∧ So R fx W H A σ (fors f (xs.drop i) env2) D,
    ⟨xs.length, by simp, Nat.zero_le _, W1, A1, env1, g.sat, g.tr, .refl, .refl, hk⟩, ?_⟩
  rintro i m σ2 H2 ⟨rfl, hi, W2, A2, env2, S2, t2, f2, p2, h2⟩
  by_cases hlt : i < xs.length
  · right
    refine ⟨wk.go W2 H2 i p2 S2.dom hlt, fun σ3 H3 => ∃ m', m' < xs.length - i ∧ (m' = xs.length - (i + 1) ∧ i + 1 ≤ xs.length ∧ ∃ W2 A2 env2, Sat R.K W2 H3 env2 σ3 A2 ∧ Tr W H (Owns A) W2 H3 (Owns A2) ∧ Fx fx σ σ3 ∧ Pr W1 H1 W2 H3 ∧ So R fx W H A σ (fors f (xs.drop (i + 1)) env2) D), fun σ3 H3 q => q, fun x H3 yl => ?_⟩
    obtain ⟨W3, w1, w2, sm, dom, rv⟩ := wk.yld W2 H2 i x H3 xs[i] p2 S2.dom yl (by simp [hlt])
    have g3 : Go R.K W2 H2 A2 σ2 true env2 W3 H3 A2 := Go.grow S2 w1 w2 sm dom
    have p3 := p2.trans (g3.pr S2)
    rw [List.drop_eq_getElem_cons hlt] at h2
    subst hfn
    refine so_take (D := { D with nx := fun σ3 H3 => ∃ m', m' < xs.length - i ∧ (m' = xs.length - (i + 1) ∧ i + 1 ≤ xs.length ∧ ∃ W2 A2 env2, Sat R.K W2 H3 env2 σ3 A2 ∧ Tr W H (Owns A) W2 H3 (Owns A2) ∧ Fx fx σ σ3 ∧ Pr W1 H1 W2 H3 ∧ So R fx W H A σ (fors (fun x env => (take tg x env).thn fun _ env => exes R.cl R.io sub b env) (xs.drop (i + 1)) env2) D), ct := fun σ3 H3 => ∃ m', m' < xs.length - i ∧ (m' = xs.length - (i + 1) ∧ i + 1 ≤ xs.length ∧ ∃ W2 A2 env2, Sat R.K W2 H3 env2 σ3 A2 ∧ Tr W H (Owns A) W2 H3 (Owns A2) ∧ Fx fx σ σ3 ∧ Pr W1 H1 W2 H3 ∧ So R fx W H A σ (fors (fun x env => (take tg x env).thn fun _ env => exes R.cl R.io sub b env) (xs.drop (i + 1)) env2) D), bk := D.nx }) (W := W3) (H := H3) (A := A2) (σ := σ2) (k := exes R.cl R.io sub b) .refl g3.sat .refl rv .nil (fun _ z => absurd z (by simp)) hw hf ?_ ?_
    · generalize hb : (take tg xs[i] env2).thn (fun _ env => exes R.cl R.io sub b env) = y
      have h2 : So R fx W H A σ (match (take tg xs[i] env2).thn (fun _ env => exes R.cl R.io sub b env) with
        | .nx env => fors (fun x env => (take tg x env).thn fun _ env => exes R.cl R.io sub b env) (xs.drop (i + 1)) env
        | .ct env => fors (fun x env => (take tg x env).thn fun _ env => exes R.cl R.io sub b env) (xs.drop (i + 1)) env
        | .bk env => .nx env
        | y => y) D := h2
      rw [hb] at h2
      have tt := t2.trans g3.tr
      cases y with
      | nx env3 => exact fun W4 H4 A4 σ4 t4 S4 f4 => ⟨xs.length - (i + 1), by omega, rfl, hlt, W4, A4, env3, S4, tt.trans t4, f2.trans f4, p3.trans ⟨t4.w, fun a u w e => t4.h a u e fun ⟨j, z⟩ => g3.sat.sep j a z w⟩, h2⟩
      | ct env3 => exact fun W4 H4 A4 σ4 t4 S4 f4 => ⟨xs.length - (i + 1), by omega, rfl, hlt, W4, A4, env3, S4, tt.trans t4, f2.trans f4, p3.trans ⟨t4.w, fun a u w e => t4.h a u e fun ⟨j, z⟩ => g3.sat.sep j a z w⟩, h2⟩
      | bk env3 => exact fun W4 H4 A4 σ4 t4 S4 f4 => h2 W4 H4 A4 σ4 (tt.trans t4) S4 (f2.trans f4)
      | rt o env3 => exact fun W4 H4 A4 σ4 v B t4 S4 f4 V => h2 W4 H4 A4 σ4 v B (tt.trans t4) S4 (f2.trans f4) (vv_tr tt V)
      | exc c env3 => exact fun W4 H4 A4 σ4 t4 S4 f4 => h2 W4 H4 A4 σ4 (tt.trans t4) S4 (f2.trans f4)
      | bad => exact h2
    · exact fun env4 A4 σ4 S4 t4 f4 h4 => ⟨W3, env4, A4, S4, So.from h4 t4 f4⟩
  · left
    have e : i = xs.length := by omega
    subst e
    refine ⟨wk.stop W2 H2 p2 S2.dom, ?_⟩
    rw [List.drop_length] at h2
    exact h2 W2 H2 A2 σ2 t2 S2 f2
theorem wk_whl {sub : Nat → Nat → Bool} {n : Nat} {c : T} {b : Ss} (h : tS R sub fx (.whl n c b) D σ H) : tWhile (tT R c) (tSs R sub fx b) D σ H := by
  obtain ⟨W, env, A, S, h⟩ := h
  rw [exe] at h
  refine ⟨fun m σ2 H2 => ∃ W2 A2 env2, Sat R.K W2 H2 env2 σ2 A2 ∧ So R fx W2 H2 A2 σ2 (whiles (evT R.cl R.io c) (exes R.cl R.io sub b) m env2) D, ⟨n, W, A, env, S, h⟩, ?_⟩
  rintro m σ2 H2 ⟨W2, A2, env2, S2, h2⟩
  cases m with
  | zero => exact h2.elim
  | succ m => ?_
  show tT R c σ2 H2 _
  refine tX.stepS S2 h2 (by rw [whiles]) fun t env3 t' W3 H3 A3 g e hk => ?_
  subst e
  cases t with
  | false => exact hk _ _ _ _ g.tr g.sat .refl
  | true =>
    refine ⟨fun σ4 H4 => ∃ W2 A2 env2, Sat R.K W2 H4 env2 σ4 A2 ∧ So R fx W2 H4 A2 σ4 (whiles (evT R.cl R.io c) (exes R.cl R.io sub b) m env2) D, fun σ4 H4 q => ⟨m, Nat.lt_succ_self m, q⟩, W3, env3, A3, g.sat, ?_⟩
    have hk : So R fx W2 H2 A2 σ2 (match exes R.cl R.io sub b env3 with
      | .nx env => whiles (evT R.cl R.io c) (exes R.cl R.io sub b) m env
      | .ct env => whiles (evT R.cl R.io c) (exes R.cl R.io sub b) m env
      | .bk env => .nx env
      | y => y) D := hk
    cases hb : exes R.cl R.io sub b env3 with
    | nx env4 => rw [hb] at hk; exact fun W4 H4 A4 σ4 t4 S4 f4 => ⟨W4, A4, env4, S4, So.from hk (g.tr.trans t4) f4⟩
    | ct env4 => rw [hb] at hk; exact fun W4 H4 A4 σ4 t4 S4 f4 => ⟨W4, A4, env4, S4, So.from hk (g.tr.trans t4) f4⟩
    | bk env4 => rw [hb] at hk; exact fun W4 H4 A4 σ4 t4 S4 f4 => hk W4 H4 A4 σ4 (g.tr.trans t4) S4 f4
    | rt o env4 => rw [hb] at hk; exact fun W4 H4 A4 σ4 v B t4 S4 f4 V => hk W4 H4 A4 σ4 v B (g.tr.trans t4) S4 f4 (vv_tr g.tr V)
    | exc c env4 => rw [hb] at hk; exact fun W4 H4 A4 σ4 t4 S4 f4 => hk W4 H4 A4 σ4 (g.tr.trans t4) S4 f4
    | bad => rw [hb] at hk; exact hk
end
end Ev
set_option Elab.async false
set_option linter.all false
set_option maxRecDepth 100000
set_option maxHeartbeats 1000000
namespace Ev
open PySem PySem.Spec PyProof.Rows L2 RZ
/-! ### stores -/
section
variable {K : PySem.W.Frag} {W W0 : Addr → Prop} {H H0 : Hp} {A A0 : Nat → List Addr} {σ : L2.St} {env : Env} {i : Nat}
theorem ROs.split : ∀ {os : List O} {xs : List V} {A : List Addr}, ROs K W H os xs A → ∀ i, ∃ A1 A2, A = A1 ++ A2 ∧ ROs K W H (os.take i) (xs.take i) A1 ∧ ROs K W H (os.drop i) (xs.drop i) A2
  | os, xs, A, h, 0 => ⟨[], A, rfl, by simp [ROs], h⟩
  | [], xs, A, h, i + 1 => by
    simp only [ROs] at h
    obtain ⟨rfl, rfl⟩ := h
    exact ⟨[], [], rfl, by simp [ROs], by simp [ROs]⟩
  | o :: os, xs, A, h, i + 1 => by
    simp only [ROs] at h
    obtain ⟨x, r, B, C, rfl, rfl, h1, h2⟩ := h
    obtain ⟨A1, A2, rfl, s1, s2⟩ := h2.split i
    refine ⟨B ++ A1, A2, by simp, ?_, s2⟩
    simp only [List.take_succ_cons, ROs]
    exact ⟨x, _, B, A1, rfl, rfl, h1, s1⟩
theorem ROs.cons1 {o : O} {os : List O} {x : V} {xs : List V} {B C : List Addr} (h : RO K W H o x B) (r : ROs K W H os xs C) : ROs K W H (o :: os) (x :: xs) (B ++ C) := by
  simp only [ROs]
  exact ⟨x, xs, B, C, rfl, rfl, h, r⟩
theorem ROs.setAt {os : List O} {xs : List V} {A : List Addr} {j : Nat} {o : O} {v : V} (h : ROs K W H os xs A) (hj : j < os.length) (r : RO K W H o v []) : ∃ A', ROs K W H (os.set j o) (xs.set j v) A' ∧ A'.Sublist A := by
  obtain ⟨A1, A2, rfl, s1, s2⟩ := h.split j
  have hl := h.len
  have s3 : ∃ A3, ROs K W H (os.drop (j + 1)) (xs.drop (j + 1)) A3 ∧ A3.Sublist A2 := by
    rw [List.drop_eq_getElem_cons hj, List.drop_eq_getElem_cons (show j < xs.length by omega)] at s2
    simp only [ROs] at s2
    obtain ⟨x, r, B, C, e, rfl, _, h2⟩ := s2
    cases e
    exact ⟨C, h2, List.sublist_append_right _ _⟩
  obtain ⟨A3, s3, sub⟩ := s3
  refine ⟨A1 ++ ([] ++ A3), ?_, List.Sublist.append_left sub A1⟩
  rw [List.set_eq_take_append_cons_drop, if_pos hj, List.set_eq_take_append_cons_drop, if_pos (show j < xs.length by omega)]
  exact ROs.app s1 (ROs.cons1 r s3)
theorem ROs.erase {os : List O} {xs : List V} {A : List Addr} {j : Nat} (h : ROs K W H os xs A) (hj : j < os.length) : ∃ A', ROs K W H (os.eraseIdx j) (xs.eraseIdx j) A' ∧ A'.Sublist A := by
  obtain ⟨A1, A2, rfl, s1, s2⟩ := h.split j
  have hl := h.len
  have s3 : ∃ A3, ROs K W H (os.drop (j + 1)) (xs.drop (j + 1)) A3 ∧ A3.Sublist A2 := by
    rw [List.drop_eq_getElem_cons hj, List.drop_eq_getElem_cons (show j < xs.length by omega)] at s2
    simp only [ROs] at s2
    obtain ⟨x, r, B, C, e, rfl, _, h2⟩ := s2
    cases e
    exact ⟨C, h2, List.sublist_append_right _ _⟩
  obtain ⟨A3, s3, sub⟩ := s3
  refine ⟨A1 ++ A3, ?_, List.Sublist.append_left sub A1⟩
  rw [List.eraseIdx_eq_take_drop_succ, List.eraseIdx_eq_take_drop_succ]
  exact ROs.app s1 s3
theorem ROs.ins {os : List O} {xs : List V} {A : List Addr} {j : Nat} {o : O} {v : V} (h : ROs K W H os xs A) (r : RO K W H o v []) : ROs K W H (insAt os j o) (xs.take j ++ [v] ++ xs.drop j) A := by
  obtain ⟨A1, A2, rfl, s1, s2⟩ := h.split j
  unfold insAt
  rw [List.append_assoc]
  exact ROs.app s1 (ROs.cons1 (B := []) r s2)
/-- what one slot's list is, and how it may turn -/
theorem store_at (S : Sat K W H env σ A) {os : List O} (hg : get env i = some (.lst os)) : ∃ p xs C, σ[i]? = some (some (.ref p)) ∧ A i = p :: C ∧ H p = some (.lst xs) ∧ ROs K W H os xs C ∧ xs.length = os.length ∧ C.Nodup ∧
    ∀ os' xs' C', ROs K W H os' xs' C' → C'.Nodup → (∀ a ∈ C', a ∈ C ∨ (¬ W a ∧ ¬ Owns A a)) →
      Sat K W (upd H p (.lst xs')) (put env i (some (.lst os'))) σ (updA A i (p :: C')) ∧
      ∀ {W0 : Addr → Prop} {H0 : Hp} {A0 : Nat → List Addr}, Tr W0 H0 (Owns A0) W H (Owns A) → (∀ a ∈ C', a ∈ C ∨ (Owns A0 a ∨ H0 a = none)) → Tr W0 H0 (Owns A0) W (upd H p (.lst xs')) (Owns (updA A i (p :: C'))) := by
  obtain ⟨v, hv, ro⟩ := S.at_ i _ hg
  simp only [RO] at ro
  obtain ⟨p, xs, C, rfl, hA, hp, rs⟩ := ro
  have nd := S.nd i
  rw [hA] at nd
  obtain ⟨nd1, nd2⟩ := List.nodup_cons.mp nd
  have hpi : p ∈ A i := by rw [hA]; exact List.mem_cons_self
  have hpW : ¬ W p := S.sep i p hpi
  refine ⟨p, xs, C, hv, hA, hp, rs, rs.len, nd2, fun os' xs' C' r nd' sub => ?_⟩
  have hpC : p ∉ C' := fun z => (sub p z).elim nd1 fun z => z.2 ⟨i, hpi⟩
  have inC : ∀ a ∈ C', ¬ W a ∧ ∀ j, j ≠ i → a ∉ A j := fun a ha => by
    rcases sub a ha with z | z
    · have : a ∈ A i := by rw [hA]; exact List.mem_cons_of_mem _ z
      exact ⟨S.sep i a this, fun j hj => S.dj i j a (Ne.symm hj) this⟩
    · exact ⟨z.1, fun j _ h => z.2 ⟨j, h⟩⟩
  constructor
  · have S1 := S.drop i
    have S2 : Sat K W (upd H p (.lst xs')) (put env i none) σ (updA A i []) := S1.mono (fun _ h => h) S1.sep (fun a w => by rw [upd_ne fun z => hpW (by rw [← z]; exact w)]; exact S.dom a w) fun a o ha e => by
      rw [upd_ne fun z => ?_]
      · exact e
      · subst z
        rcases ha with w | ⟨j, hj⟩
        · exact hpW w
        · by_cases e : j = i
          · subst e; rw [updA_self] at hj; exact absurd hj (by simp)
          · rw [updA_ne e] at hj; exact S.dj i j a (Ne.symm e) hpi hj
    have S3 := S2.putE (i := i) (o := .lst os') (v := .ref p) (B := p :: C') hv (by
      simp only [RO]
      exact ⟨p, xs', C', rfl, rfl, upd_same, ROs.mono (fun _ h => h) (fun a o w e => by rw [upd_ne fun z => hpW (by rw [← z]; exact w)]; exact e) (fun a ha o e => by rw [upd_ne fun z => hpC (by rw [← z]; exact ha)]; exact e) r⟩)
      (List.nodup_cons.mpr ⟨hpC, nd'⟩) (fun b hb => by
        rcases List.mem_cons.mp hb with rfl | hb
        · exact hpW
        · exact (inC b hb).1) fun b hb j hj => by
        rw [updA_ne hj]
        rcases List.mem_cons.mp hb with rfl | hb
        · exact S.dj i j _ (Ne.symm hj) hpi
        · exact (inC b hb).2 j hj
    rw [put_put] at S3
    have e2 : updA (updA A i []) i (p :: C') = updA A i (p :: C') := by
      funext j
      unfold updA
      split <;> rfl
    rw [e2] at S3
    exact S3
  · intro W0 H0 A0 t sub2
    have hpo : Owns A0 p ∨ H0 p = none := t.a p ⟨i, hpi⟩
    refine ⟨t.w, t.w2, fun a o e na => ?_, fun a ha => ?_, fun a ⟨j, hj⟩ => ?_⟩
    · rw [upd_ne fun z => by subst z; exact hpo.elim na fun q => by rw [q] at e; cases e]
      exact t.h a o e na
    · by_cases e : a = p
      · subst e; rw [upd_same]; simp
      · rw [upd_ne e]; exact t.d a ha
    · by_cases e : j = i
      · subst e
        rw [updA_self] at hj
        rcases List.mem_cons.mp hj with rfl | hj
        · exact hpo
        · rcases sub2 a hj with z | z
          · exact t.a a ⟨j, by rw [hA]; exact List.mem_cons_of_mem _ z⟩
          · exact z
      · rw [updA_ne e] at hj
        exact t.a a ⟨j, hj⟩
end
section
variable {R : Rn} {fx : Nat → Bool} {H : Hp} {σ : L2.St} {D : Ends} {sub : Nat → Nat → Bool}
theorem wk_setIx {i : Nat} {k e : E} (h : tS R sub fx (.setIx i k e) D σ H) : tAsg (tE R false e) (gSub (tVar i) (tE R true k) (fun o i v H Q => rSetL o i v H Q)) D σ H := by
  obtain ⟨W, env, A, S, h⟩ := h
  show tE R false e σ H _
  refine tX.stepS S h (by rw [exe]) fun o env1 v W1 H1 A1 g ⟨B, V⟩ hk => ?_
  obtain ⟨p, hp, hk⟩ := hk.freeze
  obtain ⟨hs, hk⟩ := hk.needS
  have g' := g.frz V
  have V' := V.share (b := true) hp
  obtain ⟨x, hx⟩ := Option.isSome_iff_exists.mp hs
  obtain ⟨vx, hvx, _⟩ := g'.sat.at_ i x hx
  refine ⟨vx, hvx, ?_⟩
  refine tX.stepS g'.sat (So.from hk g'.tr .refl) rfl fun kk env2 vk W2 H2 A2 g2 ⟨B2, V2⟩ hk => ?_
  cases hx2 : get env2 i with
  | none => simp only [hx2] at hk; exact hk.elim
  | some x2 => ?_
  simp only [hx2] at hk
  cases kk with
  | sh kk => ?_
  | _ => exact hk.elim
  obtain ⟨rk, rfl⟩ := V2.ro.sh_inv
  cases hs2 : setO x2 kk p with
  | none => simp only [hs2] at hk; exact hk.elim
  | some x3 => ?_
  simp only [hs2] at hk
  cases x2 with
  | lst os => ?_
  | _ => simp [setO] at hs2
  cases kk with
  | int kk => ?_
  | _ => simp [setO] at hs2
  simp only [setO, Option.map_eq_some_iff] at hs2
  obtain ⟨j, hj, rfl⟩ := hs2
  obtain ⟨q, xs, C, c1, c2, c3, c4, c5, c6, c7⟩ := store_at g2.sat hx2
  rw [c1] at hvx
  cases hvx
  simp only [RD] at rk
  subst rk
  have hjl : j < os.length := by
    unfold ixN at hj
    split at hj
    · split at hj
      · cases hj; omega
      · cases hj
    · split at hj
      · cases hj; omega
      · cases hj
  have r2 := (g2.pr g'.sat).ro V'.ro
  obtain ⟨C', s1, s2⟩ := c4.setAt hjl r2
  obtain ⟨S3, T3⟩ := c7 _ _ _ s1 (c6.sublist s2) fun a ha => .inl (s2.subset ha)
  refine ⟨q, xs, kk, j, rfl, rfl, c3, by rw [c5]; exact hj, ?_⟩
  exact hk _ _ _ _ (T3 g2.tr fun a ha => .inl (s2.subset ha)) S3 .refl
theorem wk_app {i : Nat} {e : E} (h : tS R sub fx (.app i e) D σ H) : tDrop (tBM R.K "list" rAppend (tVar i) (tCons (tE R false e) tNil)) D σ H := by
  obtain ⟨W, env, A, S, h⟩ := h
  rw [exe] at h
  cases hx : get env i with
  | none => simp only [hx] at h; exact h.elim
  | some x => ?_
  simp only [hx] at h
  cases x with
  | lst os => ?_
  | _ => exact h.elim
  obtain ⟨p, xs, C, c1, c2, c3, c4, c5, c6, c7⟩ := store_at S hx
  refine ⟨.ref p, c1, .inl ⟨rfl, xs, SqL.of c3⟩, ?_⟩
  show tE R false e σ H _
  refine tX.stepS S h rfl fun o env1 v W1 H1 A1 g ⟨B, V⟩ hk => ?_
  obtain ⟨q, hq, hk⟩ := hk.freeze
  have g' := g.frz V
  have V' := V.share (b := true) hq
  cases hx2 : get env1 i with
  | none => simp only [hx2] at hk; exact hk.elim
  | some x2 => ?_
  simp only [hx2] at hk
  cases x2 with
  | lst os2 => ?_
  | _ => exact hk.elim
  by_cases hc : os2.length < cap
  · simp only [hc, if_true] at hk
    obtain ⟨p2, xs2, C2, d1, d2, d3, d4, d5, d6, d7⟩ := store_at g'.sat hx2
    rw [c1] at d1
    cases d1
    have r : ROs R.K (fun a => W1 a ∨ a ∈ B) H1 (os2 ++ [q]) (xs2 ++ [v]) (C2 ++ ([] ++ [])) := ROs.app d4 (ROs.cons1 V'.ro (by simp [ROs]))
    rw [List.append_nil, List.append_nil] at r
    obtain ⟨S3, T3⟩ := d7 _ _ _ r d6 fun a ha => .inl ha
    refine ⟨p, xs2, v, rfl, rfl, d3, by rw [d5, ← cap_eq]; exact hc, ?_⟩
    exact hk _ _ _ _ (T3 g'.tr fun a ha => .inl ha) S3 .refl
  · simp only [hc, if_false] at hk
    exact hk.elim
theorem wk_ext {i : Nat} {e : E} (h : tS R sub fx (.ext i e) D σ H) : tDrop (tBM R.K "list" rExtend (tVar i) (tCons (tE R false e) tNil)) D σ H := by
  obtain ⟨W, env, A, S, h⟩ := h
  rw [exe] at h
  cases hx : get env i with
  | none => simp only [hx] at h; exact h.elim
  | some x => ?_
  simp only [hx] at h
  cases x with
  | lst os => ?_
  | _ => exact h.elim
  obtain ⟨p, xs, C, c1, c2, c3, c4, c5, c6, c7⟩ := store_at S hx
  refine ⟨.ref p, c1, .inl ⟨rfl, xs, SqL.of c3⟩, ?_⟩
  show tE R false e σ H _
  refine tX.stepS S h rfl fun o env1 v W1 H1 A1 g ⟨B, V⟩ hk => ?_
  cases hx2 : get env1 i with
  | none => simp only [hx2] at hk; exact hk.elim
  | some x2 => ?_
  simp only [hx2] at hk
  cases x2 with
  | lst os2 => ?_
  | _ => exact hk.elim
  obtain ⟨p2, xs2, C2, d1, d2, d3, d4, d5, d6, d7⟩ := store_at g.sat hx2
  rw [c1] at d1
  cases d1
  cases o with
  | lst ys =>
    have hk : So R fx W H A σ (if os2.length + ys.length ≤ cap then SOut.nx (put env1 i (some (O.lst (os2 ++ ys)))) else .bad) D := hk
    split at hk
    · rename_i hc
      have ro := V.ro
      simp only [RO] at ro
      obtain ⟨b, zs, E2, rfl, rfl, hb, rs⟩ := ro
      have nb := V.nd rfl
      obtain ⟨nb1, nb2⟩ := List.nodup_cons.mp nb
      have sp : ∀ a ∈ E2, ¬ W1 a ∧ ¬ Owns A1 a ∧ (Owns A a ∨ H a = none) := fun a ha => V.sep rfl a (List.mem_cons_of_mem _ ha)
      have inA : ∀ a ∈ C2, Owns A1 a := fun a ha => ⟨i, by rw [d2]; exact List.mem_cons_of_mem _ ha⟩
      obtain ⟨S3, T3⟩ := d7 _ _ _ (ROs.app d4 rs) (List.nodup_append.mpr ⟨d6, nb2, fun a ha c hc e => (sp c hc).2.1 (by rw [← e]; exact inA a ha)⟩) fun a ha => (List.mem_append.mp ha).imp id fun z => ⟨(sp a z).1, (sp a z).2.1⟩
      refine ⟨p, b, xs2, zs, rfl, rfl, d3, hb, by rw [d5, rs.len, ← cap_eq]; exact hc, ?_⟩
      exact hk _ _ _ _ (T3 g.tr fun a ha => (List.mem_append.mp ha).imp id fun z => (sp a z).2.2) S3 .refl
    · exact hk.elim
  | sh d =>
    cases d with
    | lst ys =>
      have hk : So R fx W H A σ (if os2.length + ys.length ≤ cap then SOut.nx (put env1 i (some (O.lst (os2 ++ ys.map O.sh)))) else .bad) D := hk
      split at hk
      · rename_i hc
        obtain ⟨rv, rfl⟩ := V.ro.sh_inv
        simp only [RD] at rv
        obtain ⟨b, zs, rfl, _, hb, rs⟩ := rv
        have r := ROs.app d4 (ROs.own rs)
        rw [List.append_nil] at r
        obtain ⟨S3, T3⟩ := d7 _ _ _ r d6 fun a ha => .inl ha
        refine ⟨p, b, xs2, zs, rfl, rfl, d3, hb, by rw [d5, rs.len, ← cap_eq]; exact hc, ?_⟩
        exact hk _ _ _ _ (T3 g.tr fun a ha => .inl ha) S3 .refl
      · exact hk.elim
    | _ => exact hk.elim
  | _ => exact hk.elim
theorem wk_ins {i : Nat} {k e : E} (h : tS R sub fx (.ins i k e) D σ H) : tDrop (tBM R.K "list" (fun x vs H Q => ∃ (l : Addr) (xs : List V) (i : Int) (y : V), x = .ref l ∧ vs = [.int i, y] ∧ H l = some (.lst xs) ∧ xs.length < sizeLine ∧ 0 ≤ i ∧ i < 2 ^ 63 ∧
    Q .non (upd H l (.lst (xs.take i.toNat ++ [y] ++ xs.drop i.toNat)))) (tVar i) (tCons (tE R true k) (tCons (tE R false e) tNil))) D σ H := by
  obtain ⟨W, env, A, S, h⟩ := h
  rw [exe] at h
  cases hx : get env i with
  | none => simp only [hx] at h; exact h.elim
  | some x => ?_
  simp only [hx] at h
  cases x with
  | lst os => ?_
  | _ => exact h.elim
  obtain ⟨p, xs, C, c1, c2, c3, c4, c5, c6, c7⟩ := store_at S hx
  refine ⟨.ref p, c1, .inl ⟨rfl, xs, SqL.of c3⟩, ?_⟩
  show tE R true k σ H _
  refine tX.stepS S h rfl fun kk env0 vk W0 H0 A0 g0 ⟨B0, V0⟩ hk => ?_
  show tE R false e σ H0 _
  refine tX.stepS g0.sat (So.from hk g0.tr .refl) rfl fun o env1 v W1 H1 A1 g ⟨B, V⟩ hk => ?_
  obtain ⟨q, hq, hk⟩ := hk.freeze
  have g' := g.frz V
  have V' := V.share (b := true) hq
  cases hx2 : get env1 i with
  | none => simp only [hx2] at hk; exact hk.elim
  | some x2 => ?_
  simp only [hx2] at hk
  cases x2 with
  | lst os2 => ?_
  | _ => exact hk.elim
  cases kk with
  | sh kk => ?_
  | _ => exact hk.elim
  cases kk with
  | int kk => ?_
  | _ => exact hk.elim
  obtain ⟨rk, rfl⟩ := V0.ro.sh_inv
  simp only [RD] at rk
  subst rk
  have hk : So R fx W0 H0 A0 σ (if 0 ≤ kk ∧ kk < 2 ^ 62 ∧ os2.length < cap then SOut.nx (put env1 i (some (O.lst (insAt os2 kk.toNat q)))) else .bad) D := hk
  split at hk
  · rename_i hc
    obtain ⟨k0, k1, hc⟩ := hc
    obtain ⟨p2, xs2, C2, d1, d2, d3, d4, d5, d6, d7⟩ := store_at g'.sat hx2
    rw [c1] at d1
    cases d1
    obtain ⟨S3, T3⟩ := d7 _ _ _ (d4.ins (j := kk.toNat) V'.ro) d6 fun a ha => .inl ha
    have e62 : (2 : Int) ^ 62 = 4611686018427387904 := by decide
    have e63 : (2 : Int) ^ 63 = 9223372036854775808 := by decide
    refine ⟨p, xs2, kk, v, rfl, rfl, d3, by rw [d5, ← cap_eq]; exact hc, k0, by omega, ?_⟩
    exact hk _ _ _ _ (T3 g'.tr fun a ha => .inl ha) S3 .refl
  · exact hk.elim
end
end Ev
set_option Elab.async false
set_option linter.all false
set_option maxRecDepth 100000
set_option maxHeartbeats 1000000
namespace Ev
open PySem PySem.Spec PyProof.Rows L2 RZ
/-! ### is this the text of the statements? -/
def isCompX : Expr → Bool
  | .ListComp _ _ _ _ => true
  | .SetComp _ _ _ _ => true
  | .DictComp _ _ _ _ _ => true
  | _ => false
def isTupX : Expr → Bool
  | .Tuple _ _ _ => true
  | .List _ _ => true
  | _ => false
/-- is the list bound where it is made? -/
def swB (sc : Scope) (t v : Expr) : Bool := match t, v with
  | .Name y py, .ListComp _ _ s pos => decide (sc.names.lookup y = some .local) && (py.line == pos.line) && !(s.names.any fun (n, k) => n == y && (k == .local || k == .cell))
  | _, _ => false
def isNameX : Expr → Bool
  | .Name _ _ => true
  | _ => false
def isLC : Expr → Bool
  | .ListComp _ _ _ _ => true
  | _ => false
def compE1 : E → Bool
  | .comp _ _ _ _ _ _ => true
  | .comp2 _ _ _ _ _ _ _ _ => true
  | _ => false
def compE : E → Bool
  | .fz e => compE1 e
  | e => compE1 e
section
variable (tx : Txt) (N : List Str) (fx : Nat → Bool)
/-- a written value -/
def isW : Wc → Expr → Bool
  | .lit d, .Constant c _ _ => litB d c
  | .lst ds, .List xs _ => isWs ds xs && decide (xs.length ≤ 1000)
  | _, _ => false
where isWs : List D → List Expr → Bool
  | [], [] => true
  | d :: ds, .Constant c _ _ :: xs => litB d c && isWs ds xs
  | _, _ => false
def isX (sc : Scope) : Sx → List Stmt → Bool
  | .ret w, [.Return (some e) _] => isW w e
  | .asg i w, [.Assign [.Name x _] e _] => decide (N[i]? = some x) && ownB sc x && !fx i && isW w e
  | _, _ => false
def isHs (sc : Scope) : List (Nat × Sx) → List ExceptHandler → Bool
  | [], [] => true
  | (c, x) :: r, .ExceptHandler (some (.Name n _)) none body _ :: hs => (match tx.exn c with
    | some m => glB sc n m
    | none => false) && isX N fx sc x body && isHs sc r hs
  | _, _ => false
mutual
def isS (sc : Scope) : S → Stmt → Bool
  | .asg tg e, .Assign [t] v _ => isTg N sc tg t && isE tx N sc e v && notStar t && (tgs tg).all (fun i => !fx i) && !(isTupX t && isTupX v) && (!isCompX v || (isLC v && (!swB sc t v || (compE e && isNameX t))))
  | .setIx i k e, .Assign [.Subscript (.Name x _) s _] v _ => nmB N sc i x && isE tx N sc k s && isE tx N sc e v && notSlice s
  | .app i e, .Expr (.Call (.Attribute (.Name x _) m ap) [v] [] cp) _ => decide (m = Str.ofString "append") && nmB N sc i x && isE tx N sc e v && notStar v && (ap.endLine == cp.line)
  | .ext i e, .Expr (.Call (.Attribute (.Name x _) m ap) [v] [] cp) _ => decide (m = Str.ofString "extend") && nmB N sc i x && isE tx N sc e v && notStar v && (ap.endLine == cp.line)
  | .ins i k e, .Expr (.Call (.Attribute (.Name x _) m ap) [kx, v] [] cp) _ => decide (m = Str.ofString "insert") && nmB N sc i x && isE tx N sc k kx && isE tx N sc e v && notStar kx && notStar v && (ap.endLine == cp.line)
  | .ex e, .Expr v _ => isE tx N sc e v && !isCompX v
  | .ifs c a b, .If t x y _ => isT tx N sc c t && isSs sc a x && isSs sc b y
  | .loop tg it b, .For t i x [] _ => isTg N sc tg t && isIt tx N sc it tg i && (tgs tg).all (fun i => !fx i) && isSs sc b x && notSet i
  | .whl _ c b, .While t x [] _ => isT tx N sc c t && isSs sc b x
  | .ret e, .Return (some v) _ => isE tx N sc e v
  | .retn, .Return none _ => true
  | .raise c, .Raise (some (.Call (.Name x _) [.Constant (.str _) _ _] [] _)) none _ => (match tx.exn c with
    | some n => glB sc x n
    | none => false)
  | .tryx b hs, .Try body (h :: hds) [] [] _ => isSs sc b body && isHs tx N fx sc hs (h :: hds)
  | .brk, .Break _ => true
  | .cnt, .Continue _ => true
  | .pass, .Pass _ => true
  | .pass, .Expr (.Constant (.str _) _ _) _ => true
  | _, _ => false
def isSs (sc : Scope) : Ss → List Stmt → Bool
  | .nil, [] => true
  | .cons s r, x :: xs => isS sc s x && isSs sc r xs
  | _, _ => false
end
end
theorem sw_false {v t : Expr} {l : Nat} {env : PySem.Env} {sc : Scope} (he : env.scope = sc) (hk : sc.kind = .function) (h : (!isCompX v || (isLC v && !swB sc t v)) = true) : swapsWith v (some t) l env = pure false := by
  cases v with
  | ListComp a b s pos =>
    have h : (!swB sc t (.ListComp a b s pos)) = true := by simpa [isCompX, isLC] using h
    cases t with
    | Name y py =>
      unfold swB at h
      unfold swapsWith
      show pure (env.blockKind == .function && env.kindOf y == some .local && py.line == pos.line && !(s.names.any fun (n, k) => n == y && (k == .local || k == .cell))) = _
      congr 1
      have e1 : env.blockKind = .function := by unfold Env.blockKind; rw [he, hk]; rfl
      have e2 : env.kindOf y = sc.names.lookup y := by show env.scope.names.lookup y = _; rw [he]
      rw [e1, e2]
      simp only [Bool.not_eq_true'] at h
      rw [← h]
      cases hl : sc.names.lookup y with
      | none => rfl
      | some kd => cases kd <;> rfl
    | _ => rfl
  | SetComp a b s pos => simp [isCompX, isLC] at h
  | DictComp a b d s pos => simp [isCompX, isLC] at h
  | _ => rfl
theorem sw_drop {v : Expr} {l : Nat} {env : PySem.Env} (h : isCompX v = false) : swapsWith v none l env = pure false := by
  cases v <;> first | rfl | cases h
theorem sw_stores {t v : Expr} {env : PySem.Env} (h : (isTupX t && isTupX v) = false) : swappedStores [t] v env = pure none := by
  cases t <;> first | rfl | skip
  all_goals (cases v <;> first | rfl | cases h)
theorem sw_yes {v : Expr} {y : Str} {py : Pos} {l : Nat} {env : PySem.Env} {sc : Scope} (he : env.scope = sc) (hk : sc.kind = .function) (h : swB sc (.Name y py) v = true) : swapsWith v (some (.Name y py)) l env = pure true ∧ env.scope.names.lookup y = some .local := by
  cases v with
  | ListComp a b s pos =>
    have h : (decide (sc.names.lookup y = some .local) && (py.line == pos.line) && !(s.names.any fun (n, k) => n == y && (k == .local || k == .cell))) = true := h
    obtain ⟨h, h3⟩ := and_lr h
    obtain ⟨h1, h2⟩ := and_lr h
    have h1 := of_decide_eq_true h1
    rw [he]
    exact ⟨sw_true (by rw [he]; exact hk) (by rw [he]; exact h1) h2 (by simpa using h3), h1⟩
  | _ => cases h
/-- what an except clause's names are -/
structure Mx (tx : Txt) (C : Cn) (sub : Nat → Nat → Bool) (X : L2.Cx) : Prop where
  exm : ∀ c h n, tx.exn h = some n → PySem.W.exmOne X.K (C.exv c) (C.exv h) = some (sub c h)
  exg : ∀ c n, tx.exn c = some n → ∃ Ca bmB B newId initId, C.exv c = .ref Ca ∧ X.mg (Str.ofString n) = some (.ref Ca) ∧ ExcBaseFacts B newId initId bmB ∧ PySem.W.excIn X.K Ca bmB newId = true ∧ PySem.W.keepIn X.K (.ref Ca) = true ∧
    PySem.W.subIn X.K (.ref Ca) (.type "BaseException") = some true ∧ PySem.W.typeIn X.K (.ref Ca) = some (.type "type")
structure CS (tx : Txt) (C : Cn) (sub : Nat → Nat → Bool) (k : Nat) (X : L2.Cx) (Wx : WX) (sc : Scope) : Prop where
  co : CO tx C k X Wx sc sc
  kind : sc.kind = .function
  po : PassesOwn (model X.prog X.w) X.A X.env X.xe
  stk : X.stack = X.env :: X.outer
  fr : X.env.frame = some X.env.locals
  mx : Mx tx C sub X
section
variable {tx : Txt} {C : Cn} {sub : Nat → Nat → Bool} {k : Nat} {fx : Nat → Bool}
section
variable {X : L2.Cx} {Wx : WX} {sc : Scope}
theorem CS.tr (c : CS tx C sub k X Wx sc) {pn : List (Addr × Obj)} {xe : Value → Shared → Prop} {W : WX} (tk : Takes (X.tr pn xe) W) (po : PassesOwn (model X.prog X.w) X.A X.env xe) : CS tx C sub k (X.tr pn xe) W sc :=
  ⟨⟨c.co.nd, c.co.sc, c.co.own, c.co.calm, c.co.room, tk, ⟨c.co.mo.blt, c.co.mo.glb, c.co.mo.fns⟩⟩, c.kind, po, c.stk, c.fr, ⟨c.mx.exm, c.mx.exg⟩⟩
theorem s_asg {tg : Tg} {e : E} {t v : Expr} {pos : Pos} (c : CS tx C sub k X Wx sc) (h : (isTg X.N sc tg t && isE tx X.N sc e v && notStar t && (tgs tg).all (fun i => !fx i) && !(isTupX t && isTupX v) && (!isCompX v || (isLC v && (!swB sc t v || (compE e && isNameX t))))) = true) :
    PS X (.Assign [t] v pos) (tS (rn X C Wx) sub fx (.asg tg e)) := by
  obtain ⟨h, h6⟩ := and_lr h
  obtain ⟨h, h5⟩ := and_lr h
  obtain ⟨h, h4⟩ := and_lr h
  obtain ⟨h, h3⟩ := and_lr h
  obtain ⟨h1, h2⟩ := and_lr h
  by_cases sw : swB sc t v = true
  · have h6 : (compE e && isNameX t) = true := by
      cases v with
      | ListComp a b s p => rw [sw] at h6; simpa [isCompX, isLC] using h6
      | _ => cases t <;> cases sw
    obtain ⟨h6, h7⟩ := and_lr h6
    cases t with
    | Name y py => ?_
    | _ => cases h7
    obtain ⟨s1, s2⟩ := sw_yes (l := pos.line) c.co.sc c.kind sw
    cases tg with
    | tp ts => exact nomatch (show false = true from h1)
    | nm i => ?_
    obtain ⟨n1, n2⟩ := and_lr (show (decide (X.N[i]? = some y) && ownB sc y) = true from h1)
    have n1 := of_decide_eq_true n1
    have go : ∀ {te : TE}, (∀ σ H Q, tE (rn X C Wx) false e σ H Q → te σ H Q) → PS X (.Assign [.Name y py] v pos) (tAsg te (gName i)) → PS X (.Assign [.Name y py] v pos) (tS (rn X C Wx) sub fx (.asg (.nm i) e)) := fun {te} hw hp => by
      refine ⟨fun pins s σ H D I q => hp.run pins s σ H D I ?_⟩
      have q := wk_asg h4 q
      refine hw σ H _ (q.mono fun x H1 q => ?_)
      obtain ⟨W, env, A, o, B, S, rv, nd, sep, _, q⟩ := q
      have hi : i < env.length := by rw [S.len, I.len]; exact (List.getElem?_eq_some_iff.mp n1).1
      have S2 := S.put hi rv nd (fun b hb => (sep b hb).1) (fun b hb j _ z => (sep b hb).2 ⟨j, z⟩)
      unfold take at q
      refine q _ _ S2 ⟨List.length_set .., fun j hj => List.getElem?_set_ne (fun e => hj (by rw [e]; exact List.mem_cons_self))⟩ fun a ⟨j, ha⟩ => ?_
      by_cases e : j = i
      · subst e; rw [updA_self] at ha; exact .inr ha
      · rw [updA_ne e] at ha; exact .inl ⟨j, ha⟩
    have lc : ∀ {a : E}, compE1 a = true → isE tx X.N sc a v = true → (∀ σ H Q, tE (rn X C Wx) false e σ H Q → tE (rn X C Wx) false a σ H Q) → PS X (.Assign [.Name y py] v pos) (tS (rn X C Wx) sub fx (.asg (.nm i) e)) := fun {a} ha h2 hw => by
      cases a with
      | comp dp vs elt tg it ifs =>
        obtain ⟨x, g, i, fs, bs, p, rfl, bo, p1, p2, p3, p4, p5, p6, p7⟩ := s_comp (b := false) c.co h2 (fun c h => sE elt false c h) (fun hg h => sIt it c.co hg h) (fun c h hl => sIfs ifs c h hl)
        have z := ps_setLc c.co.calm c.co.nd n1 s2 s1 p1 bo p2 p3 p4 p5
        rw [ownL_map] at z
        exact go (fun σ H Q q => wk_comp p6 p7 (hw σ H Q q)) z
      | comp2 dp vs ws elt tg it tg2 it2 =>
        obtain ⟨x, g, i, g2, i2, bs, p, rfl, bo, p1, p2, p3, p4, p5, p6, p7, p8, p9, p10, p11, p12⟩ := s_comp2 (b := false) c.co h2 (fun c h => sE elt false c h) (fun hg h => sIt it c.co hg h) (fun c hg h => sIt it2 c hg h)
        have z := ps_setLc2 (vs1 := ws) (tt := tYes) (tt1 := tYes) c.co.calm c.co.nd n1 s2 s1 p1 bo (by rw [ownL_map]; intro j hj; simpa using List.all_eq_true.mp p12 j hj) p2 (fun _ _ _ _ _ => pts_nil) p3 p4 (fun _ _ _ _ _ => pts_nil) p5 p6 p7
        rw [ownL_map] at z
        exact go (fun σ H Q q => wk_comp2 p8 p9 p10 p11 p12 (hw σ H Q q)) z
      | _ => cases ha
    cases e with
    | comp dp vs elt tg it ifs => exact lc (a := .comp dp vs elt tg it ifs) rfl h2 fun _ _ _ q => q
    | comp2 dp vs ws elt tg it tg2 it2 => exact lc (a := .comp2 dp vs ws elt tg it tg2 it2) rfl h2 fun _ _ _ q => q
    | fz a => exact lc (a := a) (and_l h6) h2 fun _ _ _ q => wk_fz q
    | _ => cases h6
  · have sw : swB sc t v = false := by simpa using sw
    refine PS.weak (ps_asg (sE e false c.co h2) (pg_of c.co.nd c.co.calm c.co.own tg t h1 false) (show swapsWith v (some t) pos.line X.env = pure false from sw_false c.co.sc c.kind (by rw [sw] at h6 ⊢; simp at h6 ⊢; rcases h6 with h6 | h6; exact .inl h6; exact .inr h6)) (sw_stores (by cases hh : (isTupX t && isTupX v) with | false => rfl | true => rw [hh] at h5; cases h5)) (by rw [assignEach_of h3]; rfl)) fun D σ H q => wk_asg h4 q
/-- a written value, read -/
theorem w_pe {w : Wc} {e : Expr} {X : L2.Cx} (h : isW w e = true) : ∃ te : TE, PE X e te ∧ ∀ (W : Addr → Prop) (H : Hp) (Q : VK), Dom W H → (∀ v W' H' B, Ext X.K W H (evC w) v W' H' B → Q v H') → ∀ σ, te σ H Q := by
  cases w with
  | lit d =>
    cases e with
    | Constant cc j p => ?_
    | _ => exact nomatch (show false = true from h)
    have key : ∃ v, PE X (.Constant cc j p) (tC v) ∧ ∀ W H, RD X.K W H d v := by
      have h : litB d cc = true := h
      cases d with
      | non =>
        cases cc with
        | none => exact ⟨.non, pe_non, fun _ _ => by simp [RD]⟩
        | _ => exact nomatch (show false = true from h)
      | bl b1 =>
        cases cc with
        | bool b2 =>
          have e : b1 = b2 := by simpa [litB] using h
          subst e
          exact ⟨_, pe_bl, fun _ _ => by simp [RD]⟩
        | _ => exact nomatch (show false = true from h)
      | int i =>
        cases cc with
        | int j =>
          have e : i = j := of_decide_eq_true h
          subst e
          exact ⟨_, pe_int, fun _ _ => by simp [RD]⟩
        | _ => exact nomatch (show false = true from h)
      | str s =>
        cases cc with
        | str x =>
          have e : x = Str.ofString s := of_decide_eq_true h
          subst e
          exact ⟨_, pe_str, fun _ _ => by simp [RD]⟩
        | _ => exact nomatch (show false = true from h)
      | _ => cases cc <;> exact nomatch (show false = true from h)
    obtain ⟨v, hv, r⟩ := key
    exact ⟨_, hv, fun W H Q dm q σ => To.sh (fun v W' H' B x => q v W' H' B x) dm (r W H)⟩
  | lst ds =>
    cases e with
    | List xs p => ?_
    | _ => exact nomatch (show false = true from h)
    obtain ⟨h1, h2⟩ := and_lr (show (isW.isWs ds xs && decide (xs.length ≤ 1000)) = true from h)
    have key : ∀ {ds : List Ev.D} {xs : List Expr}, isW.isWs ds xs = true → ∃ (vs : List V) (ta : TA), PA X xs ta ∧ vs.length = xs.length ∧ (∀ W H, RDs X.K W H ds vs) ∧ ∀ σ H Q, Q vs H → ta σ H Q := by
      intro ds
      induction ds with
      | nil =>
        intro xs h
        cases xs with
        | nil => exact ⟨[], _, pa_nil, rfl, fun _ _ => RDs.nil, fun σ H Q q => q⟩
        | cons _ _ => exact nomatch (show false = true from h)
      | cons d ds ih =>
        intro xs h
        cases xs with
        | nil => exact nomatch (show false = true from h)
        | cons x xs => ?_
        cases x with
        | Constant cc j p => ?_
        | _ => exact nomatch (show false = true from h)
        obtain ⟨h1, h2⟩ := and_lr (show (litB d cc && isW.isWs ds xs) = true from h)
        obtain ⟨vs, ta, a1, a2, a3, a4⟩ := ih h2
        have key : ∃ v, PE X (.Constant cc j p) (tC v) ∧ ∀ W H, RD X.K W H d v := by
          have h : litB d cc = true := h1
          cases d with
          | non =>
            cases cc with
            | none => exact ⟨.non, pe_non, fun _ _ => by simp [RD]⟩
            | _ => exact nomatch (show false = true from h)
          | bl b1 =>
            cases cc with
            | bool b2 =>
              have e : b1 = b2 := by simpa [litB] using h
              subst e
              exact ⟨_, pe_bl, fun _ _ => by simp [RD]⟩
            | _ => exact nomatch (show false = true from h)
          | int i =>
            cases cc with
            | int j =>
              have e : i = j := of_decide_eq_true h
              subst e
              exact ⟨_, pe_int, fun _ _ => by simp [RD]⟩
            | _ => exact nomatch (show false = true from h)
          | str s =>
            cases cc with
            | str x =>
              have e : x = Str.ofString s := of_decide_eq_true h
              subst e
              exact ⟨_, pe_str, fun _ _ => by simp [RD]⟩
            | _ => exact nomatch (show false = true from h)
          | _ => cases cc <;> exact nomatch (show false = true from h)
        obtain ⟨v, hv, r⟩ := key
        exact ⟨v :: vs, _, pa_cons hv a1 (star_of (e := .Constant cc j p) rfl), by rw [List.length_cons, List.length_cons, a2], fun W H => RDs.cons (r W H) (a3 W H), fun σ H Q q => a4 σ H _ q⟩
    obtain ⟨vs, ta, a1, a2, a3, a4⟩ := key h1
    refine ⟨_, pe_lst a1, fun W H Q dm q σ => a4 σ H _ ⟨by rw [a2, sizeLine_eq]; have := of_decide_eq_true h2; omega, fun p hp => ?_⟩⟩
    exact To.own (ds := ds) (fun v W' H' B x => q v W' H' B x) dm (a3 W H) hp
/-- an except clause's suite -/
theorem x_ps {x : Sx} {body : List Stmt} {R : Rn} (c : CS tx C sub k X Wx sc) (hK : R.K = X.K) (h : isX X.N fx sc x body = true) : ∃ b₀ suite, body = b₀ :: suite ∧ ∃ ts : TS, (∀ (a : Addr) (oe : Obj) (cls : Value) (d : Option Addr) (pn : List (Addr × Obj)), Zc cls d oe → (∃ vs, oe.data = .fields vs) → PSs (X.suite a ((a, oe) :: pn)) (b₀ :: suite) ts) ∧
    ∀ W H A σ env D, Sat X.K W H env σ A → σ.length = X.N.length → So R fx W H A σ (runX env x) D → ts D σ H := by
  cases x with
  | ret w =>
    obtain ⟨e, pos, rfl, h⟩ : ∃ e pos, body = [.Return (some e) pos] ∧ isW w e = true := by
      cases body with
      | nil => exact nomatch (show false = true from h)
      | cons s r => ?_
      cases s with
      | Return v pos => ?_
      | _ => cases r <;> exact nomatch (show false = true from h)
      cases v with
      | none => cases r <;> exact nomatch (show false = true from h)
      | some e => ?_
      cases r with
      | nil => exact ⟨e, pos, rfl, h⟩
      | cons _ _ => exact nomatch (show false = true from h)
    refine ⟨_, _, rfl, fun D σ H => ∃ W, Dom W H ∧ ∀ v W' H' B, Ext X.K W H (evC w) v W' H' B → D.rt v H', fun a oe cls d pn _ _ => ?_, fun W H A σ env D S hl q => ?_⟩
    · obtain ⟨te, p1, p2⟩ := w_pe (X := X.suite a ((a, oe) :: pn)) h
      exact pss_one (PS.weak (ps_ret p1) fun D σ H ⟨W, dm, q⟩ => p2 W H D.rt dm q σ)
    · refine ⟨W, S.dom, fun v W' H' B x => ?_⟩
      have g : Go X.K W H A σ true env W' H' A := (Go.refl S).ext x
      rw [← hK] at g x S
      refine q W' H' A σ v B g.tr g.sat .refl ⟨x.ro, fun _ => x.nd, fun _ a ha => ⟨(x.sep a ha).1, fun ⟨i, hi⟩ => S.there i a hi (x.sep a ha).2, .inr (x.sep a ha).2⟩⟩
  | asg i w =>
    obtain ⟨y, py, e, pos, rfl, h⟩ : ∃ y py e pos, body = [.Assign [.Name y py] e pos] ∧ (decide (X.N[i]? = some y) && ownB sc y && !fx i && isW w e) = true := by
      cases body with
      | nil => exact nomatch (show false = true from h)
      | cons s r => ?_
      cases s with
      | Assign ts e pos => ?_
      | _ => cases r <;> exact nomatch (show false = true from h)
      cases ts with
      | nil => cases r <;> exact nomatch (show false = true from h)
      | cons t ts => ?_
      cases ts with
      | cons _ _ => cases t <;> cases r <;> exact nomatch (show false = true from h)
      | nil => ?_
      cases t with
      | Name y py => ?_
      | _ => cases r <;> exact nomatch (show false = true from h)
      cases r with
      | nil => exact ⟨y, py, e, pos, rfl, h⟩
      | cons _ _ => exact nomatch (show false = true from h)
    obtain ⟨h, h4⟩ := and_lr h
    obtain ⟨h, h3⟩ := and_lr h
    obtain ⟨h1, h2⟩ := and_lr h
    have h1 := of_decide_eq_true h1
    obtain ⟨o1, o2⟩ := c.co.own y h2
    refine ⟨_, _, rfl, fun D σ H => ∃ W, Dom W H ∧ ∀ v W' H' B, Ext X.K W H (evC w) v W' H' B → D.nx (σ.set i (some v)) H', fun a oe cls d pn _ _ => ?_, fun W H A σ env D S hl q => ?_⟩
    · obtain ⟨te, p1, p2⟩ := w_pe (X := X.suite a ((a, oe) :: pn)) h4
      have hnc : swapsWith e (some (.Name y py)) pos.line (X.suite a ((a, oe) :: pn)).env = pure false := by
        cases w with
        | lit d => cases e with
          | Constant _ _ _ => rfl
          | _ => exact nomatch (show false = true from h4)
        | lst d => cases e with
          | List _ _ => rfl
          | _ => exact nomatch (show false = true from h4)
      exact pss_one (PS.weak (ps_set (X := X.suite a ((a, oe) :: pn)) c.co.nd h1 o1 p1 hnc o2) fun D σ H ⟨W, dm, q⟩ => p2 W H _ dm q σ)
    · refine ⟨W, S.dom, fun v W' H' B x => ?_⟩
      have g : Go X.K W H A σ true env W' H' A := (Go.refl S).ext x
      have hi : i < env.length := by rw [S.len, hl]; exact (List.getElem?_eq_some_iff.mp h1).1
      have ow : ∀ b ∈ B, ∀ j, b ∉ A j := fun b hb j hj => S.there j b hj (x.sep b hb).2
      have S2 := g.sat.put hi x.ro x.nd (fun b hb => (x.sep b hb).1) fun b hb j _ => ow b hb j
      rw [← hK] at S2
      refine q W' H' _ _ ⟨g.tr.w, g.tr.w2, g.tr.h, g.tr.d, fun a ⟨j, hj⟩ => ?_⟩ S2 ⟨List.length_set .., fun j hj => List.getElem?_set_ne fun e => by subst e; rw [hj] at h3; cases h3⟩
      by_cases e : j = i
      · subst e; rw [updA_self] at hj; exact .inr (x.sep a hj).2
      · rw [updA_ne e] at hj; exact .inl ⟨j, hj⟩
end
end
end Ev
set_option Elab.async false
set_option linter.all false
set_option maxRecDepth 100000
set_option maxHeartbeats 1000000
namespace Ev
open PySem PySem.Spec PyProof.Rows L2 RZ
section
variable {tx : Txt} {C : Cn} {sub : Nat → Nat → Bool} {k : Nat} {fx : Nat → Bool}
section
variable {X : L2.Cx} {Wx : WX} {sc : Scope}
/-! try -/
theorem hs_ok (c : CS tx C sub k X Wx sc) : ∀ {hs : List (Nat × Sx)} {hds : List ExceptHandler}, isHs tx X.N fx sc hs hds = true → ∃ l : List (Value × (Addr → Value → Option Addr → TS)), HdsOk X hds l ∧
    ∀ D W H A σ cc env, Sat X.K W H env σ A → σ.length = X.N.length → So (rn X C Wx) fx W H A σ (handle sub hs cc env) D → wMany X.K Wx D l (C.exv cc) none σ H
  | [], [], _ => ⟨[], .nil, fun D W H A σ cc env S hl q => q W H A σ .refl S .refl⟩
  | [], _ :: _, h => nomatch (show false = true from h)
  | (_, _) :: _, [], h => nomatch (show false = true from h)
  | (e, x) :: r, hd :: hds, h => by
    cases hd with
    | ExceptHandler ty nm body pos => ?_
    cases ty with
    | none => exact nomatch (show false = true from h)
    | some ty => ?_
    cases nm with
    | some _ => cases ty <;> exact nomatch (show false = true from h)
    | none => ?_
    cases ty with
    | Name n np => ?_
    | _ => exact nomatch (show false = true from h)
    have h : ((match tx.exn e with
      | some m => glB sc n m
      | none => false) && isX X.N fx sc x body && isHs tx X.N fx sc r hds) = true := h
    obtain ⟨h, h3⟩ := and_lr h
    obtain ⟨h1, h2⟩ := and_lr h
    cases hm : tx.exn e with
    | none => rw [hm] at h1; cases h1
    | some m => ?_
    rw [hm] at h1
    obtain ⟨rfl, hg, hdb, _⟩ := c.co.gl h1
    obtain ⟨Ca, bmB, B, newId, initId, e1, e2, _⟩ := c.mx.exg e m hm
    obtain ⟨l, l1, l2⟩ := hs_ok c h3
    obtain ⟨b₀, suite, rfl, ts, t1, t2⟩ := x_ps (R := rn X C Wx) c rfl h2
    refine ⟨(C.exv e, fun _ _ _ => ts) :: l, .cons ⟨hg, hdb, .inl (by rw [e1]; exact e2)⟩ t1 l1, fun D W H A σ cc env S hl q => ?_⟩
    refine ⟨sub cc e, c.mx.exm cc e m hm, fun ht a _ => ?_, fun hf => ?_⟩
    · have q : So (rn X C Wx) fx W H A σ (if sub cc e then runX env x else handle sub r cc env) D := q
      rw [ht, if_pos rfl] at q
      exact t2 W H A σ env D S hl q
    · have q : So (rn X C Wx) fx W H A σ (if sub cc e then runX env x else handle sub r cc env) D := q
      rw [hf, if_neg (by simp)] at q
      exact l2 D W H A σ cc env S hl q
theorem wk_try {b : Ss} {hs : List (Nat × Sx)} {D : Ends} {σ : L2.St} {H : Hp} {l : List (Value × (Addr → Value → Option Addr → TS))}
    (hl : σ.length = X.N.length)
    (q : ∀ D W H A σ cc env, Sat X.K W H env σ A → σ.length = X.N.length → So (rn X C Wx) fx W H A σ (handle sub hs cc env) D → wMany X.K Wx D l (C.exv cc) none σ H) (h : tS (rn X C Wx) sub fx (.tryx b hs) D σ H) :
    tSs (rn X C (wMany X.K Wx D l)) sub fx b D σ H := by
  obtain ⟨W, env, A, S, h⟩ := h
  refine ⟨W, env, A, S, ?_⟩
  rw [exe] at h
  show So _ _ _ _ _ _ (exes C.cl C.io sub b env) _
  have h : So (rn X C Wx) fx W H A σ (match exes C.cl C.io sub b env with
    | .exc c env => handle sub hs c env
    | y => y) D := h
  cases e : exes C.cl C.io sub b env with
  | exc c env2 =>
    rw [e] at h
    exact fun W' H' A' σ' t S' f => q D W' H' A' σ' c env2 S' (f.1.trans hl) (So.from h t f)
  | nx env2 => rw [e] at h; exact h
  | bk env2 => rw [e] at h; exact h
  | ct env2 => rw [e] at h; exact h
  | rt o env2 => rw [e] at h; exact h
  | bad => rw [e] at h; exact h
end
theorem PS.weakL {X : L2.Cx} {e : Stmt} {t t' : TS} (h : PS X e t) (k : ∀ D σ H, σ.length = X.N.length → t' D σ H → t D σ H) : PS X e t' := ⟨fun pins s σ H D I q => h.run pins s σ H D I (k D σ H I.len q)⟩
mutual
theorem sS : ∀ (a : S) {X : L2.Cx} {Wx : WX} {sc : Scope} {e : Stmt}, CS tx C sub k X Wx sc → isS tx X.N fx sc a e = true → PS X e (tS (rn X C Wx) sub fx a)
  | .asg tg a, X, Wx, sc, e, c, h => by
    obtain ⟨t, v, pos, rfl, h⟩ : ∃ t v pos, e = .Assign [t] v pos ∧ (isTg X.N sc tg t && isE tx X.N sc a v && notStar t && (tgs tg).all (fun i => !fx i) && !(isTupX t && isTupX v) && (!isCompX v || (isLC v && (!swB sc t v || (compE a && isNameX t))))) = true := by
      cases e with
      | Assign ts v pos => ?_
      | _ => exact nomatch (show false = true from h)
      cases ts with
      | nil => exact nomatch (show false = true from h)
      | cons t ts => ?_
      cases ts with
      | cons _ _ => exact nomatch (show false = true from h)
      | nil => exact ⟨t, v, pos, rfl, h⟩
    exact s_asg c h
  | .setIx i kk a, X, Wx, sc, e, c, h => by
    obtain ⟨x, xp, s, sp, v, pos, rfl, h⟩ : ∃ x xp s sp v pos, e = .Assign [.Subscript (.Name x xp) s sp] v pos ∧ (nmB X.N sc i x && isE tx X.N sc kk s && isE tx X.N sc a v && notSlice s) = true := by
      cases e with
      | Assign ts v pos => ?_
      | _ => exact nomatch (show false = true from h)
      cases ts with
      | nil => exact nomatch (show false = true from h)
      | cons t ts => ?_
      cases ts with
      | cons _ _ => cases t with
        | Subscript o s sp => cases o <;> exact nomatch (show false = true from h)
        | _ => exact nomatch (show false = true from h)
      | nil => ?_
      cases t with
      | Subscript o s sp => ?_
      | _ => exact nomatch (show false = true from h)
      cases o with
      | Name x xp => exact ⟨x, xp, s, sp, v, pos, rfl, h⟩
      | _ => exact nomatch (show false = true from h)
    obtain ⟨h, h4⟩ := and_lr h
    obtain ⟨h, h3⟩ := and_lr h
    obtain ⟨h1, h2⟩ := and_lr h
    obtain ⟨n1, n2, n3, n4⟩ := c.co.vis h1
    refine PS.weak (ps_asg (sE a false c.co h3) (pg_sub (pe_var n1 n2 n3 n4) (sE kk true c.co h2) set_list ?_) ?_) fun D σ H q => wk_setIx q
    · intro v
      cases s with
      | Slice _ _ _ _ => cases h4
      | _ => rfl
    · show swapsWith v (some (.Subscript (.Name x xp) s sp)) pos.line X.env = pure false
      cases v <;> rfl
  | .setIx2 _ _ _ _, X, Wx, sc, e, c, h => by cases e <;> exact nomatch (show false = true from h)
  | .augIx _ _ _ _, X, Wx, sc, e, c, h => by cases e <;> exact nomatch (show false = true from h)
  | .app2 _ _ _, X, Wx, sc, e, c, h => by cases e <;> exact nomatch (show false = true from h)
  | .popAt _ _, X, Wx, sc, e, c, h => by cases e <;> exact nomatch (show false = true from h)
  | .app i a, X, Wx, sc, e, c, h => by
    obtain ⟨x, xp, m, ap, v, cp, pos, rfl, h⟩ : ∃ x xp m ap v cp pos, e = .Expr (.Call (.Attribute (.Name x xp) m ap) [v] [] cp) pos ∧ (decide (m = Str.ofString "append") && nmB X.N sc i x && isE tx X.N sc a v && notStar v && (ap.endLine == cp.line)) = true := by
      cases e with
      | Expr ce pos => ?_
      | _ => exact nomatch (show false = true from h)
      cases ce with
      | Call fe xs kws cp => ?_
      | _ => exact nomatch (show false = true from h)
      cases fe with
      | Attribute o m ap => ?_
      | _ => exact nomatch (show false = true from h)
      cases o with
      | Name x xp => ?_
      | _ => exact nomatch (show false = true from h)
      cases xs with
      | nil => exact nomatch (show false = true from h)
      | cons v r => ?_
      cases r with
      | cons _ _ => exact nomatch (show false = true from h)
      | nil => ?_
      cases kws with
      | cons _ _ => exact nomatch (show false = true from h)
      | nil => exact ⟨x, xp, m, ap, v, cp, pos, rfl, h⟩
    obtain ⟨h, h5⟩ := and_lr h
    obtain ⟨h, h4⟩ := and_lr h
    obtain ⟨h, h3⟩ := and_lr h
    obtain ⟨h1, h2⟩ := and_lr h
    have h1 := of_decide_eq_true h1
    subst h1
    obtain ⟨n1, n2, n3, n4⟩ := c.co.vis h2
    have s1 := star_of (es := []) (env := X.env) h4
    exact PS.weak (ps_expr (pe_bm PySem.F.plainAttrs_list PySem.F.slot_list_append PySem.F.type_list_append mt_append (pe_var n1 n2 n3 n4) (pa_cons (sE a false c.co h3) pa_nil s1) rfl (by rw [s1]; rfl) h5 s1 rfl)) fun D σ H q => wk_app q
  | .ext i a, X, Wx, sc, e, c, h => by
    obtain ⟨x, xp, m, ap, v, cp, pos, rfl, h⟩ : ∃ x xp m ap v cp pos, e = .Expr (.Call (.Attribute (.Name x xp) m ap) [v] [] cp) pos ∧ (decide (m = Str.ofString "extend") && nmB X.N sc i x && isE tx X.N sc a v && notStar v && (ap.endLine == cp.line)) = true := by
      cases e with
      | Expr ce pos => ?_
      | _ => exact nomatch (show false = true from h)
      cases ce with
      | Call fe xs kws cp => ?_
      | _ => exact nomatch (show false = true from h)
      cases fe with
      | Attribute o m ap => ?_
      | _ => exact nomatch (show false = true from h)
      cases o with
      | Name x xp => ?_
      | _ => exact nomatch (show false = true from h)
      cases xs with
      | nil => exact nomatch (show false = true from h)
      | cons v r => ?_
      cases r with
      | cons _ _ => exact nomatch (show false = true from h)
      | nil => ?_
      cases kws with
      | cons _ _ => exact nomatch (show false = true from h)
      | nil => exact ⟨x, xp, m, ap, v, cp, pos, rfl, h⟩
    obtain ⟨h, h5⟩ := and_lr h
    obtain ⟨h, h4⟩ := and_lr h
    obtain ⟨h, h3⟩ := and_lr h
    obtain ⟨h1, h2⟩ := and_lr h
    have h1 := of_decide_eq_true h1
    subst h1
    obtain ⟨n1, n2, n3, n4⟩ := c.co.vis h2
    have s1 := star_of (es := []) (env := X.env) h4
    exact PS.weak (ps_expr (pe_bm PySem.F.plainAttrs_list PySem.F.slot_list_extend PySem.F.type_list_extend mt_extend (pe_var n1 n2 n3 n4) (pa_cons (sE a false c.co h3) pa_nil s1) rfl (by rw [s1]; rfl) h5 s1 rfl)) fun D σ H q => wk_ext q
  | .ins i kk a, X, Wx, sc, e, c, h => by
    obtain ⟨x, xp, m, ap, kx, v, cp, pos, rfl, h⟩ : ∃ x xp m ap kx v cp pos, e = .Expr (.Call (.Attribute (.Name x xp) m ap) [kx, v] [] cp) pos ∧ (decide (m = Str.ofString "insert") && nmB X.N sc i x && isE tx X.N sc kk kx && isE tx X.N sc a v && notStar kx && notStar v && (ap.endLine == cp.line)) = true := by
      cases e with
      | Expr ce pos => ?_
      | _ => exact nomatch (show false = true from h)
      cases ce with
      | Call fe xs kws cp => ?_
      | _ => exact nomatch (show false = true from h)
      cases fe with
      | Attribute o m ap => ?_
      | _ => exact nomatch (show false = true from h)
      cases o with
      | Name x xp => ?_
      | _ => exact nomatch (show false = true from h)
      cases xs with
      | nil => exact nomatch (show false = true from h)
      | cons kx r => ?_
      cases r with
      | nil => exact nomatch (show false = true from h)
      | cons v r => ?_
      cases r with
      | cons _ _ => exact nomatch (show false = true from h)
      | nil => ?_
      cases kws with
      | cons _ _ => exact nomatch (show false = true from h)
      | nil => exact ⟨x, xp, m, ap, kx, v, cp, pos, rfl, h⟩
    obtain ⟨h, h7⟩ := and_lr h
    obtain ⟨h, h6⟩ := and_lr h
    obtain ⟨h, h5⟩ := and_lr h
    obtain ⟨h, h4⟩ := and_lr h
    obtain ⟨h, h3⟩ := and_lr h
    obtain ⟨h1, h2⟩ := and_lr h
    have h1 := of_decide_eq_true h1
    subst h1
    obtain ⟨n1, n2, n3, n4⟩ := c.co.vis h2
    have s1 := star_of (es := [v]) (env := X.env) h5
    have s2 := star_of (es := []) (env := X.env) h6
    exact PS.weak (ps_expr (pe_bm PySem.F.plainAttrs_list PySem.F.slot_list_insert PySem.F.type_list_insert mt_insert (pe_var n1 n2 n3 n4) (pa_cons (sE kk true c.co h3) (pa_cons (sE a false c.co h4) pa_nil s2) s1) rfl (by rw [s1, s2]; rfl) h7 s1 (by rw [s2]; rfl))) fun D σ H q => wk_ins q
  | .ex a, X, Wx, sc, e, c, h => by
    obtain ⟨v, pos, rfl, h⟩ : ∃ v pos, e = .Expr v pos ∧ (isE tx X.N sc a v && !isCompX v) = true := by
      cases e with
      | Expr v pos => exact ⟨v, pos, rfl, h⟩
      | _ => exact nomatch (show false = true from h)
    exact PS.weak (ps_expr (sE a false c.co (and_l h)) (sw_drop (by simpa using and_r h))) fun D σ H q => wk_ex q
  | .ifs t a b, X, Wx, sc, e, c, h => by
    obtain ⟨x, y, z, pos, rfl, h⟩ : ∃ x y z pos, e = .If x y z pos ∧ (isT tx X.N sc t x && isSs tx X.N fx sc a y && isSs tx X.N fx sc b z) = true := by
      cases e with
      | If x y z pos => exact ⟨x, y, z, pos, rfl, h⟩
      | _ => exact nomatch (show false = true from h)
    exact PS.weak (ps_if (sT t c.co (and_l (and_l h))) (sSs a c (and_r (and_l h))) (sSs b c (and_r h))) fun D σ H q => wk_ifs q
  | .loop tg it b, X, Wx, sc, e, c, h => by
    obtain ⟨t, i, x, pos, rfl, h⟩ : ∃ t i x pos, e = .For t i x [] pos ∧ (isTg X.N sc tg t && isIt tx X.N sc it tg i && (tgs tg).all (fun i => !fx i) && isSs tx X.N fx sc b x && notSet i) = true := by
      cases e with
      | For t i x r pos => ?_
      | _ => exact nomatch (show false = true from h)
      cases r with
      | nil => exact ⟨t, i, x, pos, rfl, h⟩
      | cons _ _ => exact nomatch (show false = true from h)
    obtain ⟨h, h5⟩ := and_lr h
    obtain ⟨h, h4⟩ := and_lr h
    obtain ⟨h, h3⟩ := and_lr h
    obtain ⟨h1, h2⟩ := and_lr h
    exact PS.weak (ps_for c.po c.co.calm (sIt it c.co (isTg_tp h1) h2) (pg_of c.co.nd c.co.calm c.co.own tg t h1 it.weak) (sSs b c h4) (fold_of h5)) fun D σ H q => wk_loop (isIt_weak h2) h3 q
  | .whl n t b, X, Wx, sc, e, c, h => by
    obtain ⟨x, y, pos, rfl, h⟩ : ∃ x y pos, e = .While x y [] pos ∧ (isT tx X.N sc t x && isSs tx X.N fx sc b y) = true := by
      cases e with
      | While x y r pos => ?_
      | _ => exact nomatch (show false = true from h)
      cases r with
      | nil => exact ⟨x, y, pos, rfl, h⟩
      | cons _ _ => exact nomatch (show false = true from h)
    exact PS.weak (ps_while c.po (sT t c.co (and_l h)) (sSs b c (and_r h))) fun D σ H q => wk_whl q
  | .ret a, X, Wx, sc, e, c, h => by
    obtain ⟨v, pos, rfl, h⟩ : ∃ v pos, e = .Return (some v) pos ∧ isE tx X.N sc a v = true := by
      cases e with
      | Return v pos => ?_
      | _ => exact nomatch (show false = true from h)
      cases v with
      | none => exact nomatch (show false = true from h)
      | some v => exact ⟨v, pos, rfl, h⟩
    exact PS.weak (ps_ret (sE a false c.co h)) fun D σ H q => wk_ret q
  | .retn, X, Wx, sc, e, c, h => by
    obtain ⟨pos, rfl⟩ : ∃ pos, e = .Return none pos := by
      cases e with
      | Return v pos => ?_
      | _ => exact nomatch (show false = true from h)
      cases v with
      | none => exact ⟨pos, rfl⟩
      | some v => exact nomatch (show false = true from h)
    exact PS.weak ps_retN fun D σ H q => wk_retn q
  | .raise ec, X, Wx, sc, e, c, h => by
    obtain ⟨x, xp, m, j, mp, cp, pos, rfl, hh⟩ : ∃ x xp m j mp cp pos, e = .Raise (some (.Call (.Name x xp) [.Constant (.str m) j mp] [] cp)) none pos ∧ (match tx.exn ec with
        | some n => glB sc x n
        | none => false) = true := by
      cases e with
      | Raise ex ca pos => ?_
      | _ => exact nomatch (show false = true from h)
      cases ex with
      | none => exact nomatch (show false = true from h)
      | some ex => ?_
      cases ex with
      | Call fe xs kws cp => ?_
      | _ => exact nomatch (show false = true from h)
      cases fe with
      | Name x xp => ?_
      | _ => exact nomatch (show false = true from h)
      cases xs with
      | nil => exact nomatch (show false = true from h)
      | cons v r => ?_
      cases r with
      | cons _ _ => cases v with
        | Constant cc _ _ => cases cc <;> exact nomatch (show false = true from h)
        | _ => exact nomatch (show false = true from h)
      | nil => ?_
      cases v with
      | Constant cc j mp => ?_
      | _ => exact nomatch (show false = true from h)
      cases cc with
      | str m => ?_
      | _ => exact nomatch (show false = true from h)
      cases kws with
      | cons _ _ => exact nomatch (show false = true from h)
      | nil => ?_
      cases ca with
      | some _ => exact nomatch (show false = true from h)
      | none => exact ⟨x, xp, m, j, mp, cp, pos, rfl, h⟩
    cases hn : tx.exn ec with
    | none => rw [hn] at hh; cases hh
    | some n => ?_
    rw [hn] at hh
    obtain ⟨rfl, hg, hd, _⟩ := c.co.gl hh
    obtain ⟨Ca, bmB, B, newId, initId, e1, e2, e3, e4, e5, e6, e7⟩ := c.mx.exg ec n hn
    refine PS.weak (ps_raise c.co.calm c.co.tk (pmk_own e3 e4 e2 e5 (raises_own e6 e7) hg hd)) fun D σ H q => ?_
    have q := wk_raise q
    rw [show (rn X C Wx).exv ec = .ref Ca from e1] at q
    exact q
  | .tryx b hs, X, Wx, sc, e, c, h => by
    obtain ⟨body, hd, hds, pos, rfl, hh⟩ : ∃ body hd hds pos, e = .Try body (hd :: hds) [] [] pos ∧ (isSs tx X.N fx sc b body && isHs tx X.N fx sc hs (hd :: hds)) = true := by
      cases e with
      | Try body hds r1 r2 pos => ?_
      | _ => exact nomatch (show false = true from h)
      cases hds with
      | nil => exact nomatch (show false = true from h)
      | cons hd hds => ?_
      cases r1 with
      | cons _ _ => exact nomatch (show false = true from h)
      | nil => ?_
      cases r2 with
      | cons _ _ => exact nomatch (show false = true from h)
      | nil => exact ⟨body, hd, hds, pos, rfl, h⟩
    obtain ⟨l, l1, l2⟩ := hs_ok (fx := fx) c (and_r hh)
    exact PS.weakL (ps_try_many (tb := fun W => tSs (rn X C W) sub fx b) c.stk c.fr c.co.tk (fun W pn xe tk po => sSs b (c.tr tk po) (and_l hh)) l1) fun D σ H hl q => wk_try hl l2 q
  | .brk, X, Wx, sc, e, c, h => by
    cases e with
    | Break pos => exact PS.weak ps_break fun D σ H q => wk_brk q
    | _ => exact nomatch (show false = true from h)
  | .cnt, X, Wx, sc, e, c, h => by
    cases e with
    | Continue pos => exact PS.weak ps_continue fun D σ H q => wk_cnt q
    | _ => exact nomatch (show false = true from h)
  | .pass, X, Wx, sc, e, c, h => by
    cases e with
    | Pass pos => exact PS.weak ps_pass fun D σ H q => wk_pass q
    | Expr v pos => ?_
    | _ => exact nomatch (show false = true from h)
    cases v with
    | Constant cc j p => ?_
    | _ => exact nomatch (show false = true from h)
    cases cc with
    | str x => exact PS.weak ps_doc fun D σ H q => wk_pass q
    | _ => exact nomatch (show false = true from h)
theorem sSs : ∀ (a : Ss) {X : L2.Cx} {Wx : WX} {sc : Scope} {e : List Stmt}, CS tx C sub k X Wx sc → isSs tx X.N fx sc a e = true → PSs X e (tSs (rn X C Wx) sub fx a)
  | .nil, X, Wx, sc, e, c, h => by
    cases e with
    | nil => exact PSs.weak pss_nil fun D σ H q => wk_ssN q
    | cons _ _ => exact nomatch (show false = true from h)
  | .cons s r, X, Wx, sc, e, c, h => by
    cases e with
    | nil => exact nomatch (show false = true from h)
    | cons x xs =>
      have h : (isS tx X.N fx sc s x && isSs tx X.N fx sc r xs) = true := h
      exact PSs.weak (pss_cons (sS s c (and_l h)) (sSs r c (and_r h))) fun D σ H q => wk_ssC q
end
end
end Ev
set_option Elab.async false
set_option linter.all false
set_option maxRecDepth 100000
set_option maxHeartbeats 1000000
namespace Ev
open PySem PySem.Spec PyProof.Rows L2 RZ
/-! ### defs -/
mutual
def D.same : D → D → Bool
  | .non, .non => true
  | .bl a, .bl b => a == b
  | .int i, .int j => decide (i = j)
  | .str s, .str t => decide (s = t)
  | .tup xs, .tup ys => D.sames xs ys
  | .lst xs, .lst ys => D.sames xs ys
  | _, _ => false
def D.sames : List D → List D → Bool
  | [], [] => true
  | x :: xs, y :: ys => D.same x y && D.sames xs ys
  | _, _ => false
end
mutual
theorem D.same_eq : ∀ {a b : D}, D.same a b = true → a = b
  | .non, b, h => by cases b <;> first | rfl | exact nomatch (show false = true from h)
  | .bl x, b, h => by
    cases b with
    | bl y => have : x = y := by simpa [D.same] using h
              rw [this]
    | _ => exact nomatch (show false = true from h)
  | .int x, b, h => by
    cases b with
    | int y => rw [show x = y from of_decide_eq_true h]
    | _ => exact nomatch (show false = true from h)
  | .str x, b, h => by
    cases b with
    | str y => rw [show x = y from of_decide_eq_true h]
    | _ => exact nomatch (show false = true from h)
  | .tup xs, b, h => by
    cases b with
    | tup ys => rw [D.sames_eq (show D.sames xs ys = true from h)]
    | _ => exact nomatch (show false = true from h)
  | .lst xs, b, h => by
    cases b with
    | lst ys => rw [D.sames_eq (show D.sames xs ys = true from h)]
    | _ => exact nomatch (show false = true from h)
theorem D.sames_eq : ∀ {a b : List D}, D.sames a b = true → a = b
  | [], [], _ => rfl
  | [], _ :: _, h => nomatch (show false = true from h)
  | _ :: _, [], h => nomatch (show false = true from h)
  | x :: xs, y :: ys, h => by
    have h : (D.same x y && D.sames xs ys) = true := h
    rw [D.same_eq (and_l h), D.sames_eq (and_r h)]
end
structure FR where
  name : String
  st : Stmt
  N : List Str
  ps : List Str
  d : FDef
structure Pg where
  tab : List (Nat × FR)
  exs : List (Nat × String)
  sub : Nat → Nat → Bool
  gl : List (String × D)
namespace Pg
def tx (p : Pg) : Txt := ⟨fun f => (p.tab.lookup f).map (·.name), fun c => p.exs.lookup c, fun x d => p.gl.any fun q => decide (q.1 = x) && D.same q.2 d⟩
def tbl (p : Pg) (f : Nat) : Option FDef := (p.tab.lookup f).map (·.d)
def io (p : Pg) (f : Nat) : List Bool := match p.tbl f with
  | some e => e.io
  | none => []
/-- the first exception's name -/
def ex0 (p : Pg) : String := match p.exs with
  | [] => ""
  | q :: _ => q.2
def exv (p : Pg) (K : PySem.W.Frag) (c : Nat) : Value := .ref (He.ga K (Str.ofString ((p.exs.lookup c).getD p.ex0)))
noncomputable def cn (p : Pg) (K : PySem.W.Frag) (n : Nat) : Cn := ⟨p.exv K, call p.tbl p.sub n, p.io⟩
end Pg
def fxOf (d : FDef) : Nat → Bool := fun i => d.io.getD i false
def FR.good (p : Pg) (r : FR) : Bool := isSs p.tx r.N (fxOf r.d) (defScope r.st) r.d.body (defBody r.st) && decide (r.d.slots = r.N.length) && decide (r.d.io.length = r.ps.length)
structure Pg.Ok (p : Pg) : Prop where
  good : ∀ (f : Nat) (r : FR), p.tab.lookup f = some r → FR.good p r = true
  sc : ∀ (f : Nat) (r : FR), p.tab.lookup f = some r → FnScope r.N r.ps (defScope r.st)
  binds : ∀ (f : Nat) (r : FR), p.tab.lookup f = some r → ∀ (kV doc pm : Value) (an : Option Addr) (cdv ct : Value) (us : List Value), us.length = r.ps.length →
    bindArgs (PySem.W.fnOf (Str.ofString r.name) (Str.ofString r.name) (defArgs r.st) (defBody r.st) (defScope r.st) .none kV doc pm an cdv ct) ⟨us, []⟩ = pure (r.ps.zip us)
structure Pg.At (p : Pg) (K : PySem.W.Frag) (mg : Str → Option Value) : Prop where
  fns : ∀ (f : Nat) (r : FR), p.tab.lookup f = some r → mg (Str.ofString r.name) = some (.ref (He.ga K (Str.ofString r.name))) ∧ ∃ fd, FunD K (Str.ofString r.name) (Str.ofString r.name) (defArgs r.st) (defBody r.st) (defScope r.st) [] [] (He.ga K (Str.ofString r.name)) fd
  blt : ∀ f, blts.contains f = true → mg (Str.ofString f) = none
  glb : ∀ q ∈ p.gl, ∃ u v, mg (Str.ofString q.1) = some u ∧ L2.RelV v u ∧ ∀ W H, RD K W H q.2 v
  exm : ∀ (c h : Nat) (n : String), p.exs.lookup h = some n → PySem.W.exmOne K (p.exv K c) (p.exv K h) = some (p.sub c h)
  exg : ∀ (c : Nat) (n : String), p.exs.lookup c = some n → mg (Str.ofString n) = some (.ref (He.ga K (Str.ofString n))) ∧ PySem.W.excIn K (He.ga K (Str.ofString n)) He.veBase "ValueError.__new__" = true ∧ PySem.W.keepIn K (.ref (He.ga K (Str.ofString n))) = true ∧
    PySem.W.subIn K (.ref (He.ga K (Str.ofString n))) (.type "BaseException") = some true ∧ PySem.W.typeIn K (.ref (He.ga K (Str.ofString n))) = some (.type "type")
/-! a def's start -/
section
variable {K : PySem.W.Frag} {W : Addr → Prop} {H : Hp}
def ownF : List Bool → List (List Addr) → Nat → List Addr
  | false :: _, _, 0 => []
  | true :: _, B :: _, 0 => B
  | false :: f, Bs, i + 1 => ownF f Bs i
  | true :: f, _ :: Bs, i + 1 => ownF f Bs i
  | _, _, _ => []
theorem RArg.len : ∀ {f : List Bool} {os : List O} {vs : List V} {Bs : List (List Addr)}, RArg K W H f os vs Bs → os.length = f.length ∧ vs.length = f.length
  | [], [], [], [], _ => ⟨rfl, rfl⟩
  | false :: f, o :: os, v :: vs, Bs, h => by
    obtain ⟨h1, h2⟩ := RArg.len (f := f) h.2.2
    exact ⟨by rw [List.length_cons, List.length_cons, h1], by rw [List.length_cons, List.length_cons, h2]⟩
  | true :: f, o :: os, v :: vs, B :: Bs, h => by
    obtain ⟨h1, h2⟩ := RArg.len (f := f) h.2
    exact ⟨by rw [List.length_cons, List.length_cons, h1], by rw [List.length_cons, List.length_cons, h2]⟩
  | [], _ :: _, _, _, h => by cases ‹List V› <;> cases ‹List (List Addr)› <;> exact h.elim
  | [], [], _ :: _, _, h => by cases ‹List (List Addr)› <;> exact h.elim
  | [], [], [], _ :: _, h => h.elim
  | false :: _, [], _, _, h => by cases ‹List V› <;> cases ‹List (List Addr)› <;> exact h.elim
  | false :: _, _ :: _, [], _, h => by cases ‹List (List Addr)› <;> exact h.elim
  | true :: _, [], _, _, h => by cases ‹List V› <;> cases ‹List (List Addr)› <;> exact h.elim
  | true :: _, _ :: _, [], _, h => by cases ‹List (List Addr)› <;> exact h.elim
  | true :: _, _ :: _, _ :: _, [], h => h.elim
theorem RArg.at_ : ∀ {f : List Bool} {os : List O} {vs : List V} {Bs : List (List Addr)}, RArg K W H f os vs Bs → ∀ {i : Nat} {o : O}, os[i]? = some o → ∃ v, vs[i]? = some v ∧ RO K W H o v (ownF f Bs i)
  | [], [], [], [], _, i, o, e => by simp at e
  | false :: f, o :: os, v :: vs, Bs, h, 0, p, e => by
    simp at e
    subst e
    exact ⟨v, by simp, h.2.1⟩
  | false :: f, o :: os, v :: vs, Bs, h, i + 1, p, e => by
    obtain ⟨w, h1, h2⟩ := RArg.at_ (f := f) h.2.2 (i := i) (o := p) (by simpa using e)
    exact ⟨w, by simpa using h1, h2⟩
  | true :: f, o :: os, v :: vs, B :: Bs, h, 0, p, e => by
    simp at e
    subst e
    exact ⟨v, by simp, h.1⟩
  | true :: f, o :: os, v :: vs, B :: Bs, h, i + 1, p, e => by
    obtain ⟨w, h1, h2⟩ := RArg.at_ (f := f) h.2 (i := i) (o := p) (by simpa using e)
    exact ⟨w, by simpa using h1, h2⟩
  | [], _ :: _, _, _, h, _, _, _ => by cases ‹List V› <;> cases ‹List (List Addr)› <;> exact h.elim
  | [], [], _ :: _, _, h, _, _, _ => by cases ‹List (List Addr)› <;> exact h.elim
  | [], [], [], _ :: _, h, _, _, _ => h.elim
  | false :: _, [], _, _, h, _, _, _ => by cases ‹List V› <;> cases ‹List (List Addr)› <;> exact h.elim
  | false :: _, _ :: _, [], _, h, _, _, _ => by cases ‹List (List Addr)› <;> exact h.elim
  | true :: _, [], _, _, h, _, _, _ => by cases ‹List V› <;> cases ‹List (List Addr)› <;> exact h.elim
  | true :: _, _ :: _, [], _, h, _, _, _ => by cases ‹List (List Addr)› <;> exact h.elim
  | true :: _, _ :: _, _ :: _, [], h, _, _, _ => h.elim
theorem ownF_mem : ∀ {f : List Bool} {Bs : List (List Addr)} {i : Nat} {a : Addr}, a ∈ ownF f Bs i → a ∈ Bs.flatten
  | false :: f, Bs, 0, a, h => by unfold ownF at h; exact absurd h (by simp)
  | true :: f, B :: Bs, 0, a, h => by unfold ownF at h; rw [List.flatten_cons]; exact List.mem_append_left _ h
  | false :: f, Bs, i + 1, a, h => by unfold ownF at h; exact ownF_mem h
  | true :: f, B :: Bs, i + 1, a, h => by unfold ownF at h; rw [List.flatten_cons]; exact List.mem_append_right _ (ownF_mem h)
  | [], _, _, a, h => by unfold ownF at h; exact absurd h (by simp)
  | true :: f, [], 0, a, h => by unfold ownF at h; exact absurd h (by simp)
  | true :: f, [], _ + 1, a, h => by unfold ownF at h; exact absurd h (by simp)
theorem ownF_nd : ∀ {f : List Bool} {Bs : List (List Addr)}, Bs.flatten.Nodup → (∀ i, (ownF f Bs i).Nodup) ∧ ∀ i j a, i ≠ j → a ∈ ownF f Bs i → a ∉ ownF f Bs j
  | [], Bs, _ => ⟨fun i => by unfold ownF; simp, fun i j a _ h => by unfold ownF at h; exact absurd h (by simp)⟩
  | false :: f, Bs, h => by
    obtain ⟨h1, h2⟩ := ownF_nd (f := f) h
    refine ⟨fun i => ?_, fun i j a hij ha => ?_⟩
    · cases i with
      | zero => unfold ownF; simp
      | succ i => unfold ownF; exact h1 i
    · cases i with
      | zero => unfold ownF at ha; exact absurd ha (by simp)
      | succ i =>
        cases j with
        | zero => unfold ownF; simp
        | succ j => unfold ownF at ha ⊢; exact h2 i j a (by omega) ha
  | true :: f, [], h => ⟨fun i => by cases i <;> (unfold ownF; simp), fun i j a _ ha => by cases i <;> (unfold ownF at ha; exact absurd ha (by simp))⟩
  | true :: f, B :: Bs, h => by
    rw [List.flatten_cons] at h
    obtain ⟨n1, n2, n3⟩ := List.nodup_append.mp h
    obtain ⟨h1, h2⟩ := ownF_nd (f := f) n2
    refine ⟨fun i => ?_, fun i j a hij ha => ?_⟩
    · cases i with
      | zero => unfold ownF; exact n1
      | succ i => unfold ownF; exact h1 i
    · cases i with
      | zero =>
        cases j with
        | zero => exact absurd rfl hij
        | succ j => unfold ownF at ha ⊢; exact fun z => n3 a ha a (ownF_mem z) rfl
      | succ i =>
        cases j with
        | zero => unfold ownF at ha ⊢; exact fun z => n3 a z a (ownF_mem ha) rfl
        | succ j => unfold ownF at ha ⊢; exact h2 i j a (by omega) ha
theorem get_start : ∀ {os : List O} {n : Nat} {i : Nat} {o : O}, get (os.map some ++ List.replicate n none) i = some o → os[i]? = some o
  | [], n, i, o, h => by
    have : ∀ n i, get (List.replicate n (none : Option O)) i = none := by
      intro n
      induction n with
      | zero => intro i; rfl
      | succ n ih => intro i; cases i with
        | zero => rfl
        | succ i => exact ih i
    rw [List.map_nil, List.nil_append, this] at h
    cases h
  | p :: os, n, 0, o, h => by
    have h : some p = some o := h
    simpa using h
  | p :: os, n, i + 1, o, h => by
    have := get_start (os := os) (n := n) (i := i) (o := o) h
    simpa using this
theorem get_startN : ∀ {os : List O} {n : Nat} {i : Nat}, get (os.map some ++ List.replicate n none) i = none → os[i]? = none
  | [], n, i, h => by simp
  | p :: os, n, 0, h => by
    have h : some p = none := h
    cases h
  | p :: os, n, i + 1, h => by
    have := get_startN (os := os) (n := n) (i := i) h
    simpa using this
theorem ownF_none : ∀ {f : List Bool} {os : List O} {vs : List V} {Bs : List (List Addr)}, RArg K W H f os vs Bs → ∀ {i : Nat}, f.length ≤ i → ownF f Bs i = []
  | [], _, _, _, _, i, _ => by unfold ownF; rfl
  | false :: f, o :: os, v :: vs, Bs, h, 0, hi => by simp at hi
  | false :: f, o :: os, v :: vs, Bs, h, i + 1, hi => by
    unfold ownF
    exact ownF_none (f := f) h.2.2 (by simpa using hi)
  | true :: f, o :: os, v :: vs, B :: Bs, h, 0, hi => by simp at hi
  | true :: f, o :: os, v :: vs, B :: Bs, h, i + 1, hi => by
    unfold ownF
    exact ownF_none (f := f) h.2 (by simpa using hi)
  | false :: _, [], _, _, h, _, _ => by cases ‹List V› <;> cases ‹List (List Addr)› <;> exact h.elim
  | false :: _, _ :: _, [], _, h, _, _ => by cases ‹List (List Addr)› <;> exact h.elim
  | true :: _, [], _, _, h, _, _ => by cases ‹List V› <;> cases ‹List (List Addr)› <;> exact h.elim
  | true :: _, _ :: _, [], _, h, _, _ => by cases ‹List (List Addr)› <;> exact h.elim
  | true :: _, _ :: _, _ :: _, [], h, _, _ => h.elim
theorem start_sat {d : FDef} {N : List Str} {os : List O} {vs : List V} {Bs : List (List Addr)} (r : RArg K W H d.io os vs Bs) (hs : d.slots = N.length) (nd : Bs.flatten.Nodup) (sep : ∀ a ∈ Bs.flatten, ¬ W a) (dm : Dom W H) :
    (hn : os.length ≤ N.length) → Sat K W H (d.start os) (L2.start N vs) (ownF d.io Bs) := fun hn => by
  obtain ⟨l1, l2⟩ := r.len
  obtain ⟨n1, n2⟩ := ownF_nd (f := d.io) nd
  refine ⟨by unfold FDef.start L2.start; rw [List.length_append, List.length_append, List.length_map, List.length_map, List.length_replicate, List.length_replicate, hs, l1, l2], fun i o e => ?_, fun i e => ?_, n1, n2, fun i a ha => sep a (ownF_mem ha), dm⟩
  · have e2 := get_start e
    obtain ⟨v, hv, ro⟩ := r.at_ e2
    refine ⟨v, ?_, ro⟩
    unfold L2.start
    have hi : i < vs.length := (List.getElem?_eq_some_iff.mp hv).1
    rw [List.getElem?_append_left (by rw [List.length_map]; exact hi), List.getElem?_map, hv]
    rfl
  · have e2 := get_startN e
    refine ownF_none r ?_
    rw [← l1]
    simpa using e2
/-- the lent slots' own -/
def pick : List Bool → (Nat → List Addr) → List (List Addr)
  | [], _ => []
  | false :: f, A => pick f fun i => A (i + 1)
  | true :: f, A => A 0 :: pick f fun i => A (i + 1)
theorem pick_mem : ∀ {f : List Bool} {A : Nat → List Addr} {a : Addr}, a ∈ (pick f A).flatten → ∃ i, a ∈ A i
  | [], A, a, h => by unfold pick at h; exact absurd h (by simp)
  | false :: f, A, a, h => by
    unfold pick at h
    obtain ⟨i, hi⟩ := pick_mem h
    exact ⟨i + 1, hi⟩
  | true :: f, A, a, h => by
    unfold pick at h
    rw [List.flatten_cons] at h
    rcases List.mem_append.mp h with h | h
    · exact ⟨0, h⟩
    · obtain ⟨i, hi⟩ := pick_mem h
      exact ⟨i + 1, hi⟩
theorem pick_mem1 : ∀ {f : List Bool} {A : Nat → List Addr} {a : Addr}, a ∈ (pick f fun i => A (i + 1)).flatten → ∃ i, i ≠ 0 ∧ a ∈ A i := fun {f A a} h => by
  obtain ⟨i, hi⟩ := pick_mem h
  exact ⟨i + 1, by omega, hi⟩
theorem pick_nd : ∀ {f : List Bool} {A : Nat → List Addr}, (∀ i, (A i).Nodup) → (∀ i j a, i ≠ j → a ∈ A i → a ∉ A j) → (pick f A).flatten.Nodup
  | [], A, _, _ => by unfold pick; simp
  | false :: f, A, h1, h2 => by
    unfold pick
    exact pick_nd (fun i => h1 (i + 1)) fun i j a hij => h2 (i + 1) (j + 1) a (by omega)
  | true :: f, A, h1, h2 => by
    unfold pick
    rw [List.flatten_cons]
    refine List.nodup_append.mpr ⟨h1 0, pick_nd (fun i => h1 (i + 1)) fun i j a hij => h2 (i + 1) (j + 1) a (by omega), fun a ha b hb e => ?_⟩
    subst e
    obtain ⟨i, hi, hb⟩ := pick_mem1 hb
    exact h2 0 i a (Ne.symm hi) ha hb
theorem ios_at : ∀ {f : List Bool} {env : Env} {σ : L2.St} {vs : List V} {ios : List O} {A : Nat → List Addr}, iosOf f env = some ios → (∀ i o, get env i = some o → ∃ v, σ[i]? = some (some v) ∧ RO K W H o v (A i)) →
    (∀ i v, f.getD i false = true → vs[i]? = some v → σ[i]? = some (some v)) → f.length = vs.length → RIo K W H ios (lentV f vs) (pick f A)
  | [], env, σ, vs, ios, A, h, _, _, hl => by
    unfold iosOf at h
    cases h
    cases vs with
    | nil => trivial
    | cons _ _ => simp at hl
  | false :: f, env, σ, vs, ios, A, h, h1, h2, hl => by
    cases vs with
    | nil => simp at hl
    | cons v vs => ?_
    cases env with
    | nil => unfold iosOf at h; cases h
    | cons x env => ?_
    unfold iosOf at h
    exact ios_at (σ := σ.drop 1) (A := fun i => A (i + 1)) h (fun i o e => by
      obtain ⟨w, e1, e2⟩ := h1 (i + 1) o e
      exact ⟨w, by rw [List.getElem?_drop, Nat.add_comm]; exact e1, e2⟩) (fun i w e1 e2 => by
      rw [List.getElem?_drop, Nat.add_comm]
      exact h2 (i + 1) w (by simpa using e1) (by simpa using e2)) (by simpa using hl)
  | true :: f, env, σ, vs, ios, A, h, h1, h2, hl => by
    cases vs with
    | nil => simp at hl
    | cons v vs => ?_
    cases env with
    | nil => unfold iosOf at h; cases h
    | cons x env => ?_
    cases x with
    | none => unfold iosOf at h; cases h
    | some o => ?_
    unfold iosOf at h
    split at h
    · cases h
    · simp only [Option.map_eq_some_iff] at h
      obtain ⟨is, h, rfl⟩ := h
      refine ⟨?_, ios_at (σ := σ.drop 1) (A := fun i => A (i + 1)) h (fun i o e => by
        obtain ⟨w, e1, e2⟩ := h1 (i + 1) o e
        exact ⟨w, by rw [List.getElem?_drop, Nat.add_comm]; exact e1, e2⟩) (fun i w e1 e2 => by
        rw [List.getElem?_drop, Nat.add_comm]
        exact h2 (i + 1) w (by simpa using e1) (by simpa using e2)) (by simpa using hl)⟩
      obtain ⟨w, e1, e2⟩ := h1 0 o rfl
      have e3 := h2 0 v rfl rfl
      rw [e1] at e3
      cases e3
      exact e2
end
section
variable {P : Program} {w : World} {K : PySem.W.Frag} {mg : Str → Option Value} {base : Heap} {p : Pg}
theorem fnOk (ok : p.Ok) (at_ : p.At K mg) : ∀ (n f : Nat) (r : FR) (fd : FuncData), p.tab.lookup f = some r → FunD K (Str.ofString r.name) (Str.ofString r.name) (defArgs r.st) (defBody r.st) (defScope r.st) [] [] (He.ga K (Str.ofString r.name)) fd →
    FnOk P w K mg base (L2.CX P w) n (He.ga K (Str.ofString r.name)) fd r.ps (spF ⟨K, p.exv K, fun _ _ _ _ => False, call p.tbl p.sub n, p.io⟩ f)
  | 0, f, r, fd, _, _ => by
    have no : ∀ vs H Q E, ¬ spF ⟨K, p.exv K, fun _ _ _ _ => False, call p.tbl p.sub 0, p.io⟩ f vs H Q E := fun vs H Q E ⟨W, os, Bs, _, _, _, _, h⟩ => h
    exact ⟨fun vs H Q E h => (no vs H Q E h).elim, fun A outer s H args us vs Q E _ _ _ _ h => (no vs H Q E h).elim⟩
  | n + 1, f, r, fd, hr, F => by
    have hg := ok.good f r hr
    obtain ⟨hg, g3⟩ := and_lr hg
    obtain ⟨g1, g2⟩ := and_lr hg
    have g2 := of_decide_eq_true g2
    have g3 := of_decide_eq_true g3
    have sc := ok.sc f r hr
    have tb : p.tbl f = some r.d := by unfold Pg.tbl; rw [hr]; rfl
    have hio : p.io f = r.d.io := by unfold Pg.io; rw [tb]
    refine FunD.ok F sc (fun vs H Q E ⟨W, os, Bs, _, ra, _⟩ => ?_) fun cdv A outer s H vs Q E rm h => ?_
    · have := ra.len.2
      rw [this]
      show (p.io f).length = _
      rw [hio, g3]
    generalize hX : cxOf (L2.CX P w) P w K mg base r.N (Str.ofString r.name) (defScope r.st) (He.ga K (Str.ofString r.name)) cdv A outer s H E = X
    have Xxe : X.xe = fun e s' => wpAny (model X.prog X.w) X.A (leaving X.env e) (fun _ s'' => L2.CX X.prog X.w X.outer X.H_0 X.s_0 E e s'') (fun e' s'' => L2.CX X.prog X.w X.outer X.H_0 X.s_0 E e' s'') s' := by subst hX; rfl
    have cs : CS p.tx (p.cn K n) p.sub n X (fun cls d _ H => E cls d H) (defScope r.st) := by
      refine ⟨⟨by subst hX; exact sc.nd, by subst hX; rfl, fun x hx => ?_, by subst hX; rfl, by subst hX; exact rm, takes_of (by subst hX; rfl) (by subst hX; rfl) (by subst hX; rfl) Xxe, ⟨fun f hf => by subst hX; exact at_.blt f hf, fun f d hd => ?_, fun g m hm => ?_⟩⟩, sc.kind, passes_of Xxe, by subst hX; rfl, by subst hX; rfl, ⟨fun c h n hn => by subst hX; exact at_.exm c h n hn, fun c m hm => ?_⟩⟩
      · subst hX
        unfold ownB at hx
        split at hx
        · rename_i e; exact ⟨.inl e, .inl rfl⟩
        · rename_i e; exact ⟨.inr e, .inl rfl⟩
        · cases hx
      · obtain ⟨q, hq, e⟩ := List.any_eq_true.mp (show p.gl.any _ = true from hd)
        have e1 := of_decide_eq_true (and_l e)
        have e2 := D.same_eq (and_r e)
        subst e1
        subst e2
        subst hX
        exact at_.glb q hq
      · have hm : (p.tab.lookup g).map (·.name) = some m := hm
        cases e : p.tab.lookup g with
        | none => rw [e] at hm; cases hm
        | some r2 =>
          rw [e] at hm
          cases hm
          obtain ⟨m1, fd2, F2⟩ := at_.fns g r2 e
          subst hX
          exact ⟨_, fd2, r2.ps, m1, F2.kp, FunD.bindsN F2 (ok.binds g r2 e), fnOk ok at_ n g r2 fd2 e F2⟩
      · have hm2 : p.exs.lookup c = some m := hm
        obtain ⟨m1, m2, m3, m4, m5⟩ := at_.exg c m hm2
        subst hX
        refine ⟨_, _, _, _, _, ?_, m1, PySem.F.excBase_ValueError, m2, m3, m4, m5⟩
        show Value.ref (He.ga K (Str.ofString ((p.exs.lookup c).getD _))) = _
        rw [hm2]
        rfl
    obtain ⟨W, os, Bs, dm, ra, nd, sep, h⟩ := h
    have ra : RArg K W H r.d.io os vs Bs := by rw [← hio]; exact ra
    have hos : os.length = r.d.io.length := ra.len.1
    have hvs : vs.length = r.d.io.length := ra.len.2
    have hpN : r.ps.length ≤ r.N.length := by have := congrArg List.length sc.pre; rw [List.length_take] at this; omega
    have S := start_sat (N := r.N) ra g2 nd sep dm (by rw [hos, g3]; exact hpN)
    have hbody : isSs p.tx X.N (fxOf r.d) (defScope r.st) r.d.body (defBody r.st) = true := by subst hX; exact g1
    refine ⟨_, sSs (fx := fxOf r.d) r.d.body cs hbody, W, r.d.start os, ownF r.d.io Bs, by subst hX; exact S, ?_⟩
    have hcall : call p.tbl p.sub (n + 1) f os = finish r.d (exes (call p.tbl p.sub n) p.io p.sub r.d.body (r.d.start os)) := by
      rw [call, tb]
      simp only [hos, if_true]
      rfl
    simp only [hcall] at h
    have fixed : ∀ {σ' : L2.St}, Fx (fxOf r.d) (L2.start r.N vs) σ' → ∀ i v, r.d.io.getD i false = true → vs[i]? = some v → σ'[i]? = some (some v) := fun {σ'} fx i v e1 e2 => by
      rw [fx.2 i e1]
      unfold L2.start
      have hi : i < vs.length := (List.getElem?_eq_some_iff.mp e2).1
      rw [List.getElem?_append_left (by rw [List.length_map]; exact hi), List.getElem?_map, e2]
      rfl
    have beh : ∀ {env : Env} {ios : List O} {W' : Addr → Prop} {H' : Hp} {A' : Nat → List Addr} {σ' : L2.St}, iosOf r.d.io env = some ios → Tr W H (Owns (ownF r.d.io Bs)) W' H' (Owns A') → Sat K W' H' env σ' A' → Fx (fxOf r.d) (L2.start r.N vs) σ' →
        Beh K W H Bs ios (lentV (p.io f) vs) W' H' (pick r.d.io A') := fun {env ios W' H' A' σ'} e t S' fx => by
      refine ⟨t.sub (fun a ⟨i, h⟩ => ownF_mem h) fun a h => pick_mem h, ?_, pick_nd S'.nd S'.dj, fun a ha => let ⟨i, h⟩ := pick_mem ha; S'.sep i a h, S'.dom⟩
      rw [hio]
      exact ios_at e S'.at_ (fixed fx) hvs.symm
    have e0 : exes (rn X (p.cn K n) fun cls d _ H => E cls d H).cl (rn X (p.cn K n) fun cls d _ H => E cls d H).io p.sub r.d.body (r.d.start os) = exes (call p.tbl p.sub n) p.io p.sub r.d.body (r.d.start os) := rfl
    rw [e0]
    have eK : (rn X (p.cn K n) fun cls d _ H => E cls d H).K = K := by subst hX; rfl
    cases e : exes (call p.tbl p.sub n) p.io p.sub r.d.body (r.d.start os) with
    | nx env =>
      simp only [e, finish] at h
      intro W' H' A' σ' t S' fx
      rw [eK] at S'
      cases ei : iosOf r.d.io env with
      | none => rw [ei] at h; exact h.elim
      | some ios =>
        rw [ei] at h
        exact h .non W' H' [] _ (beh ei t S' fx) (ro_sh (by simp [RD])) .nil fun a ha => absurd ha (by simp)
    | rt o env =>
      simp only [e, finish] at h
      intro W' H' A' σ' v B t S' fx V
      rw [eK] at S' V
      cases ei : iosOf r.d.io env with
      | none => rw [ei] at h; exact h.elim
      | some ios =>
        rw [ei] at h
        refine h v W' H' B _ (beh ei t S' fx) V.ro (V.nd rfl) fun a ha => ?_
        obtain ⟨s1, s2, s3⟩ := V.sep rfl a ha
        exact ⟨s1, fun z => s2 (pick_mem z), s3.imp (fun ⟨i, h⟩ => ownF_mem h) id⟩
    | exc c env =>
      simp only [e, finish] at h
      intro W' H' A' σ' t S' fx
      rw [eK] at S'
      cases ei : iosOf r.d.io env with
      | none => rw [ei] at h; exact h.elim
      | some ios =>
        rw [ei] at h
        exact h W' H' _ (beh ei t S' fx)
    | bk env => simp only [e, finish] at h
    | ct env => simp only [e, finish] at h
    | bad => simp only [e, finish] at h
end
end Ev
set_option Elab.async false
set_option linter.all false
set_option maxRecDepth 100000
set_option maxHeartbeats 1000000
namespace Ev
open PySem PySem.Spec PyProof.Rows L2 RZ
/-! ### the head -/
theorem mem_lk {β : Type} : ∀ {l : List (Nat × β)} {a : Nat} {b : β}, l.lookup a = some b → (a, b) ∈ l
  | [], _, _, h => by cases h
  | (c, x) :: r, a, b, h => by
    rw [List.lookup_cons] at h
    cases e : a == c with
    | true =>
      rw [e] at h
      have e : a = c := by simpa using e
      subst e
      cases h
      exact List.mem_cons_self
    | false => rw [e] at h; exact List.mem_cons_of_mem _ (mem_lk h)
mutual
def valB (K : PySem.W.Frag) : D → Value → Bool
  | .non, .none => true
  | .bl b, .bool c => b == c
  | .int i, .int j _ => decide (i = j)
  | .str s, .str x _ => decide (x = Str.ofString s)
  | .tup ds, .ref a => match K.lookup a with
    | some ⟨.type c, none, .seq its _, _⟩ => decide (c = "tuple") && (decide (its.size ≤ sizeLine) && valsB K ds its.toList)
    | _ => false
  | _, _ => false
def valsB (K : PySem.W.Frag) : List D → List Value → Bool
  | [], [] => true
  | d :: ds, v :: vs => valB K d v && valsB K ds vs
  | _, _ => false
end
mutual
theorem valB_ok {K : PySem.W.Frag} : ∀ {d : D} {u : Value}, valB K d u = true → ∃ v, L2.RelV v u ∧ ∀ W H, RD K W H d v
  | .non, u, h => by
    cases u with
    | none => exact ⟨.non, rfl, fun _ _ => by simp [RD]⟩
    | _ => exact nomatch (show false = true from h)
  | .bl b, u, h => by
    cases u with
    | bool c =>
      have e : b = c := by simpa [valB] using h
      exact ⟨.bl b, by rw [e]; rfl, fun _ _ => by simp [RD]⟩
    | _ => exact nomatch (show false = true from h)
  | .int i, u, h => by
    cases u with
    | int j t =>
      have e : i = j := of_decide_eq_true h
      exact ⟨.int i, ⟨t, by rw [e]⟩, fun _ _ => by simp [RD]⟩
    | _ => exact nomatch (show false = true from h)
  | .str s, u, h => by
    cases u with
    | str x t =>
      have e : x = Str.ofString s := of_decide_eq_true h
      exact ⟨.str x, ⟨t, rfl⟩, fun _ _ => by simp [RD, e]⟩
    | _ => exact nomatch (show false = true from h)
  | .lst _, u, h => by cases u <;> exact nomatch (show false = true from h)
  | .tup ds, u, h => by
    cases u with
    | ref a => ?_
    | _ => exact nomatch (show false = true from h)
    have h : (match K.lookup a with
      | some ⟨.type c, none, .seq its _, _⟩ => decide (c = "tuple") && (decide (its.size ≤ sizeLine) && valsB K ds its.toList)
      | _ => false) = true := h
    cases e : K.lookup a with
    | none => rw [e] at h; cases h
    | some o => ?_
    rw [e] at h
    obtain ⟨cl, dc, dt, sl⟩ := o
    cases cl with
    | type c => ?_
    | _ => cases dc <;> cases dt <;> cases h
    cases dc with
    | some _ => cases dt <;> cases h
    | none => ?_
    cases dt with
    | seq its n => ?_
    | _ => cases h
    obtain ⟨h1, h2⟩ := and_lr h
    obtain ⟨h2, h3⟩ := and_lr h2
    have h1 := of_decide_eq_true h1
    subst h1
    obtain ⟨vs, r, hv⟩ := valsB_ok h3
    exact ⟨.ref a, rfl, fun W H => by simp only [RD]; exact ⟨a, vs, rfl, .inr ⟨_, its, n, e, rfl, rfl, rfl, of_decide_eq_true h2, r⟩, hv W H⟩⟩
theorem valsB_ok {K : PySem.W.Frag} : ∀ {ds : List D} {us : List Value}, valsB K ds us = true → ∃ vs, Vals vs us ∧ ∀ W H, RDs K W H ds vs
  | [], [], _ => ⟨[], .nil, fun _ _ => RDs.nil⟩
  | [], _ :: _, h => nomatch (show false = true from h)
  | _ :: _, [], h => nomatch (show false = true from h)
  | d :: ds, u :: us, h => by
    have h : (valB K d u && valsB K ds us) = true := h
    obtain ⟨v, r, hv⟩ := valB_ok (and_l h)
    obtain ⟨vs, rs, hvs⟩ := valsB_ok (and_r h)
    exact ⟨v :: vs, .cons r rs, fun W H => RDs.cons (hv W H) (hvs W H)⟩
end
def glbB (K : PySem.W.Frag) (q : String × D) : Bool := match PySem.W.nsIn K mainGlobals (Str.ofString q.1) with
  | some (some v) => valB K q.2 v
  | _ => false
namespace Pg
def fas (p : Pg) : List He.Fa := blts.map (fun f => .free (Str.ofString f)) ++ p.tab.map (fun r => .glo (Str.ofString r.2.name)) ++ p.exs.map (fun x => .glo (Str.ofString x.2)) ++ p.exs.map (fun x => .exc (Str.ofString x.2))
def exB (p : Pg) (K : PySem.W.Frag) : Bool := (p.gl.all (glbB K)) && (p.exs.all fun c => p.exs.all fun h => decide (PySem.W.exmOne K (p.exv K c.1) (p.exv K h.1) = some (p.sub c.1 h.1)))
def dOf (r : FR) : He.DefD := ⟨(Str.ofString r.name, none), Str.ofString r.name, Str.ofString r.name, defArgs r.st, defBody r.st, defScope r.st, [], []⟩
def fn (p : Pg) : List He.DefD := p.tab.map fun q => dOf q.2
end Pg
/-- the Hook -/
def obsE (n : Nat) (p : Pg) (g : Addr → Option Obj) : Bool × He.AlD := (p.exB (He.frG g (He.asD g n)), He.obsDG n p.fas p.fn g)
def hookE (n : Nat) (p : Pg) : PySem.W.Hook where
  α := Bool × He.AlD
  obs := fun s => obsE n p s.heap.get?
  val := fun _ => (true, He.valD p.fn)
  says := fun _ h => ∃ K : PySem.W.Frag, K.In h ∧ p.exB K = true ∧ He.SaysD p.fas p.fn K
  of := fun _ _ e => ⟨_, He.frG_in, congrArg (fun z : Bool × He.AlD => z.1) e, congrArg (fun z : Bool × He.AlD => z.2) e⟩
  keeps := fun _ _ _ ⟨K, hK, c⟩ k => ⟨K, PySem.W.Frag.In.keeps hK k, c⟩
theorem obsE_eq {n : Nat} {p : Pg} {g : Addr → Option Obj} {s : Shared} (h : ∀ a, g a = s.heap.get? a) : obsE n p g = (hookE n p).obs s := by
  have e : g = s.heap.get? := funext h
  rw [e] <;> rfl
theorem at_of {p : Pg} {K : PySem.W.Frag} {h : Heap} {mg : Str → Option Value} (X : K.In h) (G : h.Ns mainGlobals mg) (hx : p.exB K = true) (c : He.SaysD p.fas p.fn K) (clamp : ∀ c q r, p.exs = q :: r → p.exs.lookup c = none → p.sub c = p.sub q.1) : p.At K mg := by
  obtain ⟨x1, x2⟩ := and_lr hx
  have fact : ∀ {f : He.Fa}, f ∈ p.fas → f.ok K = true := fun {f} hf => by
    obtain ⟨i, hi, e⟩ := List.mem_iff_getElem.mp hf
    exact c.fact i (f := f) (by rw [List.getElem?_eq_getElem hi, e])
  have defs : ∀ {d : He.DefD}, d ∈ p.fn → ∃ fd, FunD K d.name d.qual d.params d.body d.scope (d.dvs K) (d.kws K) (He.fAd K d.at_) fd := fun {d} hd => by
    obtain ⟨i, hi, e⟩ := List.mem_iff_getElem.mp hd
    exact c.def_ i (d := d) (by rw [List.getElem?_eq_getElem hi, e])
  refine ⟨fun f r hr => ?_, fun f hf => ?_, fun q hq => ?_, fun cc h n hn => ?_, fun cc n hn => ?_⟩
  · have hm : (f, r) ∈ p.tab := mem_lk hr
    refine ⟨He.glo_ok X G (fact ?_), ?_⟩
    · unfold Pg.fas
      exact List.mem_append_left _ (List.mem_append_left _ (List.mem_append_right _ (List.mem_map_of_mem (f := fun r : Nat × FR => He.Fa.glo (Str.ofString r.2.name)) hm)))
    · exact defs (d := Pg.dOf r) (List.mem_map_of_mem (f := fun q : Nat × FR => Pg.dOf q.2) hm)
  · refine He.free_ok X G (fact ?_)
    unfold Pg.fas
    have hm : f ∈ blts := by simpa using hf
    exact List.mem_append_left _ (List.mem_append_left _ (List.mem_append_left _ (List.mem_map_of_mem (f := fun f => He.Fa.free (Str.ofString f)) hm)))
  · have := List.all_eq_true.mp x1 q hq
    unfold glbB at this
    split at this
    · rename_i v e
      obtain ⟨x, r, hv⟩ := valB_ok this
      exact ⟨v, x, PySem.W.mg_of X G e, r, hv⟩
    · cases this
  · have hh : (h, n) ∈ p.exs := mem_lk hn
    have key : ∀ c m, (c, m) ∈ p.exs → PySem.W.exmOne K (p.exv K c) (p.exv K h) = some (p.sub c h) := fun c m hc => by
      have := List.all_eq_true.mp (List.all_eq_true.mp x2 _ hc) _ hh
      exact of_decide_eq_true this
    cases hc : p.exs.lookup cc with
    | some m => exact key cc m (mem_lk hc)
    | none =>
      cases e : p.exs with
      | nil => rw [e] at hh; exact absurd hh (by simp)
      | cons q r =>
        have hq : (q.1, q.2) ∈ p.exs := by rw [e]; exact List.mem_cons_self
        have e1 : p.exv K cc = p.exv K q.1 := by
          unfold Pg.exv Pg.ex0
          rw [hc, e]
          simp [List.lookup]
        rw [e1, clamp cc q r e hc]
        exact key q.1 q.2 hq
  · have hm : (cc, n) ∈ p.exs := mem_lk hn
    have f1 := fact (f := .glo (Str.ofString n)) (by unfold Pg.fas; exact List.mem_append_left _ (List.mem_append_right _ (List.mem_map_of_mem (f := fun f : Nat × String => He.Fa.glo (Str.ofString f.2)) hm)))
    have f2 := fact (f := .exc (Str.ofString n)) (by unfold Pg.fas; exact List.mem_append_right _ (List.mem_map_of_mem (f := fun f : Nat × String => He.Fa.exc (Str.ofString f.2)) hm))
    exact ⟨He.glo_ok X G f1, He.exc_ok f2⟩
/-- the law's def answers True, where the evaluator says so -/
theorem law_sp {p : Pg} {K : PySem.W.Frag} {n f : Nat} {H : Hp} {a : Addr} {ns : List Int} (hio : p.io f = [false]) (hs : SqL K H a (ns.map V.int)) (h : call p.tbl p.sub n f [.scr ns] = .ret (.sh (.bl true)) []) :
    spF ⟨K, p.exv K, fun _ _ _ _ => False, call p.tbl p.sub n, p.io⟩ f [.ref a] H (fun v _ => v = .bl true) fun _ _ _ => False := by
  refine ⟨fun b => b = a ∧ H b ≠ none, [.scr ns], [], fun b hb => hb.2, ?_, by simp, fun a h => absurd h (by simp), ?_⟩
  · show RArg K _ H (p.io f) _ _ _
    rw [hio]
    refine ⟨rfl, ?_, trivial⟩
    simp only [RO, and_true]
    refine ⟨a, rfl, ?_⟩
    rcases hs with hs | hs
    · refine .inl ⟨⟨rfl, ?_⟩, hs⟩
      rcases hs with h | ⟨o, h⟩ <;> (rw [h]; simp)
    · exact .inr hs
  · show (match call p.tbl p.sub n f [.scr ns] with
      | .ret o ios => _
      | .exc c ios => _
      | .bad => False)
    rw [h]
    intro v W' H' B Bs' _ ro _ _
    simp only [RO, RD] at ro
    exact ro.1
theorem walk_ofX {l : PySem.W.OpenLaw} {n k : Nat} {q : Program} {loose : List Str} {XP : (Str → Option Value) → Heap → Prop} {YP : World → Heap → Prop} {d : DefRec} {CX : World → CXT} {x : Str}
    (hn : l.most = some n) (hn2 : n ≤ sizeLine) (hdf : d.params.defaults = []) (hr : Room k callerA)
    (F : ∀ (w : World) (mg : Str → Option Value) (fa : Addr) (h : Heap), YP w h → h.Ns mainGlobals mg → mg d.name = some (.ref fa) →
      ∃ (K : PySem.W.Frag) (fd : FuncData) (sp : Sp), K.In h ∧ (∀ (s : Shared) (u : Value), BindsTo s fd ⟨[u], []⟩ [(x, u)]) ∧
        (∀ (H : Hp) (a : Addr) (ns : List Int), ns.length ≤ n → Only H → SqL K H a (ns.map V.int) → sp [.ref a] H (fun v _ => v = .bl true) fun _ _ _ => False) ∧
        ∀ base : Heap, K.In base → base.Ns mainGlobals mg → FnOk l.prog w K mg base (CX w) k fa fd [x] sp)
    (hCX : ∀ (w : World) (H : Hp) (s : Shared) (e : Value) (s' : Shared), CX w [] H s (fun _ _ _ => False) e s' → False) :
    PySem.W.WalkO q loose XP YP l.row.toRowW d [] (fun f vs => PySem.call f vs) := by
  refine Att.attach_call hn hdf fun w s₀ s₁ mg mb fa o pm cd doc a vs ns G Y ho hd hcd hmg hobj hints hlen hg => ?_
  obtain ⟨K, fd, sp, KX, hb, hsp, hF⟩ := F w mg fa _ Y G.T.g hmg
  exact law_call KX G.T.g G.T.b G.T.builtins G.T.nolimit hg hobj hints (Nat.le_trans hlen hn2) hr hF hb (fun H hO hS => hsp H a ns hlen hO hS) fun H e s' => hCX w H s₁ e s'
/-- the law's walk, from the evaluator's answer -/
theorem law_walk {l : PySem.W.OpenLaw} {q : Program} {loose : List Str} {XP : (Str → Option Value) → Heap → Prop} {d : DefRec} {p : Pg} {n k f : Nat} {r : FR} (hn : l.most = some n) (hn2 : n ≤ sizeLine) (hdf : d.params.defaults = []) (hr : Room k callerA)
    (ok : p.Ok) (clamp : ∀ c q r, p.exs = q :: r → p.exs.lookup c = none → p.sub c = p.sub q.1) (hf : p.tab.lookup f = some r) (hps : r.ps = [Str.ofString "script"]) (hio : p.io f = [false]) (hnm : d.name = Str.ofString r.name)
    (main : ∀ ns : List Int, ns.length ≤ n → call p.tbl p.sub k f [.scr ns] = .ret (.sh (.bl true)) []) {m : Nat} :
    PySem.W.WalkO q loose XP (hookE m p).says l.row.toRowW d [] (fun f vs => PySem.call f vs) := by
  refine walk_ofX (l := l) (n := n) (k := k) (x := Str.ofString "script") (CX := fun w => L2.CX l.prog w) hn hn2 hdf hr ?_ fun w H s e s' ⟨_, _, _, _, _, _, _, _, _, _, _, _, h⟩ => h
  intro w mg fa h Y G hmg
  obtain ⟨K, KX, hx, c⟩ := Y
  have A := at_of KX G hx c clamp
  obtain ⟨m1, fd, F⟩ := A.fns f r hf
  rw [hnm, m1] at hmg
  cases hmg
  refine ⟨K, fd, _, KX, fun s v => ?_, fun H a ns hl _ hS => law_sp hio hS (main ns hl), fun base _ _ => ?_⟩
  · have := FunD.bindsA F (ok.binds f r hf) s [v] (by rw [hps]; rfl)
    rw [hps] at this
    exact this
  · have := fnOk (P := l.prog) (w := w) (base := base) ok A k f r fd hf F
    rw [hps] at this
    exact this
end Ev
set_option linter.all false
set_option maxRecDepth 100000
namespace Lw
open Ev
def f_is_integer : FDef := ⟨[false], 1, (.cons (.ret (.and (.cons (.un .isInt (.var 0)) (.cons (.not (.un .isBool (.var 0))) .nil)))) .nil)⟩
@[simp] theorem io_is_integer : f_is_integer.io = [false] := rfl
def f_is_below : FDef := ⟨[false, false], 2, (.cons (.ret (.and (.cons (.call 0 (.cons (.var 0) .nil)) (.cons (.chain .le .lt (.lit (.int 0)) (.var 0) (.var 1)) .nil)))) .nil)⟩
@[simp] theorem io_is_below : f_is_below.io = [false, false] := rfl
def f_is_row : FDef := ⟨[false, false, false], 3, (.cons (.ret (.and (.cons (.un .isTuple (.var 0)) (.cons (.chain .le .le (.var 1) (.un .len (.var 0)) (.var 2)) .nil)))) .nil)⟩
@[simp] theorem io_is_row : f_is_row.io = [false, false, false] := rfl
def f_is_hall : FDef := ⟨[false, false], 2, (.cons (.ret (.or (.cons (.un .isNone (.var 0)) (.cons (.call 1 (.cons (.var 0) (.cons (.var 1) .nil))) .nil)))) .nil)⟩
@[simp] theorem io_is_hall : f_is_hall.io = [false, false] := rfl
def f_is_source : FDef := ⟨[false, false], 2, (.cons (.ret (.or (.cons (.bin .eq (.var 0) (.glob "MEMORY" (.tup [(.str "memory")]))) (.cons (.bin .eq (.var 0) (.glob "WRITTEN" (.tup [(.str "written")]))) (.cons (.call 5 (.cons (.var 0) (.cons (.var 1) .nil))) .nil))))) .nil)⟩
@[simp] theorem io_is_source : f_is_source.io = [false, false] := rfl
def f_is_in : FDef := ⟨[false, false], 2, (.cons (.ret (.and (.cons (.call 2 (.cons (.var 0) (.cons (.lit (.int 2)) (.cons (.lit (.int 2)) .nil)))) (.cons (.bin .eq (.sub (.var 0) (.lit (.int 0))) (.lit (.str "in"))) (.cons (.call 1 (.cons (.sub (.var 0) (.lit (.int 1))) (.cons (.var 1) .nil))) .nil))))) .nil)⟩
@[simp] theorem io_is_in : f_is_in.io = [false, false] := rfl
def f_has_form : FDef := ⟨[false, false, false], 4, (.cons (.ifs (.or (.cons (.not (.e (.call 2 (.cons (.var 0) (.cons (.lit (.int 2)) (.cons (.lit (.int 2)) .nil)))))) (.cons (.not (.e (.call 3 (.cons (.sub (.var 0) (.lit (.int 0))) (.cons (.var 2) .nil))))) (.cons (.not (.e (.call 2 (.cons (.sub (.var 0) (.lit (.int 1))) (.cons (.lit (.int 1)) (.cons (.glob "MOST_PATTERN" (.int 3)) .nil)))))) .nil)))) (.cons (.ret (.lit (.bl false))) .nil) .nil) (.cons (.ret (.un .all (.comp false [3] (.call 1 (.cons (.var 3) (.cons (.var 1) .nil))) (.nm 3) (.seq (.sub (.var 0) (.lit (.int 1)))) .nil))) .nil))⟩
@[simp] theorem io_has_form : f_has_form.io = [false, false, false] := rfl
def f_is_target : FDef := ⟨[false, false, false, false], 4, (.cons (.ifs (.or (.cons (.not (.e (.call 2 (.cons (.var 0) (.cons (.lit (.int 2)) (.cons (.lit (.int 2)) .nil)))))) (.cons (.not (.e (.call 1 (.cons (.sub (.var 0) (.lit (.int 0))) (.cons (.var 1) .nil))))) .nil))) (.cons (.ret (.lit (.bl false))) .nil) .nil) (.cons (.ret (.or (.cons (.un .isNone (.sub (.var 0) (.lit (.int 1)))) (.cons (.call 4 (.cons (.sub (.var 0) (.lit (.int 1))) (.cons (.var 2) .nil))) (.cons (.and (.cons (.var 3) (.cons (.bin .eq (.sub (.var 0) (.lit (.int 1))) (.glob "OWN" (.tup [(.str "own")]))) .nil))) .nil))))) .nil))⟩
@[simp] theorem io_is_target : f_is_target.io = [false, false, false, false] := rfl
def f_is_move : FDef := ⟨[false, false, false], 7, (.cons (.ifs (.or (.cons (.not (.e (.call 2 (.cons (.var 0) (.cons (.lit (.int 8)) (.cons (.lit (.int 8)) .nil)))))) (.cons (.not (.e (.call 3 (.cons (.sub (.var 0) (.lit (.int 0))) (.cons (.var 2) .nil))))) (.cons (.not (.e (.call 3 (.cons (.sub (.var 0) (.lit (.int 1))) (.cons (.var 2) .nil))))) .nil)))) (.cons (.ret (.lit (.bl false))) .nil) .nil) (.cons (.ifs (.or (.cons (.not (.e (.un .isBool (.sub (.var 0) (.lit (.int 2)))))) (.cons (.not (.e (.call 2 (.cons (.sub (.var 0) (.lit (.int 5))) (.cons (.lit (.int 0)) (.cons (.glob "MOST_INS" (.int 3)) .nil)))))) (.cons (.not (.e (.call 2 (.cons (.sub (.var 0) (.lit (.int 6))) (.cons (.lit (.int 0)) (.cons (.glob "MOST_OUTS" (.int 3)) .nil)))))) .nil)))) (.cons (.ret (.lit (.bl false))) .nil) .nil) (.cons (.asg (.nm 3) (.un .len (.sub (.var 0) (.lit (.int 5))))) (.cons (.ifs (.or (.cons (.not (.e (.call 4 (.cons (.sub (.var 0) (.lit (.int 3))) (.cons (.var 3) .nil))))) (.cons (.not (.or (.cons (.e (.un .isNone (.sub (.var 0) (.lit (.int 4))))) (.cons (.e (.bin .eq (.sub (.var 0) (.lit (.int 4))) (.glob "MEMORY" (.tup [(.str "memory")])))) (.cons (.e (.call 5 (.cons (.sub (.var 0) (.lit (.int 4))) (.cons (.var 3) .nil)))) .nil))))) .nil))) (.cons (.ret (.lit (.bl false))) .nil) .nil) (.cons (.ifs (.or (.cons (.not (.e (.un .all (.comp false [6] (.call 1 (.cons (.var 6) (.cons (.var 1) .nil))) (.nm 6) (.seq (.sub (.var 0) (.lit (.int 5)))) .nil)))) (.cons (.not (.e (.call 2 (.cons (.sub (.var 0) (.lit (.int 7))) (.cons (.var 1) (.cons (.var 1) .nil)))))) .nil))) (.cons (.ret (.lit (.bl false))) .nil) .nil) (.cons (.asg (.nm 4) (.fz (.comp false [5] (.call 7 (.cons (.var 5) (.cons (.var 1) (.cons (.var 3) (.cons (.lit (.bl false)) .nil))))) (.nm 5) (.seq (.sub (.var 0) (.lit (.int 6)))) .nil))) (.cons (.ret (.and (.cons (.un .all (.var 4)) (.cons (.un .all (.comp false [5] (.call 7 (.cons (.var 5) (.cons (.var 1) (.cons (.var 3) (.cons (.lit (.bl true)) .nil))))) (.nm 5) (.seq (.sub (.var 0) (.lit (.int 7)))) .nil)) .nil)))) .nil)))))))⟩
@[simp] theorem io_is_move : f_is_move.io = [false, false, false] := rfl
def f_are_rules : FDef := ⟨[false], 5, (.cons (.ifs (.or (.cons (.not (.e (.call 2 (.cons (.var 0) (.cons (.lit (.int 4)) (.cons (.lit (.int 4)) .nil)))))) (.cons (.not (.e (.call 2 (.cons (.sub (.var 0) (.lit (.int 0))) (.cons (.lit (.int 1)) (.cons (.glob "MOST_KINDS" (.int 6)) .nil)))))) (.cons (.not (.e (.call 1 (.cons (.sub (.var 0) (.lit (.int 1))) (.cons (.bin .add (.glob "MOST_HALLS" (.int 4)) (.lit (.int 1))) .nil))))) .nil)))) (.cons (.ret (.lit (.bl false))) .nil) .nil) (.cons (.ifs (.or (.cons (.not (.e (.un .all (.comp false [4] (.un .isBool (.var 4)) (.nm 4) (.seq (.sub (.var 0) (.lit (.int 0)))) .nil)))) (.cons (.e (.bin .lt (.sub (.var 0) (.lit (.int 1))) (.lit (.int 1)))) .nil))) (.cons (.ret (.lit (.bl false))) .nil) .nil) (.cons (.ifs (.or (.cons (.not (.e (.call 2 (.cons (.sub (.var 0) (.lit (.int 2))) (.cons (.lit (.int 1)) (.cons (.glob "MOST_MOVES" (.int 12)) .nil)))))) (.cons (.not (.e (.call 2 (.cons (.sub (.var 0) (.lit (.int 3))) (.cons (.lit (.int 0)) (.cons (.glob "MOST_PROMISES" (.int 4)) .nil)))))) .nil))) (.cons (.ret (.lit (.bl false))) .nil) .nil) (.cons (.asg (.nm 1) (.un .len (.sub (.var 0) (.lit (.int 0))))) (.cons (.asg (.nm 2) (.fz (.comp false [3] (.call 8 (.cons (.var 3) (.cons (.var 1) (.cons (.sub (.var 0) (.lit (.int 1))) .nil)))) (.nm 3) (.seq (.sub (.var 0) (.lit (.int 2)))) .nil))) (.cons (.ret (.and (.cons (.un .all (.var 2)) (.cons (.un .all (.comp false [4] (.call 6 (.cons (.var 4) (.cons (.var 1) (.cons (.sub (.var 0) (.lit (.int 1))) .nil)))) (.nm 4) (.seq (.sub (.var 0) (.lit (.int 3)))) .nil)) .nil)))) .nil))))))⟩
@[simp] theorem io_are_rules : f_are_rules.io = [false] := rfl
def f_sources_of : FDef := ⟨[false], 4, (.cons (.asg (.nm 1) (.fz (.bin .add (.bin .add (.lst (.cons (.sub (.var 0) (.lit (.int 3))) (.cons (.sub (.var 0) (.lit (.int 4))) .nil))) (.comp false [3] (.sub (.var 3) (.lit (.int 1))) (.nm 3) (.seq (.sub (.var 0) (.lit (.int 6)))) .nil)) (.comp false [3] (.sub (.var 3) (.lit (.int 1))) (.nm 3) (.seq (.sub (.var 0) (.lit (.int 7)))) .nil)))) (.cons (.ret (.fz (.comp false [2] (.var 2) (.nm 2) (.seq (.var 1)) (.cons (.e (.un .notNone (.var 2))) .nil)))) .nil))⟩
@[simp] theorem io_sources_of : f_sources_of.io = [false] := rfl
def f_is_fitting : FDef := ⟨[false, false], 6, (.cons (.asg (.nm 2) (.call 10 (.cons (.var 1) .nil))) (.cons (.ifs (.e (.un .any (.comp false [3] (.and (.cons (.bin .eq (.sub (.var 3) (.lit (.int 0))) (.lit (.str "in"))) (.cons (.not (.sub (.var 0) (.sub (.sub (.var 1) (.lit (.int 5))) (.sub (.var 3) (.lit (.int 1)))))) .nil))) (.nm 3) (.seq (.var 2)) .nil))) (.cons (.ret (.lit (.bl false))) .nil) .nil) (.cons (.ifs (.or (.cons (.e (.bin .ne (.bin .inn (.glob "WRITTEN" (.tup [(.str "written")])) (.var 2)) (.sub (.var 1) (.lit (.int 2))))) (.cons (.e (.bin .ne (.sub (.sub (.sub (.var 1) (.lit (.int 7))) (.lit (.int 0))) (.lit (.int 0))) (.lit (.int 0)))) .nil))) (.cons (.ret (.lit (.bl false))) .nil) .nil) (.cons (.ifs (.e (.un .any (.comp false [4, 3] (.bin .eq (.un .isNone (.var 3)) (.sub (.var 0) (.var 4))) (.tp [(.nm 4), (.nm 3)]) (.seq (.bin .add (.sub (.var 1) (.lit (.int 6))) (.sub (.var 1) (.lit (.int 7))))) .nil))) (.cons (.ret (.lit (.bl false))) .nil) .nil) (.cons (.ret (.un .all (.comp false [4, 5, 3] (.or (.cons (.bin .ne (.var 3) (.glob "OWN" (.tup [(.str "own")]))) (.cons (.sub (.var 0) (.var 4)) .nil))) (.tp [(.nm 4), (.tp [(.nm 5), (.nm 3)])]) (.enum (.sub (.var 1) (.lit (.int 7)))) .nil))) .nil)))))⟩
@[simp] theorem io_is_fitting : f_is_fitting.io = [false, false] := rfl
def f_check_rules : FDef := ⟨[false], 2, (.cons (.ifs (.not (.e (.call 9 (.cons (.var 0) .nil)))) (.cons (.raise 1) .nil) .nil) (.cons (.ifs (.or (.cons (.e (.sub (.sub (.var 0) (.lit (.int 0))) (.lit (.int 0)))) (.cons (.not (.e (.un .all (.comp false [1] (.call 11 (.cons (.sub (.var 0) (.lit (.int 0))) (.cons (.var 1) .nil))) (.nm 1) (.seq (.sub (.var 0) (.lit (.int 2)))) .nil)))) .nil))) (.cons (.raise 2) .nil) .nil) .nil))⟩
@[simp] theorem io_check_rules : f_check_rules.io = [false] := rfl
def f_law_stream : FDef := ⟨[false], 3, (.cons (.asg (.nm 1) (.lit (.int 17))) (.cons (.loop (.nm 2) (.seq (.var 0)) (.cons (.asg (.nm 1) (.fz (.bin .mod (.un .int (.bin .add (.bin .add (.bin .mul (.var 1) (.lit (.int 48271))) (.bin .mod (.un .int (.var 2)) (.lit (.int 65521)))) (.lit (.int 1)))) (.lit (.int 2147483647))))) .nil)) (.cons (.ret (.lst (.cons (.un .list (.var 0)) (.cons (.lit (.int 0)) (.cons (.lit (.int 0)) (.cons (.var 1) .nil)))))) .nil)))⟩
@[simp] theorem io_law_stream : f_law_stream.io = [false] := rfl
def f_law_draw : FDef := ⟨[true, false], 3, (.cons (.ifs (.and (.cons (.e (.bin .eq (.sub (.var 0) (.lit (.int 1))) (.lit (.int 0)))) (.cons (.e (.bin .lt (.sub (.var 0) (.lit (.int 2))) (.un .len (.sub (.var 0) (.lit (.int 0)))))) .nil))) (.cons (.setIx 0 (.lit (.int 1)) (.un .abs (.un .int (.sub (.sub (.var 0) (.lit (.int 0))) (.sub (.var 0) (.lit (.int 2))))))) (.cons (.setIx 0 (.lit (.int 2)) (.bin .add (.sub (.var 0) (.lit (.int 2))) (.lit (.int 1)))) .nil)) .nil) (.cons (.ifs (.e (.bin .eq (.sub (.var 0) (.lit (.int 1))) (.lit (.int 0)))) (.cons (.setIx 0 (.lit (.int 3)) (.bin .mod (.un .int (.bin .add (.bin .mul (.sub (.var 0) (.lit (.int 3))) (.lit (.int 48271))) (.lit (.int 11)))) (.lit (.int 2147483647)))) (.cons (.ret (.fz (.bin .mod (.un .int (.bin .fdiv (.sub (.var 0) (.lit (.int 3))) (.lit (.int 97)))) (.var 1)))) .nil)) .nil) (.cons (.asg (.nm 2) (.fz (.bin .mod (.un .int (.sub (.var 0) (.lit (.int 1)))) (.var 1)))) (.cons (.setIx 0 (.lit (.int 1)) (.bin .fdiv (.sub (.var 0) (.lit (.int 1))) (.var 1))) (.cons (.ret (.var 2)) .nil)))))⟩
@[simp] theorem io_law_draw : f_law_draw.io = [true, false] := rfl
def f_law_pick : FDef := ⟨[true, false], 2, (.cons (.ret (.sub (.var 1) (.call 14 (.io 0 (.cons (.un .len (.var 1)) .nil))))) .nil)⟩
@[simp] theorem io_law_pick : f_law_pick.io = [true, false] := rfl
def f_law_same : FDef := ⟨[false, false], 3, (.cons (.ifs (.or (.cons (.and (.cons (.e (.un .isTuple (.var 0))) (.cons (.e (.un .isTuple (.var 1))) .nil))) (.cons (.and (.cons (.e (.un .isList (.var 0))) (.cons (.e (.un .isList (.var 1))) .nil))) .nil))) (.cons (.ret (.and (.cons (.bin .eq (.un .len (.var 0)) (.un .len (.var 1))) (.cons (.un .all (.comp false [2] (.call 16 (.cons (.sub (.var 0) (.var 2)) (.cons (.sub (.var 1) (.var 2)) .nil))) (.nm 2) (.r1 (.un .len (.var 0))) .nil)) .nil)))) .nil) .nil) (.cons (.ifs (.or (.cons (.e (.un .isTuple (.var 0))) (.cons (.e (.un .isTuple (.var 1))) (.cons (.e (.un .isList (.var 0))) (.cons (.e (.un .isList (.var 1))) .nil))))) (.cons (.ret (.lit (.bl false))) .nil) .nil) (.cons (.ret (.and (.cons (.bin .eq (.var 0) (.var 1)) (.cons (.bin .eq (.un .isBool (.var 0)) (.un .isBool (.var 1))) .nil)))) .nil)))⟩
@[simp] theorem io_law_same : f_law_same.io = [false, false] := rfl
def f_law_is_number : FDef := ⟨[false, false, false], 3, (.cons (.ret (.and (.cons (.un .isInt (.var 0)) (.cons (.not (.un .isBool (.var 0))) (.cons (.bin .le (.var 1) (.var 0)) (.cons (.bin .le (.var 0) (.var 2)) .nil)))))) .nil)⟩
@[simp] theorem io_law_is_number : f_law_is_number.io = [false, false, false] := rfl
def f_law_is_row : FDef := ⟨[false, false, false], 3, (.cons (.ret (.and (.cons (.un .isTuple (.var 0)) (.cons (.bin .le (.var 1) (.un .len (.var 0))) (.cons (.bin .le (.un .len (.var 0)) (.var 2)) .nil))))) .nil)⟩
@[simp] theorem io_law_is_row : f_law_is_row.io = [false, false, false] := rfl
def f_law_spoilt : FDef := ⟨[true, false], 5, (.cons (.ifs (.and (.cons (.e (.un .isTuple (.var 1))) (.cons (.e (.bin .ne (.var 1) (.tup .nil))) (.cons (.e (.bin .ne (.call 14 (.io 0 (.cons (.lit (.int 6)) .nil))) (.lit (.int 0)))) .nil)))) (.cons (.asg (.nm 3) (.call 14 (.io 0 (.cons (.un .len (.var 1)) .nil)))) (.cons (.ret (.fz (.bin .add (.bin .add (.slice (.var 1) .nil (.cons (.var 3) .nil)) (.tup (.cons (.call 19 (.io 0 (.cons (.sub (.var 1) (.var 3)) .nil))) .nil))) (.slice (.var 1) (.cons (.bin .add (.var 3) (.lit (.int 1))) .nil) .nil)))) .nil)) .nil) (.cons (.asg (.nm 2) (.call 14 (.io 0 (.cons (.lit (.int 10)) .nil)))) (.cons (.ifs (.e (.un .isBool (.var 1))) (.cons (.ret (.sub (.lst (.cons (.not (.var 1)) (.cons (.not (.var 1)) (.cons (.not (.var 1)) (.cons (.not (.var 1)) (.cons (.not (.var 1)) (.cons (.not (.var 1)) (.cons (.lit (.int 0)) (.cons (.lit (.int 1)) (.cons (.lit .non) (.cons (.lit (.str "a")) .nil))))))))))) (.var 2))) .nil) .nil) (.cons (.ifs (.e (.un .isInt (.var 1))) (.cons (.ret (.sub (.lst (.cons (.bin .add (.var 1) (.lit (.int 1))) (.cons (.bin .sub (.var 1) (.lit (.int 1))) (.cons (.lit (.int 0)) (.cons (.lit (.int 1)) (.cons (.lit (.int 2)) (.cons (.bin .add (.var 1) (.lit (.int 1))) (.cons (.lit (.bl true)) (.cons (.un .neg (.lit (.int 1))) (.cons (.lit .non) (.cons (.lit (.str "in")) .nil))))))))))) (.var 2))) .nil) .nil) (.cons (.ifs (.e (.un .isStr (.var 1))) (.cons (.ret (.sub (.lst (.cons (.lit (.str "memory")) (.cons (.lit (.str "written")) (.cons (.lit (.str "in")) (.cons (.lit (.str "own")) (.cons (.lit (.str "memory")) (.cons (.lit (.str "written")) (.cons (.lit (.str "own")) (.cons (.lit (.str "")) (.cons (.lit (.int 0)) (.cons (.lit .non) .nil))))))))))) (.var 2))) .nil) .nil) (.cons (.ifs (.e (.un .isTuple (.var 1))) (.cons (.asg (.nm 4) (.fz (.lst (.cons (.slice (.var 1) .nil (.cons (.bin .max2 (.lit (.int 0)) (.bin .sub (.un .len (.var 1)) (.lit (.int 1)))) .nil)) (.cons (.bin .add (.var 1) (.slice (.var 1) .nil (.cons (.lit (.int 1)) .nil))) (.cons (.bin .add (.slice (.var 1) (.cons (.lit (.int 1)) .nil) .nil) (.slice (.var 1) .nil (.cons (.lit (.int 1)) .nil))) (.cons (.un .list (.var 1)) (.cons (.tup .nil) (.cons (.lit .non) .nil))))))))) (.cons (.ret (.sub (.var 4) (.sub (.lst (.cons (.lit (.int 0)) (.cons (.lit (.int 0)) (.cons (.lit (.int 1)) (.cons (.lit (.int 1)) (.cons (.lit (.int 1)) (.cons (.lit (.int 2)) (.cons (.lit (.int 2)) (.cons (.lit (.int 3)) (.cons (.lit (.int 4)) (.cons (.lit (.int 5)) .nil))))))))))) (.var 2)))) .nil)) .nil) (.cons (.ret (.sub (.lst (.cons (.lit (.int 0)) (.cons (.lit (.int 1)) (.cons (.tup (.cons (.lit (.str "memory")) .nil)) (.cons (.tup (.cons (.lit (.str "in")) (.cons (.lit (.int 0)) .nil))) (.cons (.tup (.cons (.lit (.str "own")) .nil)) (.cons (.tup (.cons (.lit (.str "written")) .nil)) (.cons (.lit (.bl false)) (.cons (.tup .nil) (.cons (.lit (.str "a")) (.cons (.tup (.cons (.lit (.str "in")) (.cons (.lit (.int 1)) .nil))) .nil))))))))))) (.var 2))) .nil)))))))⟩
@[simp] theorem io_law_spoilt : f_law_spoilt.io = [true, false] := rfl
def f_law_is_source : FDef := ⟨[false, false], 2, (.cons (.ifs (.e (.call 18 (.cons (.var 0) (.cons (.lit (.int 1)) (.cons (.lit (.int 1)) .nil))))) (.cons (.ret (.and (.cons (.un .isStr (.sub (.var 0) (.lit (.int 0)))) (.cons (.bin .inn (.sub (.var 0) (.lit (.int 0))) (.tup (.cons (.lit (.str "memory")) (.cons (.lit (.str "written")) .nil)))) .nil)))) .nil) .nil) (.cons (.ret (.and (.cons (.call 18 (.cons (.var 0) (.cons (.lit (.int 2)) (.cons (.lit (.int 2)) .nil)))) (.cons (.un .isStr (.sub (.var 0) (.lit (.int 0)))) (.cons (.bin .eq (.sub (.var 0) (.lit (.int 0))) (.lit (.str "in"))) (.cons (.call 17 (.cons (.sub (.var 0) (.lit (.int 1))) (.cons (.lit (.int 0)) (.cons (.bin .sub (.var 1) (.lit (.int 1))) .nil)))) .nil)))))) .nil))⟩
@[simp] theorem io_law_is_source : f_law_is_source.io = [false, false] := rfl
def f_law_is_hall : FDef := ⟨[false, false], 2, (.cons (.ret (.or (.cons (.un .isNone (.var 0)) (.cons (.call 17 (.cons (.var 0) (.cons (.lit (.int 0)) (.cons (.bin .sub (.var 1) (.lit (.int 1))) .nil)))) .nil)))) .nil)⟩
@[simp] theorem io_law_is_hall : f_law_is_hall.io = [false, false] := rfl
def f_law_is_pattern : FDef := ⟨[false, false, false], 4, (.cons (.ifs (.or (.cons (.not (.e (.call 18 (.cons (.var 2) (.cons (.lit (.int 2)) (.cons (.lit (.int 2)) .nil)))))) (.cons (.not (.e (.call 21 (.cons (.sub (.var 2) (.lit (.int 0))) (.cons (.var 1) .nil))))) (.cons (.not (.e (.call 18 (.cons (.sub (.var 2) (.lit (.int 1))) (.cons (.lit (.int 1)) (.cons (.lit (.int 3)) .nil)))))) .nil)))) (.cons (.ret (.lit (.bl false))) .nil) .nil) (.cons (.ret (.un .all (.comp false [3] (.call 17 (.cons (.var 3) (.cons (.lit (.int 0)) (.cons (.bin .sub (.var 0) (.lit (.int 1))) .nil)))) (.nm 3) (.seq (.sub (.var 2) (.lit (.int 1)))) .nil))) .nil))⟩
@[simp] theorem io_law_is_pattern : f_law_is_pattern.io = [false, false, false] := rfl
def f_law_is_move : FDef := ⟨[false, false, false], 8, (.cons (.ifs (.or (.cons (.not (.e (.call 18 (.cons (.var 2) (.cons (.lit (.int 8)) (.cons (.lit (.int 8)) .nil)))))) (.cons (.not (.e (.call 21 (.cons (.sub (.var 2) (.lit (.int 0))) (.cons (.var 1) .nil))))) (.cons (.not (.e (.call 21 (.cons (.sub (.var 2) (.lit (.int 1))) (.cons (.var 1) .nil))))) .nil)))) (.cons (.ret (.lit (.bl false))) .nil) .nil) (.cons (.ifs (.or (.cons (.not (.e (.un .isBool (.sub (.var 2) (.lit (.int 2)))))) (.cons (.not (.e (.call 18 (.cons (.sub (.var 2) (.lit (.int 5))) (.cons (.lit (.int 0)) (.cons (.lit (.int 3)) .nil)))))) (.cons (.not (.e (.call 18 (.cons (.sub (.var 2) (.lit (.int 6))) (.cons (.lit (.int 0)) (.cons (.lit (.int 3)) .nil)))))) (.cons (.not (.e (.call 18 (.cons (.sub (.var 2) (.lit (.int 7))) (.cons (.var 0) (.cons (.var 0) .nil)))))) .nil))))) (.cons (.ret (.lit (.bl false))) .nil) .nil) (.cons (.asg (.nm 3) (.un .len (.sub (.var 2) (.lit (.int 5))))) (.cons (.ifs (.or (.cons (.not (.e (.un .all (.comp false [7] (.call 17 (.cons (.var 7) (.cons (.lit (.int 0)) (.cons (.bin .sub (.var 0) (.lit (.int 1))) .nil)))) (.nm 7) (.seq (.sub (.var 2) (.lit (.int 5)))) .nil)))) (.cons (.not (.e (.call 20 (.cons (.sub (.var 2) (.lit (.int 3))) (.cons (.var 3) .nil))))) .nil))) (.cons (.ret (.lit (.bl false))) .nil) .nil) (.cons (.ifs (.and (.cons (.e (.un .notNone (.sub (.var 2) (.lit (.int 4))))) (.cons (.or (.cons (.not (.e (.call 20 (.cons (.sub (.var 2) (.lit (.int 4))) (.cons (.var 3) .nil))))) (.cons (.e (.bin .eq (.sub (.var 2) (.lit (.int 4))) (.tup (.cons (.lit (.str "written")) .nil)))) .nil))) .nil))) (.cons (.ret (.lit (.bl false))) .nil) .nil) (.cons (.loop (.nm 4) (.r1 (.bin .add (.un .len (.sub (.var 2) (.lit (.int 6)))) (.var 0))) (.cons (.asg (.nm 5) (.bin .lt (.var 4) (.un .len (.sub (.var 2) (.lit (.int 6)))))) (.cons (.asg (.nm 6) (.sub (.bin .add (.sub (.var 2) (.lit (.int 6))) (.sub (.var 2) (.lit (.int 7)))) (.var 4))) (.cons (.ifs (.or (.cons (.not (.e (.call 18 (.cons (.var 6) (.cons (.lit (.int 2)) (.cons (.lit (.int 2)) .nil)))))) (.cons (.not (.e (.call 17 (.cons (.sub (.var 6) (.lit (.int 0))) (.cons (.lit (.int 0)) (.cons (.bin .sub (.var 0) (.lit (.int 1))) .nil)))))) .nil))) (.cons (.ret (.lit (.bl false))) .nil) .nil) (.cons (.ifs (.and (.cons (.e (.un .notNone (.sub (.var 6) (.lit (.int 1))))) (.cons (.not (.e (.call 20 (.cons (.sub (.var 6) (.lit (.int 1))) (.cons (.var 3) .nil))))) (.cons (.not (.and (.cons (.not (.e (.var 5))) (.cons (.e (.call 18 (.cons (.sub (.var 6) (.lit (.int 1))) (.cons (.lit (.int 1)) (.cons (.lit (.int 1)) .nil))))) (.cons (.e (.call 16 (.cons (.sub (.var 6) (.lit (.int 1))) (.cons (.tup (.cons (.lit (.str "own")) .nil)) .nil)))) .nil))))) .nil)))) (.cons (.ret (.lit (.bl false))) .nil) .nil) .nil))))) (.cons (.ret (.lit (.bl true))) .nil)))))))⟩
@[simp] theorem io_law_is_move : f_law_is_move.io = [false, false, false] := rfl
def f_law_is_form : FDef := ⟨[false], 4, (.cons (.ifs (.or (.cons (.not (.e (.call 18 (.cons (.var 0) (.cons (.lit (.int 4)) (.cons (.lit (.int 4)) .nil)))))) (.cons (.not (.e (.call 18 (.cons (.sub (.var 0) (.lit (.int 0))) (.cons (.lit (.int 1)) (.cons (.lit (.int 6)) .nil)))))) (.cons (.not (.e (.un .all (.comp false [3] (.un .isBool (.var 3)) (.nm 3) (.seq (.sub (.var 0) (.lit (.int 0)))) .nil)))) .nil)))) (.cons (.ret (.lit (.bl false))) .nil) .nil) (.cons (.ifs (.or (.cons (.not (.e (.call 17 (.cons (.sub (.var 0) (.lit (.int 1))) (.cons (.lit (.int 1)) (.cons (.lit (.int 4)) .nil)))))) (.cons (.not (.e (.call 18 (.cons (.sub (.var 0) (.lit (.int 2))) (.cons (.lit (.int 1)) (.cons (.lit (.int 12)) .nil)))))) (.cons (.not (.e (.call 18 (.cons (.sub (.var 0) (.lit (.int 3))) (.cons (.lit (.int 0)) (.cons (.lit (.int 4)) .nil)))))) .nil)))) (.cons (.ret (.lit (.bl false))) .nil) .nil) (.cons (.asg (.nm 1) (.un .len (.sub (.var 0) (.lit (.int 0))))) (.cons (.ret (.and (.cons (.un .all (.comp false [2] (.call 23 (.cons (.var 1) (.cons (.sub (.var 0) (.lit (.int 1))) (.cons (.var 2) .nil)))) (.nm 2) (.seq (.sub (.var 0) (.lit (.int 2)))) .nil)) (.cons (.un .all (.comp false [3] (.call 22 (.cons (.var 1) (.cons (.sub (.var 0) (.lit (.int 1))) (.cons (.var 3) .nil)))) (.nm 3) (.seq (.sub (.var 0) (.lit (.int 3)))) .nil)) .nil)))) .nil))))⟩
@[simp] theorem io_law_is_form : f_law_is_form.io = [false] := rfl
def f_law_is_fed : FDef := ⟨[false, false, false], 3, (.cons (.ifs (.e (.bin .eq (.sub (.var 2) (.lit (.int 0))) (.lit (.str "in")))) (.cons (.ret (.sub (.var 0) (.sub (.sub (.var 1) (.lit (.int 5))) (.sub (.var 2) (.lit (.int 1)))))) .nil) .nil) (.cons (.ret (.or (.cons (.bin .eq (.sub (.var 2) (.lit (.int 0))) (.lit (.str "memory"))) (.cons (.sub (.var 1) (.lit (.int 2))) .nil)))) .nil))⟩
@[simp] theorem io_law_is_fed : f_law_is_fed.io = [false, false, false] := rfl
def f_law_goes : FDef := ⟨[false], 7, (.cons (.asg (.nm 1) (.sub (.var 0) (.lit (.int 0)))) (.cons (.ifs (.e (.sub (.var 1) (.lit (.int 0)))) (.cons (.ret (.lit (.bl false))) .nil) .nil) (.cons (.loop (.nm 2) (.seq (.sub (.var 0) (.lit (.int 2)))) (.cons (.asg (.nm 3) (.fz (.bin .add (.lst (.cons (.sub (.var 2) (.lit (.int 3))) .nil)) (.comp false [4] (.sub (.var 4) (.lit (.int 1))) (.nm 4) (.seq (.bin .add (.sub (.var 2) (.lit (.int 6))) (.sub (.var 2) (.lit (.int 7))))) (.cons (.and (.cons (.e (.un .notNone (.sub (.var 4) (.lit (.int 1))))) (.cons (.e (.bin .ne (.sub (.var 4) (.lit (.int 1))) (.tup (.cons (.lit (.str "own")) .nil)))) .nil))) .nil))))) (.cons (.ifs (.or (.cons (.not (.e (.un .all (.comp false [5] (.call 25 (.cons (.var 1) (.cons (.var 2) (.cons (.var 5) .nil)))) (.nm 5) (.seq (.var 3)) .nil)))) (.cons (.and (.cons (.e (.un .notNone (.sub (.var 2) (.lit (.int 4))))) (.cons (.not (.e (.call 25 (.cons (.var 1) (.cons (.var 2) (.cons (.sub (.var 2) (.lit (.int 4))) .nil)))))) .nil))) .nil))) (.cons (.ret (.lit (.bl false))) .nil) .nil) (.cons (.ifs (.and (.cons (.e (.sub (.var 2) (.lit (.int 2)))) (.cons (.e (.bin .nin (.tup (.cons (.lit (.str "written")) .nil)) (.var 3))) .nil))) (.cons (.ret (.lit (.bl false))) .nil) .nil) (.cons (.ifs (.not (.e (.un .all (.comp false [4] (.bin .eq (.sub (.var 1) (.sub (.var 4) (.lit (.int 0)))) (.un .notNone (.sub (.var 4) (.lit (.int 1))))) (.nm 4) (.seq (.bin .add (.sub (.var 2) (.lit (.int 6))) (.sub (.var 2) (.lit (.int 7))))) .nil)))) (.cons (.ret (.lit (.bl false))) .nil) .nil) (.cons (.ifs (.or (.cons (.e (.bin .ne (.sub (.sub (.var 2) (.lit (.int 7))) (.lit (.int 0))) (.tup (.cons (.lit (.int 0)) (.cons (.lit .non) .nil))))) (.cons (.not (.e (.un .all (.comp false [6] (.or (.cons (.sub (.var 1) (.var 6)) (.cons (.bin .ne (.sub (.sub (.sub (.var 2) (.lit (.int 7))) (.var 6)) (.lit (.int 1))) (.tup (.cons (.lit (.str "own")) .nil))) .nil))) (.nm 6) (.r1 (.un .len (.var 1))) .nil)))) .nil))) (.cons (.ret (.lit (.bl false))) .nil) .nil) .nil)))))) (.cons (.ret (.lit (.bl true))) .nil))))⟩
@[simp] theorem io_law_goes : f_law_goes.io = [false] := rfl
def f_law_due_rules : FDef := ⟨[false], 1, (.cons (.ifs (.not (.e (.call 24 (.cons (.var 0) .nil)))) (.cons (.ret (.lit (.str "BadRules"))) .nil) .nil) (.cons (.ret (.sub (.lst (.cons (.lit (.str "BadCopies")) (.cons (.lit (.str "")) .nil))) (.un .int (.call 26 (.cons (.var 0) .nil))))) .nil))⟩
@[simp] theorem io_law_due_rules : f_law_due_rules.io = [false] := rfl
def f_law_pool : FDef := ⟨[false, false, false], 4, (.cons (.ret (.fz (.bin .add (.bin .add (.lst (.cons (.tup (.cons (.lit (.str "memory")) .nil)) .nil)) (.comp false [3] (.tup (.cons (.lit (.str "in")) (.cons (.var 3) .nil))) (.nm 3) (.r1 (.un .len (.var 1))) (.cons (.e (.sub (.var 0) (.sub (.var 1) (.var 3)))) .nil))) (.bin .mul (.lst (.cons (.tup (.cons (.lit (.str "written")) .nil)) .nil)) (.bin .mul (.lit (.int 2)) (.un .int (.var 2))))))) .nil)⟩
@[simp] theorem io_law_pool : f_law_pool.io = [false, false, false] := rfl
def f_law_drawn_move : FDef := ⟨[true, false, false], 18, (.cons (.asg (.nm 3) (.un .len (.var 1))) (.cons (.asg (.nm 4) (.fz (.bin .add (.lst (.cons (.lit .non) .nil)) (.comp false [15] (.var 15) (.nm 15) (.r1 (.var 2)) .nil)))) (.cons (.asg (.nm 5) (.bin .eq (.call 14 (.io 0 (.cons (.lit (.int 3)) .nil))) (.lit (.int 0)))) (.cons (.asg (.nm 6) (.un .tuple (.comp false [10] (.call 14 (.io 0 (.cons (.var 3) .nil))) (.nm 10) (.r1 (.call 15 (.io 0 (.cons (.lst (.cons (.lit (.int 0)) (.cons (.lit (.int 1)) (.cons (.lit (.int 1)) (.cons (.lit (.int 1)) (.cons (.lit (.int 2)) (.cons (.lit (.int 2)) (.cons (.lit (.int 3)) .nil)))))))) .nil)))) .nil))) (.cons (.asg (.nm 7) (.call 28 (.cons (.var 1) (.cons (.var 6) (.cons (.var 5) .nil))))) (.cons (.asg (.nm 8) (.call 15 (.io 0 (.cons (.bin .add (.var 7) (.lst (.cons (.tup (.cons (.lit (.str "memory")) .nil)) .nil))) .nil)))) (.cons (.asg (.nm 9) (.lst .nil)) (.cons (.loop (.nm 10) (.r1 (.call 15 (.io 0 (.cons (.lst (.cons (.un .len (.var 6)) (.cons (.un .len (.var 6)) (.cons (.un .len (.var 6)) (.cons (.lit (.int 0)) (.cons (.lit (.int 1)) (.cons (.lit (.int 2)) (.cons (.lit (.int 3)) .nil)))))))) .nil)))) (.cons (.asg (.nm 13) (.call 14 (.io 0 (.cons (.var 3) .nil)))) (.cons (.app 9 (.tup (.cons (.var 13) (.cons (.ite (.e (.sub (.var 1) (.var 13))) (.call 15 (.io 0 (.cons (.var 7) .nil))) (.lit .non)) .nil)))) .nil))) (.cons (.asg (.nm 11) (.lst (.cons (.tup (.cons (.lit (.int 0)) (.cons (.lit .non) .nil))) .nil))) (.cons (.loop (.nm 10) (.r2 (.lit (.int 1)) (.var 3)) (.cons (.asg (.nm 13) (.call 15 (.io 0 (.cons (.lst (.cons (.var 10) (.cons (.var 10) (.cons (.call 14 (.io 0 (.cons (.var 3) .nil))) .nil)))) .nil)))) (.cons (.asg (.nm 14) (.fz (.bin .mul (.lst (.cons (.tup (.cons (.lit (.str "own")) .nil)) .nil)) (.bin .mul (.lit (.int 3)) (.un .int (.sub (.var 1) (.var 10))))))) (.cons (.app 11 (.tup (.cons (.var 13) (.cons (.ite (.e (.sub (.var 1) (.var 13))) (.call 15 (.io 0 (.cons (.bin .add (.var 14) (.slice (.var 7) .nil (.cons (.bin .add (.bin .mul (.un .int (.bin .eq (.var 14) (.lst .nil))) (.un .len (.var 7))) (.lit (.int 1))) .nil))) .nil))) (.lit .non)) .nil)))) .nil)))) (.cons (.ifs (.and (.cons (.e (.var 5)) (.cons (.e (.bin .ne (.var 8) (.tup (.cons (.lit (.str "written")) .nil)))) (.cons (.e (.bin .nin (.tup (.cons (.lit (.str "written")) .nil)) (.comp false [16] (.sub (.var 16) (.lit (.int 1))) (.nm 16) (.seq (.bin .add (.var 9) (.var 11))) .nil))) .nil)))) (.cons (.asg (.nm 8) (.tup (.cons (.lit (.str "written")) .nil))) .nil) .nil) (.cons (.asg (.nm 12) (.call 15 (.io 0 (.cons (.bin .add (.lst (.cons (.lit .non) (.cons (.lit .non) .nil))) (.comp false [17] (.var 17) (.nm 17) (.seq (.var 7)) (.cons (.e (.bin .ne (.var 17) (.tup (.cons (.lit (.str "written")) .nil)))) .nil))) .nil)))) (.cons (.ret (.tup (.cons (.call 15 (.io 0 (.cons (.var 4) .nil))) (.cons (.call 15 (.io 0 (.cons (.var 4) .nil))) (.cons (.var 5) (.cons (.var 8) (.cons (.var 12) (.cons (.var 6) (.cons (.un .tuple (.var 9)) (.cons (.un .tuple (.var 11)) .nil)))))))))) .nil)))))))))))))⟩
@[simp] theorem io_law_drawn_move : f_law_drawn_move.io = [true, false, false] := rfl
def f_law_known : FDef := ⟨[], 2, (.cons (.asg (.nm 0) (.tup (.cons (.tup (.cons (.lit (.int 0)) (.cons (.lit .non) .nil))) (.cons (.tup (.cons (.lit (.int 1)) (.cons (.tup (.cons (.lit (.str "own")) .nil)) .nil))) (.cons (.tup (.cons (.lit (.int 2)) (.cons (.tup (.cons (.lit (.str "own")) .nil)) .nil))) .nil))))) (.cons (.asg (.nm 1) (.lst (.cons (.tup (.cons (.lit (.int 0)) (.cons (.lit (.int 0)) (.cons (.lit (.bl false)) (.cons (.tup (.cons (.lit (.str "memory")) .nil)) (.cons (.lit .non) (.cons (.tup (.cons (.lit (.int 0)) .nil)) (.cons (.tup (.cons (.tup (.cons (.lit (.int 1)) (.cons (.tup (.cons (.lit (.str "memory")) .nil)) .nil))) .nil)) (.cons (.var 0) .nil))))))))) .nil))) (.cons (.app 1 (.tup (.cons (.lit .non) (.cons (.lit (.int 1)) (.cons (.lit (.bl true)) (.cons (.tup (.cons (.lit (.str "memory")) .nil)) (.cons (.lit .non) (.cons (.tup (.cons (.lit (.int 0)) .nil)) (.cons (.tup (.cons (.tup (.cons (.lit (.int 2)) (.cons (.tup (.cons (.lit (.str "written")) .nil)) .nil))) .nil)) (.cons (.tup (.cons (.tup (.cons (.lit (.int 0)) (.cons (.lit .non) .nil))) (.cons (.tup (.cons (.lit (.int 0)) (.cons (.lit .non) .nil))) (.cons (.tup (.cons (.lit (.int 0)) (.cons (.lit .non) .nil))) .nil)))) .nil)))))))))) (.cons (.app 1 (.tup (.cons (.lit (.int 1)) (.cons (.lit (.int 1)) (.cons (.lit (.bl true)) (.cons (.tup (.cons (.lit (.str "memory")) .nil)) (.cons (.lit .non) (.cons (.tup (.cons (.lit (.int 2)) .nil)) (.cons (.tup (.cons (.tup (.cons (.lit (.int 2)) (.cons (.tup (.cons (.lit (.str "written")) .nil)) .nil))) .nil)) (.cons (.tup (.cons (.tup (.cons (.lit (.int 0)) (.cons (.lit .non) .nil))) (.cons (.tup (.cons (.lit (.int 0)) (.cons (.lit .non) .nil))) (.cons (.tup (.cons (.lit (.int 2)) (.cons (.tup (.cons (.lit (.str "own")) .nil)) .nil))) .nil)))) .nil)))))))))) (.cons (.app 1 (.tup (.cons (.lit (.int 1)) (.cons (.lit (.int 0)) (.cons (.lit (.bl false)) (.cons (.tup (.cons (.lit (.str "in")) (.cons (.lit (.int 0)) .nil))) (.cons (.lit .non) (.cons (.tup (.cons (.lit (.int 2)) .nil)) (.cons (.tup (.cons (.tup (.cons (.lit (.int 1)) (.cons (.tup (.cons (.lit (.str "in")) (.cons (.lit (.int 0)) .nil))) .nil))) .nil)) (.cons (.var 0) .nil)))))))))) (.cons (.app 1 (.tup (.cons (.lit .non) (.cons (.lit .non) (.cons (.lit (.bl false)) (.cons (.tup (.cons (.lit (.str "memory")) .nil)) (.cons (.tup (.cons (.lit (.str "in")) (.cons (.lit (.int 0)) .nil))) (.cons (.tup (.cons (.lit (.int 1)) .nil)) (.cons (.tup (.cons (.tup (.cons (.lit (.int 1)) (.cons (.tup (.cons (.lit (.str "in")) (.cons (.lit (.int 0)) .nil))) .nil))) .nil)) (.cons (.var 0) .nil)))))))))) (.cons (.app 1 (.tup (.cons (.lit (.int 0)) (.cons (.lit (.int 0)) (.cons (.lit (.bl false)) (.cons (.tup (.cons (.lit (.str "memory")) .nil)) (.cons (.tup (.cons (.lit (.str "memory")) .nil)) (.cons (.tup .nil) (.cons (.tup .nil) (.cons (.var 0) .nil)))))))))) (.cons (.ret (.tup (.cons (.tup (.cons (.lit (.bl false)) (.cons (.lit (.bl true)) (.cons (.lit (.bl true)) .nil)))) (.cons (.lit (.int 2)) (.cons (.un .tuple (.var 1)) (.cons (.tup (.cons (.tup (.cons (.lit .non) (.cons (.tup (.cons (.lit (.int 2)) (.cons (.lit (.int 2)) .nil))) .nil))) (.cons (.tup (.cons (.lit (.int 0)) (.cons (.tup (.cons (.lit (.int 2)) .nil)) .nil))) (.cons (.tup (.cons (.lit (.int 1)) (.cons (.tup (.cons (.lit (.int 1)) (.cons (.lit (.int 2)) .nil))) .nil))) .nil)))) .nil)))))) .nil))))))))⟩
@[simp] theorem io_law_known : f_law_known.io = [] := rfl
def f_law_rules : FDef := ⟨[true], 7, (.cons (.ifs (.e (.bin .eq (.call 14 (.io 0 (.cons (.lit (.int 2)) .nil))) (.lit (.int 0)))) (.cons (.asg (.tp [(.nm 1), (.nm 2), (.nm 3), (.nm 4)]) (.call 30 .nil)) (.cons (.asg (.nm 3) (.comp false [5] (.var 5) (.nm 5) (.seq (.var 3)) (.cons (.e (.bin .ne (.call 14 (.io 0 (.cons (.lit (.int 6)) .nil))) (.lit (.int 0)))) .nil))) (.cons (.ifs (.or (.cons (.e (.bin .eq (.var 3) (.lst .nil))) (.cons (.e (.bin .eq (.call 14 (.io 0 (.cons (.lit (.int 2)) .nil))) (.lit (.int 0)))) .nil))) (.cons (.ins 3 (.call 14 (.io 0 (.cons (.bin .add (.un .len (.var 3)) (.lit (.int 1))) .nil))) (.call 29 (.io 0 (.cons (.var 1) (.cons (.var 2) .nil))))) .nil) .nil) (.cons (.ret (.tup (.cons (.var 1) (.cons (.var 2) (.cons (.un .tuple (.var 3)) (.cons (.slice (.var 4) .nil (.cons (.call 14 (.io 0 (.cons (.lit (.int 4)) .nil))) .nil)) .nil)))))) .nil)))) .nil) (.cons (.asg (.nm 1) (.fz (.bin .add (.tup (.cons (.lit (.bl false)) .nil)) (.un .tuple (.comp false [6] (.bin .ne (.call 14 (.io 0 (.cons (.lit (.int 3)) .nil))) (.lit (.int 0))) (.nm 6) (.r1 (.call 14 (.io 0 (.cons (.lit (.int 4)) .nil)))) .nil))))) (.cons (.asg (.nm 2) (.fz (.bin .add (.lit (.int 1)) (.call 14 (.io 0 (.cons (.lit (.int 3)) .nil)))))) (.cons (.asg (.nm 3) (.un .tuple (.comp false [6] (.call 29 (.io 0 (.cons (.var 1) (.cons (.var 2) .nil)))) (.nm 6) (.r1 (.bin .add (.lit (.int 1)) (.call 14 (.io 0 (.cons (.lit (.int 5)) .nil))))) .nil))) (.cons (.asg (.nm 4) (.un .tuple (.comp false [6] (.call 32 (.io 0 (.cons (.var 1) (.cons (.var 2) .nil)))) (.nm 6) (.r1 (.call 14 (.io 0 (.cons (.lit (.int 3)) .nil)))) .nil))) (.cons (.ret (.tup (.cons (.var 1) (.cons (.var 2) (.cons (.var 3) (.cons (.var 4) .nil)))))) .nil))))))⟩
@[simp] theorem io_law_rules : f_law_rules.io = [true] := rfl
def f_law_pattern : FDef := ⟨[true, false, false], 6, (.cons (.asg (.nm 3) (.call 15 (.io 0 (.cons (.bin .add (.lst (.cons (.lit .non) .nil)) (.comp false [4] (.var 4) (.nm 4) (.r1 (.var 2)) .nil)) .nil)))) (.cons (.ret (.tup (.cons (.var 3) (.cons (.un .tuple (.comp false [5] (.call 14 (.io 0 (.cons (.un .len (.var 1)) .nil))) (.nm 5) (.r1 (.bin .add (.lit (.int 1)) (.call 14 (.io 0 (.cons (.lit (.int 3)) .nil))))) .nil)) .nil)))) .nil))⟩
@[simp] theorem io_law_pattern : f_law_pattern.io = [true, false, false] := rfl
def f_law_found : FDef := ⟨[false], 2, (.cons (.tryx (.cons (.asg (.nm 1) (.call 12 (.cons (.var 0) .nil))) .nil) [(1, .ret (.lit (.str "BadRules"))), (2, .ret (.lit (.str "BadCopies")))]) (.cons (.ret (.sub (.lst (.cons (.lit (.str "something")) (.cons (.lit (.str "")) .nil))) (.un .int (.un .isNone (.var 1))))) .nil))⟩
@[simp] theorem io_law_found : f_law_found.io = [false] := rfl
def f_law_widened : FDef := ⟨[true, false], 10, (.cons (.asg (.tp [(.nm 3), (.nm 4), (.nm 5), (.nm 6)]) (.var 1)) (.cons (.asg (.nm 2) (.call 14 (.io 0 (.cons (.lit (.int 7)) .nil)))) (.cons (.ifs (.e (.bin .eq (.call 14 (.io 0 (.cons (.lit (.int 2)) .nil))) (.lit (.int 0)))) (.cons (.asg (.nm 7) (.un .tuple (.comp false [8] (.tup (.cons (.bin .add (.un .len (.var 3)) (.var 8)) (.cons (.lit .non) .nil))) (.nm 8) (.r1 (.var 2)) .nil))) (.cons (.asg (.nm 5) (.un .tuple (.comp false [9] (.bin .add (.slice (.var 9) .nil (.cons (.lit (.int 7)) .nil)) (.tup (.cons (.bin .add (.sub (.var 9) (.lit (.int 7))) (.var 7)) .nil))) (.nm 9) (.seq (.var 5)) .nil))) (.cons (.asg (.nm 3) (.fz (.bin .add (.var 3) (.bin .mul (.tup (.cons (.lit (.bl false)) .nil)) (.var 2))))) .nil))) .nil) (.cons (.ret (.tup (.cons (.var 3) (.cons (.bin .add (.var 4) (.call 14 (.io 0 (.cons (.lit (.int 4)) .nil)))) (.cons (.bin .add (.var 5) (.bin .mul (.slice (.var 5) .nil (.cons (.lit (.int 1)) .nil)) (.call 14 (.io 0 (.cons (.lit (.int 12)) .nil))))) (.cons (.bin .add (.var 6) (.bin .mul (.tup (.cons (.tup (.cons (.lit .non) (.cons (.tup (.cons (.lit (.int 0)) .nil)) .nil))) .nil)) (.call 14 (.io 0 (.cons (.lit (.int 5)) .nil))))) .nil)))))) .nil))))⟩
@[simp] theorem io_law_widened : f_law_widened.io = [true, false] := rfl
def f_law : FDef := ⟨[false], 4, (.cons (.asg (.nm 1) (.call 13 (.cons (.var 0) .nil))) (.cons (.asg (.nm 2) (.call 31 (.io 1 .nil))) (.cons (.ifs (.e (.bin .eq (.call 14 (.io 1 (.cons (.lit (.int 3)) .nil))) (.lit (.int 0)))) (.cons (.asg (.nm 2) (.call 34 (.io 1 (.cons (.var 2) .nil)))) .nil) .nil) (.cons (.loop (.nm 3) (.r1 (.call 14 (.io 1 (.cons (.lit (.int 4)) .nil)))) (.cons (.asg (.nm 2) (.call 19 (.io 1 (.cons (.var 2) .nil)))) .nil)) (.cons (.ret (.bin .eq (.call 33 (.cons (.var 2) .nil)) (.call 27 (.cons (.var 2) .nil)))) .nil)))))⟩
@[simp] theorem io_law : f_law.io = [false] := rfl
def f_is_pattern : FDef := ⟨[false, false], 2, (.cons (.ret (.call 6 (.cons (.var 1) (.cons (.un .len (.sub (.var 0) (.lit (.int 0)))) (.cons (.sub (.var 0) (.lit (.int 1))) .nil))))) .nil)⟩
@[simp] theorem io_is_pattern : f_is_pattern.io = [false, false] := rfl
def f_law_v2 : FDef := ⟨[false], 6, (.cons (.asg (.nm 1) (.call 13 (.cons (.var 0) .nil))) (.cons (.asg (.nm 2) (.call 31 (.io 1 .nil))) (.cons (.asg (.nm 3) (.call 32 (.io 1 (.cons (.sub (.var 2) (.lit (.int 0))) (.cons (.sub (.var 2) (.lit (.int 1))) .nil))))) (.cons (.ifs (.e (.bin .eq (.call 14 (.io 1 (.cons (.lit (.int 4)) .nil))) (.lit (.int 0)))) (.cons (.asg (.nm 3) (.tup (.cons (.sub (.var 3) (.lit (.int 0))) (.cons (.bin .add (.sub (.var 3) (.lit (.int 1))) (.sub (.var 3) (.lit (.int 1)))) .nil)))) .nil) .nil) (.cons (.loop (.nm 4) (.r1 (.call 14 (.io 1 (.cons (.lit (.int 4)) .nil)))) (.cons (.asg (.nm 3) (.call 19 (.io 1 (.cons (.var 3) .nil)))) .nil)) (.cons (.asg (.nm 5) (.call 36 (.cons (.var 2) (.cons (.var 3) .nil)))) (.cons (.ret (.and (.cons (.un .isBool (.var 5)) (.cons (.bin .eq (.var 5) (.call 22 (.cons (.un .len (.sub (.var 2) (.lit (.int 0)))) (.cons (.sub (.var 2) (.lit (.int 1))) (.cons (.var 3) .nil))))) .nil)))) .nil)))))))⟩
@[simp] theorem io_law_v2 : f_law_v2.io = [false] := rfl
def f_is_made_in : FDef := ⟨[false, false], 2, (.cons (.ret (.or (.cons (.un .isNone (.sub (.var 0) (.lit (.int 0)))) (.cons (.bin .eq (.sub (.var 0) (.lit (.int 0))) (.var 1)) .nil)))) .nil)⟩
@[simp] theorem io_is_made_in : f_is_made_in.io = [false, false] := rfl
def f_hall_behind : FDef := ⟨[false, false], 2, (.cons (.ret (.fz (.ite (.e (.un .isNone (.sub (.var 0) (.lit (.int 1))))) (.var 1) (.sub (.var 0) (.lit (.int 1)))))) .nil)⟩
@[simp] theorem io_hall_behind : f_hall_behind.io = [false, false] := rfl
def f_place_of : FDef := ⟨[false, false, false], 3, (.cons (.ret (.tup (.cons (.var 1) (.cons (.un .int (.and (.cons (.sub (.var 0) (.var 1)) (.cons (.var 2) .nil)))) .nil)))) .nil)⟩
@[simp] theorem io_place_of : f_place_of.io = [false, false, false] := rfl
def f_law_some_holding : FDef := ⟨[true, false], 4, (.cons (.asg (.nm 2) (.fz (.comp false [3] (.tup (.cons (.call 14 (.io 0 (.cons (.lit (.int 3)) .nil))) (.cons (.bin .mul (.call 14 (.io 0 (.cons (.lit (.int 3)) .nil))) (.un .int (.var 3))) .nil))) (.nm 3) (.seq (.sub (.var 1) (.lit (.int 0)))) .nil))) (.cons (.ret (.tup (.cons (.call 14 (.io 0 (.cons (.sub (.var 1) (.lit (.int 1))) .nil))) (.cons (.bin .eq (.call 14 (.io 0 (.cons (.lit (.int 2)) .nil))) (.lit (.int 0))) (.cons (.un .tuple (.var 2)) .nil))))) .nil))⟩
@[simp] theorem io_law_some_holding : f_law_some_holding.io = [true, false] := rfl
def f_ways_of : FDef := ⟨[false, false], 6, (.cons (.asg (.nm 2) (.fz (.lst (.cons (.tup .nil) .nil)))) (.cons (.loop (.nm 3) (.seq (.var 1)) (.cons (.asg (.nm 2) (.fz (.comp2 false [4, 5] [5] (.bin .add (.var 4) (.tup (.cons (.var 5) .nil))) (.nm 4) (.seq (.var 2)) (.nm 5) (.seq (.ite (.e (.sub (.var 0) (.var 3))) (.tup (.cons (.lit (.bl false)) (.cons (.lit (.bl true)) .nil))) (.tup (.cons (.lit (.bl false)) .nil))))))) .nil)) (.cons (.ret (.var 2)) .nil)))⟩
@[simp] theorem io_ways_of : f_ways_of.io = [false, false] := rfl
def f_is_stale_from : FDef := ⟨[false, false, false, false], 4, (.cons (.ifs (.or (.cons (.e (.un .isNone (.var 3))) (.cons (.e (.bin .eq (.sub (.var 3) (.lit (.int 0))) (.lit (.str "written")))) .nil))) (.cons (.ret (.lit (.bl false))) .nil) .nil) (.cons (.ret (.or (.cons (.sub (.var 0) (.lit (.int 2))) (.cons (.ite (.e (.bin .eq (.sub (.var 3) (.lit (.int 0))) (.lit (.str "memory")))) (.var 1) (.sub (.var 2) (.sub (.var 3) (.lit (.int 1))))) .nil)))) .nil))⟩
@[simp] theorem io_is_stale_from : f_is_stale_from.io = [false, false, false, false] := rfl
def f_out_places : FDef := ⟨[false, false, false, false], 6, (.cons (.ret (.fz (.comp false [4, 5] (.call 83 (.cons (.var 0) (.cons (.var 4) (.cons (.call 95 (.cons (.var 1) (.cons (.var 2) (.cons (.var 3) (.cons (.var 5) .nil))))) .nil)))) (.tp [(.nm 4), (.nm 5)]) (.seq (.sub (.var 1) (.lit (.int 6)))) .nil))) .nil)⟩
@[simp] theorem io_out_places : f_out_places.io = [false, false, false, false] := rfl
def f_turned_place : FDef := ⟨[false, false, false, false, false], 7, (.cons (.asg (.tp [(.nm 5), (.nm 6)]) (.sub (.sub (.var 1) (.lit (.int 7))) (.sub (.var 4) (.lit (.int 0))))) (.cons (.ifs (.e (.bin .eq (.var 6) (.glob "OWN" (.tup [(.str "own")])))) (.cons (.ret (.call 83 (.cons (.var 0) (.cons (.var 5) (.cons (.or (.cons (.sub (.var 1) (.lit (.int 2))) (.cons (.bin .eq (.sub (.var 4) (.lit (.int 1))) (.lit (.int 1))) .nil))) .nil))))) .nil) .nil) (.cons (.ret (.call 83 (.cons (.var 0) (.cons (.var 5) (.cons (.call 95 (.cons (.var 1) (.cons (.var 2) (.cons (.var 3) (.cons (.var 6) .nil))))) .nil))))) .nil)))⟩
@[simp] theorem io_turned_place : f_turned_place.io = [false, false, false, false, false] := rfl
def f_all_places : FDef := ⟨[false], 4, (.cons (.asg (.nm 1) (.lst .nil)) (.cons (.loop (.tp [(.nm 2), (.nm 3)]) (.enum (.var 0)) (.cons (.ext 1 (.ite (.e (.var 3)) (.lst (.cons (.tup (.cons (.var 2) (.cons (.lit (.int 0)) .nil))) (.cons (.tup (.cons (.var 2) (.cons (.lit (.int 1)) .nil))) .nil))) (.lst (.cons (.tup (.cons (.var 2) (.cons (.lit (.int 0)) .nil))) .nil)))) .nil)) (.cons (.ret (.fz (.var 1))) .nil)))⟩
@[simp] theorem io_all_places : f_all_places.io = [false] := rfl
def f_table_of : FDef := ⟨[false, false], 3, (.cons (.ret (.fz (.dcomp [2] (.var 2) (.sub (.sub (.var 1) (.sub (.var 2) (.lit (.int 0)))) (.sub (.var 2) (.lit (.int 1)))) (.nm 2) (.seq (.call 98 (.cons (.var 0) .nil)))))) .nil)⟩
@[simp] theorem io_table_of : f_table_of.io = [false, false] := rfl
def f_law_stale_from : FDef := ⟨[false, false, false, false], 4, (.cons (.ifs (.e (.bin .eq (.var 3) (.tup (.cons (.lit (.str "written")) .nil)))) (.cons (.ret (.lit (.bl false))) .nil) .nil) (.cons (.ifs (.e (.bin .eq (.var 3) (.tup (.cons (.lit (.str "memory")) .nil)))) (.cons (.ret (.or (.cons (.var 1) (.cons (.sub (.var 0) (.lit (.int 2))) .nil)))) .nil) .nil) (.cons (.ret (.or (.cons (.sub (.var 2) (.sub (.var 3) (.lit (.int 1)))) (.cons (.sub (.var 0) (.lit (.int 2))) .nil)))) .nil)))⟩
@[simp] theorem io_law_stale_from : f_law_stale_from.io = [false, false, false, false] := rfl
def f_beginnings_of : FDef := ⟨[false, false], 6, (.cons (.asg (.nm 2) (.lst .nil)) (.cons (.loop (.nm 3) (.r1 (.sub (.var 0) (.lit (.int 1)))) (.cons (.ifs (.e (.call 56 (.cons (.var 1) (.cons (.var 3) .nil)))) (.cons (.loop (.nm 4) (.seq (.tup (.cons (.lit (.bl false)) (.cons (.lit (.bl true)) .nil)))) (.cons (.ext 2 (.comp false [5] (.tup (.cons (.var 3) (.cons (.var 4) (.cons (.var 5) .nil)))) (.nm 5) (.seq (.call 93 (.cons (.sub (.var 0) (.lit (.int 0))) (.cons (.sub (.var 1) (.lit (.int 5))) .nil)))) .nil)) .nil)) .nil) .nil) .nil)) (.cons (.ret (.fz (.var 2))) .nil)))⟩
@[simp] theorem io_beginnings_of : f_beginnings_of.io = [false, false] := rfl
def f_backs : FDef := ⟨[false, false, false], 7, (.cons (.asg (.nm 3) (.lst .nil)) (.cons (.loop (.tp [(.nm 4), (.nm 5), (.nm 6)]) (.seq (.call 123 (.cons (.var 0) (.cons (.var 2) .nil)))) (.cons (.ifs (.and (.cons (.e (.bin .eq (.call 57 (.cons (.var 2) (.cons (.var 4) .nil))) (.sub (.var 1) (.lit (.int 0))))) (.cons (.e (.bin .eq (.call 95 (.cons (.var 2) (.cons (.var 5) (.cons (.var 6) (.cons (.sub (.var 2) (.lit (.int 3))) .nil))))) (.sub (.var 1) (.lit (.int 1))))) .nil))) (.cons (.app 3 (.tup (.cons (.var 4) (.cons (.var 5) (.cons (.var 6) .nil))))) .nil) .nil) .nil)) (.cons (.ret (.fz (.var 3))) .nil)))⟩
@[simp] theorem io_backs : f_backs.io = [false, false, false] := rfl
def f_wanted : FDef := ⟨[false, false, false, false, false], 7, (.cons (.asg (.nm 5) (.call 99 (.cons (.sub (.var 0) (.lit (.int 0))) (.cons (.sub (.var 1) (.lit (.int 2))) .nil)))) (.cons (.loop (.nm 6) (.seq (.call 96 (.cons (.sub (.var 0) (.lit (.int 0))) (.cons (.var 2) (.cons (.var 3) (.cons (.var 4) .nil)))))) (.cons (.setIx 5 (.var 6) (.bin .max2 (.lit (.int 0)) (.bin .sub (.sub (.var 5) (.var 6)) (.lit (.int 1))))) .nil)) (.cons (.ret (.fz (.var 5))) .nil)))⟩
@[simp] theorem io_wanted : f_wanted.io = [false, false, false, false, false] := rfl
def f_sources : FDef := ⟨[false, false, false, false], 6, (.cons (.asg (.nm 4) (.dcomp [5] (.var 5) (.lst .nil) (.nm 5) (.seq (.call 98 (.cons (.sub (.var 0) (.lit (.int 0))) .nil))))) (.cons (.loop (.nm 5) (.seq (.call 98 (.cons (.sub (.var 0) (.lit (.int 0))) .nil))) (.cons (.app2 4 (.call 97 (.cons (.sub (.var 0) (.lit (.int 0))) (.cons (.var 1) (.cons (.var 2) (.cons (.var 3) (.cons (.var 5) .nil)))))) (.var 5)) .nil)) (.cons (.ret (.fz (.var 4))) .nil)))⟩
@[simp] theorem io_sources : f_sources.io = [false, false, false, false] := rfl
def f_spread_count : FDef := ⟨[false, false], 4, (.cons (.ifs (.e (.bin .eq (.var 1) (.lit (.int 0)))) (.cons (.ret (.un .int (.bin .eq (.var 0) (.lit (.int 0))))) .nil) .nil) (.cons (.asg (.nm 2) (.lit (.int 1))) (.cons (.loop (.nm 3) (.r2 (.lit (.int 1)) (.var 1)) (.cons (.asg (.nm 2) (.fz (.bin .fdiv (.bin .mul (.var 2) (.bin .add (.var 0) (.var 3))) (.var 3)))) .nil)) (.cons (.ret (.var 2)) .nil))))⟩
@[simp] theorem io_spread_count : f_spread_count.io = [false, false] := rfl
def f_ways_back_by : FDef := ⟨[false, false, false], 11, (.cons (.asg (.nm 3) (.lit (.int 0))) (.cons (.loop (.tp [(.nm 4), (.nm 5), (.nm 6)]) (.seq (.call 125 (.cons (.var 0) (.cons (.var 1) (.cons (.var 2) .nil))))) (.cons (.asg (.nm 7) (.call 126 (.cons (.var 0) (.cons (.var 1) (.cons (.var 2) (.cons (.var 5) (.cons (.var 6) .nil))))))) (.cons (.asg (.nm 8) (.call 127 (.cons (.var 0) (.cons (.var 2) (.cons (.var 5) (.cons (.var 6) .nil)))))) (.cons (.asg (.nm 9) (.lit (.int 1))) (.cons (.loop (.nm 10) (.seq (.var 7)) (.cons (.asg (.nm 9) (.fz (.bin .mul (.var 9) (.call 128 (.cons (.sub (.var 7) (.var 10)) (.cons (.un .len (.sub (.var 8) (.var 10))) .nil)))))) .nil)) (.cons (.asg (.nm 3) (.fz (.bin .add (.var 3) (.var 9)))) .nil)))))) (.cons (.ret (.var 3)) .nil)))⟩
@[simp] theorem io_ways_back_by : f_ways_back_by.io = [false, false, false] := rfl
def f_ways_back : FDef := ⟨[false, false], 4, (.cons (.ret (.un .sum (.comp2 false [2, 3] [3] (.call 129 (.cons (.var 0) (.cons (.var 2) (.cons (.var 3) .nil)))) (.nm 2) (.seq (.var 1)) (.nm 3) (.seq (.sub (.var 0) (.lit (.int 2))))))) .nil)⟩
@[simp] theorem io_ways_back : f_ways_back.io = [false, false] := rfl
def f_law_all_ways : FDef := ⟨[false, false], 6, (.cons (.asg (.nm 2) (.fz (.lst (.cons (.tup .nil) .nil)))) (.cons (.loop (.nm 3) (.seq (.var 1)) (.cons (.asg (.nm 4) (.fz (.comp false [5] (.bin .add (.var 5) (.tup (.cons (.lit (.bl true)) .nil))) (.nm 5) (.seq (.var 2)) (.cons (.e (.sub (.var 0) (.var 3))) .nil)))) (.cons (.asg (.nm 2) (.fz (.bin .add (.comp false [5] (.bin .add (.var 5) (.tup (.cons (.lit (.bl false)) .nil))) (.nm 5) (.seq (.var 2)) .nil) (.var 4)))) .nil))) (.cons (.ret (.var 2)) .nil)))⟩
@[simp] theorem io_law_all_ways : f_law_all_ways.io = [false, false] := rfl
def f_law_places : FDef := ⟨[false], 2, (.cons (.ret (.fz (.bin .add (.comp false [1] (.tup (.cons (.var 1) (.cons (.lit (.bl false)) .nil))) (.nm 1) (.r1 (.un .len (.var 0))) .nil) (.comp false [1] (.tup (.cons (.var 1) (.cons (.lit (.bl true)) .nil))) (.nm 1) (.r1 (.un .len (.var 0))) (.cons (.e (.sub (.var 0) (.var 1))) .nil))))) .nil)⟩
@[simp] theorem io_law_places : f_law_places.io = [false] := rfl
def f_law_turned : FDef := ⟨[false, false, false, false, false], 7, (.cons (.asg (.tp [(.nm 5), (.nm 6)]) (.sub (.sub (.var 1) (.lit (.int 7))) (.sub (.var 4) (.lit (.int 0))))) (.cons (.ifs (.not (.e (.sub (.var 0) (.var 5)))) (.cons (.ret (.tup (.cons (.var 5) (.cons (.lit (.bl false)) .nil)))) .nil) .nil) (.cons (.ifs (.e (.bin .eq (.var 6) (.tup (.cons (.lit (.str "own")) .nil)))) (.cons (.ret (.tup (.cons (.var 5) (.cons (.or (.cons (.sub (.var 4) (.lit (.int 1))) (.cons (.sub (.var 1) (.lit (.int 2))) .nil))) .nil)))) .nil) .nil) (.cons (.ret (.tup (.cons (.var 5) (.cons (.call 109 (.cons (.var 1) (.cons (.var 2) (.cons (.var 3) (.cons (.var 6) .nil))))) .nil)))) .nil))))⟩
@[simp] theorem io_law_turned : f_law_turned.io = [false, false, false, false, false] := rfl
def f_law_starts : FDef := ⟨[false, false, false], 7, (.cons (.asg (.nm 3) (.lst .nil)) (.cons (.loop (.nm 4) (.r1 (.sub (.var 0) (.lit (.int 1)))) (.cons (.ifs (.and (.cons (.e (.bin .inn (.sub (.var 1) (.lit (.int 0))) (.tup (.cons (.lit .non) (.cons (.var 4) .nil))))) (.cons (.e (.bin .eq (.ite (.e (.un .isNone (.sub (.var 1) (.lit (.int 1))))) (.var 4) (.sub (.var 1) (.lit (.int 1)))) (.sub (.var 2) (.lit (.int 0))))) .nil))) (.cons (.loop (.nm 5) (.seq (.tup (.cons (.lit (.bl false)) (.cons (.lit (.bl true)) .nil)))) (.cons (.loop (.nm 6) (.seq (.call 139 (.cons (.sub (.var 0) (.lit (.int 0))) (.cons (.sub (.var 1) (.lit (.int 5))) .nil)))) (.cons (.ifs (.e (.bin .eq (.call 109 (.cons (.var 1) (.cons (.var 5) (.cons (.var 6) (.cons (.sub (.var 1) (.lit (.int 3))) .nil))))) (.sub (.var 2) (.lit (.int 1))))) (.cons (.app 3 (.tup (.cons (.var 4) (.cons (.var 5) (.cons (.var 6) .nil))))) .nil) .nil) .nil)) .nil)) .nil) .nil) .nil)) (.cons (.ret (.fz (.var 3))) .nil)))⟩
@[simp] theorem io_law_starts : f_law_starts.io = [false, false, false] := rfl
def f_law_lack : FDef := ⟨[false, false, false, false], 9, (.cons (.asg (.nm 4) (.sub (.var 0) (.lit (.int 0)))) (.cons (.asg (.nm 5) (.lst .nil)) (.cons (.loop (.tp [(.nm 6), (.nm 7)]) (.seq (.sub (.var 1) (.lit (.int 6)))) (.cons (.app 5 (.tup (.cons (.var 6) (.cons (.and (.cons (.sub (.var 4) (.var 6)) (.cons (.call 109 (.cons (.var 1) (.cons (.sub (.var 2) (.lit (.int 1))) (.cons (.sub (.var 2) (.lit (.int 2))) (.cons (.var 7) .nil))))) .nil))) .nil)))) .nil)) (.cons (.ret (.fz (.comp false [8] (.tup (.cons (.var 8) (.cons (.bin .max2 (.lit (.int 0)) (.bin .sub (.sub (.sub (.sub (.var 3) (.lit (.int 2))) (.sub (.var 8) (.lit (.int 0)))) (.un .int (.sub (.var 8) (.lit (.int 1))))) (.bin .count (.var 5) (.var 8)))) .nil))) (.nm 8) (.seq (.call 140 (.cons (.var 4) .nil))) .nil))) .nil))))⟩
@[simp] theorem io_law_lack : f_law_lack.io = [false, false, false, false] := rfl
def f_law_choose : FDef := ⟨[false, false], 5, (.cons (.asg (.nm 2) (.bin .add (.lst (.cons (.lit (.int 1)) .nil)) (.bin .mul (.lst (.cons (.lit (.int 0)) .nil)) (.var 0)))) (.cons (.loop (.nm 3) (.r1 (.var 1)) (.cons (.loop (.nm 4) (.r2 (.lit (.int 1)) (.bin .add (.var 0) (.lit (.int 1)))) (.cons (.setIx 2 (.var 4) (.bin .add (.sub (.var 2) (.var 4)) (.sub (.var 2) (.bin .sub (.var 4) (.lit (.int 1)))))) .nil)) .nil)) (.cons (.ret (.sub (.var 2) (.var 0))) .nil)))⟩
@[simp] theorem io_law_choose : f_law_choose.io = [false, false] := rfl
def f_law_ways_back : FDef := ⟨[false, false], 10, (.cons (.asg (.nm 2) (.lit (.int 0))) (.cons (.loop (.nm 3) (.seq (.var 1)) (.cons (.loop (.nm 4) (.seq (.sub (.var 0) (.lit (.int 2)))) (.cons (.loop (.nm 5) (.seq (.call 142 (.cons (.var 0) (.cons (.var 4) (.cons (.var 3) .nil))))) (.cons (.asg (.nm 6) (.fz (.comp false [8] (.call 141 (.cons (.sub (.var 0) (.lit (.int 0))) (.cons (.var 4) (.cons (.sub (.var 5) (.lit (.int 1))) (.cons (.sub (.var 5) (.lit (.int 2))) (.cons (.var 8) .nil)))))) (.nm 8) (.seq (.call 140 (.cons (.sub (.var 0) (.lit (.int 0))) .nil))) .nil))) (.cons (.asg (.nm 7) (.lit (.int 1))) (.cons (.loop (.tp [(.nm 8), (.nm 9)]) (.seq (.call 143 (.cons (.var 0) (.cons (.var 4) (.cons (.var 5) (.cons (.var 3) .nil)))))) (.cons (.asg (.nm 7) (.fz (.bin .mul (.var 7) (.call 144 (.cons (.var 9) (.cons (.bin .count (.var 6) (.var 8)) .nil)))))) .nil)) (.cons (.asg (.nm 2) (.fz (.bin .add (.var 2) (.var 7)))) .nil))))) .nil)) .nil)) (.cons (.ret (.var 2)) .nil)))⟩
@[simp] theorem io_law_ways_back : f_law_ways_back.io = [false, false] := rfl
def f_law_sums : FDef := ⟨[false, false], 5, (.cons (.ifs (.e (.bin .eq (.var 1) (.lit (.int 0)))) (.cons (.ret (.fz (.ite (.e (.bin .eq (.var 0) (.lit (.int 0)))) (.lst (.cons (.lst .nil) .nil)) (.lst .nil)))) .nil) .nil) (.cons (.asg (.nm 2) (.lst .nil)) (.cons (.loop (.nm 3) (.r1 (.bin .add (.var 0) (.lit (.int 1)))) (.cons (.ext 2 (.comp false [4] (.bin .add (.lst (.cons (.var 3) .nil)) (.var 4)) (.nm 4) (.seq (.call 146 (.cons (.bin .sub (.var 0) (.var 3)) (.cons (.bin .sub (.var 1) (.lit (.int 1))) .nil)))) .nil)) .nil)) (.cons (.ret (.fz (.var 2))) .nil))))⟩
@[simp] theorem io_law_sums : f_law_sums.io = [false, false] := rfl
def f_law_size : FDef := ⟨[false], 2, (.cons (.ret (.un .sum (.comp false [1] (.bin .add (.sub (.var 1) (.lit (.int 0))) (.sub (.var 1) (.lit (.int 1)))) (.nm 1) (.seq (.sub (.var 0) (.lit (.int 2)))) .nil))) .nil)⟩
@[simp] theorem io_law_size : f_law_size.io = [false] := rfl
def f_law_tried : FDef := ⟨[false, false], 14, (.cons (.asg (.nm 2) (.sub (.var 0) (.lit (.int 0)))) (.cons (.asg (.nm 3) (.call 140 (.cons (.var 2) .nil))) (.cons (.asg (.nm 4) (.lit (.int 0))) (.cons (.loop (.nm 5) (.seq (.sub (.var 0) (.lit (.int 2)))) (.cons (.loop (.nm 6) (.seq (.call 142 (.cons (.var 0) (.cons (.var 5) (.cons (.var 1) .nil))))) (.cons (.asg (.nm 7) (.call 143 (.cons (.var 0) (.cons (.var 5) (.cons (.var 6) (.cons (.var 1) .nil)))))) (.cons (.asg (.nm 8) (.fz (.comp false [11] (.call 141 (.cons (.var 2) (.cons (.var 5) (.cons (.sub (.var 6) (.lit (.int 1))) (.cons (.sub (.var 6) (.lit (.int 2))) (.cons (.var 11) .nil)))))) (.nm 11) (.seq (.var 3)) .nil))) (.cons (.loop (.nm 9) (.seq (.call 146 (.cons (.un .sum (.comp false [12] (.sub (.var 12) (.lit (.int 1))) (.nm 12) (.seq (.var 7)) .nil)) (.cons (.un .len (.var 3)) .nil)))) (.cons (.asg (.nm 10) (.fz (.comp false [12] (.un .sum (.comp false [13] (.sub (.var 9) (.var 13)) (.nm 13) (.r1 (.un .len (.var 9))) (.cons (.e (.bin .eq (.sub (.var 8) (.var 13)) (.sub (.var 12) (.lit (.int 0))))) .nil))) (.nm 12) (.seq (.var 7)) .nil))) (.cons (.asg (.nm 4) (.fz (.bin .add (.var 4) (.un .int (.bin .eq (.var 10) (.comp false [12] (.sub (.var 12) (.lit (.int 1))) (.nm 12) (.seq (.var 7)) .nil)))))) .nil))) .nil)))) .nil)) (.cons (.ret (.var 4)) .nil)))))⟩
@[simp] theorem io_law_tried : f_law_tried.io = [false, false] := rfl
def f_law_is_just : FDef := ⟨[false, false], 2, (.cons (.ret (.and (.cons (.call 17 (.cons (.var 0) (.cons (.lit (.int 0)) (.cons (.bin .pow (.lit (.int 10)) (.lit (.int 60))) .nil)))) (.cons (.bin .eq (.var 0) (.var 1)) .nil)))) .nil)⟩
@[simp] theorem io_law_is_just : f_law_is_just.io = [false, false] := rfl
def f_law_v11 : FDef := ⟨[false], 12, (.cons (.asg (.nm 1) (.call 13 (.cons (.var 0) .nil))) (.cons (.asg (.nm 2) (.call 31 (.io 1 .nil))) (.cons (.asg (.nm 3) (.lst .nil)) (.cons (.loop (.nm 4) (.r1 (.call 14 (.io 1 (.cons (.lit (.int 5)) .nil)))) (.cons (.asg (.tp [(.nm 9), (.nm 10), (.nm 11)]) (.call 90 (.io 1 (.cons (.var 2) .nil)))) (.cons (.asg (.nm 6) (.call 14 (.io 1 (.cons (.un .len (.var 11)) .nil)))) (.cons (.asg (.nm 7) (.call 15 (.io 1 (.cons (.lst (.cons (.lit (.int 0)) (.cons (.lit (.int 0)) (.cons (.lit (.int 0)) (.cons (.lit (.int 1)) (.cons (.lit (.int 40)) .nil)))))) .nil)))) (.cons (.asg (.nm 8) (.tup (.cons (.bin .add (.sub (.sub (.var 11) (.var 6)) (.lit (.int 0))) (.var 7)) (.cons (.sub (.sub (.var 11) (.var 6)) (.lit (.int 1))) .nil)))) (.cons (.app 3 (.tup (.cons (.var 9) (.cons (.var 10) (.cons (.bin .add (.bin .add (.slice (.var 11) .nil (.cons (.var 6) .nil)) (.tup (.cons (.var 8) .nil))) (.slice (.var 11) (.cons (.bin .add (.var 6) (.lit (.int 1))) .nil) .nil)) .nil))))) (.cons (.ifs (.e (.bin .eq (.call 14 (.io 1 (.cons (.lit (.int 4)) .nil))) (.lit (.int 0)))) (.cons (.app 3 (.sub (.var 3) (.call 14 (.io 1 (.cons (.un .len (.var 3)) .nil))))) .nil) .nil) .nil))))))) (.cons (.ifs (.not (.e (.call 170 (.cons (.call 130 (.cons (.var 2) (.cons (.var 3) .nil))) (.cons (.call 145 (.cons (.var 2) (.cons (.var 3) .nil))) .nil))))) (.cons (.ret (.lit (.bl false))) .nil) .nil) (.cons (.loop (.nm 5) (.seq (.slice (.var 3) .nil (.cons (.lit (.int 2)) .nil))) (.cons (.ifs (.and (.cons (.e (.bin .lt (.call 150 (.cons (.var 5) .nil)) (.lit (.int 4)))) (.cons (.not (.e (.call 170 (.cons (.call 130 (.cons (.var 2) (.cons (.lst (.cons (.var 5) .nil)) .nil))) (.cons (.call 169 (.cons (.var 2) (.cons (.var 5) .nil))) .nil))))) .nil))) (.cons (.ret (.lit (.bl false))) .nil) .nil) .nil)) (.cons (.ret (.call 170 (.cons (.call 130 (.cons (.var 2) (.cons (.lst .nil) .nil))) (.cons (.lit (.int 0)) .nil)))) .nil)))))))⟩
@[simp] theorem io_law_v11 : f_law_v11.io = [false] := rfl
def f_counted : FDef := ⟨[false, false], 3, (.cons (.ret (.un .tuple (.comp false [2] (.tup (.cons (.bin .count (.var 1) (.tup (.cons (.var 2) (.cons (.lit (.int 0)) .nil)))) (.cons (.bin .count (.var 1) (.tup (.cons (.var 2) (.cons (.lit (.int 1)) .nil)))) .nil))) (.nm 2) (.r1 (.un .len (.var 0))) .nil))) .nil)⟩
@[simp] theorem io_counted : f_counted.io = [false, false] := rfl
def f_covers : FDef := ⟨[false, false], 4, (.cons (.ifs (.e (.bin .ne (.slice (.var 0) .nil (.cons (.lit (.int 2)) .nil)) (.slice (.var 1) .nil (.cons (.lit (.int 2)) .nil)))) (.cons (.ret (.lit (.bl false))) .nil) .nil) (.cons (.ret (.un .all (.comp false [2, 3] (.and (.cons (.bin .ge (.sub (.var 2) (.lit (.int 0))) (.sub (.var 3) (.lit (.int 0)))) (.cons (.bin .ge (.sub (.var 2) (.lit (.int 1))) (.sub (.var 3) (.lit (.int 1)))) .nil))) (.tp [(.nm 2), (.nm 3)]) (.zip (.sub (.var 0) (.lit (.int 2))) (.sub (.var 1) (.lit (.int 2)))) .nil))) .nil))⟩
@[simp] theorem io_covers : f_covers.io = [false, false] := rfl
def f_is_holding : FDef := ⟨[false, false], 5, (.cons (.ifs (.or (.cons (.not (.e (.call 2 (.cons (.var 1) (.cons (.lit (.int 3)) (.cons (.lit (.int 3)) .nil)))))) (.cons (.not (.e (.call 1 (.cons (.sub (.var 1) (.lit (.int 0))) (.cons (.sub (.var 0) (.lit (.int 1))) .nil))))) (.cons (.not (.e (.un .isBool (.sub (.var 1) (.lit (.int 1)))))) .nil)))) (.cons (.ret (.lit (.bl false))) .nil) .nil) (.cons (.ifs (.not (.e (.call 2 (.cons (.sub (.var 1) (.lit (.int 2))) (.cons (.un .len (.sub (.var 0) (.lit (.int 0)))) (.cons (.un .len (.sub (.var 0) (.lit (.int 0)))) .nil)))))) (.cons (.ret (.lit (.bl false))) .nil) .nil) (.cons (.loop (.tp [(.nm 2), (.nm 3)]) (.enum (.sub (.var 1) (.lit (.int 2)))) (.cons (.ifs (.or (.cons (.not (.e (.call 2 (.cons (.var 3) (.cons (.lit (.int 2)) (.cons (.lit (.int 2)) .nil)))))) (.cons (.not (.e (.un .all (.comp false [4] (.and (.cons (.call 0 (.cons (.var 4) .nil)) (.cons (.bin .ge (.var 4) (.lit (.int 0))) .nil))) (.nm 4) (.seq (.var 3)) .nil)))) .nil))) (.cons (.ret (.lit (.bl false))) .nil) .nil) (.cons (.ifs (.and (.cons (.e (.bin .gt (.sub (.var 3) (.lit (.int 1))) (.lit (.int 0)))) (.cons (.not (.e (.sub (.sub (.var 0) (.lit (.int 0))) (.var 2)))) .nil))) (.cons (.ret (.lit (.bl false))) .nil) .nil) .nil))) (.cons (.ret (.lit (.bl true))) .nil))))⟩
@[simp] theorem io_is_holding : f_is_holding.io = [false, false] := rfl
def f_law_covers : FDef := ⟨[false, false], 3, (.cons (.ifs (.e (.bin .ne (.slice (.var 0) .nil (.cons (.lit (.int 2)) .nil)) (.slice (.var 1) .nil (.cons (.lit (.int 2)) .nil)))) (.cons (.ret (.lit (.bl false))) .nil) .nil) (.cons (.ret (.un .all (.comp false [2] (.and (.cons (.bin .ge (.sub (.sub (.sub (.var 0) (.lit (.int 2))) (.var 2)) (.lit (.int 0))) (.sub (.sub (.sub (.var 1) (.lit (.int 2))) (.var 2)) (.lit (.int 0)))) (.cons (.bin .ge (.sub (.sub (.sub (.var 0) (.lit (.int 2))) (.var 2)) (.lit (.int 1))) (.sub (.sub (.sub (.var 1) (.lit (.int 2))) (.var 2)) (.lit (.int 1)))) .nil))) (.nm 2) (.r1 (.un .len (.sub (.var 0) (.lit (.int 2))))) .nil))) .nil))⟩
@[simp] theorem io_law_covers : f_law_covers.io = [false, false] := rfl
def f_places_of : FDef := ⟨[false, false, false], 5, (.cons (.ret (.fz (.comp false [3, 4] (.call 83 (.cons (.var 0) (.cons (.var 3) (.cons (.var 4) .nil)))) (.tp [(.nm 3), (.nm 4)]) (.zip (.var 1) (.var 2)) .nil))) .nil)⟩
@[simp] theorem io_places_of : f_places_of.io = [false, false, false] := rfl
def f_reads_stale : FDef := ⟨[false, false, false], 3, (.cons (.ifs (.e (.un .isNone (.sub (.var 0) (.lit (.int 4))))) (.cons (.ret (.lit (.bl false))) .nil) .nil) (.cons (.ret (.fz (.ite (.e (.bin .eq (.sub (.sub (.var 0) (.lit (.int 4))) (.lit (.int 0))) (.lit (.str "memory")))) (.var 1) (.sub (.var 2) (.sub (.sub (.var 0) (.lit (.int 4))) (.lit (.int 1))))))) .nil))⟩
@[simp] theorem io_reads_stale : f_reads_stale.io = [false, false, false] := rfl
def f_law_in_ways : FDef := ⟨[false, false, false], 10, (.cons (.asg (.nm 3) (.fz (.lst (.cons (.tup .nil) .nil)))) (.cons (.loop (.nm 4) (.seq (.sub (.var 2) (.lit (.int 5)))) (.cons (.asg (.nm 3) (.fz (.bin .add (.comp false [6] (.bin .add (.var 6) (.tup (.cons (.lit (.bl false)) .nil))) (.nm 6) (.seq (.var 3)) .nil) (.comp false [6] (.bin .add (.var 6) (.tup (.cons (.lit (.bl true)) .nil))) (.nm 6) (.seq (.var 3)) (.cons (.e (.sub (.sub (.var 0) (.lit (.int 0))) (.var 4))) .nil))))) .nil)) (.cons (.ifs (.and (.cons (.e (.un .notNone (.sub (.var 2) (.lit (.int 0))))) (.cons (.e (.bin .ne (.sub (.var 2) (.lit (.int 0))) (.sub (.var 1) (.lit (.int 0))))) .nil))) (.cons (.ret (.fz (.lst .nil))) .nil) .nil) (.cons (.asg (.nm 5) (.lst .nil)) (.cons (.loop (.nm 6) (.seq (.un .sorted (.var 3))) (.cons (.asg (.nm 7) (.fz (.comp false [8] (.tup (.cons (.sub (.sub (.var 2) (.lit (.int 5))) (.var 8)) (.cons (.sub (.var 6) (.var 8)) .nil))) (.nm 8) (.r1 (.un .len (.var 6))) .nil))) (.cons (.ifs (.e (.un .all (.comp false [9] (.bin .le (.bin .count (.var 7) (.var 9)) (.sub (.sub (.sub (.var 1) (.lit (.int 2))) (.sub (.var 9) (.lit (.int 0)))) (.un .int (.sub (.var 9) (.lit (.int 1)))))) (.nm 9) (.seq (.var 7)) .nil))) (.cons (.app 5 (.var 6)) .nil) .nil) .nil))) (.cons (.ret (.fz (.var 5))) .nil))))))⟩
@[simp] theorem io_law_in_ways : f_law_in_ways.io = [false, false, false] := rfl
def f_law_reads_stale : FDef := ⟨[false, false, false], 4, (.cons (.loop (.nm 3) (.seq (.call 110 (.cons (.var 0) (.cons (.var 1) (.cons (.var 2) .nil))))) (.cons (.ifs (.or (.cons (.and (.cons (.e (.bin .eq (.sub (.var 2) (.lit (.int 4))) (.tup (.cons (.lit (.str "memory")) .nil)))) (.cons (.e (.sub (.var 1) (.lit (.int 1)))) .nil))) (.cons (.and (.cons (.e (.un .notNone (.sub (.var 2) (.lit (.int 4))))) (.cons (.e (.bin .eq (.sub (.sub (.var 2) (.lit (.int 4))) (.lit (.int 0))) (.lit (.str "in")))) (.cons (.e (.sub (.var 3) (.sub (.sub (.var 2) (.lit (.int 4))) (.lit (.int 1))))) .nil)))) .nil))) (.cons (.ret (.lit (.bl true))) .nil) .nil) .nil)) (.cons (.ret (.lit (.bl false))) .nil))⟩
@[simp] theorem io_law_reads_stale : f_law_reads_stale.io = [false, false, false] := rfl
def f_covers_one : FDef := ⟨[false, false], 3, (.cons (.ret (.un .any (.comp false [2] (.call 86 (.cons (.var 0) (.cons (.var 2) .nil))) (.nm 2) (.seq (.var 1)) .nil))) .nil)⟩
@[simp] theorem io_covers_one : f_covers_one.io = [false, false] := rfl
def f_size : FDef := ⟨[false], 2, (.cons (.ret (.un .sum (.comp false [1] (.bin .add (.sub (.var 1) (.lit (.int 0))) (.sub (.var 1) (.lit (.int 1)))) (.nm 1) (.seq (.sub (.var 0) (.lit (.int 2)))) .nil))) .nil)⟩
@[simp] theorem io_size : f_size.io = [false] := rfl
def f_with_pattern : FDef := ⟨[false, false], 7, (.cons (.asg (.nm 2) (.fz (.ite (.e (.un .isNone (.sub (.var 1) (.lit (.int 0))))) (.listr (.r1 (.sub (.var 0) (.lit (.int 1))))) (.lst (.cons (.sub (.var 1) (.lit (.int 0))) .nil))))) (.cons (.asg (.nm 3) (.lst .nil)) (.cons (.loop (.nm 4) (.seq (.call 93 (.cons (.sub (.var 0) (.lit (.int 0))) (.cons (.sub (.var 1) (.lit (.int 1))) .nil)))) (.cons (.asg (.nm 5) (.call 84 (.cons (.sub (.var 0) (.lit (.int 0))) (.cons (.call 94 (.cons (.sub (.var 0) (.lit (.int 0))) (.cons (.sub (.var 1) (.lit (.int 1))) (.cons (.var 4) .nil)))) .nil)))) (.cons (.loop (.nm 6) (.seq (.var 2)) (.cons (.ext 3 (.lst (.cons (.tup (.cons (.var 6) (.cons (.lit (.bl false)) (.cons (.var 5) .nil)))) (.cons (.tup (.cons (.var 6) (.cons (.lit (.bl true)) (.cons (.var 5) .nil)))) .nil)))) .nil)) .nil))) (.cons (.ret (.fz (.var 3))) .nil))))⟩
@[simp] theorem io_with_pattern : f_with_pattern.io = [false, false] := rfl
def f_readings : FDef := ⟨[false, false], 7, (.cons (.asg (.nm 2) (.lst .nil)) (.cons (.loop (.nm 3) (.seq (.ite (.e (.sub (.var 1) (.lit (.int 1)))) (.sub (.var 0) (.lit (.int 2))) (.tup .nil))) (.cons (.loop (.tp [(.nm 4), (.nm 5), (.nm 6)]) (.seq (.call 123 (.cons (.var 0) (.cons (.var 3) .nil)))) (.cons (.ifs (.e (.call 106 (.cons (.var 3) (.cons (.var 5) (.cons (.var 6) .nil))))) (.cons (.app 2 (.tup (.cons (.var 4) (.cons (.var 5) (.cons (.call 84 (.cons (.sub (.var 0) (.lit (.int 0))) (.cons (.call 94 (.cons (.sub (.var 0) (.lit (.int 0))) (.cons (.sub (.var 3) (.lit (.int 5))) (.cons (.var 6) .nil)))) .nil))) .nil))))) .nil) .nil) .nil)) .nil)) (.cons (.ret (.fz (.var 2))) .nil)))⟩
@[simp] theorem io_readings : f_readings.io = [false, false] := rfl
def f_spreads : FDef := ⟨[false, false], 6, (.cons (.ifs (.e (.bin .eq (.var 0) (.lit (.int 0)))) (.cons (.ret (.fz (.lst (.cons (.lst .nil) .nil)))) .nil) .nil) (.cons (.asg (.nm 2) (.lst .nil)) (.cons (.loop (.tp [(.nm 3), (.nm 4)]) (.enum (.var 1)) (.cons (.ext 2 (.comp false [5] (.bin .add (.lst (.cons (.var 4) .nil)) (.var 5)) (.nm 5) (.seq (.call 131 (.cons (.bin .sub (.var 0) (.lit (.int 1))) (.cons (.slice (.var 1) (.cons (.var 3) .nil) .nil) .nil)))) .nil)) .nil)) (.cons (.ret (.fz (.var 2))) .nil))))⟩
@[simp] theorem io_spreads : f_spreads.io = [false, false] := rfl
def f_others_for : FDef := ⟨[false, false], 7, (.cons (.asg (.nm 2) (.fz (.lst (.cons (.lst .nil) .nil)))) (.cons (.loop (.nm 3) (.seq (.var 0)) (.cons (.asg (.nm 4) (.call 131 (.cons (.sub (.var 0) (.var 3)) (.cons (.sub (.var 1) (.var 3)) .nil)))) (.cons (.asg (.nm 2) (.fz (.comp2 false [5, 6] [6] (.bin .add (.var 5) (.var 6)) (.nm 5) (.seq (.var 2)) (.nm 6) (.seq (.var 4))))) .nil))) (.cons (.ret (.var 2)) .nil)))⟩
@[simp] theorem io_others_for : f_others_for.io = [false, false] := rfl
def f_ahead : FDef := ⟨[false, false], 10, (.cons (.asg (.nm 2) (.lst .nil)) (.cons (.loop (.nm 3) (.seq (.sub (.var 0) (.lit (.int 2)))) (.cons (.loop (.tp [(.nm 4), (.nm 5), (.nm 6)]) (.seq (.call 125 (.cons (.var 0) (.cons (.var 1) (.cons (.var 3) .nil))))) (.cons (.asg (.nm 7) (.call 94 (.cons (.sub (.var 0) (.lit (.int 0))) (.cons (.sub (.var 3) (.lit (.int 5))) (.cons (.var 6) .nil))))) (.cons (.asg (.nm 8) (.call 126 (.cons (.var 0) (.cons (.var 1) (.cons (.var 3) (.cons (.var 5) (.cons (.var 6) .nil))))))) (.cons (.loop (.nm 9) (.seq (.call 132 (.cons (.var 8) (.cons (.call 127 (.cons (.var 0) (.cons (.var 3) (.cons (.var 5) (.cons (.var 6) .nil))))) .nil)))) (.cons (.app 2 (.tup (.cons (.var 4) (.cons (.var 5) (.cons (.call 84 (.cons (.sub (.var 0) (.lit (.int 0))) (.cons (.bin .add (.un .list (.var 7)) (.var 9)) .nil))) .nil))))) .nil)) .nil)))) .nil)) (.cons (.ret (.fz (.var 2))) .nil)))⟩
@[simp] theorem io_ahead : f_ahead.io = [false, false] := rfl
def f_is_too_large : FDef := ⟨[false, false], 3, (.cons (.ifs (.or (.cons (.e (.bin .gt (.un .len (.var 1)) (.glob "MOST_HOLDINGS" (.int 60)))) (.cons (.e (.un .any (.comp false [2] (.bin .gt (.call 120 (.cons (.var 2) .nil)) (.glob "MOST_TOKENS" (.int 6))) (.nm 2) (.seq (.var 1)) .nil))) .nil))) (.cons (.ret (.lit (.bl true))) .nil) .nil) (.cons (.ret (.bin .gt (.call 130 (.cons (.var 0) (.cons (.var 1) .nil))) (.glob "MOST_WAYS" (.int 3000)))) .nil))⟩
@[simp] theorem io_is_too_large : f_is_too_large.io = [false, false] := rfl
def f_law_counted : FDef := ⟨[false, false], 6, (.cons (.asg (.nm 2) (.comp false [5] (.lst (.cons (.lit (.int 0)) (.cons (.lit (.int 0)) .nil))) (.nm 5) (.seq (.var 0)) .nil)) (.cons (.loop (.tp [(.nm 3), (.nm 4)]) (.seq (.var 1)) (.cons (.setIx2 2 (.sub (.var 3) (.lit (.int 0))) (.un .int (.sub (.var 3) (.lit (.int 1)))) (.bin .add (.sub (.sub (.var 2) (.sub (.var 3) (.lit (.int 0)))) (.un .int (.sub (.var 3) (.lit (.int 1))))) (.var 4))) .nil)) (.cons (.ret (.un .tuple (.comp false [5] (.un .tuple (.var 5)) (.nm 5) (.seq (.var 2)) .nil))) .nil)))⟩
@[simp] theorem io_law_counted : f_law_counted.io = [false, false] := rfl
def f_law_others : FDef := ⟨[false, false, false, false], 15, (.cons (.asg (.nm 4) (.call 140 (.cons (.sub (.var 0) (.lit (.int 0))) .nil))) (.cons (.asg (.nm 5) (.fz (.lst (.cons (.lst .nil) .nil)))) (.cons (.loop (.tp [(.nm 6), (.nm 7)]) (.seq (.call 143 (.cons (.var 0) (.cons (.var 1) (.cons (.var 2) (.cons (.var 3) .nil)))))) (.cons (.asg (.nm 8) (.fz (.comp false [12] (.var 12) (.nm 12) (.seq (.var 4)) (.cons (.e (.bin .eq (.call 141 (.cons (.sub (.var 0) (.lit (.int 0))) (.cons (.var 1) (.cons (.sub (.var 2) (.lit (.int 1))) (.cons (.sub (.var 2) (.lit (.int 2))) (.cons (.var 12) .nil)))))) (.var 6))) .nil)))) (.cons (.asg (.nm 9) (.lst .nil)) (.cons (.loop (.nm 10) (.seq (.call 146 (.cons (.var 7) (.cons (.un .len (.var 8)) .nil)))) (.cons (.asg (.nm 11) (.fz (.comp false [13] (.tup (.cons (.sub (.var 8) (.var 13)) (.cons (.sub (.var 10) (.var 13)) .nil))) (.nm 13) (.r1 (.un .len (.var 10))) .nil))) (.cons (.ext 9 (.comp false [14] (.bin .add (.var 14) (.var 11)) (.nm 14) (.seq (.var 5)) .nil)) .nil))) (.cons (.asg (.nm 5) (.fz (.var 9))) .nil))))) (.cons (.ret (.var 5)) .nil))))⟩
@[simp] theorem io_law_others : f_law_others.io = [false, false, false, false] := rfl
def f_law_ahead : FDef := ⟨[false, false], 8, (.cons (.asg (.nm 2) (.lst .nil)) (.cons (.loop (.nm 3) (.seq (.sub (.var 0) (.lit (.int 2)))) (.cons (.loop (.nm 4) (.seq (.call 142 (.cons (.var 0) (.cons (.var 3) (.cons (.var 1) .nil))))) (.cons (.asg (.nm 5) (.fz (.comp false [7] (.tup (.cons (.tup (.cons (.sub (.sub (.var 3) (.lit (.int 5))) (.var 7)) (.cons (.sub (.sub (.var 4) (.lit (.int 2))) (.var 7)) .nil))) (.cons (.lit (.int 1)) .nil))) (.nm 7) (.r1 (.un .len (.sub (.var 3) (.lit (.int 5))))) .nil))) (.cons (.loop (.nm 6) (.seq (.call 148 (.cons (.var 0) (.cons (.var 3) (.cons (.var 4) (.cons (.var 1) .nil)))))) (.cons (.app 2 (.tup (.cons (.sub (.var 4) (.lit (.int 0))) (.cons (.sub (.var 4) (.lit (.int 1))) (.cons (.call 147 (.cons (.sub (.var 0) (.lit (.int 0))) (.cons (.bin .add (.var 5) (.var 6)) .nil))) .nil))))) .nil)) .nil))) .nil)) (.cons (.ret (.fz (.var 2))) .nil)))⟩
@[simp] theorem io_law_ahead : f_law_ahead.io = [false, false] := rfl
def f_law_least : FDef := ⟨[false], 5, (.cons (.asg (.nm 1) (.lst .nil)) (.cons (.loop (.nm 2) (.seq (.un .sorted (.comp false [3] (.tup (.cons (.call 150 (.cons (.var 3) .nil)) (.cons (.var 3) .nil))) (.nm 3) (.seq (.var 0)) .nil))) (.cons (.ifs (.not (.e (.un .any (.comp false [4] (.call 89 (.cons (.sub (.var 2) (.lit (.int 1))) (.cons (.var 4) .nil))) (.nm 4) (.seq (.var 1)) .nil)))) (.cons (.app 1 (.sub (.var 2) (.lit (.int 1)))) .nil) .nil) .nil)) (.cons (.ret (.fz (.un .sorted (.var 1)))) .nil)))⟩
@[simp] theorem io_law_least : f_law_least.io = [false] := rfl
def f_law_patterned : FDef := ⟨[false, false], 8, (.cons (.asg (.nm 2) (.lst .nil)) (.cons (.loop (.nm 3) (.seq (.sub (.var 1) (.lit (.int 0)))) (.cons (.loop (.nm 4) (.seq (.call 139 (.cons (.sub (.var 0) (.lit (.int 0))) (.cons (.sub (.var 3) (.lit (.int 1))) .nil)))) (.cons (.asg (.nm 5) (.call 147 (.cons (.sub (.var 0) (.lit (.int 0))) (.cons (.comp false [7] (.tup (.cons (.tup (.cons (.sub (.sub (.var 3) (.lit (.int 1))) (.var 7)) (.cons (.sub (.var 4) (.var 7)) .nil))) (.cons (.lit (.int 1)) .nil))) (.nm 7) (.r1 (.un .len (.var 4))) .nil) .nil)))) (.cons (.loop (.nm 6) (.r1 (.sub (.var 0) (.lit (.int 1)))) (.cons (.ifs (.e (.bin .inn (.sub (.var 3) (.lit (.int 0))) (.tup (.cons (.lit .non) (.cons (.var 6) .nil))))) (.cons (.ext 2 (.lst (.cons (.tup (.cons (.var 6) (.cons (.lit (.bl false)) (.cons (.var 5) .nil)))) (.cons (.tup (.cons (.var 6) (.cons (.lit (.bl true)) (.cons (.var 5) .nil)))) .nil)))) .nil) .nil) .nil)) .nil))) .nil)) (.cons (.ret (.fz (.var 2))) .nil)))⟩
@[simp] theorem io_law_patterned : f_law_patterned.io = [false, false] := rfl
def f_law_readings : FDef := ⟨[false, false], 9, (.cons (.asg (.nm 2) (.lst .nil)) (.cons (.loop (.nm 3) (.seq (.ite (.e (.sub (.var 1) (.lit (.int 1)))) (.sub (.var 0) (.lit (.int 2))) (.tup .nil))) (.cons (.loop (.nm 4) (.seq (.call 139 (.cons (.sub (.var 0) (.lit (.int 0))) (.cons (.sub (.var 3) (.lit (.int 5))) .nil)))) (.cons (.asg (.nm 5) (.call 147 (.cons (.sub (.var 0) (.lit (.int 0))) (.cons (.comp false [7] (.tup (.cons (.tup (.cons (.sub (.sub (.var 3) (.lit (.int 5))) (.var 7)) (.cons (.sub (.var 4) (.var 7)) .nil))) (.cons (.lit (.int 1)) .nil))) (.nm 7) (.r1 (.un .len (.var 4))) .nil) .nil)))) (.cons (.loop (.nm 6) (.r1 (.sub (.var 0) (.lit (.int 1)))) (.cons (.ext 2 (.comp false [8] (.tup (.cons (.var 6) (.cons (.var 8) (.cons (.var 5) .nil)))) (.nm 8) (.seq (.tup (.cons (.lit (.bl false)) (.cons (.lit (.bl true)) .nil)))) (.cons (.and (.cons (.e (.call 113 (.cons (.var 0) (.cons (.tup (.cons (.var 6) (.cons (.var 8) (.cons (.var 5) .nil)))) (.cons (.var 3) .nil))))) (.cons (.e (.call 154 (.cons (.var 3) (.cons (.var 8) (.cons (.var 4) .nil))))) .nil))) .nil))) .nil)) .nil))) .nil)) (.cons (.ret (.fz (.var 2))) .nil)))⟩
@[simp] theorem io_law_readings : f_law_readings.io = [false, false] := rfl
def f_law_is_read : FDef := ⟨[false, false, false], 3, (.cons (.ifs (.e (.un .isNone (.sub (.var 0) (.lit (.int 4))))) (.cons (.ret (.lit (.bl false))) .nil) .nil) (.cons (.ret (.fz (.ite (.e (.bin .eq (.sub (.var 0) (.lit (.int 4))) (.tup (.cons (.lit (.str "memory")) .nil)))) (.var 1) (.sub (.var 2) (.sub (.sub (.var 0) (.lit (.int 4))) (.lit (.int 1))))))) .nil))⟩
@[simp] theorem io_law_is_read : f_law_is_read.io = [false, false, false] := rfl
def f_law_is_large : FDef := ⟨[false, false], 3, (.cons (.ifs (.or (.cons (.e (.bin .gt (.un .len (.var 1)) (.lit (.int 60)))) (.cons (.e (.un .any (.comp false [2] (.bin .gt (.call 150 (.cons (.var 2) .nil)) (.lit (.int 6))) (.nm 2) (.seq (.var 1)) .nil))) .nil))) (.cons (.ret (.lit (.bl true))) .nil) .nil) (.cons (.ret (.bin .gt (.call 145 (.cons (.var 0) (.cons (.var 1) .nil))) (.lit (.int 3000)))) .nil))⟩
@[simp] theorem io_law_is_large : f_law_is_large.io = [false, false] := rfl
def f_law_rounds : FDef := ⟨[false, false], 6, (.cons (.asg (.nm 2) (.lst (.cons (.call 151 (.cons (.call 152 (.cons (.var 0) (.cons (.var 1) .nil))) .nil)) .nil))) (.cons (.whl 1000 (.e (.bin .le (.un .len (.var 2)) (.lit (.int 20)))) (.cons (.asg (.nm 3) (.sub (.var 2) (.bin .sub (.un .len (.var 2)) (.lit (.int 1))))) (.cons (.ifs (.e (.call 155 (.cons (.var 0) (.cons (.var 3) .nil)))) (.cons (.ret (.lit .non)) .nil) .nil) (.cons (.asg (.nm 4) (.fz (.bin .add (.var 3) (.call 153 (.cons (.var 0) (.cons (.var 1) .nil)))))) (.cons (.loop (.nm 5) (.seq (.var 3)) (.cons (.asg (.nm 4) (.fz (.bin .add (.var 4) (.call 149 (.cons (.var 0) (.cons (.var 5) .nil)))))) .nil)) (.cons (.app 2 (.call 151 (.cons (.var 4) .nil))) (.cons (.ifs (.e (.bin .eq (.sub (.var 2) (.bin .sub (.un .len (.var 2)) (.lit (.int 1)))) (.var 3))) (.cons (.ret (.fz (.var 2))) .nil) .nil) .nil))))))) (.cons (.ret (.lit .non)) .nil)))⟩
@[simp] theorem io_law_rounds : f_law_rounds.io = [false, false] := rfl
def f_law_aim : FDef := ⟨[true, false], 5, (.cons (.asg (.nm 2) (.call 14 (.io 0 (.cons (.lit (.int 4)) .nil)))) (.cons (.ifs (.e (.bin .lt (.var 2) (.lit (.int 2)))) (.cons (.ret (.tup (.cons (.sub (.var 1) (.lit (.int 3))) (.cons (.lit (.bl true)) .nil)))) .nil) .nil) (.cons (.ifs (.e (.bin .eq (.var 2) (.lit (.int 2)))) (.cons (.ret (.tup (.cons (.tup (.cons (.call 32 (.io 0 (.cons (.sub (.var 1) (.lit (.int 0))) (.cons (.sub (.var 1) (.lit (.int 1))) .nil)))) .nil)) (.cons (.lit (.bl false)) .nil)))) .nil) .nil) (.cons (.asg (.nm 3) (.call 14 (.io 0 (.cons (.lit (.int 3)) .nil)))) (.cons (.ret (.tup (.cons (.un .tuple (.comp false [4] (.call 32 (.io 0 (.cons (.sub (.var 1) (.lit (.int 0))) (.cons (.sub (.var 1) (.lit (.int 1))) .nil)))) (.nm 4) (.r1 (.var 3)) .nil)) (.cons (.bin .eq (.call 14 (.io 0 (.cons (.lit (.int 2)) .nil))) (.lit (.int 0))) .nil)))) .nil)))))⟩
@[simp] theorem io_law_aim : f_law_aim.io = [true, false] := rfl
def f_is_of_beginning : FDef := ⟨[false], 1, (.cons (.ret (.and (.cons (.bin .eq (.sub (.var 0) (.lit (.int 0))) (.lit (.int 0))) (.cons (.not (.sub (.var 0) (.lit (.int 1)))) (.cons (.bin .eq (.call 120 (.cons (.var 0) .nil)) (.sub (.sub (.sub (.var 0) (.lit (.int 2))) (.lit (.int 0))) (.lit (.int 0)))) .nil))))) .nil)⟩
@[simp] theorem io_is_of_beginning : f_is_of_beginning.io = [false] := rfl
def f_fewest : FDef := ⟨[false], 3, (.cons (.asg (.nm 1) (.fz (.comp false [2] (.call 120 (.cons (.var 2) .nil)) (.nm 2) (.seq (.var 0)) (.cons (.e (.call 192 (.cons (.var 2) .nil))) .nil)))) (.cons (.ret (.fz (.ite (.e (.var 1)) (.un .min (.var 1)) (.lit .non)))) .nil))⟩
@[simp] theorem io_fewest : f_fewest.io = [false] := rfl
def f_judge_paper : FDef := ⟨[false, false, false], 6, (.cons (.ifs (.or (.cons (.not (.e (.un .isList (.var 2)))) (.cons (.not (.e (.un .all (.comp false [5] (.call 87 (.cons (.var 0) (.cons (.var 5) .nil))) (.nm 5) (.seq (.var 2)) .nil)))) .nil))) (.cons (.raise 9) .nil) .nil) (.cons (.ifs (.e (.call 134 (.cons (.var 0) (.cons (.var 2) .nil)))) (.cons (.raise 6) .nil) .nil) (.cons (.asg (.nm 3) (.call 124 (.cons (.var 0) (.cons (.var 1) .nil)))) (.cons (.loop (.nm 4) (.seq (.sub (.var 1) (.lit (.int 0)))) (.cons (.ext 3 (.call 122 (.cons (.var 0) (.cons (.var 4) .nil)))) .nil)) (.cons (.loop (.nm 5) (.seq (.var 2)) (.cons (.ext 3 (.call 133 (.cons (.var 0) (.cons (.var 5) .nil)))) .nil)) (.cons (.ret (.and (.cons (.un .all (.comp false [5] (.call 119 (.cons (.var 5) (.cons (.var 2) .nil))) (.nm 5) (.seq (.var 3)) .nil)) (.cons (.un .isNone (.call 193 (.cons (.var 2) .nil))) .nil)))) .nil))))))⟩
@[simp] theorem io_judge_paper : f_judge_paper.io = [false, false, false] := rfl
def f_law_is_of_beginning_v2 : FDef := ⟨[false], 1, (.cons (.ret (.and (.cons (.bin .eq (.sub (.var 0) (.lit (.int 0))) (.lit (.int 0))) (.cons (.not (.sub (.var 0) (.lit (.int 1)))) (.cons (.bin .eq (.call 150 (.cons (.var 0) .nil)) (.sub (.sub (.sub (.var 0) (.lit (.int 2))) (.lit (.int 0))) (.lit (.int 0)))) .nil))))) .nil)⟩
@[simp] theorem io_law_is_of_beginning_v2 : f_law_is_of_beginning_v2.io = [false] := rfl
def f_law_is_held : FDef := ⟨[false, false], 5, (.cons (.ifs (.or (.cons (.not (.e (.call 18 (.cons (.var 1) (.cons (.lit (.int 3)) (.cons (.lit (.int 3)) .nil)))))) (.cons (.not (.e (.call 17 (.cons (.sub (.var 1) (.lit (.int 0))) (.cons (.lit (.int 0)) (.cons (.bin .sub (.sub (.var 0) (.lit (.int 1))) (.lit (.int 1))) .nil)))))) (.cons (.not (.e (.un .isBool (.sub (.var 1) (.lit (.int 1)))))) .nil)))) (.cons (.ret (.lit (.bl false))) .nil) .nil) (.cons (.ifs (.not (.e (.call 18 (.cons (.sub (.var 1) (.lit (.int 2))) (.cons (.un .len (.sub (.var 0) (.lit (.int 0)))) (.cons (.un .len (.sub (.var 0) (.lit (.int 0)))) .nil)))))) (.cons (.ret (.lit (.bl false))) .nil) .nil) (.cons (.loop (.nm 2) (.r1 (.un .len (.sub (.var 0) (.lit (.int 0))))) (.cons (.asg (.nm 3) (.sub (.sub (.var 1) (.lit (.int 2))) (.var 2))) (.cons (.ifs (.or (.cons (.not (.e (.call 18 (.cons (.var 3) (.cons (.lit (.int 2)) (.cons (.lit (.int 2)) .nil)))))) (.cons (.not (.e (.un .all (.comp false [4] (.call 17 (.cons (.var 4) (.cons (.lit (.int 0)) (.cons (.bin .pow (.lit (.int 10)) (.lit (.int 30))) .nil)))) (.nm 4) (.seq (.var 3)) .nil)))) .nil))) (.cons (.ret (.lit (.bl false))) .nil) .nil) (.cons (.ifs (.and (.cons (.e (.bin .gt (.sub (.var 3) (.lit (.int 1))) (.lit (.int 0)))) (.cons (.not (.e (.sub (.sub (.var 0) (.lit (.int 0))) (.var 2)))) .nil))) (.cons (.ret (.lit (.bl false))) .nil) .nil) .nil)))) (.cons (.ret (.lit (.bl true))) .nil))))⟩
@[simp] theorem io_law_is_held : f_law_is_held.io = [false, false] := rfl
def f_law_due_v2 : FDef := ⟨[false, false, false], 6, (.cons (.ifs (.or (.cons (.not (.e (.un .isList (.var 2)))) (.cons (.not (.e (.un .all (.comp false [4] (.call 248 (.cons (.var 0) (.cons (.var 4) .nil))) (.nm 4) (.seq (.var 2)) .nil)))) .nil))) (.cons (.ret (.fz (.lst (.cons (.lit (.str "refused")) (.cons (.lit (.str "BadPaper")) .nil))))) .nil) .nil) (.cons (.ifs (.e (.call 155 (.cons (.var 0) (.cons (.var 2) .nil)))) (.cons (.ret (.fz (.lst (.cons (.lit (.str "refused")) (.cons (.lit (.str "TooLarge")) .nil))))) .nil) .nil) (.cons (.asg (.nm 3) (.fz (.bin .add (.call 152 (.cons (.var 0) (.cons (.var 1) .nil))) (.call 153 (.cons (.var 0) (.cons (.var 1) .nil)))))) (.cons (.loop (.nm 4) (.seq (.var 2)) (.cons (.asg (.nm 3) (.fz (.bin .add (.var 3) (.call 149 (.cons (.var 0) (.cons (.var 4) .nil)))))) .nil)) (.cons (.loop (.nm 5) (.seq (.var 3)) (.cons (.ifs (.not (.e (.un .any (.comp false [4] (.call 89 (.cons (.var 5) (.cons (.var 4) .nil))) (.nm 4) (.seq (.var 2)) .nil)))) (.cons (.ret (.lit (.bl false))) .nil) .nil) .nil)) (.cons (.ret (.not (.un .any (.comp false [4] (.call 247 (.cons (.var 4) .nil)) (.nm 4) (.seq (.var 2)) .nil)))) .nil))))))⟩
@[simp] theorem io_law_due_v2 : f_law_due_v2.io = [false, false, false] := rfl
def f_law_paper : FDef := ⟨[true, false, false], 7, (.cons (.asg (.nm 3) (.call 156 (.cons (.var 1) (.cons (.var 2) .nil)))) (.cons (.asg (.nm 4) (.call 14 (.io 0 (.cons (.lit (.int 6)) .nil)))) (.cons (.ifs (.or (.cons (.e (.un .isNone (.var 3))) (.cons (.e (.bin .eq (.var 4) (.lit (.int 0)))) .nil))) (.cons (.ret (.fz (.comp false [6] (.call 90 (.io 0 (.cons (.var 1) .nil))) (.nm 6) (.r1 (.call 14 (.io 0 (.cons (.lit (.int 5)) .nil)))) .nil))) .nil) .nil) (.cons (.asg (.nm 5) (.un .list (.sub (.var 3) (.bin .sub (.un .len (.var 3)) (.lit (.int 1)))))) (.cons (.ifs (.and (.cons (.e (.bin .eq (.var 4) (.lit (.int 1)))) (.cons (.e (.bin .ne (.var 5) (.lst .nil))) .nil))) (.cons (.popAt 5 (.call 14 (.io 0 (.cons (.un .len (.var 5)) .nil)))) .nil) .nil) (.cons (.ifs (.e (.bin .eq (.var 4) (.lit (.int 2)))) (.cons (.ins 5 (.call 14 (.io 0 (.cons (.bin .add (.un .len (.var 5)) (.lit (.int 1))) .nil))) (.call 90 (.io 0 (.cons (.var 1) .nil)))) .nil) .nil) (.cons (.ifs (.and (.cons (.e (.bin .eq (.var 4) (.lit (.int 3)))) (.cons (.e (.bin .ne (.var 5) (.lst .nil))) .nil))) (.cons (.asg (.nm 6) (.call 14 (.io 0 (.cons (.un .len (.var 5)) .nil)))) (.cons (.setIx 5 (.var 6) (.call 19 (.io 0 (.cons (.sub (.var 5) (.var 6)) .nil)))) .nil)) .nil) (.cons (.ifs (.e (.bin .eq (.var 4) (.lit (.int 4)))) (.cons (.asg (.nm 5) (.bin .add (.var 5) (.bin .mul (.var 5) (.call 15 (.io 0 (.cons (.lst (.cons (.lit (.int 1)) (.cons (.lit (.int 1)) (.cons (.lit (.int 20)) .nil)))) .nil)))))) .nil) .nil) (.cons (.ret (.fz (.var 5))) .nil)))))))))⟩
@[simp] theorem io_law_paper : f_law_paper.io = [true, false, false] := rfl
def f_law_v17 : FDef := ⟨[false], 8, (.cons (.asg (.nm 1) (.call 13 (.cons (.var 0) .nil))) (.cons (.asg (.nm 2) (.call 31 (.io 1 .nil))) (.cons (.loop (.nm 3) (.r1 (.lit (.int 3))) (.cons (.asg (.nm 4) (.call 158 (.io 1 (.cons (.var 2) .nil)))) (.cons (.asg (.nm 5) (.call 250 (.io 1 (.cons (.var 2) (.cons (.var 4) .nil))))) (.cons (.ifs (.e (.bin .eq (.call 14 (.io 1 (.cons (.lit (.int 12)) .nil))) (.lit (.int 0)))) (.cons (.asg (.nm 5) (.call 15 (.io 1 (.cons (.lst (.cons (.lit .non) (.cons (.tup .nil) (.cons (.un .tuple (.var 5)) (.cons (.lst (.cons (.var 5) .nil)) (.cons (.lit (.int 0)) (.cons (.lit (.str "a")) .nil))))))) .nil)))) .nil) .nil) (.cons (.asg (.nm 6) (.call 249 (.cons (.var 2) (.cons (.var 4) (.cons (.var 5) .nil))))) (.cons (.tryx (.cons (.asg (.nm 7) (.call 246 (.cons (.var 2) (.cons (.var 4) (.cons (.ite (.e (.un .isList (.var 5))) (.un .list (.var 5)) (.var 5)) .nil))))) .nil) [(9, .asg 7 (.lst [(.str "refused"), (.str "BadPaper")])), (6, .asg 7 (.lst [(.str "refused"), (.str "TooLarge")]))]) (.cons (.ifs (.or (.cons (.and (.cons (.not (.e (.un .isList (.var 7)))) (.cons (.not (.e (.un .isBool (.var 7)))) .nil))) (.cons (.not (.e (.call 16 (.cons (.var 7) (.cons (.var 6) .nil))))) .nil))) (.cons (.ret (.lit (.bl false))) .nil) .nil) .nil))))))) (.cons (.ret (.lit (.bl true))) .nil))))⟩
@[simp] theorem io_law_v17 : f_law_v17.io = [false] := rfl
def f_check_change : FDef := ⟨[false, false, false, false], 7, (.cons (.ifs (.or (.cons (.not (.e (.call 2 (.cons (.var 2) (.cons (.sub (.var 0) (.lit (.int 1))) (.cons (.sub (.var 0) (.lit (.int 1))) .nil)))))) (.cons (.not (.e (.un .all (.comp false [4] (.call 1 (.cons (.var 4) (.cons (.sub (.var 1) (.lit (.int 1))) .nil))) (.nm 4) (.seq (.var 2)) .nil)))) .nil))) (.cons (.raise 10) .nil) .nil) (.cons (.ifs (.or (.cons (.not (.e (.call 2 (.cons (.var 3) (.cons (.un .len (.sub (.var 0) (.lit (.int 0)))) (.cons (.un .len (.sub (.var 0) (.lit (.int 0)))) .nil)))))) (.cons (.not (.e (.un .all (.comp false [5] (.call 1 (.cons (.var 5) (.cons (.un .len (.sub (.var 1) (.lit (.int 0)))) .nil))) (.nm 5) (.seq (.var 3)) .nil)))) .nil))) (.cons (.raise 10) .nil) .nil) (.cons (.ifs (.or (.cons (.e (.bin .ne (.sub (.var 3) (.lit (.int 0))) (.lit (.int 0)))) (.cons (.e (.un .any (.comp false [5, 6] (.and (.cons (.sub (.sub (.var 1) (.lit (.int 0))) (.var 5)) (.cons (.not (.var 6)) .nil))) (.tp [(.nm 5), (.nm 6)]) (.zip (.var 3) (.sub (.var 0) (.lit (.int 0)))) .nil))) .nil))) (.cons (.raise 10) .nil) .nil) .nil)))⟩
@[simp] theorem io_check_change : f_check_change.io = [false, false, false, false] := rfl
def f_law_change : FDef := ⟨[true, false, false], 7, (.cons (.asg (.nm 3) (.un .tuple (.comp false [6] (.call 14 (.io 0 (.cons (.sub (.var 2) (.lit (.int 1))) .nil))) (.nm 6) (.r1 (.sub (.var 1) (.lit (.int 1)))) .nil))) (.cons (.asg (.nm 4) (.fz (.comp false [6] (.var 6) (.nm 6) (.r1 (.un .len (.sub (.var 2) (.lit (.int 0))))) (.cons (.not (.e (.sub (.sub (.var 2) (.lit (.int 0))) (.var 6)))) .nil)))) (.cons (.asg (.nm 5) (.lst (.cons (.lit (.int 0)) .nil))) (.cons (.loop (.nm 6) (.r2 (.lit (.int 1)) (.un .len (.sub (.var 1) (.lit (.int 0))))) (.cons (.ifs (.e (.sub (.sub (.var 1) (.lit (.int 0))) (.var 6))) (.cons (.app 5 (.call 15 (.io 0 (.cons (.lst (.cons (.bin .min2 (.var 6) (.bin .sub (.un .len (.sub (.var 2) (.lit (.int 0)))) (.lit (.int 1)))) (.cons (.call 14 (.io 0 (.cons (.un .len (.sub (.var 2) (.lit (.int 0)))) .nil))) .nil))) .nil)))) .nil) (.cons (.app 5 (.call 15 (.io 0 (.cons (.var 4) .nil)))) .nil)) .nil)) (.cons (.ret (.tup (.cons (.var 3) (.cons (.un .tuple (.var 5)) .nil)))) .nil)))))⟩
@[simp] theorem io_law_change : f_law_change.io = [true, false, false] := rfl
def f_law_others_v3 : FDef := ⟨[true, false], 7, (.cons (.asg (.nm 2) (.call 14 (.io 0 (.cons (.lit (.int 4)) .nil)))) (.cons (.ifs (.e (.bin .eq (.var 2) (.lit (.int 0)))) (.cons (.ret (.call 31 (.io 0 .nil))) .nil) .nil) (.cons (.asg (.nm 3) (.comp false [5] (.var 5) (.nm 5) (.seq (.sub (.var 1) (.lit (.int 2)))) (.cons (.e (.bin .gt (.call 14 (.io 0 (.cons (.lit (.int 5)) .nil))) (.lit (.int 0)))) .nil))) (.cons (.ifs (.or (.cons (.e (.bin .eq (.var 3) (.lst .nil))) (.cons (.e (.bin .eq (.var 2) (.lit (.int 1)))) .nil))) (.cons (.app 3 (.call 29 (.io 0 (.cons (.sub (.var 1) (.lit (.int 0))) (.cons (.sub (.var 1) (.lit (.int 1))) .nil))))) .nil) .nil) (.cons (.asg (.nm 4) (.comp false [6] (.var 6) (.nm 6) (.seq (.sub (.var 1) (.lit (.int 3)))) (.cons (.e (.bin .gt (.call 14 (.io 0 (.cons (.lit (.int 5)) .nil))) (.lit (.int 0)))) .nil))) (.cons (.ifs (.and (.cons (.e (.bin .lt (.un .len (.var 4)) (.lit (.int 4)))) (.cons (.e (.bin .eq (.call 14 (.io 0 (.cons (.lit (.int 3)) .nil))) (.lit (.int 0)))) .nil))) (.cons (.app 4 (.call 32 (.io 0 (.cons (.sub (.var 1) (.lit (.int 0))) (.cons (.sub (.var 1) (.lit (.int 1))) .nil))))) .nil) .nil) (.cons (.ret (.tup (.cons (.sub (.var 1) (.lit (.int 0))) (.cons (.sub (.var 1) (.lit (.int 1))) (.cons (.un .tuple (.slice (.var 3) .nil (.cons (.lit (.int 12)) .nil))) (.cons (.un .tuple (.var 4)) .nil)))))) .nil)))))))⟩
@[simp] theorem io_law_others_v3 : f_law_others_v3.io = [true, false] := rfl
def f_staying : FDef := ⟨[false, false], 4, (.cons (.ret (.un .tuple (.comp false [2, 3] (.tup (.cons (.bin .add (.var 1) (.var 2)) (.cons (.ite (.e (.var 3)) (.glob "OWN" (.tup [(.str "own")])) (.lit .non)) .nil))) (.tp [(.nm 2), (.nm 3)]) (.enum (.var 0)) .nil))) .nil)⟩
@[simp] theorem io_staying : f_staying.io = [false, false] := rfl
def f_moved : FDef := ⟨[false, false, false, false, false, false], 11, (.cons (.asg (.nm 6) (.un .tuple (.comp false [9] (.bin .add (.var 3) (.var 9)) (.nm 9) (.seq (.sub (.var 0) (.lit (.int 5)))) .nil))) (.cons (.asg (.nm 7) (.un .tuple (.comp false [9, 10] (.tup (.cons (.bin .add (.var 3) (.var 9)) (.cons (.var 10) .nil))) (.tp [(.nm 9), (.nm 10)]) (.seq (.sub (.var 0) (.lit (.int 6)))) .nil))) (.cons (.asg (.nm 8) (.fz (.bin .add (.var 2) (.call 57 (.cons (.var 0) (.cons (.var 1) .nil)))))) (.cons (.ret (.tup (.cons (.bin .add (.var 2) (.var 1)) (.cons (.var 8) (.cons (.sub (.var 0) (.lit (.int 2))) (.cons (.sub (.var 0) (.lit (.int 3))) (.cons (.var 4) (.cons (.var 6) (.cons (.var 7) (.cons (.var 5) .nil)))))))))) .nil))))⟩
@[simp] theorem io_moved : f_moved.io = [false, false, false, false, false, false] := rfl
def f_first_moves : FDef := ⟨[false, false], 7, (.cons (.asg (.nm 2) (.lst .nil)) (.cons (.loop (.tp [(.nm 3), (.nm 4)]) (.enum (.sub (.var 0) (.lit (.int 2)))) (.cons (.asg (.nm 5) (.fz (.bin .add (.sub (.var 4) (.lit (.int 7))) (.call 269 (.cons (.sub (.var 1) (.lit (.int 0))) (.cons (.un .len (.sub (.var 0) (.lit (.int 0)))) .nil)))))) (.cons (.loop (.nm 6) (.r1 (.sub (.var 0) (.lit (.int 1)))) (.cons (.ifs (.e (.call 56 (.cons (.var 4) (.cons (.var 6) .nil)))) (.cons (.app 2 (.tup (.cons (.var 3) (.cons (.call 270 (.cons (.var 4) (.cons (.var 6) (.cons (.lit (.int 0)) (.cons (.lit (.int 0)) (.cons (.lit .non) (.cons (.var 5) .nil))))))) .nil)))) .nil) .nil) .nil)) .nil))) (.cons (.ret (.fz (.var 2))) .nil)))⟩
@[simp] theorem io_first_moves : f_first_moves.io = [false, false] := rfl
def f_change_moves : FDef := ⟨[false, false, false, false], 10, (.cons (.asg (.nm 4) (.un .len (.sub (.var 0) (.lit (.int 0))))) (.cons (.asg (.nm 5) (.un .tuple (.comp false [8] (.tup (.cons (.bin .add (.var 4) (.var 8)) (.cons (.ite (.e (.sub (.sub (.var 1) (.lit (.int 0))) (.var 8))) (.glob "OWN" (.tup [(.str "own")])) (.lit .non)) .nil))) (.nm 8) (.seq (.var 3)) .nil))) (.cons (.asg (.nm 5) (.fz (.bin .add (.var 5) (.un .tuple (.comp false [9] (.tup (.cons (.lit (.int 0)) (.cons (.lit .non) .nil))) (.nm 9) (.seq (.sub (.var 1) (.lit (.int 0)))) .nil))))) (.cons (.asg (.nm 6) (.lst .nil)) (.cons (.loop (.nm 7) (.r1 (.sub (.var 0) (.lit (.int 1)))) (.cons (.app 6 (.tup (.cons (.lit .non) (.cons (.tup (.cons (.var 7) (.cons (.bin .add (.sub (.var 0) (.lit (.int 1))) (.sub (.var 2) (.var 7))) (.cons (.lit (.bl false)) (.cons (.glob "MEMORY" (.tup [(.str "memory")])) (.cons (.lit .non) (.cons (.tup .nil) (.cons (.tup .nil) (.cons (.var 5) .nil))))))))) .nil)))) .nil)) (.cons (.ret (.fz (.var 6))) .nil))))))⟩
@[simp] theorem io_change_moves : f_change_moves.io = [false, false, false, false] := rfl
def f_other_moves : FDef := ⟨[false, false], 10, (.cons (.asg (.nm 2) (.un .len (.sub (.var 0) (.lit (.int 0))))) (.cons (.asg (.nm 3) (.lst .nil)) (.cons (.loop (.tp [(.nm 4), (.nm 5)]) (.enum (.sub (.var 1) (.lit (.int 2)))) (.cons (.asg (.nm 6) (.fz (.bin .add (.call 269 (.cons (.sub (.var 0) (.lit (.int 0))) (.cons (.lit (.int 0)) .nil))) (.un .tuple (.comp false [8, 9] (.tup (.cons (.bin .add (.var 2) (.var 8)) (.cons (.var 9) .nil))) (.tp [(.nm 8), (.nm 9)]) (.seq (.sub (.var 5) (.lit (.int 7)))) .nil))))) (.cons (.loop (.nm 7) (.r1 (.sub (.var 1) (.lit (.int 1)))) (.cons (.ifs (.e (.call 56 (.cons (.var 5) (.cons (.var 7) .nil)))) (.cons (.app 3 (.tup (.cons (.var 4) (.cons (.call 270 (.cons (.var 5) (.cons (.var 7) (.cons (.sub (.var 0) (.lit (.int 1))) (.cons (.var 2) (.cons (.sub (.var 5) (.lit (.int 4))) (.cons (.var 6) .nil))))))) .nil)))) .nil) .nil) .nil)) .nil))) (.cons (.ret (.fz (.var 3))) .nil))))⟩
@[simp] theorem io_other_moves : f_other_moves.io = [false, false] := rfl
def f_union_moves : FDef := ⟨[false, false, false, false], 4, (.cons (.ret (.fz (.bin .add (.bin .add (.call 271 (.cons (.var 0) (.cons (.var 1) .nil))) (.call 272 (.cons (.var 0) (.cons (.var 1) (.cons (.var 2) (.cons (.var 3) .nil)))))) (.call 273 (.cons (.var 0) (.cons (.var 1) .nil)))))) .nil)⟩
@[simp] theorem io_union_moves : f_union_moves.io = [false, false, false, false] := rfl
def f_union_promises : FDef := ⟨[false, false], 7, (.cons (.asg (.nm 2) (.lst .nil)) (.cons (.loop (.tp [(.nm 3), (.nm 4)]) (.seq (.sub (.var 1) (.lit (.int 3)))) (.cons (.loop (.nm 5) (.seq (.ite (.e (.un .isNone (.var 3))) (.listr (.r1 (.sub (.var 1) (.lit (.int 1))))) (.lst (.cons (.var 3) .nil)))) (.cons (.app 2 (.tup (.cons (.bin .add (.sub (.var 0) (.lit (.int 1))) (.var 5)) (.cons (.un .tuple (.comp false [6] (.bin .add (.un .len (.sub (.var 0) (.lit (.int 0)))) (.var 6)) (.nm 6) (.seq (.var 4)) .nil)) .nil)))) .nil)) .nil)) (.cons (.ret (.un .tuple (.var 2))) .nil)))⟩
@[simp] theorem io_union_promises : f_union_promises.io = [false, false] := rfl
def f_union : FDef := ⟨[false, false, false, false], 7, (.cons (.ex (.call 252 (.cons (.var 0) (.cons (.var 1) (.cons (.var 2) (.cons (.var 3) .nil)))))) (.cons (.asg (.nm 4) (.un .tuple (.comp false [5, 6] (.var 6) (.tp [(.nm 5), (.nm 6)]) (.seq (.call 274 (.cons (.var 0) (.cons (.var 1) (.cons (.var 2) (.cons (.var 3) .nil)))))) .nil))) (.cons (.ret (.tup (.cons (.bin .add (.sub (.var 0) (.lit (.int 0))) (.sub (.var 1) (.lit (.int 0)))) (.cons (.bin .add (.sub (.var 0) (.lit (.int 1))) (.sub (.var 1) (.lit (.int 1)))) (.cons (.var 4) (.cons (.call 275 (.cons (.var 0) (.cons (.var 1) .nil))) .nil)))))) .nil)))⟩
@[simp] theorem io_union : f_union.io = [false, false, false, false] := rfl
def f_law_places_v2 : FDef := ⟨[false, false], 2, (.cons (.ret (.fz (.ite (.e (.un .isNone (.sub (.var 0) (.lit (.int 0))))) (.listr (.r1 (.var 1))) (.lst (.cons (.sub (.var 0) (.lit (.int 0))) .nil))))) .nil)⟩
@[simp] theorem io_law_places_v2 : f_law_places_v2.io = [false, false] := rfl
def f_law_due_v3 : FDef := ⟨[false, false, false, false], 21, (.cons (.asg (.nm 4) (.un .len (.sub (.var 0) (.lit (.int 0))))) (.cons (.asg (.nm 5) (.un .len (.sub (.var 1) (.lit (.int 0))))) (.cons (.asg (.nm 6) (.fz (.bin .add (.sub (.var 0) (.lit (.int 0))) (.sub (.var 1) (.lit (.int 0)))))) (.cons (.asg (.nm 7) (.fz (.comp false [13] (.tup (.cons (.var 13) (.cons (.ite (.e (.sub (.var 6) (.var 13))) (.tup (.cons (.lit (.str "own")) .nil)) (.lit .non)) .nil))) (.nm 13) (.r1 (.bin .add (.var 4) (.var 5))) .nil))) (.cons (.asg (.nm 8) (.lst .nil)) (.cons (.loop (.nm 9) (.seq (.sub (.var 0) (.lit (.int 2)))) (.cons (.loop (.nm 10) (.seq (.call 277 (.cons (.var 9) (.cons (.sub (.var 0) (.lit (.int 1))) .nil)))) (.cons (.asg (.nm 16) (.fz (.ite (.e (.un .isNone (.sub (.var 9) (.lit (.int 1))))) (.var 10) (.sub (.var 9) (.lit (.int 1)))))) (.cons (.asg (.nm 12) (.bin .add (.sub (.var 9) (.lit (.int 7))) (.un .tuple (.slice (.var 7) (.cons (.var 4) .nil) .nil)))) (.cons (.app 8 (.tup (.cons (.var 10) (.cons (.var 16) (.cons (.sub (.var 9) (.lit (.int 2))) (.cons (.sub (.var 9) (.lit (.int 3))) (.cons (.lit .non) (.cons (.sub (.var 9) (.lit (.int 5))) (.cons (.sub (.var 9) (.lit (.int 6))) (.cons (.var 12) .nil)))))))))) .nil)))) .nil)) (.cons (.loop (.nm 10) (.r1 (.sub (.var 0) (.lit (.int 1)))) (.cons (.asg (.nm 12) (.lst .nil)) (.cons (.loop (.nm 13) (.r1 (.var 4)) (.cons (.app 12 (.tup (.cons (.bin .add (.var 4) (.sub (.var 3) (.var 13))) (.cons (.ite (.e (.sub (.sub (.var 1) (.lit (.int 0))) (.sub (.var 3) (.var 13)))) (.tup (.cons (.lit (.str "own")) .nil)) (.lit .non)) .nil)))) .nil)) (.cons (.ext 12 (.bin .mul (.lst (.cons (.tup (.cons (.lit (.int 0)) (.cons (.lit .non) .nil))) .nil)) (.var 5))) (.cons (.app 8 (.tup (.cons (.var 10) (.cons (.bin .add (.sub (.var 0) (.lit (.int 1))) (.sub (.var 2) (.var 10))) (.cons (.lit (.bl false)) (.cons (.tup (.cons (.lit (.str "memory")) .nil)) (.cons (.lit .non) (.cons (.tup .nil) (.cons (.tup .nil) (.cons (.un .tuple (.var 12)) .nil)))))))))) .nil))))) (.cons (.loop (.nm 9) (.seq (.sub (.var 1) (.lit (.int 2)))) (.cons (.loop (.nm 10) (.seq (.call 277 (.cons (.var 9) (.cons (.sub (.var 1) (.lit (.int 1))) .nil)))) (.cons (.asg (.nm 16) (.fz (.ite (.e (.un .isNone (.sub (.var 9) (.lit (.int 1))))) (.var 10) (.sub (.var 9) (.lit (.int 1)))))) (.cons (.asg (.nm 17) (.un .tuple (.comp false [19] (.bin .add (.var 4) (.var 19)) (.nm 19) (.seq (.sub (.var 9) (.lit (.int 5)))) .nil))) (.cons (.asg (.nm 18) (.un .tuple (.comp false [19, 20] (.tup (.cons (.bin .add (.var 4) (.var 19)) (.cons (.var 20) .nil))) (.tp [(.nm 19), (.nm 20)]) (.seq (.sub (.var 9) (.lit (.int 6)))) .nil))) (.cons (.asg (.nm 12) (.bin .add (.un .tuple (.slice (.var 7) .nil (.cons (.var 4) .nil))) (.un .tuple (.comp false [19, 20] (.tup (.cons (.bin .add (.var 4) (.var 19)) (.cons (.var 20) .nil))) (.tp [(.nm 19), (.nm 20)]) (.seq (.sub (.var 9) (.lit (.int 7)))) .nil)))) (.cons (.app 8 (.tup (.cons (.bin .add (.sub (.var 0) (.lit (.int 1))) (.var 10)) (.cons (.bin .add (.sub (.var 0) (.lit (.int 1))) (.var 16)) (.cons (.sub (.var 9) (.lit (.int 2))) (.cons (.sub (.var 9) (.lit (.int 3))) (.cons (.sub (.var 9) (.lit (.int 4))) (.cons (.var 17) (.cons (.var 18) (.cons (.var 12) .nil)))))))))) .nil)))))) .nil)) (.cons (.asg (.nm 11) (.lst .nil)) (.cons (.loop (.tp [(.nm 10), (.nm 14)]) (.seq (.sub (.var 1) (.lit (.int 3)))) (.cons (.loop (.nm 15) (.r1 (.sub (.var 1) (.lit (.int 1)))) (.cons (.ifs (.or (.cons (.e (.un .isNone (.var 10))) (.cons (.e (.bin .eq (.var 10) (.var 15))) .nil))) (.cons (.app 11 (.tup (.cons (.bin .add (.sub (.var 0) (.lit (.int 1))) (.var 15)) (.cons (.un .tuple (.comp false [19] (.bin .add (.var 4) (.var 19)) (.nm 19) (.seq (.var 14)) .nil)) .nil)))) .nil) .nil) .nil)) .nil)) (.cons (.ret (.tup (.cons (.var 6) (.cons (.bin .add (.sub (.var 0) (.lit (.int 1))) (.sub (.var 1) (.lit (.int 1)))) (.cons (.un .tuple (.var 8)) (.cons (.un .tuple (.var 11)) .nil)))))) .nil)))))))))))⟩
@[simp] theorem io_law_due_v3 : f_law_due_v3.io = [false, false, false, false] := rfl
def f_law_told_v3 : FDef := ⟨[false, false, false, false], 4, (.cons (.tryx (.cons (.ret (.fz (.lst (.cons (.call 276 (.cons (.var 0) (.cons (.var 1) (.cons (.var 2) (.cons (.var 3) .nil))))) .nil)))) .nil) [(10, .ret (.lst []))]) .nil)⟩
@[simp] theorem io_law_told_v3 : f_law_told_v3.io = [false, false, false, false] := rfl
def f_law_v20 : FDef := ⟨[false], 8, (.cons (.asg (.nm 1) (.call 13 (.cons (.var 0) .nil))) (.cons (.asg (.nm 2) (.call 31 (.io 1 .nil))) (.cons (.asg (.nm 3) (.call 257 (.io 1 (.cons (.var 2) .nil)))) (.cons (.asg (.tp [(.nm 6), (.nm 7)]) (.call 255 (.io 1 (.cons (.var 2) (.cons (.var 3) .nil))))) (.cons (.ifs (.not (.e (.call 16 (.cons (.call 279 (.cons (.var 2) (.cons (.var 3) (.cons (.var 6) (.cons (.var 7) .nil))))) (.cons (.lst (.cons (.call 278 (.cons (.var 2) (.cons (.var 3) (.cons (.var 6) (.cons (.var 7) .nil))))) .nil)) .nil))))) (.cons (.ret (.lit (.bl false))) .nil) .nil) (.cons (.asg (.nm 4) (.un .len (.var 6))) (.cons (.asg (.nm 5) (.fz (.lst (.cons (.slice (.var 6) (.cons (.lit (.int 1)) .nil) .nil) (.cons (.bin .add (.var 6) (.tup (.cons (.lit (.int 0)) .nil))) (.cons (.bin .mul (.tup (.cons (.sub (.var 3) (.lit (.int 1))) .nil)) (.var 4)) (.cons (.bin .mul (.tup (.cons (.un .neg (.lit (.int 1))) .nil)) (.var 4)) (.cons (.un .list (.var 6)) (.cons (.lit .non) (.cons (.bin .mul (.tup (.cons (.lit (.bl true)) .nil)) (.var 4)) .nil)))))))))) (.cons (.ifs (.e (.bin .ne (.call 279 (.cons (.var 2) (.cons (.var 3) (.cons (.call 15 (.io 1 (.cons (.var 5) .nil))) (.cons (.var 7) .nil))))) (.lst .nil))) (.cons (.ret (.lit (.bl false))) .nil) .nil) (.cons (.asg (.nm 4) (.un .len (.var 7))) (.cons (.asg (.nm 5) (.fz (.lst (.cons (.slice (.var 7) (.cons (.lit (.int 1)) .nil) .nil) (.cons (.bin .add (.var 7) (.tup (.cons (.lit (.int 0)) .nil))) (.cons (.bin .mul (.tup (.cons (.un .len (.sub (.var 3) (.lit (.int 0)))) .nil)) (.var 4)) (.cons (.bin .mul (.tup (.cons (.un .neg (.lit (.int 1))) .nil)) (.var 4)) (.cons (.un .list (.var 7)) (.cons (.lit .non) (.cons (.bin .mul (.tup (.cons (.lit (.bl false)) .nil)) (.var 4)) .nil)))))))))) (.cons (.ret (.bin .eq (.call 279 (.cons (.var 2) (.cons (.var 3) (.cons (.var 6) (.cons (.call 15 (.io 1 (.cons (.var 5) .nil))) .nil))))) (.lst .nil))) .nil)))))))))))⟩
@[simp] theorem io_law_v20 : f_law_v20.io = [false] := rfl
end Lw
set_option Elab.async false
set_option linter.all false
namespace Ev
/-! ### the evaluator, step by step -/
def nt (b : Bool) : Bool := !b
@[simp] theorem nt_t : nt true = false := rfl
@[simp] theorem nt_f : nt false = true := rfl
@[simp] theorem if_nt {α : Type} {c : Bool} {x y : α} : (if nt c = true then x else y) = if c = true then y else x := by cases c <;> rfl
def orb (a b : Bool) : Bool := a || b
@[simp] theorem orb_t {b : Bool} : orb true b = true := rfl
@[simp] theorem orb_f {b : Bool} : orb false b = b := rfl
def andb (a b : Bool) : Bool := a && b
@[simp] theorem andb_t {b : Bool} : andb true b = b := rfl
@[simp] theorem andb_f {b : Bool} : andb false b = false := rfl
@[simp] theorem andb_t2 {b : Bool} : andb b true = b := by cases b <;> rfl
@[simp] theorem orb_f2 {b : Bool} : orb b false = b := by cases b <;> rfl
def allB {α : Type} (f : α → Bool) (xs : List α) : Bool := xs.all f
def anyB {α : Type} (f : α → Bool) (xs : List α) : Bool := xs.any f
def bifO {α : Type} (o : O) (x y : Out α) : Out α := match o with
  | .sh (.bl true) => x
  | .sh (.bl false) => y
  | _ => .bad
@[simp] theorem bif_bl {α : Type} {c : Bool} {x y : Out α} : bifO (.sh (.bl c)) x y = if c then x else y := by cases c <;> rfl
def difO {α : Type} (o : O) (f : D → Out α) : Out α := match o with
  | .sh d => f d
  | _ => .bad
@[simp] theorem dif_sh {α : Type} {d : D} {f : D → Out α} : difO (.sh d) f = f d := rfl
def nifO {α : Type} (o : O) (f : Int → Out α) : Out α := match o with
  | .sh (.int i) => f i
  | _ => .bad
@[simp] theorem nif_int {α : Type} {i : Int} {f : Int → Out α} : nifO (.sh (.int i)) f = f i := rfl
def notO (o : O) (env : Env) : Out O := match o with
  | .sh (.bl c) => .ok (.sh (.bl (nt c))) env
  | _ => .bad
@[simp] theorem notO_bl {c : Bool} {env : Env} : notO (.sh (.bl c)) env = .ok (.sh (.bl (nt c))) env := rfl
def subO (b : Bool) (o : O) (i : D) (env : Env) : Out O := match item o i with
  | some (.sh d) => .ok (.sh d) env
  | some p => if b then .ok p env else .bad
  | none => .bad
def frzO {α : Type} (o : O) (f : D → Out α) : Out α := match o.frz with
  | some d => f d
  | none => .bad
def walkO (o : O) (env : Env) : Out (List O) := match o with
  | .sh (.lst xs) => .ok (xs.map O.sh) env
  | .sh (.tup xs) => .ok (xs.map O.sh) env
  | .scr ns => .ok (ns.map fun n => O.sh (.int n)) env
  | _ => .bad
@[simp] theorem walkO_l {xs : List D} {env : Env} : walkO (.sh (.lst xs)) env = .ok (xs.map O.sh) env := rfl
@[simp] theorem walkO_t {xs : List D} {env : Env} : walkO (.sh (.tup xs)) env = .ok (xs.map O.sh) env := rfl
@[simp] theorem walkO_s {xs : List Int} {env : Env} : walkO (.scr xs) env = .ok (xs.map fun n => O.sh (.int n)) env := rfl
def enumO (o : O) (env : Env) : Out (List O) := match o with
  | .sh (.lst xs) => .ok (enumD 0 xs) env
  | .sh (.tup xs) => .ok (enumD 0 xs) env
  | _ => .bad
@[simp] theorem enumO_l {xs : List D} {env : Env} : enumO (.sh (.lst xs)) env = .ok (enumD 0 xs) env := rfl
@[simp] theorem enumO_t {xs : List D} {env : Env} : enumO (.sh (.tup xs)) env = .ok (enumD 0 xs) env := rfl
def backO (r : CRes) (is : List Nat) (env : Env) : Out O := match r with
  | .ret o ios => if ios.length = is.length then .ok o (puts env is ios) else .bad
  | .exc c ios => if ios.length = is.length then .exc c (puts env is ios) else .bad
  | .bad => .bad
@[simp] theorem backO_0 {o : O} {env : Env} : backO (.ret o []) [] env = .ok o env := rfl
@[simp] theorem backO_1 {o p : O} {i : Nat} {env : Env} : backO (.ret o [p]) [i] env = .ok o (put env i (some p)) := rfl
@[simp] theorem backO_e {c : Nat} {env : Env} : backO (.exc c []) [] env = .exc c env := rfl
def callO (r : Option (List O)) (f : List O → CRes) (is : List Nat) (env : Env) : Out O := match r with
  | some os => backO (f os) is env
  | none => .bad
@[simp] theorem callO_s {os : List O} {f : List O → CRes} {is : List Nat} {env : Env} : callO (some os) f is env = backO (f os) is env := rfl
@[simp] theorem args_n {env : Env} : args env [] = some [] := rfl
@[simp] theorem args_v {env : Env} {o : O} {r : List AV} : args env (.v o :: r) = (args env r).map (o :: ·) := rfl
@[simp] theorem args_i {env : Env} {i : Nat} {r : List AV} : args env (.io i :: r) = (match get env i with
    | some o => (args env r).map (o :: ·)
    | none => none) := rfl
@[simp] theorem lent_n : lent [] = [] := rfl
@[simp] theorem lent_v {o : O} {r : List AV} : lent (.v o :: r) = lent r := rfl
@[simp] theorem lent_i {i : Nat} {r : List AV} : lent (.io i :: r) = i :: lent r := rfl
@[simp] theorem nd_n : nodupN [] = true := rfl
@[simp] theorem nd_1 {i : Nat} : nodupN [i] = true := by simp [nodupN]
@[simp] theorem ik_n : iosOk [] [] = true := rfl
@[simp] theorem ik_f {o : O} {f : List Bool} {r : List AV} : iosOk (false :: f) (.v o :: r) = (isShd o && iosOk f r) := rfl
@[simp] theorem ik_t {i : Nat} {f : List Bool} {r : List AV} : iosOk (true :: f) (.io i :: r) = iosOk f r := rfl
section
variable {cl : Nat → List O → CRes} {io : Nat → List Bool} {sub : Nat → Nat → Bool} {b : Bool} {env : Env}
@[simp] theorem z_var {i : Nat} : ev cl io b (.var i) env = (match get env i with
    | some o => if b || isShd o then .ok o env else match o.share with
      | some d => .ok d (put env i (some d))
      | none => .bad
    | none => .bad) := by rw [ev] <;> rfl
@[simp] theorem z_mv {i : Nat} : ev cl io b (.mv i) env = (match get env i with
    | some o => if isShd o then .ok o env else .ok o (put env i none)
    | none => .bad) := by rw [ev] <;> rfl
@[simp] theorem z_fz {a : E} : ev cl io b (.fz a) env = (ev cl io false a env).bnd fun o env => freeze o env := by rw [ev]
@[simp] theorem z_lit {d : D} : ev cl io b (.lit d) env = .ok (.sh d) env := by rw [ev]; rfl
@[simp] theorem z_glob {x : String} {d : D} : ev cl io b (.glob x d) env = .ok (.sh d) env := by rw [ev]; rfl
@[simp] theorem z_tup {es : Es} : ev cl io b (.tup es) env = (evs cl io es env).bnd fun ds env => .ok (.sh (.tup ds)) env := by rw [ev]
@[simp] theorem z_lst {es : Es} : ev cl io b (.lst es) env = (evs cl io es env).bnd fun ds env => .ok (own ds) env := by rw [ev]
@[simp] theorem z_un {op : U1} {a : E} : ev cl io b (.un op a) env = (ev cl io true a env).bnd fun o env => ofO (un1 op o) env := by rw [ev]
@[simp] theorem z_bin {op : B2} {a c : E} : ev cl io b (.bin op a c) env = (ev cl io true a env).bnd fun o env => need ((isShd o || c.noIo) && methOk op o) ((ev cl io true c env).bnd fun o2 env => ofO (binO op o o2) env) := by rw [ev]
@[simp] theorem z_chain {o1 o2 : B2} {a c d : E} : ev cl io b (.chain o1 o2 a c d) env = (ev cl io true a env).bnd fun o env => (ev cl io true c env).bnd fun o2' env => difO o fun x => difO o2' fun y => (ofO (bin2 o1 x y) env).bnd fun t env => bifO t ((ev cl io true d env).bnd fun o3 env => difO o3 fun z => ofO (bin2 o2 y z) env) (.ok (.sh (.bl false)) env) := by
  rw [ev]
  refine bnd_congr fun o env1 => bnd_congr fun p env2 => ?_
  cases o <;> try rfl
  cases p <;> rfl
@[simp] theorem z_not {a : E} : ev cl io b (.not a) env = (ev cl io true a env).bnd notO := by rw [ev] <;> rfl
@[simp] theorem z_and {es : Es} : ev cl io b (.and es) env = evAnd cl io es env := by rw [ev]
@[simp] theorem z_or {es : Es} : ev cl io b (.or es) env = evOr cl io es env := by rw [ev]
@[simp] theorem z_ite {c : T} {a d : E} : ev cl io b (.ite c a d) env = (evT cl io c env).bnd fun t env => if t then ev cl io b a env else ev cl io b d env := by rw [ev]
@[simp] theorem z_sub {a k : E} : ev cl io b (.sub a k) env = (ev cl io true a env).bnd fun o env => need (isShd o || k.noIo) ((ev cl io true k env).bnd fun i env => difO i fun i => subO b o i env) := by
  rw [ev]
  refine bnd_congr fun o env1 => ?_
  cases isShd o || k.noIo
  · rfl
  · refine bnd_congr fun p env2 => ?_
    cases p <;> rfl
@[simp] theorem z_slice {a : E} {lo hi : Es} : ev cl io b (.slice a lo hi) env = (ev cl io true a env).bnd fun o env => need (isShd o || (lo.noIo && hi.noIo)) ((evEnd cl io lo env).bnd fun l env => (evEnd cl io hi env).bnd fun h env => ofO (cutO o l h) env) := by rw [ev]
@[simp] theorem z_call {f : Nat} {as : Es} : ev cl io b (.call f as) env = (evArgs cl io as env).bnd fun avs env => if iosOk (io f) avs && nodupN (lent avs) then callO (args env avs) (cl f) (lent avs) env else .bad := by
  rw [ev]
  refine bnd_congr fun avs env1 => ?_
  congr 1
@[simp] theorem z_esN : evs cl io .nil env = .ok [] env := by rw [evs]; rfl
@[simp] theorem z_esC {e : E} {r : Es} : evs cl io (.cons e r) env = (ev cl io false e env).bnd fun o env => frzO o fun d => (evs cl io r env).bnd fun ds env => .ok (d :: ds) env := by
  rw [evs]
  refine bnd_congr fun o env1 => ?_
  unfold frzO
  cases o.frz <;> rfl
@[simp] theorem z_asN : evArgs cl io .nil env = .ok [] env := by rw [evArgs]; rfl
@[simp] theorem z_asC {e : E} {r : Es} : evArgs cl io (.cons e r) env = (ev cl io false e env).bnd fun o env => (freeze o env).bnd fun o env => (evArgs cl io r env).bnd fun as env => .ok (.v o :: as) env := by rw [evArgs]
@[simp] theorem z_asI {i : Nat} {r : Es} : evArgs cl io (.io i r) env = (match get env i with
    | some o => if isShd o then .bad else (evArgs cl io r env).bnd fun as env => .ok (.io i :: as) env
    | none => .bad) := by rw [evArgs] <;> rfl
@[simp] theorem z_endN : evEnd cl io .nil env = .ok none env := by rw [evEnd]; rfl
@[simp] theorem z_endC {e : E} : evEnd cl io (.cons e .nil) env = (ev cl io true e env).bnd fun o env => nifO o fun i => .ok (some i) env := by
  rw [evEnd]
  refine bnd_congr fun o env1 => ?_
  cases o <;> rfl
@[simp] theorem z_and1 {e : E} : evAnd cl io (.cons e .nil) env = (ev cl io true e env).bnd fun o env => need (isSh o) (.ok o env) := by rw [evAnd]
@[simp] theorem z_and2 {e f : E} {r : Es} : evAnd cl io (.cons e (.cons f r)) env = (ev cl io true e env).bnd fun o env => bifO o (evAnd cl io (.cons f r) env) (.ok (.sh (.bl false)) env) := by rw [evAnd_cons]; rfl
@[simp] theorem z_or1 {e : E} : evOr cl io (.cons e .nil) env = (ev cl io true e env).bnd fun o env => need (isSh o) (.ok o env) := by rw [evOr]
@[simp] theorem z_or2 {e f : E} {r : Es} : evOr cl io (.cons e (.cons f r)) env = (ev cl io true e env).bnd fun o env => bifO o (.ok (.sh (.bl true)) env) (evOr cl io (.cons f r) env) := by rw [evOr_cons]; rfl
@[simp] theorem z_tE {a : E} : evT cl io (.e a) env = (ev cl io true a env).bnd fun o env => ofO (truth o) env := by rw [evT]
@[simp] theorem z_tNot {a : T} : evT cl io (.not a) env = (evT cl io a env).bnd fun t env => .ok (nt t) env := by rw [evT]; rfl
@[simp] theorem z_tAnd {a : Ts} : evT cl io (.and a) env = evTs cl io a env := by rw [evT]
@[simp] theorem z_tOr {a : Ts} : evT cl io (.or a) env = evTo cl io a env := by rw [evT]
@[simp] theorem z_tsN : evTs cl io .nil env = .ok true env := by rw [evTs]; rfl
@[simp] theorem z_tsC {t : T} {r : Ts} : evTs cl io (.cons t r) env = (evT cl io t env).bnd fun b env => if b then evTs cl io r env else .ok false env := by rw [evTs]
@[simp] theorem z_toN : evTo cl io .nil env = .ok false env := by rw [evTo]; rfl
@[simp] theorem z_toC {t : T} {r : Ts} : evTo cl io (.cons t r) env = (evT cl io t env).bnd fun b env => if b then .ok true env else evTo cl io r env := by rw [evTo]
@[simp] theorem z_itS {e : E} : evIt cl io (.seq e) env = (ev cl io false e env).bnd fun o env => (freeze o env).bnd walkO := by rw [evIt] <;> rfl
@[simp] theorem z_it1 {a : E} : evIt cl io (.r1 a) env = (ev cl io true a env).bnd fun o env => nifO o fun n => need (rgOk 0 n) (.ok (rangeD 0 n.toNat) env) := by
  rw [evIt]
  refine bnd_congr fun o env1 => ?_
  cases o <;> rfl
@[simp] theorem z_it2 {a c : E} : evIt cl io (.r2 a c) env = (ev cl io true a env).bnd fun o env => (ev cl io true c env).bnd fun p env => nifO o fun lo => nifO p fun hi => need (rgOk lo hi) (.ok (rangeD lo (hi - lo).toNat) env) := by
  rw [evIt]
  refine bnd_congr fun o env1 => bnd_congr fun p env2 => ?_
  cases o <;> try rfl
  rename_i d
  cases d <;> try rfl
  cases p <;> try rfl
  rename_i d
  cases d <;> rfl
@[simp] theorem z_itE {e : E} : evIt cl io (.enum e) env = (ev cl io false e env).bnd fun o env => (freeze o env).bnd enumO := by rw [evIt] <;> rfl
/-! comprehensions -/
/-- a turn of a comprehension -/
noncomputable def turnF (cl : Nat → List O → CRes) (io : Nat → List Bool) (dp : Bool) (elt : E) (tg : Tg) (ifs : Ts) (x : O) (env : Env) : Out (Option O) := (take tg x env).bnd fun _ env => (evTs cl io ifs env).bnd fun t env =>
      if t then (ev cl io false elt env).bnd fun o env => if dp then .ok (some o) env else (freeze o env).bnd fun o env => .ok (some o) env else .ok none env
@[simp] theorem z_comp {dp : Bool} {vs : List Nat} {elt : E} {tg : Tg} {it : It} {ifs : Ts} : ev cl io b (.comp dp vs elt tg it ifs) env = (evIt cl io it env).bnd fun xs env => (turns (turnF cl io dp elt tg ifs) vs xs (wipe env vs)).nox.bnd fun os env2 => .ok (.lst os) (back env env2 vs) := by rw [ev] <;> rfl
/-- a comprehension that changes nothing around it -/
theorem turns_map {f : O → M (Option O)} {vs : List Nat} {env0 : Env} {α : Type} (P : α → Prop) (g : α → Option O) (h : α → O) (xs : List α) (hx : ∀ x ∈ xs, P x) (hf : ∀ x, P x → ∃ env1, f (h x) env0 = .ok (g x) env1 ∧ wipe env1 vs = env0) :
    turns f vs (xs.map h) env0 = .ok (xs.filterMap g) env0 := by
  induction xs with
  | nil => rfl
  | cons x xs ih =>
    obtain ⟨env1, h1, h2⟩ := hf x (hx x List.mem_cons_self)
    have ih := ih fun y hy => hx y (List.mem_cons_of_mem _ hy)
    show ((f (h x) env0).bnd fun y env => (turns f vs (xs.map h) (wipe env vs)).bnd fun ys env => Out.ok (match y with
      | some y => y :: ys
      | none => ys) env) = _
    rw [h1]
    simp only [Out.bnd, h2, ih]
    cases e : g x with
    | none => simp [List.filterMap_cons, e]
    | some y => simp [List.filterMap_cons, e]
/-! statements -/
@[simp] theorem z_ssN : exes cl io sub .nil env = .nx env := by rw [exes]
@[simp] theorem z_ssC {s : S} {r : Ss} : exes cl io sub (.cons s r) env = (exe cl io sub s env).thn fun env => exes cl io sub r env := by rw [exes]
@[simp] theorem z_asg {tg : Tg} {e : E} : exe cl io sub (.asg tg e) env = (ev cl io false e env).thn fun o env => (take tg o env).thn fun _ env => .nx env := by rw [exe]
@[simp] theorem z_ifs {c : T} {x y : Ss} : exe cl io sub (.ifs c x y) env = (evT cl io c env).thn fun t env => if t then exes cl io sub x env else exes cl io sub y env := by rw [exe]
@[simp] theorem z_ret {e : E} : exe cl io sub (.ret e) env = (ev cl io false e env).thn fun o env => .rt o env := by rw [exe]
@[simp] theorem z_raise {c : Nat} : exe cl io sub (.raise c) env = .exc c env := by rw [exe]
/-- a turn of a for -/
noncomputable def loopF (cl : Nat → List O → CRes) (io : Nat → List Bool) (sub : Nat → Nat → Bool) (tg : Tg) (x : Ss) (y : O) (env : Env) : SOut := (take tg y env).thn fun _ env => exes cl io sub x env
@[simp] theorem z_loop {tg : Tg} {it : It} {x : Ss} : exe cl io sub (.loop tg it x) env = (evIt cl io it env).thn fun xs env => fors (loopF cl io sub tg x) xs env := by rw [exe]; rfl
@[simp] theorem z_app {i : Nat} {e : E} : exe cl io sub (.app i e) env = (match get env i with
    | some (.lst _) => (ev cl io false e env).thn fun o env => (freeze o env).thn fun o env => match get env i with
      | some (.lst xs) => if xs.length < cap then .nx (put env i (some (.lst (xs ++ [o])))) else .bad
      | _ => .bad
    | _ => .bad) := by rw [exe] <;> rfl
@[simp] theorem z_setIx {i : Nat} {k e : E} : exe cl io sub (.setIx i k e) env = ((ev cl io false e env).thn fun o env => (freeze o env).thn fun o env => needS (get env i).isSome ((ev cl io true k env).thn fun k env => match get env i, k with
    | some x, .sh k => match setO x k o with
      | some x => .nx (put env i (some x))
      | none => .bad
    | _, _ => .bad)) := by rw [exe] <;> rfl
@[simp] theorem z_tmN {i : Nat} {o : O} : take (.nm i) o env = .ok () (put env i (some o)) := by rw [take]
@[simp] theorem z_tpT {ts : List Tg} {ds : List D} : take (.tp ts) (.sh (.tup ds)) env = takes ts ds env := by rw [take]
@[simp] theorem z_tkN : takes [] [] env = .ok () env := by rw [takes]; rfl
@[simp] theorem z_tkC {t : Tg} {ts : List Tg} {d : D} {ds : List D} : takes (t :: ts) (d :: ds) env = (take t (.sh d) env).bnd fun _ env => takes ts ds env := by rw [takes]
end
section
variable {α β : Type} {env : Env}
@[simp] theorem b_ok {a : α} {f : α → Env → Out β} : (Out.ok a env).bnd f = f a env := rfl
@[simp] theorem b_exc {c : Nat} {f : α → Env → Out β} : (Out.exc c env : Out α).bnd f = .exc c env := rfl
@[simp] theorem b_bad {f : α → Env → Out β} : (Out.bad : Out α).bnd f = .bad := rfl
@[simp] theorem t_ok {a : α} {f : α → Env → SOut} : (Out.ok a env).thn f = f a env := rfl
@[simp] theorem t_exc {c : Nat} {f : α → Env → SOut} : (Out.exc c env : Out α).thn f = .exc c env := rfl
@[simp] theorem t_bad {f : α → Env → SOut} : (Out.bad : Out α).thn f = .bad := rfl
@[simp] theorem s_nx {f : Env → SOut} : (SOut.nx env).thn f = f env := rfl
@[simp] theorem s_rt {o : O} {f : Env → SOut} : (SOut.rt o env).thn f = .rt o env := rfl
@[simp] theorem s_exc {c : Nat} {f : Env → SOut} : (SOut.exc c env).thn f = .exc c env := rfl
@[simp] theorem s_bad {f : Env → SOut} : SOut.bad.thn f = .bad := rfl
@[simp] theorem s_bk {f : Env → SOut} : (SOut.bk env).thn f = .bk env := rfl
@[simp] theorem s_ct {f : Env → SOut} : (SOut.ct env).thn f = .ct env := rfl
@[simp] theorem n_t {x : Out α} : need true x = x := rfl
@[simp] theorem n_f {x : Out α} : need false x = .bad := rfl
@[simp] theorem ns_t {x : SOut} : needS true x = x := rfl
@[simp] theorem o_some {a : α} : ofO (some a) env = .ok a env := rfl
@[simp] theorem o_none : ofO (none : Option α) env = .bad := rfl
@[simp] theorem g_0 {x : Option O} {r : Env} : get (x :: r) 0 = x := rfl
@[simp] theorem g_s {x : Option O} {r : Env} {n : Nat} : get (x :: r) (n + 1) = get r n := rfl
@[simp] theorem p_0 {x y : Option O} {r : Env} : put (x :: r) 0 y = y :: r := rfl
@[simp] theorem p_s {x y : Option O} {r : Env} {n : Nat} : put (x :: r) (n + 1) y = x :: put r n y := rfl
@[simp] theorem sh_t {d : D} : isShd (.sh d) = true := rfl
@[simp] theorem ish_t {d : D} : isSh (.sh d) = true := rfl
@[simp] theorem shr_sh {d : D} : (O.sh d).share = some (.sh d) := rfl
@[simp] theorem frz_sh {d : D} : (O.sh d).frz = some d := rfl
@[simp] theorem fr_sh {d : D} : freeze (.sh d) env = .ok (.sh d) env := rfl
@[simp] theorem rd_sh {d : D} : rd (.sh d) = some d := rfl
theorem shs_map : ∀ ds : List D, shs (ds.map O.sh) = some ds
  | [] => rfl
  | d :: ds => by simp [shs, shs_map ds]
@[simp] theorem rd_own {ds : List D} : rd (own ds) = some (.lst ds) := by simp [own, rd, shs_map]
@[simp] theorem frz_own {ds : List D} : (own ds).frz = some (.lst ds) := by simp [own, O.frz, frzs_sh]
@[simp] theorem shr_own {ds : List D} : (own ds).share = some (.sh (.lst ds)) := by simp [own, O.share, frzs_sh]
@[simp] theorem fr_own {ds : List D} : freeze (own ds) env = .ok (.sh (.lst ds)) env := by simp [freeze, ret]
@[simp] theorem shd_own {ds : List D} : isShd (own ds) = false := rfl
def ioT (tbl : Nat → Option FDef) (g : Nat) : List Bool := match tbl g with
  | some e => e.io
  | none => []
theorem ioT_at {tbl : Nat → Option FDef} {g : Nat} {d : FDef} (h : tbl g = some d) : ioT tbl g = d.io := by unfold ioT; rw [h]
def finI (io : List Bool) (x : SOut) : CRes := finish ⟨io, 0, .nil⟩ x
@[simp] theorem io_n {env : Env} : iosOf [] env = some [] := rfl
@[simp] theorem io_f {r : List Bool} {x : Option O} {s : Env} : iosOf (false :: r) (x :: s) = iosOf r s := rfl
@[simp] theorem io_t {r : List Bool} {xs : List O} {s : Env} : iosOf (true :: r) (some (.lst xs) :: s) = (iosOf r s).map (.lst xs :: ·) := rfl
def finR (x : Option (List O)) (f : List O → CRes) : CRes := match x with
  | some ios => f ios
  | none => .bad
@[simp] theorem finR_s {ios : List O} {f : List O → CRes} : finR (some ios) f = f ios := rfl
@[simp] theorem fin_rt {io : List Bool} {o : O} {env : Env} : finI io (.rt o env) = finR (iosOf io env) (.ret o) := rfl
@[simp] theorem fin_nx {io : List Bool} {env : Env} : finI io (.nx env) = finR (iosOf io env) (.ret (.sh .non)) := rfl
@[simp] theorem fin_exc {io : List Bool} {c : Nat} {env : Env} : finI io (.exc c env) = finR (iosOf io env) (.exc c) := rfl
theorem call_at {tbl : Nat → Option FDef} {sub : Nat → Nat → Bool} {n f : Nat} {os : List O} {d : FDef} (h : tbl f = some d) (hl : os.length = d.io.length) :
    call tbl sub (n + 1) f os = finI d.io (exes (call tbl sub n) (ioT tbl) sub d.body (d.start os)) := by
  rw [call, h]
  simp only [hl, if_true]
  rfl
/-! branches that meet -/
@[simp] theorem m_or {c d : Bool} {env : Env} : (if c = true then Out.ok true env else Out.ok d env) = Out.ok (orb c d) env := by cases c <;> rfl
@[simp] theorem m_and {c d : Bool} {env : Env} : (if c = true then Out.ok d env else Out.ok false env) = Out.ok (andb c d) env := by cases c <;> rfl
@[simp] theorem m_orO {c d : Bool} {env : Env} : (if c = true then Out.ok (O.sh (.bl true)) env else Out.ok (O.sh (.bl d)) env) = Out.ok (.sh (.bl (orb c d))) env := by cases c <;> rfl
@[simp] theorem m_andO {c d : Bool} {env : Env} : (if c = true then Out.ok (O.sh (.bl d)) env else Out.ok (O.sh (.bl false)) env) = Out.ok (.sh (.bl (andb c d))) env := by cases c <;> rfl
def iteB (c a b : Bool) : Bool := if c then a else b
@[simp] theorem iteB_t {a b : Bool} : iteB true a b = a := rfl
@[simp] theorem iteB_f {a b : Bool} : iteB false a b = b := rfl
@[simp low] theorem m_ite {c a b : Bool} {env : Env} : (if c = true then Out.ok a env else Out.ok b env) = Out.ok (iteB c a b) env := by cases c <;> rfl
@[simp low] theorem m_iteO {c a b : Bool} {env : Env} : (if c = true then Out.ok (O.sh (.bl a)) env else Out.ok (O.sh (.bl b)) env) = Out.ok (.sh (.bl (iteB c a b))) env := by cases c <;> rfl
/-! items -/
theorem ix_at2 {n k : Nat} (h : k < n) : ixN n (k : Int) = some k := by
  unfold ixN
  rw [if_pos (by omega), if_pos (by omega)]
  simp
theorem sub_at {b : Bool} {env : Env} {xs : List D} {k : Nat} {x : D} (h : xs[k]? = some x) : subO b (.sh (.tup xs)) (.int (k : Int)) env = .ok (.sh x) env := by
  unfold subO item
  simp only [ix_at2 (List.getElem?_eq_some_iff.mp h).1, Option.bind_some, h, Option.map_some]
theorem sub_atL {b : Bool} {env : Env} {xs : List D} {k : Nat} {x : D} (h : xs[k]? = some x) : subO b (.sh (.lst xs)) (.int (k : Int)) env = .ok (.sh x) env := by
  unfold subO item
  simp only [ix_at2 (List.getElem?_eq_some_iff.mp h).1, Option.bind_some, h, Option.map_some]
@[simp] theorem sub_t0 {b : Bool} {env : Env} {a0 : D} {r : List D} : subO b (.sh (.tup (a0 :: r))) (.int 0) env = .ok (.sh a0) env := sub_at (k := 0) rfl
@[simp] theorem sub_t1 {b : Bool} {env : Env} {a0 a1 : D} {r : List D} : subO b (.sh (.tup (a0 :: a1 :: r))) (.int 1) env = .ok (.sh a1) env := sub_at (k := 1) rfl
@[simp] theorem sub_t2 {b : Bool} {env : Env} {a0 a1 a2 : D} {r : List D} : subO b (.sh (.tup (a0 :: a1 :: a2 :: r))) (.int 2) env = .ok (.sh a2) env := sub_at (k := 2) rfl
@[simp] theorem sub_t3 {b : Bool} {env : Env} {a0 a1 a2 a3 : D} {r : List D} : subO b (.sh (.tup (a0 :: a1 :: a2 :: a3 :: r))) (.int 3) env = .ok (.sh a3) env := sub_at (k := 3) rfl
@[simp] theorem sub_t4 {b : Bool} {env : Env} {a0 a1 a2 a3 a4 : D} {r : List D} : subO b (.sh (.tup (a0 :: a1 :: a2 :: a3 :: a4 :: r))) (.int 4) env = .ok (.sh a4) env := sub_at (k := 4) rfl
@[simp] theorem sub_t5 {b : Bool} {env : Env} {a0 a1 a2 a3 a4 a5 : D} {r : List D} : subO b (.sh (.tup (a0 :: a1 :: a2 :: a3 :: a4 :: a5 :: r))) (.int 5) env = .ok (.sh a5) env := sub_at (k := 5) rfl
@[simp] theorem sub_t6 {b : Bool} {env : Env} {a0 a1 a2 a3 a4 a5 a6 : D} {r : List D} : subO b (.sh (.tup (a0 :: a1 :: a2 :: a3 :: a4 :: a5 :: a6 :: r))) (.int 6) env = .ok (.sh a6) env := sub_at (k := 6) rfl
@[simp] theorem sub_t7 {b : Bool} {env : Env} {a0 a1 a2 a3 a4 a5 a6 a7 : D} {r : List D} : subO b (.sh (.tup (a0 :: a1 :: a2 :: a3 :: a4 :: a5 :: a6 :: a7 :: r))) (.int 7) env = .ok (.sh a7) env := sub_at (k := 7) rfl
def shL (ds : List D) : List O := ds.map O.sh
@[simp] theorem lst_shL {ds : List D} : O.lst (shL ds) = own ds := rfl
/-- a comprehension over values that changes nothing -/
theorem comp_map {α : Type} {f : O → M (Option O)} {vs : List Nat} {env0 : Env} (h : α → O) (g : α → D) (xs : List α) (hf : ∀ x ∈ xs, ∃ env1, f (h x) env0 = .ok (some (.sh (g x))) env1 ∧ wipe env1 vs = env0) :
    turns f vs (xs.map h) env0 = .ok (shL (xs.map g)) env0 := by
  have e : xs.filterMap (fun x => some (O.sh (g x))) = shL (xs.map g) := by
    clear hf
    induction xs with
    | nil => rfl
    | cons x xs ih =>
      rw [List.filterMap_cons]
      simp only [ih]
      rfl
  rw [← e]
  exact turns_map (fun x => x ∈ xs) (fun x => some (.sh (g x))) h xs (fun _ h => h) hf
/-- .. with a test -/
theorem comp_filter {α : Type} {f : O → M (Option O)} {vs : List Nat} {env0 : Env} (h : α → O) (p : α → Bool) (g : α → D) (xs : List α) (hf : ∀ x ∈ xs, ∃ env1, f (h x) env0 = .ok (if p x then some (.sh (g x)) else none) env1 ∧ wipe env1 vs = env0) :
    turns f vs (xs.map h) env0 = .ok (shL ((xs.filter p).map g)) env0 := by
  have e : xs.filterMap (fun x => if p x then some (O.sh (g x)) else none) = shL ((xs.filter p).map g) := by
    clear hf
    induction xs with
    | nil => rfl
    | cons x xs ih =>
      rw [List.filterMap_cons, List.filter_cons]
      cases p x
      · simpa using ih
      · simp only [ih, if_true]
        rfl
  rw [← e]
  exact turns_map (fun x => x ∈ xs) (fun x => if p x then some (O.sh (g x)) else none) h xs (fun _ h => h) hf
@[simp] theorem nox_ok {α : Type} {a : α} {env : Env} : (Out.ok a env).nox = .ok a env := rfl
/-! values -/
@[simp] theorem i_le {i j : Int} : bin2 .le (.int i) (.int j) = some (.sh (.bl (decide (i ≤ j)))) := rfl
@[simp] theorem i_lt {i j : Int} : bin2 .lt (.int i) (.int j) = some (.sh (.bl (decide (i < j)))) := rfl
@[simp] theorem i_ge {i j : Int} : bin2 .ge (.int i) (.int j) = some (.sh (.bl (decide (j ≤ i)))) := rfl
@[simp] theorem i_gt {i j : Int} : bin2 .gt (.int i) (.int j) = some (.sh (.bl (decide (j < i)))) := rfl
@[simp] theorem i_add {i j : Int} : bin2 .add (.int i) (.int j) = some (.sh (.int (i + j))) := rfl
@[simp] theorem i_sub {i j : Int} : bin2 .sub (.int i) (.int j) = some (.sh (.int (i - j))) := rfl
@[simp] theorem b_pl {op : B2} {x y : D} : plain op (.sh x) (.sh y) = bin2 op x y := rfl
@[simp] theorem b_le {x y : D} : binO .le (.sh x) (.sh y) = bin2 .le x y := rfl
@[simp] theorem b_lt {x y : D} : binO .lt (.sh x) (.sh y) = bin2 .lt x y := rfl
@[simp] theorem b_ge {x y : D} : binO .ge (.sh x) (.sh y) = bin2 .ge x y := rfl
@[simp] theorem b_gt {x y : D} : binO .gt (.sh x) (.sh y) = bin2 .gt x y := rfl
@[simp] theorem b_eq {x y : D} : binO .eq (.sh x) (.sh y) = bin2 .eq x y := rfl
@[simp] theorem b_ne {x y : D} : binO .ne (.sh x) (.sh y) = bin2 .ne x y := rfl
@[simp] theorem b_add {x y : D} : binO .add (.sh x) (.sh y) = bin2 .add x y := rfl
@[simp] theorem b_sub {x y : D} : binO .sub (.sh x) (.sh y) = bin2 .sub x y := rfl
@[simp] theorem b_mul {x y : D} : binO .mul (.sh x) (.sh y) = bin2 .mul x y := rfl
@[simp] theorem b_mod {x y : D} : binO .mod (.sh x) (.sh y) = bin2 .mod x y := rfl
@[simp] theorem b_fdv {x y : D} : binO .fdiv (.sh x) (.sh y) = bin2 .fdiv x y := rfl
@[simp] theorem b_inn {x y : D} : binO .inn (.sh x) (.sh y) = bin2 .inn x y := rfl
@[simp] theorem b_nin {x y : D} : binO .nin (.sh x) (.sh y) = bin2 .nin x y := rfl
/-- a comparison that is not too deep -/
theorem v_eq {x y : D} (h : min x.depth y.depth ≤ 64) : bin2 .eq x y = some (.sh (.bl (D.eqv x y))) := by
  show (if deep x y then _ else _) = _
  rw [show deep x y = true from decide_eq_true h]
  rfl
theorem v_ne {x y : D} (h : min x.depth y.depth ≤ 64) : bin2 .ne x y = some (.sh (.bl (nt (D.eqv x y)))) := by
  show (if deep x y then _ else _) = _
  rw [show deep x y = true from decide_eq_true h]
  rfl
@[simp] theorem u_bl {c : Bool} : truth (.sh (.bl c)) = some c := rfl
@[simp] theorem u_int {i : Int} : truth (.sh (.int i)) = some (i != 0) := rfl
def lenD : D → Nat
  | .tup xs => xs.length
  | .lst xs => xs.length
  | _ => 0
def elems : D → List D
  | .tup xs => xs
  | .lst xs => xs
  | _ => []
@[simp] theorem el_t {xs : List D} : elems (.tup xs) = xs := rfl
@[simp] theorem el_l {xs : List D} : elems (.lst xs) = xs := rfl
@[simp] theorem ln_t {xs : List D} : lenD (.tup xs) = xs.length := rfl
@[simp] theorem ln_l {xs : List D} : lenD (.lst xs) = xs.length := rfl
def isTu : D → Bool
  | .tup _ => true
  | _ => false
def isNum : D → Bool
  | .int _ => true
  | .bl _ => true
  | _ => false
def isBo : D → Bool
  | .bl _ => true
  | _ => false
def isLi : D → Bool
  | .lst _ => true
  | _ => false
def isSt : D → Bool
  | .str _ => true
  | _ => false
def isNo : D → Bool
  | .non => true
  | _ => false
@[simp] theorem w_int {v : D} : un1 .isInt (.sh v) = some (.sh (.bl (isNum v))) := by cases v <;> rfl
@[simp] theorem w_bool {v : D} : un1 .isBool (.sh v) = some (.sh (.bl (isBo v))) := by cases v <;> rfl
@[simp] theorem w_str {v : D} : un1 .isStr (.sh v) = some (.sh (.bl (isSt v))) := by cases v <;> rfl
@[simp] theorem w_tup {v : D} : un1 .isTuple (.sh v) = some (.sh (.bl (isTu v))) := by cases v <;> rfl
@[simp] theorem w_lst {v : D} : un1 .isList (.sh v) = some (.sh (.bl (isLi v))) := by cases v <;> rfl
@[simp] theorem w_non {v : D} : un1 .isNone (.sh v) = some (.sh (.bl (isNo v))) := by cases v <;> rfl
@[simp] theorem w_nn {v : D} : un1 .notNone (.sh v) = some (.sh (.bl (nt (isNo v)))) := by cases v <;> rfl
@[simp] theorem w_lenT {xs : List D} : un1 .len (.sh (.tup xs)) = some (.sh (.int xs.length)) := rfl
@[simp] theorem w_lenL {xs : List D} : un1 .len (.sh (.lst xs)) = some (.sh (.int xs.length)) := rfl
@[simp] theorem w_lenO {xs : List O} : un1 .len (.lst xs) = some (.sh (.int xs.length)) := rfl
theorem bools_all {α : Type} (f : α → Bool) (xs : List α) : asBools (xs.map fun x => D.bl (f x)) = some (xs.map f) := by
  induction xs with
  | nil => rfl
  | cons x xs ih => simp [asBools, ih]
@[simp] theorem all_own {α : Type} {f : α → Bool} {xs : List α} : un1 .all (own (xs.map fun x => D.bl (f x))) = some (.sh (.bl (allB f xs))) := by
  simp [un1, bools_all, allB]
@[simp] theorem any_own {α : Type} {f : α → Bool} {xs : List α} : un1 .any (own (xs.map fun x => D.bl (f x))) = some (.sh (.bl (anyB f xs))) := by
  simp [un1, bools_all, anyB]
@[simp] theorem all_lst {α : Type} {f : α → Bool} {xs : List α} : un1 .all (.sh (.lst (xs.map fun x => D.bl (f x)))) = some (.sh (.bl (allB f xs))) := by
  simp [un1, bools_all, allB]
@[simp] theorem any_lst {α : Type} {f : α → Bool} {xs : List α} : un1 .any (.sh (.lst (xs.map fun x => D.bl (f x)))) = some (.sh (.bl (anyB f xs))) := by
  simp [un1, bools_all, anyB]
@[simp] theorem frzO_sh {α : Type} {d : D} {f : D → Out α} : frzO (.sh d) f = f d := rfl
@[simp] theorem frzO_own {α : Type} {ds : List D} {f : D → Out α} : frzO (own ds) f = f (.lst ds) := by unfold frzO; rw [frz_own]
theorem v_inn {x : D} {ys : List D} (h : min (D.tup ys).depth x.depth ≤ 64) : bin2 .inn x (.tup ys) = some (.sh (.bl (anyEq x ys))) := by
  show (inD x (.tup ys)).map _ = _
  unfold inD itemsOf
  simp only [show deep (.tup ys) x = true from decide_eq_true h, if_true, Option.map_some]
theorem v_innL {x : D} {ys : List D} (h : min (D.lst ys).depth x.depth ≤ 64) : bin2 .inn x (.lst ys) = some (.sh (.bl (anyEq x ys))) := by
  show (inD x (.lst ys)).map _ = _
  unfold inD itemsOf
  simp only [show deep (.lst ys) x = true from decide_eq_true h, if_true, Option.map_some]
theorem v_nin {x : D} {ys : List D} (h : min (D.tup ys).depth x.depth ≤ 64) : bin2 .nin x (.tup ys) = some (.sh (.bl (!anyEq x ys))) := by
  show (inD x (.tup ys)).map _ = _
  unfold inD itemsOf
  simp only [show deep (.tup ys) x = true from decide_eq_true h, if_true, Option.map_some]
/-- a loop that may end early -/
theorem fors_find {α : Type} {f : O → Env → SOut} {P : Env → Prop} (bad : α → Bool) (r : O) (h : α → O) (xs : List α)
    (hf : ∀ x ∈ xs, ∀ env, P env → ∃ env', P env' ∧ f (h x) env = if bad x then .rt r env' else .nx env') : ∀ env, P env → ∃ env', P env' ∧ fors f (xs.map h) env = if xs.any bad then .rt r env' else .nx env' := by
  induction xs with
  | nil => exact fun env p => ⟨env, p, rfl⟩
  | cons x xs ih =>
    intro env p
    obtain ⟨env1, p1, e1⟩ := hf x List.mem_cons_self env p
    cases hb : bad x with
    | true =>
      refine ⟨env1, p1, ?_⟩
      show (match f (h x) env with
        | .nx env => fors f (xs.map h) env
        | .ct env => fors f (xs.map h) env
        | .bk env => .nx env
        | y => y) = _
      rw [e1, hb]
      simp [hb]
    | false =>
      obtain ⟨env2, p2, e2⟩ := ih (fun y hy => hf y (List.mem_cons_of_mem _ hy)) env1 p1
      refine ⟨env2, p2, ?_⟩
      show (match f (h x) env with
        | .nx env => fors f (xs.map h) env
        | .ct env => fors f (xs.map h) env
        | .bk env => .nx env
        | y => y) = _
      rw [e1, hb]
      simp only [Bool.false_eq_true, if_false, e2, List.any_cons, hb, Bool.false_or]
theorem fors_cases {α : Type} {f : O → Env → SOut} {env : Env} {h : α → O} {xs : List α} {G : SOut → Prop} (P : Env → Prop) (bad : α → Bool) (r : O) (p : P env)
    (hf : ∀ x ∈ xs, ∀ env, P env → ∃ env', P env' ∧ f (h x) env = if bad x then .rt r env' else .nx env') (h1 : xs.any bad = true → ∀ env', P env' → G (.rt r env')) (h2 : xs.any bad = false → ∀ env', P env' → G (.nx env')) : G (fors f (xs.map h) env) := by
  obtain ⟨env', p', e⟩ := fors_find bad r h xs hf env p
  rw [e]
  cases hb : xs.any bad with
  | true => exact h1 hb env' p'
  | false => exact h2 hb env' p'
theorem v_addT {xs ys : List D} (h : xs.length + ys.length ≤ cap) : bin2 .add (.tup xs) (.tup ys) = some (.sh (.tup (xs ++ ys))) := by
  show (if _ then _ else _) = _
  rw [if_pos h]
theorem v_addL {xs ys : List D} (h : xs.length + ys.length ≤ cap) : bin2 .add (.lst xs) (.lst ys) = some (own (xs ++ ys)) := by
  show (if _ then _ else _) = _
  rw [if_pos h]
theorem rg_ok {n : Int} (h : n ≤ 16777216) (h0 : 0 ≤ n) : rgOk 0 n = true := by
  have e : (2 : Int) ^ 61 = 2305843009213693952 := by decide
  simp only [rgOk_eq, rgOk0, Bool.and_eq_true, decide_eq_true_eq]
  rw [e]
  omega
end
/-- a def stands in a table -/
class Has (tbl : Nat → Option FDef) (k : Nat) (f : outParam FDef) : Prop where
  h : tbl k = some f
@[simp] theorem ioT_has {tbl : Nat → Option FDef} {k : Nat} {f : FDef} [i : Has tbl k f] : ioT tbl k = f.io := ioT_at i.h
theorem call_has {tbl : Nat → Option FDef} {sub : Nat → Nat → Bool} {n k : Nat} {os : List O} {f : FDef} [i : Has tbl k f] (hl : os.length = f.io.length) :
    call tbl sub (n + 1) k os = finI f.io (exes (call tbl sub n) (ioT tbl) sub f.body (f.start os)) := call_at i.h hl
end Ev
set_option maxHeartbeats 400000
set_option linter.all false
namespace Lw
open Ev
/-! the rules' form -/
section
variable {tbl : Nat → Option FDef} {sub : Nat → Nat → Bool}
def isN : D → Bool
  | .int _ => true
  | _ => false
theorem c_is_integer [H0 : Has tbl 0 f_is_integer] (n : Nat) (v : D) : call tbl sub (n + 1) 0 [.sh v] = .ret (.sh (.bl (isN v))) [] := by
  rw [call_at H0.h rfl]
  cases v <;> rfl
def ltn (v b : D) : Bool := match v, b with
  | .int i, .int j => decide (0 ≤ i) && decide (i < j)
  | _, _ => false
theorem c_is_below [H0 : Has tbl 0 f_is_integer] [H1 : Has tbl 1 f_is_below] (n : Nat) (v : D) (j : Int) : call tbl sub (n + 2) 1 [.sh v, .sh (.int j)] = .ret (.sh (.bl (ltn v (.int j)))) [] := by
  rw [call_at H1.h rfl]
  simp [f_is_below, FDef.start, E.noIo, Es.noIo, methOk, puts, c_is_integer, ioT_at H0.h, f_is_integer]
  cases v with
  | int i =>
    simp [isN, ltn]
    by_cases h : 0 ≤ i <;> simp [h]
  | _ => simp [isN, ltn]
def isRow (v : D) (a b : Int) : Bool := isTu v && (decide (a ≤ lenD v) && decide ((lenD v : Int) ≤ b))
theorem c_is_row [H2 : Has tbl 2 f_is_row] (n : Nat) (v : D) (a b : Int) : call tbl sub (n + 1) 2 [.sh v, .sh (.int a), .sh (.int b)] = .ret (.sh (.bl (isRow v a b))) [] := by
  rw [call_at H2.h rfl]
  simp [f_is_row, FDef.start, E.noIo, Es.noIo, methOk, puts]
  cases v with
  | tup xs =>
    simp [isTu, lenD, isRow]
    by_cases h : a ≤ xs.length <;> simp [h] <;> rfl
  | _ => simp [isTu, isRow]
def isHall (v : D) (h : Int) : Bool := isNo v || ltn v (.int h)
theorem c_is_hall [H0 : Has tbl 0 f_is_integer] [H1 : Has tbl 1 f_is_below] [H3 : Has tbl 3 f_is_hall] (n : Nat) (v : D) (h : Int) : call tbl sub (n + 3) 3 [.sh v, .sh (.int h)] = .ret (.sh (.bl (isHall v h))) [] := by
  rw [call_at H3.h rfl]
  simp [f_is_hall, FDef.start, E.noIo, Es.noIo, methOk, puts, c_is_below, ioT_at H1.h, f_is_below]
  unfold isHall
  cases isNo v <;> simp []
theorem row_len {v : D} {a b : Int} (h : isRow v a b = true) : ∃ xs, v = .tup xs ∧ a ≤ xs.length ∧ (xs.length : Int) ≤ b := by
  cases v with
  | tup xs => exact ⟨xs, rfl, by simp [isRow, isTu, lenD] at h; exact ⟨of_decide_eq_true h.1, of_decide_eq_true h.2⟩⟩
  | _ => simp [isRow, isTu] at h
theorem row2 {v : D} (h : isRow v 2 2 = true) : ∃ x y, v = .tup [x, y] := by
  obtain ⟨xs, rfl, h1, h2⟩ := row_len h
  have h3 : xs.length = 2 := by omega
  match xs, h3 with
  | [x, y], _ => exact ⟨x, y, rfl⟩
def isIn : D → Int → Bool
  | .tup [x, y], n => D.eqv x (.str "in") && ltn y (.int n)
  | _, _ => false
theorem isIn_row {v : D} {n : Int} (h : isRow v 2 2 = false) : isIn v n = false := by
  unfold isIn
  split
  · simp [isRow, isTu, lenD] at h
  · rfl
theorem c_is_in [H0 : Has tbl 0 f_is_integer] [H1 : Has tbl 1 f_is_below] [H2 : Has tbl 2 f_is_row] [H5 : Has tbl 5 f_is_in] (n : Nat) (v : D) (i : Int) : call tbl sub (n + 3) 5 [.sh v, .sh (.int i)] = .ret (.sh (.bl (isIn v i))) [] := by
  rw [call_at H5.h rfl]
  simp [f_is_in, FDef.start, E.noIo, Es.noIo, methOk, puts, c_is_below, c_is_row, ioT_at H1.h, ioT_at H2.h, f_is_below, f_is_row]
  cases h : isRow v 2 2 with
  | false => simp [isIn_row h]
  | true =>
    obtain ⟨x, y, rfl⟩ := row2 h
    simp [v_eq (x := x) (y := .str "in") (by simp [D.depth]), isIn]
    cases D.eqv x (.str "in") <;> simp [c_is_below]
abbrev MEM : D := .tup [.str "memory"]
abbrev WRI : D := .tup [.str "written"]
abbrev OWN : D := .tup [.str "own"]
def isSrc (v : D) (n : Int) : Bool := D.eqv v MEM || D.eqv v WRI || isIn v n
theorem c_is_source [H0 : Has tbl 0 f_is_integer] [H1 : Has tbl 1 f_is_below] [H2 : Has tbl 2 f_is_row] [H4 : Has tbl 4 f_is_source] [H5 : Has tbl 5 f_is_in] (n : Nat) (v : D) (i : Int) : call tbl sub (n + 4) 4 [.sh v, .sh (.int i)] = .ret (.sh (.bl (isSrc v i))) [] := by
  rw [call_at H4.h rfl]
  simp [f_is_source, FDef.start, E.noIo, Es.noIo, methOk, puts, c_is_in, ioT_at H5.h, f_is_in, v_eq (x := v) (y := .tup [.str "memory"]) (by simp [D.depth, D.depths]; omega), v_eq (x := v) (y := .tup [.str "written"]) (by simp [D.depth, D.depths]; omega)]
  unfold isSrc MEM WRI
  cases D.eqv v (.tup [.str "memory"]) <;> cases D.eqv v (.tup [.str "written"]) <;> simp []
/-! all of them -/
def hasForm (v : D) (kinds halls : Int) : Bool := match v with
  | .tup [x, .tup ks] => isHall x halls && (isRow (.tup ks) 1 3 && allB (fun k => ltn k (.int kinds)) ks)
  | _ => false
theorem c_has_form [H0 : Has tbl 0 f_is_integer] [H1 : Has tbl 1 f_is_below] [H2 : Has tbl 2 f_is_row] [H3 : Has tbl 3 f_is_hall] [H6 : Has tbl 6 f_has_form] (n : Nat) (v : D) (kinds halls : Int) : call tbl sub (n + 4) 6 [.sh v, .sh (.int kinds), .sh (.int halls)] = .ret (.sh (.bl (hasForm v kinds halls))) [] := by
  rw [call_at H6.h rfl]
  simp [f_has_form, FDef.start, E.noIo, Es.noIo, methOk, puts, c_is_hall, c_is_row, c_is_below, ioT_at H1.h, ioT_at H2.h, ioT_at H3.h, f_is_below, f_is_row, f_is_hall]
  cases h : isRow v 2 2 with
  | false =>
    have : hasForm v kinds halls = false := by
      unfold hasForm
      split
      · simp [isRow, isTu, lenD] at h
      · rfl
    simp [this]
  | true =>
    obtain ⟨x, y, rfl⟩ := row2 h
    simp [c_is_hall, c_is_row]
    cases h1 : isHall x halls with
    | false =>
      have : hasForm (.tup [x, y]) kinds halls = false := by
        unfold hasForm
        split
        · rename_i e; cases e; simp [h1]
        · rfl
      simp [this]
    | true =>
      cases h2 : isRow y 1 3 with
      | false =>
        have : hasForm (.tup [x, y]) kinds halls = false := by
          unfold hasForm
          split
          · rename_i e; cases e; simp [h2]
          · rfl
        simp [this]
      | true =>
        obtain ⟨ks, rfl, _, _⟩ := row_len h2
        simp [wipe]
        rw [comp_map O.sh (fun k => D.bl (ltn k (.int kinds))) ks ?hf]
        · simp [back, hasForm, h1, h2]
        · exact fun k _ => ⟨_, by simp [turnF, ioT_at H1.h, f_is_below, puts, c_is_below]; rfl, rfl⟩
def isTarget (v : D) (kinds ins : Int) (own : Bool) : Bool := match v with
  | .tup [k, s] => ltn k (.int kinds) && (isNo s || (isSrc s ins || (own && D.eqv s OWN)))
  | _ => false
theorem target_row {v : D} {a b : Int} {o : Bool} (h : isRow v 2 2 = false) : isTarget v a b o = false := by
  unfold isTarget
  split
  · simp [isRow, isTu, lenD] at h
  · rfl
theorem c_is_target [H0 : Has tbl 0 f_is_integer] [H1 : Has tbl 1 f_is_below] [H2 : Has tbl 2 f_is_row] [H4 : Has tbl 4 f_is_source] [H5 : Has tbl 5 f_is_in] [H7 : Has tbl 7 f_is_target] (n : Nat) (v : D) (kinds ins : Int) (own : Bool) : call tbl sub (n + 5) 7 [.sh v, .sh (.int kinds), .sh (.int ins), .sh (.bl own)] = .ret (.sh (.bl (isTarget v kinds ins own))) [] := by
  rw [call_at H7.h rfl]
  simp [f_is_target, FDef.start, E.noIo, Es.noIo, methOk, puts, c_is_row, ioT_at H1.h, ioT_at H2.h, ioT_at H4.h, f_is_below, f_is_row, f_is_source]
  cases h : isRow v 2 2 with
  | false => simp [target_row h]
  | true =>
    obtain ⟨x, y, rfl⟩ := row2 h
    simp [c_is_below, isTarget]
    cases h1 : ltn x (.int kinds) with
    | false => simp
    | true =>
      simp [c_is_source]
      cases h2 : isNo y with
      | true => simp
      | false =>
        simp [c_is_source]
        cases h3 : isSrc y ins with
        | true => simp
        | false =>
          cases own with
          | false => simp
          | true =>
            simp [v_eq (x := y) (y := .tup [.str "own"]) (by simp [D.depth, D.depths]; omega), OWN]
theorem len8 {xs : List D} (h : xs.length = 8) : ∃ a0 a1 a2 a3 a4 a5 a6 a7, xs = [a0, a1, a2, a3, a4, a5, a6, a7] := by
  match xs, h with
  | [a0, a1, a2, a3, a4, a5, a6, a7], _ => exact ⟨a0, a1, a2, a3, a4, a5, a6, a7, rfl⟩
def isMove (v : D) (kinds halls : Int) : Bool := match v with
  | .tup [a0, a1, a2, a3, a4, a5, a6, a7] => isHall a0 halls && (isHall a1 halls && (isBo a2 && (isRow a5 0 3 && (isRow a6 0 3 && (isSrc a3 (lenD a5) && (orb (isNo a4) (orb (D.eqv a4 MEM) (isIn a4 (lenD a5))) && (allB (fun k => ltn k (.int kinds)) (elems a5) && (isRow a7 kinds kinds &&
      (allB (fun o => isTarget o kinds (lenD a5) false) (elems a6) && allB (fun o => isTarget o kinds (lenD a5) true) (elems a7))))))))))
  | _ => false
theorem c_is_move [H0 : Has tbl 0 f_is_integer] [H1 : Has tbl 1 f_is_below] [H2 : Has tbl 2 f_is_row] [H3 : Has tbl 3 f_is_hall] [H4 : Has tbl 4 f_is_source] [H5 : Has tbl 5 f_is_in] [H7 : Has tbl 7 f_is_target] [H8 : Has tbl 8 f_is_move] (n : Nat) (v : D) (kinds halls : Int) : call tbl sub (n + 6) 8 [.sh v, .sh (.int kinds), .sh (.int halls)] = .ret (.sh (.bl (isMove v kinds halls))) [] := by
  rw [call_at H8.h rfl]
  simp [f_is_move, FDef.start, E.noIo, Es.noIo, methOk, puts, c_is_row, ioT_at H1.h, ioT_at H2.h, ioT_at H3.h, ioT_at H4.h, ioT_at H5.h, ioT_at H7.h, f_is_below, f_is_row, f_is_hall, f_is_source, f_is_in, f_is_target]
  cases h : isRow v 8 8 with
  | false =>
    have : isMove v kinds halls = false := by
      unfold isMove
      split
      · simp [isRow, isTu, lenD] at h
      · rfl
    simp [this]
  | true =>
    obtain ⟨xs, rfl, l1, l2⟩ := row_len h
    obtain ⟨a0, a1, a2, a3, a4, a5, a6, a7, rfl⟩ := len8 (show xs.length = 8 by omega)
    simp [c_is_hall, isMove]
    cases h0 : isHall a0 halls with
    | false => simp
    | true =>
    simp [c_is_hall]
    cases h1 : isHall a1 halls with
    | false => simp
    | true =>
    simp [c_is_row]
    cases h2 : isBo a2 with
    | false => simp
    | true =>
    simp [c_is_row]
    cases h5 : isRow a5 0 3 with
    | false => simp
    | true =>
    simp [c_is_row]
    cases h6 : isRow a6 0 3 with
    | false => simp
    | true =>
    obtain ⟨is, rfl, _, _⟩ := row_len h5
    obtain ⟨os, rfl, _, _⟩ := row_len h6
    simp [c_is_source]
    cases h3 : isSrc a3 is.length with
    | false => simp
    | true =>
    simp [v_eq (x := a4) (y := .tup [.str "memory"]) (by simp [D.depth, D.depths]; omega), c_is_in]
    cases h4 : orb (isNo a4) (orb (D.eqv a4 MEM) (isIn a4 is.length)) with
    | false => simp [h4]
    | true =>
    simp [h4, wipe]
    rw [comp_map O.sh (fun k => D.bl (ltn k (.int kinds))) is ?hf]
    case hf => exact fun k _ => ⟨_, by simp [turnF, ioT_at H1.h, f_is_below, puts, c_is_below]; rfl, rfl⟩
    simp [back]
    cases h7 : allB (fun k => ltn k (.int kinds)) is with
    | false => simp
    | true =>
    simp [c_is_row]
    cases h8 : isRow a7 kinds kinds with
    | false => simp
    | true =>
    obtain ⟨ls, rfl, _, _⟩ := row_len h8
    simp [wipe]
    rw [comp_map O.sh (fun o => D.bl (isTarget o kinds is.length false)) os ?hf2]
    case hf2 => exact fun k _ => ⟨_, by simp [turnF, ioT_at H7.h, f_is_target, puts, c_is_target]; rfl, rfl⟩
    simp [back]
    cases h9 : allB (fun o => isTarget o kinds is.length false) os with
    | false => simp
    | true =>
    simp [wipe]
    rw [comp_map O.sh (fun o => D.bl (isTarget o kinds is.length true)) ls ?hf3]
    case hf3 => exact fun k _ => ⟨_, by simp [turnF, ioT_at H7.h, f_is_target, puts, c_is_target]; rfl, rfl⟩
    simp [back]
theorem len4 {xs : List D} (h : xs.length = 4) : ∃ a0 a1 a2 a3, xs = [a0, a1, a2, a3] := by
  match xs, h with
  | [a0, a1, a2, a3], _ => exact ⟨a0, a1, a2, a3, rfl⟩
theorem ltn_int {v : D} {j : Int} (h : ltn v (.int j) = true) : ∃ i, v = .int i ∧ 0 ≤ i ∧ i < j := by
  cases v with
  | int i => exact ⟨i, rfl, by simpa [ltn] using h⟩
  | _ => simp [ltn] at h
def intD : D → Int
  | .int i => i
  | _ => 0
@[simp] theorem intD_i {i : Int} : intD (.int i) = i := rfl
def areRules (v : D) : Bool := match v with
  | .tup [a0, a1, a2, a3] => isRow a0 1 6 && (ltn a1 (.int 5) && (allB isBo (elems a0) && (decide (1 ≤ intD a1) && (isRow a2 1 12 && (isRow a3 0 4 &&
      (allB (fun m => isMove m (lenD a0) (intD a1)) (elems a2) && allB (fun p => hasForm p (lenD a0) (intD a1)) (elems a3)))))))
  | _ => false
theorem c_are_rules [H0 : Has tbl 0 f_is_integer] [H1 : Has tbl 1 f_is_below] [H2 : Has tbl 2 f_is_row] [H3 : Has tbl 3 f_is_hall] [H4 : Has tbl 4 f_is_source] [H5 : Has tbl 5 f_is_in] [H6 : Has tbl 6 f_has_form] [H7 : Has tbl 7 f_is_target] [H8 : Has tbl 8 f_is_move] [H9 : Has tbl 9 f_are_rules] (n : Nat) (v : D) : call tbl sub (n + 7) 9 [.sh v] = .ret (.sh (.bl (areRules v))) [] := by
  rw [call_at H9.h rfl]
  simp [f_are_rules, FDef.start, E.noIo, Es.noIo, methOk, puts, c_is_row, ioT_at H1.h, ioT_at H2.h, ioT_at H6.h, ioT_at H8.h, f_is_below, f_is_row, f_has_form, f_is_move]
  cases h : isRow v 4 4 with
  | false =>
    have : areRules v = false := by
      unfold areRules
      split
      · simp [isRow, isTu, lenD] at h
      · rfl
    simp [this]
  | true =>
    obtain ⟨xs, rfl, l1, l2⟩ := row_len h
    obtain ⟨a0, a1, a2, a3, rfl⟩ := len4 (show xs.length = 4 by omega)
    simp [c_is_row, areRules]
    cases h0 : isRow a0 1 6 with
    | false => simp
    | true =>
    simp [c_is_below]
    cases h1 : ltn a1 (.int 5) with
    | false => simp
    | true =>
    obtain ⟨cs, rfl, _, _⟩ := row_len h0
    obtain ⟨hl, rfl, _, _⟩ := ltn_int h1
    simp [wipe]
    rw [comp_map O.sh (fun o => D.bl (isBo o)) cs ?hf]
    case hf => exact fun k _ => ⟨_, by simp [turnF]; rfl, rfl⟩
    simp [back]
    cases h2 : allB isBo cs with
    | false => simp
    | true =>
    simp
    by_cases h3 : hl < 1
    · simp [h3, show ¬ (1 ≤ hl) by omega]
    simp [h3, c_is_row, show 1 ≤ hl by omega]
    cases h4 : isRow a2 1 12 with
    | false => simp
    | true =>
    simp [c_is_row]
    cases h5 : isRow a3 0 4 with
    | false => simp
    | true =>
    obtain ⟨ms, rfl, _, _⟩ := row_len h4
    obtain ⟨ps, rfl, _, _⟩ := row_len h5
    simp [wipe]
    rw [comp_map O.sh (fun m => D.bl (isMove m cs.length hl)) ms ?hf2]
    case hf2 => exact fun k _ => ⟨_, by simp [turnF, ioT_at H8.h, f_is_move, puts, c_is_move]; rfl, rfl⟩
    simp [back]
    cases h6 : allB (fun m => isMove m cs.length hl) ms with
    | false => simp
    | true =>
    simp [wipe]
    rw [comp_map O.sh (fun m => D.bl (hasForm m cs.length hl)) ps ?hf3]
    case hf3 => exact fun k _ => ⟨_, by simp [turnF, ioT_at H6.h, f_has_form, puts, c_has_form]; rfl, rfl⟩
    simp [back]
end
end Lw
set_option maxHeartbeats 400000
set_option linter.all false
namespace Lw
open Ev
/-! the law's own form of rules -/
section
variable {tbl : Nat → Option FDef} {sub : Nat → Nat → Bool}
def numIn (v : D) (a b : Int) : Bool := match v with
  | .int i => decide (a ≤ i) && decide (i ≤ b)
  | _ => false
theorem numIn_ltn (v : D) (k : Int) : numIn v 0 (k - 1) = ltn v (.int k) := by
  cases v with
  | int i =>
    show (decide (0 ≤ i) && decide (i ≤ k - 1)) = (decide (0 ≤ i) && decide (i < k))
    rw [show decide (i ≤ k - 1) = decide (i < k) from by by_cases h : i < k <;> simp [h] <;> omega]
  | _ => rfl
theorem l_is_number [H17 : Has tbl 17 f_law_is_number] (n : Nat) (v : D) (a b : Int) : call tbl sub (n + 1) 17 [.sh v, .sh (.int a), .sh (.int b)] = .ret (.sh (.bl (numIn v a b))) [] := by
  rw [call_at H17.h rfl]
  simp [f_law_is_number, FDef.start, E.noIo, Es.noIo, methOk, puts]
  cases v with
  | int i =>
    simp [isNum, isBo, numIn]
    by_cases h : a ≤ i <;> simp [h]
  | _ => simp [isNum, isBo, numIn]
theorem l_is_row [H18 : Has tbl 18 f_law_is_row] (n : Nat) (v : D) (a b : Int) : call tbl sub (n + 1) 18 [.sh v, .sh (.int a), .sh (.int b)] = .ret (.sh (.bl (isRow v a b))) [] := by
  rw [call_at H18.h rfl]
  simp [f_law_is_row, FDef.start, E.noIo, Es.noIo, methOk, puts]
  cases v with
  | tup xs =>
    simp [isTu, lenD, isRow]
    by_cases h : a ≤ xs.length <;> simp [h] <;> rfl
  | _ => simp [isTu, isRow]
theorem l_is_hall [H17 : Has tbl 17 f_law_is_number] [H21 : Has tbl 21 f_law_is_hall] (n : Nat) (v : D) (h : Int) : call tbl sub (n + 2) 21 [.sh v, .sh (.int h)] = .ret (.sh (.bl (isHall v h))) [] := by
  rw [call_at H21.h rfl]
  simp [f_law_is_hall, FDef.start, E.noIo, Es.noIo, methOk, puts, l_is_number, ioT_at H17.h, f_law_is_number, numIn_ltn]
  rfl
theorem beqc {a b : String} : (a == b) = (b == a) := by
  by_cases h : a = b
  · subst h; rfl
  · rw [beq_eq_false_iff_ne.mpr h, beq_eq_false_iff_ne.mpr (Ne.symm h)]
theorem row1 {v : D} (h : isRow v 1 1 = true) : ∃ x, v = .tup [x] := by
  obtain ⟨xs, rfl, h1, h2⟩ := row_len h
  have h3 : xs.length = 1 := by omega
  match xs, h3 with
  | [x], _ => exact ⟨x, rfl⟩
theorem l_is_source [H17 : Has tbl 17 f_law_is_number] [H18 : Has tbl 18 f_law_is_row] [H20 : Has tbl 20 f_law_is_source] (n : Nat) (v : D) (i : Int) : call tbl sub (n + 2) 20 [.sh v, .sh (.int i)] = .ret (.sh (.bl (isSrc v i))) [] := by
  rw [call_at H20.h rfl]
  simp [f_law_is_source, FDef.start, E.noIo, Es.noIo, methOk, puts, l_is_row, ioT_at H17.h, ioT_at H18.h, f_law_is_number, f_law_is_row]
  cases h : isRow v 1 1 with
  | true =>
    obtain ⟨x, rfl⟩ := row1 h
    simp [v_inn (x := x) (ys := [.str "memory", .str "written"]) (by simp [D.depth, D.depths]; omega)]
    cases x with
    | str s =>
      simp [isSt, isSrc, isIn, anyEq, D.eqv, D.eqvs]
      rw [beqc (a := "memory"), beqc (a := "written")]
    | _ => simp [isSt, isSrc, isIn, D.eqv, D.eqvs]
  | false =>
    simp [l_is_row]
    cases h2 : isRow v 2 2 with
    | false =>
      have e1 : D.eqv v MEM = false := by
        cases v with
        | tup xs =>
          match xs, h with
          | [], _ => rfl
          | [x], h => simp [isRow, isTu] at h
          | x :: y :: r, _ => simp [D.eqv, D.eqvs]
        | _ => rfl
      have e2 : D.eqv v WRI = false := by
        cases v with
        | tup xs =>
          match xs, h with
          | [], _ => rfl
          | [x], h => simp [isRow, isTu] at h
          | x :: y :: r, _ => simp [D.eqv, D.eqvs]
        | _ => rfl
      simp [isSrc, e1, e2, isIn_row h2]
    | true =>
      obtain ⟨x, y, rfl⟩ := row2 h2
      simp
      cases x with
      | str s =>
        simp [isSt, v_eq (x := .str s) (y := .str "in") (by simp [D.depth]), isSrc, isIn, D.eqv, D.eqvs]
        by_cases hs : s = "in"
        · simp [hs, l_is_number, ioT_at H17.h, f_law_is_number, numIn_ltn]
        · simp [hs]
      | _ => simp [isSt, isSrc, isIn, D.eqv, D.eqvs]
theorem l_is_pattern [H17 : Has tbl 17 f_law_is_number] [H18 : Has tbl 18 f_law_is_row] [H21 : Has tbl 21 f_law_is_hall] [H22 : Has tbl 22 f_law_is_pattern] (n : Nat) (v : D) (kinds halls : Int) : call tbl sub (n + 3) 22 [.sh (.int kinds), .sh (.int halls), .sh v] = .ret (.sh (.bl (hasForm v kinds halls))) [] := by
  rw [call_at H22.h rfl]
  simp [f_law_is_pattern, FDef.start, E.noIo, Es.noIo, methOk, puts, l_is_row, ioT_at H17.h, ioT_at H18.h, ioT_at H21.h, f_law_is_number, f_law_is_row, f_law_is_hall]
  cases h : isRow v 2 2 with
  | false =>
    have : hasForm v kinds halls = false := by
      unfold hasForm
      split
      · simp [isRow, isTu, lenD] at h
      · rfl
    simp [this]
  | true =>
    obtain ⟨x, y, rfl⟩ := row2 h
    simp [l_is_hall]
    cases h1 : isHall x halls with
    | false =>
      have : hasForm (.tup [x, y]) kinds halls = false := by
        unfold hasForm
        split
        · rename_i e; cases e; simp [h1]
        · rfl
      simp [this]
    | true =>
      simp [l_is_row]
      cases h2 : isRow y 1 3 with
      | false =>
        have : hasForm (.tup [x, y]) kinds halls = false := by
          unfold hasForm
          split
          · rename_i e; cases e; simp [h2]
          · rfl
        simp [this]
      | true =>
        obtain ⟨ks, rfl, _, _⟩ := row_len h2
        simp [wipe]
        rw [comp_map O.sh (fun k => D.bl (ltn k (.int kinds))) ks ?hf]
        · simp [back, hasForm, h1, h2]
        · exact fun k _ => ⟨_, by simp [turnF, methOk, ioT_at H17.h, f_law_is_number, puts, l_is_number, numIn_ltn]; rfl, rfl⟩
theorem all_1 {b : Bool} : un1 .all (.lst [.sh (.bl b)]) = some (.sh (.bl b)) := by cases b <;> rfl
/-- .. of a text -/
theorem l_same_own [H16 : Has tbl 16 f_law_same] (n : Nat) (v : D) (h : isRow v 1 1 = true) : call tbl sub (n + 2) 16 [.sh v, .sh OWN] = .ret (.sh (.bl (D.eqv v OWN))) [] := by
  obtain ⟨x, rfl⟩ := row1 h
  have inner : ∀ x : D, call tbl sub (n + 1) 16 [.sh x, .sh (.str "own")] = .ret (.sh (.bl (D.eqv x (.str "own")))) [] := fun x => by
    rw [call_at H16.h rfl]
    simp [f_law_same, FDef.start, E.noIo, Es.noIo, methOk, puts, v_eq (x := x) (y := .str "own") (by simp [D.depth])]
    cases x with
    | str s =>
      simp [isTu, isLi, isBo, D.eqv, v_eq, D.depth]
      by_cases e : s = "own" <;> simp [e]
    | _ => simp [isTu, isLi, isBo, D.eqv, v_eq, D.depth]
  rw [call_at H16.h rfl]
  simp [f_law_same, FDef.start, E.noIo, Es.noIo, methOk, puts, isTu, v_eq, D.depth, D.eqv, wipe, rgOk_eq, rgOk0, rangeD, turns, turnF, back, ioT_at H16.h, inner, ret, all_1, D.eqvs]
theorem wri_only {v : D} (h : D.eqv v WRI = true) : v = WRI := by
  cases v with
  | tup xs =>
    match xs, h with
    | [], h => simp [D.eqv, D.eqvs] at h
    | [x], h =>
      cases x with
      | str s => simp [D.eqv, D.eqvs] at h; rw [h]
      | _ => simp [D.eqv, D.eqvs] at h
    | _ :: _ :: _, h => simp [D.eqv, D.eqvs] at h
  | _ => simp [D.eqv] at h
theorem src4 (v : D) (n : Int) : orb (nt (isSrc v n)) (D.eqv v WRI) = nt (orb (D.eqv v MEM) (isIn v n)) := by
  cases h : D.eqv v WRI with
  | true =>
    rw [wri_only h]
    simp [isSrc, isIn, D.eqv, D.eqvs, orb, nt]
  | false =>
    unfold isSrc
    rw [h]
    cases D.eqv v MEM <;> cases isIn v n <;> rfl
theorem own_row {v : D} (h : isRow v 1 1 = false) : D.eqv v OWN = false := by
  cases v with
  | tup xs =>
    match xs, h with
    | [], _ => rfl
    | [x], h => simp [isRow, isTu] at h
    | x :: y :: r, _ => simp [D.eqv, D.eqvs]
  | _ => rfl
theorem any_two {p q : D → Bool} {g : D → Bool → Bool} {os ls : List D} {m : Int} (hp : ∀ o, g o false = p o) (hq : ∀ o, g o true = q o) (hm : (ls.length : Int) = m) :
    (List.range ((os.length : Int) + m).toNat).any (fun k => nt (g ((os ++ ls).getD k .non) (decide (os.length ≤ k)))) = nt (allB p os && allB q ls) := by
  have e : ((os.length : Int) + m).toNat = os.length + ls.length := by omega
  rw [e]
  cases h : allB p os && allB q ls with
  | true =>
    obtain ⟨h1, h2⟩ := Bool.and_eq_true_iff.mp h
    show _ = false
    rw [List.any_eq_false]
    intro k hk
    have hk := List.mem_range.mp hk
    by_cases c : k < os.length
    · rw [List.getD_eq_getElem?_getD, List.getElem?_append_left c, List.getElem?_eq_getElem c, decide_eq_false (by omega), Option.getD_some, hp]
      have := List.all_eq_true.mp h1 _ (List.getElem_mem c)
      simp [this]
    · have c2 : k - os.length < ls.length := by omega
      rw [List.getD_eq_getElem?_getD, List.getElem?_append_right (by omega), List.getElem?_eq_getElem c2, decide_eq_true (by omega), Option.getD_some, hq]
      have := List.all_eq_true.mp h2 _ (List.getElem_mem c2)
      simp [this]
  | false =>
    show _ = true
    rw [List.any_eq_true]
    cases h1 : allB p os with
    | false =>
      obtain ⟨x, hx, hp2⟩ := List.all_eq_false.mp h1
      obtain ⟨k, hk, rfl⟩ := List.mem_iff_getElem.mp hx
      refine ⟨k, List.mem_range.mpr (by omega), ?_⟩
      rw [List.getD_eq_getElem?_getD, List.getElem?_append_left hk, List.getElem?_eq_getElem hk, decide_eq_false (by omega), Option.getD_some, hp]
      simp at hp2
      simp [hp2]
    | true =>
      rw [h1] at h
      obtain ⟨x, hx, hp2⟩ := List.all_eq_false.mp (show allB q ls = false from h)
      obtain ⟨k, hk, rfl⟩ := List.mem_iff_getElem.mp hx
      refine ⟨os.length + k, List.mem_range.mpr (by omega), ?_⟩
      rw [List.getD_eq_getElem?_getD, List.getElem?_append_right (by omega), Nat.add_sub_cancel_left, List.getElem?_eq_getElem hk, decide_eq_true (by omega), Option.getD_some, hq]
      simp at hp2
      simp [hp2]
set_option maxRecDepth 4000 in
theorem l_is_move [H16 : Has tbl 16 f_law_same] [H17 : Has tbl 17 f_law_is_number] [H18 : Has tbl 18 f_law_is_row] [H20 : Has tbl 20 f_law_is_source] [H21 : Has tbl 21 f_law_is_hall] [H23 : Has tbl 23 f_law_is_move] (n : Nat) (v : D) (kinds halls : Int) (hk : 0 ≤ kinds ∧ kinds ≤ 1000) : call tbl sub (n + 4) 23 [.sh (.int kinds), .sh (.int halls), .sh v] = .ret (.sh (.bl (isMove v kinds halls))) [] := by
  rw [call_at H23.h rfl]
  simp [f_law_is_move, FDef.start, E.noIo, Es.noIo, methOk, puts, l_is_row, ioT_at H17.h, ioT_at H18.h, ioT_at H20.h, ioT_at H21.h, f_law_is_number, f_law_is_row, f_law_is_hall, f_law_is_source]
  cases h : isRow v 8 8 with
  | false =>
    have : isMove v kinds halls = false := by
      unfold isMove
      split
      · simp [isRow, isTu, lenD] at h
      · rfl
    simp [this]
  | true =>
    obtain ⟨xs, rfl, l1, l2⟩ := row_len h
    obtain ⟨a0, a1, a2, a3, a4, a5, a6, a7, rfl⟩ := len8 (show xs.length = 8 by omega)
    simp [l_is_hall, isMove]
    cases h0 : isHall a0 halls with
    | false => simp
    | true =>
    simp [l_is_hall]
    cases h1 : isHall a1 halls with
    | false => simp
    | true =>
    simp [l_is_row]
    cases h2 : isBo a2 with
    | false => simp
    | true =>
    simp [l_is_row]
    cases h5 : isRow a5 0 3 with
    | false => simp
    | true =>
    simp [l_is_row]
    cases h6 : isRow a6 0 3 with
    | false => simp
    | true =>
    simp [l_is_row]
    cases h7 : isRow a7 kinds kinds with
    | false => simp
    | true =>
    obtain ⟨is, rfl, _, _⟩ := row_len h5
    obtain ⟨os, rfl, _, lo⟩ := row_len h6
    obtain ⟨ls, rfl, ll, lk⟩ := row_len h7
    simp [wipe]
    rw [comp_map O.sh (fun k => D.bl (ltn k (.int kinds))) is ?hf]
    case hf => exact fun k _ => ⟨_, by simp [turnF, methOk, ioT_at H17.h, f_law_is_number, puts, l_is_number, numIn_ltn]; rfl, rfl⟩
    simp [back]
    cases h8 : allB (fun k => ltn k (.int kinds)) is with
    | false => simp
    | true =>
    simp [l_is_source]
    cases h3 : isSrc a3 is.length with
    | false => simp
    | true =>
    simp [l_is_source, v_eq (x := a4) (y := .tup [.str "written"]) (by simp [D.depth, D.depths]; omega)]
    have e4 : iteB (isNo a4) false (iteB (isSrc a4 is.length) (D.eqv a4 WRI) true) = nt (orb (isNo a4) (orb (D.eqv a4 MEM) (isIn a4 is.length))) := by
      have := src4 a4 is.length
      cases isNo a4
      · simp
        rw [← this]
        cases isSrc a4 is.length <;> rfl
      · rfl
    rw [show D.tup [D.str "written"] = WRI from rfl, e4, if_nt]
    clear e4
    cases h4 : orb (isNo a4) (orb (D.eqv a4 MEM) (isIn a4 is.length)) with
    | false => simp [h4]
    | true =>
    have hls : (ls.length : Int) = kinds := by omega
    simp [h4, rg_ok (n := (os.length : Int) + kinds) (by omega) (by omega), v_addT (xs := os) (ys := ls) (by unfold cap; omega), l_is_row, rangeD]
    refine fors_cases (G := fun s => finI [false, false, false] (s.thn _) = _) (fun e => ∃ b0 b1 b2, e = [some (O.sh (.int kinds)), some (O.sh (.int halls)), some (O.sh (.tup [a0, a1, a2, a3, a4, .tup is, .tup os, .tup ls])), some (O.sh (.int is.length)), b0, b1, b2, none]) (fun k => nt (isTarget ((os ++ ls).getD k .non) kinds is.length (decide (os.length ≤ k)))) (O.sh (.bl false)) ⟨_, _, _, rfl⟩ ?_ ?_ ?_
    · rintro k hk2 env ⟨b0, b1, b2, rfl⟩
      have hk2 : k < os.length + ls.length := by have := List.mem_range.mp hk2; omega
      have hg : (os ++ ls)[k]? = some ((os ++ ls).getD k .non) := by
        rw [List.getD_eq_getElem?_getD, List.getElem?_eq_getElem (by rw [List.length_append]; exact hk2)]
        rfl
      generalize (os ++ ls).getD k .non = one at hg
      simp [loopF, methOk, puts, E.noIo, l_is_row, ioT_at H17.h, ioT_at H18.h, ioT_at H20.h, ioT_at H16.h, f_law_is_number, f_law_is_row, f_law_is_source, f_law_same, v_addT (xs := os) (ys := ls) (by unfold cap; omega), sub_at hg]
      refine ⟨[some (O.sh (.int kinds)), some (O.sh (.int halls)), some (O.sh (.tup [a0, a1, a2, a3, a4, .tup is, .tup os, .tup ls])), some (O.sh (.int is.length)), some (O.sh (.int k)), some (O.sh (.bl (decide (k < os.length)))), some (O.sh one), none], ⟨_, _, _, rfl⟩, ?_⟩
      cases h9 : isRow one 2 2 with
      | false => simp [target_row h9]
      | true =>
      obtain ⟨x, y, rfl⟩ := row2 h9
      simp [l_is_number, numIn_ltn, isTarget]
      cases h10 : ltn x (.int kinds) with
      | false => simp
      | true =>
      simp
      cases h11 : isNo y with
      | true => simp
      | false =>
      simp [l_is_source]
      cases h12 : isSrc y is.length with
      | true => simp
      | false =>
      simp
      by_cases h13 : k < os.length
      · simp [h13, show ¬ (os.length ≤ k) by omega]
      simp [h13, show os.length ≤ k by omega, l_is_row]
      cases h14 : isRow y 1 1 with
      | false => simp [own_row h14]
      | true =>
      simp [l_same_own _ _ h14]
      cases D.eqv y OWN <;> rfl
    · rintro hb env ⟨b0, b1, b2, rfl⟩
      rw [any_two (p := fun o => isTarget o kinds is.length false) (q := fun o => isTarget o kinds is.length true) (g := fun o b => isTarget o kinds is.length b) (fun o => rfl) (fun o => rfl) hls] at hb
      cases e1 : allB (fun o => isTarget o kinds is.length false) os <;> cases e2 : allB (fun o => isTarget o kinds is.length true) ls <;> simp [e1, e2] at hb ⊢
    · rintro hb env ⟨b0, b1, b2, rfl⟩
      rw [any_two (p := fun o => isTarget o kinds is.length false) (q := fun o => isTarget o kinds is.length true) (g := fun o b => isTarget o kinds is.length b) (fun o => rfl) (fun o => rfl) hls] at hb
      cases e1 : allB (fun o => isTarget o kinds is.length false) os <;> cases e2 : allB (fun o => isTarget o kinds is.length true) ls <;> simp [e1, e2] at hb ⊢
theorem l_is_form [H16 : Has tbl 16 f_law_same] [H17 : Has tbl 17 f_law_is_number] [H18 : Has tbl 18 f_law_is_row] [H20 : Has tbl 20 f_law_is_source] [H21 : Has tbl 21 f_law_is_hall] [H22 : Has tbl 22 f_law_is_pattern] [H23 : Has tbl 23 f_law_is_move] [H24 : Has tbl 24 f_law_is_form] (n : Nat) (v : D) : call tbl sub (n + 5) 24 [.sh v] = .ret (.sh (.bl (areRules v))) [] := by
  rw [call_at H24.h rfl]
  simp [f_law_is_form, FDef.start, E.noIo, Es.noIo, methOk, puts, l_is_row, ioT_at H17.h, ioT_at H18.h, ioT_at H22.h, ioT_at H23.h, f_law_is_number, f_law_is_row, f_law_is_pattern, f_law_is_move]
  cases h : isRow v 4 4 with
  | false =>
    have : areRules v = false := by
      unfold areRules
      split
      · simp [isRow, isTu, lenD] at h
      · rfl
    simp [this]
  | true =>
    obtain ⟨xs, rfl, l1, l2⟩ := row_len h
    obtain ⟨a0, a1, a2, a3, rfl⟩ := len4 (show xs.length = 4 by omega)
    simp [l_is_row, areRules]
    cases h0 : isRow a0 1 6 with
    | false => simp
    | true =>
    obtain ⟨cs, rfl, c1, c2⟩ := row_len h0
    simp [wipe]
    rw [comp_map O.sh (fun o => D.bl (isBo o)) cs ?hf]
    case hf => exact fun k _ => ⟨_, by simp [turnF]; rfl, rfl⟩
    simp [back]
    cases h2 : allB isBo cs with
    | false => simp
    | true =>
    simp [l_is_number]
    have hn : (ltn a1 (.int 5) && decide (1 ≤ intD a1)) = numIn a1 1 4 := by
      cases a1 with
      | int i =>
        show (decide (0 ≤ i) && decide (i < 5) && decide (1 ≤ i)) = (decide (1 ≤ i) && decide (i ≤ 4))
        by_cases h1 : 1 ≤ i
        · rw [decide_eq_true h1, decide_eq_true (show 0 ≤ i by omega)]
          by_cases h2 : i < 5
          · rw [decide_eq_true h2, decide_eq_true (show i ≤ 4 by omega)]; rfl
          · rw [decide_eq_false h2, decide_eq_false (show ¬ i ≤ 4 by omega)]; rfl
        · rw [decide_eq_false h1, Bool.and_false, Bool.false_and]
      | _ => rfl
    cases h1 : numIn a1 1 4 with
    | false =>
      rw [h1] at hn
      cases e : ltn a1 (.int 5) with
      | false => simp
      | true =>
        rw [e] at hn
        simp at hn
        simp [show ¬ (1 ≤ intD a1) by omega]
    | true =>
    rw [h1] at hn
    obtain ⟨e1, e2⟩ := Bool.and_eq_true_iff.mp hn
    obtain ⟨hl, rfl, _, _⟩ := ltn_int e1
    have e2 : 1 ≤ hl := of_decide_eq_true e2
    simp [e1, e2, l_is_row]
    cases h4 : isRow a2 1 12 with
    | false => simp
    | true =>
    simp [l_is_row]
    cases h5 : isRow a3 0 4 with
    | false => simp
    | true =>
    obtain ⟨ms, rfl, _, _⟩ := row_len h4
    obtain ⟨ps, rfl, _, _⟩ := row_len h5
    simp [wipe]
    rw [comp_map O.sh (fun m => D.bl (isMove m cs.length hl)) ms ?hf2]
    case hf2 => exact fun k _ => ⟨_, by simp [turnF, ioT_at H23.h, f_law_is_move, puts, l_is_move _ _ _ _ (show 0 ≤ (cs.length : Int) ∧ (cs.length : Int) ≤ 1000 by omega)]; rfl, rfl⟩
    simp [back]
    cases h6 : allB (fun m => isMove m cs.length hl) ms with
    | false => simp
    | true =>
    simp [wipe]
    rw [comp_map O.sh (fun m => D.bl (hasForm m cs.length hl)) ps ?hf3]
    case hf3 => exact fun k _ => ⟨_, by simp [turnF, ioT_at H22.h, f_law_is_pattern, puts, l_is_pattern]; rfl, rfl⟩
    simp [back]
end
end Lw
set_option maxHeartbeats 400000
set_option linter.all false
namespace Lw
open Ev
/-! ### right rules, as data -/
inductive Src where
  | mem | wri | own
  | inp (j : Nat)
deriving DecidableEq
def Src.d : Src → D
  | .mem => .tup [.str "memory"]
  | .wri => .tup [.str "written"]
  | .own => .tup [.str "own"]
  | .inp j => .tup [.str "in", .int (j : Nat)]
def optD {α : Type} (f : α → D) : Option α → D
  | none => .non
  | some x => f x
def natD (n : Nat) : D := .int (n : Nat)
abbrev Tgt := Nat × Option Src
def tgtD (t : Tgt) : D := .tup [natD t.1, optD Src.d t.2]
structure Mv where
  hall : Option Nat
  behind : Option Nat
  w : Bool
  mem : Src
  rd : Option Src
  ins : List Nat
  outs : List Tgt
  ls : List Tgt
def Mv.d (m : Mv) : D := .tup [optD natD m.hall, optD natD m.behind, .bl m.w, m.mem.d, optD Src.d m.rd, .tup (m.ins.map natD), .tup (m.outs.map tgtD), .tup (m.ls.map tgtD)]
abbrev Pat := Option Nat × List Nat
def patD (p : Pat) : D := .tup [optD natD p.1, .tup (p.2.map natD)]
structure Rls where
  copies : List Bool
  halls : Nat
  moves : List Mv
  proms : List Pat
def Rls.d (r : Rls) : D := .tup [.tup (r.copies.map D.bl), natD r.halls, .tup (r.moves.map Mv.d), .tup (r.proms.map patD)]
def Src.okIn (s : Src) (n : Nat) : Prop := match s with
  | .mem => True
  | .wri => True
  | .own => False
  | .inp j => j < n
def Src.okL (s : Src) (n : Nat) : Prop := s = .own ∨ s.okIn n
structure Mv.Ok (m : Mv) (kinds halls : Nat) : Prop where
  hall : ∀ h ∈ m.hall, h < halls
  behind : ∀ h ∈ m.behind, h < halls
  mem : m.mem.okIn m.ins.length
  rd : ∀ s ∈ m.rd, s.okIn m.ins.length ∧ s ≠ .wri
  li : m.ins.length ≤ 3
  lo : m.outs.length ≤ 3
  ll : m.ls.length = kinds
  ins : ∀ k ∈ m.ins, k < kinds
  outs : ∀ t ∈ m.outs, t.1 < kinds ∧ ∀ s ∈ t.2, s.okIn m.ins.length
  ls : ∀ t ∈ m.ls, t.1 < kinds ∧ ∀ s ∈ t.2, s.okL m.ins.length
def PatOk (p : Pat) (kinds halls : Nat) : Prop := (∀ h ∈ p.1, h < halls) ∧ 1 ≤ p.2.length ∧ p.2.length ≤ 3 ∧ ∀ k ∈ p.2, k < kinds
structure Rls.Ok (r : Rls) : Prop where
  k1 : 1 ≤ r.copies.length
  k6 : r.copies.length ≤ 6
  h1 : 1 ≤ r.halls
  h4 : r.halls ≤ 4
  m1 : 1 ≤ r.moves.length
  m12 : r.moves.length ≤ 12
  p4 : r.proms.length ≤ 4
  moves : ∀ m ∈ r.moves, m.Ok r.copies.length r.halls
  proms : ∀ p ∈ r.proms, PatOk p r.copies.length r.halls
/-! what has the form is such data -/
theorem of_ltn {v : D} {n : Nat} (h : ltn v (.int n) = true) : ∃ k : Nat, v = natD k ∧ k < n := by
  obtain ⟨i, rfl, h1, h2⟩ := ltn_int h
  exact ⟨i.toNat, by unfold natD; congr 1; omega, by omega⟩
theorem of_hall {v : D} {n : Nat} (h : isHall v n = true) : ∃ o : Option Nat, v = optD natD o ∧ ∀ k ∈ o, k < n := by
  unfold isHall at h
  cases v with
  | non => exact ⟨none, rfl, fun k hk => by cases hk⟩
  | _ =>
    simp only [isNo, Bool.false_or] at h
    obtain ⟨k, e, hk⟩ := of_ltn h
    exact ⟨some k, e, fun j hj => by cases hj; exact hk⟩
theorem of_in {v : D} {n : Nat} (h : isIn v n = true) : ∃ j : Nat, v = (Src.inp j).d ∧ j < n := by
  unfold isIn at h
  split at h
  · rename_i x y
    obtain ⟨h1, h2⟩ := Bool.and_eq_true_iff.mp h
    obtain ⟨k, rfl, hk⟩ := of_ltn h2
    cases x with
    | str s =>
      have : s = "in" := by simpa [D.eqv] using h1
      exact ⟨k, by rw [this]; rfl, hk⟩
    | _ => simp [D.eqv] at h1
  · cases h
theorem one_only {v : D} {s : String} (h : D.eqv v (.tup [.str s]) = true) : v = .tup [.str s] := by
  cases v with
  | tup xs =>
    match xs, h with
    | [], h => simp [D.eqv, D.eqvs] at h
    | [x], h =>
      cases x with
      | str t => simp [D.eqv, D.eqvs] at h; rw [h]
      | _ => simp [D.eqv, D.eqvs] at h
    | _ :: _ :: _, h => simp [D.eqv, D.eqvs] at h
  | _ => simp [D.eqv] at h
theorem of_src {v : D} {n : Nat} (h : isSrc v n = true) : ∃ s : Src, v = s.d ∧ s.okIn n := by
  unfold isSrc at h
  cases h1 : D.eqv v MEM with
  | true => exact ⟨.mem, one_only h1, trivial⟩
  | false =>
    cases h2 : D.eqv v WRI with
    | true => exact ⟨.wri, one_only h2, trivial⟩
    | false =>
      rw [h1, h2] at h
      obtain ⟨j, e, hj⟩ := of_in (show isIn v n = true from h)
      exact ⟨.inp j, e, hj⟩
theorem of_target {v : D} {kinds n : Nat} {own : Bool} (h : isTarget v kinds n own = true) : ∃ t : Tgt, v = tgtD t ∧ t.1 < kinds ∧ ∀ s ∈ t.2, s.okIn n ∨ (own = true ∧ s = .own) := by
  unfold isTarget at h
  split at h
  · rename_i k s
    obtain ⟨h1, h2⟩ := Bool.and_eq_true_iff.mp h
    obtain ⟨k, rfl, hk⟩ := of_ltn h1
    cases hn : isNo s with
    | true =>
      cases s with
      | non => exact ⟨(k, none), rfl, hk, fun s hs => by cases hs⟩
      | _ => cases hn
    | false =>
      rw [hn] at h2
      cases hs : isSrc s n with
      | true =>
        obtain ⟨c, rfl, hc⟩ := of_src hs
        exact ⟨(k, some c), rfl, hk, fun s hs => by cases hs; exact .inl hc⟩
      | false =>
        rw [hs] at h2
        obtain ⟨h3, h4⟩ := Bool.and_eq_true_iff.mp (show (own && D.eqv s OWN) = true from h2)
        exact ⟨(k, some .own), by rw [one_only h4]; rfl, hk, fun s hs => by cases hs; exact .inr ⟨h3, rfl⟩⟩
  · cases h
theorem of_all {α : Type} {f : D → Bool} {g : α → D} {P : α → Prop} {xs : List D} (h : allB f xs = true) (hf : ∀ x, f x = true → ∃ a, x = g a ∧ P a) : ∃ as : List α, xs = as.map g ∧ ∀ a ∈ as, P a := by
  induction xs with
  | nil => exact ⟨[], rfl, fun a h => by cases h⟩
  | cons x xs ih =>
    obtain ⟨h1, h2⟩ := Bool.and_eq_true_iff.mp (show (f x && xs.all f) = true from h)
    obtain ⟨a, rfl, pa⟩ := hf x h1
    obtain ⟨as, rfl, pas⟩ := ih h2
    exact ⟨a :: as, rfl, fun b hb => by
      rcases List.mem_cons.mp hb with rfl | hb
      · exact pa
      · exact pas b hb⟩
theorem of_move {v : D} {kinds halls : Nat} (h : isMove v kinds halls = true) : ∃ m : Mv, v = m.d ∧ m.Ok kinds halls := by
  unfold isMove at h
  split at h
  · rename_i a0 a1 a2 a3 a4 a5 a6 a7
    simp only [Bool.and_eq_true] at h
    obtain ⟨h0, h1, h2, h5, h6, h3, h4, hi, h7, ho, hl⟩ := h
    obtain ⟨is, rfl, _, li⟩ := row_len h5
    obtain ⟨os, rfl, _, lo⟩ := row_len h6
    obtain ⟨ls, rfl, l1, l2⟩ := row_len h7
    simp only [el_t, ln_t] at h3 h4 hi ho hl
    obtain ⟨o0, rfl, p0⟩ := of_hall h0
    obtain ⟨o1, rfl, p1⟩ := of_hall h1
    obtain ⟨s3, rfl, p3⟩ := of_src h3
    obtain ⟨ins, rfl, pi⟩ := of_all hi fun x hx => of_ltn hx
    obtain ⟨outs, rfl, po⟩ := of_all ho fun x hx => of_target hx
    obtain ⟨lss, rfl, pl⟩ := of_all hl fun x hx => of_target hx
    have p4 : ∃ o : Option Src, a4 = optD Src.d o ∧ ∀ s ∈ o, s.okIn (ins.map natD).length ∧ s ≠ .wri := by
      cases hn : isNo a4 with
      | true =>
        cases a4 with
        | non => exact ⟨none, rfl, fun s hs => by cases hs⟩
        | _ => cases hn
      | false =>
        cases hm : D.eqv a4 MEM with
        | true => exact ⟨some .mem, one_only hm, fun s hs => by cases hs; exact ⟨trivial, by decide⟩⟩
        | false =>
          rw [hn, hm] at h4
          obtain ⟨j, e, hj⟩ := of_in (show isIn a4 _ = true from h4)
          exact ⟨some (.inp j), e, fun s hs => by cases hs; exact ⟨hj, by simp⟩⟩
    obtain ⟨o4, rfl, p4⟩ := p4
    cases a2 with
    | bl w => ?_
    | _ => cases h2
    simp only [List.length_map] at p3 p4 po pl li lo l1 l2
    have z1 : ins.length ≤ 3 := by omega
    have z2 : outs.length ≤ 3 := by omega
    have z3 : lss.length = kinds := by omega
    refine ⟨⟨o0, o1, w, s3, o4, ins, outs, lss⟩, rfl, p0, p1, p3, p4, z1, z2, z3, pi, fun t ht => ⟨(po t ht).1, fun s hs => ((po t ht).2 s hs).elim id fun z => nomatch z.1⟩, fun t ht => ⟨(pl t ht).1, fun s hs => ((pl t ht).2 s hs).elim .inr fun z => .inl z.2⟩⟩
  · cases h
theorem of_form {v : D} {kinds halls : Nat} (h : hasForm v kinds halls = true) : ∃ p : Pat, v = patD p ∧ PatOk p kinds halls := by
  unfold hasForm at h
  split at h
  · rename_i x ks
    simp only [Bool.and_eq_true] at h
    obtain ⟨h0, h1, h2⟩ := h
    obtain ⟨o, rfl, p0⟩ := of_hall h0
    obtain ⟨is, e, l1, l2⟩ := row_len h1
    cases e
    obtain ⟨ns, rfl, pn⟩ := of_all h2 fun x hx => of_ltn hx
    simp only [List.length_map] at l1 l2
    have z1 : 1 ≤ ns.length := by omega
    have z2 : ns.length ≤ 3 := by omega
    exact ⟨(o, ns), rfl, p0, z1, z2, pn⟩
  · cases h
theorem of_rules {v : D} (h : areRules v = true) : ∃ r : Rls, v = r.d ∧ r.Ok := by
  unfold areRules at h
  split at h
  · rename_i a0 a1 a2 a3
    simp only [Bool.and_eq_true] at h
    obtain ⟨h0, h1, hb, hh, h2, h3, hm, hp⟩ := h
    obtain ⟨cs, rfl, c1, c2⟩ := row_len h0
    obtain ⟨ms, rfl, m1, m2⟩ := row_len h2
    obtain ⟨ps, rfl, _, q2⟩ := row_len h3
    obtain ⟨hl, rfl, hl4⟩ := of_ltn (n := 5) h1
    simp only [el_t, ln_t] at hm hp hb
    have hh : 1 ≤ (hl : Int) := of_decide_eq_true hh
    obtain ⟨bs, rfl, _⟩ := of_all (g := D.bl) (P := fun _ => True) hb fun x hx => by
      cases x with
      | bl b => exact ⟨b, rfl, trivial⟩
      | _ => cases hx
    simp only [List.length_map] at hm hp c1 c2
    obtain ⟨mv, rfl, pm⟩ := of_all hm fun x hx => of_move (kinds := bs.length) (halls := hl) hx
    obtain ⟨pt, rfl, pp⟩ := of_all hp fun x hx => of_form (kinds := bs.length) (halls := hl) hx
    simp only [List.length_map] at m1 m2 q2
    have z1 : 1 ≤ bs.length := by omega
    have z2 : bs.length ≤ 6 := by omega
    have z3 : 1 ≤ hl := by omega
    have z4 : hl ≤ 4 := by omega
    have z5 : 1 ≤ mv.length := by omega
    have z6 : mv.length ≤ 12 := by omega
    have z7 : pt.length ≤ 4 := by omega
    exact ⟨⟨bs, hl, mv, pt⟩, rfl, z1, z2, z3, z4, z5, z6, z7, pm, pp⟩
  · cases h
end Lw
set_option maxHeartbeats 400000
set_option linter.all false
namespace Lw
open Ev
/-! what the check answers, and what is due -/
theorem add_own {xs ys : List D} (h : xs.length + ys.length ≤ cap) : binO .add (own xs) (own ys) = some (own (xs ++ ys)) := by
  simp [binO, plain, v_addL h]
theorem comp_mapT {α : Type} {f : O → M (Option O)} {vs : List Nat} {env0 : Env} (e : α → D) (g : α → D) (xs : List α) (hf : ∀ x ∈ xs, ∃ env1, f (.sh (e x)) env0 = .ok (some (.sh (g x))) env1 ∧ wipe env1 vs = env0) :
    turns f vs ((xs.map e).map O.sh) env0 = .ok (shL (xs.map g)) env0 := by
  rw [List.map_map]
  exact comp_map (O.sh ∘ e) g xs hf
theorem comp_filterT {α : Type} {f : O → M (Option O)} {vs : List Nat} {env0 : Env} (e : α → D) (p : α → Bool) (g : α → D) (xs : List α) (hf : ∀ x ∈ xs, ∃ env1, f (.sh (e x)) env0 = .ok (if p x then some (.sh (g x)) else none) env1 ∧ wipe env1 vs = env0) :
    turns f vs ((xs.map e).map O.sh) env0 = .ok (shL ((xs.filter p).map g)) env0 := by
  rw [List.map_map]
  exact comp_filter (O.sh ∘ e) p g xs hf
@[simp] theorem no_opt {o : Option Src} : isNo (optD Src.d o) = o.isNone := by
  cases o with
  | none => rfl
  | some s => cases s <;> rfl
def srcO (m : Mv) : List (Option Src) := some m.mem :: m.rd :: (m.outs.map (·.2) ++ m.ls.map (·.2))
def fs (m : Mv) : List Src := (srcO m).filterMap id
theorem fs_eq : ∀ l : List (Option Src), (l.filter Option.isSome).map (optD Src.d) = (l.filterMap id).map Src.d
  | [] => rfl
  | none :: l => by simpa using fs_eq l
  | some s :: l => by simpa [optD] using fs_eq l
section
variable {tbl : Nat → Option FDef} {sub : Nat → Nat → Bool}
theorem c_sources_of [H10 : Has tbl 10 f_sources_of] (n : Nat) (m : Mv) (h : m.ls.length ≤ 6) (h3 : m.outs.length ≤ 3) : call tbl sub (n + 1) 10 [.sh m.d] = .ret (.sh (.lst ((fs m).map Src.d))) [] := by
  rw [call_at H10.h rfl]
  simp [-List.map_map, f_sources_of, FDef.start, E.noIo, Es.noIo, It.noIo, Ts.noIo, methOk, puts, Mv.d, wipe]
  rw [comp_mapT tgtD (fun t => optD Src.d t.2) m.outs ?hf]
  case hf => exact fun k _ => ⟨_, by simp [turnF, tgtD]; rfl, rfl⟩
  simp [-List.map_map, back, wipe, E.noIo, Es.noIo, It.noIo, Ts.noIo, methOk]
  rw [add_own (by simp [cap]; omega)]
  simp [-List.map_map]
  rw [comp_mapT tgtD (fun t => optD Src.d t.2) m.ls ?hf2]
  case hf2 => exact fun k _ => ⟨_, by simp [turnF, tgtD]; rfl, rfl⟩
  simp [-List.map_map]
  rw [add_own (by simp [cap]; omega)]
  rw [show (m.mem.d :: optD Src.d m.rd :: List.map (fun t => optD Src.d t.2) m.outs ++ List.map (fun t => optD Src.d t.2) m.ls) = (srcO m).map (optD Src.d) by simp only [srcO, List.map_cons, List.map_append, List.map_map]; rfl]
  simp [-List.map_map]
  rw [comp_filterT (optD Src.d) Option.isSome (optD Src.d) (srcO m) ?hf3]
  case hf3 =>
    intro k _
    cases k with
    | none => exact ⟨_, by simp [turnF]; rfl, rfl⟩
    | some s => exact ⟨_, by simp [turnF]; rfl, rfl⟩
  simp [-List.map_map, fs_eq, fs]
def gb (xs : List Bool) (j : Nat) : Bool := xs.getD j false
def gn (xs : List Nat) (j : Nat) : Nat := xs.getD j 0
def gt (xs : List Tgt) (j : Nat) : Tgt := xs.getD j (0, none)
def okB (cs : List Bool) (m : Mv) : Src → Bool
  | .inp j => gb cs (gn m.ins j)
  | _ => true
theorem ok_nat {xs : List Nat} {j : Nat} {b : Bool} {env : Env} (h : j < xs.length) : subO b (.sh (.tup (xs.map natD))) (.int j) env = .ok (.sh (.int (gn xs j : Nat))) env :=
  sub_at (by rw [List.getElem?_map, List.getElem?_eq_getElem h, show gn xs j = xs[j] by simp [gn, List.getElem?_eq_getElem h]]; rfl)
theorem ok_bl {xs : List Bool} {j : Nat} {b : Bool} {env : Env} (h : j < xs.length) : subO b (.sh (.tup (xs.map D.bl))) (.int j) env = .ok (.sh (.bl (gb xs j))) env :=
  sub_at (by rw [List.getElem?_map, List.getElem?_eq_getElem h, show gb xs j = xs[j] by simp [gb, List.getElem?_eq_getElem h]]; rfl)
theorem ok_tgt {xs : List Tgt} {j : Nat} {b : Bool} {env : Env} (h : j < xs.length) : subO b (.sh (.tup (xs.map tgtD))) (.int j) env = .ok (.sh (tgtD (gt xs j))) env :=
  sub_at (by rw [List.getElem?_map, List.getElem?_eq_getElem h, show gt xs j = xs[j] by simp [gt, List.getElem?_eq_getElem h]]; rfl)
def sq (s t : String) : Bool := s == t
def bq (s t : Bool) : Bool := s == t
def iq (s t : Int) : Bool := s == t
def hasS (l : List Src) (t : Src) : Bool := l.contains t
@[local simp] theorem eq_s {s t : String} : bin2 .eq (.str s) (.str t) = some (.sh (.bl (sq s t))) := rfl
@[local simp] theorem ne_b {s t : Bool} : bin2 .ne (.bl s) (.bl t) = some (.sh (.bl (nt (bq s t)))) := rfl
@[local simp] theorem eq_b {s t : Bool} : bin2 .eq (.bl s) (.bl t) = some (.sh (.bl (bq s t))) := rfl
@[local simp] theorem ne_i {s t : Int} : bin2 .ne (.int s) (.int t) = some (.sh (.bl (nt (iq s t)))) := rfl
@[local simp] theorem eq_i {s t : Int} : bin2 .eq (.int s) (.int t) = some (.sh (.bl (iq s t))) := rfl
theorem enum_map {α : Type} (e : α → D) : ∀ (xs : List α) (k : Nat), enumD k (xs.map e) = (xs.zipIdx k).map fun p => O.sh (.tup [.int (p.2 : Nat), e p.1])
  | [], _ => rfl
  | x :: xs, k => by simp [enumD, enum_map e xs, List.zipIdx_cons]
theorem src_eq (s t : Src) : D.eqv s.d t.d = decide (s = t) := by
  cases s <;> cases t <;> simp [Src.d, D.eqv, D.eqvs]
  rename_i a b
  by_cases h : a = b
  · simp [h]
  · rw [decide_eq_false h]
    exact beq_eq_false_iff_ne.mpr (by omega)
theorem any_src (t : Src) (l : List Src) : anyEq t.d (l.map Src.d) = hasS l t := by
  induction l with
  | nil => rfl
  | cons s l ih =>
    rw [show anyEq t.d ((s :: l).map Src.d) = (D.eqv s.d t.d || anyEq t.d (l.map Src.d)) from rfl, ih, src_eq]
    unfold hasS
    rw [List.contains_cons]
    by_cases h : s = t
    · subst h; simp
    · simp [h, Ne.symm h]
theorem src_depth (s : Src) : s.d.depth ≤ 1 := by cases s <;> simp [Src.d, D.depth, D.depths]
theorem fs_ok {m : Mv} {k h : Nat} (ok : m.Ok k h) : ∀ j, Src.inp j ∈ fs m → j < m.ins.length := by
  intro j hj
  simp only [fs, srcO, List.mem_filterMap, List.mem_cons, List.mem_append, List.mem_map, id] at hj
  obtain ⟨o, hm, rfl⟩ := hj
  rcases hm with e | e | ⟨t, ht, e⟩ | ⟨t, ht, e⟩
  · have := ok.mem
    rw [← Option.some.inj e] at this
    exact this
  · exact (ok.rd _ e.symm).1
  · exact (ok.outs t ht).2 _ e
  · rcases (ok.ls t ht).2 _ e with h | h
    · cases h
    · exact h
theorem getD_mem {xs : List Nat} {j : Nat} (h : j < xs.length) : gn xs j ∈ xs := by
  rw [show gn xs j = xs[j] by simp [gn, List.getElem?_eq_getElem h]]
  exact List.getElem_mem h
def isOwn (o : Option Src) : Bool := decide (o = some .own)
theorem opt_own (o : Option Src) : D.eqv (optD Src.d o) (.tup [.str "own"]) = isOwn o := by
  unfold isOwn
  cases o with
  | none => simp [optD, D.eqv]
  | some s => rw [show decide (some s = some Src.own) = decide (s = Src.own) by simp]; exact src_eq s .own
def kindB (cs : List Bool) (t : Tgt) : Bool := bq t.2.isNone (gb cs t.1)
def ownB (cs : List Bool) (p : Tgt × Nat) : Bool := iteB (isOwn p.1.2) (gb cs p.2) true
def fitB (cs : List Bool) (m : Mv) : Bool := andb (nt (anyB (fun s => nt (okB cs m s)) (fs m))) (andb (bq (hasS (fs m) .wri) m.w) (andb (iq (gt m.ls 0).1 0) (andb (nt (anyB (kindB cs) (m.outs ++ m.ls))) (allB (ownB cs) m.ls.zipIdx))))
theorem c_is_fitting [H10 : Has tbl 10 f_sources_of] [H11 : Has tbl 11 f_is_fitting] (n : Nat) (cs : List Bool) (m : Mv) (hl : Nat) (ok : m.Ok cs.length hl) (h0 : 1 ≤ cs.length) (h6 : cs.length ≤ 6) : call tbl sub (n + 2) 11 [.sh (.tup (cs.map D.bl)), .sh m.d] = .ret (.sh (.bl (fitB cs m))) [] := by
  rw [call_at H11.h rfl]
  have hc := c_sources_of (tbl := tbl) (sub := sub) n m (by rw [ok.ll]; exact h6) ok.lo
  have hlen := ok.ll
  have hlo := ok.lo
  simp [-List.map_map, f_is_fitting, FDef.start, E.noIo, Es.noIo, It.noIo, Ts.noIo, methOk, puts, wipe, ioT_at H10.h, f_sources_of, hc]
  rw [comp_mapT Src.d (fun s => .bl (nt (okB cs m s))) (fs m) ?hf]
  case hf =>
    intro s hs
    cases s with
    | inp j =>
      have h1 := fs_ok ok j hs
      have h2 := ok.ins _ (getD_mem h1)
      exact ⟨_, by simp [turnF, Src.d, E.noIo, Es.noIo, methOk, Mv.d, ok_nat h1, ok_bl h2, okB, sq]; rfl, rfl⟩
    | _ => exact ⟨_, by simp [turnF, Src.d, E.noIo, Es.noIo, methOk, okB, sq]; rfl, rfl⟩
  simp [-List.map_map, back]
  unfold fitB
  cases e1 : anyB (fun s => nt (okB cs m s)) (fs m) with
  | true => simp
  | false =>
  have l0 : 0 < m.ls.length := by omega
  have s0 := fun b env => ok_tgt (b := b) (env := env) l0
  simp only [Int.ofNat_zero, Int.natCast_zero] at s0
  have t0 : ∀ b env, subO b (.sh (tgtD (gt m.ls 0))) (.int 0) env = .ok (.sh (.int (gt m.ls 0).1)) env := fun b env => by simp [tgtD, natD]
  have w0 : anyEq (.tup [.str "written"]) ((fs m).map Src.d) = hasS (fs m) .wri := any_src .wri (fs m)
  simp [-List.map_map, Mv.d, s0, t0, w0, v_innL (x := .tup [.str "written"]) (ys := (fs m).map Src.d) (by simp [D.depth, D.depths]; try omega)]
  cases e2 : bq (hasS (fs m) .wri) m.w with
  | false => simp
  | true =>
  cases e3 : iq ((gt m.ls 0).1 : Nat) 0 with
  | false => simp
  | true =>
  simp [-List.map_map]
  rw [v_addT (by simp [cap]; omega), ← List.map_append]
  simp [-List.map_map, -List.map_append]
  rw [comp_mapT tgtD (fun t => .bl (kindB cs t)) (m.outs ++ m.ls) ?hf2]
  case hf2 =>
    intro t ht
    have h1 : t.1 < cs.length := by
      rcases List.mem_append.mp ht with h | h
      · exact (ok.outs t h).1
      · exact (ok.ls t h).1
    exact ⟨_, by simp [turnF, tgtD, natD, E.noIo, Es.noIo, methOk, ok_bl h1, kindB]; rfl, rfl⟩
  simp [-List.map_map, -List.map_append, back]
  cases e4 : anyB (kindB cs) (m.outs ++ m.ls) with
  | true => simp
  | false =>
  simp [-List.map_map]
  rw [enum_map]
  rw [comp_map (fun p : Tgt × Nat => O.sh (.tup [.int (p.2 : Nat), tgtD p.1])) (fun p => .bl (ownB cs p)) m.ls.zipIdx ?hf3]
  case hf3 =>
    intro p hp
    obtain ⟨⟨k, o⟩, j⟩ := p
    have h1 : j < cs.length := by
      have := (List.mem_zipIdx hp).2.1
      omega
    have h2 := opt_own o
    exact ⟨_, by simp [turnF, tgtD, E.noIo, Es.noIo, methOk, ok_bl h1, ownB, v_ne (x := optD Src.d o) (y := .tup [.str "own"]) (by simp [D.depth, D.depths]; omega), h2]; rfl, rfl⟩
  simp [back]
def goodB (r : Rls) : Bool := andb (nt (gb r.copies 0)) (allB (fitB r.copies) r.moves)
theorem c_check_bad [H0 : Has tbl 0 f_is_integer] [H1 : Has tbl 1 f_is_below] [H2 : Has tbl 2 f_is_row] [H3 : Has tbl 3 f_is_hall] [H4 : Has tbl 4 f_is_source] [H5 : Has tbl 5 f_is_in] [H6 : Has tbl 6 f_has_form] [H7 : Has tbl 7 f_is_target] [H8 : Has tbl 8 f_is_move] [H9 : Has tbl 9 f_are_rules] [H12 : Has tbl 12 f_check_rules] (n : Nat) (v : D) (h : areRules v = false) : call tbl sub (n + 8) 12 [.sh v] = .exc 1 [] := by
  rw [call_at H12.h rfl]
  simp [f_check_rules, FDef.start, E.noIo, Es.noIo, methOk, puts, c_are_rules, h, ioT_at H9.h, f_are_rules]
theorem c_check [H0 : Has tbl 0 f_is_integer] [H1 : Has tbl 1 f_is_below] [H2 : Has tbl 2 f_is_row] [H3 : Has tbl 3 f_is_hall] [H4 : Has tbl 4 f_is_source] [H5 : Has tbl 5 f_is_in] [H6 : Has tbl 6 f_has_form] [H7 : Has tbl 7 f_is_target] [H8 : Has tbl 8 f_is_move] [H9 : Has tbl 9 f_are_rules] [H10 : Has tbl 10 f_sources_of] [H11 : Has tbl 11 f_is_fitting] [H12 : Has tbl 12 f_check_rules] (n : Nat) (r : Rls) (h : areRules r.d = true) (ok : r.Ok) : call tbl sub (n + 8) 12 [.sh r.d] = if goodB r then .ret (.sh .non) [] else .exc 2 [] := by
  rw [call_at H12.h rfl]
  have l0 : 0 < r.copies.length := ok.k1
  have s0 := fun b env => ok_bl (b := b) (env := env) l0
  simp only [Int.ofNat_zero, Int.natCast_zero] at s0
  simp [f_check_rules, FDef.start, E.noIo, Es.noIo, methOk, puts, c_are_rules, h, ioT_at H9.h, f_are_rules]
  simp [-List.map_map, Rls.d, s0, wipe]
  unfold goodB
  cases e1 : gb r.copies 0 with
  | true => simp
  | false =>
  simp [-List.map_map]
  rw [comp_mapT Mv.d (fun m => .bl (fitB r.copies m)) r.moves ?hf]
  case hf => exact fun m hm => ⟨_, by simp [turnF, ioT_at H11.h, f_is_fitting, E.noIo, Es.noIo, methOk, puts, c_is_fitting (n + 5) r.copies m r.halls (ok.moves m hm) ok.k1 ok.k6]; rfl, rfl⟩
  simp [back]
  cases e2 : allB (fitB r.copies) r.moves with
  | true => simp
  | false => simp
end
end Lw
set_option maxHeartbeats 400000
set_option linter.all false
namespace Lw
open Ev
/-! what is due -/
def fedB (cs : List Bool) (m : Mv) : Src → Bool
  | .inp j => gb cs (gn m.ins j)
  | .mem => true
  | _ => m.w
def notOwn (t : Tgt) : Bool := andb (nt t.2.isNone) (nt (isOwn t.2))
def lsD (m : Mv) : List D := m.mem.d :: ((m.outs ++ m.ls).filter notOwn).map fun t => optD Src.d t.2
def lsS (m : Mv) : List Src := m.mem :: (((m.outs ++ m.ls).filter notOwn).map (·.2)).filterMap id
theorem fm_eq : ∀ l : List Tgt, (l.filter notOwn).map (fun t => optD Src.d t.2) = (((l.filter notOwn).map (·.2)).filterMap id).map Src.d
  | [] => rfl
  | (k, none) :: l => by
    have := fm_eq l
    simpa [notOwn, List.filter_cons] using this
  | (k, some s) :: l => by
    have := fm_eq l
    rw [List.filter_cons]
    cases notOwn (k, some s)
    · simpa using this
    · simp only [if_true, List.map_cons, this]
      rfl
theorem ls_eq (m : Mv) : lsD m = (lsS m).map Src.d := by
  unfold lsD lsS
  rw [fm_eq]
  rfl
section
variable {tbl : Nat → Option FDef} {sub : Nat → Nat → Bool}
theorem l_is_fed [H25 : Has tbl 25 f_law_is_fed] (n : Nat) (cs : List Bool) (m : Mv) (s : Src) (h : ∀ j, s = .inp j → j < m.ins.length ∧ gn m.ins j < cs.length) : call tbl sub (n + 1) 25 [.sh (.tup (cs.map D.bl)), .sh m.d, .sh s.d] = .ret (.sh (.bl (fedB cs m s))) [] := by
  rw [call_at H25.h rfl]
  simp [f_law_is_fed, FDef.start, E.noIo, Es.noIo, methOk, puts]
  cases s with
  | inp j =>
    obtain ⟨h1, h2⟩ := h j rfl
    simp [Src.d, eq_s, sq, Mv.d, ok_nat h1, ok_bl h2, fedB]
  | _ => simp [Src.d, eq_s, sq, Mv.d, fedB]
end
end Lw
set_option linter.all false
namespace Ev
/-! what simp needs on its own -/
section
variable {e a c k v : E} {es r lo hi : Es} {t : T} {ts : Ts} {it it2 : It} {b : Bool} {vs ws : List Nat} {tg tg2 : Tg}
@[simp] theorem ni_var {i : Nat} : (E.var i).noIo = true := rfl
@[simp] theorem ni_mv {i : Nat} : (E.mv i).noIo = true := rfl
@[simp] theorem ni_lit {d : D} : (E.lit d).noIo = true := rfl
@[simp] theorem ni_glob {x : String} {d : D} : (E.glob x d).noIo = true := rfl
@[simp] theorem ni_tup : (E.tup es).noIo = es.noIo := by rw [E.noIo]
@[simp] theorem ni_lst : (E.lst es).noIo = es.noIo := by rw [E.noIo]
@[simp] theorem ni_un {op : U1} : (E.un op a).noIo = a.noIo := by rw [E.noIo]
@[simp] theorem ni_bin {op : B2} : (E.bin op a c).noIo = (a.noIo && c.noIo) := by rw [E.noIo]
@[simp] theorem ni_chain {o1 o2 : B2} : (E.chain o1 o2 a c k).noIo = (a.noIo && c.noIo && k.noIo) := by rw [E.noIo]
@[simp] theorem ni_not : (E.not a).noIo = a.noIo := by rw [E.noIo]
@[simp] theorem ni_and : (E.and es).noIo = es.noIo := by rw [E.noIo]
@[simp] theorem ni_or : (E.or es).noIo = es.noIo := by rw [E.noIo]
@[simp] theorem ni_ite : (E.ite t a c).noIo = (t.noIo && a.noIo && c.noIo) := by rw [E.noIo]
@[simp] theorem ni_sub : (E.sub a k).noIo = (a.noIo && k.noIo) := by rw [E.noIo]
@[simp] theorem ni_slice : (E.slice a lo hi).noIo = (a.noIo && lo.noIo && hi.noIo) := by rw [E.noIo]
@[simp] theorem ni_call {f : Nat} : (E.call f es).noIo = es.noIo := by rw [E.noIo]
@[simp] theorem ni_comp {dp : Bool} : (E.comp dp vs a tg it ts).noIo = (a.noIo && it.noIo && ts.noIo) := by rw [E.noIo]
@[simp] theorem ni_dcomp : (E.dcomp vs k v tg it).noIo = (k.noIo && v.noIo && it.noIo) := by rw [E.noIo]
@[simp] theorem ni_dict : (E.dict es).noIo = es.noIo := by rw [E.noIo]
@[simp] theorem ni_fz : (E.fz a).noIo = a.noIo := by rw [E.noIo]
@[simp] theorem ni_n : Es.noIo .nil = true := by rw [Es.noIo]
@[simp] theorem ni_c : (Es.cons a r).noIo = (a.noIo && r.noIo) := by rw [Es.noIo]
@[simp] theorem ni_io {i : Nat} : (Es.io i r).noIo = false := by rw [Es.noIo]
@[simp] theorem ni_te : (T.e a).noIo = a.noIo := by rw [T.noIo]
@[simp] theorem ni_tn : (T.not t).noIo = t.noIo := by rw [T.noIo]
@[simp] theorem ni_ta : (T.and ts).noIo = ts.noIo := by rw [T.noIo]
@[simp] theorem ni_to : (T.or ts).noIo = ts.noIo := by rw [T.noIo]
@[simp] theorem ni_tsn : Ts.noIo .nil = true := by rw [Ts.noIo]
@[simp] theorem ni_tsc : (Ts.cons t ts).noIo = (t.noIo && ts.noIo) := by rw [Ts.noIo]
@[simp] theorem ni_seq : (It.seq a).noIo = a.noIo := by rw [It.noIo]
@[simp] theorem ni_r1 : (It.r1 a).noIo = a.noIo := by rw [It.noIo]
@[simp] theorem ni_r2 : (It.r2 a c).noIo = (a.noIo && c.noIo) := by rw [It.noIo]
@[simp] theorem ni_enum : (It.enum a).noIo = a.noIo := by rw [It.noIo]
@[simp] theorem ni_zip : (It.zip a c).noIo = (a.noIo && c.noIo) := by rw [It.noIo]
end
@[simp] theorem wp_n {env : Env} : wipe env [] = env := rfl
@[simp] theorem wp_c {env : Env} {v : Nat} {vs : List Nat} : wipe env (v :: vs) = put (wipe env vs) v none := rfl
@[simp] theorem bk_n {was env : Env} : back was env [] = env := rfl
@[simp] theorem bk_c {was env : Env} {v : Nat} {vs : List Nat} : back was env (v :: vs) = put (back was env vs) v (get was v) := rfl
@[simp] theorem mo_add {o : O} : methOk .add o = true := rfl
@[simp] theorem mo_sub {o : O} : methOk .sub o = true := rfl
@[simp] theorem mo_mul {o : O} : methOk .mul o = true := rfl
@[simp] theorem mo_fdv {o : O} : methOk .fdiv o = true := rfl
@[simp] theorem mo_mod {o : O} : methOk .mod o = true := rfl
@[simp] theorem mo_pow {o : O} : methOk .pow o = true := rfl
@[simp] theorem mo_eq {o : O} : methOk .eq o = true := rfl
@[simp] theorem mo_ne {o : O} : methOk .ne o = true := rfl
@[simp] theorem mo_lt {o : O} : methOk .lt o = true := rfl
@[simp] theorem mo_le {o : O} : methOk .le o = true := rfl
@[simp] theorem mo_gt {o : O} : methOk .gt o = true := rfl
@[simp] theorem mo_ge {o : O} : methOk .ge o = true := rfl
@[simp] theorem mo_inn {o : O} : methOk .inn o = true := rfl
@[simp] theorem mo_nin {o : O} : methOk .nin o = true := rfl
@[simp] theorem mo_min {o : O} : methOk .min2 o = true := rfl
@[simp] theorem mo_max {o : O} : methOk .max2 o = true := rfl
@[simp] theorem mo_cl {xs : List D} : methOk .count (.sh (.lst xs)) = true := rfl
@[simp] theorem mo_ct {xs : List D} : methOk .count (.sh (.tup xs)) = true := rfl
@[simp] theorem mo_il {xs : List D} : methOk .index (.sh (.lst xs)) = true := rfl
@[simp] theorem mo_it {xs : List D} : methOk .index (.sh (.tup xs)) = true := rfl
@[simp] theorem st_eq {f : FDef} {os : List O} : f.start os = os.map some ++ List.replicate (f.slots - os.length) none := rfl
theorem dec_eq {α : Type} [DecidableEq α] {a b : α} : (a == b) = decide (a = b) := rfl
@[simp] theorem e_i {i j : Int} : bin2 .eq (.int i) (.int j) = some (.sh (.bl (decide (i = j)))) := rfl
@[simp] theorem e_s {i j : String} : bin2 .eq (.str i) (.str j) = some (.sh (.bl (decide (i = j)))) := rfl
@[simp] theorem e_b {i j : Bool} : bin2 .eq (.bl i) (.bl j) = some (.sh (.bl (decide (i = j)))) := rfl
@[simp] theorem n_i {i j : Int} : bin2 .ne (.int i) (.int j) = some (.sh (.bl (nt (decide (i = j))))) := rfl
@[simp] theorem n_s {i j : String} : bin2 .ne (.str i) (.str j) = some (.sh (.bl (nt (decide (i = j))))) := rfl
@[simp] theorem n_b {i j : Bool} : bin2 .ne (.bl i) (.bl j) = some (.sh (.bl (nt (decide (i = j))))) := rfl
@[simp] theorem mul_ok {i : Int} : mulOk i 48271 = true := by simp [mulOk_eq, mulOk0]
theorem i_mul {i j : Int} (h : mulOk i j = true) : bin2 .mul (.int i) (.int j) = some (.sh (.int (i * j))) := by simp [bin2, mulD, h]
theorem i_mod {i j : Int} (h : 0 < j) : bin2 .mod (.int i) (.int j) = some (.sh (.int (i % j))) := by simp [bin2, intsD, h]
theorem i_fdv {i j : Int} (h : 0 < j) (h2 : j < 1073741824) : bin2 .fdiv (.int i) (.int j) = some (.sh (.int (i / j))) := by simp [bin2, intsD, h, h2]
@[simp] theorem u_int1 {i : Int} : un1 .int (.sh (.int i)) = some (.sh (.int i)) := rfl
@[simp] theorem u_intb {b : Bool} : un1 .int (.sh (.bl b)) = some (.sh (.int (if b then 1 else 0))) := rfl
@[simp] theorem u_abs {i : Int} : un1 .abs (.sh (.int i)) = some (.sh (.int (i.natAbs : Nat))) := by
  simp only [un1]
  congr 3
  split <;> omega
theorem sh_stay {o : O} (h : isShd o = true) : ∀ {env : Env} {cl : Nat → List O → CRes} {io : Nat → List Bool} {b : Bool} {i : Nat}, get env i = some o → ev cl io b (.var i) env = .ok o env := by
  intro env cl io b i e
  simp [e, h]
/-! loops -/
theorem fors_nil {f : O → Env → SOut} {env : Env} : fors f [] env = .nx env := rfl
theorem fors_nx {f : O → Env → SOut} {x : O} {r : List O} {env env' : Env} (h : f x env = .nx env') : fors f (x :: r) env = fors f r env' := by
  rw [fors, h]
theorem fors_inv {α : Type} {f : O → Env → SOut} (P : Env → Prop) (h : α → O) (xs : List α) (hf : ∀ x ∈ xs, ∀ env, P env → ∃ env', P env' ∧ f (h x) env = .nx env') : ∀ env, P env → ∃ env', P env' ∧ fors f (xs.map h) env = .nx env' := by
  induction xs with
  | nil => exact fun env p => ⟨env, p, rfl⟩
  | cons x xs ih =>
    intro env p
    obtain ⟨e1, p1, h1⟩ := hf x List.mem_cons_self env p
    obtain ⟨e2, p2, h2⟩ := ih (fun y hy => hf y (List.mem_cons_of_mem _ hy)) e1 p1
    exact ⟨e2, p2, by rw [List.map_cons, fors_nx h1, h2]⟩
/-- by what has been walked -/
theorem fors_acc {α : Type} {f : O → Env → SOut} (P : List α → Env → Prop) (h : α → O) (xs : List α) (hf : ∀ ys x, ys ++ [x] <+: xs → ∀ env, P ys env → ∃ env', P (ys ++ [x]) env' ∧ f (h x) env = .nx env') : ∀ env, P [] env → ∃ env', P xs env' ∧ fors f (xs.map h) env = .nx env' := by
  suffices H : ∀ zs ys, ys ++ zs = xs → ∀ env, P ys env → ∃ env', P xs env' ∧ fors f (zs.map h) env = .nx env' from fun env p => H xs [] rfl env p
  intro zs
  induction zs with
  | nil => intro ys e env p; rw [List.append_nil] at e; subst e; exact ⟨env, p, rfl⟩
  | cons x zs ih =>
    intro ys e env p
    obtain ⟨e1, p1, h1⟩ := hf ys x ⟨zs, by rw [← e]; simp⟩ env p
    obtain ⟨e2, p2, h2⟩ := ih (ys ++ [x]) (by rw [← e]; simp) e1 p1
    exact ⟨e2, p2, by rw [List.map_cons, fors_nx h1, h2]⟩
theorem turns_cons {f : O → M (Option O)} {vs : List Nat} {x : O} {r : List O} {env : Env} : turns f vs (x :: r) env = (f x env).bnd fun y env => (turns f vs r (wipe env vs)).bnd fun ys env => .ok (match y with
    | some y => y :: ys
    | none => ys) env := rfl
/-- a comprehension that may change what stands around it -/
theorem turns_inv {α : Type} {f : O → M (Option O)} {vs : List Nat} (P : Env → Prop) (Q : D → Prop) (h : α → O) (xs : List α) (hf : ∀ x ∈ xs, ∀ env, P env → ∃ d env1, Q d ∧ P (wipe env1 vs) ∧ f (h x) env = .ok (some (.sh d)) env1) :
    ∀ env, P env → ∃ ds env', ds.length = xs.length ∧ (∀ d ∈ ds, Q d) ∧ P env' ∧ turns f vs (xs.map h) env = .ok (shL ds) env' := by
  induction xs with
  | nil => exact fun env p => ⟨[], env, rfl, fun d hd => by (cases hd), p, rfl⟩
  | cons x xs ih =>
    intro env p
    obtain ⟨d, e1, q, p1, h1⟩ := hf x List.mem_cons_self env p
    obtain ⟨ds, e2, l2, q2, p2, h2⟩ := ih (fun y hy => hf y (List.mem_cons_of_mem _ hy)) _ p1
    refine ⟨d :: ds, e2, by simp [l2], fun y hy => (List.mem_cons.mp hy).elim (fun e => e ▸ q) (q2 y), p2, ?_⟩
    rw [List.map_cons, turns_cons, h1]
    simp only [Out.bnd, h2]
    rfl
/-- .. with a test -/
theorem turns_invF {α : Type} {f : O → M (Option O)} {vs : List Nat} (P : Env → Prop) (g : α → D) (h : α → O) (xs : List α) (hf : ∀ x ∈ xs, ∀ env, P env → ∃ b env1, P (wipe env1 vs) ∧ f (h x) env = .ok (if b = true then some (.sh (g x)) else none) env1) :
    ∀ env, P env → ∃ (ys : List α) (env' : Env), ys.Sublist xs ∧ P env' ∧ turns f vs (xs.map h) env = .ok (shL (ys.map g)) env' := by
  induction xs with
  | nil => exact fun env p => ⟨[], env, .slnil, p, rfl⟩
  | cons x xs ih =>
    intro env p
    obtain ⟨b, e1, p1, h1⟩ := hf x List.mem_cons_self env p
    obtain ⟨ys, e2, q2, p2, h2⟩ := ih (fun y hy => hf y (List.mem_cons_of_mem _ hy)) _ p1
    cases b
    · refine ⟨ys, e2, q2.cons x, p2, ?_⟩
      rw [List.map_cons, turns_cons, h1]
      simp only [Out.bnd, h2]
      rfl
    · refine ⟨x :: ys, e2, q2.cons₂ x, p2, ?_⟩
      rw [List.map_cons, turns_cons, h1]
      simp only [Out.bnd, h2]
      rfl
/-- a turn goes on, and P holds behind it -/
def Snx (s : SOut) (P : Env → Prop) : Prop := ∃ env', P env' ∧ s = .nx env'
@[simp] theorem snx_ok {env : Env} {P : Env → Prop} : Snx (.nx env) P ↔ P env := ⟨fun ⟨_, p, e⟩ => by cases e; exact p, fun p => ⟨_, p, rfl⟩⟩
/-- a turn gives such a thing, and P holds behind it -/
def Stp (s : Out (Option O)) (Q : D → Prop) (P : Env → Prop) : Prop := ∃ d env1, Q d ∧ P env1 ∧ s = .ok (some (.sh d)) env1
@[simp] theorem stp_ok {env : Env} {d : D} {Q : D → Prop} {P : Env → Prop} : Stp (.ok (some (.sh d)) env) Q P ↔ Q d ∧ P env := ⟨fun ⟨_, _, q, p, e⟩ => by cases e; exact ⟨q, p⟩, fun ⟨q, p⟩ => ⟨_, _, q, p, rfl⟩⟩
/-- a turn gives this, and P holds behind it -/
def Stay {α : Type} (s : Out α) (a : α) (P : Env → Prop) : Prop := ∃ env1, s = .ok a env1 ∧ P env1
@[simp] theorem stay_ok {α : Type} {env : Env} {a b : α} {P : Env → Prop} : Stay (.ok a env) b P ↔ a = b ∧ P env := ⟨fun ⟨_, e, p⟩ => by cases e; exact ⟨rfl, p⟩, fun ⟨q, p⟩ => ⟨_, by rw [q], p⟩⟩
theorem for_inv {α : Type} {f : O → Env → SOut} {h : α → O} {xs : List α} {env : Env} {s : SOut} (hs : fors f (xs.map h) env = s) (P : Env → Prop) (p : P env) (hf : ∀ x ∈ xs, ∀ env, P env → Snx (f (h x) env) P) : ∃ env', P env' ∧ s = .nx env' := by
  obtain ⟨e, p, r⟩ := fors_inv P h xs hf env p
  exact ⟨e, p, hs ▸ r⟩
theorem for_acc {α : Type} {f : O → Env → SOut} {h : α → O} {xs : List α} {env : Env} {s : SOut} (hs : fors f (xs.map h) env = s) (P : List α → Env → Prop) (p : P [] env) (hf : ∀ ys x, ys ++ [x] <+: xs → ∀ env, P ys env → Snx (f (h x) env) (P (ys ++ [x]))) : ∃ env', P xs env' ∧ s = .nx env' := by
  obtain ⟨e, p, r⟩ := fors_acc P h xs hf env p
  exact ⟨e, p, hs ▸ r⟩
theorem turn_inv {α : Type} {f : O → M (Option O)} {vs : List Nat} {h : α → O} {xs : List α} {env : Env} {s : Out (List O)} (hs : turns f vs (xs.map h) env = s) (P : Env → Prop) (p : P env) (Q : D → Prop) (hf : ∀ x ∈ xs, ∀ env, P env → Stp (f (h x) env) Q fun env1 => P (wipe env1 vs)) :
    ∃ ds env', ds.length = xs.length ∧ (∀ d ∈ ds, Q d) ∧ P env' ∧ s = .ok (shL ds) env' := by
  obtain ⟨ds, e, h1, h2, h3, r⟩ := turns_inv P Q h xs hf env p
  exact ⟨ds, e, h1, h2, h3, hs ▸ r⟩
theorem turn_invF {α : Type} {f : O → M (Option O)} {vs : List Nat} {h : α → O} {xs : List α} {env : Env} {s : Out (List O)} (hs : turns f vs (xs.map h) env = s) (P : Env → Prop) (p : P env) (g : α → D) (hf : ∀ x ∈ xs, ∀ env, P env → ∃ b : Bool, Stay (f (h x) env) (if b = true then some (.sh (g x)) else none) fun env1 => P (wipe env1 vs)) :
    ∃ (ys : List α) (env' : Env), ys.Sublist xs ∧ P env' ∧ s = .ok (shL (ys.map g)) env' := by
  obtain ⟨ds, e, h1, h2, r⟩ := turns_invF P g h xs (fun x hx env p => by
    obtain ⟨b, e1, q, p1⟩ := hf x hx env p
    exact ⟨b, e1, p1, q⟩) env p
  exact ⟨ds, e, h1, h2, hs ▸ r⟩
/-- a comprehension that changes nothing -/
theorem turn_map {α : Type} {f : O → M (Option O)} {vs : List Nat} {h : α → O} {xs : List α} {env : Env} {s : Out (List O)} (hs : turns f vs (xs.map h) env = s) (g : α → D) (hf : ∀ x ∈ xs, Stay (f (h x) env) (some (.sh (g x))) fun env1 => wipe env1 vs = env) :
    s = .ok (shL (xs.map g)) env := hs ▸ comp_map h g xs hf
theorem turn_filter {α : Type} {f : O → M (Option O)} {vs : List Nat} {h : α → O} {xs : List α} {env : Env} {s : Out (List O)} (hs : turns f vs (xs.map h) env = s) (p : α → Bool) (g : α → D) (hf : ∀ x ∈ xs, Stay (f (h x) env) (if p x then some (.sh (g x)) else none) fun env1 => wipe env1 vs = env) :
    s = .ok (shL ((xs.filter p).map g)) env := hs ▸ comp_filter h p g xs hf
@[simp] theorem shd_scr {ns : List Int} : isShd (.scr ns) = true := rfl
@[simp] theorem fr_scr {ns : List Int} {env : Env} : freeze (.scr ns) env = .ok (.scr ns) env := rfl
@[simp] theorem u_lscr {ns : List Int} : un1 .list (.scr ns) = some (own (ns.map D.int)) := rfl
theorem sub_at0 {env : Env} {xs : List O} {k : Nat} {x : O} (h : xs[k]? = some x) : subO true (.lst xs) (.int (k : Int)) env = .ok x env := by
  unfold subO item
  simp only [ix_at2 (List.getElem?_eq_some_iff.mp h).1, Option.bind_some, h]
  cases x <;> rfl
@[simp] theorem sub_o0 {env : Env} {a0 : O} {r : List O} : subO true (.lst (a0 :: r)) (.int 0) env = .ok a0 env := sub_at0 (k := 0) rfl
@[simp] theorem sub_o1 {env : Env} {a0 a1 : O} {r : List O} : subO true (.lst (a0 :: a1 :: r)) (.int 1) env = .ok a1 env := sub_at0 (k := 1) rfl
@[simp] theorem sub_o2 {env : Env} {a0 a1 a2 : O} {r : List O} : subO true (.lst (a0 :: a1 :: a2 :: r)) (.int 2) env = .ok a2 env := sub_at0 (k := 2) rfl
@[simp] theorem sub_o3 {env : Env} {a0 a1 a2 a3 : O} {r : List O} : subO true (.lst (a0 :: a1 :: a2 :: a3 :: r)) (.int 3) env = .ok a3 env := sub_at0 (k := 3) rfl
theorem set_at {xs : List O} {k : Nat} {y : O} (h : k < xs.length) : setO (.lst xs) (.int (k : Int)) y = some (.lst (xs.set k y)) := by
  show Option.map _ (ixN xs.length k) = _
  rw [ix_at2 h]
  rfl
@[simp] theorem set_o0 {a0 y : O} {r : List O} : setO (.lst (a0 :: r)) (.int 0) y = some (.lst (y :: r)) := set_at (k := 0) (by simp)
@[simp] theorem set_o1 {a0 a1 y : O} {r : List O} : setO (.lst (a0 :: a1 :: r)) (.int 1) y = some (.lst (a0 :: y :: r)) := set_at (k := 1) (by simp)
@[simp] theorem set_o2 {a0 a1 a2 y : O} {r : List O} : setO (.lst (a0 :: a1 :: a2 :: r)) (.int 2) y = some (.lst (a0 :: a1 :: y :: r)) := set_at (k := 2) (by simp)
@[simp] theorem set_o3 {a0 a1 a2 a3 y : O} {r : List O} : setO (.lst (a0 :: a1 :: a2 :: a3 :: r)) (.int 3) y = some (.lst (a0 :: a1 :: a2 :: y :: r)) := set_at (k := 3) (by simp)
@[simp] theorem shd_lst {xs : List O} : isShd (.lst xs) = false := rfl
@[simp] theorem m_filt {c : Bool} {o : O} {env : Env} : (if c = true then Out.ok (some o) env else Out.ok none env) = Out.ok (if c = true then some o else none) env := by cases c <;> rfl
theorem mul_l {xs : List D} {k : Nat} (h : xs.length * k ≤ cap) (h2 : k ≤ cap) : bin2 .mul (.lst xs) (.int (k : Nat)) = some (own (List.replicate k xs).flatten) := by
  have e : (2 : Int) ^ 62 = 4611686018427387904 := by decide
  have h3 : (k : Int) < 2 ^ 62 := by unfold cap at h2; rw [e]; omega
  have h4 : 0 ≤ (k : Int) := by omega
  simp only [bin2, mulD, repL_eq, repL0, repT_eq, repT0, Int.toNat_natCast, h3, h4, h, and_self, decide_true, if_true]
theorem mul_t {xs : List D} {k : Nat} (h : xs.length ≤ 1000) (h2 : k ≤ 1000) : bin2 .mul (.tup xs) (.int (k : Nat)) = some (.sh (.tup (List.replicate k xs).flatten)) := by
  have h3 : (k : Int) ≤ 1000 := by omega
  have h4 : 0 ≤ (k : Int) := by omega
  simp only [bin2, mulD, repL_eq, repL0, repT_eq, repT0, Int.toNat_natCast, h3, h4, h, and_self, decide_true, if_true]
@[simp] theorem b_addO {xs ys : List D} : binO .add (own xs) (own ys) = bin2 .add (.lst xs) (.lst ys) := by simp [binO, plain]
@[simp] theorem b_addO1 {xs ys : List D} : binO .add (own xs) (.sh (.lst ys)) = bin2 .add (.lst xs) (.lst ys) := by simp [binO, plain]
@[simp] theorem b_addO2 {xs ys : List D} : binO .add (.sh (.lst xs)) (own ys) = bin2 .add (.lst xs) (.lst ys) := by simp [binO, plain]
@[simp] theorem b_mulO {xs : List D} {d : D} : binO .mul (own xs) (.sh d) = bin2 .mul (.lst xs) d := by simp [binO, plain]
theorem mul_li {xs : List D} {k : Int} (h0 : 0 ≤ k) (h1 : k ≤ 1000) (h : xs.length ≤ 1000) : bin2 .mul (.lst xs) (.int k) = some (own (List.replicate k.toNat xs).flatten) := by
  obtain ⟨k, rfl⟩ := Int.eq_ofNat_of_zero_le h0
  exact mul_l (Nat.le_trans (Nat.mul_le_mul h (show k ≤ 1000 by omega)) (by decide)) (by unfold cap; omega)
theorem mul_ti {xs : List D} {k : Int} (h0 : 0 ≤ k) (h1 : k ≤ 1000) (h : xs.length ≤ 1000) : bin2 .mul (.tup xs) (.int k) = some (.sh (.tup (List.replicate k.toNat xs).flatten)) := by
  obtain ⟨k, rfl⟩ := Int.eq_ofNat_of_zero_le h0
  exact mul_t h (by omega)
theorem mulOk_r {i j : Int} (h0 : -1000000000 ≤ j) (h1 : j ≤ 1000000000) : mulOk i j = true := by
  have e : (2 : Int) ^ 64 = 18446744073709551616 := by decide
  simp only [mulOk_eq, mulOk0, e, Bool.or_eq_true, Bool.and_eq_true, decide_eq_true_eq]
  omega
theorem i_mulR {i j : Int} (h0 : -1000000000 ≤ j) (h1 : j ≤ 1000000000) : bin2 .mul (.int i) (.int j) = some (.sh (.int (i * j))) := i_mul (mulOk_r h0 h1)
/-! what comes behind a statement waits -/
section
variable {cl : Nat → List O → CRes} {io : Nat → List Bool} {sub : Nat → Nat → Bool} {env : Env} {r x y : Ss}
noncomputable def thnS (cl : Nat → List O → CRes) (io : Nat → List Bool) (sub : Nat → Nat → Bool) (s : SOut) (r : Ss) : SOut := s.thn fun env => exes cl io sub r env
@[simp high] theorem z_ssC2 {s : S} : exes cl io sub (.cons s r) env = thnS cl io sub (exe cl io sub s env) r := z_ssC
@[simp] theorem ts_nx : thnS cl io sub (.nx env) r = exes cl io sub r env := rfl
@[simp] theorem ts_rt {o : O} : thnS cl io sub (.rt o env) r = .rt o env := rfl
@[simp] theorem ts_exc {c : Nat} : thnS cl io sub (.exc c env) r = .exc c env := rfl
@[simp] theorem ts_bk : thnS cl io sub (.bk env) r = .bk env := rfl
@[simp] theorem ts_ct : thnS cl io sub (.ct env) r = .ct env := rfl
@[simp] theorem ts_bad : thnS cl io sub .bad r = .bad := rfl
noncomputable def ifS (cl : Nat → List O → CRes) (io : Nat → List Bool) (sub : Nat → Nat → Bool) (x y : Ss) (o : Out Bool) : SOut := o.thn fun t env => if t then exes cl io sub x env else exes cl io sub y env
@[simp high] theorem z_ifs2 {c : T} : exe cl io sub (.ifs c x y) env = ifS cl io sub x y (evT cl io c env) := z_ifs
@[simp] theorem is_t : ifS cl io sub x y (.ok true env) = exes cl io sub x env := rfl
@[simp] theorem is_f : ifS cl io sub x y (.ok false env) = exes cl io sub y env := rfl
@[simp] theorem is_exc {c : Nat} : ifS cl io sub x y (.exc c env) = .exc c env := rfl
@[simp low] theorem is_c {c : Bool} : ifS cl io sub x y (.ok c env) = if c then exes cl io sub x env else exes cl io sub y env := rfl
end
theorem all_ex {α : Type} {e : α → D} {Q : α → Prop} : ∀ {ds : List D}, (∀ d ∈ ds, ∃ a, d = e a ∧ Q a) → ∃ as : List α, ds = as.map e ∧ ∀ a ∈ as, Q a
  | [], _ => ⟨[], rfl, fun a h => by cases h⟩
  | d :: ds, h => by
    obtain ⟨a, rfl, q⟩ := h d List.mem_cons_self
    obtain ⟨as, rfl, qs⟩ := all_ex (ds := ds) fun d hd => h d (List.mem_cons_of_mem _ hd)
    exact ⟨a :: as, rfl, fun b hb => (List.mem_cons.mp hb).elim (fun e => e ▸ q) (qs b)⟩
theorem turn_invT {α β : Type} {f : O → M (Option O)} {vs : List Nat} {h : α → O} {xs : List α} {env : Env} {s : Out (List O)} (hs : turns f vs (xs.map h) env = s) (P : Env → Prop) (p : P env) (e : β → D) (Q : β → Prop) (hf : ∀ x ∈ xs, ∀ env, P env → Stp (f (h x) env) (fun d => ∃ b, d = e b ∧ Q b) fun env1 => P (wipe env1 vs)) :
    ∃ (bs : List β) (env' : Env), bs.length = xs.length ∧ (∀ b ∈ bs, Q b) ∧ P env' ∧ s = .ok (shL (bs.map e)) env' := by
  obtain ⟨ds, e1, h1, h2, h3, r⟩ := turn_inv hs P p _ hf
  obtain ⟨bs, rfl, q⟩ := all_ex h2
  exact ⟨bs, e1, by simpa using h1, q, h3, r⟩
@[simp] theorem u_tupO {xs : List D} : un1 .tuple (own xs) = some (.sh (.tup xs)) := by simp [un1]
@[simp] theorem u_tupL {xs : List D} : un1 .tuple (.sh (.lst xs)) = some (.sh (.tup xs)) := by simp [un1]
@[simp] theorem u_lstO {xs : List D} : un1 .list (own xs) = some (own xs) := by
  show (match rd (own xs) with | some (D.lst xs) => some (own xs) | some (D.tup xs) => some (own xs) | x => none) = _
  rw [rd_own]
@[simp] theorem u_lstL {xs : List D} : un1 .list (.sh (.lst xs)) = some (own xs) := by simp [un1]
@[simp] theorem u_lstT {xs : List D} : un1 .list (.sh (.tup xs)) = some (own xs) := by simp [un1]
@[simp] theorem u_tupT {xs : List D} : un1 .tuple (.sh (.tup xs)) = some (.sh (.tup xs)) := by simp [un1]
/-! lists that are filled -/
section
variable {cl : Nat → List O → CRes} {io : Nat → List Bool} {sub : Nat → Nat → Bool} {env : Env}
def appS (i : Nat) (x : Option O) (o : O) (env : Env) : SOut := match x with
  | some (.lst xs) => if xs.length < cap then .nx (put env i (some (.lst (xs ++ [o])))) else .bad
  | _ => .bad
noncomputable def appG (cl : Nat → List O → CRes) (io : Nat → List Bool) (x : Option O) (i : Nat) (e : E) (env : Env) : SOut := match x with
  | some (.lst _) => (ev cl io false e env).thn fun o env => (freeze o env).thn fun o env => appS i (get env i) o env
  | _ => .bad
@[simp high] theorem z_app2 {i : Nat} {e : E} : exe cl io sub (.app i e) env = appG cl io (get env i) i e env := z_app
@[simp] theorem app_own {xs : List D} {i : Nat} {e : E} : appG cl io (some (own xs)) i e env = (ev cl io false e env).thn fun o env => (freeze o env).thn fun o env => appS i (get env i) o env := rfl
theorem app_do {xs : List D} {i : Nat} {d : D} (h : xs.length < cap) : appS i (some (own xs)) (.sh d) env = .nx (put env i (some (own (xs ++ [d])))) := by
  simp [appS, own, h]
def extS (i : Nat) (x : Option O) (o : O) (env : Env) : SOut := match x, o with
      | some (.lst xs), .lst ys => if xs.length + ys.length ≤ cap then .nx (put env i (some (.lst (xs ++ ys)))) else .bad
      | some (.lst xs), .sh (.lst ys) => if xs.length + ys.length ≤ cap then .nx (put env i (some (.lst (xs ++ ys.map O.sh)))) else .bad
      | _, _ => .bad
noncomputable def extG (cl : Nat → List O → CRes) (io : Nat → List Bool) (x : Option O) (i : Nat) (e : E) (env : Env) : SOut := match x with
  | some (.lst _) => (ev cl io false e env).thn fun o env => extS i (get env i) o env
  | _ => .bad
@[simp high] theorem z_ext2 {i : Nat} {e : E} : exe cl io sub (.ext i e) env = extG cl io (get env i) i e env := by rw [exe] <;> rfl
@[simp] theorem ext_own {xs : List D} {i : Nat} {e : E} : extG cl io (some (own xs)) i e env = (ev cl io false e env).thn fun o env => extS i (get env i) o env := rfl
theorem ext_do {xs ys : List D} {i : Nat} (h : xs.length + ys.length ≤ cap) : extS i (some (own xs)) (own ys) env = .nx (put env i (some (own (xs ++ ys)))) := by
  simp [extS, own, h]
theorem ext_do2 {xs ys : List D} {i : Nat} (h : xs.length + ys.length ≤ cap) : extS i (some (own xs)) (.sh (.lst ys)) env = .nx (put env i (some (own (xs ++ ys)))) := by
  simp [extS, own, h]
def insS0 (i : Nat) (x : Option O) (k o : O) (env : Env) : SOut := match x, k with
      | some (.lst xs), .sh (.int k) => if 0 ≤ k ∧ k < 2 ^ 62 ∧ xs.length < cap then .nx (put env i (some (.lst (insAt xs k.toNat o)))) else .bad
      | _, _ => .bad
noncomputable def insS : Nat → Option O → O → O → Env → SOut := Classical.choose (hid insS0)
theorem insS_eq : insS = insS0 := Classical.choose_spec (hid insS0)
noncomputable def insG (cl : Nat → List O → CRes) (io : Nat → List Bool) (x : Option O) (i : Nat) (k e : E) (env : Env) : SOut := match x with
  | some (.lst _) => (ev cl io true k env).thn fun k env => (ev cl io false e env).thn fun o env => (freeze o env).thn fun o env => insS i (get env i) k o env
  | _ => .bad
@[simp high] theorem z_ins2 {i : Nat} {k e : E} : exe cl io sub (.ins i k e) env = insG cl io (get env i) i k e env := by unfold insG; rw [insS_eq, exe] <;> rfl
@[simp] theorem ins_own {xs : List D} {i : Nat} {k e : E} : insG cl io (some (own xs)) i k e env = (ev cl io true k env).thn fun k env => (ev cl io false e env).thn fun o env => (freeze o env).thn fun o env => insS i (get env i) k o env := rfl
theorem ins_do {xs : List D} {i k : Nat} {d : D} (h : xs.length < cap) (h2 : k ≤ cap) : insS i (some (own xs)) (.sh (.int (k : Nat))) (.sh d) env = .nx (put env i (some (own (insAt xs k d)))) := by
  have e : (2 : Int) ^ 62 = 4611686018427387904 := by decide
  have h3 : (k : Int) < 2 ^ 62 := by unfold cap at h2; rw [e]; omega
  have h4 : 0 ≤ (k : Int) := by omega
  simp only [insS_eq, insS0, own, List.length_map, h3, h4, h, and_self, if_true, Int.toNat_natCast, insAt, List.map_append, List.map_cons, List.map_take, List.map_drop]
end
@[simp] theorem own_nil : O.lst [] = own [] := rfl
theorem rg_ok2 {lo hi : Int} (h : hi ≤ 16777216) (h0 : 0 ≤ lo) (h1 : lo ≤ 16777216) (h2 : 0 ≤ hi) : rgOk lo hi = true := by
  have e : (2 : Int) ^ 61 = 2305843009213693952 := by decide
  simp only [rgOk_eq, rgOk0, Bool.and_eq_true, decide_eq_true_eq]
  rw [e]
  omega
@[simp] theorem b_eqO {x : D} {ys : List D} : binO .eq (.sh x) (own ys) = bin2 .eq x (.lst ys) := by simp [binO, plain]
@[simp] theorem b_eqO2 {x : D} {ys : List D} : binO .eq (own ys) (.sh x) = bin2 .eq (.lst ys) x := by simp [binO, plain]
@[simp] theorem b_eqO3 {xs ys : List D} : binO .eq (own xs) (own ys) = bin2 .eq (.lst xs) (.lst ys) := by simp [binO, plain]
@[simp] theorem b_neO {x : D} {ys : List D} : binO .ne (.sh x) (own ys) = bin2 .ne x (.lst ys) := by simp [binO, plain]
@[simp] theorem b_neO2 {x : D} {ys : List D} : binO .ne (own ys) (.sh x) = bin2 .ne (.lst ys) x := by simp [binO, plain]
@[simp] theorem e_nil {xs : List D} : bin2 .eq (.lst xs) (.lst []) = some (.sh (.bl xs.isEmpty)) := by
  rw [v_eq (by simp [D.depth, D.depths])]
  cases xs <;> simp [D.eqv, D.eqvs]
@[simp] theorem n_nil {xs : List D} : bin2 .ne (.lst xs) (.lst []) = some (.sh (.bl (nt xs.isEmpty))) := by
  rw [v_ne (by simp [D.depth, D.depths])]
  cases xs <;> simp [D.eqv, D.eqvs]
@[simp] theorem cut_l {xs : List D} {lo hi : Option Int} : cutO (.sh (.lst xs)) lo hi = some (own (cut xs lo hi)) := rfl
@[simp] theorem cut_o {xs : List D} {lo hi : Option Int} : cutO (own xs) lo hi = some (own (cut xs lo hi)) := by simp [cutO]
@[simp] theorem cut_t {xs : List D} {lo hi : Option Int} : cutO (.sh (.tup xs)) lo hi = some (.sh (.tup (cut xs lo hi))) := rfl
theorem cut_to {α : Type} {xs : List α} {v : Int} (h : 0 ≤ v) : cut xs none (some v) = xs.take v.toNat := by
  have h2 : ¬ v < 0 := by omega
  simp only [cut, sIx, h2, if_false, Nat.sub_zero, List.drop_zero]
  rw [List.take_eq_take_iff]
  omega
theorem cut_from {α : Type} {xs : List α} {v : Int} (h : 0 ≤ v) : cut xs (some v) none = xs.drop v.toNat := by
  have h2 : ¬ v < 0 := by omega
  simp only [cut, sIx, h2, if_false]
  rw [List.take_of_length_le (by simp)]
  by_cases h3 : v.toNat ≤ xs.length
  · rw [Nat.min_eq_left h3]
  · rw [Nat.min_eq_right (by omega), List.drop_of_length_le (Nat.le_refl _), List.drop_of_length_le (by omega)]
theorem pre_get {α : Type} {ys xs : List α} {x : α} (h : ys ++ [x] <+: xs) : xs[ys.length]? = some x := by
  obtain ⟨t, rfl⟩ := h
  simp
theorem pre_range {ys : List Nat} {x n : Nat} (h : ys ++ [x] <+: List.range n) : x = ys.length ∧ x < n := by
  have h1 := pre_get h
  have h2 := h.length_le
  simp at h2
  rw [List.getElem?_range (by omega)] at h1
  simp at h1
  omega
theorem pre_mem {α : Type} {ys xs : List α} {x : α} (h : ys ++ [x] <+: xs) : x ∈ xs := List.mem_of_getElem? (pre_get h)
def dropS : Nat → Ss → Ss
  | 0, r => r
  | _ + 1, .nil => .nil
  | n + 1, .cons _ r => dropS n r
@[simp] theorem b_ninO {x : D} {ys : List D} : binO .nin (.sh x) (own ys) = bin2 .nin x (.lst ys) := by
  show (match rd (.sh x), rd (own ys) with | some a, some b => bin2 B2.nin a b | _, _ => none) = _
  rw [rd_own]
  rfl
@[simp] theorem b_innO {x : D} {ys : List D} : binO .inn (.sh x) (own ys) = bin2 .inn x (.lst ys) := by
  show (match rd (.sh x), rd (own ys) with | some a, some b => bin2 B2.inn a b | _, _ => none) = _
  rw [rd_own]
  rfl
theorem v_ninL {x : D} {ys : List D} (h : min (D.lst ys).depth x.depth ≤ 64) : bin2 .nin x (.lst ys) = some (.sh (.bl (nt (anyEq x ys)))) := by
  show (inD x (.lst ys)).map _ = _
  unfold inD itemsOf
  simp only [show deep (.lst ys) x = true from decide_eq_true h, if_true, Option.map_some]
  rfl
/-! over encoded values -/
theorem mapE {α : Type} {e : α → D} {xs : List α} : (xs.map e).map O.sh = xs.map fun x => O.sh (e x) := by rw [List.map_map]; rfl
theorem turn_mapE {α : Type} {f : O → M (Option O)} {vs : List Nat} {e : α → D} {xs : List α} {env : Env} {s : Out (List O)} (hs : turns f vs ((xs.map e).map O.sh) env = s) (g : α → D) (hf : ∀ x ∈ xs, Stay (f (.sh (e x)) env) (some (.sh (g x))) fun env1 => wipe env1 vs = env) :
    s = .ok (shL (xs.map g)) env := turn_map (h := fun x => O.sh (e x)) (mapE ▸ hs) g hf
theorem turn_filterE {α : Type} {f : O → M (Option O)} {vs : List Nat} {e : α → D} {xs : List α} {env : Env} {s : Out (List O)} (hs : turns f vs ((xs.map e).map O.sh) env = s) (p : α → Bool) (g : α → D) (hf : ∀ x ∈ xs, Stay (f (.sh (e x)) env) (if p x then some (.sh (g x)) else none) fun env1 => wipe env1 vs = env) :
    s = .ok (shL ((xs.filter p).map g)) env := turn_filter (h := fun x => O.sh (e x)) (mapE ▸ hs) p g hf
theorem for_invE {α : Type} {f : O → Env → SOut} {e : α → D} {xs : List α} {env : Env} {s : SOut} (hs : fors f ((xs.map e).map O.sh) env = s) (P : Env → Prop) (p : P env) (hf : ∀ x ∈ xs, ∀ env, P env → Snx (f (.sh (e x)) env) P) : ∃ env', P env' ∧ s = .nx env' := for_inv (h := fun x => O.sh (e x)) (mapE ▸ hs) P p hf
theorem for_accE {α : Type} {f : O → Env → SOut} {e : α → D} {xs : List α} {env : Env} {s : SOut} (hs : fors f ((xs.map e).map O.sh) env = s) (P : List α → Env → Prop) (p : P [] env) (hf : ∀ ys x, ys ++ [x] <+: xs → ∀ env, P ys env → Snx (f (.sh (e x)) env) (P (ys ++ [x]))) : ∃ env', P xs env' ∧ s = .nx env' := for_acc (h := fun x => O.sh (e x)) (mapE ▸ hs) P p hf
theorem turn_invTE {α β : Type} {f : O → M (Option O)} {vs : List Nat} {k : α → D} {xs : List α} {env : Env} {s : Out (List O)} (hs : turns f vs ((xs.map k).map O.sh) env = s) (P : Env → Prop) (p : P env) (e : β → D) (Q : β → Prop) (hf : ∀ x ∈ xs, ∀ env, P env → Stp (f (.sh (k x)) env) (fun d => ∃ b, d = e b ∧ Q b) fun env1 => P (wipe env1 vs)) :
    ∃ (bs : List β) (env' : Env), bs.length = xs.length ∧ (∀ b ∈ bs, Q b) ∧ P env' ∧ s = .ok (shL (bs.map e)) env' := turn_invT (h := fun x => O.sh (k x)) (mapE ▸ hs) P p e Q hf
theorem turn_invFE {α : Type} {f : O → M (Option O)} {vs : List Nat} {e : α → D} {xs : List α} {env : Env} {s : Out (List O)} (hs : turns f vs ((xs.map e).map O.sh) env = s) (P : Env → Prop) (p : P env) (g : α → D) (hf : ∀ x ∈ xs, ∀ env, P env → ∃ b : Bool, Stay (f (.sh (e x)) env) (if b = true then some (.sh (g x)) else none) fun env1 => P (wipe env1 vs)) :
    ∃ (ys : List α) (env' : Env), ys.Sublist xs ∧ P env' ∧ s = .ok (shL (ys.map g)) env' := turn_invF (h := fun x => O.sh (e x)) (mapE ▸ hs) P p g hf
@[simp] theorem app_x0 {i : Nat} { d : D} {env : Env} : appS i (some (own [])) (.sh d) env = .nx (put env i (some (own [d]))) := app_do (by simp [cap])
@[simp] theorem app_x1 {i : Nat} {a0 d : D} {env : Env} : appS i (some (own [a0])) (.sh d) env = .nx (put env i (some (own [a0, d]))) := app_do (by simp [cap])
@[simp] theorem app_x2 {i : Nat} {a0 a1 d : D} {env : Env} : appS i (some (own [a0, a1])) (.sh d) env = .nx (put env i (some (own [a0, a1, d]))) := app_do (by simp [cap])
@[simp] theorem app_x3 {i : Nat} {a0 a1 a2 d : D} {env : Env} : appS i (some (own [a0, a1, a2])) (.sh d) env = .nx (put env i (some (own [a0, a1, a2, d]))) := app_do (by simp [cap])
@[simp] theorem app_x4 {i : Nat} {a0 a1 a2 a3 d : D} {env : Env} : appS i (some (own [a0, a1, a2, a3])) (.sh d) env = .nx (put env i (some (own [a0, a1, a2, a3, d]))) := app_do (by simp [cap])
@[simp] theorem app_x5 {i : Nat} {a0 a1 a2 a3 a4 d : D} {env : Env} : appS i (some (own [a0, a1, a2, a3, a4])) (.sh d) env = .nx (put env i (some (own [a0, a1, a2, a3, a4, d]))) := app_do (by simp [cap])
@[simp] theorem app_x6 {i : Nat} {a0 a1 a2 a3 a4 a5 d : D} {env : Env} : appS i (some (own [a0, a1, a2, a3, a4, a5])) (.sh d) env = .nx (put env i (some (own [a0, a1, a2, a3, a4, a5, d]))) := app_do (by simp [cap])
@[simp] theorem app_x7 {i : Nat} {a0 a1 a2 a3 a4 a5 a6 d : D} {env : Env} : appS i (some (own [a0, a1, a2, a3, a4, a5, a6])) (.sh d) env = .nx (put env i (some (own [a0, a1, a2, a3, a4, a5, a6, d]))) := app_do (by simp [cap])
@[simp] theorem app_x8 {i : Nat} {a0 a1 a2 a3 a4 a5 a6 a7 d : D} {env : Env} : appS i (some (own [a0, a1, a2, a3, a4, a5, a6, a7])) (.sh d) env = .nx (put env i (some (own [a0, a1, a2, a3, a4, a5, a6, a7, d]))) := app_do (by simp [cap])
@[simp] theorem w_lenOwn {xs : List D} : un1 .len (own xs) = some (.sh (.int xs.length)) := by simp [own]
@[simp] theorem u_neg {i : Int} : un1 .neg (.sh (.int i)) = some (.sh (.int (-i))) := rfl
@[simp] theorem e_nilT {xs : List D} : bin2 .eq (.tup xs) (.tup []) = some (.sh (.bl xs.isEmpty)) := by
  rw [v_eq (by simp [D.depth, D.depths])]
  cases xs <;> simp [D.eqv, D.eqvs]
@[simp] theorem n_nilT {xs : List D} : bin2 .ne (.tup xs) (.tup []) = some (.sh (.bl (nt xs.isEmpty))) := by
  rw [v_ne (by simp [D.depth, D.depths])]
  cases xs <;> simp [D.eqv, D.eqvs]
@[simp] theorem b_max {x y : D} : binO .max2 (.sh x) (.sh y) = bin2 .max2 x y := rfl
@[simp] theorem b_min {x y : D} : binO .min2 (.sh x) (.sh y) = bin2 .min2 x y := rfl
@[simp] theorem i_max {i j : Int} : bin2 .max2 (.int i) (.int j) = some (.sh (.int (max i j))) := by
  show some (O.sh (.int (if i < j then j else i))) = _
  congr 3
  split <;> omega
@[simp] theorem i_min {i j : Int} : bin2 .min2 (.int i) (.int j) = some (.sh (.int (min i j))) := by
  show some (O.sh (.int (if j < i then j else i))) = _
  congr 3
  split <;> omega
/-- a turn goes on, or gives r and ends -/
def Sret (s : SOut) (r : O) (b : Bool) (P : Env → Prop) : Prop := ∃ env', P env' ∧ s = if b = true then .rt r env' else .nx env'
@[simp] theorem sret_rt {env : Env} {r o : O} {b : Bool} {P : Env → Prop} : Sret (.rt o env) r b P ↔ b = true ∧ o = r ∧ P env := by
  constructor
  · rintro ⟨e, p, h⟩
    cases b <;> simp at h
    obtain ⟨rfl, rfl⟩ := h
    exact ⟨rfl, rfl, p⟩
  · rintro ⟨rfl, rfl, p⟩
    exact ⟨_, p, rfl⟩
@[simp] theorem sret_nx {env : Env} {r : O} {b : Bool} {P : Env → Prop} : Sret (.nx env) r b P ↔ b = false ∧ P env := by
  constructor
  · rintro ⟨e, p, h⟩
    cases b <;> simp at h
    obtain rfl := h
    exact ⟨rfl, p⟩
  · rintro ⟨rfl, p⟩
    exact ⟨_, p, rfl⟩
theorem for_ret {α : Type} {f : O → Env → SOut} {h : α → O} {xs : List α} {env : Env} {s : SOut} (hs : fors f (xs.map h) env = s) (r : O) (bad : α → Bool) (P : Env → Prop) (p : P env) (hf : ∀ x ∈ xs, ∀ env, P env → Sret (f (h x) env) r (bad x) P) : Sret s r (xs.any bad) P := by
  obtain ⟨e, p, q⟩ := fors_find bad r h xs hf env p
  exact ⟨e, p, hs ▸ q⟩
theorem for_retE {α : Type} {f : O → Env → SOut} {e : α → D} {xs : List α} {env : Env} {s : SOut} (hs : fors f ((xs.map e).map O.sh) env = s) (r : O) (bad : α → Bool) (P : Env → Prop) (p : P env) (hf : ∀ x ∈ xs, ∀ env, P env → Sret (f (.sh (e x)) env) r (bad x) P) : Sret s r (xs.any bad) P :=
  for_ret (h := fun x => O.sh (e x)) (mapE ▸ hs) r bad P p hf
/-! try -/
def tryS (sub : Nat → Nat → Bool) (hs : List (Nat × Sx)) (s : SOut) : SOut := match s with
  | .exc c env => handle sub hs c env
  | y => y
section
variable {cl : Nat → List O → CRes} {io : Nat → List Bool} {sub : Nat → Nat → Bool} {env : Env} {hs : List (Nat × Sx)}
@[simp] theorem z_try {b : Ss} : exe cl io sub (.tryx b hs) env = tryS sub hs (exes cl io sub b env) := by rw [exe] <;> rfl
@[simp] theorem try_exc {c : Nat} : tryS sub hs (.exc c env) = handle sub hs c env := rfl
@[simp] theorem try_nx : tryS sub hs (.nx env) = .nx env := rfl
@[simp] theorem try_rt {o : O} : tryS sub hs (.rt o env) = .rt o env := rfl
@[simp] theorem hd_n {c : Nat} : handle sub [] c env = .exc c env := rfl
@[simp] theorem hd_c {c h : Nat} {x : Sx} : handle sub ((h, x) :: hs) c env = if sub c h = true then runX env x else handle sub hs c env := rfl
@[simp] theorem rx_r {d : D} : runX env (.ret (.lit d)) = .rt (.sh d) env := rfl
@[simp] theorem rx_rl {ds : List D} : runX env (.ret (.lst ds)) = .rt (own ds) env := rfl
@[simp] theorem rx_a {i : Nat} {d : D} : runX env (.asg i (.lit d)) = .nx (put env i (some (.sh d))) := rfl
end
theorem own_at {b : Bool} {env : Env} {ds : List D} {k : Nat} {d : D} (h : ds[k]? = some d) : subO b (own ds) (.int (k : Nat)) env = .ok (.sh d) env := by
  have hk := (List.getElem?_eq_some_iff.mp h).1
  unfold subO item own
  have h2 : ixN (ds.map O.sh).length (k : Int) = some k := ix_at2 (by simpa using hk)
  simp only [h2, Option.bind_some, List.getElem?_map, h, Option.map_some]
@[simp] theorem own_0 {b : Bool} {env : Env} {d : D} {r : List D} : subO b (own (d :: r)) (.int 0) env = .ok (.sh d) env := own_at (k := 0) rfl
@[simp] theorem own_1 {b : Bool} {env : Env} {d e : D} {r : List D} : subO b (own (d :: e :: r)) (.int 1) env = .ok (.sh e) env := own_at (k := 1) rfl
@[simp] theorem z_listr {cl : Nat → List O → CRes} {io : Nat → List Bool} {b : Bool} {env : Env} {it : It} : ev cl io b (.listr it) env = (evIt cl io it env).bnd fun xs env => .ok (.lst xs) env := by rw [ev]
@[simp] theorem z_tupler {cl : Nat → List O → CRes} {io : Nat → List Bool} {b : Bool} {env : Env} {it : It} : ev cl io b (.tupler it) env = (evIt cl io it env).bnd fun xs env => match O.frzs xs with
    | some ds => .ok (.sh (.tup ds)) env
    | none => .bad := by rw [ev] <;> rfl
theorem own_map {α : Type} {f : α → D} {xs : List α} : O.lst (xs.map fun k => O.sh (f k)) = own (xs.map f) := by
  unfold own
  rw [List.map_map]; rfl
@[simp] theorem frzs_shm {α : Type} {f : α → D} {xs : List α} : O.frzs (xs.map fun k => O.sh (f k)) = some (xs.map f) := by
  rw [← mapE, frzs_sh]
def zipO (o p : O) (env : Env) : Out (List O) := match o, p with
    | .sh (.tup xs), .sh (.tup ys) => .ok (zipD xs ys) env
    | .sh (.lst xs), .sh (.lst ys) => .ok (zipD xs ys) env
    | _, _ => .bad
@[simp] theorem z_itZ {cl : Nat → List O → CRes} {io : Nat → List Bool} {env : Env} {a c : E} : evIt cl io (.zip a c) env = (ev cl io false a env).bnd fun o env => (freeze o env).bnd fun o env => (ev cl io false c env).bnd fun p env => (freeze p env).bnd fun p env => zipO o p env := by rw [evIt] <;> rfl
@[simp] theorem zipO_t {xs ys : List D} {env : Env} : zipO (.sh (.tup xs)) (.sh (.tup ys)) env = .ok (zipD xs ys) env := rfl
@[simp] theorem zipO_l {xs ys : List D} {env : Env} : zipO (.sh (.lst xs)) (.sh (.lst ys)) env = .ok (zipD xs ys) env := rfl
section
variable {cl : Nat → List O → CRes} {io : Nat → List Bool} {sub : Nat → Nat → Bool} {env : Env}
@[simp] theorem z_ex {e : E} : exe cl io sub (.ex e) env = (ev cl io false e env).thn fun _ env => .nx env := by rw [exe]
@[simp] theorem z_retn : exe cl io sub .retn env = .rt (.sh .non) env := by rw [exe]
@[simp] theorem z_brk : exe cl io sub .brk env = .bk env := by rw [exe]
@[simp] theorem z_cnt : exe cl io sub .cnt env = .ct env := by rw [exe]
@[simp] theorem z_pass : exe cl io sub .pass env = .nx env := by rw [exe]
end
end Ev
set_option maxHeartbeats 400000
set_option linter.all false
namespace Lw
open Ev
/-! the stream -/
structure St where
  ns : List Int
  cur : Nat
  pos : Nat
  mix : Nat
def St.l (s : St) : List O := [.sh (.lst (s.ns.map D.int)), .sh (.int (s.cur : Nat)), .sh (.int (s.pos : Nat)), .sh (.int (s.mix : Nat))]
def St.o (s : St) : O := .lst s.l
@[simp] theorem st_shd {s : St} : isShd s.o = false := rfl
@[simp] theorem st_io {r : List Bool} {s : St} {e : Env} : iosOf (true :: r) (some s.o :: e) = (iosOf r e).map (s.o :: ·) := rfl
class CD (tbl : Nat → Option FDef) : Prop where
  h13 : tbl 13 = some f_law_stream
  h14 : tbl 14 = some f_law_draw
  h15 : tbl 15 = some f_law_pick
  h28 : tbl 28 = some f_law_pool
  h29 : tbl 29 = some f_law_drawn_move
  h30 : tbl 30 = some f_law_known
  h31 : tbl 31 = some f_law_rules
  h32 : tbl 32 = some f_law_pattern
instance {tbl : Nat → Option FDef} [i : CD tbl] : Has tbl 13 f_law_stream := ⟨i.h13⟩
instance {tbl : Nat → Option FDef} [i : CD tbl] : Has tbl 14 f_law_draw := ⟨i.h14⟩
instance {tbl : Nat → Option FDef} [i : CD tbl] : Has tbl 15 f_law_pick := ⟨i.h15⟩
instance {tbl : Nat → Option FDef} [i : CD tbl] : Has tbl 28 f_law_pool := ⟨i.h28⟩
instance {tbl : Nat → Option FDef} [i : CD tbl] : Has tbl 29 f_law_drawn_move := ⟨i.h29⟩
instance {tbl : Nat → Option FDef} [i : CD tbl] : Has tbl 30 f_law_known := ⟨i.h30⟩
instance {tbl : Nat → Option FDef} [i : CD tbl] : Has tbl 31 f_law_rules := ⟨i.h31⟩
instance {tbl : Nat → Option FDef} [i : CD tbl] : Has tbl 32 f_law_pattern := ⟨i.h32⟩
section
variable {tbl : Nat → Option FDef} {sub : Nat → Nat → Bool} [T : CD tbl]
theorem l_stream (n : Nat) (ns : List Int) : ∃ s : St, call tbl sub (n + 1) 13 [.scr ns] = .ret s.o [] := by
  rw [call_has rfl]
  simp [f_law_stream]
  generalize hf : fors _ _ _ = s
  obtain ⟨_, ⟨m, c, h, rfl⟩, rfl⟩ := for_inv hf (fun env => ∃ (m : Int) (c : Option O), 0 ≤ m ∧ env = [some (O.scr ns), some (O.sh (D.int m)), c]) ⟨17, none, by decide, rfl⟩ (by
    rintro x _ _ ⟨m, c, h, rfl⟩
    have := Int.emod_nonneg (m * 48271 + x % 65521 + 1) (show (2147483647 : Int) ≠ 0 by omega)
    simp [loopF, i_mul, i_mod, this])
  simp [un1]
  obtain ⟨k, rfl⟩ := Int.eq_ofNat_of_zero_le h
  exact ⟨⟨ns, 0, 0, k⟩, rfl⟩
/-- the second half of a draw -/
theorem draw2 (n : Nat) (ns : List D) (c p x m : Int) (hc : 0 ≤ c) (h0 : 0 < m) (h1 : m < 1073741824) : ∃ v c' x' : Int, 0 ≤ v ∧ v < m ∧ 0 ≤ c' ∧ (x' = x ∨ 0 ≤ x') ∧ finI [true, false] (exes (call tbl sub n) (ioT tbl) sub (match f_law_draw.body with
    | .cons _ r => r
    | _ => .nil) [some (O.lst [.sh (.lst ns), .sh (.int c), .sh (.int p), .sh (.int x)]), some (.sh (.int m)), none]) = .ret (.sh (.int v)) [O.lst [.sh (.lst ns), .sh (.int c'), .sh (.int p), .sh (.int x')]] := by
  by_cases hz : c = 0
  · subst hz
    refine ⟨(((x * 48271 + 11) % 2147483647) / 97) % m, 0, (x * 48271 + 11) % 2147483647, Int.emod_nonneg _ (by omega), Int.emod_lt_of_pos _ h0, by omega, .inr (Int.emod_nonneg _ (by omega)), ?_⟩
    simp [f_law_draw, i_mul, i_mod, i_fdv, h0, h1]
  · refine ⟨c % m, c / m, x, Int.emod_nonneg _ (by omega), Int.emod_lt_of_pos _ h0, Int.ediv_nonneg hc (by omega), .inl rfl, ?_⟩
    simp [f_law_draw, i_mul, i_mod, i_fdv, h0, h1, hz]
theorem l_draw (n : Nat) (s : St) (m : Nat) (h0 : 0 < m) (h1 : m < 1073741824) : ∃ (v : Nat) (s' : St), v < m ∧ call tbl sub (n + 1) 14 [s.o, .sh (.int (m : Nat))] = .ret (.sh (.int (v : Nat))) [s'.o] := by
  rw [call_has rfl]
  have fin : ∀ c p : Nat, ∃ (v : Nat) (s' : St), v < m ∧ finI [true, false] (exes (call tbl sub n) (ioT tbl) sub (match f_law_draw.body with
    | .cons _ r => r
    | _ => .nil) [some (O.lst [.sh (.lst (s.ns.map D.int)), .sh (.int (c : Nat)), .sh (.int (p : Nat)), .sh (.int (s.mix : Nat))]), some (.sh (.int (m : Nat))), none]) = .ret (.sh (.int (v : Nat))) [s'.o] := by
    intro c p
    obtain ⟨v, c', x', g0, g1, g2, g3, e⟩ := draw2 (tbl := tbl) (sub := sub) n (s.ns.map D.int) c p s.mix m (by omega) (by omega) (by omega)
    obtain ⟨v, rfl⟩ := Int.eq_ofNat_of_zero_le g0
    obtain ⟨c', rfl⟩ := Int.eq_ofNat_of_zero_le g2
    obtain ⟨x', rfl⟩ := Int.eq_ofNat_of_zero_le (show 0 ≤ x' by omega)
    exact ⟨v, ⟨s.ns, c', p, x'⟩, by omega, e⟩
  rw [show f_law_draw.body = .cons (match f_law_draw.body with
    | .cons s _ => s
    | _ => .pass) (match f_law_draw.body with
    | .cons _ r => r
    | _ => .nil) from rfl, z_ssC]
  have k1 : ∃ c p : Nat, exe (call tbl sub n) (ioT tbl) sub (match f_law_draw.body with
    | .cons s _ => s
    | _ => .pass) (f_law_draw.start [s.o, .sh (.int (m : Nat))]) = .nx [some (O.lst [.sh (.lst (s.ns.map D.int)), .sh (.int (c : Nat)), .sh (.int (p : Nat)), .sh (.int (s.mix : Nat))]), some (.sh (.int (m : Nat))), none] := by
    by_cases hc : s.cur = 0
    · by_cases hp : s.pos < s.ns.length
      · refine ⟨(s.ns[s.pos]).natAbs, s.pos + 1, ?_⟩
        have := fun b env => sub_atL (b := b) (env := env) (xs := s.ns.map D.int) (k := s.pos) (x := .int s.ns[s.pos]) (by simp [hp])
        simp [f_law_draw, St.o, St.l, hc, hp, -List.map_map, this]
      · refine ⟨s.cur, s.pos, ?_⟩
        simp [f_law_draw, St.o, St.l, hc, hp, -List.map_map]
    · refine ⟨s.cur, s.pos, ?_⟩
      simp [f_law_draw, St.o, St.l, hc, -List.map_map]
  obtain ⟨c, p, e⟩ := k1
  rw [e]
  exact fin c p
theorem sub_any {b : Bool} {xs : List D} {k : Nat} {env : Env} (h : k < xs.length) : subO b (.sh (.lst xs)) (.int (k : Nat)) env = .ok (.sh xs[k]) env := sub_atL (by simp [h])
theorem l_pick (n : Nat) (s : St) (xs : List D) (h0 : 0 < xs.length) (h1 : xs.length < 1073741824) : ∃ (k : Nat) (h : k < xs.length) (s' : St), call tbl sub (n + 2) 15 [s.o, .sh (.lst xs)] = .ret (.sh xs[k]) [s'.o] := by
  obtain ⟨v, s', hv, e⟩ := l_draw (tbl := tbl) (sub := sub) n s xs.length h0 h1
  refine ⟨v, hv, s', ?_⟩
  rw [call_has rfl]
  simp [f_law_pick, e, puts, sub_any hv]
theorem l_pickQ (Q : D → Prop) (n : Nat) (s : St) (xs : List D) (h0 : 0 < xs.length) (h1 : xs.length < 1073741824) (hq : ∀ x ∈ xs, Q x) : ∃ (d : D) (s' : St), Q d ∧ call tbl sub (n + 2) 15 [s.o, .sh (.lst xs)] = .ret (.sh d) [s'.o] := by
  obtain ⟨k, h, s', e⟩ := l_pick (tbl := tbl) (sub := sub) n s xs h0 h1
  exact ⟨_, s', hq _ (List.getElem_mem h), e⟩
theorem l_pickM {α : Type} (f : α → D) (n : Nat) (s : St) (xs : List α) (h0 : 0 < xs.length) (h1 : xs.length < 1073741824) : ∃ (a : α) (s' : St), a ∈ xs ∧ call tbl sub (n + 2) 15 [s.o, .sh (.lst (xs.map f))] = .ret (.sh (f a)) [s'.o] := by
  obtain ⟨k, h, s', e⟩ := l_pick (tbl := tbl) (sub := sub) n s (xs.map f) (by simpa using h0) (by simpa using h1)
  rw [List.length_map] at h
  exact ⟨xs[k], s', List.getElem_mem h, by rw [e]; simp⟩
def poolS (cs : List Bool) (ins : List Nat) (w : Bool) : List Src := .mem :: (((List.range ins.length).filter fun i => gb cs (gn ins i)).map Src.inp ++ if w then [.wri, .wri] else [])
theorem l_pool (n : Nat) (cs : List Bool) (ins : List Nat) (w : Bool) (h : ∀ k ∈ ins, k < cs.length) (hl : ins.length ≤ 1000) : call tbl sub (n + 1) 28 [.sh (.tup (cs.map D.bl)), .sh (.tup (ins.map natD)), .sh (.bl w)] = .ret (.sh (.lst ((poolS cs ins w).map Src.d))) [] := by
  rw [call_has rfl]
  simp [f_law_pool, -List.map_map, rangeD, rg_ok (show (ins.length : Int) ≤ 16777216 by omega) (by omega)]
  generalize hf : turns _ _ _ _ = s
  have := turn_filter hf (fun i => gb cs (gn ins i)) (fun i => (Src.inp i).d) (by
    intro i hi
    have hi := List.mem_range.mp hi
    simp [turnF, ok_nat hi, ok_bl (h _ (getD_mem hi)), Src.d])
  subst this
  have hc : ((List.range ins.length).filter fun i => gb cs (gn ins i)).length ≤ 1000 := Nat.le_trans (List.length_filter_le _ _) (by simpa using hl)
  cases w <;> simp (disch := first | omega | (simp [cap] <;> omega) | fail) [-List.map_map, -List.map_append, v_addL, v_addT, i_mulR, mul_li, mul_ti, app_do, ext_do, ext_do2, ins_do, cut_to, cut_from, puts, poolS, Src.d, List.replicate] <;> simp [Src.d]
theorem l_draw3 (n : Nat) (s : St) (m : Int) (h0 : 0 < m) (h1 : m < 1073741824) : ∃ (v : Nat) (s' : St), (v : Int) < m ∧ call tbl sub (n + 1) 14 [s.o, .sh (.int m)] = .ret (.sh (.int (v : Nat))) [s'.o] := by
  obtain ⟨k, rfl⟩ := Int.eq_ofNat_of_zero_le (show 0 ≤ m by omega)
  obtain ⟨v, s', h, e⟩ := l_draw (tbl := tbl) (sub := sub) n s k (by omega) (by omega)
  exact ⟨v, s', by omega, e⟩
def srcOk (cs : List Bool) (ins : List Nat) (w : Bool) : Src → Prop
  | .mem => True
  | .wri => w = true
  | .own => False
  | .inp j => j < ins.length ∧ gb cs (gn ins j) = true
def tgtOk (cs : List Bool) (ins : List Nat) (w : Bool) (t : Tgt) : Prop := match t.2 with
  | none => gb cs t.1 = false
  | some s => gb cs t.1 = true ∧ srcOk cs ins w s
def letOk (cs : List Bool) (ins : List Nat) (w : Bool) (t : Tgt) : Prop := match t.2 with
  | none => gb cs t.1 = false
  | some s => gb cs t.1 = true ∧ (s = .own ∨ srcOk cs ins w s)
theorem n_src (s t : Src) : bin2 .ne s.d t.d = some (.sh (.bl (nt (decide (s = t))))) := by
  rw [v_ne (by have := src_depth s; omega), src_eq]
theorem nin_opt (s : Src) (l : List (Option Src)) : bin2 .nin s.d (.lst (l.map (optD Src.d))) = some (.sh (.bl (nt (decide (some s ∈ l))))) := by
  rw [v_ninL (by have := src_depth s; omega)]
  congr 4
  induction l with
  | nil => rfl
  | cons a l ih =>
    rw [List.map_cons, show anyEq s.d (optD Src.d a :: l.map (optD Src.d)) = (D.eqv (optD Src.d a) s.d || anyEq s.d (l.map (optD Src.d))) from rfl, ih]
    cases a with
    | none => cases s <;> simp [optD, Src.d, D.eqv]
    | some t =>
      rw [show optD Src.d (some t) = t.d from rfl, src_eq]
      by_cases h : t = s
      · simp [h]
      · simp [h, Ne.symm h]
theorem gt_left {xs ys : List Tgt} {j : Nat} (h : j < xs.length) : gt (xs ++ ys) j = gt xs j := by
  unfold gt
  rw [List.getD_eq_getElem?_getD, List.getD_eq_getElem?_getD, List.getElem?_append_left h]
theorem pool_ok {cs : List Bool} {ins : List Nat} {w : Bool} : ∀ s ∈ poolS cs ins w, srcOk cs ins w s := by
  intro s hs
  simp only [poolS, List.mem_cons, List.mem_append, List.mem_map, List.mem_filter, List.mem_range] at hs
  rcases hs with rfl | ⟨i, ⟨h1, h2⟩, rfl⟩ | hs
  · trivial
  · exact ⟨h1, h2⟩
  · cases w
    · simp at hs
    · simp at hs; subst hs; rfl
theorem pool_len {cs : List Bool} {ins : List Nat} {w : Bool} : 1 ≤ (poolS cs ins w).length ∧ (poolS cs ins w).length ≤ ins.length + 3 := by
  have h : ((List.range ins.length).filter fun i => gb cs (gn ins i)).length ≤ ins.length := Nat.le_trans (List.length_filter_le _ _) (by simp)
  cases w <;> simp [poolS] <;> omega
theorem srcOk_in {cs : List Bool} {ins : List Nat} {w : Bool} {s : Src} (h : srcOk cs ins w s) : s.okIn ins.length := by
  cases s with
  | mem => trivial
  | wri => trivial
  | own => exact h
  | inp j => exact h.1
theorem any_nt {α : Type} {f : α → Bool} {xs : List α} (h : ∀ x ∈ xs, f x = false) : nt (anyB f xs) = true := by
  have : xs.any f = false := List.any_eq_false.mpr fun x hx => by rw [h x hx]; simp
  show (!xs.any f) = true
  rw [this]; rfl
theorem mk_fit {cs : List Bool} {m : Mv} {w : Bool} (hw : m.w = w) (hm : srcOk cs m.ins w m.mem) (hr : ∀ s, m.rd = some s → srcOk cs m.ins w s ∧ s ≠ .wri) (ho : ∀ t ∈ m.outs, tgtOk cs m.ins w t)
    (hl : ∀ t ∈ m.ls, letOk cs m.ins w t) (h0 : gt m.ls 0 = (0, none)) (hown : ∀ j, (gt m.ls j).2 = some .own → gb cs j = true) (hwri : w = true → m.mem = .wri ∨ ∃ t ∈ m.outs ++ m.ls, t.2 = some .wri) : fitB cs m = true := by
  have hs : ∀ s ∈ fs m, s = .own ∨ srcOk cs m.ins w s := by
    intro s hs
    simp only [fs, srcO, List.mem_filterMap, List.mem_cons, List.mem_append, List.mem_map, id] at hs
    obtain ⟨o, h, rfl⟩ := hs
    rcases h with h | h | ⟨t, ht, e⟩ | ⟨t, ht, e⟩
    · cases h; exact .inr hm
    · exact .inr (hr s h.symm).1
    · have := ho t ht
      unfold tgtOk at this
      rw [e] at this
      exact .inr this.2
    · have := hl t ht
      unfold letOk at this
      rw [e] at this
      exact this.2
  have e1 : nt (anyB (fun s => nt (okB cs m s)) (fs m)) = true := any_nt fun s hs' => by
    cases s with
    | inp j => 
      rcases hs _ hs' with h | h
      · cases h
      · show (!gb cs (gn m.ins j)) = false
        rw [h.2]; rfl
    | _ => rfl
  have e2 : bq (hasS (fs m) .wri) m.w = true := by
    have : hasS (fs m) .wri = w := by
      unfold hasS
      cases w with
      | true =>
        rw [List.contains_iff_mem]
        simp only [fs, srcO, List.mem_filterMap, List.mem_cons, List.mem_append, List.mem_map, id]
        rcases hwri rfl with h | ⟨t, ht, e⟩
        · exact ⟨_, .inl rfl, by rw [h]⟩
        · rcases List.mem_append.mp ht with h | h
          · exact ⟨_, .inr (.inr (.inl ⟨t, h, rfl⟩)), e⟩
          · exact ⟨_, .inr (.inr (.inr ⟨t, h, rfl⟩)), e⟩
      | false =>
        rw [Bool.eq_false_iff]
        intro h
        rw [List.contains_iff_mem] at h
        rcases hs _ h with h | h
        · cases h
        · cases h
    rw [this, hw]
    show (w == w) = true
    simp
  have e3 : nt (anyB (kindB cs) (m.outs ++ m.ls)) = true := any_nt fun t ht => by
    unfold kindB
    rcases List.mem_append.mp ht with h | h
    · have := ho t h
      unfold tgtOk at this
      split at this
      · rename_i e; rw [e, this]; rfl
      · rename_i e; rw [e, this.1]; rfl
    · have := hl t h
      unfold letOk at this
      split at this
      · rename_i e; rw [e, this]; rfl
      · rename_i e; rw [e, this.1]; rfl
  have e4 : allB (ownB cs) m.ls.zipIdx = true := by
    refine List.all_eq_true.mpr fun p hp => ?_
    obtain ⟨t, j⟩ := p
    have h := List.mem_zipIdx hp
    unfold ownB isOwn
    by_cases e : t.2 = some .own
    · have hj : gt m.ls j = t := by
        unfold gt
        rw [List.getD_eq_getElem?_getD, List.getElem?_eq_getElem (by omega)]
        simpa using h.2.2.symm
      rw [hown j (by rw [hj]; exact e)]
      simp [e]
    · simp [e]
  unfold fitB
  rw [e1, e2, e3, e4, h0]
  rfl
theorem l_drawn_move (n : Nat) (s : St) (cs : List Bool) (hl : Nat) (h1 : 1 ≤ cs.length) (h6 : cs.length ≤ 6) (hh : 1 ≤ hl) (hh4 : hl ≤ 4) (h0 : gb cs 0 = false) : ∃ (m : Mv) (s' : St), m.Ok cs.length hl ∧ fitB cs m = true ∧
    call tbl sub (n + 3) 29 [s.o, .sh (.tup (cs.map D.bl)), .sh (natD hl)] = .ret (.sh m.d) [s'.o] := by
  rw [call_has rfl]
  simp [f_law_drawn_move, -List.map_map, rangeD, natD, rg_ok (show (hl : Int) ≤ 16777216 by omega) (by omega)]
  generalize hf : turns _ _ _ _ = t
  have := turn_map hf (fun i => natD i) (fun i hi => by simp [turnF, natD])
  subst this
  clear hf
  simp (disch := first | omega | (simp [cap] <;> omega) | fail) [-List.map_map, -List.map_append, v_addL, v_addT, i_mulR, mul_li, mul_ti, app_do, ext_do, ext_do2, ins_do, cut_to, cut_from, puts]
  obtain ⟨v1, s1, hv1, e1⟩ := l_draw3 (tbl := tbl) (sub := sub) (n + 1) s 3 (by omega) (by omega)
  simp (disch := first | omega | (simp [cap] <;> omega) | fail) [-List.map_map, -List.map_append, v_addL, v_addT, i_mulR, mul_li, mul_ti, app_do, ext_do, ext_do2, ins_do, cut_to, cut_from, puts, e1]
  generalize decide (v1 = 0) = w
  obtain ⟨v2, s2, hv2, e2⟩ := l_pickQ (tbl := tbl) (sub := sub) (fun d => ∃ k : Nat, d = .int (k : Nat) ∧ k ≤ 3) n s1 [D.int 0, D.int 1, D.int 1, D.int 1, D.int 2, D.int 2, D.int 3] (by decide) (by decide) (by simp; exact ⟨⟨0, by simp⟩, ⟨1, by simp⟩, ⟨2, by simp⟩, ⟨3, by simp⟩⟩)
  obtain ⟨k2, rfl, hk2⟩ := hv2
  simp (disch := first | omega | (simp [cap] <;> omega) | fail) [-List.map_map, -List.map_append, v_addL, v_addT, i_mulR, mul_li, mul_ti, app_do, ext_do, ext_do2, ins_do, cut_to, cut_from, puts, e2, rg_ok, rangeD]
  generalize hf : turns _ _ _ _ = t
  obtain ⟨ins, _, hil, hio, ⟨s3, rfl⟩, rfl⟩ := turn_invT hf (fun env => ∃ s : St, env = [some s.o, some (O.sh (D.tup (List.map D.bl cs))), some (O.sh (D.int hl)), some (O.sh (D.int cs.length)), some (O.sh (D.lst (D.non :: List.map (fun i => natD i) (List.range hl)))), some (O.sh (D.bl w)), none, none, none, none, none, none, none, none, none, none, none, none]) ⟨_, rfl⟩ natD (fun k => k < cs.length) (by
    rintro x _ _ ⟨s, rfl⟩
    obtain ⟨v, s', hv, e⟩ := l_draw3 (tbl := tbl) (sub := sub) (n + 1) s cs.length (by omega) (by omega)
    simp (disch := first | omega | (simp [cap] <;> omega) | fail) [-List.map_map, -List.map_append, v_addL, v_addT, i_mulR, mul_li, mul_ti, app_do, ext_do, ext_do2, ins_do, cut_to, cut_from, puts, turnF, e]
    exact ⟨⟨v, rfl, by omega⟩, s', rfl⟩)
  clear hf
  rw [List.length_range] at hil
  simp (disch := first | omega | (simp [cap] <;> omega) | fail) [-List.map_map, -List.map_append, v_addL, v_addT, i_mulR, mul_li, mul_ti, app_do, ext_do, ext_do2, ins_do, cut_to, cut_from, puts, l_pool (tbl := tbl) (sub := sub) (n + 1) cs ins w hio (by omega)]
  have hps := @pool_ok cs ins w
  have hpl := @pool_len cs ins w
  generalize poolS cs ins w = pool at hps hpl
  simp (disch := first | omega | (simp [cap] <;> omega) | fail) [-List.map_map, -List.map_append, v_addL, v_addT, i_mulR, mul_li, mul_ti, app_do, ext_do, ext_do2, ins_do, cut_to, cut_from, puts, show D.tup [D.str "memory"] = Src.mem.d from rfl]
  rw [show List.map Src.d pool ++ [Src.mem.d] = (pool ++ [Src.mem]).map Src.d by simp]
  obtain ⟨mem, s4, hmem, e4⟩ := l_pickM (tbl := tbl) (sub := sub) Src.d n s3 (pool ++ [Src.mem]) (by simp) (by simp; omega)
  simp (disch := first | omega | (simp [cap] <;> omega) | fail) [-List.map_map, -List.map_append, v_addL, v_addT, i_mulR, mul_li, mul_ti, app_do, ext_do, ext_do2, ins_do, cut_to, cut_from, puts, e4]
  obtain ⟨v5, s5, hv5, e5⟩ := l_pickQ (tbl := tbl) (sub := sub) (fun d => ∃ k : Nat, d = .int (k : Nat) ∧ k ≤ 3) n s4 [D.int ins.length, D.int ins.length, D.int ins.length, D.int 0, D.int 1, D.int 2, D.int 3] (by simp) (by simp) (by simp; exact ⟨⟨k2, by simp [hil]; omega⟩, ⟨0, by simp⟩, ⟨1, by simp⟩, ⟨2, by simp⟩, ⟨3, by simp⟩⟩)
  obtain ⟨k5, rfl, hk5⟩ := hv5
  simp (disch := first | omega | (simp [cap] <;> omega) | fail) [-List.map_map, -List.map_append, v_addL, v_addT, i_mulR, mul_li, mul_ti, app_do, ext_do, ext_do2, ins_do, cut_to, cut_from, puts, e5, rg_ok, rangeD]
  generalize hf : fors _ _ _ = t
  obtain ⟨P, hP⟩ : ∃ P : List Nat → Env → Prop, ∀ ys env, P ys env ↔ ∃ (outs : List Tgt) (s : St) (b1 b2 : Option O), outs.length = ys.length ∧ (∀ t ∈ outs, t.1 < cs.length ∧ tgtOk cs ins w t) ∧ env = [some s.o, some (O.sh (D.tup (List.map D.bl cs))), some (O.sh (D.int hl)), some (O.sh (D.int cs.length)), some (O.sh (D.lst (D.non :: List.map (fun i => natD i) (List.range hl)))), some (O.sh (D.bl w)), some (O.sh (D.tup (List.map natD ins))), some (O.sh (D.lst (List.map Src.d pool))), some (O.sh mem.d), some (own (outs.map tgtD)), b1, none, none, b2, none, none, none, none] := ⟨_, fun _ _ => Iff.rfl⟩
  obtain ⟨_, hp, rfl⟩ := for_acc hf P ((hP _ _).2 ⟨[], s5, none, none, rfl, (by simp), rfl⟩) (by
    intro ys x hpre _ hp
    obtain ⟨outs, s, b1, b2, hol, hoo, rfl⟩ := (hP _ _).1 hp
    have hlen := hpre.length_le
    simp at hlen
    obtain ⟨v, s', hv, e⟩ := l_draw3 (tbl := tbl) (sub := sub) (n + 1) s cs.length (by omega) (by omega)
    have hv' : v < cs.length := by omega
    simp (disch := first | omega | (simp [cap] <;> omega) | fail) [-List.map_map, -List.map_append, v_addL, v_addT, i_mulR, mul_li, mul_ti, app_do, ext_do, ext_do2, ins_do, cut_to, cut_from, puts, loopF, e, ok_bl hv']
    cases hb : gb cs v with
    | false =>
      simp (disch := first | omega | (simp [cap] <;> omega) | fail) [-List.map_map, -List.map_append, v_addL, v_addT, i_mulR, mul_li, mul_ti, app_do, ext_do, ext_do2, ins_do, cut_to, cut_from, puts]
      exact (hP _ _).2 ⟨outs ++ [(v, none)], s', _, _, by simp [hol], by simp; rintro a b (h | ⟨rfl, rfl⟩); exact hoo _ h; exact ⟨hv', by simp [tgtOk, hb]⟩, by simp [tgtD, optD, natD]; exact ⟨rfl, rfl⟩⟩
    | true =>
      obtain ⟨so, s'', hso, e'⟩ := l_pickM (tbl := tbl) (sub := sub) Src.d n s' pool (by omega) (by omega)
      simp (disch := first | omega | (simp [cap] <;> omega) | fail) [-List.map_map, -List.map_append, v_addL, v_addT, i_mulR, mul_li, mul_ti, app_do, ext_do, ext_do2, ins_do, cut_to, cut_from, puts, e']
      exact (hP _ _).2 ⟨outs ++ [(v, some so)], s'', _, _, by simp [hol], by simp; rintro a b (h | ⟨rfl, rfl⟩); exact hoo _ h; exact ⟨hv', by simp [tgtOk, hb, hps so hso]⟩, by simp [tgtD, optD, natD]; exact ⟨rfl, rfl⟩⟩)
  obtain ⟨outs, s6, b1, b2, hol, hoo, rfl⟩ := (hP _ _).1 hp
  clear hf hp hP P
  rw [List.length_range] at hol
  simp (disch := first | omega | (simp [cap] <;> omega) | fail) [-List.map_map, -List.map_append, v_addL, v_addT, i_mulR, mul_li, mul_ti, app_do, ext_do, ext_do2, ins_do, cut_to, cut_from, puts, rg_ok2, rangeD]
  generalize hf : fors _ _ _ = t
  obtain ⟨P, hP⟩ : ∃ P : List Nat → Env → Prop, ∀ ys env, P ys env ↔ ∃ (ls : List Tgt) (s : St) (b1 b2 b3 : Option O), ls.length = ys.length + 1 ∧ gt ls 0 = (0, none) ∧ (∀ t ∈ ls, t.1 < cs.length ∧ letOk cs ins w t) ∧ (∀ j, (gt ls j).2 = some .own → gb cs j = true) ∧ env = [some s.o, some (O.sh (D.tup (List.map D.bl cs))), some (O.sh (D.int hl)), some (O.sh (D.int cs.length)), some (O.sh (D.lst (D.non :: List.map (fun i => natD i) (List.range hl)))), some (O.sh (D.bl w)), some (O.sh (D.tup (List.map natD ins))), some (O.sh (D.lst (List.map Src.d pool))), some (O.sh mem.d), some (own (outs.map tgtD)), b1, some (own (ls.map tgtD)), none, b2, b3, none, none, none] := ⟨_, fun _ _ => Iff.rfl⟩
  obtain ⟨_, hp, rfl⟩ := for_acc hf P ((hP _ _).2 ⟨[(0, none)], s6, _, _, none, rfl, rfl, (by simp [letOk, h0]; omega), (by intro j; cases j <;> simp [gt]), rfl⟩) (by
    intro ys x hpre _ hp
    obtain ⟨ls, s, b1, b2, b3, hll, hl0, hls, hlo, rfl⟩ := (hP _ _).1 hp
    obtain ⟨hx, hlen⟩ := pre_range hpre
    have hk : 1 + x < cs.length := by omega
    obtain ⟨v, s', hv, e⟩ := l_draw3 (tbl := tbl) (sub := sub) (n + 1) s cs.length (by omega) (by omega)
    simp (disch := first | omega | (simp [cap] <;> omega) | fail) [-List.map_map, -List.map_append, v_addL, v_addT, i_mulR, mul_li, mul_ti, app_do, ext_do, ext_do2, ins_do, cut_to, cut_from, puts, loopF, e]
    obtain ⟨d, s2, hd, e⟩ := l_pickQ (tbl := tbl) (sub := sub) (fun d => ∃ k : Nat, d = .int (k : Nat) ∧ k < cs.length) n s' [D.int (1 + x), D.int (1 + x), D.int v] (by simp) (by simp) (by simp; exact ⟨⟨1 + x, by simp, by omega⟩, ⟨v, by simp, by omega⟩⟩)
    obtain ⟨k, rfl, hkk⟩ := hd
    simp (disch := first | omega | (simp [cap] <;> omega) | fail) [-List.map_map, -List.map_append, v_addL, v_addT, i_mulR, mul_li, mul_ti, app_do, ext_do, ext_do2, ins_do, cut_to, cut_from, puts, e, ok_bl hkk, show ∀ b env, subO b (.sh (.tup (cs.map D.bl))) (.int (1 + x)) env = .ok (.sh (.bl (gb cs (1 + x)))) env from fun b env => ok_bl hk]
    have fin : ∀ (so : Option Src) (s3 : St) (b3 : Option O), (match so with | none => gb cs k = false | some r => gb cs k = true ∧ (r ∈ pool ∨ (r = .own ∧ gb cs (1 + x) = true))) → P (ys ++ [x]) [some s3.o, some (O.sh (D.tup (List.map D.bl cs))), some (O.sh (D.int hl)), some (O.sh (D.int cs.length)), some (O.sh (D.lst (D.non :: List.map (fun i => natD i) (List.range hl)))), some (O.sh (D.bl w)), some (O.sh (D.tup (List.map natD ins))), some (O.sh (D.lst (List.map Src.d pool))), some (O.sh mem.d), some (own (outs.map tgtD)), some (O.sh (D.int (1 + x))), some (own (ls.map tgtD ++ [tgtD (k, so)])), none, some (O.sh (D.int k)), b3, none, none, none] := by
      intro so s3 b3 hso
      refine (hP _ _).2 ⟨ls ++ [(k, so)], s3, _, _, b3, by simp [hll], ?_, ?_, ?_, by rw [List.map_append]; rfl⟩
      · rw [gt_left (by omega)]
        exact hl0
      · intro t ht
        rcases List.mem_append.mp ht with h | h
        · exact hls t h
        · rw [List.mem_singleton.mp h]
          refine ⟨hkk, ?_⟩
          unfold letOk
          cases so with
          | none => exact hso
          | some r => exact ⟨hso.1, hso.2.elim (fun h => .inr (hps _ h)) fun h => .inl h.1⟩
      · intro j hj
        by_cases hjl : j < ls.length
        · rw [gt_left hjl] at hj
          exact hlo j hj
        · unfold gt at hj
          rw [List.getD_eq_getElem?_getD, List.getElem?_append_right (by omega)] at hj
          by_cases hj0 : j - ls.length = 0
          · rw [hj0] at hj
            have hso' : so = some .own := hj
            subst hso'
            rcases hso.2 with h | h
            · exact absurd (hps _ h) (by simp [srcOk])
            · rw [show j = 1 + x by omega]; exact h.2
          · rw [List.getElem?_eq_none (by simp; omega)] at hj
            simp at hj
    cases hk1 : gb cs k with
    | false =>
      simp (disch := first | omega | (simp [cap] <;> omega) | fail) [-List.map_map, -List.map_append, v_addL, v_addT, i_mulR, mul_li, mul_ti, app_do, ext_do, ext_do2, ins_do, cut_to, cut_from, puts]
      exact fin none s2 _ hk1
    | true =>
      cases hk2 : gb cs (1 + x) with
      | true =>
        simp (disch := first | omega | (simp [cap] <;> omega) | fail) [-List.map_map, -List.map_append, v_addL, v_addT, i_mulR, mul_li, mul_ti, app_do, ext_do, ext_do2, ins_do, cut_to, cut_from, puts, List.replicate]
        obtain ⟨so, s3, hso, e'⟩ := l_pickM (tbl := tbl) (sub := sub) Src.d n s2 ([.own, .own, .own] ++ pool.take 1) (by simp) (by simp; omega)
        rw [show List.map Src.d ([Src.own, Src.own, Src.own] ++ pool.take 1) = D.tup [D.str "own"] :: D.tup [D.str "own"] :: D.tup [D.str "own"] :: List.take 1 (List.map Src.d pool) by simp [Src.d, List.map_take]] at e'
        simp (disch := first | omega | (simp [cap] <;> omega) | fail) [-List.map_map, -List.map_append, v_addL, v_addT, i_mulR, mul_li, mul_ti, app_do, ext_do, ext_do2, ins_do, cut_to, cut_from, puts, e']
        refine fin (some so) s3 _ ⟨hk1, ?_⟩
        simp at hso
        rcases hso with h | h
        · exact .inr ⟨h, hk2⟩
        · exact .inl (List.mem_of_mem_take h)
      | false =>
        simp (disch := first | omega | (simp [cap] <;> omega) | fail) [-List.map_map, -List.map_append, v_addL, v_addT, i_mulR, mul_li, mul_ti, app_do, ext_do, ext_do2, ins_do, cut_to, cut_from, puts, List.replicate]
        obtain ⟨so, s3, hso, e'⟩ := l_pickM (tbl := tbl) (sub := sub) Src.d n s2 pool (by omega) (by omega)
        rw [← List.take_of_length_le (l := List.map Src.d pool) (i := pool.length + 1) (by simp)] at e'
        simp (disch := first | omega | (simp [cap] <;> omega) | fail) [-List.map_map, -List.map_append, v_addL, v_addT, i_mulR, mul_li, mul_ti, app_do, ext_do, ext_do2, ins_do, cut_to, cut_from, puts, e']
        exact fin (some so) s3 _ ⟨hk1, .inl hso⟩)
  obtain ⟨ls, s7, b3, b4, b5, hll, hl0, hls, hlo, rfl⟩ := (hP _ _).1 hp
  clear hf hp hP P
  rw [List.length_range] at hll
  simp (disch := first | omega | (simp [cap] <;> omega) | fail) [-List.map_map, -List.map_append, v_addL, v_addT, i_mulR, mul_li, mul_ti, app_do, ext_do, ext_do2, ins_do, cut_to, cut_from, puts]
  have fin2 : ∀ mem' : Src, srcOk cs ins w mem' → (w = true → mem' = .wri ∨ ∃ t ∈ outs ++ ls, t.2 = some .wri) → ∃ m : Mv, m.Ok cs.length hl ∧ fitB cs m = true ∧ ∃ x : St, finI [true, false, false] (exes (call tbl sub (n + 2)) (ioT tbl) sub (dropS 11 f_law_drawn_move.body) [some s7.o, some (O.sh (D.tup (List.map D.bl cs))), some (O.sh (D.int hl)), some (O.sh (D.int cs.length)),
      some (O.sh (D.lst (D.non :: List.map (fun i => natD i) (List.range hl)))), some (O.sh (D.bl w)), some (O.sh (D.tup (List.map natD ins))), some (O.sh (D.lst (List.map Src.d pool))), some (O.sh mem'.d), some (own (List.map tgtD outs)), b3, some (own (List.map tgtD ls)), none, b4, b5, none, none, none]) = .ret (.sh m.d) [x.o] := by
    intro mem' hm' hw'
    simp (disch := first | omega | (simp [cap] <;> omega) | fail) [-List.map_map, -List.map_append, v_addL, v_addT, i_mulR, mul_li, mul_ti, app_do, ext_do, ext_do2, ins_do, cut_to, cut_from, puts, dropS, f_law_drawn_move]
    generalize hf : turns _ _ _ _ = t
    have := turn_filterE hf (fun s => nt (decide (s = .wri))) Src.d (fun i hi => by
      simp (disch := first | omega | (simp [cap] <;> omega) | fail) [-List.map_map, -List.map_append, v_addL, v_addT, i_mulR, mul_li, mul_ti, app_do, ext_do, ext_do2, ins_do, cut_to, cut_from, puts, turnF, show D.tup [D.str "written"] = Src.wri.d from rfl, n_src]
      by_cases h : i = .wri <;> simp [h])
    subst this
    clear hf
    have hfl : (pool.filter fun s => nt (decide (s = Src.wri))).length ≤ pool.length := List.length_filter_le _ _
    simp (disch := first | omega | (simp [cap] <;> omega) | fail) [-List.map_map, -List.map_append, v_addL, v_addT, i_mulR, mul_li, mul_ti, app_do, ext_do, ext_do2, ins_do, cut_to, cut_from, puts]
    obtain ⟨rd, s8, hrd, e8⟩ := l_pickM (tbl := tbl) (sub := sub) (optD Src.d) n s7 (none :: none :: (pool.filter fun s => nt (decide (s = Src.wri))).map some) (by simp) (by simp; omega)
    rw [show (none :: none :: (pool.filter fun s => nt (decide (s = Src.wri))).map some).map (optD Src.d) = D.non :: D.non :: List.map Src.d (pool.filter fun s => nt (decide (s = Src.wri))) by rw [List.map_cons, List.map_cons, List.map_map]; rfl] at e8
    have hrd2 : ∀ s, rd = some s → s ∈ pool ∧ s ≠ .wri := by
      rintro s rfl
      simpa [nt] using hrd
    simp (disch := first | omega | (simp [cap] <;> omega) | fail) [-List.map_map, -List.map_append, v_addL, v_addT, i_mulR, mul_li, mul_ti, app_do, ext_do, ext_do2, ins_do, cut_to, cut_from, puts, e8]
    have hpl : ∀ s : St, ∃ (h : Option Nat) (s' : St), (∀ x ∈ h, x < hl) ∧ call tbl sub (n + 2) 15 [s.o, O.sh (D.lst (D.non :: List.map (fun i => natD i) (List.range hl)))] = .ret (.sh (optD natD h)) [s'.o] := by
      intro s
      obtain ⟨h, s', hh, e⟩ := l_pickM (tbl := tbl) (sub := sub) (optD natD) n s (none :: (List.range hl).map some) (by simp) (by simp; omega)
      rw [show (none :: (List.range hl).map some).map (optD natD) = D.non :: List.map (fun i => natD i) (List.range hl) by rw [List.map_cons, List.map_map]; rfl] at e
      refine ⟨h, s', ?_, e⟩
      rintro x rfl
      simpa using hh
    obtain ⟨hb, s9, hhb, e9⟩ := hpl s8
    simp (disch := first | omega | (simp [cap] <;> omega) | fail) [-List.map_map, -List.map_append, v_addL, v_addT, i_mulR, mul_li, mul_ti, app_do, ext_do, ext_do2, ins_do, cut_to, cut_from, puts, e9]
    obtain ⟨hc, s10, hhc, e10⟩ := hpl s9
    simp (disch := first | omega | (simp [cap] <;> omega) | fail) [-List.map_map, -List.map_append, v_addL, v_addT, i_mulR, mul_li, mul_ti, app_do, ext_do, ext_do2, ins_do, cut_to, cut_from, puts, e10]
    refine ⟨⟨hb, hc, w, mem', rd, ins, outs, ls⟩, ⟨hhb, hhc, srcOk_in hm', ?_, by simp; omega, by simp; omega, by simp; omega, hio, ?_, ?_⟩, mk_fit rfl hm' ?_ (fun t ht => (hoo t ht).2) (fun t ht => (hls t ht).2) hl0 hlo hw', rfl, s10, rfl⟩
    · intro s hs
      exact ⟨srcOk_in (hps s (hrd2 s hs).1), (hrd2 s hs).2⟩
    · intro t ht
      refine ⟨(hoo t ht).1, fun s hs => ?_⟩
      have := (hoo t ht).2
      unfold tgtOk at this
      rw [show t.2 = some s from hs] at this
      exact srcOk_in this.2
    · intro t ht
      refine ⟨(hls t ht).1, fun s hs => ?_⟩
      have := (hls t ht).2
      unfold letOk at this
      rw [show t.2 = some s from hs] at this
      exact this.2.elim .inl fun h => .inr (srcOk_in h)
    · intro s hs
      exact ⟨hps s (hrd2 s hs).1, (hrd2 s hs).2⟩
  change ∃ m, _ ∧ _ ∧ ∃ x, finI _ (thnS _ _ _ _ (dropS 11 f_law_drawn_move.body)) = _
  have hm0 : srcOk cs ins w mem := by
    rcases List.mem_append.mp hmem with h | h
    · exact hps _ h
    · rw [List.mem_singleton.mp h]; trivial
  cases w with
  | false =>
    simp (disch := first | omega | (simp [cap] <;> omega) | fail) [-List.map_map, -List.map_append, v_addL, v_addT, i_mulR, mul_li, mul_ti, app_do, ext_do, ext_do2, ins_do, cut_to, cut_from, puts]
    exact fin2 mem hm0 (by simp)
  | true =>
    simp (disch := first | omega | (simp [cap] <;> omega) | fail) [-List.map_map, -List.map_append, v_addL, v_addT, i_mulR, mul_li, mul_ti, app_do, ext_do, ext_do2, ins_do, cut_to, cut_from, puts, show D.tup [D.str "written"] = Src.wri.d from rfl, n_src]
    by_cases hmw : mem = .wri
    · subst hmw
      simp (disch := first | omega | (simp [cap] <;> omega) | fail) [-List.map_map, -List.map_append, v_addL, v_addT, i_mulR, mul_li, mul_ti, app_do, ext_do, ext_do2, ins_do, cut_to, cut_from, puts]
      exact fin2 .wri hm0 (fun _ => .inl rfl)
    · simp (disch := first | omega | (simp [cap] <;> omega) | fail) [-List.map_map, -List.map_append, v_addL, v_addT, i_mulR, mul_li, mul_ti, app_do, ext_do, ext_do2, ins_do, cut_to, cut_from, puts, hmw]
      rw [← List.map_append]
      generalize hf : turns _ _ _ _ = t
      have := turn_mapE hf (fun t => optD Src.d t.2) (fun i hi => by simp (disch := first | omega | (simp [cap] <;> omega) | fail) [-List.map_map, -List.map_append, v_addL, v_addT, i_mulR, mul_li, mul_ti, app_do, ext_do, ext_do2, ins_do, cut_to, cut_from, puts, turnF, tgtD])
      subst this
      rw [show List.map (fun t : Tgt => optD Src.d t.2) (outs ++ ls) = ((outs ++ ls).map (·.2)).map (optD Src.d) by rw [List.map_map]; rfl]
      clear hf
      simp (disch := first | omega | (simp [cap] <;> omega) | fail) [-List.map_map, -List.map_append, v_addL, v_addT, i_mulR, mul_li, mul_ti, app_do, ext_do, ext_do2, ins_do, cut_to, cut_from, puts, nin_opt]
      by_cases hin : some Src.wri ∈ (outs ++ ls).map (·.2)
      · simp (disch := first | omega | (simp [cap] <;> omega) | fail) [-List.map_map, -List.map_append, v_addL, v_addT, i_mulR, mul_li, mul_ti, app_do, ext_do, ext_do2, ins_do, cut_to, cut_from, puts, hin]
        obtain ⟨t, ht, e⟩ := List.mem_map.mp hin
        exact fin2 mem hm0 (fun _ => .inr ⟨t, ht, e⟩)
      · simp (disch := first | omega | (simp [cap] <;> omega) | fail) [-List.map_map, -List.map_append, v_addL, v_addT, i_mulR, mul_li, mul_ti, app_do, ext_do, ext_do2, ins_do, cut_to, cut_from, puts, hin]
        exact fin2 .wri rfl (fun _ => .inl rfl)
end
end Lw
set_option maxHeartbeats 400000
set_option linter.all false
namespace Lw
open Ev
/-! right rules are drawn -/
section
variable {tbl : Nat → Option FDef} {sub : Nat → Nat → Bool} [T : CD tbl]
def stayK : List Tgt := [(0, none), (1, some .own), (2, some .own)]
def knownM : List Mv := [
  ⟨some 0, some 0, false, .mem, none, [0], [(1, some .mem)], stayK⟩,
  ⟨none, some 1, true, .mem, none, [0], [(2, some .wri)], [(0, none), (0, none), (0, none)]⟩,
  ⟨some 1, some 1, true, .mem, none, [2], [(2, some .wri)], [(0, none), (0, none), (2, some .own)]⟩,
  ⟨some 1, some 0, false, .inp 0, none, [2], [(1, some (.inp 0))], stayK⟩,
  ⟨none, none, false, .mem, some (.inp 0), [1], [(1, some (.inp 0))], stayK⟩,
  ⟨some 0, some 0, false, .mem, some .mem, [], [], stayK⟩]
def knownR : Rls := ⟨[false, true, true], 2, knownM, [(none, [2, 2]), (some 0, [2]), (some 1, [1, 2])]⟩
theorem l_known (n : Nat) : call tbl sub (n + 1) 30 [] = .ret (.sh knownR.d) [] := by
  rw [call_has rfl]
  simp (disch := first | omega | (simp only [List.length_cons, List.length_nil, List.length_map, List.length_append, List.length_range, List.length_take, List.length_drop, cap]; omega) | (simp [cap] <;> omega) | fail) [-List.map_map, -List.map_append, -List.filter_append, v_addL, v_addT, i_mulR, mul_li, mul_ti, app_do, ext_do, ext_do2, ins_do, cut_to, cut_from, puts, f_law_known, knownR, knownM, stayK, Rls.d, Mv.d, Src.d, tgtD, natD, optD, patD]
theorem l_pattern (n : Nat) (s : St) (cs : List Bool) (hl : Nat) (h1 : 1 ≤ cs.length) (h6 : cs.length ≤ 6) (hh4 : hl ≤ 4) : ∃ (p : Pat) (s' : St), PatOk p cs.length hl ∧
    call tbl sub (n + 3) 32 [s.o, .sh (.tup (cs.map D.bl)), .sh (natD hl)] = .ret (.sh (patD p)) [s'.o] := by
  rw [call_has rfl]
  simp (disch := first | omega | (simp only [List.length_cons, List.length_nil, List.length_map, List.length_append, List.length_range, List.length_take, List.length_drop, cap]; omega) | (simp [cap] <;> omega) | fail) [-List.map_map, -List.map_append, -List.filter_append, v_addL, v_addT, i_mulR, mul_li, mul_ti, app_do, ext_do, ext_do2, ins_do, cut_to, cut_from, puts, f_law_pattern, natD, rg_ok, rangeD]
  generalize hf : turns _ _ _ _ = t
  have := turn_map hf (fun i => natD i) (fun i hi => by simp [turnF, natD])
  subst this
  clear hf
  simp (disch := first | omega | (simp only [List.length_cons, List.length_nil, List.length_map, List.length_append, List.length_range, List.length_take, List.length_drop, cap]; omega) | (simp [cap] <;> omega) | fail) [-List.map_map, -List.map_append, -List.filter_append, v_addL, v_addT, i_mulR, mul_li, mul_ti, app_do, ext_do, ext_do2, ins_do, cut_to, cut_from, puts]
  obtain ⟨hb, s1, hhb, e1⟩ := l_pickM (tbl := tbl) (sub := sub) (optD natD) n s (none :: (List.range hl).map some) (by simp) (by simp; omega)
  rw [show (none :: (List.range hl).map some).map (optD natD) = D.non :: List.map (fun i => natD i) (List.range hl) by rw [List.map_cons, List.map_map]; rfl] at e1
  simp (disch := first | omega | (simp only [List.length_cons, List.length_nil, List.length_map, List.length_append, List.length_range, List.length_take, List.length_drop, cap]; omega) | (simp [cap] <;> omega) | fail) [-List.map_map, -List.map_append, -List.filter_append, v_addL, v_addT, i_mulR, mul_li, mul_ti, app_do, ext_do, ext_do2, ins_do, cut_to, cut_from, puts, e1]
  obtain ⟨v2, s2, hv2, e2⟩ := l_draw3 (tbl := tbl) (sub := sub) (n + 1) s1 3 (by omega) (by omega)
  simp (disch := first | omega | (simp only [List.length_cons, List.length_nil, List.length_map, List.length_append, List.length_range, List.length_take, List.length_drop, cap]; omega) | (simp [cap] <;> omega) | fail) [-List.map_map, -List.map_append, -List.filter_append, v_addL, v_addT, i_mulR, mul_li, mul_ti, app_do, ext_do, ext_do2, ins_do, cut_to, cut_from, puts, e2, rg_ok, rangeD]
  generalize hf : turns _ _ _ _ = t
  obtain ⟨P, hP⟩ : ∃ P : Env → Prop, ∀ env, P env ↔ ∃ s : St, env = [some s.o, some (O.sh (D.tup (List.map D.bl cs))), some (O.sh (D.int hl)), some (.sh (optD natD hb)), none, none] := ⟨_, fun _ => Iff.rfl⟩
  obtain ⟨ks, _, hil, hio, hp, rfl⟩ := turn_invT hf P ((hP _).2 ⟨_, rfl⟩) natD (fun k => k < cs.length) (by
    intro x _ env hp
    obtain ⟨s, rfl⟩ := (hP _).1 hp
    obtain ⟨v, s', hv, e⟩ := l_draw3 (tbl := tbl) (sub := sub) (n + 1) s cs.length (by omega) (by omega)
    simp (disch := first | omega | (simp only [List.length_cons, List.length_nil, List.length_map, List.length_append, List.length_range, List.length_take, List.length_drop, cap]; omega) | (simp [cap] <;> omega) | fail) [-List.map_map, -List.map_append, -List.filter_append, v_addL, v_addT, i_mulR, mul_li, mul_ti, app_do, ext_do, ext_do2, ins_do, cut_to, cut_from, puts, turnF, e]
    exact ⟨⟨v, rfl, by omega⟩, (hP _).2 ⟨s', rfl⟩⟩)
  obtain ⟨s3, rfl⟩ := (hP _).1 hp
  clear hf hp hP P
  rw [List.length_range] at hil
  simp (disch := first | omega | (simp only [List.length_cons, List.length_nil, List.length_map, List.length_append, List.length_range, List.length_take, List.length_drop, cap]; omega) | (simp [cap] <;> omega) | fail) [-List.map_map, -List.map_append, -List.filter_append, v_addL, v_addT, i_mulR, mul_li, mul_ti, app_do, ext_do, ext_do2, ins_do, cut_to, cut_from, puts]
  refine ⟨hb, ks, ⟨?_, by simp; omega, by simp; omega, hio⟩, rfl, s3, rfl⟩
  rintro x hx
  have hx : hb = some x := hx
  subst hx
  simpa using hhb
omit T in
theorem known_ok : ∀ m ∈ knownM, m.Ok 3 2 ∧ fitB [false, true, true] m = true := by
  intro m hm
  simp only [knownM, List.mem_cons, List.mem_nil_iff, or_false] at hm
  rcases hm with rfl | rfl | rfl | rfl | rfl | rfl
  all_goals
    refine ⟨⟨by simp, by simp, by simp [Src.okIn], by simp [Src.okIn], by simp, by simp, by simp [stayK], by simp, by simp [Src.okIn], by simp [stayK, Src.okL, Src.okIn]⟩, by rfl⟩
/-- right rules, not large -/
structure Right (r : Rls) : Prop extends r.Ok where
  good : goodB r = true
  c4 : r.copies.length ≤ 4
  h3 : r.halls ≤ 3
  m7 : r.moves.length ≤ 12
  p3 : r.proms.length ≤ 4
theorem l_rules (n : Nat) (s : St) : ∃ (r : Rls) (s' : St), Right r ∧ call tbl sub (n + 4) 31 [s.o] = .ret (.sh r.d) [s'.o] := by
  rw [call_has rfl]
  simp (disch := first | omega | (simp only [List.length_cons, List.length_nil, List.length_map, List.length_append, List.length_range, List.length_take, List.length_drop, cap]; omega) | (simp [cap] <;> omega) | fail) [-List.map_map, -List.map_append, -List.filter_append, v_addL, v_addT, i_mulR, mul_li, mul_ti, app_do, ext_do, ext_do2, ins_do, cut_to, cut_from, puts, f_law_rules]
  obtain ⟨v1, s1, hv1, e1⟩ := l_draw3 (tbl := tbl) (sub := sub) (n + 2) s 2 (by omega) (by omega)
  simp (disch := first | omega | (simp only [List.length_cons, List.length_nil, List.length_map, List.length_append, List.length_range, List.length_take, List.length_drop, cap]; omega) | (simp [cap] <;> omega) | fail) [-List.map_map, -List.map_append, -List.filter_append, v_addL, v_addT, i_mulR, mul_li, mul_ti, app_do, ext_do, ext_do2, ins_do, cut_to, cut_from, puts, e1]
  by_cases h1 : v1 = 0
  · simp (disch := first | omega | (simp only [List.length_cons, List.length_nil, List.length_map, List.length_append, List.length_range, List.length_take, List.length_drop, cap]; omega) | (simp [cap] <;> omega) | fail) [-List.map_map, -List.map_append, -List.filter_append, v_addL, v_addT, i_mulR, mul_li, mul_ti, app_do, ext_do, ext_do2, ins_do, cut_to, cut_from, puts, h1, l_known (tbl := tbl) (sub := sub) (n + 2), Rls.d, knownR]
    generalize hf : turns _ _ _ _ = t
    obtain ⟨P, hP⟩ : ∃ P : Env → Prop, ∀ env, P env ↔ ∃ s : St, env = [some s.o, some (O.sh (.tup [.bl false, .bl true, .bl true])), some (O.sh (natD 2)), some (O.sh (.tup (knownM.map Mv.d))), some (O.sh (.tup [patD (none, [2, 2]), patD (some 0, [2]), patD (some 1, [1, 2])])), none, none] := ⟨_, fun _ => Iff.rfl⟩
    obtain ⟨ms, _, hsub, hp, rfl⟩ := turn_invFE hf P ((hP _).2 ⟨_, rfl⟩) Mv.d (by
      intro x _ env hp
      obtain ⟨s, rfl⟩ := (hP _).1 hp
      obtain ⟨v, s', hv, e⟩ := l_draw3 (tbl := tbl) (sub := sub) (n + 2) s 6 (by omega) (by omega)
      refine ⟨nt (decide (v = 0)), ?_⟩
      simp (disch := first | omega | (simp only [List.length_cons, List.length_nil, List.length_map, List.length_append, List.length_range, List.length_take, List.length_drop, cap]; omega) | (simp [cap] <;> omega) | fail) [-List.map_map, -List.map_append, -List.filter_append, v_addL, v_addT, i_mulR, mul_li, mul_ti, app_do, ext_do, ext_do2, ins_do, cut_to, cut_from, puts, turnF, e]
      by_cases hv0 : v = 0
      · simp [hv0]; exact (hP _).2 ⟨s', rfl⟩
      · simp [hv0]; exact (hP _).2 ⟨s', rfl⟩)
    obtain ⟨s2, rfl⟩ := (hP _).1 hp
    clear hf hp hP P
    have hml : ms.length ≤ 6 := hsub.length_le
    have hmo : ∀ m ∈ ms, m.Ok 3 2 ∧ fitB [false, true, true] m = true := fun m hm => known_ok m (hsub.mem hm)
    have fin : ∀ (ms : List Mv) (s : St), 1 ≤ ms.length → ms.length ≤ 7 → (∀ m ∈ ms, m.Ok 3 2 ∧ fitB [false, true, true] m = true) → ∃ r, Right r ∧ ∃ x : St, finI [true] (thnS (call tbl sub (n + 3)) (ioT tbl) sub (exes (call tbl sub (n + 3)) (ioT tbl) sub (Ss.cons
                  (S.ret (E.tup (Es.cons (E.var 1) (Es.cons (E.var 2) (Es.cons (E.un U1.tuple (E.var 3)) (Es.cons ((E.var 4).slice Es.nil (Es.cons (E.call 14 (Es.io 0 (Es.cons (E.lit (D.int 4)) Es.nil))) Es.nil)) Es.nil)))))) Ss.nil)
         [some s.o, some (O.sh (.tup [.bl false, .bl true, .bl true])), some (O.sh (natD 2)), some (own (ms.map Mv.d)), some (O.sh (.tup [patD (none, [2, 2]), patD (some 0, [2]), patD (some 1, [1, 2])])), none, none]) (dropS 1 f_law_rules.body)) = .ret (.sh r.d) [x.o] := by
      intro ms s hm1 hm7 hms
      obtain ⟨v, s', hv, e⟩ := l_draw3 (tbl := tbl) (sub := sub) (n + 2) s 4 (by omega) (by omega)
      simp (disch := first | omega | (simp only [List.length_cons, List.length_nil, List.length_map, List.length_append, List.length_range, List.length_take, List.length_drop, cap]; omega) | (simp [cap] <;> omega) | fail) [-List.map_map, -List.map_append, -List.filter_append, v_addL, v_addT, i_mulR, mul_li, mul_ti, app_do, ext_do, ext_do2, ins_do, cut_to, cut_from, puts, e]
      have hpk : ∀ p ∈ [(none, [2, 2]), (some 0, [2]), (some 1, [1, 2])].take v, PatOk p 3 2 := by
        intro p hp
        have hp := List.mem_of_mem_take hp
        simp only [List.mem_cons, List.mem_nil_iff, or_false] at hp
        rcases hp with rfl | rfl | rfl <;> refine ⟨?_, ?_, ?_, ?_⟩ <;> simp
      refine ⟨⟨[false, true, true], 2, ms, [(none, [2, 2]), (some 0, [2]), (some 1, [1, 2])].take v⟩, ⟨⟨by simp, by simp, by simp, by simp, hm1, Nat.le_trans hm7 (by decide), by simp; omega, fun m hm => (hms m hm).1, hpk⟩, ?_, by simp, by simp, Nat.le_trans hm7 (by decide), by simp; omega⟩, ?_, s', rfl⟩
      · show (!false && ms.all (fitB [false, true, true])) = true
        simp
        exact fun m hm => (hms m hm).2
      · simp [Rls.d]
    simp (disch := first | omega | (simp only [List.length_cons, List.length_nil, List.length_map, List.length_append, List.length_range, List.length_take, List.length_drop, cap]; omega) | (simp [cap] <;> omega) | fail) [-List.map_map, -List.map_append, -List.filter_append, v_addL, v_addT, i_mulR, mul_li, mul_ti, app_do, ext_do, ext_do2, ins_do, cut_to, cut_from, puts]
    generalize he : @ite (Out Bool) (ms = []) _ _ _ = x
    obtain ⟨b, s3, hb, hx⟩ : ∃ (b : Bool) (s3 : St), (ms = [] → b = true) ∧ x = .ok b [some s3.o, some (O.sh (.tup [.bl false, .bl true, .bl true])), some (O.sh (natD 2)), some (own (ms.map Mv.d)), some (O.sh (.tup [patD (none, [2, 2]), patD (some 0, [2]), patD (some 1, [1, 2])])), none, none] := by
      subst he
      by_cases hms : ms = []
      · exact ⟨true, s2, fun _ => rfl, by simp [hms]⟩
      · obtain ⟨v, s', hv, e⟩ := l_draw3 (tbl := tbl) (sub := sub) (n + 2) s2 2 (by omega) (by omega)
        exact ⟨decide (v = 0), s', fun h => absurd h hms, by simp (disch := first | omega | (simp only [List.length_cons, List.length_nil, List.length_map, List.length_append, List.length_range, List.length_take, List.length_drop, cap]; omega) | (simp [cap] <;> omega) | fail) [-List.map_map, -List.map_append, -List.filter_append, v_addL, v_addT, i_mulR, mul_li, mul_ti, app_do, ext_do, ext_do2, ins_do, cut_to, cut_from, puts, hms, e]⟩
    clear he
    subst hx
    change ∃ r, _ ∧ ∃ x, finI _ (thnS _ _ _ _ (dropS 1 f_law_rules.body)) = _
    cases b with
    | false =>
      rw [is_f, z_ssN, ts_nx]
      exact fin ms s3 (by cases ms with | nil => exact absurd (hb rfl) (by simp) | cons => simp) (by omega) hmo
    | true =>
      obtain ⟨v, s', hv, e⟩ := l_draw3 (tbl := tbl) (sub := sub) (n + 2) s3 (ms.length + 1) (by omega) (by omega)
      obtain ⟨m, s'', hmk, hmf, e'⟩ := l_drawn_move (tbl := tbl) (sub := sub) n s' [false, true, true] 2 (by simp) (by simp) (by omega) (by omega) (by rfl)
      have e' : call tbl sub (n + 3) 29 [s'.o, .sh (.tup [.bl false, .bl true, .bl true]), .sh (natD 2)] = .ret (.sh m.d) [s''.o] := e'
      have key : exes (call tbl sub (n + 3)) (ioT tbl) sub (Ss.cons (S.ins 3 (E.call 14 (Es.io 0 (Es.cons (E.bin B2.add (E.un U1.len (E.var 3)) (E.lit (D.int 1))) Es.nil))) (E.call 29 (Es.io 0 (Es.cons (E.var 1) (Es.cons (E.var 2) Es.nil))))) Ss.nil)
        [some s3.o, some (O.sh (.tup [.bl false, .bl true, .bl true])), some (O.sh (natD 2)), some (own (ms.map Mv.d)), some (O.sh (.tup [patD (none, [2, 2]), patD (some 0, [2]), patD (some 1, [1, 2])])), none, none] = .nx
        [some s''.o, some (O.sh (.tup [.bl false, .bl true, .bl true])), some (O.sh (natD 2)), some (own ((insAt ms v m).map Mv.d)), some (O.sh (.tup [patD (none, [2, 2]), patD (some 0, [2]), patD (some 1, [1, 2])])), none, none] := by
        simp (disch := first | omega | (simp only [List.length_cons, List.length_nil, List.length_map, List.length_append, List.length_range, List.length_take, List.length_drop, cap]; omega) | (simp [cap] <;> omega) | fail) [-List.map_map, -List.map_append, -List.filter_append, v_addL, v_addT, i_mulR, mul_li, mul_ti, app_do, ext_do, ext_do2, ins_do, cut_to, cut_from, puts, e, e']
        simp [insAt, List.map_take, List.map_drop]
      rw [is_t, key, ts_nx]
      refine fin _ s'' (by simp [insAt]; omega) (by simp [insAt]; omega) ?_
      intro m' hm'
      simp only [insAt, List.mem_append, List.mem_cons] at hm'
      rcases hm' with h | rfl | h
      · exact hmo m' (List.mem_of_mem_take h)
      · exact ⟨hmk, hmf⟩
      · exact hmo m' (List.mem_of_mem_drop h)
  · simp (disch := first | omega | (simp only [List.length_cons, List.length_nil, List.length_map, List.length_append, List.length_range, List.length_take, List.length_drop, cap]; omega) | (simp [cap] <;> omega) | fail) [-List.map_map, -List.map_append, -List.filter_append, v_addL, v_addT, i_mulR, mul_li, mul_ti, app_do, ext_do, ext_do2, ins_do, cut_to, cut_from, puts, h1]
    obtain ⟨v2, s2, hv2, e2⟩ := l_draw3 (tbl := tbl) (sub := sub) (n + 2) s1 4 (by omega) (by omega)
    simp (disch := first | omega | (simp only [List.length_cons, List.length_nil, List.length_map, List.length_append, List.length_range, List.length_take, List.length_drop, cap]; omega) | (simp [cap] <;> omega) | fail) [-List.map_map, -List.map_append, -List.filter_append, v_addL, v_addT, i_mulR, mul_li, mul_ti, app_do, ext_do, ext_do2, ins_do, cut_to, cut_from, puts, e2, rg_ok, rangeD]
    generalize hf : turns _ _ _ _ = t
    obtain ⟨P, hP⟩ : ∃ P : Env → Prop, ∀ env, P env ↔ ∃ s : St, env = [some s.o, none, none, none, none, none, none] := ⟨_, fun _ => Iff.rfl⟩
    obtain ⟨cs, _, hcl, _, hp, rfl⟩ := turn_invT hf P ((hP _).2 ⟨_, rfl⟩) D.bl (fun _ => True) (by
      intro x _ env hp
      obtain ⟨s, rfl⟩ := (hP _).1 hp
      obtain ⟨v, s', hv, e⟩ := l_draw3 (tbl := tbl) (sub := sub) (n + 2) s 3 (by omega) (by omega)
      simp (disch := first | omega | (simp only [List.length_cons, List.length_nil, List.length_map, List.length_append, List.length_range, List.length_take, List.length_drop, cap]; omega) | (simp [cap] <;> omega) | fail) [-List.map_map, -List.map_append, -List.filter_append, v_addL, v_addT, i_mulR, mul_li, mul_ti, app_do, ext_do, ext_do2, ins_do, cut_to, cut_from, puts, turnF, e]
      exact (hP _).2 ⟨s', rfl⟩)
    obtain ⟨s3, rfl⟩ := (hP _).1 hp
    clear hf hp hP P
    rw [List.length_range] at hcl
    simp (disch := first | omega | (simp only [List.length_cons, List.length_nil, List.length_map, List.length_append, List.length_range, List.length_take, List.length_drop, cap]; omega) | (simp [cap] <;> omega) | fail) [-List.map_map, -List.map_append, -List.filter_append, v_addL, v_addT, i_mulR, mul_li, mul_ti, app_do, ext_do, ext_do2, ins_do, cut_to, cut_from, puts]
    have hcs : D.bl false :: List.map D.bl cs = (false :: cs).map D.bl := rfl
    rw [hcs]
    generalize hcc : false :: cs = cc
    have hc1 : 1 ≤ cc.length := by rw [← hcc]; simp
    have hc4 : cc.length ≤ 4 := by rw [← hcc]; simp; omega
    have hc0 : gb cc 0 = false := by rw [← hcc]; rfl
    clear hcs hcc
    obtain ⟨v4, s4, hv4, e4⟩ := l_draw3 (tbl := tbl) (sub := sub) (n + 2) s3 3 (by omega) (by omega)
    simp (disch := first | omega | (simp only [List.length_cons, List.length_nil, List.length_map, List.length_append, List.length_range, List.length_take, List.length_drop, cap]; omega) | (simp [cap] <;> omega) | fail) [-List.map_map, -List.map_append, -List.filter_append, v_addL, v_addT, i_mulR, mul_li, mul_ti, app_do, ext_do, ext_do2, ins_do, cut_to, cut_from, puts, e4]
    obtain ⟨hl, hhl, hl1, hl3⟩ : ∃ h : Nat, (1 : Int) + v4 = h ∧ 1 ≤ h ∧ h ≤ 3 := ⟨1 + v4, by omega, by omega, by omega⟩
    rw [hhl]
    obtain ⟨v5, s5, hv5, e5⟩ := l_draw3 (tbl := tbl) (sub := sub) (n + 2) s4 5 (by omega) (by omega)
    simp (disch := first | omega | (simp only [List.length_cons, List.length_nil, List.length_map, List.length_append, List.length_range, List.length_take, List.length_drop, cap]; omega) | (simp [cap] <;> omega) | fail) [-List.map_map, -List.map_append, -List.filter_append, v_addL, v_addT, i_mulR, mul_li, mul_ti, app_do, ext_do, ext_do2, ins_do, cut_to, cut_from, puts, e5, rg_ok, rangeD]
    generalize hf : turns _ _ _ _ = t
    obtain ⟨P, hP⟩ : ∃ P : Env → Prop, ∀ env, P env ↔ ∃ s : St, env = [some s.o, some (.sh (.tup (cc.map D.bl))), some (.sh (natD hl)), none, none, none, none] := ⟨_, fun _ => Iff.rfl⟩
    obtain ⟨ms, _, hml, hmo, hp, rfl⟩ := turn_invT hf P ((hP _).2 ⟨_, rfl⟩) Mv.d (fun m => m.Ok cc.length hl ∧ fitB cc m = true) (by
      intro x _ env hp
      obtain ⟨s, rfl⟩ := (hP _).1 hp
      obtain ⟨m, s', h1, h2, e⟩ := l_drawn_move (tbl := tbl) (sub := sub) n s cc hl hc1 (by omega) hl1 (by omega) hc0
      simp (disch := first | omega | (simp only [List.length_cons, List.length_nil, List.length_map, List.length_append, List.length_range, List.length_take, List.length_drop, cap]; omega) | (simp [cap] <;> omega) | fail) [-List.map_map, -List.map_append, -List.filter_append, v_addL, v_addT, i_mulR, mul_li, mul_ti, app_do, ext_do, ext_do2, ins_do, cut_to, cut_from, puts, turnF, e]
      exact ⟨⟨m, rfl, h1, h2⟩, (hP _).2 ⟨s', rfl⟩⟩)
    obtain ⟨s6, rfl⟩ := (hP _).1 hp
    clear hf hp hP P
    rw [List.length_range] at hml
    simp (disch := first | omega | (simp only [List.length_cons, List.length_nil, List.length_map, List.length_append, List.length_range, List.length_take, List.length_drop, cap]; omega) | (simp [cap] <;> omega) | fail) [-List.map_map, -List.map_append, -List.filter_append, v_addL, v_addT, i_mulR, mul_li, mul_ti, app_do, ext_do, ext_do2, ins_do, cut_to, cut_from, puts]
    obtain ⟨v7, s7, hv7, e7⟩ := l_draw3 (tbl := tbl) (sub := sub) (n + 2) s6 3 (by omega) (by omega)
    simp (disch := first | omega | (simp only [List.length_cons, List.length_nil, List.length_map, List.length_append, List.length_range, List.length_take, List.length_drop, cap]; omega) | (simp [cap] <;> omega) | fail) [-List.map_map, -List.map_append, -List.filter_append, v_addL, v_addT, i_mulR, mul_li, mul_ti, app_do, ext_do, ext_do2, ins_do, cut_to, cut_from, puts, e7, rg_ok, rangeD]
    generalize hf : turns _ _ _ _ = t
    obtain ⟨P, hP⟩ : ∃ P : Env → Prop, ∀ env, P env ↔ ∃ s : St, env = [some s.o, some (.sh (.tup (cc.map D.bl))), some (.sh (natD hl)), some (.sh (.tup (ms.map Mv.d))), none, none, none] := ⟨_, fun _ => Iff.rfl⟩
    obtain ⟨ps, _, hpl, hpo, hp, rfl⟩ := turn_invT hf P ((hP _).2 ⟨_, rfl⟩) patD (fun p => PatOk p cc.length hl) (by
      intro x _ env hp
      obtain ⟨s, rfl⟩ := (hP _).1 hp
      obtain ⟨p, s', h1, e⟩ := l_pattern (tbl := tbl) (sub := sub) n s cc hl hc1 (by omega) (by omega)
      simp (disch := first | omega | (simp only [List.length_cons, List.length_nil, List.length_map, List.length_append, List.length_range, List.length_take, List.length_drop, cap]; omega) | (simp [cap] <;> omega) | fail) [-List.map_map, -List.map_append, -List.filter_append, v_addL, v_addT, i_mulR, mul_li, mul_ti, app_do, ext_do, ext_do2, ins_do, cut_to, cut_from, puts, turnF, e]
      exact ⟨⟨p.1, p.2, rfl, h1⟩, (hP _).2 ⟨s', rfl⟩⟩)
    obtain ⟨s8, rfl⟩ := (hP _).1 hp
    clear hf hp hP P
    rw [List.length_range] at hpl
    simp (disch := first | omega | (simp only [List.length_cons, List.length_nil, List.length_map, List.length_append, List.length_range, List.length_take, List.length_drop, cap]; omega) | (simp [cap] <;> omega) | fail) [-List.map_map, -List.map_append, -List.filter_append, v_addL, v_addT, i_mulR, mul_li, mul_ti, app_do, ext_do, ext_do2, ins_do, cut_to, cut_from, puts]
    refine ⟨⟨cc, hl, ms, ps⟩, ⟨⟨hc1, by simp; omega, hl1, by simp; omega, by simp; omega, by simp; omega, by simp; omega, fun m hm => (hmo m hm).1, hpo⟩, ?_, hc4, hl3, by simp; omega, by simp; omega⟩, rfl, s8, rfl⟩
    show (!gb cc 0 && ms.all (fitB cc)) = true
    rw [hc0]
    simp
    exact fun m hm => (hmo m hm).2
end
end Lw
set_option maxHeartbeats 400000
set_option linter.all false
namespace Ev
mutual
/-- how long lists and tuples are at most in it -/
def D.wid : D → Nat
  | .lst xs => max xs.length (D.wids xs)
  | .tup xs => max xs.length (D.wids xs)
  | _ => 0
def D.wids : List D → Nat
  | [] => 0
  | x :: xs => max x.wid (D.wids xs)
end
theorem wids_le {w : Nat} : ∀ {xs : List D}, D.wids xs ≤ w ↔ ∀ x ∈ xs, x.wid ≤ w
  | [] => by simp [D.wids]
  | x :: xs => by
    have := wids_le (w := w) (xs := xs)
    simp only [D.wids, List.mem_cons, forall_eq_or_imp, ← this]
    omega
theorem depths_le {w : Nat} : ∀ {xs : List D}, D.depths xs ≤ w ↔ ∀ x ∈ xs, x.depth ≤ w
  | [] => by simp [D.depths]
  | x :: xs => by
    have := depths_le (w := w) (xs := xs)
    simp only [D.depths, List.mem_cons, forall_eq_or_imp, ← this]
    omega
/-- a value that is not too large -/
structure Wd (w d : Nat) (v : D) : Prop where
  wd : v.wid ≤ w
  dp : v.depth ≤ d
theorem wd_tup {w d : Nat} {xs : List D} : Wd w (d + 1) (.tup xs) ↔ xs.length ≤ w ∧ ∀ x ∈ xs, Wd w d x := by
  constructor
  · rintro ⟨h1, h2⟩
    simp only [D.wid, D.depth] at h1 h2
    have h3 := (wids_le (w := w) (xs := xs)).mp (by omega)
    have h4 := (depths_le (w := d) (xs := xs)).mp (by omega)
    exact ⟨by omega, fun x hx => ⟨h3 x hx, h4 x hx⟩⟩
  · rintro ⟨h1, h2⟩
    have h3 := (wids_le (w := w) (xs := xs)).mpr fun x hx => (h2 x hx).wd
    have h4 := (depths_le (w := d) (xs := xs)).mpr fun x hx => (h2 x hx).dp
    exact ⟨by simp only [D.wid]; omega, by simp only [D.depth]; omega⟩
theorem wd_lst {w d : Nat} {xs : List D} : Wd w (d + 1) (.lst xs) ↔ xs.length ≤ w ∧ ∀ x ∈ xs, Wd w d x := by
  constructor
  · rintro ⟨h1, h2⟩
    simp only [D.wid, D.depth] at h1 h2
    have h3 := (wids_le (w := w) (xs := xs)).mp (by omega)
    have h4 := (depths_le (w := d) (xs := xs)).mp (by omega)
    exact ⟨by omega, fun x hx => ⟨h3 x hx, h4 x hx⟩⟩
  · rintro ⟨h1, h2⟩
    have h3 := (wids_le (w := w) (xs := xs)).mpr fun x hx => (h2 x hx).wd
    have h4 := (depths_le (w := d) (xs := xs)).mpr fun x hx => (h2 x hx).dp
    exact ⟨by simp only [D.wid]; omega, by simp only [D.depth]; omega⟩
theorem Wd.mono {w d w' d' : Nat} {v : D} (h : Wd w d v) (h1 : w ≤ w') (h2 : d ≤ d') : Wd w' d' v := ⟨Nat.le_trans h.wd h1, Nat.le_trans h.dp h2⟩
theorem sub_ownQ {b : Bool} {env : Env} {ds : List D} {k : Nat} (h : k < ds.length) : ∃ d ∈ ds, subO b (own ds) (.int (k : Nat)) env = .ok (.sh d) env := by
  refine ⟨ds[k], List.getElem_mem h, ?_⟩
  unfold subO item own
  have h2 : ixN (ds.map O.sh).length (k : Int) = some k := ix_at2 (by simpa using h)
  simp only [h2, Option.bind_some, List.getElem?_map, List.getElem?_eq_getElem h, Option.map_some]
theorem sub_lstQ {b : Bool} {env : Env} {ds : List D} {k : Nat} (h : k < ds.length) : ∃ d ∈ ds, subO b (.sh (.lst ds)) (.int (k : Nat)) env = .ok (.sh d) env := ⟨ds[k], List.getElem_mem h, sub_atL (by simp [h])⟩
end Ev
namespace Lw
open Ev
class CS (tbl : Nat → Option FDef) : Prop extends CD tbl where
  h19 : tbl 19 = some f_law_spoilt
instance {tbl : Nat → Option FDef} [i : CS tbl] : Has tbl 19 f_law_spoilt := ⟨i.h19⟩
section
variable {tbl : Nat → Option FDef} {sub : Nat → Nat → Bool} [T : CS tbl]
theorem l_spoilt0 (n w d : Nat) (hw : 1 ≤ w) (v : D) (s : St) (hn : isTu v = false) : ∃ (v' : D) (s' : St), Wd (w + 1) (d + 1) v' ∧ call tbl sub (n + 2) 19 [s.o, .sh v] = .ret (.sh v') [s'.o] := by
  rw [call_has rfl]
  obtain ⟨v1, s1, hv1, e1⟩ := l_draw3 (tbl := tbl) (sub := sub) n s 10 (by omega) (by omega)
  have h10 : v1 < 10 := by omega
  cases v with
  | tup xs => simp [isTu] at hn
  | int i =>
    obtain ⟨x, hx, e⟩ := sub_ownQ (b := false) (env := [some s1.o, some (O.sh (D.int i)), some (O.sh (D.int v1)), none, none]) (ds := [D.int (i + 1), D.int (i - 1), D.int 0, D.int 1, D.int 2, D.int (i + 1), D.bl true, D.int (-1), D.non, D.str "in"]) (k := v1) (by simpa using h10)
    simp (disch := first | omega | (simp only [List.length_cons, List.length_nil, List.length_map, List.length_append, List.length_range, List.length_take, List.length_drop, cap]; omega) | (simp [cap] <;> omega) | fail) [-List.map_map, -List.map_append, -List.filter_append, v_addL, v_addT, i_mulR, mul_li, mul_ti, app_do, ext_do, ext_do2, ins_do, cut_to, cut_from, puts, f_law_spoilt, isTu, isBo, isNum, isSt, e1, e]
    have hq : ∀ x ∈ [D.int (i + 1), D.int (i - 1), D.int 0, D.int 1, D.int 2, D.int (i + 1), D.bl true, D.int (-1), D.non, D.str "in"], x.wid ≤ 2 ∧ x.depth ≤ 1 := by simp [D.wid, D.depth, D.wids, D.depths]
    exact ⟨x, ⟨Nat.le_trans (hq x hx).1 (by omega), Nat.le_trans (hq x hx).2 (by omega)⟩, rfl, s1, rfl⟩
  | bl i =>
    obtain ⟨x, hx, e⟩ := sub_ownQ (b := false) (env := [some s1.o, some (O.sh (D.bl i)), some (O.sh (D.int v1)), none, none]) (ds := [D.bl (nt i), D.bl (nt i), D.bl (nt i), D.bl (nt i), D.bl (nt i), D.bl (nt i), D.int 0, D.int 1, D.non, D.str "a"]) (k := v1) (by simpa using h10)
    simp (disch := first | omega | (simp only [List.length_cons, List.length_nil, List.length_map, List.length_append, List.length_range, List.length_take, List.length_drop, cap]; omega) | (simp [cap] <;> omega) | fail) [-List.map_map, -List.map_append, -List.filter_append, v_addL, v_addT, i_mulR, mul_li, mul_ti, app_do, ext_do, ext_do2, ins_do, cut_to, cut_from, puts, f_law_spoilt, isTu, isBo, isNum, isSt, e1, e]
    have hq : ∀ x ∈ [D.bl (nt i), D.bl (nt i), D.bl (nt i), D.bl (nt i), D.bl (nt i), D.bl (nt i), D.int 0, D.int 1, D.non, D.str "a"], x.wid ≤ 2 ∧ x.depth ≤ 1 := by simp [D.wid, D.depth, D.wids, D.depths]
    exact ⟨x, ⟨Nat.le_trans (hq x hx).1 (by omega), Nat.le_trans (hq x hx).2 (by omega)⟩, rfl, s1, rfl⟩
  | str i =>
    obtain ⟨x, hx, e⟩ := sub_ownQ (b := false) (env := [some s1.o, some (O.sh (D.str i)), some (O.sh (D.int v1)), none, none]) (ds := [D.str "memory", D.str "written", D.str "in", D.str "own", D.str "memory", D.str "written", D.str "own", D.str "", D.int 0, D.non]) (k := v1) (by simpa using h10)
    simp (disch := first | omega | (simp only [List.length_cons, List.length_nil, List.length_map, List.length_append, List.length_range, List.length_take, List.length_drop, cap]; omega) | (simp [cap] <;> omega) | fail) [-List.map_map, -List.map_append, -List.filter_append, v_addL, v_addT, i_mulR, mul_li, mul_ti, app_do, ext_do, ext_do2, ins_do, cut_to, cut_from, puts, f_law_spoilt, isTu, isBo, isNum, isSt, e1, e]
    have hq : ∀ x ∈ [D.str "memory", D.str "written", D.str "in", D.str "own", D.str "memory", D.str "written", D.str "own", D.str "", D.int 0, D.non], x.wid ≤ 2 ∧ x.depth ≤ 1 := by simp [D.wid, D.depth, D.wids, D.depths]
    exact ⟨x, ⟨Nat.le_trans (hq x hx).1 (by omega), Nat.le_trans (hq x hx).2 (by omega)⟩, rfl, s1, rfl⟩
  | non =>
    obtain ⟨x, hx, e⟩ := sub_ownQ (b := false) (env := [some s1.o, some (O.sh D.non), some (O.sh (D.int v1)), none, none]) (ds := [D.int 0, D.int 1, D.tup [D.str "memory"], D.tup [D.str "in", D.int 0], D.tup [D.str "own"], D.tup [D.str "written"], D.bl false, D.tup [], D.str "a", D.tup [D.str "in", D.int 1]]) (k := v1) (by simpa using h10)
    simp (disch := first | omega | (simp only [List.length_cons, List.length_nil, List.length_map, List.length_append, List.length_range, List.length_take, List.length_drop, cap]; omega) | (simp [cap] <;> omega) | fail) [-List.map_map, -List.map_append, -List.filter_append, v_addL, v_addT, i_mulR, mul_li, mul_ti, app_do, ext_do, ext_do2, ins_do, cut_to, cut_from, puts, f_law_spoilt, isTu, isBo, isNum, isSt, e1, e]
    have hq : ∀ x ∈ [D.int 0, D.int 1, D.tup [D.str "memory"], D.tup [D.str "in", D.int 0], D.tup [D.str "own"], D.tup [D.str "written"], D.bl false, D.tup [], D.str "a", D.tup [D.str "in", D.int 1]], x.wid ≤ 2 ∧ x.depth ≤ 1 := by simp [D.wid, D.depth, D.wids, D.depths]
    exact ⟨x, ⟨Nat.le_trans (hq x hx).1 (by omega), Nat.le_trans (hq x hx).2 (by omega)⟩, rfl, s1, rfl⟩
  | lst xs =>
    obtain ⟨x, hx, e⟩ := sub_ownQ (b := false) (env := [some s1.o, some (O.sh (D.lst xs)), some (O.sh (D.int v1)), none, none]) (ds := [D.int 0, D.int 1, D.tup [D.str "memory"], D.tup [D.str "in", D.int 0], D.tup [D.str "own"], D.tup [D.str "written"], D.bl false, D.tup [], D.str "a", D.tup [D.str "in", D.int 1]]) (k := v1) (by simpa using h10)
    simp (disch := first | omega | (simp only [List.length_cons, List.length_nil, List.length_map, List.length_append, List.length_range, List.length_take, List.length_drop, cap]; omega) | (simp [cap] <;> omega) | fail) [-List.map_map, -List.map_append, -List.filter_append, v_addL, v_addT, i_mulR, mul_li, mul_ti, app_do, ext_do, ext_do2, ins_do, cut_to, cut_from, puts, f_law_spoilt, isTu, isBo, isNum, isSt, e1, e]
    have hq : ∀ x ∈ [D.int 0, D.int 1, D.tup [D.str "memory"], D.tup [D.str "in", D.int 0], D.tup [D.str "own"], D.tup [D.str "written"], D.bl false, D.tup [], D.str "a", D.tup [D.str "in", D.int 1]], x.wid ≤ 2 ∧ x.depth ≤ 1 := by simp [D.wid, D.depth, D.wids, D.depths]
    exact ⟨x, ⟨Nat.le_trans (hq x hx).1 (by omega), Nat.le_trans (hq x hx).2 (by omega)⟩, rfl, s1, rfl⟩
theorem wd_take {w d k : Nat} {xs : List D} (h : Wd w d (.tup xs)) : Wd w d (.tup (xs.take k)) := by
  cases d with
  | zero => exact absurd h.dp (by simp [D.depth])
  | succ d =>
    rw [wd_tup] at h ⊢
    exact ⟨by simp; omega, fun x hx => h.2 x (List.mem_of_mem_take hx)⟩
/-- where the tuple itself is changed -/
theorem l_spoiltT (n w d : Nat) (hw : 1 ≤ w) (hw2 : w ≤ 10000) (xs : List D) (s : St) (hv : Wd w (d + 1) (.tup xs)) : ∃ (v' : D) (s' : St), Wd (w + 1) (d + 1) v' ∧ finI [true, false] (exes (call tbl sub (n + 1)) (ioT tbl) sub (dropS 1 f_law_spoilt.body) [some s.o, some (.sh (.tup xs)), none, none, none]) = .ret (.sh v') [s'.o] := by
  obtain ⟨v1, s1, hv1, e1⟩ := l_draw3 (tbl := tbl) (sub := sub) n s 10 (by omega) (by omega)
  have h10 : v1 < 10 := by omega
  have ⟨hl, hx⟩ := wd_tup.mp hv
  obtain ⟨k, hk, e⟩ := sub_ownQ (b := true) (env := [some s1.o, some (.sh (.tup xs)), some (.sh (.int v1)), none, some (.sh (.lst [.tup (xs.take (max 0 ((xs.length : Int) - 1)).toNat), .tup (xs ++ xs.take 1), .tup (xs.tail ++ xs.take 1), .lst xs, .tup [], .non]))]) (ds := [D.int 0, D.int 0, D.int 1, D.int 1, D.int 1, D.int 2, D.int 2, D.int 3, D.int 4, D.int 5]) (k := v1) (by simpa using h10)
  have hq : ∀ x ∈ [D.int 0, D.int 0, D.int 1, D.int 1, D.int 1, D.int 2, D.int 2, D.int 3, D.int 4, D.int 5], ∃ j : Nat, x = .int (j : Nat) ∧ j < 6 := by
    simp only [List.mem_cons, List.mem_nil_iff, or_false, forall_eq_or_imp, forall_eq]
    exact ⟨⟨0, rfl, by omega⟩, ⟨0, rfl, by omega⟩, ⟨1, rfl, by omega⟩, ⟨1, rfl, by omega⟩, ⟨1, rfl, by omega⟩, ⟨2, rfl, by omega⟩, ⟨2, rfl, by omega⟩, ⟨3, rfl, by omega⟩, ⟨4, rfl, by omega⟩, ⟨5, rfl, by omega⟩⟩
  obtain ⟨j, rfl, hj⟩ := hq k hk
  obtain ⟨x, hx2, e2⟩ := sub_lstQ (b := false) (env := [some s1.o, some (.sh (.tup xs)), some (.sh (.int v1)), none, some (.sh (.lst [.tup (xs.take (max 0 ((xs.length : Int) - 1)).toNat), .tup (xs ++ xs.take 1), .tup (xs.tail ++ xs.take 1), .lst xs, .tup [], .non]))]) (ds := [.tup (xs.take (max 0 ((xs.length : Int) - 1)).toNat), .tup (xs ++ xs.take 1), .tup (xs.tail ++ xs.take 1), .lst xs, .tup [], .non]) (k := j) (by simpa using hj)
  have hm : 0 ≤ max 0 ((xs.length : Int) - 1) := by omega
  simp (disch := first | omega | (simp only [List.length_cons, List.length_nil, List.length_map, List.length_append, List.length_range, List.length_take, List.length_drop, cap]; omega) | (simp [cap] <;> omega) | fail) [-List.map_map, -List.map_append, -List.filter_append, v_addL, v_addT, i_mulR, mul_li, mul_ti, app_do, ext_do, ext_do2, ins_do, cut_to, cut_from, puts, f_law_spoilt, dropS, isTu, isBo, isNum, isSt, isLi, e1, hm, e, e2]
  refine ⟨x, ?_, rfl, s1, rfl⟩
  simp only [List.mem_cons, List.mem_nil_iff, or_false] at hx2
  rcases hx2 with rfl | rfl | rfl | rfl | rfl | rfl
  · exact (wd_take hv).mono (by omega) (by omega)
  · refine wd_tup.mpr ⟨by simp; omega, fun y hy => ?_⟩
    exact ((List.mem_append.mp hy).elim (hx y) fun h => hx y (List.mem_of_mem_take h)).mono (by omega) (by omega)
  · refine wd_tup.mpr ⟨by simp; omega, fun y hy => ?_⟩
    exact ((List.mem_append.mp hy).elim (fun h => hx y (List.mem_of_mem_tail h)) fun h => hx y (List.mem_of_mem_take h)).mono (by omega) (by omega)
  · exact wd_lst.mpr ⟨by omega, fun y hy => (hx y hy).mono (by omega) (by omega)⟩
  · exact wd_tup.mpr ⟨by simp, by simp⟩
  · exact ⟨by simp [D.wid], by simp [D.depth]⟩
theorem l_spoilt (n w : Nat) (hw : 1 ≤ w) (hw2 : w ≤ 10000) : ∀ (d : Nat) (v : D) (s : St), Wd w d v → ∃ (v' : D) (s' : St), Wd (w + 1) (d + 1) v' ∧ call tbl sub (n + d + 2) 19 [s.o, .sh v] = .ret (.sh v') [s'.o] := by
  intro d
  induction d with
  | zero =>
    intro v s hv
    exact l_spoilt0 n w 0 hw v s (by
      cases v with
      | tup xs => exact absurd hv.dp (by simp [D.depth])
      | _ => rfl)
  | succ d ih =>
    intro v s hv
    cases ht : isTu v with
    | false => exact l_spoilt0 (n + (d + 1)) w (d + 1) hw v s ht
    | true =>
    cases v with
    | tup xs => 
      rw [show n + (d + 1) + 2 = n + d + 2 + 1 by omega, call_has rfl]
      have ⟨hl, hx⟩ := wd_tup.mp hv
      have rest := fun s => l_spoiltT (tbl := tbl) (sub := sub) (n + d + 1) w d hw hw2 xs s hv
      rw [show f_law_spoilt.body = Ss.cons (match f_law_spoilt.body with
        | .cons s _ => s
        | _ => .pass) (dropS 1 f_law_spoilt.body) from rfl]
      simp (disch := first | omega | (simp only [List.length_cons, List.length_nil, List.length_map, List.length_append, List.length_range, List.length_take, List.length_drop, cap]; omega) | (simp [cap] <;> omega) | fail) [-List.map_map, -List.map_append, -List.filter_append, v_addL, v_addT, i_mulR, mul_li, mul_ti, app_do, ext_do, ext_do2, ins_do, cut_to, cut_from, puts, f_law_spoilt]
      have rest' : ∀ s : St, ∃ (v' : D) (s' : St), Wd (w + 1) (d + 1 + 1) v' ∧ finI [true, false] (exes (call tbl sub (n + d + 2)) (ioT tbl) sub (dropS 1 f_law_spoilt.body) [some s.o, some (.sh (.tup xs)), none, none, none]) = .ret (.sh v') [s'.o] := by
        intro s
        obtain ⟨v', s', h1, h2⟩ := rest s
        exact ⟨v', s', h1.mono (by omega) (by omega), h2⟩
      by_cases hxs : xs = []
      · subst hxs
        simp (disch := first | omega | (simp only [List.length_cons, List.length_nil, List.length_map, List.length_append, List.length_range, List.length_take, List.length_drop, cap]; omega) | (simp [cap] <;> omega) | fail) [-List.map_map, -List.map_append, -List.filter_append, v_addL, v_addT, i_mulR, mul_li, mul_ti, app_do, ext_do, ext_do2, ins_do, cut_to, cut_from, puts, isTu]
        obtain ⟨v', s', h1, h2⟩ := rest' s
        exact ⟨v', h1, s', h2⟩
      obtain ⟨v1, s1, hv1, e1⟩ := l_draw3 (tbl := tbl) (sub := sub) (n + d + 1) s 6 (by omega) (by omega)
      by_cases hv0 : v1 = 0
      · simp (disch := first | omega | (simp only [List.length_cons, List.length_nil, List.length_map, List.length_append, List.length_range, List.length_take, List.length_drop, cap]; omega) | (simp [cap] <;> omega) | fail) [-List.map_map, -List.map_append, -List.filter_append, v_addL, v_addT, i_mulR, mul_li, mul_ti, app_do, ext_do, ext_do2, ins_do, cut_to, cut_from, puts, isTu, hxs, e1, hv0]
        obtain ⟨v', s', h1, h2⟩ := rest' s1
        exact ⟨v', h1, s', h2⟩
      have hxl : 0 < xs.length := List.length_pos_iff.mpr hxs
      obtain ⟨k, s2, hk, e2⟩ := l_draw3 (tbl := tbl) (sub := sub) (n + d + 1) s1 xs.length (by omega) (by omega)
      have hk : k < xs.length := by omega
      obtain ⟨x, s3, hx3, e3⟩ := ih xs[k] s2 (hx _ (List.getElem_mem hk))
      have e4 := fun b env => sub_at (b := b) (env := env) (xs := xs) (k := k) (x := xs[k]) (by simp [hk])
      simp (disch := first | omega | (simp only [List.length_cons, List.length_nil, List.length_map, List.length_append, List.length_range, List.length_take, List.length_drop, cap]; omega) | (simp [cap] <;> omega) | fail) [-List.map_map, -List.map_append, -List.filter_append, v_addL, v_addT, i_mulR, mul_li, mul_ti, app_do, ext_do, ext_do2, ins_do, cut_to, cut_from, puts, isTu, hxs, e1, hv0, e2, e3, e4]
      refine ⟨_, wd_tup.mpr ⟨by simp; omega, fun y hy => ?_⟩, rfl, s3, rfl⟩
      rcases List.mem_append.mp hy with h | h
      · exact (hx y (List.mem_of_mem_take h)).mono (by omega) (by omega)
      rcases List.mem_cons.mp h with rfl | h
      · exact hx3
      · exact (hx y (List.mem_of_mem_drop h)).mono (by omega) (by omega)
    | _ => simp [isTu] at ht
end
end Lw
set_option maxHeartbeats 400000
set_option linter.all false
namespace Lw
open Ev
theorem wd_nat {w d k : Nat} : Wd w d (natD k) := ⟨by simp [D.wid, natD], by simp [D.depth, natD]⟩
theorem wd_bl {w d : Nat} {b : Bool} : Wd w d (.bl b) := ⟨by simp [D.wid], by simp [D.depth]⟩
theorem wd_non {w d : Nat} : Wd w d .non := ⟨by simp [D.wid], by simp [D.depth]⟩
theorem wd_opt {α : Type} {f : α → D} {w d : Nat} {o : Option α} (h : ∀ a, Wd w d (f a)) : Wd w d (optD f o) := by
  cases o with
  | none => exact wd_non
  | some a => exact h a
theorem wd_src {w d : Nat} {s : Src} (h : 2 ≤ w) : Wd w (d + 1) s.d := by
  cases s <;> exact ⟨by simp [D.wid, D.wids, Src.d]; omega, by simp [D.depth, D.depths, Src.d]⟩
theorem wd_map {α : Type} {f : α → D} {w d : Nat} {xs : List α} (hl : xs.length ≤ w) (h : ∀ a ∈ xs, Wd w d (f a)) : Wd w (d + 1) (.tup (xs.map f)) := by
  refine wd_tup.mpr ⟨by simpa using hl, fun x hx => ?_⟩
  obtain ⟨a, ha, rfl⟩ := List.mem_map.mp hx
  exact h a ha
theorem wd_tgt {w d : Nat} {t : Tgt} (h : 2 ≤ w) : Wd w (d + 2) (tgtD t) := by
  refine wd_tup.mpr ⟨by simp; omega, ?_⟩
  simp only [List.mem_cons, List.mem_nil_iff, or_false, forall_eq_or_imp, forall_eq]
  exact ⟨wd_nat, wd_opt fun a => wd_src h⟩
theorem wd_mv {w d : Nat} {m : Mv} (h : 8 ≤ w) (h1 : m.ins.length ≤ w) (h2 : m.outs.length ≤ w) (h3 : m.ls.length ≤ w) : Wd w (d + 4) m.d := by
  refine wd_tup.mpr ⟨by simp; omega, ?_⟩
  simp only [List.mem_cons, List.mem_nil_iff, or_false, forall_eq_or_imp, forall_eq]
  exact ⟨wd_opt fun _ => wd_nat, wd_opt fun _ => wd_nat, wd_bl, wd_src (by omega), wd_opt fun _ => wd_src (by omega), wd_map h1 fun _ _ => wd_nat, wd_map h2 fun _ _ => wd_tgt (by omega), wd_map h3 fun _ _ => wd_tgt (by omega)⟩
theorem wd_pat {w d : Nat} {p : Pat} (h : 2 ≤ w) (h1 : p.2.length ≤ w) : Wd w (d + 2) (patD p) := by
  refine wd_tup.mpr ⟨by simp; omega, ?_⟩
  simp only [List.mem_cons, List.mem_nil_iff, or_false, forall_eq_or_imp, forall_eq]
  exact ⟨wd_opt fun _ => wd_nat, wd_map h1 fun _ _ => wd_nat⟩
theorem wd_rls {w d : Nat} {r : Rls} (h : 8 ≤ w) (h1 : r.copies.length ≤ w) (h2 : r.moves.length ≤ w) (h3 : r.proms.length ≤ w) (hm : ∀ m ∈ r.moves, m.ins.length ≤ w ∧ m.outs.length ≤ w ∧ m.ls.length ≤ w) (hp : ∀ p ∈ r.proms, p.2.length ≤ w) : Wd w (d + 6) r.d := by
  refine wd_tup.mpr ⟨by simp; omega, ?_⟩
  simp only [List.mem_cons, List.mem_nil_iff, or_false, forall_eq_or_imp, forall_eq]
  exact ⟨wd_map h1 fun _ _ => wd_bl, wd_nat, wd_map h2 fun m hm' => wd_mv h (hm m hm').1 (hm m hm').2.1 (hm m hm').2.2, wd_map h3 fun p hp' => wd_pat (by omega) (hp p hp')⟩
theorem wd_right {r : Rls} (h : Right r) : Wd 20 6 r.d := by
  have c4 := h.c4
  have m7 := h.m7
  have p3 := h.p3
  refine wd_rls (d := 0) (by omega) (by omega) (by omega) (by omega) (fun m hm => ?_) (fun p hp => ?_)
  · have := h.moves m hm
    have h1 := this.li
    have h2 := this.lo
    have h3 := this.ll
    omega
  · have := (h.proms p hp).2.2.1
    omega
end Lw
set_option maxHeartbeats 400000
set_option linter.all false
namespace Lw
open Ev
class CM (tbl : Nat → Option FDef) : Prop where
  h16 : tbl 16 = some f_law_same
instance {tbl : Nat → Option FDef} [i : CM tbl] : Has tbl 16 f_law_same := ⟨i.h16⟩
section
variable {tbl : Nat → Option FDef} {sub : Nat → Nat → Bool} [T : CM tbl]
theorem eqv_leaf (v : D) (ht : isTu v = false) (hl : isLi v = false) : D.eqv v v = true := by
  cases v <;> simp [isTu, isLi, D.eqv] at *
theorem l_same (n w : Nat) (hw : w ≤ 10000) : ∀ (d : Nat) (v : D), Wd w d v → call tbl sub (n + d + 1) 16 [.sh v, .sh v] = .ret (.sh (.bl true)) [] := by
  intro d
  have leaf : ∀ (k : Nat) (v : D), isTu v = false → isLi v = false → call tbl sub (k + 1) 16 [.sh v, .sh v] = .ret (.sh (.bl true)) [] := by
    intro k v ht hl
    have h0 : v.depth ≤ 64 := by cases v <;> simp [isTu, isLi, D.depth] at *
    rw [call_has rfl]
    simp (disch := first | omega | (simp only [List.length_cons, List.length_nil, List.length_map, List.length_append, List.length_range, List.length_take, List.length_drop, cap]; omega) | (simp [cap] <;> omega) | fail) [-List.map_map, -List.map_append, -List.filter_append, v_addL, v_addT, i_mulR, mul_li, mul_ti, app_do, ext_do, ext_do2, ins_do, cut_to, cut_from, puts, f_law_same, ht, hl, v_eq (x := v) (y := v) (by omega), eqv_leaf v ht hl]
  induction d with
  | zero =>
    intro v hv
    have hd := hv.dp
    refine leaf _ v ?_ ?_ <;> (cases v <;> simp [isTu, isLi, D.depth] at *)
  | succ d ih =>
    intro v hv
    cases v with
    | tup xs =>
      have ⟨hl, hx⟩ := wd_tup.mp hv
      rw [show n + (d + 1) + 1 = n + d + 1 + 1 by omega, call_has rfl]
      simp (disch := first | omega | (simp only [List.length_cons, List.length_nil, List.length_map, List.length_append, List.length_range, List.length_take, List.length_drop, cap]; omega) | (simp [cap] <;> omega) | fail) [-List.map_map, -List.map_append, -List.filter_append, v_addL, v_addT, i_mulR, mul_li, mul_ti, app_do, ext_do, ext_do2, ins_do, cut_to, cut_from, puts, f_law_same, isTu, rg_ok, rangeD]
      generalize hf : turns _ _ _ _ = t
      have := turn_map hf (fun i => .bl true) (by
        intro i hi
        have hi := List.mem_range.mp hi
        have e := fun b env => sub_at (b := b) (env := env) (xs := xs) (k := i) (x := xs[i]) (by simp [hi])
        simp (disch := first | omega | (simp only [List.length_cons, List.length_nil, List.length_map, List.length_append, List.length_range, List.length_take, List.length_drop, cap]; omega) | (simp [cap] <;> omega) | fail) [-List.map_map, -List.map_append, -List.filter_append, v_addL, v_addT, i_mulR, mul_li, mul_ti, app_do, ext_do, ext_do2, ins_do, cut_to, cut_from, puts, turnF, e, ih xs[i] (hx _ (List.getElem_mem hi))])
      subst this
      clear hf
      simp (disch := first | omega | (simp only [List.length_cons, List.length_nil, List.length_map, List.length_append, List.length_range, List.length_take, List.length_drop, cap]; omega) | (simp [cap] <;> omega) | fail) [-List.map_map, -List.map_append, -List.filter_append, v_addL, v_addT, i_mulR, mul_li, mul_ti, app_do, ext_do, ext_do2, ins_do, cut_to, cut_from, puts]
      simp [allB]
    | lst xs =>
      have ⟨hl, hx⟩ := wd_lst.mp hv
      rw [show n + (d + 1) + 1 = n + d + 1 + 1 by omega, call_has rfl]
      simp (disch := first | omega | (simp only [List.length_cons, List.length_nil, List.length_map, List.length_append, List.length_range, List.length_take, List.length_drop, cap]; omega) | (simp [cap] <;> omega) | fail) [-List.map_map, -List.map_append, -List.filter_append, v_addL, v_addT, i_mulR, mul_li, mul_ti, app_do, ext_do, ext_do2, ins_do, cut_to, cut_from, puts, f_law_same, isTu, isLi, rg_ok, rangeD]
      generalize hf : turns _ _ _ _ = t
      have := turn_map hf (fun i => .bl true) (by
        intro i hi
        have hi := List.mem_range.mp hi
        have e := fun b env => sub_atL (b := b) (env := env) (xs := xs) (k := i) (x := xs[i]) (by simp [hi])
        simp (disch := first | omega | (simp only [List.length_cons, List.length_nil, List.length_map, List.length_append, List.length_range, List.length_take, List.length_drop, cap]; omega) | (simp [cap] <;> omega) | fail) [-List.map_map, -List.map_append, -List.filter_append, v_addL, v_addT, i_mulR, mul_li, mul_ti, app_do, ext_do, ext_do2, ins_do, cut_to, cut_from, puts, turnF, e, ih xs[i] (hx _ (List.getElem_mem hi))])
      subst this
      clear hf
      simp (disch := first | omega | (simp only [List.length_cons, List.length_nil, List.length_map, List.length_append, List.length_range, List.length_take, List.length_drop, cap]; omega) | (simp [cap] <;> omega) | fail) [-List.map_map, -List.map_append, -List.filter_append, v_addL, v_addT, i_mulR, mul_li, mul_ti, app_do, ext_do, ext_do2, ins_do, cut_to, cut_from, puts]
      simp [allB]
    | _ => exact leaf _ _ rfl rfl
end
end Lw
set_option maxHeartbeats 400000
set_option linter.all false
namespace Lw
open Ev
/-! parts of what is held as data; numbers stay numbers -/
section
variable {b : Bool} {env : Env}
@[simp] theorem r_0 {r : Rls} : subO b (.sh r.d) (.int 0) env = .ok (.sh (.tup (r.copies.map D.bl))) env := sub_t0
@[simp] theorem r_1 {r : Rls} : subO b (.sh r.d) (.int 1) env = .ok (.sh (natD r.halls)) env := sub_t1
@[simp] theorem r_2 {r : Rls} : subO b (.sh r.d) (.int 2) env = .ok (.sh (.tup (r.moves.map Mv.d))) env := sub_t2
@[simp] theorem r_3 {r : Rls} : subO b (.sh r.d) (.int 3) env = .ok (.sh (.tup (r.proms.map patD))) env := sub_t3
@[simp] theorem m_0 {m : Mv} : subO b (.sh m.d) (.int 0) env = .ok (.sh (optD natD m.hall)) env := sub_t0
@[simp] theorem m_1 {m : Mv} : subO b (.sh m.d) (.int 1) env = .ok (.sh (optD natD m.behind)) env := sub_t1
@[simp] theorem m_2 {m : Mv} : subO b (.sh m.d) (.int 2) env = .ok (.sh (.bl m.w)) env := sub_t2
@[simp] theorem m_3 {m : Mv} : subO b (.sh m.d) (.int 3) env = .ok (.sh m.mem.d) env := sub_t3
@[simp] theorem m_4 {m : Mv} : subO b (.sh m.d) (.int 4) env = .ok (.sh (optD Src.d m.rd)) env := sub_t4
@[simp] theorem m_5 {m : Mv} : subO b (.sh m.d) (.int 5) env = .ok (.sh (.tup (m.ins.map natD))) env := sub_t5
@[simp] theorem m_6 {m : Mv} : subO b (.sh m.d) (.int 6) env = .ok (.sh (.tup (m.outs.map tgtD))) env := sub_t6
@[simp] theorem m_7 {m : Mv} : subO b (.sh m.d) (.int 7) env = .ok (.sh (.tup (m.ls.map tgtD))) env := sub_t7
@[simp] theorem p_p0 {p : Pat} : subO b (.sh (patD p)) (.int 0) env = .ok (.sh (optD natD p.1)) env := sub_t0
@[simp] theorem p_p1 {p : Pat} : subO b (.sh (patD p)) (.int 1) env = .ok (.sh (.tup (p.2.map natD))) env := sub_t1
@[simp] theorem tg_0 {t : Tgt} : subO b (.sh (tgtD t)) (.int 0) env = .ok (.sh (natD t.1)) env := sub_t0
@[simp] theorem tg_1 {t : Tgt} : subO b (.sh (tgtD t)) (.int 1) env = .ok (.sh (optD Src.d t.2)) env := sub_t1
@[simp] theorem z_tpR {ts : List Tg} {r : Rls} : take (.tp ts) (.sh r.d) env = takes ts [.tup (r.copies.map D.bl), natD r.halls, .tup (r.moves.map Mv.d), .tup (r.proms.map patD)] env := z_tpT
@[simp] theorem z_tpTgt {ts : List Tg} {t : Tgt} : take (.tp ts) (.sh (tgtD t)) env = takes ts [natD t.1, optD Src.d t.2] env := z_tpT
@[simp] theorem z_tpPat {ts : List Tg} {t : Pat} : take (.tp ts) (.sh (patD t)) env = takes ts [optD natD t.1, .tup (t.2.map natD)] env := z_tpT
@[simp] theorem nif_nat {α : Type} {k : Nat} {f : Int → Out α} : nifO (.sh (natD k)) f = f k := rfl
end
@[simp] theorem natD_i {k : Nat} : D.int (k : Nat) = natD k := rfl
@[simp] theorem nt_add {x y : Nat} : bin2 .add (natD x) (natD y) = some (.sh (natD (x + y))) := by simp [natD, -natD_i]
@[simp] theorem nt_add1 {x : Nat} : bin2 .add (natD x) (.int 1) = some (.sh (natD (x + 1))) := by simp [natD, -natD_i]
@[simp] theorem nt_1add {x : Nat} : bin2 .add (.int 1) (natD x) = some (.sh (natD (1 + x))) := by simp [natD, -natD_i]
@[simp] theorem nt_0add {x : Nat} : bin2 .add (.int 0) (natD x) = some (.sh (natD x)) := by simp [natD, -natD_i]
theorem nt_subZ {x y : Nat} : bin2 .sub (natD x) (natD y) = some (.sh (.int ((x : Int) - y))) := rfl
theorem nt_subi {x : Nat} {i : Int} : bin2 .sub (natD x) (.int i) = some (.sh (.int ((x : Int) - i))) := rfl
theorem i_nat {x y : Nat} : (x : Int) = y ↔ x = y := Int.ofNat_inj
@[simp] theorem nt_eq {x y : Nat} : bin2 .eq (natD x) (natD y) = some (.sh (.bl (decide (x = y)))) := by
  show some (O.sh (.bl (decide ((x : Int) = y)))) = _
  congr 3
  simp [i_nat]
@[simp] theorem nt_ne {x y : Nat} : bin2 .ne (natD x) (natD y) = some (.sh (.bl (nt (decide (x = y))))) := by
  show some (O.sh (.bl (nt (decide ((x : Int) = y))))) = _
  congr 4
  simp [i_nat]
@[simp] theorem nt_eqi {x : Nat} {i : Int} : bin2 .eq (natD x) (.int i) = some (.sh (.bl (decide ((x : Int) = i)))) := rfl
@[simp] theorem nt_nei {x : Nat} {i : Int} : bin2 .ne (natD x) (.int i) = some (.sh (.bl (nt (decide ((x : Int) = i))))) := rfl
@[simp] theorem nt_lt {x y : Nat} : bin2 .lt (natD x) (natD y) = some (.sh (.bl (decide (x < y)))) := by
  show some (O.sh (.bl (decide ((x : Int) < y)))) = _
  congr 3
  simp
@[simp] theorem nt_le {x y : Nat} : bin2 .le (natD x) (natD y) = some (.sh (.bl (decide (x ≤ y)))) := by
  show some (O.sh (.bl (decide ((x : Int) ≤ y)))) = _
  congr 3
  simp
@[simp] theorem nt_gt {x y : Nat} : bin2 .gt (natD x) (natD y) = some (.sh (.bl (decide (y < x)))) := by
  show some (O.sh (.bl (decide ((y : Int) < x)))) = _
  congr 3
  simp
@[simp] theorem nt_ge {x y : Nat} : bin2 .ge (natD x) (natD y) = some (.sh (.bl (decide (y ≤ x)))) := by
  show some (O.sh (.bl (decide ((y : Int) ≤ x)))) = _
  congr 3
  simp
@[simp] theorem nt_lti {x : Nat} {i : Int} : bin2 .lt (natD x) (.int i) = some (.sh (.bl (decide ((x : Int) < i)))) := rfl
@[simp] theorem nt_lei {x : Nat} {i : Int} : bin2 .le (natD x) (.int i) = some (.sh (.bl (decide ((x : Int) ≤ i)))) := rfl
@[simp] theorem nt_gti {x : Nat} {i : Int} : bin2 .gt (natD x) (.int i) = some (.sh (.bl (decide (i < (x : Int))))) := rfl
@[simp] theorem nt_gei {x : Nat} {i : Int} : bin2 .ge (natD x) (.int i) = some (.sh (.bl (decide (i ≤ (x : Int))))) := rfl
@[simp] theorem nt_ile {x : Nat} {i : Int} : bin2 .le (.int i) (natD x) = some (.sh (.bl (decide (i ≤ (x : Int))))) := rfl
@[simp] theorem nt_min {x y : Nat} : bin2 .min2 (natD x) (natD y) = some (.sh (natD (min x y))) := by
  show bin2 .min2 (.int x) (.int y) = _
  rw [i_min, show min (x : Int) y = ((min x y : Nat) : Int) by omega]
  rfl
@[simp] theorem nt_no {x : Nat} : isNo (natD x) = false := rfl
@[simp] theorem nt_len {xs : List D} : un1 .len (.sh (.tup xs)) = some (.sh (natD xs.length)) := rfl
theorem nt_nat {xs : List Nat} {j : Nat} {b : Bool} {env : Env} (h : j < xs.length) : subO b (.sh (.tup (xs.map natD))) (natD j) env = .ok (.sh (natD (gn xs j))) env := ok_nat h
theorem nt_bl {xs : List Bool} {j : Nat} {b : Bool} {env : Env} (h : j < xs.length) : subO b (.sh (.tup (xs.map D.bl))) (natD j) env = .ok (.sh (.bl (gb xs j))) env := ok_bl h
theorem nt_tgt {xs : List Tgt} {j : Nat} {b : Bool} {env : Env} (h : j < xs.length) : subO b (.sh (.tup (xs.map tgtD))) (natD j) env = .ok (.sh (tgtD (gt xs j))) env := ok_tgt h
theorem nt_sub_at {b : Bool} {env : Env} {xs : List D} {k : Nat} {x : D} (h : xs[k]? = some x) : subO b (.sh (.tup xs)) (natD k) env = .ok (.sh x) env := sub_at h
theorem nt_sub_atL {b : Bool} {env : Env} {xs : List D} {k : Nat} {x : D} (h : xs[k]? = some x) : subO b (.sh (.lst xs)) (natD k) env = .ok (.sh x) env := sub_atL h
theorem nt_int {x : Nat} : natD x = .int (x : Nat) := rfl
theorem n0_d : natD 0 = .int 0 := rfl
theorem n1_d : natD 1 = .int 1 := rfl
theorem isNo_opt {α : Type} {f : α → D} (hf : ∀ a, isNo (f a) = false) {o : Option α} : isNo (optD f o) = o.isNone := by
  cases o with
  | none => rfl
  | some a => exact hf a
@[simp] theorem isNo_nat {o : Option Nat} : isNo (optD natD o) = o.isNone := isNo_opt fun _ => rfl
/-! lists -/
theorem flat_len {α β : Type} {f : α → List β} {k : Nat} : ∀ {xs : List α}, (∀ x ∈ xs, (f x).length ≤ k) → (xs.flatMap f).length ≤ xs.length * k
  | [], _ => by simp
  | x :: xs, h => by
    have := flat_len (k := k) (f := f) (xs := xs) fun y hy => h y (List.mem_cons_of_mem _ hy)
    have h2 := h x List.mem_cons_self
    rw [List.flatMap_cons, List.length_append, List.length_cons, Nat.succ_mul]
    omega
theorem flat_snoc {α β : Type} {f : α → List β} {xs : List α} {x : α} : (xs ++ [x]).flatMap f = xs.flatMap f ++ f x := by simp
theorem filt_snoc {α : Type} {p : α → Bool} {xs : List α} {x : α} : (xs ++ [x]).filter p = xs.filter p ++ if p x then [x] else [] := by
  rw [List.filter_append]
  cases h : p x <;> simp [h]
theorem filt_len {p : Nat → Bool} {n : Nat} : ((List.range n).filter p).length ≤ n := Nat.le_trans (List.length_filter_le _ _) (by simp)
theorem pre_le {α : Type} {ys xs : List α} {x : α} (h : ys ++ [x] <+: xs) : ys.length < xs.length := by
  have := h.length_le
  simp at this
  omega
theorem pre_sub {α : Type} {ys xs : List α} {x : α} (h : ys ++ [x] <+: xs) : ∀ y ∈ ys, y ∈ xs := fun y hy => h.subset (List.mem_append_left _ hy)
theorem snoc_map {α β : Type} {e : β → D} {f : α → β} {acc : List β} {zs : List α} {x : α} : List.map e (acc ++ zs.map f) ++ [e (f x)] = List.map e (acc ++ (zs ++ [x]).map f) := by simp
theorem nt_mul_l {xs : List D} {k : Nat} (h1 : k ≤ 1000) (h : xs.length ≤ 1000) : bin2 .mul (.lst xs) (natD k) = some (own (List.replicate k xs).flatten) := by
  have := mul_li (xs := xs) (k := (k : Int)) (by omega) (by omega) h
  simpa using this
theorem nt_mul_t {xs : List D} {k : Nat} (h1 : k ≤ 1000) (h : xs.length ≤ 1000) : bin2 .mul (.tup xs) (natD k) = some (.sh (.tup (List.replicate k xs).flatten)) := by
  have := mul_ti (xs := xs) (k := (k : Int)) (by omega) (by omega) h
  simpa using this
@[simp] theorem flat_one {α : Type} {k : Nat} {x : α} : (List.replicate k [x]).flatten = List.replicate k x := by
  induction k with
  | zero => rfl
  | succ k ih => rw [List.replicate_succ, List.flatten_cons, ih]; rfl
@[simp] theorem nt_opt_eq {o : Option Nat} {x : Nat} : bin2 .eq (optD natD o) (natD x) = some (.sh (.bl (decide (o = some x)))) := by
  cases o with
  | none => simp [optD, natD, bin2, deep, D.depth, D.eqv, -natD_i]
  | some k => simp [optD]
@[simp] theorem nt_opt_ne {o : Option Nat} {x : Nat} : bin2 .ne (optD natD o) (natD x) = some (.sh (.bl (nt (decide (o = some x))))) := by
  cases o with
  | none => simp [optD, natD, bin2, deep, D.depth, D.eqv, -natD_i, nt]
  | some k => simp [optD]
theorem nt_sub_le {x y : Nat} (h : y ≤ x) : bin2 .sub (natD x) (natD y) = some (.sh (natD (x - y))) := by
  rw [nt_subZ, ← Int.ofNat_sub h]; rfl
theorem nt_sub1 {x : Nat} (h : 1 ≤ x) : bin2 .sub (natD x) (.int 1) = some (.sh (natD (x - 1))) := nt_sub_le (y := 1) h
theorem allB_iff {α : Type} {f : α → Bool} {xs : List α} : allB f xs = true ↔ ∀ x ∈ xs, f x = true := by
  show xs.all f = true ↔ _
  simp
/-- right rules, by their parts -/
theorem Right.g0 {r : Rls} (h : Right r) : gb r.copies 0 = false := by
  have hgood := h.good
  unfold goodB at hgood
  cases h : gb r.copies 0 with
  | true => rw [h] at hgood; exact absurd hgood (by simp [nt])
  | false => rfl
theorem Right.fit {r : Rls} (h : Right r) : ∀ m ∈ r.moves, fitB r.copies m = true := by
  have hgood := h.good
  unfold goodB at hgood
  rw [h.g0] at hgood
  exact allB_iff.mp hgood
theorem good_of {r : Rls} (h0 : gb r.copies 0 = false) (h : ∀ m ∈ r.moves, fitB r.copies m = true) : goodB r = true := by
  unfold goodB
  rw [h0]
  exact allB_iff.mpr h
@[simp] theorem b_neO3 {xs ys : List D} : binO .ne (own xs) (own ys) = bin2 .ne (.lst xs) (.lst ys) := by simp [binO, plain]
end Lw
set_option maxHeartbeats 400000
set_option linter.all false
namespace Lw
open Ev
/-! unions, as the program makes them -/
class CR1 (tbl : Nat → Option FDef) : Prop where
  h1 : tbl 1 = some f_is_below
  h2 : tbl 2 = some f_is_row
  h0 : tbl 0 = some f_is_integer
  h56 : tbl 56 = some f_is_made_in
  h57 : tbl 57 = some f_hall_behind
instance {tbl : Nat → Option FDef} [i : CR1 tbl] : Has tbl 1 f_is_below := ⟨i.h1⟩
instance {tbl : Nat → Option FDef} [i : CR1 tbl] : Has tbl 2 f_is_row := ⟨i.h2⟩
instance {tbl : Nat → Option FDef} [i : CR1 tbl] : Has tbl 0 f_is_integer := ⟨i.h0⟩
instance {tbl : Nat → Option FDef} [i : CR1 tbl] : Has tbl 56 f_is_made_in := ⟨i.h56⟩
instance {tbl : Nat → Option FDef} [i : CR1 tbl] : Has tbl 57 f_hall_behind := ⟨i.h57⟩
class CU1 (tbl : Nat → Option FDef) : Prop extends CR1 tbl where
  h252 : tbl 252 = some f_check_change
  h269 : tbl 269 = some f_staying
  h270 : tbl 270 = some f_moved
  h271 : tbl 271 = some f_first_moves
  h272 : tbl 272 = some f_change_moves
  h273 : tbl 273 = some f_other_moves
  h274 : tbl 274 = some f_union_moves
  h275 : tbl 275 = some f_union_promises
  h276 : tbl 276 = some f_union
instance {tbl : Nat → Option FDef} [i : CU1 tbl] : Has tbl 252 f_check_change := ⟨i.h252⟩
instance {tbl : Nat → Option FDef} [i : CU1 tbl] : Has tbl 269 f_staying := ⟨i.h269⟩
instance {tbl : Nat → Option FDef} [i : CU1 tbl] : Has tbl 270 f_moved := ⟨i.h270⟩
instance {tbl : Nat → Option FDef} [i : CU1 tbl] : Has tbl 271 f_first_moves := ⟨i.h271⟩
instance {tbl : Nat → Option FDef} [i : CU1 tbl] : Has tbl 272 f_change_moves := ⟨i.h272⟩
instance {tbl : Nat → Option FDef} [i : CU1 tbl] : Has tbl 273 f_other_moves := ⟨i.h273⟩
instance {tbl : Nat → Option FDef} [i : CU1 tbl] : Has tbl 274 f_union_moves := ⟨i.h274⟩
instance {tbl : Nat → Option FDef} [i : CU1 tbl] : Has tbl 275 f_union_promises := ⟨i.h275⟩
instance {tbl : Nat → Option FDef} [i : CU1 tbl] : Has tbl 276 f_union := ⟨i.h276⟩
def madeIn (m : Mv) (h : Nat) : Bool := match m.hall with
  | none => true
  | some k => decide (k = h)
def behindH (m : Mv) (h : Nat) : Nat := m.behind.getD h
def stayT (cs : List Bool) (f : Nat) : List Tgt := cs.zipIdx.map fun p => (f + p.2, if p.1 = true then some .own else none)
def movedM (m : Mv) (h fh fk : Nat) (rd : Option Src) (ls : List Tgt) : Mv := ⟨some (fh + h), some (fh + behindH m h), m.w, m.mem, rd, m.ins.map (fk + ·), m.outs.map fun t => (fk + t.1, t.2), ls⟩
section
variable {tbl : Nat → Option FDef} {sub : Nat → Nat → Bool} [T : CR1 tbl]
theorem c_made_in (n : Nat) (m : Mv) (h : Nat) : call tbl sub (n + 1) 56 [.sh m.d, .sh (natD h)] = .ret (.sh (.bl (madeIn m h))) [] := by
  rw [call_has rfl]
  simp (disch := first | omega | (simp only [List.length_cons, List.length_nil, List.length_map, List.length_append, List.length_range, List.length_take, List.length_drop, cap]; omega) | (simp [cap] <;> omega) | fail) [-List.map_map, -List.map_append, -List.filter_append, v_addL, v_addT, i_mulR, mul_li, mul_ti, app_do, ext_do, ext_do2, ins_do, cut_to, cut_from, puts, f_is_made_in]
  unfold madeIn
  cases m.hall with
  | none => simp (disch := first | omega | (simp only [List.length_cons, List.length_nil, List.length_map, List.length_append, List.length_range, List.length_take, List.length_drop, cap]; omega) | (simp [cap] <;> omega) | fail) [-List.map_map, -List.map_append, -List.filter_append, v_addL, v_addT, i_mulR, mul_li, mul_ti, app_do, ext_do, ext_do2, ins_do, cut_to, cut_from, puts, optD]
  | some k => simp (disch := first | omega | (simp only [List.length_cons, List.length_nil, List.length_map, List.length_append, List.length_range, List.length_take, List.length_drop, cap]; omega) | (simp [cap] <;> omega) | fail) [-List.map_map, -List.map_append, -List.filter_append, v_addL, v_addT, i_mulR, mul_li, mul_ti, app_do, ext_do, ext_do2, ins_do, cut_to, cut_from, puts, optD]
theorem c_behind (n : Nat) (m : Mv) (h : Nat) : call tbl sub (n + 1) 57 [.sh m.d, .sh (natD h)] = .ret (.sh (natD (behindH m h))) [] := by
  rw [call_has rfl]
  simp (disch := first | omega | (simp only [List.length_cons, List.length_nil, List.length_map, List.length_append, List.length_range, List.length_take, List.length_drop, cap]; omega) | (simp [cap] <;> omega) | fail) [-List.map_map, -List.map_append, -List.filter_append, v_addL, v_addT, i_mulR, mul_li, mul_ti, app_do, ext_do, ext_do2, ins_do, cut_to, cut_from, puts, f_hall_behind]
  unfold behindH
  cases m.behind with
  | none => simp (disch := first | omega | (simp only [List.length_cons, List.length_nil, List.length_map, List.length_append, List.length_range, List.length_take, List.length_drop, cap]; omega) | (simp [cap] <;> omega) | fail) [-List.map_map, -List.map_append, -List.filter_append, v_addL, v_addT, i_mulR, mul_li, mul_ti, app_do, ext_do, ext_do2, ins_do, cut_to, cut_from, puts, optD]
  | some k => simp (disch := first | omega | (simp only [List.length_cons, List.length_nil, List.length_map, List.length_append, List.length_range, List.length_take, List.length_drop, cap]; omega) | (simp [cap] <;> omega) | fail) [-List.map_map, -List.map_append, -List.filter_append, v_addL, v_addT, i_mulR, mul_li, mul_ti, app_do, ext_do, ext_do2, ins_do, cut_to, cut_from, puts, optD]
end
section
variable {tbl : Nat → Option FDef} {sub : Nat → Nat → Bool} [T : CU1 tbl]
theorem c_staying (n : Nat) (cs : List Bool) (f : Nat) : call tbl sub (n + 1) 269 [.sh (.tup (cs.map D.bl)), .sh (natD f)] = .ret (.sh (.tup ((stayT cs f).map tgtD))) [] := by
  rw [call_has rfl]
  simp (disch := first | omega | (simp only [List.length_cons, List.length_nil, List.length_map, List.length_append, List.length_range, List.length_take, List.length_drop, cap]; omega) | (simp [cap] <;> omega) | fail) [-List.map_map, -List.map_append, -List.filter_append, v_addL, v_addT, i_mulR, mul_li, mul_ti, app_do, ext_do, ext_do2, ins_do, cut_to, cut_from, puts, f_staying, enum_map]
  generalize hf : turns _ _ _ _ = t
  have := turn_map hf (fun p => tgtD (f + p.2, if p.1 = true then some .own else none)) (by
    rintro ⟨b, k⟩ _
    simp (disch := first | omega | (simp only [List.length_cons, List.length_nil, List.length_map, List.length_append, List.length_range, List.length_take, List.length_drop, cap]; omega) | (simp [cap] <;> omega) | fail) [-List.map_map, -List.map_append, -List.filter_append, v_addL, v_addT, i_mulR, mul_li, mul_ti, app_do, ext_do, ext_do2, ins_do, cut_to, cut_from, puts, turnF]
    cases b <;> simp [tgtD, optD, Src.d])
  subst this
  simp (disch := first | omega | (simp only [List.length_cons, List.length_nil, List.length_map, List.length_append, List.length_range, List.length_take, List.length_drop, cap]; omega) | (simp [cap] <;> omega) | fail) [-List.map_map, -List.map_append, -List.filter_append, v_addL, v_addT, i_mulR, mul_li, mul_ti, app_do, ext_do, ext_do2, ins_do, cut_to, cut_from, puts]
  unfold stayT
  rw [List.map_map]; rfl
theorem c_moved (n : Nat) (m : Mv) (h fh fk : Nat) (rd : Option Src) (ls : List Tgt) : call tbl sub (n + 2) 270 [.sh m.d, .sh (natD h), .sh (natD fh), .sh (natD fk), .sh (optD Src.d rd), .sh (.tup (ls.map tgtD))] = .ret (.sh (movedM m h fh fk rd ls).d) [] := by
  rw [call_has rfl]
  have hb := c_behind (tbl := tbl) (sub := sub) n m h
  simp (disch := first | omega | (simp only [List.length_cons, List.length_nil, List.length_map, List.length_append, List.length_range, List.length_take, List.length_drop, cap]; omega) | (simp [cap] <;> omega) | fail) [-List.map_map, -List.map_append, -List.filter_append, v_addL, v_addT, i_mulR, mul_li, mul_ti, app_do, ext_do, ext_do2, ins_do, cut_to, cut_from, puts, f_moved]
  generalize hf : turns _ _ _ _ = t
  have := turn_mapE hf (fun k => natD (fk + k)) (fun k _ => by simp (disch := first | omega | (simp only [List.length_cons, List.length_nil, List.length_map, List.length_append, List.length_range, List.length_take, List.length_drop, cap]; omega) | (simp [cap] <;> omega) | fail) [-List.map_map, -List.map_append, -List.filter_append, v_addL, v_addT, i_mulR, mul_li, mul_ti, app_do, ext_do, ext_do2, ins_do, cut_to, cut_from, puts, turnF])
  subst this
  clear hf
  simp (disch := first | omega | (simp only [List.length_cons, List.length_nil, List.length_map, List.length_append, List.length_range, List.length_take, List.length_drop, cap]; omega) | (simp [cap] <;> omega) | fail) [-List.map_map, -List.map_append, -List.filter_append, v_addL, v_addT, i_mulR, mul_li, mul_ti, app_do, ext_do, ext_do2, ins_do, cut_to, cut_from, puts]
  generalize hf : turns _ _ _ _ = t
  have := turn_mapE hf (fun t => tgtD (fk + t.1, t.2)) (fun k _ => by simp (disch := first | omega | (simp only [List.length_cons, List.length_nil, List.length_map, List.length_append, List.length_range, List.length_take, List.length_drop, cap]; omega) | (simp [cap] <;> omega) | fail) [-List.map_map, -List.map_append, -List.filter_append, v_addL, v_addT, i_mulR, mul_li, mul_ti, app_do, ext_do, ext_do2, ins_do, cut_to, cut_from, puts, turnF, tgtD])
  subst this
  clear hf
  simp (disch := first | omega | (simp only [List.length_cons, List.length_nil, List.length_map, List.length_append, List.length_range, List.length_take, List.length_drop, cap]; omega) | (simp [cap] <;> omega) | fail) [-List.map_map, -List.map_append, -List.filter_append, v_addL, v_addT, i_mulR, mul_li, mul_ti, app_do, ext_do, ext_do2, ins_do, cut_to, cut_from, puts, hb, movedM]
  simp only [Mv.d, optD, List.map_map]
  rfl
/-- the first moves -/
def firstMs (r o : Rls) : List (Nat × Mv) := r.moves.zipIdx.flatMap fun p => ((List.range r.halls).filter (madeIn p.1)).map fun h => (p.2, movedM p.1 h 0 0 none (p.1.ls ++ stayT o.copies r.copies.length))
def nmD (p : Nat × Mv) : D := .tup [natD p.1, p.2.d]
@[simp] theorem z_tpN {ts : List Tg} {p : Nat × Mv} {env : Env} : take (.tp ts) (.sh (nmD p)) env = takes ts [natD p.1, p.2.d] env := z_tpT
theorem c_first_moves (n : Nat) (r o : Rls) (hm : r.moves.length ≤ 12) (hh : r.halls ≤ 4) (hk : ∀ m ∈ r.moves, m.ls.length ≤ 6) (ho : o.copies.length ≤ 6) : call tbl sub (n + 3) 271 [.sh r.d, .sh o.d] = .ret (.sh (.lst ((firstMs r o).map nmD))) [] := by
  rw [call_has rfl]
  simp (disch := first | omega | (simp only [List.length_cons, List.length_nil, List.length_map, List.length_append, List.length_range, List.length_take, List.length_drop, cap]; omega) | (simp [cap] <;> omega) | fail) [-List.map_map, -List.map_append, -List.filter_append, v_addL, v_addT, i_mulR, mul_li, mul_ti, app_do, ext_do, ext_do2, ins_do, cut_to, cut_from, puts, f_first_moves, enum_map]
  generalize hf : fors _ _ _ = t
  obtain ⟨P, hP⟩ : ∃ P : List (Mv × Nat) → Env → Prop, ∀ ys e, P ys e ↔ ∃ (b3 b4 b5 b6 : Option O), e = [some (O.sh r.d), some (O.sh o.d), some (own ((ys.flatMap fun p => ((List.range r.halls).filter (madeIn p.1)).map fun h => (p.2, movedM p.1 h 0 0 none (p.1.ls ++ stayT o.copies r.copies.length))).map nmD)), b3, b4, b5, b6] := ⟨_, fun _ _ => Iff.rfl⟩
  obtain ⟨_, hp, rfl⟩ := for_acc hf P ((hP _ _).2 ⟨none, none, none, none, rfl⟩) (by
    rintro ys ⟨m, j⟩ hpre env hp
    obtain ⟨b3, b4, b5, b6, rfl⟩ := (hP _ _).1 hp
    have hmem := (List.mem_zipIdx (pre_mem hpre)).2.2
    have hmm : m ∈ r.moves := by
      have := (List.mem_zipIdx (pre_mem hpre))
      rw [this.2.2]; exact List.getElem_mem _
    have hmk := hk m hmm
    have hyl := pre_le hpre
    rw [List.length_zipIdx] at hyl
    have hst := c_staying (tbl := tbl) (sub := sub) (n + 1) o.copies r.copies.length
    have hmd := c_made_in (tbl := tbl) (sub := sub) (n + 1) m
    have hmv := fun h => c_moved (tbl := tbl) (sub := sub) n m h 0 0 none (m.ls ++ stayT o.copies r.copies.length)
    have hsl : (stayT o.copies r.copies.length).length ≤ 6 := by simp [stayT]; omega
    simp (disch := first | omega | (simp only [List.length_cons, List.length_nil, List.length_map, List.length_append, List.length_range, List.length_take, List.length_drop, cap]; omega) | (simp [cap] <;> omega) | fail) [-List.map_map, -List.map_append, -List.filter_append, v_addL, v_addT, i_mulR, mul_li, mul_ti, app_do, ext_do, ext_do2, ins_do, cut_to, cut_from, puts, loopF, hst, rg_ok, rangeD]
    rw [← List.map_append]
    generalize hf : fors _ _ _ = t
    obtain ⟨Q, hQ⟩ : ∃ Q : List Nat → Env → Prop, ∀ zs e, Q zs e ↔ ∃ (b6 : Option O), e = [some (O.sh r.d), some (O.sh o.d), some (own (((ys.flatMap fun p => ((List.range r.halls).filter (madeIn p.1)).map fun h => (p.2, movedM p.1 h 0 0 none (p.1.ls ++ stayT o.copies r.copies.length))) ++ (zs.filter (madeIn m)).map fun h => (j, movedM m h 0 0 none (m.ls ++ stayT o.copies r.copies.length))).map nmD)), some (.sh (natD j)), some (.sh m.d), some (.sh (.tup ((m.ls ++ stayT o.copies r.copies.length).map tgtD))), b6] := ⟨_, fun _ _ => Iff.rfl⟩
    obtain ⟨_, hp, rfl⟩ := for_acc hf Q ((hQ _ _).2 ⟨b6, by simp⟩) (by
      intro zs x hpre2 env hp
      obtain ⟨b6, rfl⟩ := (hQ _ _).1 hp
      obtain ⟨hx, hx2⟩ := pre_range hpre2
      have hl1 : (ys.flatMap fun p => ((List.range r.halls).filter (madeIn p.1)).map fun h => (p.2, movedM p.1 h 0 0 none (p.1.ls ++ stayT o.copies r.copies.length))).length ≤ ys.length * 4 := flat_len fun p _ => by
        rw [List.length_map]; exact Nat.le_trans filt_len hh
      have hl2 : (zs.filter (madeIn m)).length ≤ zs.length := List.length_filter_le _ _
      have hmv := c_moved (tbl := tbl) (sub := sub) n m x 0 0 none (m.ls ++ stayT o.copies r.copies.length)
      simp (disch := first | omega | (simp only [List.length_cons, List.length_nil, List.length_map, List.length_append, List.length_range, List.length_take, List.length_drop, cap]; omega) | (simp [cap] <;> omega) | fail) [-List.map_map, -List.map_append, -List.filter_append, v_addL, v_addT, i_mulR, mul_li, mul_ti, app_do, ext_do, ext_do2, ins_do, cut_to, cut_from, puts, loopF, hmd]
      cases hmi : madeIn m x with
      | false =>
        simp (disch := first | omega | (simp only [List.length_cons, List.length_nil, List.length_map, List.length_append, List.length_range, List.length_take, List.length_drop, cap]; omega) | (simp [cap] <;> omega) | fail) [-List.map_map, -List.map_append, -List.filter_append, v_addL, v_addT, i_mulR, mul_li, mul_ti, app_do, ext_do, ext_do2, ins_do, cut_to, cut_from, puts]
        exact (hQ _ _).2 ⟨_, by rw [filt_snoc]; simp [hmi]; rfl⟩
      | true =>
        have hmv : call tbl sub (n + 2) 270 [.sh m.d, .sh (natD x), .sh (.int 0), .sh (.int 0), .sh .non, .sh (.tup ((m.ls ++ stayT o.copies r.copies.length).map tgtD))] = _ := hmv
        simp (disch := first | omega | (simp only [List.length_cons, List.length_nil, List.length_map, List.length_append, List.length_range, List.length_take, List.length_drop, cap]; omega) | (simp [cap] <;> omega) | fail) [-List.map_map, -List.map_append, -List.filter_append, v_addL, v_addT, i_mulR, mul_li, mul_ti, app_do, ext_do, ext_do2, ins_do, cut_to, cut_from, puts, hmv]
        exact (hQ _ _).2 ⟨_, by rw [filt_snoc]; simp [hmi]; exact ⟨rfl, rfl⟩⟩)
    obtain ⟨b6, rfl⟩ := (hQ _ _).1 hp
    simp (disch := first | omega | (simp only [List.length_cons, List.length_nil, List.length_map, List.length_append, List.length_range, List.length_take, List.length_drop, cap]; omega) | (simp [cap] <;> omega) | fail) [-List.map_map, -List.map_append, -List.filter_append, v_addL, v_addT, i_mulR, mul_li, mul_ti, app_do, ext_do, ext_do2, ins_do, cut_to, cut_from, puts]
    exact (hP _ _).2 ⟨_, _, _, _, by rw [flat_snoc]⟩)
  obtain ⟨b3, b4, b5, b6, rfl⟩ := (hP _ _).1 hp
  simp (disch := first | omega | (simp only [List.length_cons, List.length_nil, List.length_map, List.length_append, List.length_range, List.length_take, List.length_drop, cap]; omega) | (simp [cap] <;> omega) | fail) [-List.map_map, -List.map_append, -List.filter_append, v_addL, v_addT, i_mulR, mul_li, mul_ti, app_do, ext_do, ext_do2, ins_do, cut_to, cut_from, puts, firstMs]
/-- the change, as moves -/
def chLs (r o : Rls) (kinds : List Nat) : List Tgt := kinds.map (fun k => (r.copies.length + k, if gb o.copies k = true then some Src.own else none)) ++ o.copies.map fun _ => (0, none)
def chM (r o : Rls) (halls kinds : List Nat) (h : Nat) : Mv := ⟨some h, some (r.halls + gn halls h), false, .mem, none, [], [], chLs r o kinds⟩
def nnD (m : Mv) : D := .tup [.non, m.d]
theorem c_change_moves (n : Nat) (r o : Rls) (halls kinds : List Nat) (hh : r.halls ≤ 4) (hhl : halls.length = r.halls) (hk : ∀ k ∈ kinds, k < o.copies.length) (hkl : kinds.length ≤ 6) (ho : o.copies.length ≤ 6) : call tbl sub (n + 1) 272 [.sh r.d, .sh o.d, .sh (.tup (halls.map natD)), .sh (.tup (kinds.map natD))] = .ret (.sh (.lst (((List.range r.halls).map (chM r o halls kinds)).map nnD))) [] := by
  rw [call_has rfl]
  simp (disch := first | omega | (simp only [List.length_cons, List.length_nil, List.length_map, List.length_append, List.length_range, List.length_take, List.length_drop, cap]; omega) | (simp [cap] <;> omega) | fail) [-List.map_map, -List.map_append, -List.filter_append, v_addL, v_addT, i_mulR, mul_li, mul_ti, app_do, ext_do, ext_do2, ins_do, cut_to, cut_from, puts, f_change_moves]
  generalize hf : turns _ _ _ _ = t
  have := turn_mapE hf (fun k => tgtD (r.copies.length + k, if gb o.copies k = true then some .own else none)) (by
    intro k hk2
    simp (disch := first | omega | (simp only [List.length_cons, List.length_nil, List.length_map, List.length_append, List.length_range, List.length_take, List.length_drop, cap]; omega) | (simp [cap] <;> omega) | fail) [-List.map_map, -List.map_append, -List.filter_append, v_addL, v_addT, i_mulR, mul_li, mul_ti, app_do, ext_do, ext_do2, ins_do, cut_to, cut_from, puts, turnF, nt_bl (hk k hk2)]
    cases gb o.copies k <;> simp (disch := first | omega | (simp only [List.length_cons, List.length_nil, List.length_map, List.length_append, List.length_range, List.length_take, List.length_drop, cap]; omega) | (simp [cap] <;> omega) | fail) [-List.map_map, -List.map_append, -List.filter_append, v_addL, v_addT, i_mulR, mul_li, mul_ti, app_do, ext_do, ext_do2, ins_do, cut_to, cut_from, puts, tgtD, optD, Src.d])
  subst this
  clear hf
  simp (disch := first | omega | (simp only [List.length_cons, List.length_nil, List.length_map, List.length_append, List.length_range, List.length_take, List.length_drop, cap]; omega) | (simp [cap] <;> omega) | fail) [-List.map_map, -List.map_append, -List.filter_append, v_addL, v_addT, i_mulR, mul_li, mul_ti, app_do, ext_do, ext_do2, ins_do, cut_to, cut_from, puts]
  generalize hf : turns _ _ _ _ = t
  have := turn_mapE hf (fun _ => tgtD (0, none)) (by
    intro k _
    simp (disch := first | omega | (simp only [List.length_cons, List.length_nil, List.length_map, List.length_append, List.length_range, List.length_take, List.length_drop, cap]; omega) | (simp [cap] <;> omega) | fail) [-List.map_map, -List.map_append, -List.filter_append, v_addL, v_addT, i_mulR, mul_li, mul_ti, app_do, ext_do, ext_do2, ins_do, cut_to, cut_from, puts, turnF, tgtD, optD, n0_d])
  subst this
  clear hf
  simp (disch := first | omega | (simp only [List.length_cons, List.length_nil, List.length_map, List.length_append, List.length_range, List.length_take, List.length_drop, cap]; omega) | (simp [cap] <;> omega) | fail) [-List.map_map, -List.map_append, -List.filter_append, v_addL, v_addT, i_mulR, mul_li, mul_ti, app_do, ext_do, ext_do2, ins_do, cut_to, cut_from, puts]
  rw [show List.map (fun k => tgtD (r.copies.length + k, if gb o.copies k = true then some Src.own else none)) kinds ++ List.map (fun _ => tgtD (0, none)) o.copies = (chLs r o kinds).map tgtD by
    unfold chLs; rw [List.map_append, List.map_map, List.map_map]; rfl]
  simp (disch := first | omega | (simp only [List.length_cons, List.length_nil, List.length_map, List.length_append, List.length_range, List.length_take, List.length_drop, cap]; omega) | (simp [cap] <;> omega) | fail) [-List.map_map, -List.map_append, -List.filter_append, v_addL, v_addT, i_mulR, mul_li, mul_ti, app_do, ext_do, ext_do2, ins_do, cut_to, cut_from, puts, rg_ok, rangeD]
  generalize hf : fors _ _ _ = t
  obtain ⟨P, hP⟩ : ∃ P : List Nat → Env → Prop, ∀ ys e, P ys e ↔ ∃ (b7 : Option O), e = [some (O.sh r.d), some (O.sh o.d), some (O.sh (.tup (halls.map natD))), some (O.sh (.tup (kinds.map natD))), some (O.sh (natD r.copies.length)), some (O.sh (.tup ((chLs r o kinds).map tgtD))), some (own ((ys.map (chM r o halls kinds)).map nnD)), b7, none, none] := ⟨_, fun _ _ => Iff.rfl⟩
  obtain ⟨_, hp, rfl⟩ := for_acc hf P ((hP _ _).2 ⟨none, rfl⟩) (by
    rintro ys x hpre env hp
    obtain ⟨b7, rfl⟩ := (hP _ _).1 hp
    obtain ⟨hx, hx2⟩ := pre_range hpre
    have hx3 : x < halls.length := by omega
    simp (disch := first | omega | (simp only [List.length_cons, List.length_nil, List.length_map, List.length_append, List.length_range, List.length_take, List.length_drop, cap]; omega) | (simp [cap] <;> omega) | fail) [-List.map_map, -List.map_append, -List.filter_append, v_addL, v_addT, i_mulR, mul_li, mul_ti, app_do, ext_do, ext_do2, ins_do, cut_to, cut_from, puts, loopF, nt_nat hx3]
    exact (hP _ _).2 ⟨_, by rw [List.map_append, List.map_append]; simp [chM, Mv.d, nnD, optD, Src.d]; rfl⟩)
  obtain ⟨b7, rfl⟩ := (hP _ _).1 hp
  simp (disch := first | omega | (simp only [List.length_cons, List.length_nil, List.length_map, List.length_append, List.length_range, List.length_take, List.length_drop, cap]; omega) | (simp [cap] <;> omega) | fail) [-List.map_map, -List.map_append, -List.filter_append, v_addL, v_addT, i_mulR, mul_li, mul_ti, app_do, ext_do, ext_do2, ins_do, cut_to, cut_from, puts]
/-- the others' moves -/
def otherLs (r o : Rls) (m : Mv) : List Tgt := stayT r.copies 0 ++ m.ls.map fun t => (r.copies.length + t.1, t.2)
def otherMs (r o : Rls) : List (Nat × Mv) := o.moves.zipIdx.flatMap fun p => ((List.range o.halls).filter (madeIn p.1)).map fun h => (p.2, movedM p.1 h r.halls r.copies.length p.1.rd (otherLs r o p.1))
theorem c_other_moves (n : Nat) (r o : Rls) (hm : o.moves.length ≤ 12) (hh : o.halls ≤ 4) (hk : ∀ m ∈ o.moves, m.ls.length ≤ 6) (ho : r.copies.length ≤ 6) : call tbl sub (n + 3) 273 [.sh r.d, .sh o.d] = .ret (.sh (.lst ((otherMs r o).map nmD))) [] := by
  rw [call_has rfl]
  simp (disch := first | omega | (simp only [List.length_cons, List.length_nil, List.length_map, List.length_append, List.length_range, List.length_take, List.length_drop, cap]; omega) | (simp [cap] <;> omega) | fail) [-List.map_map, -List.map_append, -List.filter_append, v_addL, v_addT, i_mulR, mul_li, mul_ti, app_do, ext_do, ext_do2, ins_do, cut_to, cut_from, puts, f_other_moves, enum_map]
  generalize hf : fors _ _ _ = t
  obtain ⟨P, hP⟩ : ∃ P : List (Mv × Nat) → Env → Prop, ∀ ys e, P ys e ↔ ∃ (b4 b5 b6 b7 b8 b9 : Option O), e = [some (O.sh r.d), some (O.sh o.d), some (.sh (natD r.copies.length)), some (own ((ys.flatMap fun p => ((List.range o.halls).filter (madeIn p.1)).map fun h => (p.2, movedM p.1 h r.halls r.copies.length p.1.rd (otherLs r o p.1))).map nmD)), b4, b5, b6, b7, none, none] := ⟨_, fun _ _ => Iff.rfl⟩
  obtain ⟨_, hp, rfl⟩ := for_acc hf P ((hP _ _).2 ⟨none, none, none, none, none, none, rfl⟩) (by
    rintro ys ⟨m, j⟩ hpre env hp
    obtain ⟨b4, b5, b6, b7, b8, b9, rfl⟩ := (hP _ _).1 hp
    have hmm : m ∈ o.moves := by
      have := (List.mem_zipIdx (pre_mem hpre))
      rw [this.2.2]; exact List.getElem_mem _
    have hmk := hk m hmm
    have hyl := pre_le hpre
    rw [List.length_zipIdx] at hyl
    have hst : call tbl sub (n + 2) 269 [.sh (.tup (r.copies.map D.bl)), .sh (.int 0)] = _ := c_staying (tbl := tbl) (sub := sub) (n + 1) r.copies 0
    have hmd := c_made_in (tbl := tbl) (sub := sub) (n + 1) m
    have hsl : (stayT r.copies 0).length ≤ 6 := by simp [stayT]; omega
    simp (disch := first | omega | (simp only [List.length_cons, List.length_nil, List.length_map, List.length_append, List.length_range, List.length_take, List.length_drop, cap]; omega) | (simp [cap] <;> omega) | fail) [-List.map_map, -List.map_append, -List.filter_append, v_addL, v_addT, i_mulR, mul_li, mul_ti, app_do, ext_do, ext_do2, ins_do, cut_to, cut_from, puts, loopF, hst]
    generalize hf : turns _ _ _ _ = t
    have := turn_mapE hf (fun t => tgtD (r.copies.length + t.1, t.2)) (by
      intro k _
      simp (disch := first | omega | (simp only [List.length_cons, List.length_nil, List.length_map, List.length_append, List.length_range, List.length_take, List.length_drop, cap]; omega) | (simp [cap] <;> omega) | fail) [-List.map_map, -List.map_append, -List.filter_append, v_addL, v_addT, i_mulR, mul_li, mul_ti, app_do, ext_do, ext_do2, ins_do, cut_to, cut_from, puts, turnF, tgtD])
    subst this
    clear hf
    simp (disch := first | omega | (simp only [List.length_cons, List.length_nil, List.length_map, List.length_append, List.length_range, List.length_take, List.length_drop, cap]; omega) | (simp [cap] <;> omega) | fail) [-List.map_map, -List.map_append, -List.filter_append, v_addL, v_addT, i_mulR, mul_li, mul_ti, app_do, ext_do, ext_do2, ins_do, cut_to, cut_from, puts]
    rw [show List.map tgtD (stayT r.copies 0) ++ List.map (fun t : Tgt => tgtD (r.copies.length + t.1, t.2)) m.ls = (otherLs r o m).map tgtD by unfold otherLs; rw [List.map_append, List.map_map]; rfl]
    simp (disch := first | omega | (simp only [List.length_cons, List.length_nil, List.length_map, List.length_append, List.length_range, List.length_take, List.length_drop, cap]; omega) | (simp [cap] <;> omega) | fail) [-List.map_map, -List.map_append, -List.filter_append, v_addL, v_addT, i_mulR, mul_li, mul_ti, app_do, ext_do, ext_do2, ins_do, cut_to, cut_from, puts, rg_ok, rangeD]
    generalize hf : fors _ _ _ = t
    obtain ⟨Q, hQ⟩ : ∃ Q : List Nat → Env → Prop, ∀ zs e, Q zs e ↔ ∃ (b6 : Option O), e = [some (O.sh r.d), some (O.sh o.d), some (.sh (natD r.copies.length)), some (own (((ys.flatMap fun p => ((List.range o.halls).filter (madeIn p.1)).map fun h => (p.2, movedM p.1 h r.halls r.copies.length p.1.rd (otherLs r o p.1))) ++ (zs.filter (madeIn m)).map fun h => (j, movedM m h r.halls r.copies.length m.rd (otherLs r o m))).map nmD)), some (.sh (natD j)), some (.sh m.d), some (.sh (.tup ((otherLs r o m).map tgtD))), b6, none, none] := ⟨_, fun _ _ => Iff.rfl⟩
    obtain ⟨_, hp, rfl⟩ := for_acc hf Q ((hQ _ _).2 ⟨_, by simp; rfl⟩) (by
      intro zs x hpre2 env hp
      obtain ⟨b6, rfl⟩ := (hQ _ _).1 hp
      obtain ⟨hx, hx2⟩ := pre_range hpre2
      have hl1 : (ys.flatMap fun p => ((List.range o.halls).filter (madeIn p.1)).map fun h => (p.2, movedM p.1 h r.halls r.copies.length p.1.rd (otherLs r o p.1))).length ≤ ys.length * 4 := flat_len fun p _ => by
        rw [List.length_map]; exact Nat.le_trans filt_len hh
      have hl2 : (zs.filter (madeIn m)).length ≤ zs.length := List.length_filter_le _ _
      have hmv := c_moved (tbl := tbl) (sub := sub) n m x r.halls r.copies.length m.rd (otherLs r o m)
      simp (disch := first | omega | (simp only [List.length_cons, List.length_nil, List.length_map, List.length_append, List.length_range, List.length_take, List.length_drop, cap]; omega) | (simp [cap] <;> omega) | fail) [-List.map_map, -List.map_append, -List.filter_append, v_addL, v_addT, i_mulR, mul_li, mul_ti, app_do, ext_do, ext_do2, ins_do, cut_to, cut_from, puts, loopF, hmd]
      cases hmi : madeIn m x with
      | false =>
        simp (disch := first | omega | (simp only [List.length_cons, List.length_nil, List.length_map, List.length_append, List.length_range, List.length_take, List.length_drop, cap]; omega) | (simp [cap] <;> omega) | fail) [-List.map_map, -List.map_append, -List.filter_append, v_addL, v_addT, i_mulR, mul_li, mul_ti, app_do, ext_do, ext_do2, ins_do, cut_to, cut_from, puts]
        exact (hQ _ _).2 ⟨_, by rw [filt_snoc]; simp [hmi]; rfl⟩
      | true =>
        simp (disch := first | omega | (simp only [List.length_cons, List.length_nil, List.length_map, List.length_append, List.length_range, List.length_take, List.length_drop, cap]; omega) | (simp [cap] <;> omega) | fail) [-List.map_map, -List.map_append, -List.filter_append, v_addL, v_addT, i_mulR, mul_li, mul_ti, app_do, ext_do, ext_do2, ins_do, cut_to, cut_from, puts, hmv]
        exact (hQ _ _).2 ⟨_, by rw [filt_snoc]; simp [hmi]; exact ⟨rfl, rfl⟩⟩)
    obtain ⟨b6, rfl⟩ := (hQ _ _).1 hp
    simp (disch := first | omega | (simp only [List.length_cons, List.length_nil, List.length_map, List.length_append, List.length_range, List.length_take, List.length_drop, cap]; omega) | (simp [cap] <;> omega) | fail) [-List.map_map, -List.map_append, -List.filter_append, v_addL, v_addT, i_mulR, mul_li, mul_ti, app_do, ext_do, ext_do2, ins_do, cut_to, cut_from, puts]
    exact (hP _ _).2 ⟨_, _, _, _, none, none, by rw [flat_snoc]⟩)
  obtain ⟨b4, b5, b6, b7, b8, b9, rfl⟩ := (hP _ _).1 hp
  simp (disch := first | omega | (simp only [List.length_cons, List.length_nil, List.length_map, List.length_append, List.length_range, List.length_take, List.length_drop, cap]; omega) | (simp [cap] <;> omega) | fail) [-List.map_map, -List.map_append, -List.filter_append, v_addL, v_addT, i_mulR, mul_li, mul_ti, app_do, ext_do, ext_do2, ins_do, cut_to, cut_from, puts, otherMs]
def unionMs (r o : Rls) (halls kinds : List Nat) : List Mv := (firstMs r o).map (·.2) ++ (List.range r.halls).map (chM r o halls kinds) ++ (otherMs r o).map (·.2)
def onD (p : Option Nat × Mv) : D := .tup [optD natD p.1, p.2.d]
def unionPs (r o : Rls) (halls kinds : List Nat) : List (Option Nat × Mv) := (firstMs r o).map (fun p => (some p.1, p.2)) ++ (List.range r.halls).map (fun h => (none, chM r o halls kinds h)) ++ (otherMs r o).map fun p => (some p.1, p.2)
theorem c_union_moves (n : Nat) (r o : Rls) (halls kinds : List Nat) (hm : r.moves.length ≤ 12) (hh : r.halls ≤ 4) (hk : ∀ m ∈ r.moves, m.ls.length ≤ 6) (hc : r.copies.length ≤ 6) (hm' : o.moves.length ≤ 12) (hh' : o.halls ≤ 4) (hk' : ∀ m ∈ o.moves, m.ls.length ≤ 6) (hc' : o.copies.length ≤ 6)
    (hhl : halls.length = r.halls) (hkk : ∀ k ∈ kinds, k < o.copies.length) (hkl : kinds.length ≤ 6) : call tbl sub (n + 4) 274 [.sh r.d, .sh o.d, .sh (.tup (halls.map natD)), .sh (.tup (kinds.map natD))] = .ret (.sh (.lst ((unionPs r o halls kinds).map onD))) [] := by
  rw [call_has rfl]
  have h1 := c_first_moves (tbl := tbl) (sub := sub) n r o hm hh hk hc'
  have h2 := c_change_moves (tbl := tbl) (sub := sub) (n + 2) r o halls kinds hh hhl hkk hkl hc'
  have h3 := c_other_moves (tbl := tbl) (sub := sub) n r o hm' hh' hk' hc
  have l1 : (firstMs r o).length ≤ 48 := Nat.le_trans (flat_len (k := 4) fun p _ => by rw [List.length_map]; exact Nat.le_trans filt_len hh) (by rw [List.length_zipIdx]; omega)
  have l3 : (otherMs r o).length ≤ 48 := Nat.le_trans (flat_len (k := 4) fun p _ => by rw [List.length_map]; exact Nat.le_trans filt_len hh') (by rw [List.length_zipIdx]; omega)
  simp (disch := first | omega | (simp only [List.length_cons, List.length_nil, List.length_map, List.length_append, List.length_range, List.length_take, List.length_drop, cap]; omega) | (simp [cap] <;> omega) | fail) [-List.map_map, -List.map_append, -List.filter_append, v_addL, v_addT, i_mulR, mul_li, mul_ti, app_do, ext_do, ext_do2, ins_do, cut_to, cut_from, puts, f_union_moves, h1, h2, h3, unionPs]
  rw [List.map_append, List.map_append]
  simp only [List.map_map]
  rfl
/-- the promises -/
def hallsOf (p : Pat) (halls : Nat) : List Nat := match p.1 with
  | none => List.range halls
  | some h => [h]
def unionPr (r o : Rls) : List Pat := o.proms.flatMap fun p => (hallsOf p o.halls).map fun h => (some (r.halls + h), p.2.map (r.copies.length + ·))
theorem halls_len {p : Pat} {k : Nat} (hk : k ≤ 4) : (hallsOf p k).length ≤ 4 := by
  unfold hallsOf
  split <;> simp [hk]
theorem c_union_promises (n : Nat) (r o : Rls) (hh : o.halls ≤ 4) (hp : o.proms.length ≤ 4) : call tbl sub (n + 1) 275 [.sh r.d, .sh o.d] = .ret (.sh (.tup ((unionPr r o).map patD))) [] := by
  rw [call_has rfl]
  simp (disch := first | omega | (simp only [List.length_cons, List.length_nil, List.length_map, List.length_append, List.length_range, List.length_take, List.length_drop, cap]; omega) | (simp [cap] <;> omega) | fail) [-List.map_map, -List.map_append, -List.filter_append, v_addL, v_addT, i_mulR, mul_li, mul_ti, app_do, ext_do, ext_do2, ins_do, cut_to, cut_from, puts, f_union_promises]
  generalize hf : fors _ _ _ = t
  obtain ⟨P, hP⟩ : ∃ P : List Pat → Env → Prop, ∀ ys e, P ys e ↔ ∃ (b3 b4 b5 : Option O), e = [some (O.sh r.d), some (O.sh o.d), some (own ((ys.flatMap fun p => (hallsOf p o.halls).map fun h => (some (r.halls + h), p.2.map (r.copies.length + ·))).map patD)), b3, b4, b5, none] := ⟨_, fun _ _ => Iff.rfl⟩
  obtain ⟨_, hp, rfl⟩ := for_accE hf P ((hP _ _).2 ⟨none, none, none, rfl⟩) (by
    rintro ys p hpre env hp
    obtain ⟨b3, b4, b5, rfl⟩ := (hP _ _).1 hp
    have hyl := pre_le hpre
    have hin : ∀ (acc : List Pat) (xs : List Nat) (s : SOut) (b5 : Option O), acc.length ≤ 20 → xs.length ≤ 4 → fors (loopF (call tbl sub n) (ioT tbl) sub (Tg.nm 5) (Ss.cons (S.app 2 (E.tup (Es.cons (E.bin B2.add ((E.var 0).sub (E.lit (D.int 1))) (E.var 5)) (Es.cons (E.un U1.tuple (E.comp false [6] (E.bin B2.add (E.un U1.len ((E.var 0).sub (E.lit (D.int 0)))) (E.var 6)) (Tg.nm 6) (It.seq (E.var 4)) Ts.nil)) Es.nil)))) Ss.nil))
          ((xs.map natD).map O.sh) [some (O.sh r.d), some (O.sh o.d), some (own (acc.map patD)), some (.sh (optD natD p.1)), some (.sh (.tup (p.2.map natD))), b5, none] = s →
        ∃ b5, s = .nx [some (O.sh r.d), some (O.sh o.d), some (own ((acc ++ xs.map fun h => (some (r.halls + h), p.2.map (r.copies.length + ·))).map patD)), some (.sh (optD natD p.1)), some (.sh (.tup (p.2.map natD))), b5, none] := by
      intro acc xs s b5 hacc hxs hf
      obtain ⟨Q, hQ⟩ : ∃ Q : List Nat → Env → Prop, ∀ zs e, Q zs e ↔ ∃ (b5 : Option O), e = [some (O.sh r.d), some (O.sh o.d), some (own ((acc ++ zs.map fun h => (some (r.halls + h), p.2.map (r.copies.length + ·))).map patD)), some (.sh (optD natD p.1)), some (.sh (.tup (p.2.map natD))), b5, none] := ⟨_, fun _ _ => Iff.rfl⟩
      obtain ⟨_, hp, rfl⟩ := for_accE hf Q ((hQ _ _).2 ⟨b5, by simp⟩) (by
        intro zs x hpre2 env hp
        obtain ⟨b6, rfl⟩ := (hQ _ _).1 hp
        have hx := pre_le hpre2
        simp (disch := first | omega | (simp only [List.length_cons, List.length_nil, List.length_map, List.length_append, List.length_range, List.length_take, List.length_drop, cap]; omega) | (simp [cap] <;> omega) | fail) [-List.map_map, -List.map_append, -List.filter_append, v_addL, v_addT, i_mulR, mul_li, mul_ti, app_do, ext_do, ext_do2, ins_do, cut_to, cut_from, puts, loopF]
        generalize hf : turns _ _ _ _ = t
        have := turn_mapE hf (fun k => natD (r.copies.length + k)) (fun k _ => by simp (disch := first | omega | (simp only [List.length_cons, List.length_nil, List.length_map, List.length_append, List.length_range, List.length_take, List.length_drop, cap]; omega) | (simp [cap] <;> omega) | fail) [-List.map_map, -List.map_append, -List.filter_append, v_addL, v_addT, i_mulR, mul_li, mul_ti, app_do, ext_do, ext_do2, ins_do, cut_to, cut_from, puts, turnF])
        subst this
        clear hf
        simp (disch := first | omega | (simp only [List.length_cons, List.length_nil, List.length_map, List.length_append, List.length_range, List.length_take, List.length_drop, cap]; omega) | (simp [cap] <;> omega) | fail) [-List.map_map, -List.map_append, -List.filter_append, v_addL, v_addT, i_mulR, mul_li, mul_ti, app_do, ext_do, ext_do2, ins_do, cut_to, cut_from, puts]
        exact (hQ _ _).2 ⟨_, by simp [patD, optD]; exact ⟨rfl, rfl⟩⟩)
      obtain ⟨b6, rfl⟩ := (hQ _ _).1 hp
      exact ⟨_, rfl⟩
    have hl1 : (ys.flatMap fun p => (hallsOf p o.halls).map fun h => (some (r.halls + h), p.2.map (r.copies.length + ·))).length ≤ ys.length * 4 := flat_len fun p _ => by
      rw [List.length_map]; exact halls_len hh
    have hgo := fun s => hin (ys.flatMap fun p => (hallsOf p o.halls).map fun h => (some (r.halls + h), p.2.map (r.copies.length + ·))) (hallsOf p o.halls) s b5 (by omega) (halls_len hh)
    simp (disch := first | omega | (simp only [List.length_cons, List.length_nil, List.length_map, List.length_append, List.length_range, List.length_take, List.length_drop, cap]; omega) | (simp [cap] <;> omega) | fail) [-List.map_map, -List.map_append, -List.filter_append, v_addL, v_addT, i_mulR, mul_li, mul_ti, app_do, ext_do, ext_do2, ins_do, cut_to, cut_from, puts, loopF]
    cases hp0 : p.1 with
    | none =>
      rw [show hallsOf p o.halls = List.range o.halls by unfold hallsOf; rw [hp0]] at hgo
      rw [hp0] at hgo
      simp (disch := first | omega | (simp only [List.length_cons, List.length_nil, List.length_map, List.length_append, List.length_range, List.length_take, List.length_drop, cap]; omega) | (simp [cap] <;> omega) | fail) [-List.map_map, -List.map_append, -List.filter_append, v_addL, v_addT, i_mulR, mul_li, mul_ti, app_do, ext_do, ext_do2, ins_do, cut_to, cut_from, puts, rg_ok, rangeD, own_map]
      obtain ⟨b6, e⟩ := hgo _ rfl
      rw [e]
      simp (disch := first | omega | (simp only [List.length_cons, List.length_nil, List.length_map, List.length_append, List.length_range, List.length_take, List.length_drop, cap]; omega) | (simp [cap] <;> omega) | fail) [-List.map_map, -List.map_append, -List.filter_append, v_addL, v_addT, i_mulR, mul_li, mul_ti, app_do, ext_do, ext_do2, ins_do, cut_to, cut_from, puts]
      exact (hP _ _).2 ⟨_, _, _, by rw [flat_snoc, show hallsOf p o.halls = List.range o.halls by unfold hallsOf; rw [hp0]]⟩
    | some h =>
      rw [show hallsOf p o.halls = [h] by unfold hallsOf; rw [hp0]] at hgo
      rw [hp0] at hgo
      obtain ⟨b6, e⟩ := hgo _ rfl
      simp (disch := first | omega | (simp only [List.length_cons, List.length_nil, List.length_map, List.length_append, List.length_range, List.length_take, List.length_drop, cap]; omega) | (simp [cap] <;> omega) | fail) [-List.map_map, -List.map_append, -List.filter_append, v_addL, v_addT, i_mulR, mul_li, mul_ti, app_do, ext_do, ext_do2, ins_do, cut_to, cut_from, puts, optD]
      rw [show [O.sh (natD h)] = List.map O.sh (List.map natD [h]) from rfl]
      rw [show optD natD (some h) = natD h from rfl] at e
      rw [e]
      simp (disch := first | omega | (simp only [List.length_cons, List.length_nil, List.length_map, List.length_append, List.length_range, List.length_take, List.length_drop, cap]; omega) | (simp [cap] <;> omega) | fail) [-List.map_map, -List.map_append, -List.filter_append, v_addL, v_addT, i_mulR, mul_li, mul_ti, app_do, ext_do, ext_do2, ins_do, cut_to, cut_from, puts]
      exact (hP _ _).2 ⟨_, _, _, by rw [flat_snoc, show hallsOf p o.halls = [h] by unfold hallsOf; rw [hp0]]; rfl⟩)
  obtain ⟨b3, b4, b5, rfl⟩ := (hP _ _).1 hp
  simp (disch := first | omega | (simp only [List.length_cons, List.length_nil, List.length_map, List.length_append, List.length_range, List.length_take, List.length_drop, cap]; omega) | (simp [cap] <;> omega) | fail) [-List.map_map, -List.map_append, -List.filter_append, v_addL, v_addT, i_mulR, mul_li, mul_ti, app_do, ext_do, ext_do2, ins_do, cut_to, cut_from, puts, unionPr]
end
/-! what is a change -/
class CU2 (tbl : Nat → Option FDef) : Prop extends CU1 tbl where
  h5 : tbl 5 = some f_is_in
instance {tbl : Nat → Option FDef} [i : CU2 tbl] : Has tbl 5 f_is_in := ⟨i.h5⟩
def zipB (o : Rls) (r : Rls) (ks : List Nat) : Bool := (ks.zip r.copies).any fun p => gb o.copies p.1 && !p.2
def head0 : List D → Bool
  | .int i :: _ => decide (i = 0)
  | _ => false
def natsD (xs : List D) : List Nat := xs.map fun v => (intD v).toNat
theorem nats_map (xs : List Nat) : natsD (xs.map natD) = xs := by
  unfold natsD
  rw [List.map_map, show (fun v => (intD v).toNat) ∘ natD = id from funext fun k => by simp [intD, natD, -natD_i]]
  simp
def chkB (r o : Rls) (h k : D) : Bool := isRow h r.halls r.halls && (allB (fun v => ltn v (natD o.halls)) (elems h) && (isRow k r.copies.length r.copies.length && (allB (fun v => ltn v (natD o.copies.length)) (elems k) && head0 (elems k) && !zipB o r (natsD (elems k)))))
section
variable {tbl : Nat → Option FDef} {sub : Nat → Nat → Bool} [T : CU1 tbl]
theorem zip_map {α β : Type} {f : α → D} {g : β → D} : ∀ {xs : List α} {ys : List β}, zipD (xs.map f) (ys.map g) = (xs.zip ys).map fun p => O.sh (.tup [f p.1, g p.2])
  | [], _ => by simp [zipD]
  | _ :: _, [] => by simp [zipD]
  | x :: xs, y :: ys => by simp [zipD, zip_map (xs := xs) (ys := ys)]
theorem c_check_change (n : Nat) (r o : Rls) (h k : D) (h1 : 1 ≤ r.copies.length) : call tbl sub (n + 3) 252 [.sh r.d, .sh o.d, .sh h, .sh k] = if chkB r o h k = true then .ret (.sh .non) [] else .exc 10 [] := by
  rw [call_has rfl]
  have c1 : ∀ (v : D) (j : Nat), call tbl sub (n + 2) 2 [.sh v, .sh (natD j), .sh (natD j)] = .ret (.sh (.bl (isRow v j j))) [] := fun v j => c_is_row (tbl := tbl) (sub := sub) (n + 1) v j j
  have c2 : ∀ (v : D) (j : Nat), call tbl sub (n + 2) 1 [.sh v, .sh (natD j)] = .ret (.sh (.bl (ltn v (natD j)))) [] := fun v j => c_is_below (tbl := tbl) (sub := sub) n v j
  unfold chkB
  simp (disch := first | omega | (simp only [List.length_cons, List.length_nil, List.length_map, List.length_append, List.length_range, List.length_take, List.length_drop, cap]; omega) | (simp [cap] <;> omega) | fail) [-List.map_map, -List.map_append, -List.filter_append, v_addL, v_addT, i_mulR, mul_li, mul_ti, app_do, ext_do, ext_do2, ins_do, cut_to, cut_from, puts, f_check_change, c1]
  cases h2 : isRow h r.halls r.halls with
  | false => simp (disch := first | omega | (simp only [List.length_cons, List.length_nil, List.length_map, List.length_append, List.length_range, List.length_take, List.length_drop, cap]; omega) | (simp [cap] <;> omega) | fail) [-List.map_map, -List.map_append, -List.filter_append, v_addL, v_addT, i_mulR, mul_li, mul_ti, app_do, ext_do, ext_do2, ins_do, cut_to, cut_from, puts]
  | true =>
  obtain ⟨hs, rfl, l1, l2⟩ := row_len h2
  simp (disch := first | omega | (simp only [List.length_cons, List.length_nil, List.length_map, List.length_append, List.length_range, List.length_take, List.length_drop, cap]; omega) | (simp [cap] <;> omega) | fail) [-List.map_map, -List.map_append, -List.filter_append, v_addL, v_addT, i_mulR, mul_li, mul_ti, app_do, ext_do, ext_do2, ins_do, cut_to, cut_from, puts]
  generalize hf : turns _ _ _ _ = t
  have := turn_map hf (fun v => .bl (ltn v (natD o.halls))) (fun v _ => by simp (disch := first | omega | (simp only [List.length_cons, List.length_nil, List.length_map, List.length_append, List.length_range, List.length_take, List.length_drop, cap]; omega) | (simp [cap] <;> omega) | fail) [-List.map_map, -List.map_append, -List.filter_append, v_addL, v_addT, i_mulR, mul_li, mul_ti, app_do, ext_do, ext_do2, ins_do, cut_to, cut_from, puts, turnF, c2])
  subst this
  clear hf
  simp (disch := first | omega | (simp only [List.length_cons, List.length_nil, List.length_map, List.length_append, List.length_range, List.length_take, List.length_drop, cap]; omega) | (simp [cap] <;> omega) | fail) [-List.map_map, -List.map_append, -List.filter_append, v_addL, v_addT, i_mulR, mul_li, mul_ti, app_do, ext_do, ext_do2, ins_do, cut_to, cut_from, puts]
  cases h3 : allB (fun v => ltn v (natD o.halls)) hs with
  | false => simp (disch := first | omega | (simp only [List.length_cons, List.length_nil, List.length_map, List.length_append, List.length_range, List.length_take, List.length_drop, cap]; omega) | (simp [cap] <;> omega) | fail) [-List.map_map, -List.map_append, -List.filter_append, v_addL, v_addT, i_mulR, mul_li, mul_ti, app_do, ext_do, ext_do2, ins_do, cut_to, cut_from, puts]
  | true =>
  simp (disch := first | omega | (simp only [List.length_cons, List.length_nil, List.length_map, List.length_append, List.length_range, List.length_take, List.length_drop, cap]; omega) | (simp [cap] <;> omega) | fail) [-List.map_map, -List.map_append, -List.filter_append, v_addL, v_addT, i_mulR, mul_li, mul_ti, app_do, ext_do, ext_do2, ins_do, cut_to, cut_from, puts, c1]
  cases h4 : isRow k r.copies.length r.copies.length with
  | false => simp (disch := first | omega | (simp only [List.length_cons, List.length_nil, List.length_map, List.length_append, List.length_range, List.length_take, List.length_drop, cap]; omega) | (simp [cap] <;> omega) | fail) [-List.map_map, -List.map_append, -List.filter_append, v_addL, v_addT, i_mulR, mul_li, mul_ti, app_do, ext_do, ext_do2, ins_do, cut_to, cut_from, puts]
  | true =>
  obtain ⟨ks, rfl, l3, l4⟩ := row_len h4
  simp (disch := first | omega | (simp only [List.length_cons, List.length_nil, List.length_map, List.length_append, List.length_range, List.length_take, List.length_drop, cap]; omega) | (simp [cap] <;> omega) | fail) [-List.map_map, -List.map_append, -List.filter_append, v_addL, v_addT, i_mulR, mul_li, mul_ti, app_do, ext_do, ext_do2, ins_do, cut_to, cut_from, puts]
  generalize hf : turns _ _ _ _ = t
  have := turn_map hf (fun v => .bl (ltn v (natD o.copies.length))) (fun v _ => by simp (disch := first | omega | (simp only [List.length_cons, List.length_nil, List.length_map, List.length_append, List.length_range, List.length_take, List.length_drop, cap]; omega) | (simp [cap] <;> omega) | fail) [-List.map_map, -List.map_append, -List.filter_append, v_addL, v_addT, i_mulR, mul_li, mul_ti, app_do, ext_do, ext_do2, ins_do, cut_to, cut_from, puts, turnF, c2])
  subst this
  clear hf
  simp (disch := first | omega | (simp only [List.length_cons, List.length_nil, List.length_map, List.length_append, List.length_range, List.length_take, List.length_drop, cap]; omega) | (simp [cap] <;> omega) | fail) [-List.map_map, -List.map_append, -List.filter_append, v_addL, v_addT, i_mulR, mul_li, mul_ti, app_do, ext_do, ext_do2, ins_do, cut_to, cut_from, puts]
  cases h5 : allB (fun v => ltn v (natD o.copies.length)) ks with
  | false => simp (disch := first | omega | (simp only [List.length_cons, List.length_nil, List.length_map, List.length_append, List.length_range, List.length_take, List.length_drop, cap]; omega) | (simp [cap] <;> omega) | fail) [-List.map_map, -List.map_append, -List.filter_append, v_addL, v_addT, i_mulR, mul_li, mul_ti, app_do, ext_do, ext_do2, ins_do, cut_to, cut_from, puts]
  | true =>
  obtain ⟨js, rfl, hjs⟩ := of_all (g := natD) (P := fun j => j < o.copies.length) h5 fun v hv => of_ltn hv
  have l5 : js.length = r.copies.length := by simp at l3 l4; omega
  have l6 : 0 < js.length := by omega
  have e2 : head0 (js.map natD) = decide (gn js 0 = 0) := by
    cases js with
    | nil => simp at l6
    | cons j0 js =>
      show decide ((j0 : Int) = 0) = decide (j0 = 0)
      congr 1
      simp
  have e1 : ∀ b env, subO b (.sh (.tup (js.map natD))) (.int 0) env = .ok (.sh (natD (gn js 0))) env := fun b env => ok_nat (j := 0) l6
  simp (disch := first | omega | (simp only [List.length_cons, List.length_nil, List.length_map, List.length_append, List.length_range, List.length_take, List.length_drop, cap]; omega) | (simp [cap] <;> omega) | fail) [-List.map_map, -List.map_append, -List.filter_append, v_addL, v_addT, i_mulR, mul_li, mul_ti, app_do, ext_do, ext_do2, ins_do, cut_to, cut_from, puts, nats_map, e2, e1]
  by_cases hj : gn js 0 = 0
  · simp (disch := first | omega | (simp only [List.length_cons, List.length_nil, List.length_map, List.length_append, List.length_range, List.length_take, List.length_drop, cap]; omega) | (simp [cap] <;> omega) | fail) [-List.map_map, -List.map_append, -List.filter_append, v_addL, v_addT, i_mulR, mul_li, mul_ti, app_do, ext_do, ext_do2, ins_do, cut_to, cut_from, puts, hj, zip_map]
    generalize hf : turns _ _ _ _ = t
    have := turn_map hf (fun p => .bl (gb o.copies p.1 && !p.2)) (by
      rintro ⟨j, b⟩ hp
      have hj2 : j < o.copies.length := hjs j (List.of_mem_zip hp).1
      simp (disch := first | omega | (simp only [List.length_cons, List.length_nil, List.length_map, List.length_append, List.length_range, List.length_take, List.length_drop, cap]; omega) | (simp [cap] <;> omega) | fail) [-List.map_map, -List.map_append, -List.filter_append, v_addL, v_addT, i_mulR, mul_li, mul_ti, app_do, ext_do, ext_do2, ins_do, cut_to, cut_from, puts, turnF, nt_bl hj2]
      cases gb o.copies j <;> cases b <;> simp (disch := first | omega | (simp only [List.length_cons, List.length_nil, List.length_map, List.length_append, List.length_range, List.length_take, List.length_drop, cap]; omega) | (simp [cap] <;> omega) | fail) [-List.map_map, -List.map_append, -List.filter_append, v_addL, v_addT, i_mulR, mul_li, mul_ti, app_do, ext_do, ext_do2, ins_do, cut_to, cut_from, puts])
    subst this
    clear hf
    have hz : anyB (fun x : Nat × Bool => gb o.copies x.1 && !x.2) (js.zip r.copies) = zipB o r js := rfl
    rw [show (fun x : Nat × Bool => (D.bl (gb o.copies x.1 && !x.2))) = fun x => .bl ((fun x : Nat × Bool => gb o.copies x.1 && !x.2) x) from rfl]
    simp (disch := first | omega | (simp only [List.length_cons, List.length_nil, List.length_map, List.length_append, List.length_range, List.length_take, List.length_drop, cap]; omega) | (simp [cap] <;> omega) | fail) [-List.map_map, -List.map_append, -List.filter_append, v_addL, v_addT, i_mulR, mul_li, mul_ti, app_do, ext_do, ext_do2, ins_do, cut_to, cut_from, puts, hz]
    cases zipB o r js <;> simp (disch := first | omega | (simp only [List.length_cons, List.length_nil, List.length_map, List.length_append, List.length_range, List.length_take, List.length_drop, cap]; omega) | (simp [cap] <;> omega) | fail) [-List.map_map, -List.map_append, -List.filter_append, v_addL, v_addT, i_mulR, mul_li, mul_ti, app_do, ext_do, ext_do2, ins_do, cut_to, cut_from, puts]
  · simp (disch := first | omega | (simp only [List.length_cons, List.length_nil, List.length_map, List.length_append, List.length_range, List.length_take, List.length_drop, cap]; omega) | (simp [cap] <;> omega) | fail) [-List.map_map, -List.map_append, -List.filter_append, v_addL, v_addT, i_mulR, mul_li, mul_ti, app_do, ext_do, ext_do2, ins_do, cut_to, cut_from, puts, hj]
end
/-- a change that goes -/
structure Goes (r o : Rls) (halls kinds : List Nat) : Prop where
  hl : halls.length = r.halls
  hb : ∀ h ∈ halls, h < o.halls
  kl : kinds.length = r.copies.length
  kb : ∀ k ∈ kinds, k < o.copies.length
  k0 : gn kinds 0 = 0
  kz : zipB o r kinds = false
theorem ltn_nat {j k : Nat} : ltn (natD j) (natD k) = decide (j < k) := by
  show (decide ((0 : Int) ≤ j) && decide ((j : Int) < k)) = _
  simp
theorem row_nat {α : Type} {f : α → D} {xs : List α} {k : Nat} : isRow (.tup (xs.map f)) k k = decide (xs.length = k) := by
  simp only [isRow, isTu, Bool.true_and, ln_t, List.length_map]
  by_cases h : xs.length = k
  · simp [h]
  · simp [h]; omega
theorem chk_goes {r o : Rls} {halls kinds : List Nat} (g : Goes r o halls kinds) (h1 : 1 ≤ r.copies.length) : chkB r o (.tup (halls.map natD)) (.tup (kinds.map natD)) = true := by
  unfold chkB
  rw [row_nat, row_nat, el_t, el_t, nats_map, g.kz, decide_eq_true g.hl, decide_eq_true g.kl]
  have a1 : allB (fun v => ltn v (natD o.halls)) (halls.map natD) = true := by
    unfold allB
    rw [List.all_map, List.all_eq_true]
    intro j hj
    show ltn (natD j) (natD o.halls) = true
    rw [ltn_nat]; exact decide_eq_true (g.hb j hj)
  have a2 : allB (fun v => ltn v (natD o.copies.length)) (kinds.map natD) = true := by
    unfold allB
    rw [List.all_map, List.all_eq_true]
    intro j hj
    show ltn (natD j) (natD o.copies.length) = true
    rw [ltn_nat]; exact decide_eq_true (g.kb j hj)
  have a3 : head0 (kinds.map natD) = true := by
    have := g.kl
    have h0 := g.k0
    cases kinds with
    | nil => simp at this; omega
    | cons k ks =>
      have h0 : k = 0 := h0
      subst h0; rfl
  rw [a1, a2, a3]
  rfl
def unionR (r o : Rls) (halls kinds : List Nat) : Rls := ⟨r.copies ++ o.copies, r.halls + o.halls, (unionPs r o halls kinds).map (·.2), unionPr r o⟩
section
variable {tbl : Nat → Option FDef} {sub : Nat → Nat → Bool} [T : CU1 tbl]
theorem c_union_bad (n : Nat) (r o : Rls) (h k : D) (h1 : 1 ≤ r.copies.length) (hc : chkB r o h k = false) : call tbl sub (n + 4) 276 [.sh r.d, .sh o.d, .sh h, .sh k] = .exc 10 [] := by
  rw [call_has rfl]
  have c1 := c_check_change (tbl := tbl) (sub := sub) n r o h k h1
  rw [hc] at c1
  simp only [Bool.false_eq_true, if_false] at c1
  simp (disch := first | omega | (simp only [List.length_cons, List.length_nil, List.length_map, List.length_append, List.length_range, List.length_take, List.length_drop, cap]; omega) | (simp [cap] <;> omega) | fail) [-List.map_map, -List.map_append, -List.filter_append, v_addL, v_addT, i_mulR, mul_li, mul_ti, app_do, ext_do, ext_do2, ins_do, cut_to, cut_from, puts, f_union, c1]
theorem c_union (n : Nat) (r o : Rls) (halls kinds : List Nat) (g : Goes r o halls kinds) (ok : r.Ok) (ok' : o.Ok) : call tbl sub (n + 5) 276 [.sh r.d, .sh o.d, .sh (.tup (halls.map natD)), .sh (.tup (kinds.map natD))] = .ret (.sh (unionR r o halls kinds).d) [] := by
  rw [call_has rfl]
  have c1 := c_check_change (tbl := tbl) (sub := sub) (n + 1) r o (.tup (halls.map natD)) (.tup (kinds.map natD)) ok.k1
  rw [chk_goes g ok.k1, if_pos rfl] at c1
  have k6 := ok.k6
  have k6' := ok'.k6
  have kl := g.kl
  have c2 := c_union_moves (tbl := tbl) (sub := sub) n r o halls kinds ok.m12 ok.h4 (fun m hm => by have := (ok.moves m hm).ll; omega) ok.k6 ok'.m12 ok'.h4 (fun m hm => by have := (ok'.moves m hm).ll; omega) ok'.k6 g.hl g.kb (by omega)
  have c3 := c_union_promises (tbl := tbl) (sub := sub) (n + 3) r o ok'.h4 ok'.p4
  simp (disch := first | omega | (simp only [List.length_cons, List.length_nil, List.length_map, List.length_append, List.length_range, List.length_take, List.length_drop, cap]; omega) | (simp [cap] <;> omega) | fail) [-List.map_map, -List.map_append, -List.filter_append, v_addL, v_addT, i_mulR, mul_li, mul_ti, app_do, ext_do, ext_do2, ins_do, cut_to, cut_from, puts, f_union, c1, c2, c3]
  generalize hf : turns _ _ _ _ = t
  have := turn_mapE hf (fun p => p.2.d) (fun p _ => by simp (disch := first | omega | (simp only [List.length_cons, List.length_nil, List.length_map, List.length_append, List.length_range, List.length_take, List.length_drop, cap]; omega) | (simp [cap] <;> omega) | fail) [-List.map_map, -List.map_append, -List.filter_append, v_addL, v_addT, i_mulR, mul_li, mul_ti, app_do, ext_do, ext_do2, ins_do, cut_to, cut_from, puts, turnF, onD])
  subst this
  clear hf
  simp (disch := first | omega | (simp only [List.length_cons, List.length_nil, List.length_map, List.length_append, List.length_range, List.length_take, List.length_drop, cap]; omega) | (simp [cap] <;> omega) | fail) [-List.map_map, -List.map_append, -List.filter_append, v_addL, v_addT, i_mulR, mul_li, mul_ti, app_do, ext_do, ext_do2, ins_do, cut_to, cut_from, puts, c3]
  simp only [unionR, Rls.d, List.map_append, List.map_map]
  rfl
end
end Lw
set_option maxHeartbeats 400000
set_option linter.all false
namespace Lw
open Ev
/-! unions, as the law makes them -/
class CU3 (tbl : Nat → Option FDef) : Prop extends CU1 tbl where
  h277 : tbl 277 = some f_law_places_v2
  h278 : tbl 278 = some f_law_due_v3
instance {tbl : Nat → Option FDef} [i : CU3 tbl] : Has tbl 277 f_law_places_v2 := ⟨i.h277⟩
instance {tbl : Nat → Option FDef} [i : CU3 tbl] : Has tbl 278 f_law_due_v3 := ⟨i.h278⟩
def placesOf (m : Mv) (halls : Nat) : List Nat := match m.hall with
  | none => List.range halls
  | some h => [h]
theorem filter_one {n h : Nat} (hh : h < n) : (List.range n).filter (fun k => decide (h = k)) = [h] := by
  induction n with
  | zero => omega
  | succ n ih =>
    rw [List.range_succ, List.filter_append]
    by_cases e : h = n
    · subst e
      rw [List.filter_eq_nil_iff.mpr]
      · simp
      · intro x hx
        have := List.mem_range.mp hx
        simp; omega
    · rw [ih (by omega)]
      simp [e]
theorem places_made {m : Mv} {n k : Nat} (ok : m.Ok k n) : (List.range n).filter (madeIn m) = placesOf m n := by
  unfold placesOf
  cases h : m.hall with
  | none =>
    rw [List.filter_eq_self]
    intro x _
    unfold madeIn
    rw [h]
  | some j =>
    have : madeIn m = fun k => decide (j = k) := by
      funext k
      unfold madeIn
      rw [h]
    rw [this]
    exact filter_one (ok.hall j (by rw [h]; rfl))
def stillT (cs : List Bool) (k : Nat) : Tgt := (k, if gb cs k = true then some .own else none)
theorem stay_eq (xs ys : List Bool) : (((List.range (xs.length + ys.length)).map (stillT (xs ++ ys))).drop xs.length) = stayT ys xs.length := by
  refine List.ext_getElem (by simp [stayT]) fun i h1 h2 => ?_
  simp [stayT] at h2
  simp [stillT, stayT, gb, List.getD_eq_getElem?_getD, List.getElem?_append_right, h2]
theorem stay_eq0 (xs ys : List Bool) : (((List.range (xs.length + ys.length)).map (stillT (xs ++ ys))).take xs.length) = stayT xs 0 := by
  refine List.ext_getElem (by simp [stayT]) fun i h1 h2 => ?_
  simp [stayT] at h2
  simp [stillT, stayT, gb, List.getD_eq_getElem?_getD, List.getElem?_append_left, h2]
theorem zip_flat {α β γ : Type} {g : α → List β} {F : α → β → γ} : ∀ {xs : List α} {k : Nat}, ((xs.zipIdx k).flatMap fun p => (g p.1).map fun h => (p.2, F p.1 h)).map (·.2) = xs.flatMap fun m => (g m).map (F m)
  | [], _ => rfl
  | x :: xs, k => by
    rw [List.zipIdx_cons, List.flatMap_cons, List.map_append, zip_flat (xs := xs), List.flatMap_cons]
    simp
section
variable {tbl : Nat → Option FDef} {sub : Nat → Nat → Bool} [T : CU3 tbl]
theorem l_places (n : Nat) (m : Mv) (h : Nat) (hh : h ≤ 4) : call tbl sub (n + 1) 277 [.sh m.d, .sh (natD h)] = .ret (.sh (.lst ((placesOf m h).map natD))) [] := by
  rw [call_has rfl]
  simp (disch := first | omega | (simp only [List.length_cons, List.length_nil, List.length_map, List.length_append, List.length_range, List.length_take, List.length_drop, cap]; omega) | (simp [cap] <;> omega) | fail) [-List.map_map, -List.map_append, -List.filter_append, v_addL, v_addT, i_mulR, mul_li, mul_ti, app_do, ext_do, ext_do2, ins_do, cut_to, cut_from, puts, f_law_places_v2]
  unfold placesOf
  cases m.hall with
  | none => simp (disch := first | omega | (simp only [List.length_cons, List.length_nil, List.length_map, List.length_append, List.length_range, List.length_take, List.length_drop, cap]; omega) | (simp [cap] <;> omega) | fail) [-List.map_map, -List.map_append, -List.filter_append, v_addL, v_addT, i_mulR, mul_li, mul_ti, app_do, ext_do, ext_do2, ins_do, cut_to, cut_from, puts, optD, rg_ok, rangeD, own_map]
  | some k => simp (disch := first | omega | (simp only [List.length_cons, List.length_nil, List.length_map, List.length_append, List.length_range, List.length_take, List.length_drop, cap]; omega) | (simp [cap] <;> omega) | fail) [-List.map_map, -List.map_append, -List.filter_append, v_addL, v_addT, i_mulR, mul_li, mul_ti, app_do, ext_do, ext_do2, ins_do, cut_to, cut_from, puts, optD]
end
def envU (r o : Rls) (halls kinds : List Nat) (S : List Tgt) (acc : List Mv) (bs : Env) : Env := some (O.sh r.d) :: some (O.sh o.d) :: some (O.sh (.tup (halls.map natD))) :: some (O.sh (.tup (kinds.map natD))) :: some (O.sh (natD r.copies.length)) :: some (O.sh (natD o.copies.length)) :: some (O.sh (.tup ((r.copies ++ o.copies).map D.bl))) ::
  some (O.sh (.lst (S.map tgtD))) :: some (own (acc.map Mv.d)) :: bs
def fst1 (r o : Rls) (m : Mv) : List Mv := (placesOf m r.halls).map fun h => movedM m h 0 0 none (m.ls ++ stayT o.copies r.copies.length)
def fst3 (r o : Rls) (m : Mv) : List Mv := (placesOf m o.halls).map fun h => movedM m h r.halls r.copies.length m.rd (otherLs r o m)
def inHall (p : Pat) (h : Nat) : Bool := match p.1 with
  | none => true
  | some k => decide (k = h)
def fpr (r o : Rls) (p : Pat) : List Pat := ((List.range o.halls).filter (inHall p)).map fun h => (some (r.halls + h), p.2.map (r.copies.length + ·))
theorem pl_len {m : Mv} {k : Nat} (h : k ≤ 4) : (placesOf m k).length ≤ 4 := by unfold placesOf; split <;> simp [h]
theorem moved0 {m : Mv} {h : Nat} {rd : Option Src} {ls : List Tgt} : (movedM m h 0 0 rd ls).d = .tup [natD h, natD (behindH m h), .bl m.w, m.mem.d, optD Src.d rd, .tup (m.ins.map natD), .tup (m.outs.map tgtD), .tup (ls.map tgtD)] := by
  simp [movedM, Mv.d, optD]
theorem flat_congr {α β : Type} {f g : α → List β} : ∀ {xs : List α}, (∀ x ∈ xs, f x = g x) → xs.flatMap f = xs.flatMap g
  | [], _ => rfl
  | x :: xs, h => by rw [List.flatMap_cons, List.flatMap_cons, h x List.mem_cons_self, flat_congr fun y hy => h y (List.mem_cons_of_mem _ hy)]
theorem union_ms {r o : Rls} {halls kinds : List Nat} (ok : r.Ok) (ok' : o.Ok) : r.moves.flatMap (fst1 r o) ++ (List.range r.halls).map (chM r o halls kinds) ++ o.moves.flatMap (fst3 r o) = (unionPs r o halls kinds).map (·.2) := by
  unfold unionPs firstMs otherMs
  rw [List.map_append, List.map_append, List.map_map, List.map_map, List.map_map]
  congr 1
  · congr 1
    have := zip_flat (g := fun m => (List.range r.halls).filter (madeIn m)) (F := fun m h => movedM m h 0 0 none (m.ls ++ stayT o.copies r.copies.length)) (xs := r.moves) (k := 0)
    refine Eq.trans ?_ this.symm
    exact flat_congr fun m hm => by rw [places_made (ok.moves m hm)]; rfl
  · have := zip_flat (g := fun m => (List.range o.halls).filter (madeIn m)) (F := fun m h => movedM m h r.halls r.copies.length m.rd (otherLs r o m)) (xs := o.moves) (k := 0)
    refine Eq.trans ?_ this.symm
    exact flat_congr fun m hm => by rw [places_made (ok'.moves m hm)]; rfl
theorem fpr_all {r o : Rls} (ok' : o.Ok) : o.proms.flatMap (fpr r o) = unionPr r o := by
  unfold unionPr
  refine flat_congr fun p hp => ?_
  unfold fpr hallsOf
  cases h : p.1 with
  | none =>
    have : (List.range o.halls).filter (inHall p) = List.range o.halls := by
      rw [List.filter_eq_self]
      intro x _
      unfold inHall
      rw [h]
    rw [this]
  | some j =>
    have e : inHall p = fun k => decide (j = k) := by
      funext k
      unfold inHall
      rw [h]
    rw [e, filter_one ((ok'.proms p hp).1 j (by rw [h]; rfl))]
section
variable {tbl : Nat → Option FDef} {sub : Nat → Nat → Bool} [T : CU3 tbl]
theorem l_due_union (n : Nat) (r o : Rls) (halls kinds : List Nat) (g : Goes r o halls kinds) (ok : r.Ok) (ok' : o.Ok) : call tbl sub (n + 3) 278 [.sh r.d, .sh o.d, .sh (.tup (halls.map natD)), .sh (.tup (kinds.map natD))] = .ret (.sh (unionR r o halls kinds).d) [] := by
  rw [call_has rfl]
  have k6 := ok.k6
  have k6' := ok'.k6
  have h4 := ok.h4
  have h4' := ok'.h4
  have m12 := ok.m12
  have m12' := ok'.m12
  simp (disch := first | omega | (simp only [List.length_cons, List.length_nil, List.length_map, List.length_append, List.length_range, List.length_take, List.length_drop, cap]; omega) | (simp [cap] <;> omega) | fail) [-List.map_map, -List.map_append, -List.filter_append, v_addL, v_addT, i_mulR, mul_li, mul_ti, app_do, ext_do, ext_do2, ins_do, cut_to, cut_from, puts, f_law_due_v3, rg_ok, rangeD]
  rw [← List.map_append]
  generalize hf : turns _ _ _ _ = t
  have := turn_map hf (fun k => tgtD (stillT (r.copies ++ o.copies) k)) (by
    intro k hk
    have hk := List.mem_range.mp hk
    have hk2 : k < (r.copies ++ o.copies).length := by rw [List.length_append]; omega
    simp (disch := first | omega | (simp only [List.length_cons, List.length_nil, List.length_map, List.length_append, List.length_range, List.length_take, List.length_drop, cap]; omega) | (simp [cap] <;> omega) | fail) [-List.map_map, -List.map_append, -List.filter_append, v_addL, v_addT, i_mulR, mul_li, mul_ti, app_do, ext_do, ext_do2, ins_do, cut_to, cut_from, puts, turnF, nt_bl hk2]
    cases h : gb (r.copies ++ o.copies) k <;> simp (disch := first | omega | (simp only [List.length_cons, List.length_nil, List.length_map, List.length_append, List.length_range, List.length_take, List.length_drop, cap]; omega) | (simp [cap] <;> omega) | fail) [-List.map_map, -List.map_append, -List.filter_append, v_addL, v_addT, i_mulR, mul_li, mul_ti, app_do, ext_do, ext_do2, ins_do, cut_to, cut_from, puts, stillT, tgtD, optD, h, Src.d])
  subst this
  clear hf
  simp (disch := first | omega | (simp only [List.length_cons, List.length_nil, List.length_map, List.length_append, List.length_range, List.length_take, List.length_drop, cap]; omega) | (simp [cap] <;> omega) | fail) [-List.map_map, -List.map_append, -List.filter_append, v_addL, v_addT, i_mulR, mul_li, mul_ti, app_do, ext_do, ext_do2, ins_do, cut_to, cut_from, puts]
  rw [show (↑r.copies.length + ↑o.copies.length : Int).toNat = r.copies.length + o.copies.length by omega]
  have hS1 := stay_eq r.copies o.copies
  have hS2 := stay_eq0 r.copies o.copies
  have hS3 : ((List.range (r.copies.length + o.copies.length)).map (stillT (r.copies ++ o.copies))).length ≤ 12 := by simp; omega
  rw [show List.map (fun k => tgtD (stillT (r.copies ++ o.copies) k)) (List.range (r.copies.length + o.copies.length)) = ((List.range (r.copies.length + o.copies.length)).map (stillT (r.copies ++ o.copies))).map tgtD by rw [List.map_map]; rfl]
  generalize (List.range (r.copies.length + o.copies.length)).map (stillT (r.copies ++ o.copies)) = S at hS1 hS2 hS3
  generalize hf : fors _ _ _ = t
  obtain ⟨P, hP⟩ : ∃ P : List Mv → Env → Prop, ∀ ys e, P ys e ↔ ∃ b9 b10 b12 b16 : Option O, e = envU r o halls kinds S (ys.flatMap (fst1 r o)) [b9, b10, none, b12, none, none, none, b16, none, none, none, none] := ⟨_, fun _ _ => Iff.rfl⟩
  obtain ⟨_, hp, rfl⟩ := for_accE hf P ((hP _ _).2 ⟨none, none, none, none, rfl⟩) (by
    intro ys m hpre _ hp
    obtain ⟨b9, b10, b12, b16, rfl⟩ := (hP _ _).1 hp
    have hm := pre_mem hpre
    have okm := ok.moves m hm
    have hpl := l_places (tbl := tbl) (sub := sub) (n + 1) m r.halls ok.h4
    have hyl := pre_le hpre
    have hll := okm.ll
    have hl1 : (ys.flatMap (fst1 r o)).length ≤ ys.length * 4 := flat_len fun p _ => by
      unfold fst1; rw [List.length_map]; exact pl_len ok.h4
    generalize hacc : ys.flatMap (fst1 r o) = acc at hl1
    simp (disch := first | omega | (simp only [List.length_cons, List.length_nil, List.length_map, List.length_append, List.length_range, List.length_take, List.length_drop, cap]; omega) | (simp [cap] <;> omega) | fail) [-List.map_map, -List.map_append, -List.filter_append, v_addL, v_addT, i_mulR, mul_li, mul_ti, app_do, ext_do, ext_do2, ins_do, cut_to, cut_from, puts, loopF, envU, hpl]
    generalize hf : fors _ _ _ = t
    obtain ⟨Q, hQ⟩ : ∃ Q : List Nat → Env → Prop, ∀ zs e, Q zs e ↔ ∃ b10 b12 b16 : Option O, e = envU r o halls kinds S (acc ++ zs.map fun h => movedM m h 0 0 none (m.ls ++ stayT o.copies r.copies.length)) [some (.sh m.d), b10, none, b12, none, none, none, b16, none, none, none, none] := ⟨_, fun _ _ => Iff.rfl⟩
    obtain ⟨_, hp, rfl⟩ := for_accE hf Q ((hQ _ _).2 ⟨b10, b12, b16, by simp [envU]⟩) (by
      intro zs x hpre2 _ hp
      obtain ⟨b10, b12, b16, rfl⟩ := (hQ _ _).1 hp
      have hzl := pre_le hpre2
      have hpl4 := pl_len (m := m) ok.h4
      have hsl : (stayT o.copies r.copies.length).length ≤ 6 := by simp [stayT]; omega
      have e1 : List.drop r.copies.length (S.map tgtD) = (stayT o.copies r.copies.length).map tgtD := by rw [← List.map_drop, hS1]
      have hbe : ∀ env, (if m.behind = none then Out.ok (O.sh (natD x)) env else Out.ok (O.sh (optD natD m.behind)) env) = .ok (.sh (natD (behindH m x))) env := by
        intro env
        unfold behindH
        cases m.behind <;> simp [optD]
      simp (disch := first | omega | (simp only [List.length_cons, List.length_nil, List.length_map, List.length_append, List.length_range, List.length_take, List.length_drop, cap]; omega) | (simp [cap] <;> omega) | fail) [-List.map_map, -List.map_append, -List.filter_append, v_addL, v_addT, i_mulR, mul_li, mul_ti, app_do, ext_do, ext_do2, ins_do, cut_to, cut_from, puts, loopF, envU, hbe]
      rw [e1, ← List.map_append]
      rw [show D.tup [natD x, natD (behindH m x), D.bl m.w, m.mem.d, D.non, D.tup (List.map natD m.ins), D.tup (List.map tgtD m.outs), D.tup (List.map tgtD (m.ls ++ stayT o.copies r.copies.length))] = (movedM m x 0 0 none (m.ls ++ stayT o.copies r.copies.length)).d from (moved0 (rd := none)).symm, snoc_map (e := Mv.d) (f := fun h => movedM m h 0 0 none (m.ls ++ stayT o.copies r.copies.length))]
      exact (hQ _ _).2 ⟨_, _, _, rfl⟩)
    obtain ⟨b10, b12, b16, rfl⟩ := (hQ _ _).1 hp
    simp (disch := first | omega | (simp only [List.length_cons, List.length_nil, List.length_map, List.length_append, List.length_range, List.length_take, List.length_drop, cap]; omega) | (simp [cap] <;> omega) | fail) [-List.map_map, -List.map_append, -List.filter_append, v_addL, v_addT, i_mulR, mul_li, mul_ti, app_do, ext_do, ext_do2, ins_do, cut_to, cut_from, puts]
    exact (hP _ _).2 ⟨_, b10, b12, b16, by rw [flat_snoc, hacc]; rfl⟩)
  obtain ⟨b9, b10, b12, b16, rfl⟩ := (hP _ _).1 hp
  clear hf hp hP P
  have hl1 : (r.moves.flatMap (fst1 r o)).length ≤ 48 := Nat.le_trans (flat_len (k := 4) fun p _ => by
      unfold fst1; rw [List.length_map]; exact pl_len ok.h4) (by omega)
  obtain ⟨acc, hacc⟩ : ∃ acc, acc = r.moves.flatMap (fst1 r o) := ⟨_, rfl⟩
  rw [← hacc] at hl1 ⊢
  simp (disch := first | omega | (simp only [List.length_cons, List.length_nil, List.length_map, List.length_append, List.length_range, List.length_take, List.length_drop, cap]; omega) | (simp [cap] <;> omega) | fail) [-List.map_map, -List.map_append, -List.filter_append, v_addL, v_addT, i_mulR, mul_li, mul_ti, app_do, ext_do, ext_do2, ins_do, cut_to, cut_from, puts, envU, rg_ok, rangeD]
  generalize hf : fors _ _ _ = t
  obtain ⟨P, hP⟩ : ∃ P : List Nat → Env → Prop, ∀ ys e, P ys e ↔ ∃ b9 b10 b12 b13 b16 : Option O, e = envU r o halls kinds S (acc ++ ys.map (chM r o halls kinds)) [b9, b10, none, b12, b13, none, none, b16, none, none, none, none] := ⟨_, fun _ _ => Iff.rfl⟩
  obtain ⟨_, hp, rfl⟩ := for_acc hf P ((hP _ _).2 ⟨b9, b10, b12, none, b16, by simp [envU]⟩) (by
    intro ys x hpre _ hp
    obtain ⟨b9, b10, b12, b13, b16, rfl⟩ := (hP _ _).1 hp
    obtain ⟨hx, hx2⟩ := pre_range hpre
    have kl := g.kl
    have hx3 : x < halls.length := by have := g.hl; omega
    simp (disch := first | omega | (simp only [List.length_cons, List.length_nil, List.length_map, List.length_append, List.length_range, List.length_take, List.length_drop, cap]; omega) | (simp [cap] <;> omega) | fail) [-List.map_map, -List.map_append, -List.filter_append, v_addL, v_addT, i_mulR, mul_li, mul_ti, app_do, ext_do, ext_do2, ins_do, cut_to, cut_from, puts, loopF, envU, rg_ok, rangeD]
    generalize hf : fors _ _ _ = t
    obtain ⟨Q, hQ⟩ : ∃ Q : List Nat → Env → Prop, ∀ zs e, Q zs e ↔ ∃ b13 : Option O, e = envU r o halls kinds S (acc ++ ys.map (chM r o halls kinds)) [b9, some (.sh (natD x)), none, some (own ((zs.map fun k => (r.copies.length + gn kinds k, if gb o.copies (gn kinds k) = true then some Src.own else none)).map tgtD)), b13, none, none, b16, none, none, none, none] := ⟨_, fun _ _ => Iff.rfl⟩
    obtain ⟨_, hp, rfl⟩ := for_acc hf Q ((hQ _ _).2 ⟨b13, rfl⟩) (by
      intro zs k hpre2 _ hp
      obtain ⟨b13, rfl⟩ := (hQ _ _).1 hp
      obtain ⟨hk, hk2⟩ := pre_range hpre2
      have hk3 : k < kinds.length := by omega
      have hk4 := g.kb _ (getD_mem hk3)
      simp (disch := first | omega | (simp only [List.length_cons, List.length_nil, List.length_map, List.length_append, List.length_range, List.length_take, List.length_drop, cap]; omega) | (simp [cap] <;> omega) | fail) [-List.map_map, -List.map_append, -List.filter_append, v_addL, v_addT, i_mulR, mul_li, mul_ti, app_do, ext_do, ext_do2, ins_do, cut_to, cut_from, puts, loopF, envU, nt_nat hk3, nt_bl hk4]
      have hfin : ∀ so : Option Src, (so = if gb o.copies (gn kinds k) = true then some Src.own else none) → Q (zs ++ [k]) (envU r o halls kinds S (acc ++ ys.map (chM r o halls kinds)) [b9, some (.sh (natD x)), none, some (own ((zs.map fun k => (r.copies.length + gn kinds k, if gb o.copies (gn kinds k) = true then some Src.own else none)).map tgtD ++ [tgtD (r.copies.length + gn kinds k, so)])), some (.sh (natD k)), none, none, b16, none, none, none, none]) := by
        rintro so rfl
        exact (hQ _ _).2 ⟨_, by simp; rfl⟩
      cases hg : gb o.copies (gn kinds k) with
      | false =>
        simp (disch := first | omega | (simp only [List.length_cons, List.length_nil, List.length_map, List.length_append, List.length_range, List.length_take, List.length_drop, cap]; omega) | (simp [cap] <;> omega) | fail) [-List.map_map, -List.map_append, -List.filter_append, v_addL, v_addT, i_mulR, mul_li, mul_ti, app_do, ext_do, ext_do2, ins_do, cut_to, cut_from, puts]
        exact hfin none (by simp [hg])
      | true =>
        simp (disch := first | omega | (simp only [List.length_cons, List.length_nil, List.length_map, List.length_append, List.length_range, List.length_take, List.length_drop, cap]; omega) | (simp [cap] <;> omega) | fail) [-List.map_map, -List.map_append, -List.filter_append, v_addL, v_addT, i_mulR, mul_li, mul_ti, app_do, ext_do, ext_do2, ins_do, cut_to, cut_from, puts]
        exact hfin (some .own) (by simp [hg]))
    obtain ⟨b13, rfl⟩ := (hQ _ _).1 hp
    have hchl : ∀ h, (chM r o halls kinds h).d = .tup [natD h, natD (r.halls + gn halls h), .bl false, Src.mem.d, .non, .tup [], .tup [], .tup ((chLs r o kinds).map tgtD)] := fun h => rfl
    have hle : (chLs r o kinds).map tgtD = ((List.range r.copies.length).map fun k => (r.copies.length + gn kinds k, if gb o.copies (gn kinds k) = true then some Src.own else none)).map tgtD ++ List.replicate o.copies.length (tgtD (0, none)) := by
      have e : kinds = (List.range r.copies.length).map (gn kinds) := by
        refine List.ext_getElem (by simp [kl]) fun i h1 h2 => ?_
        simp [gn, h1]
      unfold chLs
      rw [List.map_append]
      congr 1
      · conv => lhs; rw [e]
        simp only [List.map_map]; rfl
      · rw [List.map_map]
        exact List.map_const'
    have hls : (chLs r o kinds).length ≤ 12 := by simp [chLs]; omega
    simp (disch := first | omega | (simp only [List.length_cons, List.length_nil, List.length_map, List.length_append, List.length_range, List.length_take, List.length_drop, cap]; omega) | (simp [cap] <;> omega) | fail) [-List.map_map, -List.map_append, -List.filter_append, v_addL, v_addT, i_mulR, mul_li, mul_ti, app_do, ext_do, ext_do2, ins_do, cut_to, cut_from, puts, rg_ok, rg_ok2, rangeD, nt_mul_l, nt_mul_t, nt_sub1, nt_sub_le, own_map, envU, nt_nat hx3]
    rw [show D.tup [D.int 0, D.non] = tgtD (0, none) from rfl, ← hle]
    rw [show D.tup [natD x, natD (r.halls + gn halls x), D.bl false, D.tup [D.str "memory"], D.non, D.tup [], D.tup [], D.tup (List.map tgtD (chLs r o kinds))] = (chM r o halls kinds x).d from rfl, snoc_map (e := Mv.d)]
    exact (hP _ _).2 ⟨_, _, _, _, _, rfl⟩)
  obtain ⟨b9, b10, b12, b13, b16, rfl⟩ := (hP _ _).1 hp
  clear hf hp hP P
  have hl2 : (acc ++ (List.range r.halls).map (chM r o halls kinds)).length ≤ 52 := by simp; omega
  obtain ⟨acc2, hacc2⟩ : ∃ acc2, acc2 = acc ++ (List.range r.halls).map (chM r o halls kinds) := ⟨_, rfl⟩
  rw [← hacc2] at hl2 ⊢
  simp (disch := first | omega | (simp only [List.length_cons, List.length_nil, List.length_map, List.length_append, List.length_range, List.length_take, List.length_drop, cap]; omega) | (simp [cap] <;> omega) | fail) [-List.map_map, -List.map_append, -List.filter_append, v_addL, v_addT, i_mulR, mul_li, mul_ti, app_do, ext_do, ext_do2, ins_do, cut_to, cut_from, puts, rg_ok, rg_ok2, rangeD, nt_mul_l, nt_mul_t, nt_sub1, nt_sub_le, own_map, envU]
  generalize hf : fors _ _ _ = t
  obtain ⟨P, hP⟩ : ∃ P : List Mv → Env → Prop, ∀ ys e, P ys e ↔ ∃ b9 b10 b12 b13 b16 b17 b18 : Option O, e = envU r o halls kinds S (acc2 ++ ys.flatMap (fst3 r o)) [b9, b10, none, b12, b13, none, none, b16, b17, b18, none, none] := ⟨_, fun _ _ => Iff.rfl⟩
  obtain ⟨_, hp, rfl⟩ := for_accE hf P ((hP _ _).2 ⟨b9, b10, b12, b13, b16, none, none, by simp [envU]⟩) (by
    intro ys m hpre _ hp
    obtain ⟨b9, b10, b12, b13, b16, b17, b18, rfl⟩ := (hP _ _).1 hp
    have hm := pre_mem hpre
    have okm := ok'.moves m hm
    have hpl := l_places (tbl := tbl) (sub := sub) (n + 1) m o.halls ok'.h4
    have hyl := pre_le hpre
    have hll := okm.ll
    have hl3 : (ys.flatMap (fst3 r o)).length ≤ ys.length * 4 := flat_len fun p _ => by
      unfold fst3; rw [List.length_map]; exact pl_len ok'.h4
    have hl4 : (acc2 ++ ys.flatMap (fst3 r o)).length ≤ 100 := by rw [List.length_append]; omega
    generalize hacc3 : acc2 ++ ys.flatMap (fst3 r o) = acc3 at hl4
    simp (disch := first | omega | (simp only [List.length_cons, List.length_nil, List.length_map, List.length_append, List.length_range, List.length_take, List.length_drop, cap]; omega) | (simp [cap] <;> omega) | fail) [-List.map_map, -List.map_append, -List.filter_append, v_addL, v_addT, i_mulR, mul_li, mul_ti, app_do, ext_do, ext_do2, ins_do, cut_to, cut_from, puts, loopF, envU, hpl]
    generalize hf : fors _ _ _ = t
    obtain ⟨Q, hQ⟩ : ∃ Q : List Nat → Env → Prop, ∀ zs e, Q zs e ↔ ∃ b10 b12 b16 b17 b18 : Option O, e = envU r o halls kinds S (acc3 ++ zs.map fun h => movedM m h r.halls r.copies.length m.rd (otherLs r o m)) [some (.sh m.d), b10, none, b12, b13, none, none, b16, b17, b18, none, none] := ⟨_, fun _ _ => Iff.rfl⟩
    obtain ⟨_, hp, rfl⟩ := for_accE hf Q ((hQ _ _).2 ⟨b10, b12, b16, b17, b18, by simp [envU]⟩) (by
      intro zs x hpre2 _ hp
      obtain ⟨b10, b12, b16, b17, b18, rfl⟩ := (hQ _ _).1 hp
      have hzl := pre_le hpre2
      have hpl4 := pl_len (m := m) ok'.h4
      have hsl : (stayT r.copies 0).length ≤ 6 := by simp [stayT]; omega
      have e1 : List.take r.copies.length (S.map tgtD) = (stayT r.copies 0).map tgtD := by rw [← List.map_take, hS2]
      have hbe : ∀ env, (if m.behind = none then Out.ok (O.sh (natD x)) env else Out.ok (O.sh (optD natD m.behind)) env) = .ok (.sh (natD (behindH m x))) env := by
        intro env
        unfold behindH
        cases m.behind <;> simp [optD]
      simp (disch := first | omega | (simp only [List.length_cons, List.length_nil, List.length_map, List.length_append, List.length_range, List.length_take, List.length_drop, cap]; omega) | (simp [cap] <;> omega) | fail) [-List.map_map, -List.map_append, -List.filter_append, v_addL, v_addT, i_mulR, mul_li, mul_ti, app_do, ext_do, ext_do2, ins_do, cut_to, cut_from, puts, loopF, envU, hbe]
      generalize hf : turns _ _ _ _ = t
      have := turn_mapE hf (fun k => natD (r.copies.length + k)) (fun k _ => by simp (disch := first | omega | (simp only [List.length_cons, List.length_nil, List.length_map, List.length_append, List.length_range, List.length_take, List.length_drop, cap]; omega) | (simp [cap] <;> omega) | fail) [-List.map_map, -List.map_append, -List.filter_append, v_addL, v_addT, i_mulR, mul_li, mul_ti, app_do, ext_do, ext_do2, ins_do, cut_to, cut_from, puts, turnF])
      subst this
      clear hf
      simp (disch := first | omega | (simp only [List.length_cons, List.length_nil, List.length_map, List.length_append, List.length_range, List.length_take, List.length_drop, cap]; omega) | (simp [cap] <;> omega) | fail) [-List.map_map, -List.map_append, -List.filter_append, v_addL, v_addT, i_mulR, mul_li, mul_ti, app_do, ext_do, ext_do2, ins_do, cut_to, cut_from, puts]
      generalize hf : turns _ _ _ _ = t
      have := turn_mapE hf (fun t => tgtD (r.copies.length + t.1, t.2)) (fun k _ => by simp (disch := first | omega | (simp only [List.length_cons, List.length_nil, List.length_map, List.length_append, List.length_range, List.length_take, List.length_drop, cap]; omega) | (simp [cap] <;> omega) | fail) [-List.map_map, -List.map_append, -List.filter_append, v_addL, v_addT, i_mulR, mul_li, mul_ti, app_do, ext_do, ext_do2, ins_do, cut_to, cut_from, puts, turnF, tgtD])
      subst this
      clear hf
      simp (disch := first | omega | (simp only [List.length_cons, List.length_nil, List.length_map, List.length_append, List.length_range, List.length_take, List.length_drop, cap]; omega) | (simp [cap] <;> omega) | fail) [-List.map_map, -List.map_append, -List.filter_append, v_addL, v_addT, i_mulR, mul_li, mul_ti, app_do, ext_do, ext_do2, ins_do, cut_to, cut_from, puts]
      generalize hf : turns _ _ _ _ = t
      have := turn_mapE hf (fun t => tgtD (r.copies.length + t.1, t.2)) (fun k _ => by simp (disch := first | omega | (simp only [List.length_cons, List.length_nil, List.length_map, List.length_append, List.length_range, List.length_take, List.length_drop, cap]; omega) | (simp [cap] <;> omega) | fail) [-List.map_map, -List.map_append, -List.filter_append, v_addL, v_addT, i_mulR, mul_li, mul_ti, app_do, ext_do, ext_do2, ins_do, cut_to, cut_from, puts, turnF, tgtD])
      subst this
      clear hf
      rw [e1]
      simp (disch := first | omega | (simp only [List.length_cons, List.length_nil, List.length_map, List.length_append, List.length_range, List.length_take, List.length_drop, cap]; omega) | (simp [cap] <;> omega) | fail) [-List.map_map, -List.map_append, -List.filter_append, v_addL, v_addT, i_mulR, mul_li, mul_ti, app_do, ext_do, ext_do2, ins_do, cut_to, cut_from, puts]
      rw [show List.map tgtD (stayT r.copies 0) ++ List.map (fun t : Tgt => tgtD (r.copies.length + t.1, t.2)) m.ls = (otherLs r o m).map tgtD by unfold otherLs; rw [List.map_append, List.map_map]; rfl]
      have hmv : (movedM m x r.halls r.copies.length m.rd (otherLs r o m)).d = D.tup [natD (r.halls + x), natD (r.halls + behindH m x), D.bl m.w, m.mem.d, optD Src.d m.rd, D.tup (List.map (fun k => natD (r.copies.length + k)) m.ins), D.tup (List.map (fun t : Tgt => tgtD (r.copies.length + t.1, t.2)) m.outs), D.tup (List.map tgtD (otherLs r o m))] := by
        unfold movedM Mv.d
        simp only [List.map_map]
        rfl
      rw [← hmv, snoc_map (e := Mv.d) (f := fun h => movedM m h r.halls r.copies.length m.rd (otherLs r o m))]
      exact (hQ _ _).2 ⟨_, _, _, _, _, rfl⟩)
    obtain ⟨b10, b12, b16, b17, b18, rfl⟩ := (hQ _ _).1 hp
    simp (disch := first | omega | (simp only [List.length_cons, List.length_nil, List.length_map, List.length_append, List.length_range, List.length_take, List.length_drop, cap]; omega) | (simp [cap] <;> omega) | fail) [-List.map_map, -List.map_append, -List.filter_append, v_addL, v_addT, i_mulR, mul_li, mul_ti, app_do, ext_do, ext_do2, ins_do, cut_to, cut_from, puts]
    exact (hP _ _).2 ⟨_, _, _, _, _, _, _, by rw [flat_snoc, ← List.append_assoc, hacc3]; rfl⟩)
  obtain ⟨b9, b10, b12, b13, b16, b17, b18, rfl⟩ := (hP _ _).1 hp
  clear hf hp hP P
  have hl3 : (o.moves.flatMap (fst3 r o)).length ≤ 48 := Nat.le_trans (flat_len (k := 4) fun p _ => by
      unfold fst3; rw [List.length_map]; exact pl_len ok'.h4) (by omega)
  obtain ⟨acc3, hacc3⟩ : ∃ acc3, acc3 = acc2 ++ o.moves.flatMap (fst3 r o) := ⟨_, rfl⟩
  rw [← hacc3]
  simp (disch := first | omega | (simp only [List.length_cons, List.length_nil, List.length_map, List.length_append, List.length_range, List.length_take, List.length_drop, cap]; omega) | (simp [cap] <;> omega) | fail) [-List.map_map, -List.map_append, -List.filter_append, v_addL, v_addT, i_mulR, mul_li, mul_ti, app_do, ext_do, ext_do2, ins_do, cut_to, cut_from, puts, rg_ok, rg_ok2, rangeD, nt_mul_l, nt_mul_t, nt_sub1, nt_sub_le, own_map, envU]
  generalize hf : fors _ _ _ = t
  obtain ⟨P, hP⟩ : ∃ P : List Pat → Env → Prop, ∀ ys e, P ys e ↔ ∃ b10 b14 b15 : Option O, e = envU r o halls kinds S acc3 [b9, b10, some (own ((ys.flatMap (fpr r o)).map patD)), b12, b13, b14, b15, b16, b17, b18, none, none] := ⟨_, fun _ _ => Iff.rfl⟩
  obtain ⟨_, hp, rfl⟩ := for_accE hf P ((hP _ _).2 ⟨b10, none, none, rfl⟩) (by
    intro ys p hpre _ hp
    obtain ⟨b10, b14, b15, rfl⟩ := (hP _ _).1 hp
    have hyl := pre_le hpre
    have hp4 := ok'.p4
    have hl5 : (ys.flatMap (fpr r o)).length ≤ ys.length * 4 := flat_len fun p _ => by
      unfold fpr; rw [List.length_map]; exact Nat.le_trans filt_len h4'
    generalize hacc4 : ys.flatMap (fpr r o) = acc4 at hl5
    simp (disch := first | omega | (simp only [List.length_cons, List.length_nil, List.length_map, List.length_append, List.length_range, List.length_take, List.length_drop, cap]; omega) | (simp [cap] <;> omega) | fail) [-List.map_map, -List.map_append, -List.filter_append, v_addL, v_addT, i_mulR, mul_li, mul_ti, app_do, ext_do, ext_do2, ins_do, cut_to, cut_from, puts, rg_ok, rg_ok2, rangeD, nt_mul_l, nt_mul_t, nt_sub1, nt_sub_le, own_map, loopF, envU]
    generalize hf : fors _ _ _ = t
    obtain ⟨Q, hQ⟩ : ∃ Q : List Nat → Env → Prop, ∀ zs e, Q zs e ↔ ∃ b15 : Option O, e = envU r o halls kinds S acc3 [b9, some (.sh (optD natD p.1)), some (own ((acc4 ++ (zs.filter (inHall p)).map fun h => (some (r.halls + h), p.2.map (r.copies.length + ·))).map patD)), b12, b13, some (.sh (.tup (p.2.map natD))), b15, b16, b17, b18, none, none] := ⟨_, fun _ _ => Iff.rfl⟩
    obtain ⟨_, hp, rfl⟩ := for_acc hf Q ((hQ _ _).2 ⟨b15, by simp [envU]⟩) (by
      intro zs x hpre2 _ hp
      obtain ⟨b15, rfl⟩ := (hQ _ _).1 hp
      obtain ⟨hx, hx2⟩ := pre_range hpre2
      have hzl : (zs.filter (inHall p)).length ≤ zs.length := List.length_filter_le _ _
      have hc : ∀ env, (if p.1 = none then Out.ok true env else .ok (decide (p.1 = some x)) env) = .ok (inHall p x) env := by
        intro env
        unfold inHall
        cases p.1 with
        | none => rfl
        | some k => simp
      have hpt : D.tup [natD (r.halls + x), D.tup (List.map (fun k => natD (r.copies.length + k)) p.2)] = patD (some (r.halls + x), p.2.map (r.copies.length + ·)) := by
        unfold patD
        simp only [List.map_map]
        rfl
      simp (disch := first | omega | (simp only [List.length_cons, List.length_nil, List.length_map, List.length_append, List.length_range, List.length_take, List.length_drop, cap]; omega) | (simp [cap] <;> omega) | fail) [-List.map_map, -List.map_append, -List.filter_append, v_addL, v_addT, i_mulR, mul_li, mul_ti, app_do, ext_do, ext_do2, ins_do, cut_to, cut_from, puts, loopF, envU]
      rw [hc]
      cases hin : inHall p x with
      | false =>
        simp (disch := first | omega | (simp only [List.length_cons, List.length_nil, List.length_map, List.length_append, List.length_range, List.length_take, List.length_drop, cap]; omega) | (simp [cap] <;> omega) | fail) [-List.map_map, -List.map_append, -List.filter_append, v_addL, v_addT, i_mulR, mul_li, mul_ti, app_do, ext_do, ext_do2, ins_do, cut_to, cut_from, puts]
        exact (hQ _ _).2 ⟨_, by rw [filt_snoc, if_neg (by simp [hin]), List.append_nil]; rfl⟩
      | true =>
        simp (disch := first | omega | (simp only [List.length_cons, List.length_nil, List.length_map, List.length_append, List.length_range, List.length_take, List.length_drop, cap]; omega) | (simp [cap] <;> omega) | fail) [-List.map_map, -List.map_append, -List.filter_append, v_addL, v_addT, i_mulR, mul_li, mul_ti, app_do, ext_do, ext_do2, ins_do, cut_to, cut_from, puts]
        generalize hf : turns _ _ _ _ = t
        have := turn_mapE hf (fun k => natD (r.copies.length + k)) (fun k _ => by simp (disch := first | omega | (simp only [List.length_cons, List.length_nil, List.length_map, List.length_append, List.length_range, List.length_take, List.length_drop, cap]; omega) | (simp [cap] <;> omega) | fail) [-List.map_map, -List.map_append, -List.filter_append, v_addL, v_addT, i_mulR, mul_li, mul_ti, app_do, ext_do, ext_do2, ins_do, cut_to, cut_from, puts, turnF])
        subst this
        clear hf
        simp (disch := first | omega | (simp only [List.length_cons, List.length_nil, List.length_map, List.length_append, List.length_range, List.length_take, List.length_drop, cap]; omega) | (simp [cap] <;> omega) | fail) [-List.map_map, -List.map_append, -List.filter_append, v_addL, v_addT, i_mulR, mul_li, mul_ti, app_do, ext_do, ext_do2, ins_do, cut_to, cut_from, puts]
        rw [hpt]
        rw [snoc_map (e := patD) (f := fun h => (some (r.halls + h), p.2.map (r.copies.length + ·)))]
        exact (hQ _ _).2 ⟨_, by rw [filt_snoc, if_pos hin]; rfl⟩)
    obtain ⟨b15, rfl⟩ := (hQ _ _).1 hp
    simp (disch := first | omega | (simp only [List.length_cons, List.length_nil, List.length_map, List.length_append, List.length_range, List.length_take, List.length_drop, cap]; omega) | (simp [cap] <;> omega) | fail) [-List.map_map, -List.map_append, -List.filter_append, v_addL, v_addT, i_mulR, mul_li, mul_ti, app_do, ext_do, ext_do2, ins_do, cut_to, cut_from, puts]
    exact (hP _ _).2 ⟨_, _, _, by rw [flat_snoc, hacc4]; rfl⟩)
  obtain ⟨b10, b14, b15, rfl⟩ := (hP _ _).1 hp
  simp (disch := first | omega | (simp only [List.length_cons, List.length_nil, List.length_map, List.length_append, List.length_range, List.length_take, List.length_drop, cap]; omega) | (simp [cap] <;> omega) | fail) [-List.map_map, -List.map_append, -List.filter_append, v_addL, v_addT, i_mulR, mul_li, mul_ti, app_do, ext_do, ext_do2, ins_do, cut_to, cut_from, puts, envU]
  rw [fpr_all ok', hacc3, hacc2, hacc, union_ms ok ok']
  rfl
end
end Lw
set_option maxHeartbeats 400000
set_option linter.all false
namespace Lw
open Ev
/-! changes and others are drawn -/
class CC1 (tbl : Nat → Option FDef) : Prop extends CD tbl where
  h255 : tbl 255 = some f_law_change
  h257 : tbl 257 = some f_law_others_v3
instance {tbl : Nat → Option FDef} [i : CC1 tbl] : Has tbl 255 f_law_change := ⟨i.h255⟩
instance {tbl : Nat → Option FDef} [i : CC1 tbl] : Has tbl 257 f_law_others_v3 := ⟨i.h257⟩
section
variable {tbl : Nat → Option FDef} {sub : Nat → Nat → Bool} [T : CC1 tbl]
theorem bare_in {o : Rls} (h : Right o) : 0 ∈ (List.range o.copies.length).filter fun k => !gb o.copies k := by
  have h1 := h.k1
  have hg := h.good
  unfold goodB at hg
  rw [List.mem_filter]
  refine ⟨List.mem_range.mpr (by omega), ?_⟩
  cases h0 : gb o.copies 0 with
  | true => rw [h0] at hg; exact hg
  | false => rfl
theorem l_change (n : Nat) (s : St) (r o : Rls) (hr : Right r) (ho : Right o) : ∃ (halls kinds : List Nat) (s' : St), Goes r o halls kinds ∧ call tbl sub (n + 3) 255 [s.o, .sh r.d, .sh o.d] = .ret (.sh (.tup [.tup (halls.map natD), .tup (kinds.map natD)])) [s'.o] := by
  rw [call_has rfl]
  have c4 := hr.c4
  have c4' := ho.c4
  have k1 := hr.k1
  have k1' := ho.k1
  have h1' := ho.h1
  have h3 := hr.h3
  have h3' := ho.h3
  simp (disch := first | omega | (simp only [List.length_cons, List.length_nil, List.length_map, List.length_append, List.length_range, List.length_take, List.length_drop, cap]; omega) | (simp [cap] <;> omega) | fail) [-List.map_map, -List.map_append, -List.filter_append, v_addL, v_addT, i_mulR, mul_li, mul_ti, app_do, ext_do, ext_do2, ins_do, cut_to, cut_from, puts, rg_ok, rg_ok2, rangeD, nt_mul_l, nt_mul_t, nt_sub1, nt_sub_le, own_map, f_law_change]
  generalize hf : turns _ _ _ _ = t
  obtain ⟨P, hP⟩ : ∃ P : Env → Prop, ∀ env, P env ↔ ∃ s : St, env = [some s.o, some (O.sh r.d), some (O.sh o.d), none, none, none, none] := ⟨_, fun _ => Iff.rfl⟩
  obtain ⟨hs, _, hil, hio, hp, rfl⟩ := turn_invT hf P ((hP _).2 ⟨_, rfl⟩) natD (fun k => k < o.halls) (by
    intro x _ env hp
    obtain ⟨s, rfl⟩ := (hP _).1 hp
    obtain ⟨v, s', hv, e⟩ := l_draw (tbl := tbl) (sub := sub) (n + 1) s o.halls (by omega) (by omega)
    have e : call tbl sub (n + 2) 14 [s.o, .sh (natD o.halls)] = _ := e
    simp (disch := first | omega | (simp only [List.length_cons, List.length_nil, List.length_map, List.length_append, List.length_range, List.length_take, List.length_drop, cap]; omega) | (simp [cap] <;> omega) | fail) [-List.map_map, -List.map_append, -List.filter_append, v_addL, v_addT, i_mulR, mul_li, mul_ti, app_do, ext_do, ext_do2, ins_do, cut_to, cut_from, puts, turnF, e]
    exact ⟨⟨v, rfl, hv⟩, (hP _).2 ⟨s', rfl⟩⟩)
  obtain ⟨s1, rfl⟩ := (hP _).1 hp
  clear hf hp hP P
  rw [List.length_range] at hil
  simp (disch := first | omega | (simp only [List.length_cons, List.length_nil, List.length_map, List.length_append, List.length_range, List.length_take, List.length_drop, cap]; omega) | (simp [cap] <;> omega) | fail) [-List.map_map, -List.map_append, -List.filter_append, v_addL, v_addT, i_mulR, mul_li, mul_ti, app_do, ext_do, ext_do2, ins_do, cut_to, cut_from, puts, rg_ok, rg_ok2, rangeD, nt_mul_l, nt_mul_t, nt_sub1, nt_sub_le, own_map]
  generalize hf : turns _ _ _ _ = t
  have := turn_filter hf (fun k => !gb o.copies k) natD (by
    intro k hk
    have hk := List.mem_range.mp hk
    simp (disch := first | omega | (simp only [List.length_cons, List.length_nil, List.length_map, List.length_append, List.length_range, List.length_take, List.length_drop, cap]; omega) | (simp [cap] <;> omega) | fail) [-List.map_map, -List.map_append, -List.filter_append, v_addL, v_addT, i_mulR, mul_li, mul_ti, app_do, ext_do, ext_do2, ins_do, cut_to, cut_from, puts, turnF, nt_bl hk]
    cases gb o.copies k <;> simp)
  subst this
  clear hf
  have hbin := bare_in ho
  have hbl : ((List.range o.copies.length).filter fun k => !gb o.copies k).length ≤ o.copies.length := filt_len
  have hbm : ∀ k ∈ (List.range o.copies.length).filter (fun k => !gb o.copies k), k < o.copies.length ∧ gb o.copies k = false := by
    intro k hk
    rw [List.mem_filter, List.mem_range] at hk
    exact ⟨hk.1, by simpa using hk.2⟩
  generalize (List.range o.copies.length).filter (fun k => !gb o.copies k) = bare at hbin hbl hbm
  have hb1 : 0 < bare.length := List.length_pos_of_mem hbin
  simp (disch := first | omega | (simp only [List.length_cons, List.length_nil, List.length_map, List.length_append, List.length_range, List.length_take, List.length_drop, cap]; omega) | (simp [cap] <;> omega) | fail) [-List.map_map, -List.map_append, -List.filter_append, v_addL, v_addT, i_mulR, mul_li, mul_ti, app_do, ext_do, ext_do2, ins_do, cut_to, cut_from, puts, rg_ok, rg_ok2, rangeD, nt_mul_l, nt_mul_t, nt_sub1, nt_sub_le, own_map]
  generalize hf : fors _ _ _ = t
  obtain ⟨P, hP⟩ : ∃ P : List Nat → Env → Prop, ∀ ys env, P ys env ↔ ∃ (ks : List Nat) (s : St) (b6 : Option O), ks.length = ys.length + 1 ∧ gn ks 0 = 0 ∧ (∀ k ∈ ks, k < o.copies.length) ∧ (∀ j, j < ks.length → gb r.copies j = false → gb o.copies (gn ks j) = false) ∧ env = [some s.o, some (O.sh r.d), some (O.sh o.d), some (.sh (.tup (hs.map natD))), some (.sh (.lst (bare.map natD))), some (own (ks.map natD)), b6] := ⟨_, fun _ _ => Iff.rfl⟩
  obtain ⟨_, hp, rfl⟩ := for_acc hf P ((hP _ _).2 ⟨[0], s1, none, rfl, rfl, (by simp; omega), (by
      intro j hj _
      have : j = 0 := by simpa using hj
      subst this
      exact (hbm 0 hbin).2), rfl⟩) (by
    intro ys x hpre _ hp
    obtain ⟨ks, s, b6, hkl, hk0, hkb, hkz, rfl⟩ := (hP _ _).1 hp
    obtain ⟨hx, hx2⟩ := pre_range hpre
    rw [show D.int (1 + (x : Int)) = natD (1 + x) by simp [nt_int, -natD_i]]
    have hx3 : 1 + x < r.copies.length := by omega
    have hfin : ∀ (k : Nat) (s : St), k < o.copies.length → (gb r.copies (1 + x) = false → gb o.copies k = false) → P (ys ++ [x]) [some s.o, some (O.sh r.d), some (O.sh o.d), some (.sh (.tup (hs.map natD))), some (.sh (.lst (bare.map natD))), some (own (ks.map natD ++ [natD k])), some (.sh (natD (1 + x)))] := by
      intro k s hk hz
      refine (hP _ _).2 ⟨ks ++ [k], s, _, by simp [hkl], ?_, ?_, ?_, by rw [List.map_append]; rfl⟩
      · unfold gn at hk0 ⊢
        rw [List.getD_eq_getElem?_getD, List.getElem?_append_left (by omega), ← List.getD_eq_getElem?_getD]
        exact hk0
      · intro j hj
        rcases List.mem_append.mp hj with h | h
        · exact hkb j h
        · rw [List.mem_singleton.mp h]; exact hk
      · intro j hj hb
        by_cases hjl : j < ks.length
        · have := hkz j hjl hb
          unfold gn at this ⊢
          rw [List.getD_eq_getElem?_getD, List.getElem?_append_left hjl, ← List.getD_eq_getElem?_getD]
          exact this
        · have hj2 : j = ks.length := by simp at hj; omega
          subst hj2
          unfold gn
          rw [List.getD_eq_getElem?_getD, List.getElem?_append_right (Nat.le_refl _)]
          simp
          exact hz (by rw [← hb]; congr 1; omega)
    cases hc : gb r.copies (1 + x) with
    | true =>
      obtain ⟨v, s2, hv, e2⟩ := l_draw (tbl := tbl) (sub := sub) (n + 1) s o.copies.length (by omega) (by omega)
      have e2 : call tbl sub (n + 2) 14 [s.o, .sh (natD o.copies.length)] = _ := e2
      obtain ⟨k, s3, hk, e3⟩ := l_pickM (tbl := tbl) (sub := sub) natD n s2 [min (1 + x) (o.copies.length - 1), v] (by simp) (by simp)
      have e3 : call tbl sub (n + 2) 15 [s2.o, .sh (.lst [natD (min (1 + x) (o.copies.length - 1)), natD v])] = _ := e3
      have hk2 : k < o.copies.length := by
        simp at hk
        omega
      simp (disch := first | omega | (simp only [List.length_cons, List.length_nil, List.length_map, List.length_append, List.length_range, List.length_take, List.length_drop, cap]; omega) | (simp [cap] <;> omega) | fail) [-List.map_map, -List.map_append, -List.filter_append, v_addL, v_addT, i_mulR, mul_li, mul_ti, app_do, ext_do, ext_do2, ins_do, cut_to, cut_from, puts, rg_ok, rg_ok2, rangeD, nt_mul_l, nt_mul_t, nt_sub1, nt_sub_le, own_map, loopF, nt_bl hx3, hc, e2, e3]
      exact hfin k s3 hk2 (fun h => by rw [hc] at h; cases h)
    | false =>
      obtain ⟨k, s3, hk, e3⟩ := l_pickM (tbl := tbl) (sub := sub) natD n s bare hb1 (by omega)
      simp (disch := first | omega | (simp only [List.length_cons, List.length_nil, List.length_map, List.length_append, List.length_range, List.length_take, List.length_drop, cap]; omega) | (simp [cap] <;> omega) | fail) [-List.map_map, -List.map_append, -List.filter_append, v_addL, v_addT, i_mulR, mul_li, mul_ti, app_do, ext_do, ext_do2, ins_do, cut_to, cut_from, puts, rg_ok, rg_ok2, rangeD, nt_mul_l, nt_mul_t, nt_sub1, nt_sub_le, own_map, loopF, nt_bl hx3, hc, e3]
      exact hfin k s3 (hbm k hk).1 (fun _ => (hbm k hk).2))
  obtain ⟨ks, s2, b6, hkl, hk0, hkb, hkz, rfl⟩ := (hP _ _).1 hp
  rw [List.length_range] at hkl
  simp (disch := first | omega | (simp only [List.length_cons, List.length_nil, List.length_map, List.length_append, List.length_range, List.length_take, List.length_drop, cap]; omega) | (simp [cap] <;> omega) | fail) [-List.map_map, -List.map_append, -List.filter_append, v_addL, v_addT, i_mulR, mul_li, mul_ti, app_do, ext_do, ext_do2, ins_do, cut_to, cut_from, puts]
  refine ⟨hs, ks, ⟨hil, hio, by omega, hkb, hk0, ?_⟩, ⟨rfl, rfl⟩, s2, rfl⟩
  unfold zipB
  rw [List.any_eq_false]
  rintro ⟨k, b⟩ hm
  obtain ⟨i, hi, e⟩ := List.getElem_of_mem hm
  rw [List.getElem_zip] at e
  have hi1 : i < ks.length := by simp at hi; omega
  have hi2 : i < r.copies.length := by omega
  have e1 : ks[i] = k := congrArg Prod.fst e
  have e2 : r.copies[i] = b := congrArg Prod.snd e
  cases b with
  | true => simp
  | false =>
    have := hkz i hi1 (by unfold gb; rw [List.getD_eq_getElem?_getD, List.getElem?_eq_getElem hi2, e2]; rfl)
    rw [show gn ks i = k by unfold gn; rw [List.getD_eq_getElem?_getD, List.getElem?_eq_getElem hi1, e1]; rfl] at this
    simp [this]
theorem l_others (n : Nat) (s : St) (r : Rls) (hr : Right r) : ∃ (o : Rls) (s' : St), Right o ∧ call tbl sub (n + 5) 257 [s.o, .sh r.d] = .ret (.sh o.d) [s'.o] := by
  rw [call_has rfl]
  have c4 := hr.c4
  have k1 := hr.k1
  have h1 := hr.h1
  have h3 := hr.h3
  have m12 := hr.m12
  have p4 := hr.p4
  obtain ⟨v1, s1, hv1, e1⟩ := l_draw3 (tbl := tbl) (sub := sub) (n + 3) s 4 (by omega) (by omega)
  simp (disch := first | omega | (simp only [List.length_cons, List.length_nil, List.length_map, List.length_append, List.length_range, List.length_take, List.length_drop, cap]; omega) | (simp [cap] <;> omega) | fail) [-List.map_map, -List.map_append, -List.filter_append, v_addL, v_addT, i_mulR, mul_li, mul_ti, app_do, ext_do, ext_do2, ins_do, cut_to, cut_from, puts, f_law_others_v3, e1]
  by_cases h0 : v1 = 0
  · obtain ⟨o, s2, ho, e2⟩ := l_rules (tbl := tbl) (sub := sub) n s1
    simp (disch := first | omega | (simp only [List.length_cons, List.length_nil, List.length_map, List.length_append, List.length_range, List.length_take, List.length_drop, cap]; omega) | (simp [cap] <;> omega) | fail) [-List.map_map, -List.map_append, -List.filter_append, v_addL, v_addT, i_mulR, mul_li, mul_ti, app_do, ext_do, ext_do2, ins_do, cut_to, cut_from, puts, h0, e2]
    exact ⟨o, ho, rfl, s2, rfl⟩
  simp (disch := first | omega | (simp only [List.length_cons, List.length_nil, List.length_map, List.length_append, List.length_range, List.length_take, List.length_drop, cap]; omega) | (simp [cap] <;> omega) | fail) [-List.map_map, -List.map_append, -List.filter_append, v_addL, v_addT, i_mulR, mul_li, mul_ti, app_do, ext_do, ext_do2, ins_do, cut_to, cut_from, puts, h0]
  generalize hf : turns _ _ _ _ = t
  obtain ⟨P, hP⟩ : ∃ P : Env → Prop, ∀ env, P env ↔ ∃ s : St, env = [some s.o, some (O.sh r.d), some (.sh (natD v1)), none, none, none, none] := ⟨_, fun _ => Iff.rfl⟩
  obtain ⟨ms, _, hsub, hp, rfl⟩ := turn_invFE hf P ((hP _).2 ⟨_, rfl⟩) Mv.d (by
    intro x _ env hp
    obtain ⟨s, rfl⟩ := (hP _).1 hp
    obtain ⟨v, s', hv, e⟩ := l_draw3 (tbl := tbl) (sub := sub) (n + 3) s 5 (by omega) (by omega)
    refine ⟨decide (0 < v), ?_⟩
    simp (disch := first | omega | (simp only [List.length_cons, List.length_nil, List.length_map, List.length_append, List.length_range, List.length_take, List.length_drop, cap]; omega) | (simp [cap] <;> omega) | fail) [-List.map_map, -List.map_append, -List.filter_append, v_addL, v_addT, i_mulR, mul_li, mul_ti, app_do, ext_do, ext_do2, ins_do, cut_to, cut_from, puts, turnF, e]
    by_cases h : 0 < v <;> simp [h] <;> exact (hP _).2 ⟨_, rfl⟩)
  obtain ⟨s2, rfl⟩ := (hP _).1 hp
  clear hf hp hP P
  have hml : ms.length ≤ 12 := Nat.le_trans hsub.length_le m12
  have hg0 := hr.g0
  have hgm := hr.fit
  have hmo : ∀ m ∈ ms, m.Ok r.copies.length r.halls ∧ fitB r.copies m = true := fun m hm => ⟨hr.moves m (hsub.mem hm), hgm m (hsub.mem hm)⟩
  have fin : ∀ (ms : List Mv) (s : St), ms.length ≤ 13 → 1 ≤ ms.length → (∀ m ∈ ms, m.Ok r.copies.length r.halls ∧ fitB r.copies m = true) → ∃ o, Right o ∧ ∃ x : St, finI [true, false] (exes (call tbl sub (n + 4)) (ioT tbl) sub (dropS 4 f_law_others_v3.body) [some s.o, some (O.sh r.d), some (.sh (natD v1)), some (own (ms.map Mv.d)), none, none, none]) = .ret (.sh o.d) [x.o] := by
    intro ms s hm13 hm1 hmo
    simp (disch := first | omega | (simp only [List.length_cons, List.length_nil, List.length_map, List.length_append, List.length_range, List.length_take, List.length_drop, cap]; omega) | (simp [cap] <;> omega) | fail) [-List.map_map, -List.map_append, -List.filter_append, v_addL, v_addT, i_mulR, mul_li, mul_ti, app_do, ext_do, ext_do2, ins_do, cut_to, cut_from, puts, dropS, f_law_others_v3]
    generalize hf : turns _ _ _ _ = t
    obtain ⟨P, hP⟩ : ∃ P : Env → Prop, ∀ env, P env ↔ ∃ s : St, env = [some s.o, some (O.sh r.d), some (.sh (natD v1)), some (own (ms.map Mv.d)), none, none, none] := ⟨_, fun _ => Iff.rfl⟩
    obtain ⟨ps, _, hsub, hp, rfl⟩ := turn_invFE hf P ((hP _).2 ⟨_, rfl⟩) patD (by
      intro x _ env hp
      obtain ⟨s, rfl⟩ := (hP _).1 hp
      obtain ⟨v, s', hv, e⟩ := l_draw3 (tbl := tbl) (sub := sub) (n + 3) s 5 (by omega) (by omega)
      refine ⟨decide (0 < v), ?_⟩
      simp (disch := first | omega | (simp only [List.length_cons, List.length_nil, List.length_map, List.length_append, List.length_range, List.length_take, List.length_drop, cap]; omega) | (simp [cap] <;> omega) | fail) [-List.map_map, -List.map_append, -List.filter_append, v_addL, v_addT, i_mulR, mul_li, mul_ti, app_do, ext_do, ext_do2, ins_do, cut_to, cut_from, puts, turnF, e]
      by_cases h : 0 < v <;> simp [h] <;> exact (hP _).2 ⟨_, rfl⟩)
    obtain ⟨s2, rfl⟩ := (hP _).1 hp
    clear hf hp hP P
    have hpl : ps.length ≤ 4 := Nat.le_trans hsub.length_le p4
    have hpo : ∀ p ∈ ps, PatOk p r.copies.length r.halls := fun p hp => hr.proms p (hsub.mem hp)
    have fin2 : ∀ (ps : List Pat) (s : St), ps.length ≤ 4 → (∀ p ∈ ps, PatOk p r.copies.length r.halls) → ∃ o, Right o ∧ ∃ x : St, finI [true, false] (exes (call tbl sub (n + 4)) (ioT tbl) sub (dropS 6 f_law_others_v3.body) [some s.o, some (O.sh r.d), some (.sh (natD v1)), some (own (ms.map Mv.d)), some (own (ps.map patD)), none, none]) = .ret (.sh o.d) [x.o] := by
      intro ps s hpl hpo
      simp (disch := first | omega | (simp only [List.length_cons, List.length_nil, List.length_map, List.length_append, List.length_range, List.length_take, List.length_drop, cap]; omega) | (simp [cap] <;> omega) | fail) [-List.map_map, -List.map_append, -List.filter_append, v_addL, v_addT, i_mulR, mul_li, mul_ti, app_do, ext_do, ext_do2, ins_do, cut_to, cut_from, puts, dropS, f_law_others_v3]
      refine ⟨⟨r.copies, r.halls, ms.take 12, ps⟩, ⟨⟨k1, by simp; omega, h1, by simp; omega, by simp; omega, by simp; omega, hpl, fun m hm => (hmo m (List.mem_of_mem_take hm)).1, hpo⟩, good_of hg0 fun m hm => (hmo m (List.mem_of_mem_take hm)).2, c4, h3, by simp; omega, hpl⟩, ?_, s, rfl⟩
      simp [Rls.d, List.map_take]
    change ∃ o, _ ∧ ∃ x, finI _ (thnS _ _ _ _ (.cons _ (dropS 6 f_law_others_v3.body))) = _
    by_cases hp4 : ps.length < 4
    · obtain ⟨v2, s3, hv2, e3⟩ := l_draw3 (tbl := tbl) (sub := sub) (n + 3) s2 3 (by omega) (by omega)
      by_cases hv : v2 = 0
      · obtain ⟨p, s4, hp, e4⟩ := l_pattern (tbl := tbl) (sub := sub) (n + 1) s3 r.copies r.halls k1 (by omega) (by omega)
        have hp4' : (ps.length : Int) < 4 := by omega
        simp (disch := first | omega | (simp only [List.length_cons, List.length_nil, List.length_map, List.length_append, List.length_range, List.length_take, List.length_drop, cap]; omega) | (simp [cap] <;> omega) | fail) [-List.map_map, -List.map_append, -List.filter_append, v_addL, v_addT, i_mulR, mul_li, mul_ti, app_do, ext_do, ext_do2, ins_do, cut_to, cut_from, puts, hp4, hp4', e3, hv, e4]
        have := fin2 (ps ++ [p]) s4 (by simp; omega) (by
          intro q hq
          rcases List.mem_append.mp hq with h | h
          · exact hpo q h
          · rw [List.mem_singleton.mp h]; exact hp)
        rw [List.map_append] at this
        exact this
      · have hp4' : (ps.length : Int) < 4 := by omega
        simp (disch := first | omega | (simp only [List.length_cons, List.length_nil, List.length_map, List.length_append, List.length_range, List.length_take, List.length_drop, cap]; omega) | (simp [cap] <;> omega) | fail) [-List.map_map, -List.map_append, -List.filter_append, v_addL, v_addT, i_mulR, mul_li, mul_ti, app_do, ext_do, ext_do2, ins_do, cut_to, cut_from, puts, hp4, hp4', e3, hv]
        exact fin2 ps s3 hpl hpo
    · have hp4' : ¬ (ps.length : Int) < 4 := by omega
      simp (disch := first | omega | (simp only [List.length_cons, List.length_nil, List.length_map, List.length_append, List.length_range, List.length_take, List.length_drop, cap]; omega) | (simp [cap] <;> omega) | fail) [-List.map_map, -List.map_append, -List.filter_append, v_addL, v_addT, i_mulR, mul_li, mul_ti, app_do, ext_do, ext_do2, ins_do, cut_to, cut_from, puts, hp4, hp4']
      exact fin2 ps s2 hpl hpo
  obtain ⟨m, s3, hmk, hmf, e3⟩ := l_drawn_move (tbl := tbl) (sub := sub) (n + 1) s2 r.copies r.halls hr.k1 (by omega) hr.h1 (by omega) hg0
  have hms2 : ∀ m' ∈ ms ++ [m], m'.Ok r.copies.length r.halls ∧ fitB r.copies m' = true := by
    intro m' hm'
    rcases List.mem_append.mp hm' with h | h
    · exact hmo m' h
    · rw [List.mem_singleton.mp h]; exact ⟨hmk, hmf⟩
  have hfin := fin (ms ++ [m]) s3 (by simp; omega) (by simp) hms2
  rw [List.map_append] at hfin
  change ∃ o, _ ∧ ∃ x, finI _ (thnS _ _ _ _ (.cons _ (dropS 4 f_law_others_v3.body))) = _
  by_cases hms : ms = []
  · subst hms
    simp (disch := first | omega | (simp only [List.length_cons, List.length_nil, List.length_map, List.length_append, List.length_range, List.length_take, List.length_drop, cap]; omega) | (simp [cap] <;> omega) | fail) [-List.map_map, -List.map_append, -List.filter_append, v_addL, v_addT, i_mulR, mul_li, mul_ti, app_do, ext_do, ext_do2, ins_do, cut_to, cut_from, puts, e3]
    exact hfin
  · by_cases hv : (v1 : Int) = 1
    · simp (disch := first | omega | (simp only [List.length_cons, List.length_nil, List.length_map, List.length_append, List.length_range, List.length_take, List.length_drop, cap]; omega) | (simp [cap] <;> omega) | fail) [-List.map_map, -List.map_append, -List.filter_append, v_addL, v_addT, i_mulR, mul_li, mul_ti, app_do, ext_do, ext_do2, ins_do, cut_to, cut_from, puts, hms, e3, hv]
      exact hfin
    · simp (disch := first | omega | (simp only [List.length_cons, List.length_nil, List.length_map, List.length_append, List.length_range, List.length_take, List.length_drop, cap]; omega) | (simp [cap] <;> omega) | fail) [-List.map_map, -List.map_append, -List.filter_append, v_addL, v_addT, i_mulR, mul_li, mul_ti, app_do, ext_do, ext_do2, ins_do, cut_to, cut_from, puts, hms, hv]
      exact fin ms s2 (by omega) (List.length_pos_iff.mpr hms) hmo
end
end Lw
set_option maxHeartbeats 400000
set_option linter.all false
namespace Lw
open Ev
class C52 (tbl : Nat → Option FDef) : Prop extends CU3 tbl, CC1 tbl, CM tbl where
  h279 : tbl 279 = some f_law_told_v3
  h280 : tbl 280 = some f_law_v20
instance {tbl : Nat → Option FDef} [i : C52 tbl] : Has tbl 279 f_law_told_v3 := ⟨i.h279⟩
instance {tbl : Nat → Option FDef} [i : C52 tbl] : Has tbl 280 f_law_v20 := ⟨i.h280⟩
section
variable {tbl : Nat → Option FDef} {sub : Nat → Nat → Bool} [T : C52 tbl]
theorem l_told_bad (n : Nat) (r o : Rls) (h k : D) (h1 : 1 ≤ r.copies.length) (hs : sub 10 10 = true) (hc : chkB r o h k = false) : call tbl sub (n + 5) 279 [.sh r.d, .sh o.d, .sh h, .sh k] = .ret (own []) [] := by
  rw [call_has rfl]
  have c := c_union_bad (tbl := tbl) (sub := sub) n r o h k h1 hc
  simp (disch := first | omega | (simp only [List.length_cons, List.length_nil, List.length_map, List.length_append, List.length_range, List.length_take, List.length_drop, cap]; omega) | (simp [cap] <;> omega) | fail) [-List.map_map, -List.map_append, -List.filter_append, v_addL, v_addT, i_mulR, mul_li, mul_ti, app_do, ext_do, ext_do2, ins_do, cut_to, cut_from, puts, f_law_told_v3, c, hs]
theorem l_told (n : Nat) (r o : Rls) (halls kinds : List Nat) (g : Goes r o halls kinds) (ok : r.Ok) (ok' : o.Ok) : call tbl sub (n + 6) 279 [.sh r.d, .sh o.d, .sh (.tup (halls.map natD)), .sh (.tup (kinds.map natD))] = .ret (.sh (.lst [(unionR r o halls kinds).d])) [] := by
  rw [call_has rfl]
  have c := c_union (tbl := tbl) (sub := sub) n r o halls kinds g ok ok'
  simp (disch := first | omega | (simp only [List.length_cons, List.length_nil, List.length_map, List.length_append, List.length_range, List.length_take, List.length_drop, cap]; omega) | (simp [cap] <;> omega) | fail) [-List.map_map, -List.map_append, -List.filter_append, v_addL, v_addT, i_mulR, mul_li, mul_ti, app_do, ext_do, ext_do2, ins_do, cut_to, cut_from, puts, f_law_told_v3, c]
omit T in
theorem chk_h {r o : Rls} {h k : D} (hb : isRow h r.halls r.halls = false ∨ ∃ x ∈ elems h, ltn x (natD o.halls) = false) : chkB r o h k = false := by
  unfold chkB
  rcases hb with e | ⟨x, hx, e⟩
  · rw [e]; rfl
  · have : allB (fun v => ltn v (natD o.halls)) (elems h) = false := by
      rw [Bool.eq_false_iff]
      intro ha
      have := allB_iff.mp ha x hx
      rw [e] at this; cases this
    rw [this]; simp
omit T in
theorem chk_k {r o : Rls} {h k : D} (hb : isRow k r.copies.length r.copies.length = false ∨ ∃ x ∈ elems k, ltn x (natD o.copies.length) = false) : chkB r o h k = false := by
  unfold chkB
  rcases hb with e | ⟨x, hx, e⟩
  · rw [e]; simp
  · have : allB (fun v => ltn v (natD o.copies.length)) (elems k) = false := by
      rw [Bool.eq_false_iff]
      intro ha
      have := allB_iff.mp ha x hx
      rw [e] at this; cases this
    rw [this]; simp
omit T in
theorem row_len' {xs : List D} {k : Nat} (h : xs.length ≠ k) : isRow (.tup xs) k k = false := by
  simp only [isRow, isTu, Bool.true_and, ln_t]
  by_cases h1 : (k : Int) ≤ xs.length
  · simp; omega
  · simp; omega
/-- the seven that are no rows of numbers below a bound -/
theorem bads (hs : List Nat) (m b : Nat) (hm : 1 ≤ m) (hl : hs.length = m) : ∀ x ∈ [D.tup ((hs.map natD).tail), .tup (hs.map natD ++ [.int 0]), .tup (List.replicate m (natD b)), .tup (List.replicate m (.int (-1))), .lst (hs.map natD), .non, .tup (List.replicate m (.bl true)), .tup (List.replicate m (.bl false))],
    isRow x m m = false ∨ ∃ y ∈ elems x, ltn y (natD b) = false := by
  have hr : ∀ d : D, d ∈ elems (.tup (List.replicate m d)) := fun d => List.mem_replicate.mpr ⟨by omega, rfl⟩
  simp only [List.mem_cons, List.mem_nil_iff, or_false, forall_eq_or_imp, forall_eq]
  refine ⟨.inl (row_len' (by simp; omega)), .inl (row_len' (by simp; omega)), .inr ⟨_, hr _, by rw [ltn_nat]; simp⟩, .inr ⟨_, hr _, by simp [ltn, natD, -natD_i]⟩, .inl rfl, .inl rfl, .inr ⟨_, hr _, rfl⟩, .inr ⟨_, hr _, rfl⟩⟩
omit T in
theorem wd_union {r o : Rls} {halls kinds : List Nat} (g : Goes r o halls kinds) (ok : r.Ok) (ok' : o.Ok) : Wd 200 6 (unionR r o halls kinds).d := by
  have k6 := ok.k6
  have k6' := ok'.k6
  have h4 := ok.h4
  have m12 := ok.m12
  have m12' := ok'.m12
  have p4' := ok'.p4
  have kl := g.kl
  have l1 : (firstMs r o).length ≤ 48 := Nat.le_trans (flat_len (k := 4) fun p _ => by rw [List.length_map]; exact Nat.le_trans filt_len ok.h4) (by rw [List.length_zipIdx]; omega)
  have l3 : (otherMs r o).length ≤ 48 := Nat.le_trans (flat_len (k := 4) fun p _ => by rw [List.length_map]; exact Nat.le_trans filt_len ok'.h4) (by rw [List.length_zipIdx]; omega)
  have l4 : (unionPr r o).length ≤ 16 := Nat.le_trans (flat_len (k := 4) fun p _ => by rw [List.length_map]; exact halls_len ok'.h4) (by omega)
  have hm : ∀ m ∈ (unionPs r o halls kinds).map (·.2), m.ins.length ≤ 200 ∧ m.outs.length ≤ 200 ∧ m.ls.length ≤ 200 := by
    intro m hm
    obtain ⟨q, hq, rfl⟩ := List.mem_map.mp hm
    unfold unionPs at hq
    rcases List.mem_append.mp hq with h | h
    · rcases List.mem_append.mp h with h | h
      · obtain ⟨p, hp, rfl⟩ := List.mem_map.mp h
        unfold firstMs at hp
        obtain ⟨⟨m, j⟩, hj, hp⟩ := List.mem_flatMap.mp hp
        obtain ⟨x, _, rfl⟩ := List.mem_map.mp hp
        have hmem : m ∈ r.moves := by
          have := List.mem_zipIdx hj
          rw [this.2.2]; exact List.getElem_mem _
        have := ok.moves m hmem
        have a1 := this.li
        have a2 := this.lo
        have a3 := this.ll
        simp [movedM, stayT]; omega
      · obtain ⟨x, _, rfl⟩ := List.mem_map.mp h
        simp [chM, chLs]; omega
    · obtain ⟨p, hp, rfl⟩ := List.mem_map.mp h
      unfold otherMs at hp
      obtain ⟨⟨m, j⟩, hj, hp⟩ := List.mem_flatMap.mp hp
      obtain ⟨x, _, rfl⟩ := List.mem_map.mp hp
      have hmem : m ∈ o.moves := by
        have := List.mem_zipIdx hj
        rw [this.2.2]; exact List.getElem_mem _
      have := ok'.moves m hmem
      have a1 := this.li
      have a2 := this.lo
      have a3 := this.ll
      simp [movedM, otherLs, stayT]; omega
  have hps : ∀ p ∈ unionPr r o, p.2.length ≤ 200 := by
    intro p hp
    unfold unionPr at hp
    obtain ⟨q, hq, hp⟩ := List.mem_flatMap.mp hp
    obtain ⟨x, _, rfl⟩ := List.mem_map.mp hp
    have := (ok'.proms q hq).2.2.1
    simp; omega
  have l5 : ((unionPs r o halls kinds).map (·.2)).length ≤ 200 := by simp [unionPs]; omega
  exact wd_rls (d := 0) (by omega) (by simp [unionR]; omega) l5 (Nat.le_trans l4 (by omega)) hm hps
theorem l_main52 (n : Nat) (ns : List Int) (hs : sub 10 10 = true) : call tbl sub (n + 30) 280 [.scr ns] = .ret (.sh (.bl true)) [] := by
  rw [call_has rfl]
  obtain ⟨s0, e0⟩ := l_stream (tbl := tbl) (sub := sub) (n + 28) ns
  obtain ⟨r, s1, hr, e1⟩ := l_rules (tbl := tbl) (sub := sub) (n + 25) s0
  obtain ⟨o, s2, ho, e2⟩ := l_others (tbl := tbl) (sub := sub) (n + 24) s1 r hr
  obtain ⟨halls, kinds, s3, g, e3⟩ := l_change (tbl := tbl) (sub := sub) (n + 26) s2 r o hr ho
  have e4 := l_told (tbl := tbl) (sub := sub) (n + 23) r o halls kinds g hr.toOk ho.toOk
  have e5 := l_due_union (tbl := tbl) (sub := sub) (n + 26) r o halls kinds g hr.toOk ho.toOk
  have hw : Wd 200 7 (.lst [(unionR r o halls kinds).d]) := by
    exact wd_lst.mpr ⟨by simp, fun x hx => by rw [List.mem_singleton.mp hx]; exact wd_union g hr.toOk ho.toOk⟩
  have e6 := l_same (tbl := tbl) (sub := sub) (n + 21) 200 (by omega) 7 _ hw
  have kb := fun k => l_told_bad (tbl := tbl) (sub := sub) (n + 24) r o (.tup (halls.map natD)) k hr.k1 hs
  have hb := fun h => l_told_bad (tbl := tbl) (sub := sub) (n + 24) r o h (.tup (kinds.map natD)) hr.k1 hs
  have h1 := hr.h1
  have h3 := hr.h3
  have k1 := hr.k1
  have c4 := hr.c4
  have hl := g.hl
  have kl := g.kl
  obtain ⟨x, s4, hx, e7⟩ := l_pickQ (tbl := tbl) (sub := sub) (fun x => chkB r o x (.tup (kinds.map natD)) = false) (n + 27) s3 [D.tup ((halls.map natD).tail), .tup (halls.map natD ++ [.int 0]), .tup (List.replicate halls.length (natD o.halls)), .tup (List.replicate halls.length (.int (-1))), .lst (halls.map natD), .non, .tup (List.replicate halls.length (.bl true))] (by simp) (by simp) (fun x hx => chk_h (bads halls r.halls o.halls h1 hl x (by
    rw [hl] at hx
    simp only [List.mem_cons, List.mem_nil_iff, or_false] at hx ⊢
    rcases hx with h | h | h | h | h | h | h <;> simp [h])))
  obtain ⟨y, s5, hy, e8⟩ := l_pickQ (tbl := tbl) (sub := sub) (fun x => chkB r o (.tup (halls.map natD)) x = false) (n + 27) s4 [D.tup ((kinds.map natD).tail), .tup (kinds.map natD ++ [.int 0]), .tup (List.replicate kinds.length (natD o.copies.length)), .tup (List.replicate kinds.length (.int (-1))), .lst (kinds.map natD), .non, .tup (List.replicate kinds.length (.bl false))] (by simp) (by simp) (fun x hx => chk_k (bads kinds r.copies.length o.copies.length k1 kl x (by
    rw [kl] at hx
    simp only [List.mem_cons, List.mem_nil_iff, or_false] at hx ⊢
    rcases hx with h | h | h | h | h | h | h <;> simp [h])))
  have e9 := hb x hx
  have e10 := kb y hy
  simp (disch := first | omega | (simp only [List.length_cons, List.length_nil, List.length_map, List.length_append, List.length_range, List.length_take, List.length_drop, cap]; omega) | (simp [cap] <;> omega) | fail) [-List.map_map, -List.map_append, -List.filter_append, v_addL, v_addT, i_mulR, mul_li, mul_ti, app_do, ext_do, ext_do2, ins_do, cut_to, cut_from, puts, rg_ok, rg_ok2, rangeD, nt_mul_l, nt_mul_t, nt_sub1, nt_sub_le, own_map, f_law_v20, e0, e1, e2, e3, e4, e5, e6, e7, e8, e9, e10]
end
end Lw
set_option Elab.async false
set_option linter.all false
set_option maxRecDepth 100000
set_option maxHeartbeats 1000000
namespace Lw
open Ev PySem
section
open PySem.Spec PyProof.Rows L2
def topS (i : Nat) : Stmt := PySem.Challenge.pw_everfresh_k52_whole_unions.main.body.getD i (.Pass ⟨0, 0, 0, 0⟩)
def r_is_integer : FR := ⟨"is_integer", topS 6, [Str.ofString "value"], [Str.ofString "value"], f_is_integer⟩
def r_is_below : FR := ⟨"is_below", topS 7, [Str.ofString "value", Str.ofString "bound"], [Str.ofString "value", Str.ofString "bound"], f_is_below⟩
def r_is_row : FR := ⟨"is_row", topS 8, [Str.ofString "value", Str.ofString "least", Str.ofString "most"], [Str.ofString "value", Str.ofString "least", Str.ofString "most"], f_is_row⟩
def r_is_made_in : FR := ⟨"is_made_in", topS 9, [Str.ofString "move", Str.ofString "hall"], [Str.ofString "move", Str.ofString "hall"], f_is_made_in⟩
def r_hall_behind : FR := ⟨"hall_behind", topS 10, [Str.ofString "move", Str.ofString "hall"], [Str.ofString "move", Str.ofString "hall"], f_hall_behind⟩
def r_check_change : FR := ⟨"check_change", topS 12, [Str.ofString "rules", Str.ofString "others", Str.ofString "halls", Str.ofString "kinds", Str.ofString "hall", Str.ofString "kind", Str.ofString "is_copy"], [Str.ofString "rules", Str.ofString "others", Str.ofString "halls", Str.ofString "kinds"], f_check_change⟩
def r_staying : FR := ⟨"staying", topS 13, [Str.ofString "copies", Str.ofString "first", Str.ofString "kind", Str.ofString "is_copy"], [Str.ofString "copies", Str.ofString "first"], f_staying⟩
def r_moved : FR := ⟨"moved", topS 14, [Str.ofString "move", Str.ofString "hall", Str.ofString "first_hall", Str.ofString "first_kind", Str.ofString "reads", Str.ofString "letter", Str.ofString "ins", Str.ofString "outs", Str.ofString "behind", Str.ofString "kind", Str.ofString "source"], [Str.ofString "move", Str.ofString "hall", Str.ofString "first_hall", Str.ofString "first_kind", Str.ofString "reads", Str.ofString "letter"], f_moved⟩
def r_first_moves : FR := ⟨"first_moves", topS 15, [Str.ofString "rules", Str.ofString "others", Str.ofString "found", Str.ofString "number", Str.ofString "move", Str.ofString "letter", Str.ofString "hall"], [Str.ofString "rules", Str.ofString "others"], f_first_moves⟩
def r_change_moves : FR := ⟨"change_moves", topS 16, [Str.ofString "rules", Str.ofString "others", Str.ofString "halls", Str.ofString "kinds", Str.ofString "count", Str.ofString "letter", Str.ofString "found", Str.ofString "hall", Str.ofString "kind", Str.ofString "_"], [Str.ofString "rules", Str.ofString "others", Str.ofString "halls", Str.ofString "kinds"], f_change_moves⟩
def r_other_moves : FR := ⟨"other_moves", topS 17, [Str.ofString "rules", Str.ofString "others", Str.ofString "count", Str.ofString "found", Str.ofString "number", Str.ofString "move", Str.ofString "letter", Str.ofString "hall", Str.ofString "kind", Str.ofString "source"], [Str.ofString "rules", Str.ofString "others"], f_other_moves⟩
def r_union_moves : FR := ⟨"union_moves", topS 18, [Str.ofString "rules", Str.ofString "others", Str.ofString "halls", Str.ofString "kinds"], [Str.ofString "rules", Str.ofString "others", Str.ofString "halls", Str.ofString "kinds"], f_union_moves⟩
def r_union_promises : FR := ⟨"union_promises", topS 19, [Str.ofString "rules", Str.ofString "others", Str.ofString "found", Str.ofString "hall", Str.ofString "kinds", Str.ofString "place", Str.ofString "kind"], [Str.ofString "rules", Str.ofString "others"], f_union_promises⟩
def r_union : FR := ⟨"union", topS 20, [Str.ofString "rules", Str.ofString "others", Str.ofString "halls", Str.ofString "kinds", Str.ofString "moves", Str.ofString "_", Str.ofString "move"], [Str.ofString "rules", Str.ofString "others", Str.ofString "halls", Str.ofString "kinds"], f_union⟩
def r_law_stream : FR := ⟨"_law_stream", topS 22, [Str.ofString "script", Str.ofString "mixed", Str.ofString "cell"], [Str.ofString "script"], f_law_stream⟩
def r_law_draw : FR := ⟨"_law_draw", topS 23, [Str.ofString "stream", Str.ofString "many", Str.ofString "value"], [Str.ofString "stream", Str.ofString "many"], f_law_draw⟩
def r_law_pick : FR := ⟨"_law_pick", topS 24, [Str.ofString "stream", Str.ofString "rows"], [Str.ofString "stream", Str.ofString "rows"], f_law_pick⟩
def r_law_same : FR := ⟨"_law_same", topS 25, [Str.ofString "one", Str.ofString "two", Str.ofString "k"], [Str.ofString "one", Str.ofString "two"], f_law_same⟩
def r_law_pool : FR := ⟨"_law_pool", topS 26, [Str.ofString "copies", Str.ofString "ins", Str.ofString "writes", Str.ofString "i"], [Str.ofString "copies", Str.ofString "ins", Str.ofString "writes"], f_law_pool⟩
def r_law_drawn_move : FR := ⟨"_law_drawn_move", topS 27, [Str.ofString "stream", Str.ofString "copies", Str.ofString "halls", Str.ofString "kinds", Str.ofString "places", Str.ofString "writes", Str.ofString "ins", Str.ofString "pool", Str.ofString "memory", Str.ofString "outs", Str.ofString "k", Str.ofString "letter", Str.ofString "reads", Str.ofString "kind", Str.ofString "own", Str.ofString "h", Str.ofString "one", Str.ofString "source"], [Str.ofString "stream", Str.ofString "copies", Str.ofString "halls"], f_law_drawn_move⟩
def r_law_known : FR := ⟨"_law_known", topS 28, [Str.ofString "stay", Str.ofString "moves"], [], f_law_known⟩
def r_law_rules : FR := ⟨"_law_rules", topS 29, [Str.ofString "stream", Str.ofString "copies", Str.ofString "halls", Str.ofString "moves", Str.ofString "promises", Str.ofString "move", Str.ofString "k"], [Str.ofString "stream"], f_law_rules⟩
def r_law_pattern : FR := ⟨"_law_pattern", topS 30, [Str.ofString "stream", Str.ofString "copies", Str.ofString "halls", Str.ofString "hall", Str.ofString "h", Str.ofString "k"], [Str.ofString "stream", Str.ofString "copies", Str.ofString "halls"], f_law_pattern⟩
def r_law_change : FR := ⟨"_law_change", topS 31, [Str.ofString "stream", Str.ofString "rules", Str.ofString "others", Str.ofString "halls", Str.ofString "bare", Str.ofString "kinds", Str.ofString "k"], [Str.ofString "stream", Str.ofString "rules", Str.ofString "others"], f_law_change⟩
def r_law_others_v3 : FR := ⟨"_law_others", topS 32, [Str.ofString "stream", Str.ofString "rules", Str.ofString "pick", Str.ofString "moves", Str.ofString "promises", Str.ofString "move", Str.ofString "one"], [Str.ofString "stream", Str.ofString "rules"], f_law_others_v3⟩
def r_law_places_v2 : FR := ⟨"_law_places", topS 33, [Str.ofString "move", Str.ofString "halls"], [Str.ofString "move", Str.ofString "halls"], f_law_places_v2⟩
def r_law_due_v3 : FR := ⟨"_law_due", topS 34, [Str.ofString "rules", Str.ofString "others", Str.ofString "halls", Str.ofString "kinds", Str.ofString "many", Str.ofString "more", Str.ofString "copies", Str.ofString "still", Str.ofString "moves", Str.ofString "move", Str.ofString "hall", Str.ofString "promises", Str.ofString "letter", Str.ofString "k", Str.ofString "row", Str.ofString "place", Str.ofString "behind", Str.ofString "ins", Str.ofString "outs", Str.ofString "kind", Str.ofString "source"], [Str.ofString "rules", Str.ofString "others", Str.ofString "halls", Str.ofString "kinds"], f_law_due_v3⟩
def r_law_told_v3 : FR := ⟨"_law_told", topS 35, [Str.ofString "rules", Str.ofString "others", Str.ofString "halls", Str.ofString "kinds"], [Str.ofString "rules", Str.ofString "others", Str.ofString "halls", Str.ofString "kinds"], f_law_told_v3⟩
def r_law_v20 : FR := ⟨"law", topS 36, [Str.ofString "script", Str.ofString "stream", Str.ofString "rules", Str.ofString "others", Str.ofString "many", Str.ofString "bad", Str.ofString "halls", Str.ofString "kinds"], [Str.ofString "script"], f_law_v20⟩
def tab : List (Nat × FR) := [(0, r_is_integer), (1, r_is_below), (2, r_is_row), (56, r_is_made_in), (57, r_hall_behind), (252, r_check_change), (269, r_staying), (270, r_moved), (271, r_first_moves), (272, r_change_moves), (273, r_other_moves), (274, r_union_moves), (275, r_union_promises), (276, r_union), (13, r_law_stream), (14, r_law_draw), (15, r_law_pick), (16, r_law_same), (28, r_law_pool), (29, r_law_drawn_move), (30, r_law_known), (31, r_law_rules), (32, r_law_pattern), (255, r_law_change), (257, r_law_others_v3), (277, r_law_places_v2), (278, r_law_due_v3), (279, r_law_told_v3), (280, r_law_v20)]
def exs : List (Nat × String) := [(0, "EverfreshError"), (10, "BadChange")]
def subx (c h : Nat) : Bool := (if [0, 10].contains c then c else 0) == h || h == 0
def gl : List (String × D) := [("MEMORY", (.tup [(.str "memory")])), ("OWN", (.tup [(.str "own")]))]
def pg : Pg := ⟨tab, exs, subx, gl⟩
theorem g_is_integer : FR.good pg r_is_integer = true := by decide +kernel
theorem s_is_integer : FnScope r_is_integer.N r_is_integer.ps (defScope r_is_integer.st) := ⟨rfl, rfl, rfl, by decide +kernel, rfl, by decide +kernel, by decide +kernel⟩
theorem b_is_integer (kV doc pm : Value) (an : Option Addr) (cdv ct : Value) (us : List Value) (hl : us.length = r_is_integer.ps.length) : bindArgs (PySem.W.fnOf (Str.ofString r_is_integer.name) (Str.ofString r_is_integer.name) (defArgs r_is_integer.st) (defBody r_is_integer.st) (defScope r_is_integer.st) .none kV doc pm an cdv ct) ⟨us, []⟩ = pure (r_is_integer.ps.zip us) := match us, hl with
  | [_], _ => rfl
theorem g_is_below : FR.good pg r_is_below = true := by decide +kernel
theorem s_is_below : FnScope r_is_below.N r_is_below.ps (defScope r_is_below.st) := ⟨rfl, rfl, rfl, by decide +kernel, rfl, by decide +kernel, by decide +kernel⟩
theorem b_is_below (kV doc pm : Value) (an : Option Addr) (cdv ct : Value) (us : List Value) (hl : us.length = r_is_below.ps.length) : bindArgs (PySem.W.fnOf (Str.ofString r_is_below.name) (Str.ofString r_is_below.name) (defArgs r_is_below.st) (defBody r_is_below.st) (defScope r_is_below.st) .none kV doc pm an cdv ct) ⟨us, []⟩ = pure (r_is_below.ps.zip us) := match us, hl with
  | [_, _], _ => rfl
theorem g_is_row : FR.good pg r_is_row = true := by decide +kernel
theorem s_is_row : FnScope r_is_row.N r_is_row.ps (defScope r_is_row.st) := ⟨rfl, rfl, rfl, by decide +kernel, rfl, by decide +kernel, by decide +kernel⟩
theorem b_is_row (kV doc pm : Value) (an : Option Addr) (cdv ct : Value) (us : List Value) (hl : us.length = r_is_row.ps.length) : bindArgs (PySem.W.fnOf (Str.ofString r_is_row.name) (Str.ofString r_is_row.name) (defArgs r_is_row.st) (defBody r_is_row.st) (defScope r_is_row.st) .none kV doc pm an cdv ct) ⟨us, []⟩ = pure (r_is_row.ps.zip us) := match us, hl with
  | [_, _, _], _ => rfl
theorem g_is_made_in : FR.good pg r_is_made_in = true := by decide +kernel
theorem s_is_made_in : FnScope r_is_made_in.N r_is_made_in.ps (defScope r_is_made_in.st) := ⟨rfl, rfl, rfl, by decide +kernel, rfl, by decide +kernel, by decide +kernel⟩
theorem b_is_made_in (kV doc pm : Value) (an : Option Addr) (cdv ct : Value) (us : List Value) (hl : us.length = r_is_made_in.ps.length) : bindArgs (PySem.W.fnOf (Str.ofString r_is_made_in.name) (Str.ofString r_is_made_in.name) (defArgs r_is_made_in.st) (defBody r_is_made_in.st) (defScope r_is_made_in.st) .none kV doc pm an cdv ct) ⟨us, []⟩ = pure (r_is_made_in.ps.zip us) := match us, hl with
  | [_, _], _ => rfl
theorem g_hall_behind : FR.good pg r_hall_behind = true := by decide +kernel
theorem s_hall_behind : FnScope r_hall_behind.N r_hall_behind.ps (defScope r_hall_behind.st) := ⟨rfl, rfl, rfl, by decide +kernel, rfl, by decide +kernel, by decide +kernel⟩
theorem b_hall_behind (kV doc pm : Value) (an : Option Addr) (cdv ct : Value) (us : List Value) (hl : us.length = r_hall_behind.ps.length) : bindArgs (PySem.W.fnOf (Str.ofString r_hall_behind.name) (Str.ofString r_hall_behind.name) (defArgs r_hall_behind.st) (defBody r_hall_behind.st) (defScope r_hall_behind.st) .none kV doc pm an cdv ct) ⟨us, []⟩ = pure (r_hall_behind.ps.zip us) := match us, hl with
  | [_, _], _ => rfl
theorem g_check_change : FR.good pg r_check_change = true := by decide +kernel
theorem s_check_change : FnScope r_check_change.N r_check_change.ps (defScope r_check_change.st) := ⟨rfl, rfl, rfl, by decide +kernel, rfl, by decide +kernel, by decide +kernel⟩
theorem b_check_change (kV doc pm : Value) (an : Option Addr) (cdv ct : Value) (us : List Value) (hl : us.length = r_check_change.ps.length) : bindArgs (PySem.W.fnOf (Str.ofString r_check_change.name) (Str.ofString r_check_change.name) (defArgs r_check_change.st) (defBody r_check_change.st) (defScope r_check_change.st) .none kV doc pm an cdv ct) ⟨us, []⟩ = pure (r_check_change.ps.zip us) := match us, hl with
  | [_, _, _, _], _ => rfl
theorem g_staying : FR.good pg r_staying = true := by decide +kernel
theorem s_staying : FnScope r_staying.N r_staying.ps (defScope r_staying.st) := ⟨rfl, rfl, rfl, by decide +kernel, rfl, by decide +kernel, by decide +kernel⟩
theorem b_staying (kV doc pm : Value) (an : Option Addr) (cdv ct : Value) (us : List Value) (hl : us.length = r_staying.ps.length) : bindArgs (PySem.W.fnOf (Str.ofString r_staying.name) (Str.ofString r_staying.name) (defArgs r_staying.st) (defBody r_staying.st) (defScope r_staying.st) .none kV doc pm an cdv ct) ⟨us, []⟩ = pure (r_staying.ps.zip us) := match us, hl with
  | [_, _], _ => rfl
theorem g_moved : FR.good pg r_moved = true := by decide +kernel
theorem s_moved : FnScope r_moved.N r_moved.ps (defScope r_moved.st) := ⟨rfl, rfl, rfl, by decide +kernel, rfl, by decide +kernel, by decide +kernel⟩
theorem b_moved (kV doc pm : Value) (an : Option Addr) (cdv ct : Value) (us : List Value) (hl : us.length = r_moved.ps.length) : bindArgs (PySem.W.fnOf (Str.ofString r_moved.name) (Str.ofString r_moved.name) (defArgs r_moved.st) (defBody r_moved.st) (defScope r_moved.st) .none kV doc pm an cdv ct) ⟨us, []⟩ = pure (r_moved.ps.zip us) := match us, hl with
  | [_, _, _, _, _, _], _ => rfl
theorem g_first_moves : FR.good pg r_first_moves = true := by decide +kernel
theorem s_first_moves : FnScope r_first_moves.N r_first_moves.ps (defScope r_first_moves.st) := ⟨rfl, rfl, rfl, by decide +kernel, rfl, by decide +kernel, by decide +kernel⟩
theorem b_first_moves (kV doc pm : Value) (an : Option Addr) (cdv ct : Value) (us : List Value) (hl : us.length = r_first_moves.ps.length) : bindArgs (PySem.W.fnOf (Str.ofString r_first_moves.name) (Str.ofString r_first_moves.name) (defArgs r_first_moves.st) (defBody r_first_moves.st) (defScope r_first_moves.st) .none kV doc pm an cdv ct) ⟨us, []⟩ = pure (r_first_moves.ps.zip us) := match us, hl with
  | [_, _], _ => rfl
theorem g_change_moves : FR.good pg r_change_moves = true := by decide +kernel
theorem s_change_moves : FnScope r_change_moves.N r_change_moves.ps (defScope r_change_moves.st) := ⟨rfl, rfl, rfl, by decide +kernel, rfl, by decide +kernel, by decide +kernel⟩
theorem b_change_moves (kV doc pm : Value) (an : Option Addr) (cdv ct : Value) (us : List Value) (hl : us.length = r_change_moves.ps.length) : bindArgs (PySem.W.fnOf (Str.ofString r_change_moves.name) (Str.ofString r_change_moves.name) (defArgs r_change_moves.st) (defBody r_change_moves.st) (defScope r_change_moves.st) .none kV doc pm an cdv ct) ⟨us, []⟩ = pure (r_change_moves.ps.zip us) := match us, hl with
  | [_, _, _, _], _ => rfl
theorem g_other_moves : FR.good pg r_other_moves = true := by decide +kernel
theorem s_other_moves : FnScope r_other_moves.N r_other_moves.ps (defScope r_other_moves.st) := ⟨rfl, rfl, rfl, by decide +kernel, rfl, by decide +kernel, by decide +kernel⟩
theorem b_other_moves (kV doc pm : Value) (an : Option Addr) (cdv ct : Value) (us : List Value) (hl : us.length = r_other_moves.ps.length) : bindArgs (PySem.W.fnOf (Str.ofString r_other_moves.name) (Str.ofString r_other_moves.name) (defArgs r_other_moves.st) (defBody r_other_moves.st) (defScope r_other_moves.st) .none kV doc pm an cdv ct) ⟨us, []⟩ = pure (r_other_moves.ps.zip us) := match us, hl with
  | [_, _], _ => rfl
theorem g_union_moves : FR.good pg r_union_moves = true := by decide +kernel
theorem s_union_moves : FnScope r_union_moves.N r_union_moves.ps (defScope r_union_moves.st) := ⟨rfl, rfl, rfl, by decide +kernel, rfl, by decide +kernel, by decide +kernel⟩
theorem b_union_moves (kV doc pm : Value) (an : Option Addr) (cdv ct : Value) (us : List Value) (hl : us.length = r_union_moves.ps.length) : bindArgs (PySem.W.fnOf (Str.ofString r_union_moves.name) (Str.ofString r_union_moves.name) (defArgs r_union_moves.st) (defBody r_union_moves.st) (defScope r_union_moves.st) .none kV doc pm an cdv ct) ⟨us, []⟩ = pure (r_union_moves.ps.zip us) := match us, hl with
  | [_, _, _, _], _ => rfl
theorem g_union_promises : FR.good pg r_union_promises = true := by decide +kernel
theorem s_union_promises : FnScope r_union_promises.N r_union_promises.ps (defScope r_union_promises.st) := ⟨rfl, rfl, rfl, by decide +kernel, rfl, by decide +kernel, by decide +kernel⟩
theorem b_union_promises (kV doc pm : Value) (an : Option Addr) (cdv ct : Value) (us : List Value) (hl : us.length = r_union_promises.ps.length) : bindArgs (PySem.W.fnOf (Str.ofString r_union_promises.name) (Str.ofString r_union_promises.name) (defArgs r_union_promises.st) (defBody r_union_promises.st) (defScope r_union_promises.st) .none kV doc pm an cdv ct) ⟨us, []⟩ = pure (r_union_promises.ps.zip us) := match us, hl with
  | [_, _], _ => rfl
theorem g_union : FR.good pg r_union = true := by decide +kernel
theorem s_union : FnScope r_union.N r_union.ps (defScope r_union.st) := ⟨rfl, rfl, rfl, by decide +kernel, rfl, by decide +kernel, by decide +kernel⟩
theorem b_union (kV doc pm : Value) (an : Option Addr) (cdv ct : Value) (us : List Value) (hl : us.length = r_union.ps.length) : bindArgs (PySem.W.fnOf (Str.ofString r_union.name) (Str.ofString r_union.name) (defArgs r_union.st) (defBody r_union.st) (defScope r_union.st) .none kV doc pm an cdv ct) ⟨us, []⟩ = pure (r_union.ps.zip us) := match us, hl with
  | [_, _, _, _], _ => rfl
theorem g_law_stream : FR.good pg r_law_stream = true := by decide +kernel
theorem s_law_stream : FnScope r_law_stream.N r_law_stream.ps (defScope r_law_stream.st) := ⟨rfl, rfl, rfl, by decide +kernel, rfl, by decide +kernel, by decide +kernel⟩
theorem b_law_stream (kV doc pm : Value) (an : Option Addr) (cdv ct : Value) (us : List Value) (hl : us.length = r_law_stream.ps.length) : bindArgs (PySem.W.fnOf (Str.ofString r_law_stream.name) (Str.ofString r_law_stream.name) (defArgs r_law_stream.st) (defBody r_law_stream.st) (defScope r_law_stream.st) .none kV doc pm an cdv ct) ⟨us, []⟩ = pure (r_law_stream.ps.zip us) := match us, hl with
  | [_], _ => rfl
theorem g_law_draw : FR.good pg r_law_draw = true := by decide +kernel
theorem s_law_draw : FnScope r_law_draw.N r_law_draw.ps (defScope r_law_draw.st) := ⟨rfl, rfl, rfl, by decide +kernel, rfl, by decide +kernel, by decide +kernel⟩
theorem b_law_draw (kV doc pm : Value) (an : Option Addr) (cdv ct : Value) (us : List Value) (hl : us.length = r_law_draw.ps.length) : bindArgs (PySem.W.fnOf (Str.ofString r_law_draw.name) (Str.ofString r_law_draw.name) (defArgs r_law_draw.st) (defBody r_law_draw.st) (defScope r_law_draw.st) .none kV doc pm an cdv ct) ⟨us, []⟩ = pure (r_law_draw.ps.zip us) := match us, hl with
  | [_, _], _ => rfl
theorem g_law_pick : FR.good pg r_law_pick = true := by decide +kernel
theorem s_law_pick : FnScope r_law_pick.N r_law_pick.ps (defScope r_law_pick.st) := ⟨rfl, rfl, rfl, by decide +kernel, rfl, by decide +kernel, by decide +kernel⟩
theorem b_law_pick (kV doc pm : Value) (an : Option Addr) (cdv ct : Value) (us : List Value) (hl : us.length = r_law_pick.ps.length) : bindArgs (PySem.W.fnOf (Str.ofString r_law_pick.name) (Str.ofString r_law_pick.name) (defArgs r_law_pick.st) (defBody r_law_pick.st) (defScope r_law_pick.st) .none kV doc pm an cdv ct) ⟨us, []⟩ = pure (r_law_pick.ps.zip us) := match us, hl with
  | [_, _], _ => rfl
theorem g_law_same : FR.good pg r_law_same = true := by decide +kernel
theorem s_law_same : FnScope r_law_same.N r_law_same.ps (defScope r_law_same.st) := ⟨rfl, rfl, rfl, by decide +kernel, rfl, by decide +kernel, by decide +kernel⟩
theorem b_law_same (kV doc pm : Value) (an : Option Addr) (cdv ct : Value) (us : List Value) (hl : us.length = r_law_same.ps.length) : bindArgs (PySem.W.fnOf (Str.ofString r_law_same.name) (Str.ofString r_law_same.name) (defArgs r_law_same.st) (defBody r_law_same.st) (defScope r_law_same.st) .none kV doc pm an cdv ct) ⟨us, []⟩ = pure (r_law_same.ps.zip us) := match us, hl with
  | [_, _], _ => rfl
theorem g_law_pool : FR.good pg r_law_pool = true := by decide +kernel
theorem s_law_pool : FnScope r_law_pool.N r_law_pool.ps (defScope r_law_pool.st) := ⟨rfl, rfl, rfl, by decide +kernel, rfl, by decide +kernel, by decide +kernel⟩
theorem b_law_pool (kV doc pm : Value) (an : Option Addr) (cdv ct : Value) (us : List Value) (hl : us.length = r_law_pool.ps.length) : bindArgs (PySem.W.fnOf (Str.ofString r_law_pool.name) (Str.ofString r_law_pool.name) (defArgs r_law_pool.st) (defBody r_law_pool.st) (defScope r_law_pool.st) .none kV doc pm an cdv ct) ⟨us, []⟩ = pure (r_law_pool.ps.zip us) := match us, hl with
  | [_, _, _], _ => rfl
theorem g_law_drawn_move : FR.good pg r_law_drawn_move = true := by decide +kernel
theorem s_law_drawn_move : FnScope r_law_drawn_move.N r_law_drawn_move.ps (defScope r_law_drawn_move.st) := ⟨rfl, rfl, rfl, by decide +kernel, rfl, by decide +kernel, by decide +kernel⟩
theorem b_law_drawn_move (kV doc pm : Value) (an : Option Addr) (cdv ct : Value) (us : List Value) (hl : us.length = r_law_drawn_move.ps.length) : bindArgs (PySem.W.fnOf (Str.ofString r_law_drawn_move.name) (Str.ofString r_law_drawn_move.name) (defArgs r_law_drawn_move.st) (defBody r_law_drawn_move.st) (defScope r_law_drawn_move.st) .none kV doc pm an cdv ct) ⟨us, []⟩ = pure (r_law_drawn_move.ps.zip us) := match us, hl with
  | [_, _, _], _ => rfl
theorem g_law_known : FR.good pg r_law_known = true := by decide +kernel
theorem s_law_known : FnScope r_law_known.N r_law_known.ps (defScope r_law_known.st) := ⟨rfl, rfl, rfl, by decide +kernel, rfl, by decide +kernel, by decide +kernel⟩
theorem b_law_known (kV doc pm : Value) (an : Option Addr) (cdv ct : Value) (us : List Value) (hl : us.length = r_law_known.ps.length) : bindArgs (PySem.W.fnOf (Str.ofString r_law_known.name) (Str.ofString r_law_known.name) (defArgs r_law_known.st) (defBody r_law_known.st) (defScope r_law_known.st) .none kV doc pm an cdv ct) ⟨us, []⟩ = pure (r_law_known.ps.zip us) := match us, hl with
  | [], _ => rfl
theorem g_law_rules : FR.good pg r_law_rules = true := by decide +kernel
theorem s_law_rules : FnScope r_law_rules.N r_law_rules.ps (defScope r_law_rules.st) := ⟨rfl, rfl, rfl, by decide +kernel, rfl, by decide +kernel, by decide +kernel⟩
theorem b_law_rules (kV doc pm : Value) (an : Option Addr) (cdv ct : Value) (us : List Value) (hl : us.length = r_law_rules.ps.length) : bindArgs (PySem.W.fnOf (Str.ofString r_law_rules.name) (Str.ofString r_law_rules.name) (defArgs r_law_rules.st) (defBody r_law_rules.st) (defScope r_law_rules.st) .none kV doc pm an cdv ct) ⟨us, []⟩ = pure (r_law_rules.ps.zip us) := match us, hl with
  | [_], _ => rfl
theorem g_law_pattern : FR.good pg r_law_pattern = true := by decide +kernel
theorem s_law_pattern : FnScope r_law_pattern.N r_law_pattern.ps (defScope r_law_pattern.st) := ⟨rfl, rfl, rfl, by decide +kernel, rfl, by decide +kernel, by decide +kernel⟩
theorem b_law_pattern (kV doc pm : Value) (an : Option Addr) (cdv ct : Value) (us : List Value) (hl : us.length = r_law_pattern.ps.length) : bindArgs (PySem.W.fnOf (Str.ofString r_law_pattern.name) (Str.ofString r_law_pattern.name) (defArgs r_law_pattern.st) (defBody r_law_pattern.st) (defScope r_law_pattern.st) .none kV doc pm an cdv ct) ⟨us, []⟩ = pure (r_law_pattern.ps.zip us) := match us, hl with
  | [_, _, _], _ => rfl
theorem g_law_change : FR.good pg r_law_change = true := by decide +kernel
theorem s_law_change : FnScope r_law_change.N r_law_change.ps (defScope r_law_change.st) := ⟨rfl, rfl, rfl, by decide +kernel, rfl, by decide +kernel, by decide +kernel⟩
theorem b_law_change (kV doc pm : Value) (an : Option Addr) (cdv ct : Value) (us : List Value) (hl : us.length = r_law_change.ps.length) : bindArgs (PySem.W.fnOf (Str.ofString r_law_change.name) (Str.ofString r_law_change.name) (defArgs r_law_change.st) (defBody r_law_change.st) (defScope r_law_change.st) .none kV doc pm an cdv ct) ⟨us, []⟩ = pure (r_law_change.ps.zip us) := match us, hl with
  | [_, _, _], _ => rfl
theorem g_law_others_v3 : FR.good pg r_law_others_v3 = true := by decide +kernel
theorem s_law_others_v3 : FnScope r_law_others_v3.N r_law_others_v3.ps (defScope r_law_others_v3.st) := ⟨rfl, rfl, rfl, by decide +kernel, rfl, by decide +kernel, by decide +kernel⟩
theorem b_law_others_v3 (kV doc pm : Value) (an : Option Addr) (cdv ct : Value) (us : List Value) (hl : us.length = r_law_others_v3.ps.length) : bindArgs (PySem.W.fnOf (Str.ofString r_law_others_v3.name) (Str.ofString r_law_others_v3.name) (defArgs r_law_others_v3.st) (defBody r_law_others_v3.st) (defScope r_law_others_v3.st) .none kV doc pm an cdv ct) ⟨us, []⟩ = pure (r_law_others_v3.ps.zip us) := match us, hl with
  | [_, _], _ => rfl
theorem g_law_places_v2 : FR.good pg r_law_places_v2 = true := by decide +kernel
theorem s_law_places_v2 : FnScope r_law_places_v2.N r_law_places_v2.ps (defScope r_law_places_v2.st) := ⟨rfl, rfl, rfl, by decide +kernel, rfl, by decide +kernel, by decide +kernel⟩
theorem b_law_places_v2 (kV doc pm : Value) (an : Option Addr) (cdv ct : Value) (us : List Value) (hl : us.length = r_law_places_v2.ps.length) : bindArgs (PySem.W.fnOf (Str.ofString r_law_places_v2.name) (Str.ofString r_law_places_v2.name) (defArgs r_law_places_v2.st) (defBody r_law_places_v2.st) (defScope r_law_places_v2.st) .none kV doc pm an cdv ct) ⟨us, []⟩ = pure (r_law_places_v2.ps.zip us) := match us, hl with
  | [_, _], _ => rfl
theorem g_law_due_v3 : FR.good pg r_law_due_v3 = true := by decide +kernel
theorem s_law_due_v3 : FnScope r_law_due_v3.N r_law_due_v3.ps (defScope r_law_due_v3.st) := ⟨rfl, rfl, rfl, by decide +kernel, rfl, by decide +kernel, by decide +kernel⟩
theorem b_law_due_v3 (kV doc pm : Value) (an : Option Addr) (cdv ct : Value) (us : List Value) (hl : us.length = r_law_due_v3.ps.length) : bindArgs (PySem.W.fnOf (Str.ofString r_law_due_v3.name) (Str.ofString r_law_due_v3.name) (defArgs r_law_due_v3.st) (defBody r_law_due_v3.st) (defScope r_law_due_v3.st) .none kV doc pm an cdv ct) ⟨us, []⟩ = pure (r_law_due_v3.ps.zip us) := match us, hl with
  | [_, _, _, _], _ => rfl
theorem g_law_told_v3 : FR.good pg r_law_told_v3 = true := by decide +kernel
theorem s_law_told_v3 : FnScope r_law_told_v3.N r_law_told_v3.ps (defScope r_law_told_v3.st) := ⟨rfl, rfl, rfl, by decide +kernel, rfl, by decide +kernel, by decide +kernel⟩
theorem b_law_told_v3 (kV doc pm : Value) (an : Option Addr) (cdv ct : Value) (us : List Value) (hl : us.length = r_law_told_v3.ps.length) : bindArgs (PySem.W.fnOf (Str.ofString r_law_told_v3.name) (Str.ofString r_law_told_v3.name) (defArgs r_law_told_v3.st) (defBody r_law_told_v3.st) (defScope r_law_told_v3.st) .none kV doc pm an cdv ct) ⟨us, []⟩ = pure (r_law_told_v3.ps.zip us) := match us, hl with
  | [_, _, _, _], _ => rfl
theorem g_law_v20 : FR.good pg r_law_v20 = true := by decide +kernel
theorem s_law_v20 : FnScope r_law_v20.N r_law_v20.ps (defScope r_law_v20.st) := ⟨rfl, rfl, rfl, by decide +kernel, rfl, by decide +kernel, by decide +kernel⟩
theorem b_law_v20 (kV doc pm : Value) (an : Option Addr) (cdv ct : Value) (us : List Value) (hl : us.length = r_law_v20.ps.length) : bindArgs (PySem.W.fnOf (Str.ofString r_law_v20.name) (Str.ofString r_law_v20.name) (defArgs r_law_v20.st) (defBody r_law_v20.st) (defScope r_law_v20.st) .none kV doc pm an cdv ct) ⟨us, []⟩ = pure (r_law_v20.ps.zip us) := match us, hl with
  | [_], _ => rfl
theorem tab_all {P : Nat → FR → Prop} (h : ∀ q ∈ tab, P q.1 q.2) : ∀ (f : Nat) (r : FR), pg.tab.lookup f = some r → P f r := fun f r e => h (f, r) (mem_lk e)
theorem pgOk : pg.Ok := by
  constructor
  · refine tab_all ?_
    unfold tab
    simp only [List.mem_cons, List.not_mem_nil, or_false, forall_eq_or_imp, forall_eq]
    exact ⟨g_is_integer, g_is_below, g_is_row, g_is_made_in, g_hall_behind, g_check_change, g_staying, g_moved, g_first_moves, g_change_moves, g_other_moves, g_union_moves, g_union_promises, g_union, g_law_stream, g_law_draw, g_law_pick, g_law_same, g_law_pool, g_law_drawn_move, g_law_known, g_law_rules, g_law_pattern, g_law_change, g_law_others_v3, g_law_places_v2, g_law_due_v3, g_law_told_v3, g_law_v20⟩
  · refine tab_all ?_
    unfold tab
    simp only [List.mem_cons, List.not_mem_nil, or_false, forall_eq_or_imp, forall_eq]
    exact ⟨s_is_integer, s_is_below, s_is_row, s_is_made_in, s_hall_behind, s_check_change, s_staying, s_moved, s_first_moves, s_change_moves, s_other_moves, s_union_moves, s_union_promises, s_union, s_law_stream, s_law_draw, s_law_pick, s_law_same, s_law_pool, s_law_drawn_move, s_law_known, s_law_rules, s_law_pattern, s_law_change, s_law_others_v3, s_law_places_v2, s_law_due_v3, s_law_told_v3, s_law_v20⟩
  · refine tab_all ?_
    unfold tab
    simp only [List.mem_cons, List.not_mem_nil, or_false, forall_eq_or_imp, forall_eq]
    exact ⟨b_is_integer, b_is_below, b_is_row, b_is_made_in, b_hall_behind, b_check_change, b_staying, b_moved, b_first_moves, b_change_moves, b_other_moves, b_union_moves, b_union_promises, b_union, b_law_stream, b_law_draw, b_law_pick, b_law_same, b_law_pool, b_law_drawn_move, b_law_known, b_law_rules, b_law_pattern, b_law_change, b_law_others_v3, b_law_places_v2, b_law_due_v3, b_law_told_v3, b_law_v20⟩
theorem clamp : ∀ c q r, pg.exs = q :: r → pg.exs.lookup c = none → pg.sub c = pg.sub q.1 := by
  intro c q r e h
  have e : exs = q :: r := e
  have h : exs.lookup c = none := h
  have hc : ([0, 10] : List Nat).contains c = false := by
    simp only [exs, List.lookup_cons, List.lookup_nil] at h
    simp only [List.contains_cons, List.contains_nil, Bool.or_false]
    repeat' (split at h <;> first | cases h | skip)
    simp_all
  unfold exs at e
  cases e
  funext h
  show subx c h = subx _ h
  unfold subx
  rw [hc]
  rfl
end
end Lw
namespace Lw
open Ev
instance cg52 : C52 pg.tbl where
  h1 := rfl
  h2 := rfl
  h0 := rfl
  h56 := rfl
  h57 := rfl
  h252 := rfl
  h269 := rfl
  h270 := rfl
  h271 := rfl
  h272 := rfl
  h273 := rfl
  h274 := rfl
  h275 := rfl
  h276 := rfl
  h277 := rfl
  h278 := rfl
  h13 := rfl
  h14 := rfl
  h15 := rfl
  h28 := rfl
  h29 := rfl
  h30 := rfl
  h31 := rfl
  h32 := rfl
  h255 := rfl
  h257 := rfl
  h16 := rfl
  h279 := rfl
  h280 := rfl
theorem main (ns : List Int) (_h : ns.length ≤ 63) : call pg.tbl pg.sub 40 280 [.scr ns] = .ret (.sh (.bl true)) [] :=
  l_main52 10 ns rfl
end Lw
set_option Elab.async false
set_option linter.all false
set_option maxRecDepth 100000
set_option maxHeartbeats 1000000
namespace Lw
open PySem PySem.Spec PyProof.Rows L2 Ev
def loose0 : List Str := [Str.ofString "EverfreshError", Str.ofString "BadChange", Str.ofString "MEMORY", Str.ofString "OWN", Str.ofString "is_integer", Str.ofString "is_below", Str.ofString "is_row", Str.ofString "is_made_in", Str.ofString "hall_behind", Str.ofString "check_change", Str.ofString "staying", Str.ofString "moved", Str.ofString "first_moves", Str.ofString "change_moves", Str.ofString "other_moves", Str.ofString "union_moves", Str.ofString "union_promises", Str.ofString "union", Str.ofString "_law_stream", Str.ofString "_law_draw", Str.ofString "_law_pick", Str.ofString "_law_same", Str.ofString "_law_pool", Str.ofString "_law_drawn_move", Str.ofString "_law_known", Str.ofString "_law_rules", Str.ofString "_law_pattern", Str.ofString "_law_change", Str.ofString "_law_others", Str.ofString "_law_places"]
def loose1 : List Str := [Str.ofString "_law_due", Str.ofString "_law_told"]
abbrev R : PySem.W.OpenRow := PySem.W.OpenLaw.row PySem.Challenge.rw_everfresh_k52_whole_unions
abbrev loose : List Str := loose0 ++ loose1
abbrev hk : PySem.W.Hook := hookE 6 pg
def ob (s : PySem.W.SharedT) : Bool × He.AlD := obsE 6 pg (HandSHeadRun.getT s)
theorem ob_eq (s : PySem.W.SharedT) : ob s = hk.obs s.abs := obsE_eq (HandSHeadRun.getT_eq s)
theorem run (w : World) : HandSHeadRun.RunEq R (PySem.W.view R.prog [36]) hk ob 4000 loose w := by
  intro os
  kernel_rfl
end Lw
open PySem PySem.W PySem.Calls PyProof.Rows
theorem PySem.Challenge.cw_everfresh_k52_whole_unions_holds : PySem.Challenge.rw_everfresh_k52_whole_unions.Holds := by
  w_on; o_law
  refine HandSHeadRun.head_any (r := OpenLaw.row PySem.Challenge.rw_everfresh_k52_whole_unions) (q := view (OpenLaw.row PySem.Challenge.rw_everfresh_k52_whole_unions).prog [36]) (H := Lw.hk) (ob := Lw.ob) (M := 4000) (loose := Lw.loose) (d := HandSHeadRun.topDef (OpenLaw.row PySem.Challenge.rw_everfresh_k52_whole_unions).prog 36) (kwd := []) Lw.ob_eq
    (by kernel_rfl) (fun s => by kernel_rfl) Lw.run (by kernel_rfl) (by kernel_rfl) (by kernel_rfl) (by rfl) (by first | assumption | decide +kernel) (by decide +kernel) ⟨rfl, rfl, rfl, rfl, rfl, by decide +kernel⟩ ?hw ?hc
  case hw => w_witness2
  case hc => exact Ev.law_walk (l := PySem.Challenge.rw_everfresh_k52_whole_unions) (n := 63) (k := 40) (f := 280) (r := Lw.r_law_v20) rfl (by decide) (by kernel_rfl) ⟨rfl, by decide, by decide⟩ Lw.pgOk Lw.clamp rfl rfl rfl (by kernel_rfl) Lw.main
