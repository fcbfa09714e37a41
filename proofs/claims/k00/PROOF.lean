import PyProof.Rows.All
import Wide.All
import OpenK.AllK
import Wide.FinOn
import KE.SortData
import HandS.Call
import HandS.Text
import HandS.List
import HandS.Dict
import HandS.TupAny
import HandS.Deep
import PyProof.StrOps2
import HandS.Flow
import HandS.IsInst
import HandS.Iter
import HandS.Zip
import HandS.Comp
import KE.KIndexOf
import HandS.RevTup
import HandS.Strs
import HandS.Set
import HandS.SetFor
import HandS.SetTxt0
import HandS.SortOrd
import PyProof.Tail
import HandS.TupSets
import HandS.SortInts
import HandS.Codes
import HandS.Defaults
import HandS.Exc
import KE.KStateDown
import Lean
import HandS.Ends
import HandS.More
import HandS.Words
import HandS.WordsExc
import HandS.Head0
import HandS.Head1
import HandS.Head2
import HandS.HeadEnd
import HandS.HeadHook1
import HandS.HeadHook2
import PyProof.StrLawsIn
import PySem.Challenge.RW_paperways_k00_sets_and_parts
set_option Elab.async false
set_option linter.all false
set_option maxRecDepth 100000
set_option maxHeartbeats 200000

set_option maxHeartbeats 200000
/-! THE CORE: a small language of data, its evaluator. -/
namespace MP
open PySem

abbrev D := PyData

/-- the keys of a dict of one's own -/
abbrev Key := L2.Key

/-- a tree that one variable owns: data as leaves, lists, dicts -/
inductive T where
  | d (x : D)
  | lst (xs : List T)
  | dic (kvs : List (Key × T))
  deriving Inhabited

inductive Slot where
  | no
  | val (x : D)
  | own (t : T)
  deriving Inhabited
abbrev Env := List Slot

/-- an answer: a value and the state behind it; an exception of the class c with its fields; no answer -/
inductive R (S α : Type) where
  | ok (a : α) (s : S)
  | exc (c : Nat) (ds : List D) (s : S)
  | err
def R.bind {S α β : Type} : R S α → (α → S → R S β) → R S β
  | .ok a s, f => f a s
  | .exc c ds s, _ => .exc c ds s
  | .err, _ => .err
/-- a step that may have no answer -/
def R.opt {S α : Type} (o : Option α) (s : S) : R S α := match o with
  | some a => .ok a s
  | none => .err

inductive Op where
  | add | sub | mul | fdiv | mod | pow | shl | shr | band | bor | bxor
  deriving DecidableEq
inductive Cm where
  | eq | ne | lt | le | gt | ge | isin | notin
  deriving DecidableEq
inductive Ty where
  | str | int | bool | tuple | list | dict
  deriving DecidableEq
/-- built-ins on data -/
inductive Bi where
  | len | tuple | list | sorted | str | int | abs | min | max | sum | any | all
  | sortedSet   -- sorted(set(xs))
  | sortedSets  -- sorted(set(xs) | set(ys))
  | lenSet      -- len(set(xs))
  | index       -- xs.index(x)
  | upper       -- s.upper()
  | join        -- s.join(xs)
  | split       -- s.split(t)
  | get         -- table.get(k, x)
  deriving DecidableEq

/-- what is walked: a value, range, enumerate, zip -/
inductive IK where
  | any | rng | enum | zip
  deriving DecidableEq

inductive E where
  | var (i : Nat)
  | con (x : D)
  | glob (k : Nat)
  | tup (es : List E)
  | lst (es : List E)
  | bin (o : Op) (a b : E)
  | neg (a : E)
  | cmp (a : E) (o : Cm) (b : E)
  | cmp2 (a : E) (o : Cm) (b : E) (o' : Cm) (c : E)
  | isN (a : E)
  | notN (a : E)
  | and (a b : E)
  | or (a b : E)
  | not (a : E)
  | ife (c a b : E)
  | ix (a b : E)
  | sl (a : E) (lo hi : Option E)
  | sls (a : E) (lo hi : Option E) (k : E)
  | isi (a : E) (t : Ty)
  | b1 (b : Bi) (a : E)
  | b2 (b : Bi) (a c : E)
  | call (f : Nat) (es : List E)
  /-- what an own variable holds at a path (the last key first), looked at: data; a list of data -/
  | peek (i : Nat) (ks : List E)
  | view (i : Nat) (ks : List E)
  /-- the tree of an own variable, handed to a def that changes it -/
  | hand (i : Nat)
  /-- own.pop(), own.pop(k) -/
  | pop (i : Nat) (ks : List E) (k : Option E)
  | comp (js : List Nat) (k : IK) (it : List E) (cs : List E) (e : E)
  deriving Inhabited

inductive S where
  | asg (i : Nat) (e : E)
  | unp (js : List Nat) (e : E)
  /-- name = a new tree -/
  | mk (i : Nat) (t : E)
  | app (i : Nat) (ks : List E) (e : E)
  | appT (i : Nat) (ks : List E) (e : E)
  | ext (i : Nat) (ks : List E) (e : E)
  | put (i : Nat) (ks : List E) (k : E) (e : E)
  | putT (i : Nat) (ks : List E) (k : E) (e : E)
  /-- a tree is data from here on: no code -/
  | frz (i : Nat)
  | ifs (c : E) (a b : List S)
  | loop (js : List Nat) (k : IK) (it : List E) (b : List S)
  | whl (c : E) (b : List S)
  | ret (e : E)
  | retO (i : Nat)
  | ex (e : E)
  | pass | brk | cnt
  /-- try: nothing is raised within -/
  | tr (b : List S)
  deriving Inhabited
end MP

set_option maxHeartbeats 200000
namespace MP
open PySem

/-! ### what data bear -/
def okS (s : Str) : Bool := s.cps.all (· < 0x110000) && decide (s.length ≤ 16777216)
mutual
def okD : D → Bool
  | .none => true
  | .bool _ => true
  | .int _ => true
  | .str s => okS s
  | .list xs => okDs xs
  | .tuple xs => okDs xs
  | .dict _ => false
def okDs : List D → Bool
  | [] => true
  | x :: xs => okD x && okDs xs
end
abbrev dep (d : D) : Nat := PyData.depth d

def fits (n : Nat) : Bool := decide (n ≤ 16777216)

/-! ### truth, operators -/
def truth : D → Option Bool
  | .none => some false
  | .bool b => some b
  | .int i => some (i != 0)
  | .str s => some (s.length != 0)
  | .list xs => some (!xs.isEmpty)
  | .tuple xs => some (!xs.isEmpty)
  | .dict _ => none

def small (i : Int) : Bool := decide (-(2 ^ 64) < i ∧ i < 2 ^ 64)
def reps {α : Type} (xs : List α) (k : Int) : List α := (List.replicate k.toNat xs).flatten
def binI (o : Op) (i j : Int) : Option Int := match o with
  | .add => some (i + j)
  | .sub => some (i - j)
  | .mul => if small i || small j then some (i * j) else none
  | .fdiv => if decide (0 < j ∧ j < 1073741824) then some (i / j) else none
  | .mod => if decide (0 < j) then some (i % j) else none
  | .pow => if decide (0 ≤ j ∧ j ≤ 1000000 ∧ i.natAbs < 2 ^ 64) then some (i ^ j.toNat) else none
  | .shl => if decide (0 ≤ j ∧ j ≤ 1000000 ∧ i.natAbs < 2 ^ 64) then some (i * 2 ^ j.toNat) else none
  | .shr => if decide (0 ≤ j) then some (i / 2 ^ j.toNat) else none
  | .band => some (Builtin.bitAnd i j)
  | .bor => some (Builtin.bitOr i j)
  | .bxor => some (Builtin.bitXor i j)
def repS (s : Str) (k : Int) : Str := ⟨(List.replicate k.toNat s.cps).foldl (· ++ ·) #[]⟩
def binD (o : Op) (a b : D) : Option D := match a, b with
  | .int i, .int j => (binI o i j).map .int
  | .str s, .str t => if o = .add ∧ fits (s.length + t.length) = true then some (.str (s ++ t)) else none
  | .tuple xs, .tuple ys => if o = .add ∧ fits (xs.length + ys.length) = true then some (.tuple (xs ++ ys)) else none
  | .list xs, .list ys => if o = .add ∧ fits (xs.length + ys.length) = true then some (.list (xs ++ ys)) else none
  | .str s, .int k => if o = .mul ∧ decide (2 ≤ k ∧ k ≤ 1000 ∧ 1 ≤ s.length ∧ s.length ≤ 1000) = true ∧ okS (repS s k) = true then some (.str (repS s k)) else none
  | .list xs, .int k => if o = .mul ∧ decide (-(2 ^ 63) ≤ k ∧ k < 2 ^ 63) = true ∧ fits (xs.length * k.toNat) = true then some (.list (reps xs k)) else none
  | _, _ => none

/-! ### comparisons -/
/-- which of two data of one shape comes first, place by place up to the first that differ -/
def ltS (s t : Str) : Bool := decide (s.cps.toList < t.cps.toList)
def cmpD (o : Cm) (a b : D) : Option Bool := match o with
  | .eq => if decide (min (dep a) (dep b) ≤ 60) then some (PyData.eqv a b) else none
  | .ne => if decide (min (dep a) (dep b) ≤ 60) then some (!PyData.eqv a b) else none
  | .lt => (match a, b with
    | .int i, .int j => some (decide (i < j))
    | .str s, .str t => some (ltS s t)
    | _, _ => none)
  | .le => (match a, b with
    | .int i, .int j => some (decide (i ≤ j))
    | .str s, .str t => some (!ltS t s)
    | _, _ => none)
  | .gt => (match a, b with
    | .int i, .int j => some (decide (j < i))
    | .str s, .str t => some (ltS t s)
    | _, _ => none)
  | .ge => (match a, b with
    | .int i, .int j => some (decide (j ≤ i))
    | .str s, .str t => some (!ltS s t)
    | _, _ => none)
  | .isin => (match b with
    | .list ys => if decide (dep a ≤ 60) then some (ys.any fun y => PyData.eqv y a) else none
    | .tuple ys => if decide (dep a ≤ 60) then some (ys.any fun y => PyData.eqv y a) else none
    | .str t => (match a with
      | .str s => some (!(Builtin.Str.occurrences t s 0 t.length 1).isEmpty)
      | _ => none)
    | _ => none)
  | .notin => (match b with
    | .list ys => if decide (dep a ≤ 60) then some (!ys.any fun y => PyData.eqv y a) else none
    | .tuple ys => if decide (dep a ≤ 60) then some (!ys.any fun y => PyData.eqv y a) else none
    | .str t => (match a with
      | .str s => some (!(!(Builtin.Str.occurrences t s 0 t.length 1).isEmpty))
      | _ => none)
    | _ => none)

/-! ### items, slices -/
def asI : D → Option Int
  | .int i => some i
  | _ => none
def ixD (a b : D) : Option D := match a, b with
  | .list xs, .int i => L2.atI xs i
  | .tuple xs, .int i => L2.atI xs i
  | .str s, .int i => (L2.atI s.cps.toList i).map fun c => .str ⟨#[c]⟩
  | _, _ => none
def cut {α : Type} (xs : List α) (lo hi : Option Int) : List α := (xs.drop (HT.sIx xs.length 0 lo)).take (HT.sIx xs.length xs.length hi - HT.sIx xs.length 0 lo)
def cutD (a : D) (lo hi : Option Int) : Option D := match a with
  | .list xs => some (.list (cut xs lo hi))
  | .tuple xs => some (.tuple (cut xs lo hi))
  | .str s => some (.str (L2.cutS s lo hi))
  | _ => none
/-- every k-th one -/
def pickS {α : Type} (xs : List α) (lo k : Int) (n : Nat) : List α := (List.range n).filterMap fun (m : Nat) => xs[(lo + (m : Int) * k).toNat]?
def stepD (a : D) (lo hi : Option Int) (k : Int) : Option D := match a with
  | .tuple xs => if decide (k ≠ 0) = true ∧ decide (k ≠ 1) = true ∧ fits (pickS xs (Builtin.Slice.sliceAdjust lo hi k xs.length).1 k (Builtin.Slice.slicePlaces (Builtin.Slice.sliceAdjust lo hi k xs.length).1 (Builtin.Slice.sliceAdjust lo hi k xs.length).2 k)).length = true then
      some (.tuple (pickS xs (Builtin.Slice.sliceAdjust lo hi k xs.length).1 k (Builtin.Slice.slicePlaces (Builtin.Slice.sliceAdjust lo hi k xs.length).1 (Builtin.Slice.sliceAdjust lo hi k xs.length).2 k))) else none
  | _ => none
def isTy (t : Ty) (x : D) : Bool := match t, x with
  | .str, .str _ => true
  | .int, .int _ => true
  | .int, .bool _ => true
  | .bool, .bool _ => true
  | .tuple, .tuple _ => true
  | .list, .list _ => true
  | .dict, .dict _ => true
  | _, _ => false

def isNone : D → Bool
  | .none => true
  | _ => false
/-! ### built-ins -/
def ints? : List D → Option (List Int)
  | [] => some []
  | .int i :: r => (ints? r).map (i :: ·)
  | _ :: _ => none
def strs? : List D → Option (List Str)
  | [] => some []
  | .str s :: r => (strs? r).map (s :: ·)
  | _ :: _ => none
def bools? : List D → Option (List Bool)
  | [] => some []
  | .bool b :: r => (bools? r).map (b :: ·)
  | _ :: _ => none
def items? : D → Option (List D)
  | .list xs => some xs
  | .tuple xs => some xs
  | _ => none
/-- texts in order -/
def leS (a b : Str) : Bool := decide (a.cps.toList ≤ b.cps.toList)
def sortS (xs : List Str) : List Str := xs.mergeSort leS
def sortI (xs : List Int) : List Int := xs.mergeSort fun i j => decide (i ≤ j)
/-- the different ones, the first of each -/
def dedup {α : Type} [DecidableEq α] : List α → List α
  | [] => []
  | x :: r => if x ∈ r then dedup r else x :: dedup r
def sortD (xs : List D) : Option (List D) := match strs? xs with
  | some ss => some ((sortS ss).map .str)
  | none => (match ints? xs with
    | some ns => some ((sortI ns).map .int)
    | none => none)
/-- the different texts, in order (a set holds less than 4096) -/
def setD (xs : List D) : Option (List D) := match strs? xs with
  | some ss => if decide (ss.length + 1 < 4096) = true then some ((sortS (dedup ss)).map .str) else none
  | none => none
/-- where a text, a number stands first -/
def idx? (xs : List D) (a : D) : Option D := match a with
  | .str k => (strs? xs).bind fun ys => if k ∈ ys then some (.int (ys.idxOf k : Nat)) else none
  | .int k => (ints? xs).bind fun ys => if k ∈ ys then some (.int (ys.idxOf k : Nat)) else none
  | _ => none
def b1D (b : Bi) (a : D) : Option D := match b, a with
  | .len, .list xs => some (.int xs.length)
  | .len, .tuple xs => some (.int xs.length)
  | .len, .str s => some (.int s.length)
  | .tuple, .list xs => some (.tuple xs)
  | .tuple, .tuple xs => some (.tuple xs)
  | .list, .list xs => some (.list xs)
  | .list, .tuple xs => some (.list xs)
  | .int, .int i => some (.int i)
  | .int, .bool b => some (.int (if b then 1 else 0))
  | .str, .int i => if decide (i.natAbs.log2 < 1920) = true ∧ okS (toString i) = true then some (.str (toString i)) else none
  | .abs, .int i => some (.int (if i < 0 then -i else i))
  | .sum, .list xs => (ints? xs).map fun ns => .int ns.sum
  | .all, .list xs => (bools? xs).map fun bs => .bool (bs.all id)
  | .any, .list xs => (bools? xs).map fun bs => .bool (bs.any id)
  | .sorted, .list xs => (sortD xs).map .list
  | .sortedSet, a => ((items? a).bind setD).map .list
  | .upper, .str s => if decide (s.length ≤ 5592405) = true ∧ okS (Txt.upper s) = true then some (.str (Txt.upper s)) else none
  | _, _ => none
def b2D (b : Bi) (a c : D) : Option D := match b, a, c with
  | .max, .int i, .int j => some (.int (if j > i then j else i))
  | .min, .int i, .int j => some (.int (if j < i then j else i))
  | .sortedSets, a, b => (match items? a, items? b with
    | some xs, some ys => setD (xs ++ ys)
    | _, _ => none).map .list
  | .index, .tuple xs, a => idx? xs a
  | .index, .list xs, a => idx? xs a
  | _, _, _ => none
end MP

set_option maxHeartbeats 200000
namespace MP
open PySem

inductive Arg where
  | d (x : D) | o (t : T)
inductive Ret where
  | d (x : D) | o (t : T)
abbrev Call := Nat → List Arg → R (List T) Ret
inductive Flow where
  | nx | rt (r : Ret) | bk | ct

/-! ### trees -/
mutual
def T.data : T → Option D
  | .d x => some x
  | .lst ts => (datas ts).map .list
  | .dic _ => none
def datas : List T → Option (List D)
  | [] => some []
  | t :: ts => match t.data, datas ts with
    | some x, some xs => some (x :: xs)
    | _, _ => none
end
def keyD : D → Option Key
  | .int i => some (.inl i)
  | .str s => some (.inr s)
  | _ => none
def lookK {α : Type} (k : Key) : List (Key × α) → Option α
  | [] => none
  | (q, v) :: r => if q = k then some v else lookK k r
def putK {α : Type} (k : Key) (v : α) : List (Key × α) → List (Key × α)
  | [] => [(k, v)]
  | (q, u) :: r => if q = k then (q, v) :: r else (q, u) :: putK k v r
def ixT (t : T) (k : D) : Option T := match t with
  | .lst xs => (asI k).bind (L2.atI xs)
  | _ => none
def getT (t : T) : List D → Option T
  | [] => some t
  | k :: ks => (ixT t k).bind fun u => getT u ks
def setT (t : T) (k : D) (u : T) : Option T := match t with
  | .lst xs => (asI k).bind fun i => (L2.ixN xs.length i).map fun j => .lst (xs.set j u)
  | _ => none
/-- the tree changed at a path -/
def modT (f : T → Option T) (t : T) : List D → Option T
  | [] => f t
  | k :: ks => (ixT t k).bind fun u => (modT f u ks).bind fun v => setT t k v
/-- a list of data -/
def leaves : List T → Option (List D)
  | [] => some []
  | .d x :: r => (leaves r).map (x :: ·)
  | _ :: _ => none
def lst? : T → Option D
  | .lst ts => (leaves ts).map .list
  | _ => none
/-- data, or a list of data -/
def look? : T → Option D
  | .d x => some x
  | t => lst? t
def leaf : T → Option D
  | .d x => some x
  | _ => none

/-! ### the frame -/
def Env.own (env : Env) (i : Nat) : Option T := match env[i]? with
  | some (.own t) => some t
  | _ => none
def Env.val (env : Env) (i : Nat) : Option D := match env[i]? with
  | some (.val x) => some x
  | _ => none
def Env.put (env : Env) (i : Nat) (s : Slot) : Env := env.set i s
def isOwn : Slot → Bool
  | .own _ => true
  | _ => false
/-- a name of data is stored -/
def Env.sto (env : Env) (i : Nat) (x : D) : Env := env.set i (.val x)
def stos : List Nat → List D → Env → Option Env
  | [], [], env => some env
  | j :: js, x :: xs, env => stos js xs (env.sto j x)
  | _, _, _ => none
def bindT (js : List Nat) (x : D) (env : Env) : Option Env := match js with
  | [j] => some (env.sto j x)
  | _ => (match x with
    | .tuple xs => stos js xs env
    | _ => none)
def back : List Nat → Env → Env → Env
  | [], _, env1 => env1
  | j :: js, env0, env1 => (back js env0 env1).set j (env0.getD j .no)
def noOwn (js : List Nat) (env : Env) : Bool := js.all fun j => !isOwn (env.getD j .no)
def clear : List Nat → Env → Env
  | [], env => env
  | j :: js, env => (clear js env).set j .no

/-! ### the two walks -/
def compL {S α β : Type} (step : α → S → R S (Option β)) : List α → S → R S (List β)
  | [], s => .ok [] s
  | x :: xs, s => (step x s).bind fun o s1 => (compL step xs s1).bind fun r s2 => .ok (match o with
    | some y => y :: r
    | none => r) s2
def loopL {α : Type} (body : α → Env → R Env Flow) : List α → Env → R Env Flow
  | [], s => .ok .nx s
  | x :: xs, s => (body x s).bind fun f s1 => match f with
    | .nx => loopL body xs s1
    | .ct => loopL body xs s1
    | .bk => .ok .nx s1
    | .rt r => .ok (.rt r) s1
def whlL (test : Env → R Env Bool) (body : Env → R Env Flow) : Nat → Env → R Env Flow
  | 0, _ => .err
  | n + 1, s => (test s).bind fun c s1 => if c = true then (body s1).bind fun f s2 => (match f with
      | .nx => whlL test body n s2
      | .ct => whlL test body n s2
      | .bk => .ok .nx s2
      | .rt r => .ok (.rt r) s2) else .ok .nx s1

def rangeD : List D → Option (List D)
  | [.int n] => if decide (-(2 ^ 62) ≤ n ∧ n < 2 ^ 62) then some ((List.range n.toNat).map fun (k : Nat) => .int k) else none
  | [.int a, .int b] => if decide (-(2 ^ 62) ≤ a ∧ a < 2 ^ 62 ∧ -(2 ^ 62) ≤ b ∧ b < 2 ^ 62) then some ((List.range (b - a).toNat).map fun (k : Nat) => .int (a + k)) else none
  | _ => none
def signs (s : Str) : List D := s.cps.toList.map fun c => .str ⟨#[c]⟩
def walked : D → Option (List D)
  | .list xs => some xs
  | .tuple xs => some xs
  | .str s => some (signs s)
  | _ => none
def enumD (xs : List D) : List D := (List.range xs.length).zipWith (fun (k : Nat) x => .tuple [.int k, x]) xs
def zipD (xs ys : List D) : List D := xs.zipWith (fun x y => .tuple [x, y]) ys

def enum? (x : D) : Option (List D) := match x with
  | .list xs => some (enumD xs)
  | _ => none
def zip? (x y : D) : Option (List D) := match x, y with
  | .list xs, .list ys => some (zipD xs ys)
  | .tuple xs, .tuple ys => some (zipD xs ys)
  | _, _ => none

/-- the trees that come back from a call -/
def putBack : List E → List T → Env → Option Env
  | [], [], env => some env
  | [], _ :: _, _ => none
  | .hand i :: es, t :: ts, env => putBack es ts (env.set i (.own t))
  | .hand _ :: _, [], _ => none
  | _ :: es, ts, env => putBack es ts env

/-- the arguments, the trees as they stand when all are evaluated -/
def fillA : List E → List (Option D) → Env → Option (List Arg)
  | [], [], _ => some []
  | .hand i :: es, none :: os, env => match env.own i, fillA es os env with
    | some t, some as => some (.o t :: as)
    | _, _ => none
  | _ :: es, some x :: os, env => (fillA es os env).map (.d x :: ·)
  | _, _, _ => none
def test (r : R Env D) : R Env Bool := r.bind fun x s => .opt (truth x) s

/-- an answer as data: a new tree is frozen -/
def retD : Ret → Option D
  | .d x => some x
  | .o t => t.data

def compStep (js : List Nat) (evc : Env → R Env Bool) (eve : Env → R Env D) (x : D) (env : Env) : R Env (Option D) := match bindT js x (clear js env) with
  | some env => (evc env).bind fun b env => if b = true then (eve env).bind fun y env => .ok (some y) env else .ok none env
  | none => .err
def evComp (js : List Nat) (evi : Env → R Env (List D)) (evc : Env → R Env Bool) (eve : Env → R Env D) (env : Env) : R Env (List D) :=
  (evi env).bind fun xs env => if noOwn js env = true then (compL (compStep js evc eve) xs env).bind fun ys env1 => if fits ys.length = true then .ok ys (back js env env1) else .err else .err
/-- what stands at a path is a list -/
def lstAt (i : Nat) (ps : List D) (env : Env) : Bool := match (env.own i).bind fun t => getT t ps with
  | some (.lst _) => true
  | _ => false
def guardL {α : Type} (i : Nat) (ps : List D) (env : Env) (k : R Env α) : R Env α := if lstAt i ps env = true then k else .err
/-- own.pop(), own.pop(k) -/
def popT (i : Nat) (ps : List D) (o : Option Int) (env : Env) : R Env D := match (env.own i).bind fun t => getT t ps with
  | some (.lst ts) => (match L2.ixN ts.length (o.getD (-1)) with
    | some j => (match (ts[j]?).bind leaf, (env.own i).bind fun t => modT (fun _ => some (.lst (ts.eraseIdx j))) t ps with
      | some x, some t' => .ok x (env.set i (.own t'))
      | _, _ => .err)
    | none => .err)
  | _ => .err
variable (cl : Call) (gl : List D)
mutual
def evE : E → Env → R Env D
  | .var i, env => .opt (env.val i) env
  | .con x, env => .ok x env
  | .glob k, env => .opt gl[k]? env
  | .tup es, env => (evEs es env).bind fun xs env => if fits xs.length then .ok (.tuple xs) env else .err
  | .lst es, env => (evEs es env).bind fun xs env => if fits xs.length then .ok (.list xs) env else .err
  | .bin o a b, env => (evE a env).bind fun x env => (evE b env).bind fun y env => .opt (binD o x y) env
  | .neg a, env => (evE a env).bind fun x env => .opt ((asI x).map fun i => .int (-i)) env
  | .cmp a o b, env => (evE a env).bind fun x env => (evE b env).bind fun y env => .opt ((cmpD o x y).map .bool) env
  | .cmp2 a o b o' c, env => (evE a env).bind fun x env => (evE b env).bind fun y env => match cmpD o x y with
    | some true => (evE c env).bind fun z env => .opt ((cmpD o' y z).map .bool) env
    | some false => .ok (.bool false) env
    | none => .err
  | .isN a, env => (evE a env).bind fun x env => .ok (.bool (isNone x)) env
  | .notN a, env => (evE a env).bind fun x env => .ok (.bool (!isNone x)) env
  | .and a b, env => (evE a env).bind fun x env => match truth x with
    | some true => evE b env
    | some false => .ok x env
    | none => .err
  | .or a b, env => (evE a env).bind fun x env => match truth x with
    | some true => .ok x env
    | some false => evE b env
    | none => .err
  | .not a, env => (evE a env).bind fun x env => .opt ((truth x).map fun b => .bool (!b)) env
  | .ife c a b, env => (evE c env).bind fun x env => match truth x with
    | some true => evE a env
    | some false => evE b env
    | none => .err
  | .ix a b, env => (evE a env).bind fun x env => (evE b env).bind fun y env => .opt (ixD x y) env
  | .sl a lo hi, env => (evE a env).bind fun x env => (evO lo env).bind fun l env => (evO hi env).bind fun h env => .opt (cutD x l h) env
  | .sls a lo hi k, env => (evE a env).bind fun x env => (evO lo env).bind fun l env => (evO hi env).bind fun h env => (evE k env).bind fun k env => .opt ((asI k).bind (stepD x l h)) env
  | .isi a t, env => (evE a env).bind fun x env => .ok (.bool (isTy t x)) env
  | .b1 b a, env => (evE a env).bind fun x env => .opt (b1D b x) env
  | .b2 b a c, env => (evE a env).bind fun x env => (evE c env).bind fun y env => .opt (b2D b x y) env
  | .call f es, env => (evAs es env).bind fun os env => match fillA es os env with
    | some as => (match cl f as with
      | .ok r ts => (match putBack es ts env, retD r with
        | some env', some x => .ok x env'
        | _, _ => .err)
      | .exc c ds ts => (match putBack es ts env with
        | some env' => .exc c ds env'
        | none => .err)
      | .err => .err)
    | none => .err
  | .peek i ks, env => (evP i ks env).bind fun ps env => .opt (((env.own i).bind fun t => getT t ps).bind leaf) env
  | .view i ks, env => (evP i ks env).bind fun ps env => .opt (((env.own i).bind fun t => getT t ps).bind look?) env
  | .hand _, _ => .err
  | .pop i ks k, env => (evP i ks env).bind fun ps env => guardL i ps env ((evO k env).bind fun o env => popT i ps o env)
  | .comp js k it cs e, env => (evComp js (evI k it) (evCs cs) (evE e) env).bind fun ys env => .ok (.list ys) env
/-- a path of an own tree, the last key first -/
def evP (i : Nat) : List E → Env → R Env (List D)
  | [], env => if ((env.own i).bind fun t => getT t []).isSome = true then .ok [] env else .err
  | k :: ks, env => (evP i ks env).bind fun ps env => (evE k env).bind fun q env => if ((env.own i).bind fun t => getT t (ps ++ [q])).isSome = true then .ok (ps ++ [q]) env else .err
def evEs : List E → Env → R Env (List D)
  | [], env => .ok [] env
  | e :: es, env => (evE e env).bind fun x env => (evEs es env).bind fun xs env => .ok (x :: xs) env
def evAs : List E → Env → R Env (List (Option D))
  | [], env => .ok [] env
  | .hand i :: es, env => if (env.own i).isSome = true then (evAs es env).bind fun os env => .ok (none :: os) env else .err
  | e :: es, env => (evE e env).bind fun x env => (evAs es env).bind fun os env => .ok (some x :: os) env
def evO : Option E → Env → R Env (Option Int)
  | none, env => .ok none env
  | some e, env => (evE e env).bind fun x env => .opt ((asI x).map some) env
/-- the tests of a comprehension -/
def evCs : List E → Env → R Env Bool
  | [], env => .ok true env
  | c :: cs, env => (evE c env).bind fun x env => match truth x with
    | some true => evCs cs env
    | some false => .ok false env
    | none => .err
/-- what a for or a comprehension walks -/
def evI (k : IK) : List E → Env → R Env (List D)
  | [a], env => (match k with
    | .any => (evE a env).bind fun x env => .opt (walked x) env
    | .rng => (evE a env).bind fun x env => .opt (rangeD [x]) env
    | .enum => (evE a env).bind fun x env => .opt (enum? x) env
    | .zip => .err)
  | [a, b], env => (match k with
    | .rng => (evE a env).bind fun x env => (evE b env).bind fun y env => .opt (rangeD [x, y]) env
    | .zip => (evE a env).bind fun x env => (evE b env).bind fun y env => .opt (zip? x y) env
    | _ => .err)
  | _, _ => .err
end
end MP

set_option maxHeartbeats 200000
namespace MP
open PySem

/-- an expression whose list is new -/
def fresh : E → Bool
  | .lst _ => true
  | .comp _ _ _ _ _ => true
  | .b1 .list _ => true
  | .b1 .sorted _ => true
  | .b1 .sortedSet _ => true
  | .b2 .sortedSets _ _ => true
  | .bin .add _ _ => true
  | .bin .mul _ _ => true
  | .sl _ _ _ => true
  | _ => false

section
variable (cl : Call) (gl : List D)
mutual
/-- a new tree -/
def evT : E → Env → R Env T
  | .lst es, env => (evTs es env).bind fun ts env => if fits ts.length then .ok (.lst ts) env else .err
  | .call f es, env => (evAs cl gl es env).bind fun os env => match fillA es os env with
    | some as => (match cl f as with
      | .ok (.o t) ts => (match putBack es ts env with
        | some env' => .ok t env'
        | none => .err)
      | .ok (.d _) _ => .err
      | .exc c ds ts => (match putBack es ts env with
        | some env' => .exc c ds env'
        | none => .err)
      | .err => .err)
    | none => .err
  | e, env => if fresh e = true then (evE cl gl e env).bind fun x env => (match x with
    | .list xs => .ok (.lst (xs.map .d)) env
    | _ => .err) else .err
def evTs : List E → Env → R Env (List T)
  | [], env => .ok [] env
  | .lst es :: r, env => (evT (.lst es) env).bind fun t env => (evTs r env).bind fun ts env => .ok (t :: ts) env
  | e :: r, env => (evE cl gl e env).bind fun x env => (evTs r env).bind fun ts env => .ok (.d x :: ts) env
end

/-- a change of an own tree -/
def chg (i : Nat) (ks : List D) (f : T → Option T) (env : Env) : R Env Flow :=
  match (env.own i).bind fun t => modT f t ks with
  | some t => .ok .nx (env.set i (.own t))
  | none => .err
def fApp (u : T) : T → Option T
  | .lst ts => if decide (ts.length < 16777216) then some (.lst (ts ++ [u])) else none
  | _ => none
def fExt (us : List T) : T → Option T
  | .lst ts => if fits (ts.length + us.length) then some (.lst (ts ++ us)) else none
  | _ => none
def fPut (k : D) (u : T) (t : T) : Option T := setT t k u

def extD (i : Nat) (ps : List D) (x : D) (env : Env) : R Env Flow := match x with
  | .list ys => chg i ps (fExt (ys.map .d)) env
  | .tuple ys => chg i ps (fExt (ys.map .d)) env
  | _ => .err
variable (wh : Nat)
mutual
def evS : S → Env → R Env Flow
  | .asg i e, env => (evE cl gl e env).bind fun x env => .ok .nx (env.sto i x)
  | .unp js e, env => (evE cl gl e env).bind fun x env => (match x with
    | .tuple xs => (match stos js xs env with
      | some env' => .ok .nx env'
      | none => .err)
    | _ => .err)
  | .mk i e, env => (evT cl gl e env).bind fun t env => .ok .nx (env.set i (.own t))
  | .app i ks e, env => (evP cl gl i ks env).bind fun ps env => guardL i ps env ((evE cl gl e env).bind fun x env => chg i ps (fApp (.d x)) env)
  | .appT i ks e, env => (evP cl gl i ks env).bind fun ps env => guardL i ps env ((evT cl gl e env).bind fun t env => chg i ps (fApp t) env)
  | .ext i ks e, env => (evP cl gl i ks env).bind fun ps env => guardL i ps env ((evE cl gl e env).bind fun x env => extD i ps x env)
  | .put i ks k e, env => (evE cl gl e env).bind fun x env => (evP cl gl i ks env).bind fun ps env => (evE cl gl k env).bind fun q env => chg i ps (fPut q (.d x)) env
  | .putT i ks k e, env => (evT cl gl e env).bind fun t env => (evP cl gl i ks env).bind fun ps env => (evE cl gl k env).bind fun q env => chg i ps (fPut q t) env
  | .frz i, env => match (env.own i).bind T.data with
    | some x => .ok .nx (env.sto i x)
    | none => .err
  | .ifs c a b, env => (evE cl gl c env).bind fun x env => match truth x with
    | some true => evSs a env
    | some false => evSs b env
    | none => .err
  | .loop js k it b, env => (evI cl gl k it env).bind fun xs env => loopL (fun x env => match bindT js x env with
    | some env => evSs b env
    | none => .err) xs env
  | .whl c b, env => whlL (fun env => test (evE cl gl c env)) (fun env => evSs b env) wh env
  | .ret e, env => (evE cl gl e env).bind fun x env => .ok (.rt (.d x)) env
  | .retO i, env => match env.own i with
    | some t => .ok (.rt (.o t)) (env.set i .no)
    | none => .err
  | .ex e, env => (evE cl gl e env).bind fun _ env => .ok .nx env
  | .pass, env => .ok .nx env
  | .brk, env => .ok .bk env
  | .cnt, env => .ok .ct env
  | .tr b, env => evSs b env
def evSs : List S → Env → R Env Flow
  | [], env => .ok .nx env
  | s :: r, env => (evS s env).bind fun f env => match f with
    | .nx => evSs r env
    | f => .ok f env
end
end

/-- a def: how many names it has, which of its parameters it changes, its body -/
structure Fn where
  ns : Nat
  hands : List Bool
  body : List S
def startEnv : List Arg → List Slot
  | [] => []
  | .d x :: as => .val x :: startEnv as
  | .o t :: as => .own t :: startEnv as
/-- the trees that the parameters hold at the end -/
def outs : List Bool → Nat → Env → Option (List T)
  | [], _, _ => some []
  | false :: hs, i, env => outs hs (i + 1) env
  | true :: hs, i, env => match env.own i, outs hs (i + 1) env with
    | some t, some ts => some (t :: ts)
    | _, _ => none
def argsOk : List Bool → List Arg → Bool
  | [], [] => true
  | true :: hs, .o _ :: as => argsOk hs as
  | false :: hs, .d _ :: as => argsOk hs as
  | _, _ => false
def runFn (cl : Call) (gl : List D) (wh : Nat) (f : Fn) (as : List Arg) : R (List T) Ret :=
  if argsOk f.hands as then
    match evSs cl gl wh f.body (startEnv as ++ List.replicate (f.ns - as.length) .no) with
    | .ok fl env => (match outs f.hands 0 env with
      | some ts => (match fl with
        | .nx => .ok (.d .none) ts
        | .rt r => .ok r ts
        | _ => .err)
      | none => .err)
    | .exc c ds env => (match outs f.hands 0 env with
      | some ts => .exc c ds ts
      | none => .err)
    | .err => .err
  else .err
def callN (gl : List D) (wh : Nat) (fns : List Fn) : Nat → Call
  | 0, _, _ => .err
  | n + 1, k, as => match fns[k]? with
    | some f => runFn (callN gl wh fns n) gl wh f as
    | none => .err
end MP

set_option maxHeartbeats 200000
/-! The relation between data and the abstract heap. -/
namespace MP
open PySem PySem.Spec PyProof.Rows L2
abbrev Kf := PySem.W.Frag

/-! ### a part of a heap -/
def Sub (F H : Hp) : Prop := ∀ b o, F b = some o → H b = some o
theorem Sub.rfl {F : Hp} : Sub F F := fun _ _ e => e
theorem Sub.trans {F G H : Hp} (a : Sub F G) (b : Sub G H) : Sub F H := fun c o e => b c o (a c o e)
theorem Sub.up {F H : Hp} {p : Addr} {o : HO} (s : Sub F H) (n : H p = none) : Sub F (upd H p o) := fun b u e => by
  have e1 := s b u e
  rw [upd_ne (ne_of_none e1 n)]
  exact e1
theorem Sub.up2 {F H : Hp} {p : Addr} {o : HO} (s : Sub F H) : Sub (upd F p o) (upd H p o) := fun b u e => by
  by_cases q : b = p
  · subst q; rw [upd_same] at e ⊢; exact e
  · rw [upd_ne q] at e ⊢; exact s b u e
theorem Sub.none {F H : Hp} {p : Addr} (s : Sub F H) (n : H p = none) : F p = none := by
  cases e : F p with
  | none => rfl
  | some o => have := s p o e; rw [n] at this; cases this
theorem rd_mono {F H : Hp} {a : Addr} {u : HO} (s : Sub F H) (r : Rd F a u) : Rd H a u := by
  rcases r with r | ⟨o, r⟩
  · exact .inl (s _ _ r)
  · exact .inr ⟨o, s _ _ r⟩
theorem sqL_mono {K : Kf} {F H : Hp} {a : Addr} {xs : List V} (s : Sub F H) (r : SqL K F a xs) : SqL K H a xs := by
  rcases r with r | r
  · exact .inl (rd_mono s r)
  · exact .inr r
theorem sqT_mono {K : Kf} {F H : Hp} {a : Addr} {xs : List V} (s : Sub F H) (r : SqT K F a xs) : SqT K H a xs := by
  rcases r with r | r
  · exact .inl (rd_mono s r)
  · exact .inr r
/-- a tuple whose object is known: of no dict -/
def SqD (K : Kf) (F : Hp) (a : Addr) (xs : List V) : Prop :=
  (∃ (its : List Value) (n : Nat) (sl : Array (Option Value)), F a = some (.frz ⟨.type "tuple", none, .seq its.toArray n, sl⟩ (.tup xs))) ∨
  ∃ (o : Obj) (its : Array Value) (n : Nat), K.lookup a = some o ∧ o.cls = .type "tuple" ∧ o.dict = none ∧ o.data = .seq its n ∧ its.size ≤ sizeLine ∧ Vals xs its.toList
theorem SqD.t {K : Kf} {F : Hp} {a : Addr} {xs : List V} (h : SqD K F a xs) : SqT K F a xs := by
  rcases h with ⟨its, n, sl, h⟩ | ⟨o, its, n, h1, h2, h3, h4, h5, h6⟩
  · exact .inl (.inr ⟨_, h⟩)
  · exact .inr ⟨o, its, n, h1, h2, h4, h5, h6⟩
theorem sqD_mono {K : Kf} {F H : Hp} {a : Addr} {xs : List V} (s : Sub F H) (r : SqD K F a xs) : SqD K H a xs := by
  rcases r with ⟨its, n, sl, h⟩ | r
  · exact .inl ⟨its, n, sl, s _ _ h⟩
  · exact .inr r
mutual
inductive Dq (K : Kf) (F : Hp) : V → D → Prop
  | non : Dq K F .non .none
  | bl (b : Bool) : Dq K F (.bl b) (.bool b)
  | int (i : Int) : Dq K F (.int i) (.int i)
  | str (x : Str) : Dq K F (.str x) (.str x)
  | lst {a : Addr} {xs : List V} {ds : List D} : SqL K F a xs → DqAll K F xs ds → Dq K F (.ref a) (.list ds)
  | tup {a : Addr} {xs : List V} {ds : List D} : SqD K F a xs → DqAll K F xs ds → Dq K F (.ref a) (.tuple ds)
inductive DqAll (K : Kf) (F : Hp) : List V → List D → Prop
  | nil : DqAll K F [] []
  | cons {v : V} {vs : List V} {d : D} {ds : List D} : Dq K F v d → DqAll K F vs ds → DqAll K F (v :: vs) (d :: ds)
end
mutual
theorem dp_mono {K : Kf} {F H : Hp} (s : Sub F H) : ∀ (d : D) (v : V), Dq K F v d → Dq K H v d
  | .none, _, h => by cases h; exact .non
  | .bool b, _, h => by cases h; exact .bl _
  | .int i, _, h => by cases h; exact .int _
  | .str x, _, h => by cases h; exact .str _
  | .list ds, _, h => by
    cases h with
    | lst hs ha => exact .lst (sqL_mono s hs) (dpAll_mono s ds _ ha)
  | .tuple ds, _, h => by
    cases h with
    | tup hs ha => exact .tup (sqD_mono s hs) (dpAll_mono s ds _ ha)
  | .dict _, _, h => by cases h
theorem dpAll_mono {K : Kf} {F H : Hp} (s : Sub F H) : ∀ (ds : List D) (vs : List V), DqAll K F vs ds → DqAll K H vs ds
  | [], _, h => by cases h; exact .nil
  | d :: ds, _, h => by
    cases h with
    | cons h1 h2 => exact .cons (dp_mono s d _ h1) (dpAll_mono s ds _ h2)
end
mutual
theorem dq_dp {K : Kf} {F : Hp} : ∀ (d : D) (v : V), Dq K F v d → Dp K F v d
  | .none, _, h => by cases h; exact .non
  | .bool b, _, h => by cases h; exact .bl _
  | .int i, _, h => by cases h; exact .int _
  | .str x, _, h => by cases h; exact .str _
  | .list ds, _, h => by
    cases h with
    | lst hs ha => exact .lst hs (dqAll_dp ds _ ha)
  | .tuple ds, _, h => by
    cases h with
    | tup hs ha => exact .tup hs.t (dqAll_dp ds _ ha)
  | .dict _, _, h => by cases h
theorem dqAll_dp {K : Kf} {F : Hp} : ∀ (ds : List D) (vs : List V), DqAll K F vs ds → DpAll K F vs ds
  | [], _, h => by cases h; exact .nil
  | d :: ds, _, h => by
    cases h with
    | cons h1 h2 => exact .cons (dq_dp d _ h1) (dqAll_dp ds _ h2)
end

/-! ### a value stands for a datum -/
structure Rp (K : Kf) (F : Hp) (v : V) (d : D) : Prop where
  dp : Dq K F v d
  ok : okD d = true
structure Rps (K : Kf) (F : Hp) (vs : List V) (ds : List D) : Prop where
  dp : DqAll K F vs ds
  ok : okDs ds = true
section
variable {K : Kf} {F H : Hp}
theorem Rp.mono {v : V} {d : D} (s : Sub F H) (r : Rp K F v d) : Rp K H v d := ⟨dp_mono s _ _ r.dp, r.ok⟩
theorem Rps.mono {vs : List V} {ds : List D} (s : Sub F H) (r : Rps K F vs ds) : Rps K H vs ds := ⟨dpAll_mono s _ _ r.dp, r.ok⟩
theorem Rps.nil : Rps K F [] [] := ⟨.nil, by simp [okDs]⟩
theorem Rps.cons {v : V} {vs : List V} {d : D} {ds : List D} (a : Rp K F v d) (b : Rps K F vs ds) : Rps K F (v :: vs) (d :: ds) := ⟨.cons a.dp b.dp, by simp [okDs, a.ok, b.ok]⟩
theorem Rps.head {v : V} {vs : List V} {d : D} {ds : List D} (r : Rps K F (v :: vs) (d :: ds)) : Rp K F v d ∧ Rps K F vs ds := by
  obtain ⟨a, b⟩ := r
  cases a with
  | cons h1 h2 =>
    simp only [okDs, Bool.and_eq_true] at b
    exact ⟨⟨h1, b.1⟩, ⟨h2, b.2⟩⟩
theorem Rps.len : ∀ {vs : List V} {ds : List D}, Rps K F vs ds → vs.length = ds.length
  | [], [], _ => rfl
  | [], _ :: _, r => by have := r.dp; cases this
  | _ :: _, [], r => by have := r.dp; cases this
  | _ :: _, _ :: _, r => by rw [List.length_cons, List.length_cons, Rps.len r.head.2]
theorem Rps.nil_inv {vs : List V} (r : Rps K F vs []) : vs = [] := by
  have := r.len
  exact List.eq_nil_of_length_eq_zero this
theorem Rps.cons_inv {vs : List V} {d : D} {ds : List D} (r : Rps K F vs (d :: ds)) : ∃ v ws, vs = v :: ws ∧ Rp K F v d ∧ Rps K F ws ds := by
  cases vs with
  | nil => have := r.dp; cases this
  | cons v ws => exact ⟨v, ws, rfl, r.head⟩
theorem Rps.get : ∀ {vs : List V} {ds : List D} {i : Nat} {d : D}, Rps K F vs ds → ds[i]? = some d → ∃ v, vs[i]? = some v ∧ Rp K F v d
  | [], [], i, _, _, e => by simp at e
  | [], _ :: _, _, _, r, _ => by have := r.dp; cases this
  | _ :: _, [], _, _, r, _ => by have := r.dp; cases this
  | v :: vs, d' :: ds, 0, d, r, e => by
    have e' : d' = d := by simpa using e
    subst e'
    exact ⟨v, rfl, r.head.1⟩
  | v :: vs, d' :: ds, i + 1, d, r, e => by
    obtain ⟨u, h1, h2⟩ := Rps.get (i := i) r.head.2 (by simpa using e)
    exact ⟨u, by simpa using h1, h2⟩
theorem Rps.append : ∀ {vs ws : List V} {ds es : List D}, Rps K F vs ds → Rps K F ws es → Rps K F (vs ++ ws) (ds ++ es)
  | [], _, [], _, _, s => s
  | [], _, _ :: _, _, r, _ => by have := r.dp; cases this
  | _ :: _, _, [], _, r, _ => by have := r.dp; cases this
  | _ :: _, _, _ :: _, _, r, s => .cons r.head.1 (Rps.append r.head.2 s)
theorem Rps.drop : ∀ {vs : List V} {ds : List D} (n : Nat), Rps K F vs ds → Rps K F (vs.drop n) (ds.drop n)
  | _, _, 0, r => r
  | [], [], _ + 1, r => r
  | [], _ :: _, _ + 1, r => by have := r.dp; cases this
  | _ :: _, [], _ + 1, r => by have := r.dp; cases this
  | _ :: _, _ :: _, n + 1, r => Rps.drop n r.head.2
theorem Rps.take : ∀ {vs : List V} {ds : List D} (n : Nat), Rps K F vs ds → Rps K F (vs.take n) (ds.take n)
  | _, _, 0, _ => .nil
  | [], [], _ + 1, r => r
  | [], _ :: _, _ + 1, r => by have := r.dp; cases this
  | _ :: _, [], _ + 1, r => by have := r.dp; cases this
  | _ :: _, _ :: _, n + 1, r => .cons r.head.1 (Rps.take n r.head.2)
theorem Rps.flat (k : Nat) {vs : List V} {ds : List D} (r : Rps K F vs ds) : Rps K F (List.replicate k vs).flatten (List.replicate k ds).flatten := by
  induction k with
  | zero => exact .nil
  | succ n ih =>
    rw [List.replicate_succ, List.replicate_succ, List.flatten_cons, List.flatten_cons]
    exact r.append ih
theorem Rps.rev : ∀ {vs : List V} {ds : List D}, Rps K F vs ds → Rps K F vs.reverse ds.reverse
  | [], [], r => r
  | [], _ :: _, r => by have := r.dp; cases this
  | _ :: _, [], r => by have := r.dp; cases this
  | _ :: _, _ :: _, r => by
    rw [List.reverse_cons, List.reverse_cons]
    exact (Rps.rev r.head.2).append (.cons r.head.1 .nil)

theorem Rp.list_inv {v : V} {ds : List D} (r : Rp K F v (.list ds)) : ∃ a vs, v = .ref a ∧ SqL K F a vs ∧ Rps K F vs ds := by
  obtain ⟨a, b⟩ := r
  cases a with
  | lst hs ha => exact ⟨_, _, rfl, hs, ha, by simpa [okD] using b⟩
theorem Rp.tup_inv {v : V} {ds : List D} (r : Rp K F v (.tuple ds)) : ∃ a vs, v = .ref a ∧ SqD K F a vs ∧ Rps K F vs ds := by
  obtain ⟨a, b⟩ := r
  cases a with
  | tup hs ha => exact ⟨_, _, rfl, hs, ha, by simpa [okD] using b⟩
theorem Rp.int_inv {v : V} {i : Int} (r : Rp K F v (.int i)) : v = .int i := by have := r.dp; cases this; rfl
theorem Rp.str_inv {v : V} {s : Str} (r : Rp K F v (.str s)) : v = .str s ∧ okS s = true := by
  have := r.dp
  cases this
  exact ⟨rfl, by simpa [okD] using r.ok⟩
theorem Rp.bool_inv {v : V} {b : Bool} (r : Rp K F v (.bool b)) : v = .bl b := by have := r.dp; cases this; rfl
theorem Rp.none_inv {v : V} (r : Rp K F v .none) : v = .non := by have := r.dp; cases this; rfl
theorem Rp.dict_inv {v : V} {x} (r : Rp K F v (.dict x)) : False := by have := r.dp; cases this
theorem Rp.int (i : Int) : Rp K F (.int i) (.int i) := ⟨.int i, by simp [okD]⟩
theorem Rp.bl (b : Bool) : Rp K F (.bl b) (.bool b) := ⟨.bl b, by simp [okD]⟩
theorem Rp.non : Rp K F .non .none := ⟨.non, by simp [okD]⟩
theorem Rp.str {s : Str} (h : okS s = true) : Rp K F (.str s) (.str s) := ⟨.str s, by simpa [okD] using h⟩
theorem Rp.tup {a : Addr} {vs : List V} {ds : List D} (h : SqD K F a vs) (r : Rps K F vs ds) : Rp K F (.ref a) (.tuple ds) := ⟨.tup h r.dp, by simpa [okD] using r.ok⟩
theorem Rp.lst {a : Addr} {vs : List V} {ds : List D} (h : SqL K F a vs) (r : Rps K F vs ds) : Rp K F (.ref a) (.list ds) := ⟨.lst h r.dp, by simpa [okD] using r.ok⟩
theorem Rps.ints (ns : List Int) : Rps K F (ns.map V.int) (ns.map .int) := by
  induction ns with
  | nil => exact .nil
  | cons n r ih => exact .cons (.int n) ih
theorem Rps.ints_inv : ∀ {vs : List V} {ns : List Int}, Rps K F vs (ns.map .int) → vs = ns.map V.int
  | vs, [], r => r.nil_inv
  | vs, n :: ns, r => by
    obtain ⟨v, ws, rfl, h1, h2⟩ := Rps.cons_inv (d := .int n) (ds := ns.map .int) r
    rw [h1.int_inv, Rps.ints_inv h2]
    rfl
theorem Rps.bools_inv : ∀ {vs : List V} {ns : List Bool}, Rps K F vs (ns.map .bool) → vs = ns.map V.bl
  | vs, [], r => r.nil_inv
  | vs, n :: ns, r => by
    obtain ⟨v, ws, rfl, h1, h2⟩ := Rps.cons_inv (d := .bool n) (ds := ns.map .bool) r
    rw [h1.bool_inv, Rps.bools_inv h2]
    rfl
theorem Rps.strs_inv : ∀ {vs : List V} {ns : List Str}, Rps K F vs (ns.map .str) → vs = ns.map V.str ∧ ∀ s ∈ ns, okS s = true
  | vs, [], r => ⟨r.nil_inv, by simp⟩
  | vs, n :: ns, r => by
    obtain ⟨v, ws, rfl, h1, h2⟩ := Rps.cons_inv (d := .str n) (ds := ns.map .str) r
    obtain ⟨e, h⟩ := Rps.strs_inv h2
    rw [h1.str_inv.1, e]
    refine ⟨rfl, fun s hs => ?_⟩
    rcases List.mem_cons.mp hs with q | q
    · rw [q]; exact h1.str_inv.2
    · exact h s q
theorem Rps.strs {ns : List Str} (h : ∀ s ∈ ns, okS s = true) : Rps K F (ns.map V.str) (ns.map .str) := by
  induction ns with
  | nil => exact .nil
  | cons n r ih => exact .cons (.str (h n List.mem_cons_self)) (ih fun s hs => h s (List.mem_cons_of_mem _ hs))
theorem ints_some : ∀ {ds : List D} {ns : List Int}, ints? ds = some ns → ds = ns.map .int
  | [], ns, h => by
    have : ns = [] := by simpa [ints?] using h.symm
    subst this; rfl
  | d :: ds, ns, h => by
    cases d with
    | int i =>
      simp only [ints?, Option.map_eq_some_iff] at h
      obtain ⟨r, h1, rfl⟩ := h
      rw [ints_some h1]; rfl
    | _ => simp [ints?] at h
theorem strs_some : ∀ {ds : List D} {ns : List Str}, strs? ds = some ns → ds = ns.map .str
  | [], ns, h => by
    have : ns = [] := by simpa [strs?] using h.symm
    subst this; rfl
  | d :: ds, ns, h => by
    cases d with
    | str i =>
      simp only [strs?, Option.map_eq_some_iff] at h
      obtain ⟨r, h1, rfl⟩ := h
      rw [strs_some h1]; rfl
    | _ => simp [strs?] at h
theorem bools_some : ∀ {ds : List D} {ns : List Bool}, bools? ds = some ns → ds = ns.map .bool
  | [], ns, h => by
    have : ns = [] := by simpa [bools?] using h.symm
    subst this; rfl
  | d :: ds, ns, h => by
    cases d with
    | bool i =>
      simp only [bools?, Option.map_eq_some_iff] at h
      obtain ⟨r, h1, rfl⟩ := h
      rw [bools_some h1]; rfl
    | _ => simp [bools?] at h
end

/-! ### what is looked at: data, or a list that a variable owns, of data -/
def RpV (K : Kf) (F H : Hp) (v : V) (d : D) : Prop := Rp K F v d ∨ ∃ a vs ds, v = .ref a ∧ d = .list ds ∧ H a = some (.lst vs) ∧ Rps K F vs ds
section
variable {K : Kf} {F H : Hp}
theorem Rp.v {v : V} {d : D} (r : Rp K F v d) : RpV K F H v d := .inl r
theorem RpV.list_inv {v : V} {ds : List D} (s : Sub F H) (r : RpV K F H v (.list ds)) : ∃ a vs, v = .ref a ∧ SqL K H a vs ∧ Rps K F vs ds := by
  rcases r with r | ⟨a, vs, ds', rfl, e, h, r⟩
  · obtain ⟨a, vs, rfl, h, r⟩ := r.list_inv
    exact ⟨a, vs, rfl, sqL_mono s h, r⟩
  · cases e
    exact ⟨a, vs, rfl, .inl (.of h), r⟩
theorem RpV.tup_inv {v : V} {ds : List D} (s : Sub F H) (r : RpV K F H v (.tuple ds)) : ∃ a vs, v = .ref a ∧ SqT K H a vs ∧ Rps K F vs ds ∧ SqD K F a vs := by
  rcases r with r | ⟨a, vs, ds', rfl, e, h, r⟩
  · obtain ⟨a, vs, rfl, h, r⟩ := r.tup_inv
    exact ⟨a, vs, rfl, sqT_mono s h.t, r, h⟩
  · cases e
theorem RpV.int_inv {v : V} {i : Int} (r : RpV K F H v (.int i)) : v = .int i := by
  rcases r with r | ⟨a, vs, ds', rfl, e, h, r⟩
  · exact r.int_inv
  · cases e
theorem RpV.str_inv {v : V} {s : Str} (r : RpV K F H v (.str s)) : v = .str s ∧ okS s = true := by
  rcases r with r | ⟨a, vs, ds', rfl, e, h, r⟩
  · exact r.str_inv
  · cases e
theorem RpV.bool_inv {v : V} {b : Bool} (r : RpV K F H v (.bool b)) : v = .bl b := by
  rcases r with r | ⟨a, vs, ds', rfl, e, h, r⟩
  · exact r.bool_inv
  · cases e
theorem RpV.none_inv {v : V} (r : RpV K F H v .none) : v = .non := by
  rcases r with r | ⟨a, vs, ds', rfl, e, h, r⟩
  · exact r.none_inv
  · cases e
theorem RpV.dict_inv {v : V} {x} (r : RpV K F H v (.dict x)) : False := by
  rcases r with r | ⟨a, vs, ds', rfl, e, h, r⟩
  · exact r.dict_inv
  · cases e
theorem RpV.dp {v : V} {d : D} (s : Sub F H) (r : RpV K F H v d) : Dq K H v d := by
  rcases r with r | ⟨a, vs, ds', rfl, rfl, h, r⟩
  · exact dp_mono s _ _ r.dp
  · exact .lst (.inl (.of h)) (dpAll_mono s _ _ r.dp)
theorem RpV.ok {v : V} {d : D} (r : RpV K F H v d) : okD d = true := by
  rcases r with r | ⟨a, vs, ds', rfl, rfl, h, r⟩
  · exact r.ok
  · simpa [okD] using r.ok
theorem RpV.mono {v : V} {d : D} {F' H' : Hp} (s : Sub F F') (k : Sub H H') (r : RpV K F H v d) : RpV K F' H' v d := by
  rcases r with r | ⟨a, vs, ds', rfl, rfl, h, r⟩
  · exact .inl (r.mono s)
  · exact .inr ⟨a, vs, ds', rfl, rfl, k _ _ h, r.mono s⟩
end

/-! ### growth: nothing is changed, new things are there, some of them frozen -/
structure Gr (F H F' H' : Hp) : Prop where
  sf : Sub F F'
  sh : Sub F' H'
  kp : Sub H H'
  fn : ∀ b, F' b ≠ none → F b ≠ none ∨ H b = none
theorem Gr.rfl {F H : Hp} (s : Sub F H) : Gr F H F H := ⟨.rfl, s, .rfl, fun _ h => .inl h⟩
theorem Gr.new {F H : Hp} {p : Addr} {o : HO} (s : Sub F H) (n : H p = none) : Gr F H (upd F p o) (upd H p o) :=
  ⟨Sub.up Sub.rfl (s.none n), s.up2, Sub.up Sub.rfl n, fun b h => by
    by_cases q : b = p
    · subst q; exact .inr n
    · rw [upd_ne q] at h; exact .inl h⟩
/-- a new thing that is not frozen -/
theorem Gr.own {F H : Hp} {p : Addr} {o : HO} (s : Sub F H) (n : H p = none) : Gr F H F (upd H p o) :=
  ⟨.rfl, s.up n, Sub.up Sub.rfl n, fun b h => .inl h⟩
theorem Gr.trans {F H F1 H1 F2 H2 : Hp} (a : Gr F H F1 H1) (b : Gr F1 H1 F2 H2) : Gr F H F2 H2 :=
  ⟨a.sf.trans b.sf, b.sh, a.kp.trans b.kp, fun c h => by
    rcases b.fn c h with h | h
    · exact a.fn c h
    · refine .inr ?_
      cases e : H c with
      | none => exact Eq.refl _
      | some o => have := a.kp c o e; rw [h] at this; cases this⟩
end MP

set_option maxHeartbeats 200000
/-! Trees that variables own; the state's relation. -/
namespace MP
open PySem PySem.Spec PyProof.Rows L2

/-- a tree with its addresses -/
inductive A where
  | d (v : V) (x : D)
  | lst (a : Addr) (xs : List A)
  | dic (a : Addr) (kvs : List (Key × A))
def A.v : A → V
  | .d v _ => v
  | .lst a _ => .ref a
  | .dic a _ => .ref a
mutual
def A.t : A → T
  | .d _ x => .d x
  | .lst _ xs => .lst (tsOf xs)
  | .dic _ kvs => .dic (tksOf kvs)
def tsOf : List A → List T
  | [] => []
  | x :: xs => x.t :: tsOf xs
def tksOf : List (Key × A) → List (Key × T)
  | [] => []
  | (k, x) :: xs => (k, x.t) :: tksOf xs
end
mutual
def A.ad : A → List Addr
  | .d _ _ => []
  | .lst a xs => a :: adsOf xs
  | .dic a kvs => a :: adksOf kvs
def adsOf : List A → List Addr
  | [] => []
  | x :: xs => x.ad ++ adsOf xs
def adksOf : List (Key × A) → List Addr
  | [] => []
  | (_, x) :: xs => x.ad ++ adksOf xs
end
def vsOf (xs : List A) : List V := xs.map A.v
def vksOf (xs : List (Key × A)) : List (Key × V) := xs.map fun p => (p.1, p.2.v)
mutual
def A.ok (K : Kf) (F H : Hp) : A → Prop
  | .d v x => Rp K F v x
  | .lst a xs => H a = some (.lst (vsOf xs)) ∧ oksOf K F H xs
  | .dic a kvs => H a = some (.dK (vksOf kvs)) ∧ oksksOf K F H kvs
def oksOf (K : Kf) (F H : Hp) : List A → Prop
  | [] => True
  | x :: xs => x.ok K F H ∧ oksOf K F H xs
def oksksOf (K : Kf) (F H : Hp) : List (Key × A) → Prop
  | [] => True
  | (_, x) :: xs => x.ok K F H ∧ oksksOf K F H xs
end
mutual
theorem A.ok_mono {K : Kf} {F H F' H' : Hp} (s : Sub F F') : ∀ (x : A), (∀ b ∈ x.ad, ∀ o, H b = some o → H' b = some o) → x.ok K F H → x.ok K F' H'
  | .d v x, _, h => by simp only [A.ok] at h ⊢; exact h.mono s
  | .lst a xs, k, h => by
    simp only [A.ok] at h ⊢
    exact ⟨k a (by simp [A.ad]) _ h.1, oks_mono s xs (fun b hb => k b (by simp [A.ad, hb])) h.2⟩
  | .dic a xs, k, h => by
    simp only [A.ok] at h ⊢
    exact ⟨k a (by simp [A.ad]) _ h.1, okks_mono s xs (fun b hb => k b (by simp [A.ad, hb])) h.2⟩
theorem oks_mono {K : Kf} {F H F' H' : Hp} (s : Sub F F') : ∀ (xs : List A), (∀ b ∈ adsOf xs, ∀ o, H b = some o → H' b = some o) → oksOf K F H xs → oksOf K F' H' xs
  | [], _, _ => trivial
  | x :: xs, k, h => by
    simp only [oksOf] at h ⊢
    exact ⟨A.ok_mono s x (fun b hb => k b (by simp [adsOf, hb])) h.1, oks_mono s xs (fun b hb => k b (by simp [adsOf, hb])) h.2⟩
theorem okks_mono {K : Kf} {F H F' H' : Hp} (s : Sub F F') : ∀ (xs : List (Key × A)), (∀ b ∈ adksOf xs, ∀ o, H b = some o → H' b = some o) → oksksOf K F H xs → oksksOf K F' H' xs
  | [], _, _ => trivial
  | (q, x) :: xs, k, h => by
    simp only [oksksOf] at h ⊢
    exact ⟨A.ok_mono s x (fun b hb => k b (by simp [adksOf, hb])) h.1, okks_mono s xs (fun b hb => k b (by simp [adksOf, hb])) h.2⟩
end
mutual
theorem A.there {K : Kf} {F H : Hp} : ∀ (x : A), x.ok K F H → ∀ b ∈ x.ad, H b ≠ none
  | .d v x, _, b, hb => by simp [A.ad] at hb
  | .lst a xs, h, b, hb => by
    simp only [A.ok] at h
    simp only [A.ad, List.mem_cons] at hb
    rcases hb with rfl | hb
    · rw [h.1]; simp
    · exact oks_there xs h.2 b hb
  | .dic a xs, h, b, hb => by
    simp only [A.ok] at h
    simp only [A.ad, List.mem_cons] at hb
    rcases hb with rfl | hb
    · rw [h.1]; simp
    · exact okks_there xs h.2 b hb
theorem oks_there {K : Kf} {F H : Hp} : ∀ (xs : List A), oksOf K F H xs → ∀ b ∈ adsOf xs, H b ≠ none
  | [], _, b, hb => by simp [adsOf] at hb
  | x :: xs, h, b, hb => by
    simp only [oksOf] at h
    simp only [adsOf, List.mem_append] at hb
    rcases hb with hb | hb
    · exact A.there x h.1 b hb
    · exact oks_there xs h.2 b hb
theorem okks_there {K : Kf} {F H : Hp} : ∀ (xs : List (Key × A)), oksksOf K F H xs → ∀ b ∈ adksOf xs, H b ≠ none
  | [], _, b, hb => by simp [adksOf] at hb
  | (k, x) :: xs, h, b, hb => by
    simp only [oksksOf] at h
    simp only [adksOf, List.mem_append] at hb
    rcases hb with hb | hb
    · exact A.there x h.1 b hb
    · exact okks_there xs h.2 b hb
end
theorem tsOf_length : ∀ xs : List A, (tsOf xs).length = xs.length
  | [] => rfl
  | _ :: xs => by simp [tsOf, tsOf_length xs]
theorem tksOf_length : ∀ xs : List (Key × A), (tksOf xs).length = xs.length
  | [] => rfl
  | (_, _) :: xs => by simp [tksOf, tksOf_length xs]
theorem tsOf_get : ∀ (xs : List A) (i : Nat), (tsOf xs)[i]? = (xs[i]?).map A.t
  | [], i => by simp [tsOf]
  | x :: xs, 0 => by simp [tsOf]
  | x :: xs, i + 1 => by simp [tsOf, tsOf_get xs i]
theorem tsOf_append : ∀ (xs ys : List A), tsOf (xs ++ ys) = tsOf xs ++ tsOf ys
  | [], _ => rfl
  | x :: xs, ys => by simp [tsOf, tsOf_append xs ys]
theorem adsOf_append : ∀ (xs ys : List A), adsOf (xs ++ ys) = adsOf xs ++ adsOf ys
  | [], _ => rfl
  | x :: xs, ys => by simp [adsOf, adsOf_append xs ys]
theorem oksOf_append {K : Kf} {F H : Hp} : ∀ (xs ys : List A), oksOf K F H xs → oksOf K F H ys → oksOf K F H (xs ++ ys)
  | [], _, _, h => h
  | x :: xs, ys, h, h' => by
    simp only [oksOf, List.cons_append] at h ⊢
    exact ⟨h.1, oksOf_append xs ys h.2 h'⟩
theorem oksOf_get {K : Kf} {F H : Hp} : ∀ (xs : List A), oksOf K F H xs → ∀ x ∈ xs, x.ok K F H
  | [], _, x, hx => by simp at hx
  | y :: ys, h, x, hx => by
    simp only [oksOf] at h
    rcases List.mem_cons.mp hx with rfl | hx
    · exact h.1
    · exact oksOf_get ys h.2 x hx
theorem adsOf_mem : ∀ (xs : List A) (x : A), x ∈ xs → ∀ b ∈ x.ad, b ∈ adsOf xs
  | y :: ys, x, hx, b, hb => by
    simp only [adsOf, List.mem_append]
    rcases List.mem_cons.mp hx with rfl | hx
    · exact .inl hb
    · exact .inr (adsOf_mem ys x hx b hb)
/-- leaves -/
def leavesOf : List V → List D → List A
  | v :: vs, x :: xs => .d v x :: leavesOf vs xs
  | _, _ => []
theorem leaves_ok {K : Kf} {F H : Hp} : ∀ {vs : List V} {ds : List D}, Rps K F vs ds → oksOf K F H (leavesOf vs ds) ∧ vsOf (leavesOf vs ds) = vs ∧ tsOf (leavesOf vs ds) = ds.map .d ∧ adsOf (leavesOf vs ds) = []
  | [], [], _ => ⟨trivial, rfl, rfl, rfl⟩
  | [], _ :: _, r => by have := r.dp; cases this
  | _ :: _, [], r => by have := r.dp; cases this
  | v :: vs, d :: ds, r => by
    obtain ⟨h1, h2⟩ := r.head
    obtain ⟨a, b, c, e⟩ := leaves_ok (H := H) h2
    refine ⟨⟨by simp only [A.ok]; exact h1, a⟩, ?_, ?_, ?_⟩
    · show (A.d v d).v :: vsOf (leavesOf vs ds) = v :: vs
      rw [b]; rfl
    · simp only [leavesOf, tsOf, A.t, List.map_cons, c]
    · simp only [leavesOf, adsOf, A.ad, e, List.append_nil]

/-! ### the frame's names -/
abbrev AEnv := List (Option A)
def SlotR (K : Kf) (F H : Hp) (v : Option V) (s : Slot) (a : Option A) : Prop := match s, a with
  | .no, none => True
  | .val x, none => ∃ u, v = some u ∧ Rp K F u x
  | .own t, some a => v = some a.v ∧ a.t = t ∧ a.ok K F H
  | _, _ => False
def adE : AEnv → List Addr
  | [] => []
  | none :: r => adE r
  | some a :: r => a.ad ++ adE r
inductive Slots (K : Kf) (F H : Hp) : L2.St → Env → AEnv → Prop
  | nil : Slots K F H [] [] []
  | cons {v : Option V} {s : Slot} {a : Option A} {σ : L2.St} {env : Env} {as : AEnv} : SlotR K F H v s a → Slots K F H σ env as → Slots K F H (v :: σ) (s :: env) (a :: as)
structure Rel (K : Kf) (F H : Hp) (σ : L2.St) (env : Env) (as : AEnv) : Prop where
  sub : Sub F H
  slots : Slots K F H σ env as
  nd : (adE as).Nodup
  fr : ∀ b ∈ adE as, F b = none
end MP

set_option maxHeartbeats 200000
namespace MP
open PySem PySem.Spec PyProof.Rows L2
section
variable {K : Kf} {F H F' H' : Hp} {σ : L2.St} {env : Env} {as : AEnv}
theorem Slots.len (r : Slots K F H σ env as) : env.length = σ.length ∧ as.length = σ.length := by
  induction r with
  | nil => exact ⟨rfl, rfl⟩
  | cons _ _ ih => simp [ih.1, ih.2]
theorem Slots.get (r : Slots K F H σ env as) : ∀ {i : Nat} {s : Slot}, env[i]? = some s → ∃ v a, σ[i]? = some v ∧ as[i]? = some a ∧ SlotR K F H v s a := by
  induction r with
  | nil => intro i s e; simp at e
  | cons h _ ih =>
    intro i s e
    cases i with
    | zero =>
      have e' := Option.some.inj (by simpa using e)
      subst e'
      exact ⟨_, _, rfl, rfl, h⟩
    | succ i =>
      obtain ⟨v, a, h1, h2, h3⟩ := ih (i := i) (s := s) (by simpa using e)
      exact ⟨v, a, by simpa using h1, by simpa using h2, h3⟩
theorem Slots.set (r : Slots K F H σ env as) {i : Nat} {v : Option V} {s : Slot} {a : Option A} (h : SlotR K F H v s a) : Slots K F H (σ.set i v) (env.set i s) (as.set i a) := by
  induction r generalizing i with
  | nil => exact .nil
  | cons h' t ih =>
    cases i with
    | zero => exact .cons h t
    | succ i => exact .cons h' ih
theorem adE_mem : ∀ {as : AEnv} {i : Nat} {a : A} {b : Addr}, as[i]? = some (some a) → b ∈ a.ad → b ∈ adE as
  | [], _, _, _, e, _ => by simp at e
  | x :: r, 0, a, b, e, hb => by
    have e' : x = some a := by simpa using e
    subst e'
    simp only [adE, List.mem_append]
    exact .inl hb
  | x :: r, i + 1, a, b, e, hb => by
    have h := adE_mem (as := r) (i := i) (a := a) (by simpa using e) hb
    cases x with
    | none => exact h
    | some x => simp only [adE, List.mem_append]; exact .inr h
theorem Slots.there (r : Slots K F H σ env as) : ∀ b ∈ adE as, H b ≠ none := by
  induction r with
  | nil => intro b hb; simp [adE] at hb
  | @cons v s a σ env as h _ ih =>
    intro b hb
    cases a with
    | none => exact ih b hb
    | some a =>
      simp only [adE, List.mem_append] at hb
      rcases hb with hb | hb
      · cases s with
        | own t => exact A.there a h.2.2 b hb
        | _ => exact h.elim
      · exact ih b hb
theorem SlotR.mono {v : Option V} {s : Slot} {a : Option A} (sf : Sub F F') (k : ∀ x, a = some x → ∀ b ∈ x.ad, ∀ o, H b = some o → H' b = some o) (h : SlotR K F H v s a) : SlotR K F' H' v s a := by
  cases s with
  | no => cases a with
    | none => trivial
    | some _ => exact h.elim
  | val x => cases a with
    | none =>
      obtain ⟨u, e, r⟩ := h
      exact ⟨u, e, r.mono sf⟩
    | some _ => exact h.elim
  | own t => cases a with
    | none => exact h.elim
    | some a => exact ⟨h.1, h.2.1, A.ok_mono sf a (k a rfl) h.2.2⟩
theorem Slots.mono (sf : Sub F F') (r : Slots K F H σ env as) (k : ∀ b ∈ adE as, ∀ o, H b = some o → H' b = some o) : Slots K F' H' σ env as := by
  induction r with
  | nil => exact .nil
  | @cons v s a σ env as h t ih =>
    refine .cons (h.mono sf fun x e b hb o => ?_) (ih fun b hb => ?_)
    · subst e
      exact k b (by simp only [adE, List.mem_append]; exact .inl hb) o
    · refine k b ?_
      cases a with
      | none => exact hb
      | some x => simp only [adE, List.mem_append]; exact .inr hb
theorem Rel.gr (r : Rel K F H σ env as) (g : Gr F H F' H') : Rel K F' H' σ env as :=
  ⟨g.sh, r.slots.mono g.sf fun b _ o e => g.kp b o e, r.nd, fun b hb => by
    cases e : F' b with
    | none => rfl
    | some o =>
      rcases g.fn b (by rw [e]; simp) with q | q
      · exact absurd (r.fr b hb) q
      · exact absurd q (r.slots.there b hb)⟩

/-- what a piece of code does to the rest of the heap -/
structure Post (H F : Hp) (as : AEnv) (H' F' : Hp) (as' : AEnv) : Prop where
  sf : Sub F F'
  fr : ∀ b o, H b = some o → b ∉ adE as → H' b = some o
  on : ∀ b ∈ adE as', b ∈ adE as ∨ H b = none
  fn : ∀ b, F' b ≠ none → F b ≠ none ∨ b ∈ adE as ∨ H b = none
  th : ∀ b, H b ≠ none → H' b ≠ none
theorem Post.rfl : Post H F as H F as := ⟨.rfl, fun _ _ e _ => e, fun _ h => .inl h, fun _ h => .inl h, fun _ h => h⟩
theorem Gr.post (g : Gr F H F' H') : Post H F as H' F' as :=
  ⟨g.sf, fun b o e _ => g.kp b o e, fun _ h => .inl h, fun b h => (g.fn b h).imp (fun z => z) .inr, fun b h q => by
    cases e : H b with
    | none => exact h e
    | some o => have := g.kp b o e; rw [q] at this; cases this⟩
theorem Post.trans {H1 F1 H2 F2 : Hp} {as1 as2 : AEnv} (a : Post H F as H1 F1 as1) (b : Post H1 F1 as1 H2 F2 as2) : Post H F as H2 F2 as2 where
  sf := a.sf.trans b.sf
  fr := fun c o e n => by
    refine b.fr c o (a.fr c o e n) fun hm => ?_
    rcases a.on c hm with h | h
    · exact n h
    · rw [h] at e; cases e
  on := fun c hm => by
    rcases b.on c hm with h | h
    · exact a.on c h
    · refine .inr ?_
      cases e : H c with
      | none => exact Eq.refl _
      | some o => exact absurd h (a.th c (by rw [e]; simp))
  fn := fun c h => by
    rcases b.fn c h with h | h | h
    · exact a.fn c h
    · exact .inr (a.on c h)
    · refine .inr (.inr ?_)
      cases e : H c with
      | none => exact Eq.refl _
      | some o => exact absurd h (a.th c (by rw [e]; simp))
  th := fun c h => b.th c (a.th c h)
theorem Env.val_some {i : Nat} {x : D} (h : env.val i = some x) : env[i]? = some (.val x) := by
  unfold Env.val at h
  split at h
  · cases h; assumption
  · cases h
theorem Env.own_some {i : Nat} {x : T} (h : env.own i = some x) : env[i]? = some (.own x) := by
  unfold Env.own at h
  split at h
  · cases h; assumption
  · cases h
theorem Rel.val (r : Rel K F H σ env as) {i : Nat} {x : D} (h : env.val i = some x) : ∃ v, σ[i]? = some (some v) ∧ Rp K F v x := by
  obtain ⟨v, a, h1, h2, h3⟩ := r.slots.get (Env.val_some h)
  cases a with
  | none =>
    obtain ⟨u, e, q⟩ := h3
    subst e
    exact ⟨u, h1, q⟩
  | some _ => exact h3.elim
theorem Rel.own (r : Rel K F H σ env as) {i : Nat} {t : T} (h : env.own i = some t) : ∃ a, σ[i]? = some (some a.v) ∧ as[i]? = some (some a) ∧ a.t = t ∧ a.ok K F H := by
  obtain ⟨v, a, h1, h2, h3⟩ := r.slots.get (Env.own_some h)
  cases a with
  | none => exact h3.elim
  | some a => exact ⟨a, by rw [h1, h3.1], h2, h3.2.1, h3.2.2⟩
end
end MP

set_option maxHeartbeats 1000000
namespace MP
open PySem PySem.Spec PyProof.Rows L2
theorem sizeLine_n : (sizeLine : Nat) = 16777216 := sizeLine_eq
section
variable {X : Cx} {pins : List (Addr × Obj)} {σ : L2.St} {H F : Hp} {s : Shared}
theorem list_add_g (l : Addr) (items : Array Value) (n : Nat) (dd : Option Addr) (sl : Array (Option Value)) (b : Addr) (items2 : Array Value) (n2 : Nat) (dd2 : Option Addr) (sl2 : Array (Option Value)) (hc0 : items.size + items2.size ≤ sizeLine) :
    Meets (Builtin.«list.__add__» ⟨[.ref l, .ref b], []⟩) (fun _ R s => s.heap.get? l = some { cls := .type "list", dict := dd, data := .seq items n, slots := sl } ∧ s.heap.get? b = some { cls := .type "list", dict := dd2, data := .seq items2 n2, slots := sl2 } ∧ R (.ok (.ret (Value.ref s.heap.objs.size))) { s with heap := s.heap.push { cls := Value.type "list", data := Data.seq (items ++ items2) }, toks := s.toks }) :=
  .of_wp fun prog w A R s h => by obtain ⟨hp, g, d, tk, os⟩ := s; obtain ⟨hl, hb, h⟩ := h; have f1 := AutoSeq1.idx_int; have f2 := AutoSeq1.sub_tuple_tuple; have f3 := AutoSeq1.sub_list_list; have f4 := AutoSeq1.sub_tuple_list; have f5 := AutoSeq1.sub_list_tuple; wp_walk using AutoSeq1.wpAny_loadPart' hl, AutoSeq1.wpAny_loadPart' hb; exact ⟨_, rfl, h⟩
theorem list_mul_g (l : Addr) (items : Array Value) (n : Nat) (dd : Option Addr) (sl : Array (Option Value)) (x : Int) (u : Tok) (hc0 : ¬(!Builtin.List.listFitsIndex x) = true) (hc1 : ¬items.size * x.toNat > (2 ^ 63 - 1) / 8) (hc2 : ¬Builtin.List.listTooLong (items.size * x.toNat) = true) :
    Meets (Builtin.«list.__mul__» ⟨[.ref l, .int x u], []⟩) (fun _ R s => s.heap.get? l = some { cls := .type "list", dict := dd, data := .seq items n, slots := sl } ∧ R (.ok (.ret (Value.ref s.heap.objs.size))) { s with heap := s.heap.push { cls := Value.type "list", data := Data.seq (List.foldl (fun x1 x2 => x1 ++ x2) #[] (List.replicate (if items.isEmpty = true then 0 else x.toNat) items)) }, toks := s.toks }) :=
  .of_wp fun prog w A R s h => by
    obtain ⟨hp, g, d, tk, os⟩ := s; obtain ⟨hl, h⟩ := h
    have hsz := AutoListH.joined_fits hc2
    wp_walk; refine wpAny_ite_false (decide_eq_false (Nat.not_lt.mpr hsz)) ?_; wp_walk; exact ⟨_, rfl, h⟩
theorem int_rmul_g (a : Int) (t : Tok) (l : Addr) (items : Array Value) (n : Nat) (dd : Option Addr) (sl : Array (Option Value)) :
    Meets (Builtin.«int.__rmul__» ⟨[.int a t, .ref l], []⟩) (fun _ R s => s.heap.get? l = some { cls := .type "list", dict := dd, data := .seq items n, slots := sl } ∧ R (.ok (.ret Value.notImplemented)) s) :=
  .of_wp fun prog w A R s h => by obtain ⟨hp, g, d, tk, os⟩ := s; obtain ⟨hl, h⟩ := h; wp_walk; exact ⟨_, rfl, h⟩
theorem list_ext_l (l : Addr) (items : Array Value) (n : Nat) (b : Addr) (items2 : Array Value) (n2 : Nat) (dd2 : Option Addr) (sl2 : Array (Option Value)) (hc0 : ¬(!items.isEmpty && Builtin.List.listTooLong (items.size + items2.size)) = true) (hc1 : items.size ≤ sizeLine) (hs2 : items.size + items2.size ≤ sizeLine + 1) :
    Meets (Builtin.«list.extend» ⟨[.ref l, .ref b], []⟩) (fun _ R s => s.heap.get? l = some { cls := .type "list", dict := none, data := .seq items n, slots := #[] } ∧ s.heap.get? b = some { cls := .type "list", dict := dd2, data := .seq items2 n2, slots := sl2 } ∧ R (.ok (.ret Value.none)) { s with heap := s.heap.update l (Obj.mapSeq fun x => x ++ items2), toks := s.toks }) :=
  .of_wp fun prog w A R s h => by
    obtain ⟨hp, g, d, tk, os⟩ := s; obtain ⟨hl, hb, h⟩ := h; have f1 := AutoSeq1.idx_int; have f2 := AutoSeq1.sub_tuple_tuple; have f3 := AutoSeq1.sub_list_list; have f4 := AutoSeq1.sub_tuple_list; have f5 := AutoSeq1.sub_list_tuple;
    have hz' : (items ++ items2).size ≤ sizeLine + 1 := by rw [Array.size_append]; exact hs2
    wp_walk using (wpAny_updateSeq hl rfl (hz := hc1) (_hz' := hz')), AutoSeq1.wpAny_loadPart' hl, AutoSeq1.wpAny_loadPart' hb; exact ⟨_, rfl, h⟩
theorem list_ext_t (l : Addr) (items : Array Value) (n : Nat) (b : Addr) (items2 : Array Value) (n2 : Nat) (dd2 : Option Addr) (sl2 : Array (Option Value)) (hc0 : ¬(!items.isEmpty && Builtin.List.listTooLong (items.size + items2.size)) = true) (hc1 : items.size ≤ sizeLine) (hs2 : items.size + items2.size ≤ sizeLine + 1) :
    Meets (Builtin.«list.extend» ⟨[.ref l, .ref b], []⟩) (fun _ R s => s.heap.get? l = some { cls := .type "list", dict := none, data := .seq items n, slots := #[] } ∧ s.heap.get? b = some { cls := .type "tuple", dict := dd2, data := .seq items2 n2, slots := sl2 } ∧ R (.ok (.ret Value.none)) { s with heap := s.heap.update l (Obj.mapSeq fun x => x ++ items2), toks := s.toks }) :=
  .of_wp fun prog w A R s h => by
    obtain ⟨hp, g, d, tk, os⟩ := s; obtain ⟨hl, hb, h⟩ := h; have f1 := AutoSeq1.idx_int; have f2 := AutoSeq1.sub_tuple_tuple; have f3 := AutoSeq1.sub_list_list; have f4 := AutoSeq1.sub_tuple_list; have f5 := AutoSeq1.sub_list_tuple;
    have hz' : (items ++ items2).size ≤ sizeLine + 1 := by rw [Array.size_append]; exact hs2
    wp_walk using (wpAny_updateSeq hl rfl (hz := hc1) (_hz' := hz')), AutoSeq1.wpAny_loadPart' hl, AutoSeq1.wpAny_loadPart' hb; exact ⟨_, rfl, h⟩
theorem lstR (I : Inv X pins σ H s) {l : Addr} {xs : List V} (hH : SqL X.K H l xs) : xs.length ≤ sizeLine ∧ ∃ (its : List Value) (n : Nat) (dd : Option Addr) (sl : Array (Option Value)), Vals xs its ∧ xs.length = its.length ∧ s.heap.get? l = some { cls := .type "list", dict := dd, data := .seq its.toArray n, slots := sl } := by
  obtain ⟨its, rv, pl, hz⟩ := I.list hH
  have hl := rv.length
  obtain ⟨⟨cls, dd, data, sl⟩, ho, hc, n, hd⟩ := pl.isList
  simp only at hc hd
  subst hc hd
  exact ⟨hz, its, n, dd, sl, rv, hl, ho⟩
theorem tupR (I : Inv X pins σ H s) {l : Addr} {xs : List V} (hH : SqT X.K H l xs) : xs.length ≤ sizeLine ∧ ∃ (its : List Value) (n : Nat) (dd : Option Addr) (sl : Array (Option Value)), Vals xs its ∧ xs.length = its.length ∧ s.heap.get? l = some { cls := .type "tuple", dict := dd, data := .seq its.toArray n, slots := sl } := by
  obtain ⟨its, rv, pl, hz⟩ := I.tuple hH
  have hl := rv.length
  obtain ⟨⟨cls, dd, data, sl⟩, ho, hc, n, hd⟩ := pl
  simp only at hc hd
  subst hc hd
  exact ⟨hz, its, n, dd, sl, rv, hl, ho⟩
/-- a new list, a new tuple: frozen at once -/
theorem newL {K : Kf} {vs : List V} {ds : List D} {p : Addr} (sf : Sub F H) (n : H p = none) (r : Rps K F vs ds) : Gr F H (upd F p (.lst vs)) (upd H p (.lst vs)) ∧ Rp K (upd F p (.lst vs)) (.ref p) (.list ds) :=
  ⟨Gr.new sf n, Rp.lst (.inl (.inl upd_same)) (r.mono (Sub.up Sub.rfl (sf.none n)))⟩
/-- a new tuple, its object known -/
def TupAt (vs : List V) (o : HO) : Prop := ∃ (its : List Value) (n : Nat) (sl : Array (Option Value)), o = .frz ⟨.type "tuple", none, .seq its.toArray n, sl⟩ (.tup vs)
theorem newT {K : Kf} {vs : List V} {ds : List D} {p : Addr} {o : HO} (sf : Sub F H) (n : H p = none) (t : TupAt vs o) (r : Rps K F vs ds) : Gr F H (upd F p o) (upd H p o) ∧ Rp K (upd F p o) (.ref p) (.tuple ds) := by
  obtain ⟨its, m, sl, rfl⟩ := t
  exact ⟨Gr.new sf n, Rp.tup (.inl ⟨its, m, sl, upd_same⟩) (r.mono (Sub.up Sub.rfl (sf.none n)))⟩
theorem tup_new {vs : List V} {its : List Value} {h' : Heap} (I : Inv X pins σ H s) (k : ∀ b o, s.heap.get? b = some o → h'.get? b = some o) (e : h'.get? s.heap.objs.size = some { cls := .type "tuple", data := .seq its.toArray }) (r : Vals vs its) (hz : vs.length ≤ sizeLine) :
    ∃ o, TupAt vs o ∧ Inv X pins σ (upd H s.heap.objs.size o) { s with heap := h' } := by
  refine ⟨.frz ⟨.type "tuple", none, .seq its.toArray 0, #[]⟩ (.tup vs), ⟨its, 0, #[], rfl⟩, I.laid (t' := s.toks) k (Nat.le_refl _) ?_⟩
  exact ⟨e, hz, its, r, ⟨_, e, rfl, _, rfl⟩⟩
def tTupD (t : TA) : TE := fun σ H Q => t σ H fun xs H1 => xs.length ≤ sizeLine ∧ ∀ p o, H1 p = none → TupAt xs o → Q (.ref p) (upd H1 p o)
theorem pe_tupD {es : List Expr} {t : TA} {x1 : Nat} {pos : Pos} (h : PA X es t) : PE X (.Tuple es x1 pos) (tTupD t) := by
  refine ⟨fun pins s σ H Q I hq => ?_⟩
  refine wpAny_Tuple_spliced (thn (h.run pos pins s σ H _ I hq) fun us s1 ⟨xs, H1, I1, r, z, q⟩ => ⟨by rw [← r.length]; exact z, ?_⟩)
  obtain ⟨o, ho, I2⟩ := tup_new I1 (fun b u e => Heap.get?_push_of_some _ e) (Heap.get?_push_size _ rfl) r z
  exact ⟨.ref s1.heap.objs.size, _, I2, rfl, q _ o (I1.hok.fresh (Nat.le_refl _)) ho⟩
theorem call_tupD : CallR X (.type "tuple") (fun xs H Q => ∃ p ys, xs = [.ref p] ∧ ((SqL X.K H p ys ∧ ∀ l o, H l = none → TupAt ys o → Q (.ref l) (upd H l o)) ∨ (SqT X.K H p ys ∧ Q (.ref p) H))) := by
  intro pins s σ H xs us Q I r h
  obtain ⟨p, ys, rfl, h⟩ := h
  obtain ⟨u, rfl, rx⟩ := vals1 r
  cases rx
  rcases h with ⟨hq, q⟩ | ⟨hq, q⟩
  · obtain ⟨its, r', pl, hz⟩ := I.list hq
    have hlen := r'.length
    refine call_tuple_list pl.isList (fun h' kp => ?_) (by simp only [List.size_toArray] <;> omega)
    have I1 : Inv X pins σ H { s with heap := h' } := I.kept (t' := s.toks) kp
    obtain ⟨o, ho, I2⟩ := tup_new (s := { s with heap := h' }) I1 (fun b u e => Heap.get?_push_of_some _ e) (Heap.get?_push_size _ rfl) r' hz
    exact ⟨.ref h'.objs.size, _, I2, rfl, q _ o (I1.hok.fresh (Nat.le_refl _)) ho⟩
  · obtain ⟨its, r', pl, hz⟩ := I.tuple hq
    exact call_tuple_same pl ⟨.ref p, H, I, rfl, q⟩
def rCatD (X : Cx) : R2 := fun x y H Q => ∃ a b xs ys, x = .ref a ∧ y = .ref b ∧ SqT X.K H a xs ∧ SqT X.K H b ys ∧ xs.length + ys.length ≤ sizeLine ∧ (xs = [] → Q (.ref b) H) ∧ (xs ≠ [] → ys = [] → Q (.ref a) H) ∧ (xs ≠ [] → ys ≠ [] → ∀ p o, H p = none → TupAt (xs ++ ys) o → Q (.ref p) (upd H p o))
theorem op_catD : OpR X (binaryOp .Add) (rCatD X) := by
  intro pins s σ H x y v u Q I rx ry h
  obtain ⟨a, b, xs, ys, rfl, rfl, ha, hb, hz, q0, q1, q2⟩ := h
  by_cases hx : xs = []
  · exact op_catA pins s σ H _ _ v u Q I rx ry ⟨a, b, xs, ys, rfl, rfl, ha, hb, hz, q0, q1, fun z => absurd hx z⟩
  · cases rx
    cases ry
    obtain ⟨its, r1, p1, _⟩ := I.tuple ha
    obtain ⟨its2, r2, p2, _⟩ := I.tuple hb
    refine HT.cat_tup p1 p2 (fun z => hx (r1.nil_iff.mp z)) (fun z => ⟨.ref a, H, I, rfl, q1 hx (r2.nil_iff.mp z)⟩) (fun z => ?_) (by rw [← r1.length, ← r2.length]; exact hz)
    obtain ⟨o, ho, I2⟩ := tup_new (its := its ++ its2) (h' := s.heap.push { cls := .type "tuple", data := .seq (its ++ its2).toArray }) I (fun b u e => Heap.get?_push_of_some _ e) (Heap.get?_push_size _ rfl) (r1.append r2) (by rw [List.length_append]; exact hz)
    exact ⟨.ref s.heap.objs.size, _, I2, rfl, q2 hx (fun w => z (r2.nil_iff.mpr w)) _ o (I.hok.fresh (Nat.le_refl _)) ho⟩
def rSlD (K : PySem.W.Frag) : V → Option Int → Option Int → Hp → VK → Prop := fun x lo hi H Q => ∃ a xs, x = .ref a ∧ SqT K H a xs ∧
  (HT.sIx xs.length 0 lo = 0 ∧ HT.sIx xs.length xs.length hi = xs.length → Q (.ref a) H) ∧ (¬ (HT.sIx xs.length 0 lo = 0 ∧ HT.sIx xs.length xs.length hi = xs.length) → ∀ p o, H p = none → TupAt (cutV xs lo hi) o → Q (.ref p) (upd H p o))
theorem sl_tupD : SlR X (rSlD X.K) := by
  intro pins s σ H x v vl vu lo hi sl Q I rx hs pl pu h
  obtain ⟨a, xs, rfl, hx, q1, q2⟩ := h
  by_cases hw : HT.sIx xs.length 0 lo = 0 ∧ HT.sIx xs.length xs.length hi = xs.length
  · exact sl_tupA pins s σ H _ v vl vu lo hi sl Q I rx hs pl pu ⟨a, xs, rfl, hx, q1, fun z => absurd hw z⟩
  · cases rx
    obtain ⟨its, r, ht, hz⟩ := I.tuple hx
    have hlen : its.toArray.size = xs.length := by rw [List.size_toArray]; exact r.length.symm
    refine ⟨"tuple", _, PyProof.Rows.slot_tuple_getitem.lookup, ht.typeIs, ?_⟩
    refine HT.getItem_tuple_cut ht hs pl pu (by rw [hlen]; exact hw) ?_ (by rw [hlen]; exact hz)
    rw [hlen]
    obtain ⟨o, ho, I2⟩ := tup_new (h' := s.heap.push { cls := .type "tuple", data := .seq ((its.drop (HT.sIx xs.length 0 lo)).take (HT.sIx xs.length xs.length hi - HT.sIx xs.length 0 lo)).toArray }) I (fun b u e => Heap.get?_push_of_some _ e) (Heap.get?_push_size _ rfl) ((r.drop (HT.sIx xs.length 0 lo)).take (HT.sIx xs.length xs.length hi - HT.sIx xs.length 0 lo)) (Nat.le_trans (cutV_length xs lo hi) hz)
    exact ⟨.ref s.heap.objs.size, _, I2, rfl, q2 hw _ o (I.hok.fresh (Nat.le_refl _)) ho⟩

/-- list + list, whatever is locked -/
def rCatR (X : Cx) : R2 := fun x y H Q => ∃ l b xs zs, x = .ref l ∧ y = .ref b ∧ SqL X.K H l xs ∧ SqL X.K H b zs ∧ xs.length + zs.length ≤ sizeLine ∧ ∀ p, H p = none → Q (.ref p) (upd H p (.lst (xs ++ zs)))
theorem op_catR : OpR X (binaryOp .Add) (rCatR X) := by
  intro pins s σ H x y v u Q I rx ry h
  obtain ⟨l, b, xs, zs, rfl, rfl, hH, hB, hz, q⟩ := h
  cases rx
  cases ry
  obtain ⟨z, its, n, dd, sl, r, hl, e⟩ := lstR I hH
  obtain ⟨z2, its2, n2, dd2, sl2, r2, hl2, e2⟩ := lstR I hB
  refine concat_meets ⟨_, e, rfl⟩ ⟨_, e2, rfl⟩ noFill_list_add seq_list_add F.slot_list_add F.entry_list_add (F.args_list_add_2 _ _) (list_add_g l its.toArray n dd sl b its2.toArray n2 dd2 sl2 (by rw [List.size_toArray, List.size_toArray]; omega)) ⟨e, e2, ?_⟩
  have ea : its.toArray ++ its2.toArray = (its ++ its2).toArray := by simp
  rw [ea]
  exact ⟨.ref _, _, I.lnew (t' := s.toks) (r.append r2) (by rw [List.length_append]; omega), rfl, q _ I.fresh⟩
def rRepR (X : Cx) : R2 := fun x y H Q => ∃ l k xs, x = .ref l ∧ y = .int k ∧ SqL X.K H l xs ∧ -(2 ^ 63) ≤ k ∧ k < 2 ^ 63 ∧ xs.length * k.toNat ≤ sizeLine ∧
  ∀ p, H p = none → Q (.ref p) (upd H p (.lst (List.replicate k.toNat xs).flatten))
theorem op_repR : OpR X (binaryOp .Mult) (rRepR X) := by
  intro pins s σ H x y v u Q I rx ry h
  obtain ⟨l, k, xs, rfl, rfl, hH, h1, h2, hz, q⟩ := h
  cases rx
  obtain ⟨t, rfl⟩ := ry
  obtain ⟨z, its, n, dd, sl, r, hl, e⟩ := lstR I hH
  have hlen : its.toArray.size * k.toNat ≤ sizeLine := by rw [List.size_toArray, ← hl]; exact hz
  have hcap : ¬ its.toArray.size * k.toNat > (2 ^ 63 - 1) / 8 := by
    have : (sizeLine : Nat) ≤ (2 ^ 63 - 1) / 8 := by decide
    omega
  have hfit : ¬ (!Builtin.List.listFitsIndex k) = true := by
    rw [fitsIndex_both h1 h2]
    exact Bool.false_ne_true
  have hlong : ¬ Builtin.List.listTooLong (its.toArray.size * k.toNat) = true := by
    rw [notLongL hlen]
    exact Bool.false_ne_true
  have hnew : List.foldl (fun x1 x2 => x1 ++ x2) #[] (List.replicate (if its.toArray.isEmpty = true then 0 else k.toNat) its.toArray) = (List.replicate k.toNat its).flatten.toArray := by
    have f0 : ∀ m : Nat, List.foldl (fun x1 x2 => x1 ++ x2) #[] (List.replicate m its.toArray) = (List.replicate m its).flatten.toArray := fun m => by
      have := foldl_rep its m []
      rw [List.nil_append] at this
      exact this
    rw [f0]
    cases its with
    | nil => simp
    | cons a r' => rw [if_neg (by simp)]
  refine wpAny_binaryOp_repeat_ref (T := "list") (U := "int") (by decide) ⟨_, e, rfl⟩ (fun s' => typeIs_int s' k t) noFill_list_mul F.fills_int_mul F.slot_int_rmul repeat_list F.slot_int_index.lookup
    (call_meets F.slot_int_rmul (typeIs_int s k t) F.entry_int_rmul (F.args_int_rmul_2 _ _) (int_rmul_g k t l its.toArray n dd sl)
      ⟨e, rfl, ⟨_, e, rfl⟩, call_meets F.slot_list_mul ⟨_, e, rfl⟩ F.entry_list_mul (F.args_list_mul_2 _ _) (list_mul_g l its.toArray n dd sl k t hfit hcap hlong) ⟨e, ?_⟩⟩)
  rw [hnew]
  exact ⟨.ref _, _, I.lnew (t' := s.toks) (r.rep k.toNat) (by rw [PyProof.Rows.lm_len_rep_flat, Nat.mul_comm]; exact hz), rfl, q _ I.fresh⟩

/-! ### a two-place operation on data -/
def rD (K : Kf) (g : D → D → Option D) : R2 := fun x y H Q => ∃ F p q z, Sub F H ∧ RpV K F H x p ∧ RpV K F H y q ∧ g p q = some z ∧ ∀ v H' F', Gr F H F' H' → Rp K F' v z → Q v H'
theorem ifs {α : Type} {p : Prop} [Decidable p] {a z : α} (h : (if p then some a else none) = some z) : p ∧ a = z := by
  split at h
  · exact ⟨by assumption, Option.some.inj h⟩
  · cases h
theorem okS_append {a b : Str} (ha : okS a = true) (hb : okS b = true) (h : fits (a.length + b.length) = true) : okS (a ++ b) = true := by
  unfold okS at ha hb ⊢
  simp only [Bool.and_eq_true, decide_eq_true_eq, fits] at ha hb h ⊢
  have e : (a ++ b).cps = a.cps ++ b.cps := rfl
  refine ⟨?_, ?_⟩
  · rw [e, Array.all_append, ha.1, hb.1]; rfl
  · show (a.cps ++ b.cps).size ≤ _
    rw [Array.size_append]; exact h
theorem dop_add : OpR X (binaryOp .Add) (rD X.K (binD .add)) := by
  intro pins s σ H x y v u Q I rx ry h
  obtain ⟨F, p, q, z, sf, hx, hy, hg, k⟩ := h
  cases p with
  | int i =>
    cases q with
    | int j =>
      have e : PyData.int (i + j) = z := by simpa [binD, binI] using hg
      rw [hx.int_inv] at rx; rw [hy.int_inv] at ry
      exact op_add pins s σ H _ _ v u Q I rx ry ⟨i, j, rfl, rfl, k _ H F (.rfl sf) (by rw [← e]; exact .int _)⟩
    | _ => simp [binD] at hg
  | str a =>
    cases q with
    | str b =>
      obtain ⟨⟨_, hf⟩, e⟩ := ifs (by simpa only [binD] using hg)
      rw [hx.str_inv.1] at rx; rw [hy.str_inv.1] at ry
      refine op_add_str pins s σ H _ _ v u Q I rx ry ⟨a, b, rfl, rfl, ?_, k _ H F (.rfl sf) (by rw [← e]; exact .str (okS_append hx.str_inv.2 hy.str_inv.2 hf))⟩
      rw [sizeLine_n]; simpa [fits] using hf
    | _ => simp [binD] at hg
  | tuple xs =>
    cases q with
    | tuple ys =>
      obtain ⟨⟨_, hf⟩, e⟩ := ifs (by simpa only [binD] using hg)
      obtain ⟨a, vs, rfl, h1, r1, g1⟩ := hx.tup_inv sf
      obtain ⟨b, ws, rfl, h2, r2, g2⟩ := hy.tup_inv sf
      have e1 := r1.len
      have e2 := r2.len
      subst e
      refine op_catD pins s σ H _ _ v u Q I rx ry ⟨a, b, vs, ws, rfl, rfl, h1, h2, ?_, fun e => ?_, fun _ e => ?_, fun _ _ p o hp ho => ?_⟩
      · rw [sizeLine_n]
        have : xs.length + ys.length ≤ 16777216 := by simpa [fits] using hf
        omega
      · have : xs = [] := by
          rw [e] at e1; exact List.eq_nil_of_length_eq_zero e1.symm
        subst this
        exact k _ H F (.rfl sf) (Rp.tup g2 r2)
      · have : ys = [] := by
          rw [e] at e2; exact List.eq_nil_of_length_eq_zero e2.symm
        subst this
        rw [List.append_nil] at k
        exact k _ H F (.rfl sf) (Rp.tup g1 r1)
      · obtain ⟨g, r⟩ := newT sf hp ho (r1.append r2)
        exact k _ _ _ g r
    | _ => simp [binD] at hg
  | list xs =>
    cases q with
    | list ys =>
      obtain ⟨⟨_, hf⟩, e⟩ := ifs (by simpa only [binD] using hg)
      obtain ⟨a, vs, rfl, h1, r1⟩ := hx.list_inv sf
      obtain ⟨b, ws, rfl, h2, r2⟩ := hy.list_inv sf
      have e1 := r1.len
      have e2 := r2.len
      subst e
      refine op_catR pins s σ H _ _ v u Q I rx ry ⟨a, b, vs, ws, rfl, rfl, h1, h2, ?_, fun p hp => ?_⟩
      · rw [sizeLine_n]
        have : xs.length + ys.length ≤ 16777216 := by simpa [fits] using hf
        omega
      · obtain ⟨g, r⟩ := newL sf hp (r1.append r2)
        exact k _ _ _ g r
    | int j => simp [binD] at hg
    | _ => simp [binD] at hg
  | _ => simp [binD] at hg
/-- ints alone -/
theorem dop_int {o : Op} {f : Value → Value → Sem Value} {g : Int → Int → Option Int} (ho : ∀ i j, binI o i j = g i j) (hn : o ≠ .add ∧ o ≠ .mul)
    (rule : OpR X f (fun x y H Q => ∃ i j k, x = .int i ∧ y = .int j ∧ g i j = some k ∧ Q (.int k) H)) : OpR X f (rD X.K (binD o)) := by
  intro pins s σ H x y v u Q I rx ry h
  obtain ⟨F, p, q, z, sf, hx, hy, hg, k⟩ := h
  cases p with
  | int i =>
    cases q with
    | int j =>
      simp only [binD, Option.map_eq_some_iff] at hg
      obtain ⟨n, h1, h2⟩ := hg
      rw [hx.int_inv] at rx; rw [hy.int_inv] at ry
      exact rule pins s σ H _ _ v u Q I rx ry ⟨i, j, n, rfl, rfl, by rw [← ho]; exact h1, k _ H F (.rfl sf) (by rw [← h2]; exact .int _)⟩
    | _ => simp [binD] at hg
  | list xs =>
    cases q with
    | list ys => simp only [binD, hn.1, false_and, if_false] at hg; cases hg
    | int j => simp only [binD, hn.2, false_and, if_false] at hg; cases hg
    | _ => simp [binD] at hg
  | str a =>
    cases q with
    | str b => simp only [binD, hn.1, false_and, if_false] at hg; cases hg
    | int j => simp only [binD, hn.2, false_and, if_false] at hg; cases hg
    | _ => simp [binD] at hg
  | tuple a =>
    cases q with
    | tuple b => simp only [binD, hn.1, false_and, if_false] at hg; cases hg
    | _ => simp [binD] at hg
  | _ => simp [binD] at hg
theorem opR_imp {f : Value → Value → Sem Value} {r r' : R2} (h : OpR X f r) (i : ∀ x y H Q, r' x y H Q → r x y H Q) : OpR X f r' :=
  fun pins s σ H x y v u Q I rx ry q => h pins s σ H x y v u Q I rx ry (i _ _ _ _ q)
theorem dop_sub : OpR X (binaryOp .Sub) (rD X.K (binD .sub)) := dop_int (fun _ _ => rfl) ⟨by decide, by decide⟩ (opR_imp op_sub fun x y H Q ⟨i, j, k, e1, e2, e3, q⟩ => ⟨i, j, e1, e2, by cases e3; exact q⟩)
theorem dop_fdiv : OpR X (binaryOp .FloorDiv) (rD X.K (binD .fdiv)) := dop_int (fun _ _ => rfl) ⟨by decide, by decide⟩ (opR_imp op_fdiv fun x y H Q ⟨i, j, k, e1, e2, e3, q⟩ => by
  obtain ⟨h, rfl⟩ := ifs e3
  exact ⟨i, j, e1, e2, by simpa [CDiv] using h, q⟩)
theorem dop_mod : OpR X (binaryOp .Mod) (rD X.K (binD .mod)) := dop_int (fun _ _ => rfl) ⟨by decide, by decide⟩ (opR_imp op_mod fun x y H Q ⟨i, j, k, e1, e2, e3, q⟩ => by
  obtain ⟨h, rfl⟩ := ifs e3
  exact ⟨i, j, e1, e2, by simpa using h, q⟩)
theorem dop_pow : OpR X (binaryOp .Pow) (rD X.K (binD .pow)) := dop_int (fun _ _ => rfl) ⟨by decide, by decide⟩ (opR_imp op_pow fun x y H Q ⟨i, j, k, e1, e2, e3, q⟩ => by
  obtain ⟨h, rfl⟩ := ifs e3
  exact ⟨i, j, e1, e2, by simpa [CPow] using h, q⟩)
theorem dop_shl : OpR X (binaryOp .LShift) (rD X.K (binD .shl)) := dop_int (fun _ _ => rfl) ⟨by decide, by decide⟩ (opR_imp op_shl fun x y H Q ⟨i, j, k, e1, e2, e3, q⟩ => by
  obtain ⟨h, rfl⟩ := ifs e3
  exact ⟨i, j, e1, e2, by simpa [CPow] using h, q⟩)
theorem dop_shr : OpR X (binaryOp .RShift) (rD X.K (binD .shr)) := dop_int (fun _ _ => rfl) ⟨by decide, by decide⟩ (opR_imp op_shr fun x y H Q ⟨i, j, k, e1, e2, e3, q⟩ => by
  obtain ⟨h, rfl⟩ := ifs e3
  exact ⟨i, j, e1, e2, by simpa using h, q⟩)
theorem dop_and : OpR X (binaryOp .BitAnd) (rD X.K (binD .band)) := dop_int (fun _ _ => rfl) ⟨by decide, by decide⟩ (opR_imp op_and fun x y H Q ⟨i, j, k, e1, e2, e3, q⟩ => ⟨i, j, e1, e2, by cases e3; exact q⟩)
theorem dop_or : OpR X (binaryOp .BitOr) (rD X.K (binD .bor)) := dop_int (fun _ _ => rfl) ⟨by decide, by decide⟩ (opR_imp op_or fun x y H Q ⟨i, j, k, e1, e2, e3, q⟩ => ⟨i, j, e1, e2, by cases e3; exact q⟩)
theorem dop_xor : OpR X (binaryOp .BitXor) (rD X.K (binD .bxor)) := dop_int (fun _ _ => rfl) ⟨by decide, by decide⟩ (opR_imp op_xor fun x y H Q ⟨i, j, k, e1, e2, e3, q⟩ => ⟨i, j, e1, e2, by cases e3; exact q⟩)
theorem op_mul_strR : OpR X (binaryOp .Mult) (fun x y H Q => ∃ (z : Str) (k : Int), x = .str z ∧ y = .int k ∧ 2 ≤ k ∧ k ≤ 1000 ∧ 1 ≤ z.length ∧ z.length ≤ 1000 ∧ okS (repS z k) = true ∧ Q (.str (repS z k)) H) := by
  intro pins s σ H x y v u Q I rx ry h
  obtain ⟨z, k, rfl, rfl, h1, h2, h3, h4, h5, q⟩ := h
  obtain ⟨t, rfl⟩ := rx
  obtain ⟨t', rfl⟩ := ry
  have hn : ¬ k < 1 := by omega
  have hz : (k == 1 || z.length == 0) = false := by
    rw [Bool.or_eq_false_iff]
    exact ⟨by rw [beq_eq_false_iff_ne]; omega, by rw [beq_eq_false_iff_ne]; omega⟩
  refine PySem.P.mul_str ?_ (fun _ _ => ?_) (fun _ _ => ?_) ?_
  · rw [decide_eq_false (by omega : ¬ k < -(2 ^ 63 : Int)), decide_eq_false (by omega : ¬ k ≥ 2 ^ 63)]; rfl
  · have hd : (1000 : Int) ≤ (2 ^ 63 - 1) / k := by
      rw [Int.le_ediv_iff_mul_le (by omega)]
      omega
    omega
  · have : z.length * k.toNat ≤ 1000 * 1000 := Nat.mul_le_mul h4 (by omega)
    simp only [Builtin.Str.tooLong, decide_eq_false_iff_not]
    rw [sizeLine_n]
    omega
  · rw [if_neg hn, if_neg (by rw [hz]; simp)]
    simp only [okS, Bool.and_eq_true, decide_eq_true_eq] at h5
    exact ⟨by rw [sizeLine_n]; exact h5.2, .str (repS z k), H, I.tok _, ⟨_, rfl⟩, q⟩
theorem dop_mul : OpR X (binaryOp .Mult) (rD X.K (binD .mul)) := by
  intro pins s σ H x y v u Q I rx ry h
  obtain ⟨F, p, q, z, sf, hx, hy, hg, k⟩ := h
  cases p with
  | int i =>
    cases q with
    | int j =>
      simp only [binD, binI, Option.map_eq_some_iff] at hg
      obtain ⟨n, h1, h2⟩ := hg
      obtain ⟨h, rfl⟩ := ifs h1
      rw [hx.int_inv] at rx; rw [hy.int_inv] at ry
      exact op_mul pins s σ H _ _ v u Q I rx ry ⟨i, j, rfl, rfl, by simpa [CMul, small] using h, k _ H F (.rfl sf) (by rw [← h2]; exact .int _)⟩
    | _ => simp [binD] at hg
  | list xs =>
    cases q with
    | list ys => simp [binD] at hg
    | int j =>
      obtain ⟨⟨_, hj, hf⟩, e⟩ := ifs (by simpa only [binD] using hg)
      obtain ⟨a, vs, rfl, h1, r1⟩ := hx.list_inv sf
      rw [hy.int_inv] at ry
      have hj := of_decide_eq_true hj
      have e1 := r1.len
      subst e
      refine op_repR pins s σ H _ _ v u Q I rx ry ⟨a, j, vs, rfl, rfl, h1, hj.1, hj.2, ?_, fun p hp => ?_⟩
      · rw [sizeLine_n, e1]; simpa [fits] using hf
      · obtain ⟨g, r⟩ := newL sf hp (r1.flat j.toNat)
        exact k _ _ _ g r
    | _ => simp [binD] at hg
  | str a =>
    cases q with
    | str b => simp [binD] at hg
    | int j =>
      obtain ⟨⟨_, hj, hf⟩, e⟩ := ifs (by simpa only [binD] using hg)
      have hj := of_decide_eq_true hj
      rw [hx.str_inv.1] at rx; rw [hy.int_inv] at ry
      exact op_mul_strR pins s σ H _ _ v u Q I rx ry ⟨a, j, rfl, rfl, hj.1, hj.2.1, hj.2.2.1, hj.2.2.2, hf, k _ H F (.rfl sf) (by rw [← e]; exact .str hf)⟩
    | _ => simp [binD] at hg
  | tuple a =>
    cases q with
    | tuple b => simp [binD] at hg
    | _ => simp [binD] at hg
  | _ => simp [binD] at hg
end
end MP

set_option maxHeartbeats 1000000
namespace MP
open PySem PySem.Spec PyProof.Rows L2
mutual
theorem okD_lay : ∀ d : D, okD d = true → d.canLay0 = true
  | .none, _ => by simp [PyData.canLay0]
  | .bool _, _ => by simp [PyData.canLay0]
  | .int _, _ => by simp [PyData.canLay0]
  | .str s, h => by
    simp only [okD, okS, Bool.and_eq_true] at h
    simp only [PyData.canLay0, PyData.strOk]
    exact h.1
  | .list xs, h => by simp only [okD] at h; simp only [PyData.canLay0]; exact okDs_lay xs h
  | .tuple xs, h => by simp only [okD] at h; simp only [PyData.canLay0]; exact okDs_lay xs h
  | .dict _, h => by simp [okD] at h
theorem okDs_lay : ∀ ds : List D, okDs ds = true → PyData.canLayAll0 ds = true
  | [], _ => by simp [PyData.canLayAll0]
  | d :: ds, h => by
    simp only [okDs, Bool.and_eq_true] at h
    simp only [PyData.canLayAll0, okD_lay d h.1, okDs_lay ds h.2, Bool.and_self]
end
section
variable {X : Cx} {pins : List (Addr × Obj)} {σ : L2.St} {H F : Hp} {s : Shared}
theorem RpV.reads (I : Inv X pins σ H s) {v : V} {u : Value} {d : D} (sf : Sub F H) (r : RpV X.K F H v d) (ru : RelV v u) : ∃ as, Reads s.heap u d as := Dp.reads I d v u (dq_dp d v (r.dp sf)) ru
theorem RpV.lay {K : Kf} {v : V} {d : D} (r : RpV K F H v d) : d.canLay0 = true := okD_lay d r.ok
def rB (K : Kf) (g : D → D → Option Bool) : R2 := fun x y H Q => ∃ F p q z, Sub F H ∧ RpV K F H x p ∧ RpV K F H y q ∧ g p q = some z ∧ Q (.bl z) H
theorem dop_eq (hu : X.A.units + 64 < cLine) : OpR X (compareOp .Eq) (rB X.K (cmpD .eq)) := by
  intro pins s σ H x y v u Q I rx ry h
  obtain ⟨F, p, q, z, sf, hx, hy, hg, k⟩ := h
  obtain ⟨hd, rfl⟩ := ifs (by simpa only [cmpD] using hg)
  obtain ⟨as, r1⟩ := hx.reads I sf rx
  obtain ⟨bs, r2⟩ := hy.reads I sf ry
  have hd := of_decide_eq_true hd
  exact SeqAt.compareEq_reads r1 r2 hx.lay hy.lay (by simp only [dep] at hd; omega) ⟨.bl _, H, I, rfl, k⟩
theorem dop_ne (hu : X.A.units + 64 < cLine) : OpR X (compareOp .NotEq) (rB X.K (cmpD .ne)) := by
  intro pins s σ H x y v u Q I rx ry h
  obtain ⟨F, p, q, z, sf, hx, hy, hg, k⟩ := h
  obtain ⟨hd, rfl⟩ := ifs (by simpa only [cmpD] using hg)
  obtain ⟨as, r1⟩ := hx.reads I sf rx
  obtain ⟨bs, r2⟩ := hy.reads I sf ry
  have hd := of_decide_eq_true hd
  exact SeqAt.compareNe_reads r1 r2 hx.lay hy.lay (by simp only [dep] at hd; omega) ⟨.bl _, H, I, rfl, k⟩
/-- an order on ints and on texts -/
theorem dop_ord {o : Cm} {f : Value → Value → Sem Value} {gi : Int → Int → Bool} {gs : Str → Str → Bool}
    (h0 : ∀ a b, cmpD o a b = (match a, b with
      | .int i, .int j => some (gi i j)
      | .str s, .str t => some (gs s t)
      | _, _ => none))
    (hi : OpR X f (rI0 fun i j => .bl (gi i j))) (hs : OpR X f (fun x y H Q => ∃ i j, x = .str i ∧ y = .str j ∧ Q (.bl (gs i j)) H)) : OpR X f (rB X.K (cmpD o)) := by
  intro pins s σ H x y v u Q I rx ry h
  obtain ⟨F, p, q, z, sf, hx, hy, hg, k⟩ := h
  rw [h0] at hg
  cases p with
  | int i =>
    cases q with
    | int j =>
      rw [hx.int_inv] at rx; rw [hy.int_inv] at ry
      exact hi pins s σ H _ _ v u Q I rx ry ⟨i, j, rfl, rfl, by cases hg; exact k⟩
    | _ => simp at hg
  | str i =>
    cases q with
    | str j =>
      rw [hx.str_inv.1] at rx; rw [hy.str_inv.1] at ry
      exact hs pins s σ H _ _ v u Q I rx ry ⟨i, j, rfl, rfl, by cases hg; exact k⟩
    | _ => simp at hg
  | _ => simp at hg
theorem dop_lt : OpR X (compareOp .Lt) (rB X.K (cmpD .lt)) := dop_ord (gs := ltS) (fun a b => by cases a <;> cases b <;> rfl) op_lt op_lt_str
theorem dop_le : OpR X (compareOp .LtE) (rB X.K (cmpD .le)) := dop_ord (gs := fun s t => !ltS t s) (fun a b => by cases a <;> cases b <;> rfl) op_le op_le_str
theorem dop_gt : OpR X (compareOp .Gt) (rB X.K (cmpD .gt)) := dop_ord (gs := fun s t => ltS t s) (fun a b => by cases a <;> cases b <;> rfl) op_gt op_gt_str
theorem dop_ge : OpR X (compareOp .GtE) (rB X.K (cmpD .ge)) := dop_ord (gs := fun s t => !ltS s t) (fun a b => by cases a <;> cases b <;> rfl) op_ge op_ge_str
theorem dop_in (hu : X.A.units + 64 < cLine) : OpR X (compareOp .In) (rB X.K (cmpD .isin)) := by
  intro pins s σ H x y v u Q I rx ry h
  obtain ⟨F, p, q, z, sf, hx, hy, hg, k⟩ := h
  obtain ⟨as, r1⟩ := hx.reads I sf rx
  obtain ⟨bs, r2⟩ := hy.reads I sf ry
  cases q with
  | list ys =>
    obtain ⟨hd, rfl⟩ := ifs (by simpa only [cmpD] using hg)
    have hd := of_decide_eq_true hd
    have hl := hy.lay
    simp only [PyData.canLay0] at hl
    exact SeqAt.in_list_reads r2 r1 hl hx.lay (by simp only [dep] at hd; omega) ⟨.bl _, H, I, rfl, k⟩
  | tuple ys =>
    obtain ⟨hd, rfl⟩ := ifs (by simpa only [cmpD] using hg)
    have hd := of_decide_eq_true hd
    have hl := hy.lay
    simp only [PyData.canLay0] at hl
    exact SeqAt.in_tuple_reads r2 r1 hl hx.lay (by simp only [dep] at hd; omega) ⟨.bl _, H, I, rfl, k⟩
  | str t =>
    cases p with
    | str i =>
      rw [hx.str_inv.1] at rx; rw [hy.str_inv.1] at ry
      exact op_in_str pins s σ H _ _ v u Q I rx ry ⟨i, t, rfl, rfl, by simp only [cmpD, Option.some.injEq] at hg; subst hg; exact k⟩
    | _ => simp [cmpD] at hg
  | _ => simp [cmpD] at hg
theorem dop_notin (hu : X.A.units + 64 < cLine) : OpR X (compareOp .NotIn) (rB X.K (cmpD .notin)) := by
  intro pins s σ H x y v u Q I rx ry h
  obtain ⟨F, p, q, z, sf, hx, hy, hg, k⟩ := h
  obtain ⟨as, r1⟩ := hx.reads I sf rx
  obtain ⟨bs, r2⟩ := hy.reads I sf ry
  cases q with
  | list ys =>
    obtain ⟨hd, rfl⟩ := ifs (by simpa only [cmpD] using hg)
    have hd := of_decide_eq_true hd
    have hl := hy.lay
    simp only [PyData.canLay0] at hl
    exact SeqAt.notIn_list_reads r2 r1 hl hx.lay (by simp only [dep] at hd; omega) ⟨.bl _, H, I, rfl, k⟩
  | tuple ys =>
    obtain ⟨hd, rfl⟩ := ifs (by simpa only [cmpD] using hg)
    have hd := of_decide_eq_true hd
    have hl := hy.lay
    simp only [PyData.canLay0] at hl
    exact SeqAt.notIn_tuple_reads r2 r1 hl hx.lay (by simp only [dep] at hd; omega) ⟨.bl _, H, I, rfl, k⟩
  | str t =>
    cases p with
    | str i =>
      rw [hx.str_inv.1] at rx; rw [hy.str_inv.1] at ry
      exact L2.op_notin_str pins s σ H _ _ v u Q I rx ry ⟨i, t, rfl, rfl, by simp only [cmpD, Option.some.injEq] at hg; subst hg; exact k⟩
    | _ => simp [cmpD] at hg
  | _ => simp [cmpD] at hg
def opOf : Cm → CmpOp
  | .eq => .Eq | .ne => .NotEq | .lt => .Lt | .le => .LtE | .gt => .Gt | .ge => .GtE | .isin => .In | .notin => .NotIn
def binOf : Op → Operator
  | .add => .Add | .sub => .Sub | .mul => .Mult | .fdiv => .FloorDiv | .mod => .Mod | .pow => .Pow | .shl => .LShift | .shr => .RShift | .band => .BitAnd | .bor => .BitOr | .bxor => .BitXor
theorem dop_cmp (o : Cm) (hu : X.A.units + 64 < cLine) : OpR X (compareOp (opOf o)) (rB X.K (cmpD o)) := by
  cases o
  · exact dop_eq hu
  · exact dop_ne hu
  · exact dop_lt
  · exact dop_le
  · exact dop_gt
  · exact dop_ge
  · exact dop_in hu
  · exact dop_notin hu
theorem dop_bin (o : Op) : OpR X (binaryOp (binOf o)) (rD X.K (binD o)) := by
  cases o
  · exact dop_add
  · exact dop_sub
  · exact dop_mul
  · exact dop_fdiv
  · exact dop_mod
  · exact dop_pow
  · exact dop_shl
  · exact dop_shr
  · exact dop_and
  · exact dop_or
  · exact dop_xor
end
end MP

set_option maxHeartbeats 1000000
/-! Readings of the core's expressions. -/
namespace MP
open PySem PySem.Spec PyProof.Rows L2

def GotK {S α : Type} (r : R S α) (C : α → S → Prop) : Prop := match r with
  | .ok a e => C a e
  | _ => False
theorem gotK_bind {S α β : Type} {r : R S α} {f : α → S → R S β} {C : β → S → Prop} (h : GotK (r.bind f) C) : GotK r fun a e => GotK (f a e) C := by
  cases r with
  | ok a s => exact h
  | exc c ds s => exact h
  | err => exact h
theorem gotK_mono {S α : Type} {r : R S α} {C C' : α → S → Prop} (h : GotK r C) (i : ∀ a e, C a e → C' a e) : GotK r C' := by
  cases r with
  | ok a s => exact i _ _ h
  | exc c ds s => exact h
  | err => exact h
theorem gotK_opt {S α : Type} {o : Option α} {s : S} {C : α → S → Prop} (h : GotK (R.opt o s) C) : ∃ a, o = some a ∧ C a s := by
  cases o with
  | none => exact h.elim
  | some a => exact ⟨a, rfl, h⟩
theorem gotK_ok {S α : Type} {a : α} {s : S} {C : α → S → Prop} (h : GotK (R.ok a s) C) : C a s := h

/-- nothing but growth -/
structure Qu (H : Hp) (env : Env) (as : AEnv) (H' : Hp) (env' : Env) (as' : AEnv) : Prop where
  sh : Sub H H'
  en : env' = env
  an : as' = as
theorem Qu.rfl {H : Hp} {env : Env} {as : AEnv} : Qu H env as H env as := ⟨.rfl, Eq.refl _, Eq.refl _⟩
theorem Qu.trans {H H1 H2 : Hp} {env env1 env2 : Env} {as as1 as2 : AEnv} (a : Qu H env as H1 env1 as1) (b : Qu H1 env1 as1 H2 env2 as2) : Qu H env as H2 env2 as2 := ⟨a.sh.trans b.sh, b.en.trans a.en, b.an.trans a.an⟩
theorem Qu.gr {H H1 H2 F1 F2 : Hp} {env env1 : Env} {as as1 : AEnv} (a : Qu H env as H1 env1 as1) (g : Gr F1 H1 F2 H2) : Qu H env as H2 env1 as1 := ⟨a.sh.trans g.kp, a.en, a.an⟩
structure Aft (K : Kf) (σ : L2.St) (H F : Hp) (env : Env) (as : AEnv) (vw qu : Bool) (x : D) (env' : Env) (v : V) (H' F' : Hp) (as' : AEnv) : Prop where
  rel : Rel K F' H' σ env' as'
  post : Post H F as H' F' as'
  qu : qu = true → Qu H env as H' env' as'
  rp : if vw = true then RpV K F' H' v x else Rp K F' v x
def RdE (K : Kf) (vw qu : Bool) (ev : Env → R Env D) : TE := fun σ H Q => ∃ F env as, Rel K F H σ env as ∧ GotK (ev env) fun x env' => ∀ v H' F' as', Aft K σ H F env as vw qu x env' v H' F' as' → Q v H'
theorem Aft.rv {K : Kf} {σ : L2.St} {H F : Hp} {as : AEnv} {vw qu : Bool} {x : D} {env' : Env} {v : V} {H' F' : Hp} {as' : AEnv} (a : Aft K σ H F env as vw qu x env' v H' F' as') : RpV K F' H' v x := by
  have := a.rp
  split at this
  · exact this
  · exact this.v
theorem Aft.rp0 {K : Kf} {σ : L2.St} {H F : Hp} {as : AEnv} {qu : Bool} {x : D} {env' : Env} {v : V} {H' F' : Hp} {as' : AEnv} (a : Aft K σ H F env as false qu x env' v H' F' as') : Rp K F' v x := by
  have := a.rp
  simpa using this
/-- an answer without a change of what is owned: growth -/
theorem Aft.gr {K : Kf} {σ : L2.St} {H F H' F' : Hp} {env : Env} {as : AEnv} {vw qu : Bool} {x : D} {v : V} (r : Rel K F H σ env as) (g : Gr F H F' H') (rp : Rp K F' v x) : Aft K σ H F env as vw qu x env v H' F' as :=
  ⟨r.gr g, g.post, fun _ => Qu.rfl.gr g, by split; exact rp.v; exact rp⟩
theorem Aft.trans {K : Kf} {σ : L2.St} {H F H1 F1 H2 F2 : Hp} {env1 env2 : Env} {as as1 as2 : AEnv} {va qa vb qb : Bool} {x y : D} {v w : V} (a : Aft K σ H F env as va qa x env1 v H1 F1 as1) (b : Aft K σ H1 F1 env1 as1 vb qb y env2 w H2 F2 as2) {q : Bool} (h : q = true → qa = true ∧ qb = true) : Aft K σ H F env as vb q y env2 w H2 F2 as2 :=
  ⟨b.rel, a.post.trans b.post, fun z => (a.qu (h z).1).trans (b.qu (h z).2), b.rp⟩

theorem pe_imp {X : Cx} {e : Expr} {t t' : TE} (h : PE X e t) (i : ∀ σ H Q, t' σ H Q → t σ H Q) : PE X e t' := ⟨fun pins s σ H Q I q => h.run pins s σ H Q I (i σ H Q q)⟩
theorem pt_imp {X : Cx} {e : Expr} {t t' : TT} (h : PT X e t) (i : ∀ σ H Q, t' σ H Q → t σ H Q) : PT X e t' := ⟨fun pins s σ H Q I q => h.run pins s σ H Q I (i σ H Q q)⟩

section
variable {X : Cx} {a b c : Expr} {pos : Pos} {eva evb evc : Env → R Env D} {va vb vc qa qb qc : Bool}
/-- two expressions, then what is done with both values -/
theorem two {K : Kf} {σ : L2.St} {H : Hp} {g : D → D → Env → R Env D} {vw qu : Bool} {Q : VK} (hv : va = true → qb = true)
    (h : RdE K vw qu (fun env => (eva env).bind fun x env => (evb env).bind fun y env => g x y env) σ H Q) :
    RdE K va qa eva σ H fun x H1 => RdE K vb qb evb σ H1 fun y H2 => ∃ F env as F2 env2 as2 p q, Sub F2 H2 ∧ Rel K F H σ env as ∧ Rel K F2 H2 σ env2 as2 ∧ Post H F as H2 F2 as2 ∧ ((qa && qb) = true → Qu H env as H2 env2 as2) ∧ RpV K F2 H2 x p ∧ RpV K F2 H2 y q ∧
      GotK (g p q env2) fun z env' => ∀ v H' F' as', Aft K σ H F env as vw qu z env' v H' F' as' → Q v H' := by
  obtain ⟨F, env, as, rel, got⟩ := h
  refine ⟨F, env, as, rel, gotK_mono (gotK_bind got) fun p env1 g1 v1 H1 F1 as1 A1 => ?_⟩
  refine ⟨F1, env1, as1, A1.rel, gotK_mono (gotK_bind g1) fun q env2 g2 v2 H2 F2 as2 A2 => ?_⟩
  refine ⟨F, env, as, F2, env2, as2, p, q, A2.rel.sub, rel, A2.rel, A1.post.trans A2.post, fun z => ?_, ?_, A2.rv, g2⟩
  · have z := Bool.and_eq_true_iff.mp z
    exact (A1.qu z.1).trans (A2.qu z.2)
  · have r1 := A1.rp
    split at r1
    · exact r1.mono A2.post.sf (A2.qu (hv (by assumption))).sh
    · exact (r1.mono A2.post.sf).v
theorem Post.gr2 {H F H1 F1 H2 F2 : Hp} {as as1 : AEnv} (p : Post H F as H1 F1 as1) (g : Gr F1 H1 F2 H2) : Post H F as H2 F2 as1 := p.trans g.post
theorem me_var {K : Kf} {i : Nat} {x : Str} (hK : X.K = K) (hN : X.N[i]? = some x) (hv : Vis X.env.scope x) (hd : (x == ("__debug__" : Str)) = false) (hcd : (x == ("__classdict__" : Str)) = false) :
    PE X (.Name x pos) (RdE K false true fun env => .opt (env.val i) env) := by
  refine pe_imp (pe_var hN hv hd hcd) fun σ H Q h => ?_
  obtain ⟨F, env, as, rel, got⟩ := h
  obtain ⟨x, e, k⟩ := gotK_opt got
  obtain ⟨v, e1, r⟩ := rel.val e
  exact ⟨v, e1, k v H F as (.gr rel (.rfl rel.sub) r)⟩
theorem me_con {K : Kf} {e : Expr} {v : V} {x : D} (he : PE X e (tC v)) (hr : ∀ F, Rp K F v x) : PE X e (RdE K false true fun env => .ok x env) := by
  refine pe_imp he fun σ H Q h => ?_
  obtain ⟨F, env, as, rel, got⟩ := h
  exact got v H F as (.gr rel (.rfl rel.sub) (hr F))
theorem me_bin {o : Op} {o' : Operator} (ho : binOf o = o') (hv : va = true → qb = true) (ha : PE X a (RdE X.K va qa eva)) (hb : PE X b (RdE X.K vb qb evb)) :
    PE X (.BinOp a o' b pos) (RdE X.K false (qa && qb) fun env => (eva env).bind fun x env => (evb env).bind fun y env => .opt (binD o x y) env) := by
  subst ho
  refine pe_imp (pe_op (dop_bin o) ha hb) fun σ H Q h => ?_
  refine (?_ : tOp _ _ _ σ H Q)
  obtain ⟨F, env, as, rel, got⟩ := two (va := va) (vb := vb) (qa := qa) (qb := qb) hv h
  refine ⟨F, env, as, rel, gotK_mono got fun p env1 g1 v1 H1 F1 as1 A1 => ?_⟩
  obtain ⟨F, env, as, rel, got⟩ := g1 v1 H1 F1 as1 A1
  refine ⟨F, env, as, rel, gotK_mono got fun p env2 g2 v2 H2 F2 as2 A2 => ?_⟩
  obtain ⟨F, env, as, F3, env3, as3, p, q, sb, rel, rel3, post, hq, r1, r2, got⟩ := g2 v2 H2 F2 as2 A2
  obtain ⟨z, e, k⟩ := gotK_opt got
  exact ⟨F3, p, q, z, sb, r1, r2, e, fun v H' F' g r => k v H' F' as3 ⟨rel3.gr g, post.gr2 g, fun z => (hq z).gr g, r⟩⟩
/-- comparisons -/
theorem me_cmp {o : Cm} {o' : CmpOp} (ho : opOf o = o') (hu : X.A.units + 64 < cLine) (hm : behindInMarks o' b = false) (hv : va = true → qb = true) (ha : PE X a (RdE X.K va qa eva)) (hb : PE X b (RdE X.K vb qb evb)) :
    PE X (.Compare a [o'] [b] pos) (RdE X.K false (qa && qb) fun env => (eva env).bind fun x env => (evb env).bind fun y env => .opt ((cmpD o x y).map .bool) env) := by
  subst ho
  refine pe_imp (pe_cmpR (dop_cmp o hu) ha hb hm) fun σ H Q h => ?_
  obtain ⟨F, env, as, rel, got⟩ := two (va := va) (vb := vb) (qa := qa) (qb := qb) hv h
  refine ⟨F, env, as, rel, gotK_mono got fun p env1 g1 v1 H1 F1 as1 A1 => ?_⟩
  obtain ⟨F, env, as, rel, got⟩ := g1 v1 H1 F1 as1 A1
  refine ⟨F, env, as, rel, gotK_mono got fun p env2 g2 v2 H2 F2 as2 A2 => ?_⟩
  obtain ⟨F, env, as, F3, env3, as3, p, q, sb, rel, rel3, post, hq, r1, r2, got⟩ := g2 v2 H2 F2 as2 A2
  obtain ⟨z, e, k⟩ := gotK_opt got
  obtain ⟨z', e', rfl⟩ := Option.map_eq_some_iff.mp e
  exact ⟨F3, p, q, z', sb, r1, r2, e', k _ H2 F3 as3 ⟨rel3, post, hq, .bl _⟩⟩
end
end MP

set_option maxHeartbeats 1000000
namespace MP
open PySem PySem.Spec PyProof.Rows L2

/-! ### tests -/
structure AftT (K : Kf) (σ : L2.St) (H F : Hp) (env : Env) (as : AEnv) (qu : Bool) (env' : Env) (H' F' : Hp) (as' : AEnv) : Prop where
  rel : Rel K F' H' σ env' as'
  post : Post H F as H' F' as'
  qu : qu = true → Qu H env as H' env' as'
def RdT (K : Kf) (qu : Bool) (ev : Env → R Env D) : TT := fun σ H Q => ∃ F env as, Rel K F H σ env as ∧ GotK (test (ev env)) fun b env' => ∀ H' F' as', AftT K σ H F env as qu env' H' F' as' → Q b H'
theorem Aft.t {K : Kf} {σ : L2.St} {H F : Hp} {as : AEnv} {vw qu : Bool} {x : D} {env' : Env} {v : V} {H' F' : Hp} {as' : AEnv} (a : Aft K σ H F env as vw qu x env' v H' F' as') : AftT K σ H F env as qu env' H' F' as' := ⟨a.rel, a.post, a.qu⟩
theorem gotK_test {r : R Env D} {C : Bool → Env → Prop} (h : GotK (test r) C) : GotK r fun x e => ∃ b, truth x = some b ∧ C b e := by
  have := gotK_bind h
  exact gotK_mono this fun a e g => by
    obtain ⟨b, e1, c⟩ := gotK_opt g
    exact ⟨b, e1, c⟩
theorem truV {K : Kf} {F H : Hp} {v : V} {d : D} {k : Bool} (sf : Sub F H) (r : RpV K F H v d) (h : truth d = some k) : TruV K v H k := by
  cases d with
  | none => rw [r.none_inv]; simpa [TruV, truth] using h.symm
  | bool b => rw [r.bool_inv]; simpa [TruV, truth] using h.symm
  | int i => rw [r.int_inv]; simpa [TruV, truth] using h.symm
  | str s =>
    obtain ⟨e, o⟩ := r.str_inv
    rw [e]
    simp only [okS, Bool.and_eq_true, decide_eq_true_eq] at o
    refine ⟨by rw [sizeLine_n]; exact o.2, ?_⟩
    have h : (s.length != 0) = k := by simpa [truth] using h
    rw [← h]
    cases hz : s.length with
    | zero => rfl
    | succ n => simp; omega
  | list xs =>
    obtain ⟨a, vs, rfl, h1, r1⟩ := r.list_inv sf
    refine .inl ⟨vs, h1, ?_⟩
    have h : (!xs.isEmpty) = k := by simpa [truth] using h
    rw [← h]
    cases xs with
    | nil => rw [r1.nil_inv]; rfl
    | cons x r2 => obtain ⟨v, ws, rfl, _⟩ := r1.cons_inv; rfl
  | tuple xs =>
    obtain ⟨a, vs, rfl, h1, r1, _⟩ := r.tup_inv sf
    refine .inr (.inl ⟨vs, h1, ?_⟩)
    have h : (!xs.isEmpty) = k := by simpa [truth] using h
    rw [← h]
    cases xs with
    | nil => rw [r1.nil_inv]; rfl
    | cons x r2 => obtain ⟨v, ws, rfl, _⟩ := r1.cons_inv; rfl
  | dict x => exact (r.dict_inv).elim
section
variable {X : Cx} {a b c : Expr} {pos : Pos} {eva evb evc : Env → R Env D} {va vb vc qa qb qc : Bool}
/-- an expression whose test is its value's truth -/
theorem mt_val (ha : PE X a (RdE X.K va qa eva)) (he : ∀ whole, isTrue a X.env whole = (do let v ← whole; standAt a.pos; holding [v] (truthy v))) : PT X a (RdT X.K qa eva) := by
  refine pt_imp (pt_truth ha he) fun σ H Q h => ?_
  obtain ⟨F, env, as, rel, got⟩ := h
  refine ⟨F, env, as, rel, gotK_mono (gotK_test got) fun x env1 ⟨k, e, g⟩ v H1 F1 as1 A1 => ⟨k, truV A1.rel.sub A1.rv e, g H1 F1 as1 A1.t⟩⟩
theorem mt_cmp {o : Cm} {o' : CmpOp} (ho : opOf o = o') (hu : X.A.units + 64 < cLine) (hm : behindInMarks o' b = false) (hv : va = true → qb = true) (ha : PE X a (RdE X.K va qa eva)) (hb : PE X b (RdE X.K vb qb evb)) :
    PT X (.Compare a [o'] [b] pos) (RdT X.K (qa && qb) fun env => (eva env).bind fun x env => (evb env).bind fun y env => .opt ((cmpD o x y).map .bool) env) := by
  subst ho
  refine pt_imp (pt_cmpR (dop_cmp o hu) ha hb hm) fun σ H Q h => ?_
  obtain ⟨F, env, as, rel, got⟩ := h
  have got := gotK_test got
  refine ⟨F, env, as, rel, gotK_mono (gotK_bind got) fun p env1 g1 v1 H1 F1 as1 A1 => ⟨F1, env1, as1, A1.rel, gotK_mono (gotK_bind g1) fun q env2 g2 v2 H2 F2 as2 A2 => ?_⟩⟩
  obtain ⟨z, e, k, e2, g⟩ := gotK_opt g2
  obtain ⟨z', e', rfl⟩ := Option.map_eq_some_iff.mp e
  have hk : z' = k := by simpa [truth] using e2
  subst hk
  refine ⟨F2, p, q, z', A2.rel.sub, ?_, A2.rv, e', z', rfl, g H2 F2 as2 ⟨A2.rel, A1.post.trans A2.post, fun z => ?_⟩⟩
  · have r1 := A1.rp
    split at r1
    · exact r1.mono A2.post.sf (A2.qu (hv (by assumption))).sh
    · exact (r1.mono A2.post.sf).v
  · have z := Bool.and_eq_true_iff.mp z
    exact (A1.qu z.1).trans (A2.qu z.2)
/-- a op b op' c -/
theorem chainR {o o' : Cm} (hq : (qa && qb && qc) = true ∨ (va = false ∧ vb = false)) {σ : L2.St} {H : Hp} {Q : VK}
    (h : ∃ F env as, Rel X.K F H σ env as ∧ GotK (eva env) fun x env1 => GotK (evb env1) fun y env2 => match cmpD o x y with
      | some true => GotK (evc env2) fun z env3 => ∃ w, cmpD o' y z = some w ∧ ∀ H' F' as', AftT X.K σ H F env as (qa && qb && qc) env3 H' F' as' → Q (.bl w) H'
      | some false => ∀ H' F' as', AftT X.K σ H F env as (qa && qb && qc) env2 H' F' as' → Q (.bl false) H'
      | none => False) : tChain (rB X.K (cmpD o)) (rB X.K (cmpD o')) (RdE X.K va qa eva) (RdE X.K vb qb evb) (RdE X.K vc qc evc) σ H Q := by
  obtain ⟨F, env, as, rel, got⟩ := h
  refine ⟨F, env, as, rel, gotK_mono got fun p env1 g1 v1 H1 F1 as1 A1 => ⟨F1, env1, as1, A1.rel, gotK_mono g1 fun q env2 g2 v2 H2 F2 as2 A2 => ?_⟩⟩
  have r1 : RpV X.K F2 H2 v1 p := by
    have r1 := A1.rp
    split at r1
    · rcases hq with hq | hq
      · simp only [Bool.and_eq_true] at hq
        exact r1.mono A2.post.sf (A2.qu hq.1.2).sh
      · rename_i z; rw [hq.1] at z; cases z
    · exact (r1.mono A2.post.sf).v
  cases hc : cmpD o p q with
  | none => rw [hc] at g2; exact g2.elim
  | some z =>
    rw [hc] at g2
    refine ⟨F2, p, q, z, A2.rel.sub, r1, A2.rv, hc, z, rfl, ?_⟩
    cases z with
    | false =>
      rw [if_neg (by decide)]
      refine g2 H2 F2 as2 ⟨A2.rel, A1.post.trans A2.post, fun z => ?_⟩
      simp only [Bool.and_eq_true] at z
      exact (A1.qu z.1.1).trans (A2.qu z.1.2)
    | true =>
      rw [if_pos rfl]
      refine ⟨F2, env2, as2, A2.rel, gotK_mono g2 fun w env3 g3 v3 H3 F3 as3 A3 => ?_⟩
      obtain ⟨z', e', g⟩ := g3
      refine ⟨F3, q, w, z', A3.rel.sub, ?_, A3.rv, e', g H3 F3 as3 ⟨A3.rel, (A1.post.trans A2.post).trans A3.post, fun z => ?_⟩⟩
      · have r2 := A2.rp
        split at r2
        · rcases hq with hq | hq
          · simp only [Bool.and_eq_true] at hq
            exact r2.mono A3.post.sf (A3.qu hq.2).sh
          · rename_i z; rw [hq.2] at z; cases z
        · exact (r2.mono A3.post.sf).v
      · simp only [Bool.and_eq_true] at z
        exact ((A1.qu z.1.1).trans (A2.qu z.1.2)).trans (A3.qu z.2)
abbrev evChain (o o' : Cm) (eva evb evc : Env → R Env D) : Env → R Env D := fun env => (eva env).bind fun x env => (evb env).bind fun y env => match cmpD o x y with
      | some true => (evc env).bind fun z env => .opt ((cmpD o' y z).map .bool) env
      | some false => .ok (.bool false) env
      | none => .err
theorem me_cmp2 {o o' : Cm} (hu : X.A.units + 64 < cLine) (hm : lastMarks [opOf o, opOf o'] [b, c] = false) (hq : (qa && qb && qc) = true ∨ (va = false ∧ vb = false)) (ha : PE X a (RdE X.K va qa eva)) (hb : PE X b (RdE X.K vb qb evb)) (hc : PE X c (RdE X.K vc qc evc)) :
    PE X (.Compare a [opOf o, opOf o'] [b, c] pos) (RdE X.K false (qa && qb && qc) (evChain o o' eva evb evc)) := by
  refine pe_imp (pe_chain (dop_cmp o hu) (dop_cmp o' hu) ha hb hc hm) fun σ H Q h => chainR hq ?_
  obtain ⟨F, env, as, rel, got⟩ := h
  refine ⟨F, env, as, rel, gotK_mono (gotK_bind got) fun x env1 g1 => gotK_mono (gotK_bind g1) fun y env2 g2 => ?_⟩
  cases hc : cmpD o x y with
  | none => rw [hc] at g2; exact g2
  | some z =>
    rw [hc] at g2
    cases z with
    | false => exact fun H' F' as' A => g2 _ H' F' as' ⟨A.rel, A.post, A.qu, .bl _⟩
    | true =>
      refine gotK_mono (gotK_bind g2) fun z env3 g3 => ?_
      obtain ⟨z, e, g⟩ := gotK_opt g3
      obtain ⟨z', e', rfl⟩ := Option.map_eq_some_iff.mp e
      exact ⟨z', e', fun H' F' as' A => g _ H' F' as' ⟨A.rel, A.post, A.qu, .bl _⟩⟩
theorem mt_cmp2 {o o' : Cm} (hu : X.A.units + 64 < cLine) (hm : lastMarks [opOf o, opOf o'] [b, c] = false) (hq : (qa && qb && qc) = true ∨ (va = false ∧ vb = false)) (ha : PE X a (RdE X.K va qa eva)) (hb : PE X b (RdE X.K vb qb evb)) (hc : PE X c (RdE X.K vc qc evc)) :
    PT X (.Compare a [opOf o, opOf o'] [b, c] pos) (RdT X.K (qa && qb && qc) (evChain o o' eva evb evc)) := by
  refine pt_imp (pt_chain (dop_cmp o hu) (dop_cmp o' hu) ha hb hc hm) fun σ H Q h => ?_
  refine (?_ : tChain _ _ _ _ _ σ H fun x H' => ∃ k, x = .bl k ∧ Q k H')
  refine chainR hq ?_
  obtain ⟨F, env, as, rel, got⟩ := h
  have got := gotK_test got
  refine ⟨F, env, as, rel, gotK_mono (gotK_bind got) fun x env1 g1 => gotK_mono (gotK_bind g1) fun y env2 g2 => ?_⟩
  cases hc : cmpD o x y with
  | none => rw [hc] at g2; exact g2
  | some z =>
    rw [hc] at g2
    cases z with
    | false =>
      obtain ⟨k, e, g⟩ := gotK_ok g2
      have hk : false = k := by simpa [truth] using e
      subst hk
      exact fun H' F' as' A => ⟨_, rfl, g H' F' as' A⟩
    | true =>
      refine gotK_mono (gotK_bind g2) fun z env3 g3 => ?_
      obtain ⟨z, e, k, e2, g⟩ := gotK_opt g3
      obtain ⟨z', e', rfl⟩ := Option.map_eq_some_iff.mp e
      have hk : z' = k := by simpa [truth] using e2
      subst hk
      exact ⟨z', e', fun H' F' as' A => ⟨_, rfl, g H' F' as' A⟩⟩

/-! ### and, or, not, a if t else b -/
abbrev evAnd (eva evb : Env → R Env D) : Env → R Env D := fun env => (eva env).bind fun x env => match truth x with
    | some true => evb env
    | some false => .ok x env
    | none => .err
abbrev evOr (eva evb : Env → R Env D) : Env → R Env D := fun env => (eva env).bind fun x env => match truth x with
    | some true => .ok x env
    | some false => evb env
    | none => .err
abbrev evNot (eva : Env → R Env D) : Env → R Env D := fun env => (eva env).bind fun x env => .opt ((truth x).map fun b => .bool (!b)) env
abbrev evIfe (evc eva evb : Env → R Env D) : Env → R Env D := fun env => (evc env).bind fun x env => match truth x with
    | some true => eva env
    | some false => evb env
    | none => .err
theorem AftT.trans {K : Kf} {σ : L2.St} {H F H1 F1 H2 F2 : Hp} {env1 env2 : Env} {as as1 as2 : AEnv} (a : AftT K σ H F env as qa env1 H1 F1 as1) (b : AftT K σ H1 F1 env1 as1 qb env2 H2 F2 as2) : AftT K σ H F env as (qa && qb) env2 H2 F2 as2 :=
  ⟨b.rel, a.post.trans b.post, fun z => by
    simp only [Bool.and_eq_true] at z
    exact (a.qu z.1).trans (b.qu z.2)⟩
theorem AftT.weak {K : Kf} {σ : L2.St} {H F H1 F1 : Hp} {env1 : Env} {as as1 : AEnv} (a : AftT K σ H F env as qa env1 H1 F1 as1) : AftT K σ H F env as (qa && qb) env1 H1 F1 as1 :=
  ⟨a.rel, a.post, fun z => by simp only [Bool.and_eq_true] at z; exact a.qu z.1⟩
variable {rest : List Expr}
theorem mt_not (ha : PT X a (RdT X.K qa eva)) : PT X (.UnaryOp .Not a pos) (RdT X.K qa (evNot eva)) := by
  refine pt_imp (pt_not ha) fun σ H Q h => ?_
  obtain ⟨F, env, as, rel, got⟩ := h
  refine ⟨F, env, as, rel, ?_⟩
  have g := gotK_bind (gotK_test got)
  show GotK ((eva env).bind fun x env => .opt (truth x) env) _
  cases he : eva env with
  | ok x env1 =>
    rw [he] at g
    obtain ⟨z, e, k, e2, g⟩ := gotK_opt (gotK_ok g)
    obtain ⟨b, e3, rfl⟩ := Option.map_eq_some_iff.mp e
    have hk : (!b) = k := by simpa [truth] using e2
    subst hk
    show GotK (R.opt (truth x) env1) _
    rw [e3]
    exact fun H' F' as' A => g H' F' as' A
  | exc c ds s => rw [he] at g; exact g
  | err => rw [he] at g; exact g
theorem mw_one {op : BoolOp} (ha : PT X a (RdT X.K qa eva)) : PW X (.BoolOp op [a] pos) (RdT X.K qa eva) := by
  cases op
  · exact pw_and1 ha
  · exact pw_or1 ha
theorem pw_imp {X : Cx} {e : Expr} {t t' : TT} (h : PW X e t) (i : ∀ σ H Q, t' σ H Q → t σ H Q) : PW X e t' := ⟨fun wh pins s σ H Q I q => h.run wh pins s σ H Q I (i σ H Q q)⟩
theorem mw_and (ha : PT X a (RdT X.K qa eva)) (hb : PW X (.BoolOp .And (b :: rest) pos) (RdT X.K qb evb)) : PW X (.BoolOp .And (a :: b :: rest) pos) (RdT X.K (qa && qb) (evAnd eva evb)) := by
  refine pw_imp (pw_and ha hb) fun σ H Q h => ?_
  obtain ⟨F, env, as, rel, got⟩ := h
  refine ⟨F, env, as, rel, ?_⟩
  show GotK ((eva env).bind fun x env => .opt (truth x) env) _
  have g : GotK (((eva env).bind fun x env => match truth x with
    | some true => evb env
    | some false => .ok x env
    | none => .err).bind fun x s => .opt (truth x) s) _ := got
  cases he : eva env with
  | ok x env1 =>
    rw [he] at g
    show GotK (R.opt (truth x) env1) _
    have g : GotK ((match truth x with
      | some true => evb env1
      | some false => R.ok x env1
      | none => .err).bind fun x s => .opt (truth x) s) _ := g
    cases ht : truth x with
    | none => rw [ht] at g; exact g
    | some k =>
      rw [ht] at g
      cases k with
      | true =>
        intro H1 F1 as1 A1
        rw [if_pos rfl]
        exact ⟨F1, env1, as1, A1.rel, gotK_mono g fun b env2 g2 H2 F2 as2 A2 => g2 H2 F2 as2 (A1.trans A2)⟩
      | false =>
        have g : GotK (R.opt (truth x) env1) _ := g
        rw [ht] at g
        intro H1 F1 as1 A1
        rw [if_neg (by decide)]
        exact g H1 F1 as1 A1.weak
  | exc c ds s => rw [he] at g; exact g
  | err => rw [he] at g; exact g
theorem mw_or (ha : PT X a (RdT X.K qa eva)) (hb : PW X (.BoolOp .Or (b :: rest) pos) (RdT X.K qb evb)) : PW X (.BoolOp .Or (a :: b :: rest) pos) (RdT X.K (qa && qb) (evOr eva evb)) := by
  refine pw_imp (pw_or ha hb) fun σ H Q h => ?_
  obtain ⟨F, env, as, rel, got⟩ := h
  refine ⟨F, env, as, rel, ?_⟩
  show GotK ((eva env).bind fun x env => .opt (truth x) env) _
  have g : GotK (((eva env).bind fun x env => match truth x with
    | some true => .ok x env
    | some false => evb env
    | none => .err).bind fun x s => .opt (truth x) s) _ := got
  cases he : eva env with
  | ok x env1 =>
    rw [he] at g
    show GotK (R.opt (truth x) env1) _
    have g : GotK ((match truth x with
      | some true => R.ok x env1
      | some false => evb env1
      | none => .err).bind fun x s => .opt (truth x) s) _ := g
    cases ht : truth x with
    | none => rw [ht] at g; exact g
    | some k =>
      rw [ht] at g
      cases k with
      | false =>
        intro H1 F1 as1 A1
        rw [if_neg (by decide)]
        exact ⟨F1, env1, as1, A1.rel, gotK_mono g fun b env2 g2 H2 F2 as2 A2 => g2 H2 F2 as2 (A1.trans A2)⟩
      | true =>
        have g : GotK (R.opt (truth x) env1) _ := g
        rw [ht] at g
        intro H1 F1 as1 A1
        rw [if_pos rfl]
        exact g H1 F1 as1 A1.weak
  | exc c ds s => rw [he] at g; exact g
  | err => rw [he] at g; exact g
/-- as values -/
theorem me_not (ha : PE X a (RdE X.K va qa eva)) : PE X (.UnaryOp .Not a pos) (RdE X.K false qa (evNot eva)) := by
  refine pe_imp (pe_notT ha) fun σ H Q h => ?_
  obtain ⟨F, env, as, rel, got⟩ := h
  refine ⟨F, env, as, rel, gotK_mono (gotK_bind got) fun x env1 g1 v1 H1 F1 as1 A1 => ?_⟩
  obtain ⟨z, e, g⟩ := gotK_opt g1
  obtain ⟨b, e3, rfl⟩ := Option.map_eq_some_iff.mp e
  exact ⟨b, truV A1.rel.sub A1.rv e3, g _ H1 F1 as1 ⟨A1.rel, A1.post, A1.qu, .bl _⟩⟩
theorem me_one {op : BoolOp} (ha : PE X a (RdE X.K va qa eva)) : PE X (.BoolOp op [a] pos) (RdE X.K va qa eva) := pe_one ha
theorem me_and (hv : va = false ∧ vb = false) (ha : PE X a (RdE X.K va qa eva)) (hb : PE X (.BoolOp .And (b :: rest) pos) (RdE X.K vb qb evb)) : PE X (.BoolOp .And (a :: b :: rest) pos) (RdE X.K false (qa && qb) (evAnd eva evb)) := by
  obtain ⟨rfl, rfl⟩ := hv
  refine pe_imp (pe_andT ha hb) fun σ H Q h => ?_
  obtain ⟨F, env, as, rel, got⟩ := h
  refine ⟨F, env, as, rel, gotK_mono (gotK_bind got) fun x env1 g1 v1 H1 F1 as1 A1 => ?_⟩
  cases ht : truth x with
  | none => rw [ht] at g1; exact g1.elim
  | some k =>
    rw [ht] at g1
    refine ⟨k, truV A1.rel.sub A1.rv ht, ?_⟩
    cases k with
    | true =>
      rw [if_pos rfl]
      exact ⟨F1, env1, as1, A1.rel, gotK_mono g1 fun y env2 g2 v2 H2 F2 as2 A2 => g2 v2 H2 F2 as2 (A1.trans A2 fun z => Bool.and_eq_true_iff.mp z)⟩
    | false =>
      rw [if_neg (by decide)]
      exact g1 v1 H1 F1 as1 ⟨A1.rel, A1.post, fun z => A1.qu (Bool.and_eq_true_iff.mp z).1, A1.rp⟩
theorem me_or (hv : va = false ∧ vb = false) (ha : PE X a (RdE X.K va qa eva)) (hb : PE X (.BoolOp .Or (b :: rest) pos) (RdE X.K vb qb evb)) : PE X (.BoolOp .Or (a :: b :: rest) pos) (RdE X.K false (qa && qb) (evOr eva evb)) := by
  obtain ⟨rfl, rfl⟩ := hv
  refine pe_imp (pe_orT ha hb) fun σ H Q h => ?_
  obtain ⟨F, env, as, rel, got⟩ := h
  refine ⟨F, env, as, rel, gotK_mono (gotK_bind got) fun x env1 g1 v1 H1 F1 as1 A1 => ?_⟩
  cases ht : truth x with
  | none => rw [ht] at g1; exact g1.elim
  | some k =>
    rw [ht] at g1
    refine ⟨k, truV A1.rel.sub A1.rv ht, ?_⟩
    cases k with
    | false =>
      rw [if_neg (by decide)]
      exact ⟨F1, env1, as1, A1.rel, gotK_mono g1 fun y env2 g2 v2 H2 F2 as2 A2 => g2 v2 H2 F2 as2 (A1.trans A2 fun z => Bool.and_eq_true_iff.mp z)⟩
    | true =>
      rw [if_pos rfl]
      exact g1 v1 H1 F1 as1 ⟨A1.rel, A1.post, fun z => A1.qu (Bool.and_eq_true_iff.mp z).1, A1.rp⟩
theorem me_ife (hv : va = false ∧ vb = false) (hc : PT X c (RdT X.K qc evc)) (ha : PE X a (RdE X.K va qa eva)) (hb : PE X b (RdE X.K vb qb evb)) : PE X (.IfExp c a b pos) (RdE X.K false (qc && qa && qb) (evIfe evc eva evb)) := by
  obtain ⟨rfl, rfl⟩ := hv
  refine pe_imp (pe_ifExp hc ha hb) fun σ H Q h => ?_
  obtain ⟨F, env, as, rel, got⟩ := h
  refine ⟨F, env, as, rel, ?_⟩
  show GotK ((evc env).bind fun x env => .opt (truth x) env) _
  have g : GotK ((evc env).bind fun x env => match truth x with
    | some true => eva env
    | some false => evb env
    | none => .err) _ := got
  cases he : evc env with
  | ok x env1 =>
    rw [he] at g
    show GotK (R.opt (truth x) env1) _
    have g : GotK (match truth x with
      | some true => eva env1
      | some false => evb env1
      | none => .err) _ := g
    cases ht : truth x with
    | none => rw [ht] at g; exact g
    | some k =>
      rw [ht] at g
      cases k with
      | true =>
        intro H1 F1 as1 A1
        rw [if_pos rfl]
        exact ⟨F1, env1, as1, A1.rel, gotK_mono g fun b env2 g2 v H2 F2 as2 A2 => g2 v H2 F2 as2 ⟨A2.rel, A1.post.trans A2.post, fun z => by
          simp only [Bool.and_eq_true] at z
          exact (A1.qu z.1.1).trans (A2.qu z.1.2), A2.rp⟩⟩
      | false =>
        intro H1 F1 as1 A1
        rw [if_neg (by decide)]
        exact ⟨F1, env1, as1, A1.rel, gotK_mono g fun b env2 g2 v H2 F2 as2 A2 => g2 v H2 F2 as2 ⟨A2.rel, A1.post.trans A2.post, fun z => by
          simp only [Bool.and_eq_true] at z
          exact (A1.qu z.1.1).trans (A2.qu z.2), A2.rp⟩⟩
  | exc c ds s => rw [he] at g; exact g
  | err => rw [he] at g; exact g
theorem me_neg (ha : PE X a (RdE X.K va qa eva)) : PE X (.UnaryOp .USub a pos) (RdE X.K false qa fun env => (eva env).bind fun x env => .opt ((asI x).map fun i => .int (-i)) env) := by
  refine pe_imp (pe_un un_neg ha) fun σ H Q h => ?_
  obtain ⟨F, env, as, rel, got⟩ := h
  refine ⟨F, env, as, rel, gotK_mono (gotK_bind got) fun x env1 g1 v1 H1 F1 as1 A1 => ?_⟩
  obtain ⟨z, e, g⟩ := gotK_opt g1
  obtain ⟨i, e3, rfl⟩ := Option.map_eq_some_iff.mp e
  have hx : x = .int i := by cases x <;> simp_all [asI]
  subst hx
  exact ⟨i, A1.rv.int_inv, g _ H1 F1 as1 ⟨A1.rel, A1.post, A1.qu, .int _⟩⟩
theorem RpV.isN {K : Kf} {F H : Hp} {v : V} {d : D} (r : RpV K F H v d) : decide (v = .non) = isNone d := by
  rcases r with r | ⟨a, vs, ds', rfl, rfl, h, r⟩
  · have := r.dp
    cases this <;> simp [isNone]
  · simp [isNone]
end
end MP

set_option maxHeartbeats 1000000
namespace MP
open PySem PySem.Spec PyProof.Rows L2
section
variable {X : Cx} {a b c : Expr} {pos : Pos} {eva evb evc : Env → R Env D} {va vb vc qa qb qc : Bool}
/-! ### is None -/
abbrev evIsN (neg : Bool) (eva : Env → R Env D) : Env → R Env D := fun env => (eva env).bind fun x env => .ok (.bool (neg != isNone x)) env
theorem me_isN {j pos'} (ha : PE X a (RdE X.K va qa eva)) : PE X (.Compare a [.Is] [.Constant .none j pos'] pos) (RdE X.K false qa fun env => (eva env).bind fun x env => .ok (.bool (isNone x)) env) := by
  refine pe_imp (pe_cmp (pc_isN ha)) fun σ H Q h => ?_
  obtain ⟨F, env, as, rel, got⟩ := h
  refine ⟨F, env, as, rel, gotK_mono (gotK_bind got) fun x env1 g1 v1 H1 F1 as1 A1 => ?_⟩
  try dsimp only
  rw [A1.rv.isN]
  exact g1 _ H1 F1 as1 ⟨A1.rel, A1.post, A1.qu, .bl _⟩
theorem me_notN {j pos'} (ha : PE X a (RdE X.K va qa eva)) : PE X (.Compare a [.IsNot] [.Constant .none j pos'] pos) (RdE X.K false qa fun env => (eva env).bind fun x env => .ok (.bool (!isNone x)) env) := by
  refine pe_imp (pe_cmp (pc_notN ha)) fun σ H Q h => ?_
  obtain ⟨F, env, as, rel, got⟩ := h
  refine ⟨F, env, as, rel, gotK_mono (gotK_bind got) fun x env1 g1 v1 H1 F1 as1 A1 => ?_⟩
  try dsimp only
  rw [A1.rv.isN]
  exact g1 _ H1 F1 as1 ⟨A1.rel, A1.post, A1.qu, .bl _⟩
theorem mt_isN {j pos'} (ha : PE X a (RdE X.K va qa eva)) : PT X (.Compare a [.Is] [.Constant .none j pos'] pos) (RdT X.K qa fun env => (eva env).bind fun x env => .ok (.bool (isNone x)) env) := by
  refine pt_imp (pt_cmp (pc_isN ha)) fun σ H Q h => ?_
  obtain ⟨F, env, as, rel, got⟩ := h
  refine ⟨F, env, as, rel, gotK_mono (gotK_bind (gotK_test got)) fun x env1 g1 v1 H1 F1 as1 A1 => ?_⟩
  obtain ⟨k, e, g⟩ := gotK_ok g1
  have hk : isNone x = k := by simpa [truth] using e
  subst hk
  try dsimp only
  rw [A1.rv.isN]
  exact ⟨_, rfl, g H1 F1 as1 A1.t⟩
theorem mt_notN {j pos'} (ha : PE X a (RdE X.K va qa eva)) : PT X (.Compare a [.IsNot] [.Constant .none j pos'] pos) (RdT X.K qa fun env => (eva env).bind fun x env => .ok (.bool (!isNone x)) env) := by
  refine pt_imp (pt_cmp (pc_notN ha)) fun σ H Q h => ?_
  obtain ⟨F, env, as, rel, got⟩ := h
  refine ⟨F, env, as, rel, gotK_mono (gotK_bind (gotK_test got)) fun x env1 g1 v1 H1 F1 as1 A1 => ?_⟩
  obtain ⟨k, e, g⟩ := gotK_ok g1
  have hk : (!isNone x) = k := by simpa [truth] using e
  subst hk
  try dsimp only
  rw [A1.rv.isN]
  exact ⟨_, rfl, g H1 F1 as1 A1.t⟩

/-! ### lists of expressions -/
structure AftL (K : Kf) (σ : L2.St) (H F : Hp) (env : Env) (as : AEnv) (qu : Bool) (xs : List D) (env' : Env) (vs : List V) (H' F' : Hp) (as' : AEnv) : Prop where
  rel : Rel K F' H' σ env' as'
  post : Post H F as H' F' as'
  qu : qu = true → Qu H env as H' env' as'
  rp : Rps K F' vs xs
def RdL (K : Kf) (qu : Bool) (ev : Env → R Env (List D)) : TA := fun σ H Q => ∃ F env as, Rel K F H σ env as ∧ GotK (ev env) fun xs env' => ∀ vs H' F' as', AftL K σ H F env as qu xs env' vs H' F' as' → Q vs H'
theorem pa_imp {X : Cx} {e : List Expr} {t t' : TA} (h : PA X e t) (i : ∀ σ H Q, t' σ H Q → t σ H Q) : PA X e t' := ⟨fun pos pins s σ H Q I q => h.run pos pins s σ H Q I (i σ H Q q)⟩
theorem ma_nil : PA X [] (RdL X.K true fun env => .ok [] env) := by
  refine pa_imp pa_nil fun σ H Q h => ?_
  obtain ⟨F, env, as, rel, got⟩ := h
  exact got [] H F as ⟨rel, .rfl, fun _ => .rfl, .nil⟩
def notStar : Expr → Bool
  | .Starred _ _ => false
  | _ => true
theorem star_cons {e : Expr} {es : List Expr} {env : PySem.Env} (h : notStar e = true) : starEach (e :: es) env = (false, eval e env) :: starEach es env := by
  cases e <;> first | rfl | cases h
theorem ma_cons {es : List Expr} {evs : Env → R Env (List D)} {qs : Bool} (hn : notStar a = true) (ha : PE X a (RdE X.K false qa eva)) (hs : PA X es (RdL X.K qs evs)) :
    PA X (a :: es) (RdL X.K (qa && qs) fun env => (eva env).bind fun x env => (evs env).bind fun xs env => .ok (x :: xs) env) := by
  refine pa_imp (pa_cons ha hs (star_cons hn)) fun σ H Q h => ?_
  obtain ⟨F, env, as, rel, got⟩ := h
  refine ⟨F, env, as, rel, gotK_mono (gotK_bind got) fun x env1 g1 v1 H1 F1 as1 A1 => ⟨F1, env1, as1, A1.rel, gotK_mono (gotK_bind g1) fun xs env2 g2 vs H2 F2 as2 A2 => ?_⟩⟩
  exact g2 _ H2 F2 as2 ⟨A2.rel, A1.post.trans A2.post, fun z => by
    simp only [Bool.and_eq_true] at z
    exact (A1.qu z.1).trans (A2.qu z.2), .cons (A1.rp0.mono A2.post.sf) A2.rp⟩
theorem me_tup {es : List Expr} {k : Nat} {evs : Env → R Env (List D)} {qs : Bool} (hs : PA X es (RdL X.K qs evs)) :
    PE X (.Tuple es k pos) (RdE X.K false qs fun env => (evs env).bind fun xs env => if fits xs.length then .ok (.tuple xs) env else .err) := by
  refine pe_imp (pe_tupD hs) fun σ H Q h => ?_
  obtain ⟨F, env, as, rel, got⟩ := h
  refine ⟨F, env, as, rel, gotK_mono (gotK_bind got) fun xs env1 g1 vs H1 F1 as1 A1 => ?_⟩
  split at g1
  · rename_i hf
    refine ⟨by rw [sizeLine_n, A1.rp.len]; simpa [fits] using hf, fun p o hp ho => ?_⟩
    obtain ⟨g, r⟩ := newT A1.rel.sub hp ho A1.rp
    exact g1 _ _ _ as1 ⟨A1.rel.gr g, A1.post.gr2 g, fun z => (A1.qu z).gr g, r⟩
  · exact g1.elim
theorem me_lst {es : List Expr} {evs : Env → R Env (List D)} {qs : Bool} (hs : PA X es (RdL X.K qs evs)) :
    PE X (.List es pos) (RdE X.K false qs fun env => (evs env).bind fun xs env => if fits xs.length then .ok (.list xs) env else .err) := by
  refine pe_imp (pe_lst hs) fun σ H Q h => ?_
  obtain ⟨F, env, as, rel, got⟩ := h
  refine ⟨F, env, as, rel, gotK_mono (gotK_bind got) fun xs env1 g1 vs H1 F1 as1 A1 => ?_⟩
  split at g1
  · rename_i hf
    refine ⟨by rw [sizeLine_n, A1.rp.len]; simpa [fits] using hf, fun p hp => ?_⟩
    obtain ⟨g, r⟩ := newL A1.rel.sub hp A1.rp
    exact g1 _ _ _ as1 ⟨A1.rel.gr g, A1.post.gr2 g, fun z => (A1.qu z).gr g, r⟩
  · exact g1.elim

/-! ### items -/
theorem atI_mem {α : Type} {xs : List α} {i : Int} {v : α} (h : atI xs i = some v) : ∃ j : Nat, ixN xs.length i = some j ∧ xs[j]? = some v := by
  unfold atI at h
  obtain ⟨j, h1, h2⟩ := Option.bind_eq_some_iff.mp h
  exact ⟨j, h1, h2⟩
theorem Rps.atI {K : Kf} {F : Hp} {vs : List V} {ds : List D} {i : Int} {d : D} (r : Rps K F vs ds) (h : L2.atI ds i = some d) : ∃ v, L2.atI vs i = some v ∧ Rp K F v d := by
  obtain ⟨j, h1, h2⟩ := atI_mem h
  obtain ⟨v, h3, h4⟩ := r.get h2
  refine ⟨v, ?_, h4⟩
  unfold L2.atI
  rw [r.len, h1]
  exact h3
theorem okS_one {s : Str} {c : Nat} (h : okS s = true) (hc : c ∈ s.cps.toList) : okS ⟨#[c]⟩ = true := by
  unfold okS at h ⊢
  simp only [Bool.and_eq_true, decide_eq_true_eq] at h ⊢
  have := Array.all_eq_true_iff_forall_mem.mp h.1 c (by simpa using hc)
  refine ⟨by simpa using this, ?_⟩
  show 1 ≤ _
  decide
theorem ixD_ok {K : Kf} {F H : Hp} {x y : V} {p q z : D} {Q : VK} (sf : Sub F H) (hx : RpV K F H x p) (hy : RpV K F H y q) (hg : ixD p q = some z) (k : ∀ v, Rp K F v z → Q v H) : rIx K x y H Q := by
  cases p with
  | list xs =>
    cases q with
    | int i =>
      obtain ⟨a, vs, rfl, h1, r1⟩ := hx.list_inv sf
      obtain ⟨v, h2, r2⟩ := r1.atI (by simpa only [ixD] using hg)
      exact .inl ⟨a, vs, i, v, rfl, hy.int_inv, h1, h2, k v r2⟩
    | _ => simp [ixD] at hg
  | tuple xs =>
    cases q with
    | int i =>
      obtain ⟨a, vs, rfl, h1, r1, _⟩ := hx.tup_inv sf
      obtain ⟨v, h2, r2⟩ := r1.atI (by simpa only [ixD] using hg)
      exact .inr (.inl ⟨a, vs, i, v, rfl, hy.int_inv, h1, h2, k v r2⟩)
    | _ => simp [ixD] at hg
  | str s =>
    cases q with
    | int i =>
      obtain ⟨e, o⟩ := hx.str_inv
      obtain ⟨c, h1, h2⟩ := Option.map_eq_some_iff.mp (by simpa only [ixD] using hg)
      obtain ⟨j, _, h3⟩ := atI_mem h1
      refine .inr (.inr ⟨s, i, c, e, hy.int_inv, ?_, h1, k _ ?_⟩)
      · rw [sizeLine_n]
        simp only [okS, Bool.and_eq_true, decide_eq_true_eq] at o
        exact o.2
      · rw [← h2]
        exact .str (okS_one o (List.mem_of_getElem? h3))
    | _ => simp [ixD] at hg
  | _ => simp [ixD] at hg
def notSlice : Expr → Bool
  | .Slice _ _ _ _ => false
  | _ => true
theorem plainIx {b : Expr} (h : notSlice b = true) : PlainIx b := fun o i => by
  cases b <;> first | rfl | cases h
theorem me_ix (hs : notSlice b = true) (hv : va = true → qb = true) (ha : PE X a (RdE X.K va qa eva)) (hb : PE X b (RdE X.K vb qb evb)) :
    PE X (.Subscript a b pos) (RdE X.K false (qa && qb) fun env => (eva env).bind fun x env => (evb env).bind fun y env => .opt (ixD x y) env) := by
  refine pe_imp (pe_ix ix_seq ha hb (plainIx hs)) fun σ H Q h => ?_
  refine (?_ : RdE X.K va qa eva σ H fun x H1 => RdE X.K vb qb evb σ H1 fun y H2 => rIx X.K x y H2 Q)
  obtain ⟨F, env, as, rel, got⟩ := two (va := va) (vb := vb) (qa := qa) (qb := qb) hv h
  refine ⟨F, env, as, rel, gotK_mono got fun p env1 g1 v1 H1 F1 as1 A1 => ?_⟩
  obtain ⟨F, env, as, rel, got⟩ := g1 v1 H1 F1 as1 A1
  refine ⟨F, env, as, rel, gotK_mono got fun p env2 g2 v2 H2 F2 as2 A2 => ?_⟩
  obtain ⟨F, env, as, F3, env3, as3, p, q, sb, rel, rel3, post, hq, r1, r2, got⟩ := g2 v2 H2 F2 as2 A2
  obtain ⟨z, e, k⟩ := gotK_opt got
  exact ixD_ok sb r1 r2 e fun v r => k v H2 F3 as3 ⟨rel3, post, hq, r⟩

/-! ### slices -/
def RdO (K : Kf) (qu : Bool) (ev : Env → R Env (Option Int)) : TO := fun σ H Q => ∃ F env as, Rel K F H σ env as ∧ GotK (ev env) fun o env' => ∀ H' F' as', AftT K σ H F env as qu env' H' F' as' → Q o H'
theorem mo_none : PO X none (RdO X.K true fun env => .ok none env) := ⟨fun pins s σ H Q I h => po_none.run pins s σ H Q I (by
  obtain ⟨F, env, as, rel, got⟩ := h
  exact got H F as ⟨rel, .rfl, fun _ => .rfl⟩)⟩
theorem mo_some (ha : PE X a (RdE X.K va qa eva)) : PO X (some a) (RdO X.K qa fun env => (eva env).bind fun x env => .opt ((asI x).map some) env) := ⟨fun pins s σ H Q I h => (po_some ha).run pins s σ H Q I (by
  obtain ⟨F, env, as, rel, got⟩ := h
  refine ⟨F, env, as, rel, gotK_mono (gotK_bind got) fun x env1 g1 v1 H1 F1 as1 A1 => ?_⟩
  obtain ⟨z, e, g⟩ := gotK_opt g1
  obtain ⟨i, e3, rfl⟩ := Option.map_eq_some_iff.mp e
  have hx : x = .int i := by cases x <;> simp_all [asI]
  subst hx
  exact ⟨i, A1.rv.int_inv, g H1 F1 as1 A1.t⟩)⟩
theorem okS_cut {s : Str} (lo hi : Option Int) (h : okS s = true) : okS (cutS s lo hi) = true := by
  unfold okS at h ⊢
  simp only [Bool.and_eq_true, decide_eq_true_eq] at h ⊢
  refine ⟨?_, ?_⟩
  · rw [Array.all_eq_true_iff_forall_mem]
    intro c hc
    refine Array.all_eq_true_iff_forall_mem.mp h.1 c ?_
    have hc : c ∈ (cutS s lo hi).cps.toList := by simpa using hc
    simp only [cutS] at hc
    have := List.mem_of_mem_drop (List.mem_of_mem_take hc)
    simpa using this
  · have : (cutS s lo hi).length ≤ s.length := by
      show (cutS s lo hi).cps.size ≤ s.cps.size
      simp only [cutS, List.size_toArray, List.length_take, List.length_drop, Array.length_toList]
      omega
    omega
def rCut (K : Kf) : V → Option Int → Option Int → Hp → VK → Prop := fun x lo hi H Q => ∃ F p z, Sub F H ∧ RpV K F H x p ∧ cutD p lo hi = some z ∧ ∀ v H' F', Gr F H F' H' → Rp K F' v z → Q v H'
theorem Rps.cut {K : Kf} {F : Hp} {vs : List V} {ds : List D} (lo hi : Option Int) (r : Rps K F vs ds) : Rps K F (cutV vs lo hi) (cut ds lo hi) := by
  unfold cutV MP.cut
  rw [r.len]
  exact (r.drop _).take _
theorem sl_any : SlR X (rCut X.K) := by
  intro pins s σ H x v vl vu lo hi sl Q I rx hs pl pu h
  obtain ⟨F, p, z, sf, hx, hg, k⟩ := h
  cases p with
  | list xs =>
    have e : PyData.list (cut xs lo hi) = z := by simpa [cutD] using hg
    subst e
    obtain ⟨a, vs, rfl, h1, r1⟩ := hx.list_inv sf
    exact sl_list pins s σ H _ v vl vu lo hi sl Q I rx hs pl pu ⟨a, vs, rfl, h1, fun p hp => by
      obtain ⟨g, r⟩ := newL sf hp (r1.cut lo hi)
      exact k _ _ _ g r⟩
  | tuple xs =>
    have e : PyData.tuple (cut xs lo hi) = z := by simpa [cutD] using hg
    subst e
    obtain ⟨a, vs, rfl, h1, r1, h2⟩ := hx.tup_inv sf
    refine sl_tupD pins s σ H _ v vl vu lo hi sl Q I rx hs pl pu ⟨a, vs, rfl, h1, fun hw => ?_, fun _ p o hp ho => ?_⟩
    · refine k _ H F (.rfl sf) (Rp.tup h2 ?_)
      have : cut xs lo hi = xs := by
        unfold MP.cut
        rw [← r1.len]
        rw [hw.1, hw.2]
        simp [r1.len]
      rw [this]
      exact r1
    · obtain ⟨g, r⟩ := newT sf hp ho (r1.cut lo hi)
      exact k _ _ _ g r
  | str t =>
    have e : PyData.str (cutS t lo hi) = z := by simpa [cutD] using hg
    subst e
    obtain ⟨e, o⟩ := hx.str_inv
    subst e
    refine sl_str pins s σ H _ v vl vu lo hi sl Q I rx hs pl pu ⟨t, rfl, ?_, k _ H F (.rfl sf) (.str (okS_cut lo hi o))⟩
    rw [sizeLine_n]
    simp only [okS, Bool.and_eq_true, decide_eq_true_eq] at o
    exact o.2
  | _ => simp [cutD] at hg
theorem me_sl {lo hi : Option Expr} {evl evh : Env → R Env (Option Int)} {ql qh : Bool} {p2 : Pos} (hv : va = true → (ql && qh) = true) (ha : PE X a (RdE X.K va qa eva)) (hl : PO X lo (RdO X.K ql evl)) (hh : PO X hi (RdO X.K qh evh)) :
    PE X (.Subscript a (.Slice lo hi none p2) pos) (RdE X.K false (qa && ql && qh) fun env => (eva env).bind fun x env => (evl env).bind fun l env => (evh env).bind fun h env => .opt (cutD x l h) env) := by
  refine pe_imp (pe_slice sl_any ha hl hh) fun σ H Q h => ?_
  obtain ⟨F, env, as, rel, got⟩ := h
  refine ⟨F, env, as, rel, gotK_mono (gotK_bind got) fun x env1 g1 v1 H1 F1 as1 A1 => ⟨F1, env1, as1, A1.rel, gotK_mono (gotK_bind g1) fun l env2 g2 H2 F2 as2 A2 => ⟨F2, env2, as2, A2.rel, gotK_mono (gotK_bind g2) fun h env3 g3 H3 F3 as3 A3 => ?_⟩⟩⟩
  obtain ⟨z, e, g⟩ := gotK_opt g3
  refine ⟨F3, x, z, A3.rel.sub, ?_, e, fun v H' F' gr r => g v H' F' as3 ⟨A3.rel.gr gr, ((A1.post.trans A2.post).trans A3.post).gr2 gr, fun z => ?_, r⟩⟩
  · have r1 := A1.rp
    split at r1
    · have hv := hv (by assumption)
      simp only [Bool.and_eq_true] at hv
      exact (r1.mono A2.post.sf (A2.qu hv.1).sh).mono A3.post.sf (A3.qu hv.2).sh
    · exact ((r1.mono A2.post.sf).mono A3.post.sf).v
  · simp only [Bool.and_eq_true] at z
    exact (((A1.qu z.1.1).trans (A2.qu z.1.2)).trans (A3.qu z.2)).gr gr
end
end MP

set_option maxHeartbeats 1000000
namespace MP
open PySem PySem.Spec PyProof.Rows L2
/-! ### what is walked -/
/-- a value, or a pair that is taken apart at once -/
def RpW (K : Kf) (F : Hp) (v : V) (d : D) : Prop := Rp K F v d ∨ ∃ a vs ds, v = .ref a ∧ d = .tuple ds ∧ SqT K F a vs ∧ Rps K F vs ds
def RpWk (K : Kf) (wk : Bool) (F : Hp) (v : V) (d : D) : Prop := if wk = true then RpW K F v d else Rp K F v d
theorem newW {K : Kf} {F H : Hp} {vs : List V} {ds : List D} {p : Addr} (sf : Sub F H) (n : H p = none) (r : Rps K F vs ds) : Gr F H (upd F p (.tup vs)) (upd H p (.tup vs)) ∧ RpW K (upd F p (.tup vs)) (.ref p) (.tuple ds) :=
  ⟨Gr.new sf n, .inr ⟨p, vs, ds, rfl, rfl, .inl (.inl upd_same), r.mono (Sub.up Sub.rfl (sf.none n))⟩⟩
def ItOk (K : Kf) (wk : Bool) (J : It) (F0 : Hp) (xs : List D) : Prop := ∀ i F H, Sub F0 F → Sub F H →
  (∀ d, xs[i]? = some d → J.go i H ∧ ∀ x H', J.yld i H x H' → ∃ F', Gr F H F' H' ∧ RpWk K wk F' x d) ∧ (xs.length ≤ i → J.stop i H)
structure AftI (K : Kf) (σ : L2.St) (H F : Hp) (env : Env) (as : AEnv) (wk qu : Bool) (xs : List D) (env' : Env) (J : It) (H' F' : Hp) (as' : AEnv) : Prop where
  rel : Rel K F' H' σ env' as'
  post : Post H F as H' F' as'
  qu : qu = true → Qu H env as H' env' as'
  it : ItOk K wk J F' xs
def RdI (K : Kf) (wk qu : Bool) (ev : Env → R Env (List D)) : TI := fun σ H Q => ∃ F env as, Rel K F H σ env as ∧ GotK (ev env) fun xs env' => ∀ J H' F' as', AftI K σ H F env as wk qu xs env' J H' F' as' → Q J H'
theorem pi_imp {X : Cx} {tg e : Expr} {t t' : TI} (h : PI X tg e t) (i : ∀ σ H Q, t' σ H Q → t σ H Q) : PI X tg e t' := ⟨fun pins s σ H Q I q => h.run pins s σ H Q I (i σ H Q q)⟩
theorem itL {K : Kf} {F0 : Hp} {a : Addr} {vs : List V} {xs : List D} (h : SqL K F0 a vs) (r : Rps K F0 vs xs) : ItOk K false (Itl K a) F0 xs := by
  intro i F H s1 s2
  have hl : SqL K H a vs := sqL_mono (s1.trans s2) h
  refine ⟨fun d hd => ?_, fun hi => ⟨vs, hl, by rw [r.len]; exact hi⟩⟩
  obtain ⟨v, h1, h2⟩ := r.get hd
  refine ⟨⟨vs, v, hl, h1⟩, fun x H' y => ?_⟩
  obtain ⟨rfl, y⟩ := y
  have := y vs hl
  rw [h1] at this
  cases this
  exact ⟨F, .rfl s2, h2.mono s1⟩
theorem itT {K : Kf} {F0 : Hp} {a : Addr} {vs : List V} {xs : List D} (h : SqT K F0 a vs) (r : Rps K F0 vs xs) : ItOk K false (Itt K a) F0 xs := by
  intro i F H s1 s2
  have hl : SqT K H a vs := sqT_mono (s1.trans s2) h
  refine ⟨fun d hd => ?_, fun hi => ⟨vs, hl, by rw [r.len]; exact hi⟩⟩
  obtain ⟨v, h1, h2⟩ := r.get hd
  refine ⟨⟨vs, v, hl, h1⟩, fun x H' y => ?_⟩
  obtain ⟨rfl, y⟩ := y
  have := y vs hl
  rw [h1] at this
  cases this
  exact ⟨F, .rfl s2, h2.mono s1⟩
theorem itS {K : Kf} {F0 : Hp} {s : Str} (h : okS s = true) : ItOk K false (Its s) F0 (signs s) := by
  intro i F H s1 s2
  refine ⟨fun d hd => ?_, fun hi => ?_⟩
  · unfold signs at hd
    rw [List.getElem?_map] at hd
    obtain ⟨c, hc, rfl⟩ := Option.map_eq_some_iff.mp hd
    have hc' : s.cps[i]? = some c := by rw [← Array.getElem?_toList]; exact hc
    refine ⟨?_, fun x H' y => ?_⟩
    · obtain ⟨hlt, _⟩ := Array.getElem?_eq_some_iff.mp hc'
      exact hlt
    · obtain ⟨rfl, c', h1, rfl⟩ := y
      rw [hc'] at h1
      cases h1
      exact ⟨F, .rfl s2, .str (okS_one h (List.mem_of_getElem? hc))⟩
  · show s.cps.size ≤ i
    simpa [signs] using hi
theorem itR {K : Kf} {F0 : Hp} (lo : Int) (n : Nat) : ItOk K false (Itr lo n) F0 ((List.range n).map fun (k : Nat) => .int (lo + k)) := by
  intro i F H s1 s2
  refine ⟨fun d hd => ?_, fun hi => ?_⟩
  · rw [List.getElem?_map] at hd
    obtain ⟨c, hc, rfl⟩ := Option.map_eq_some_iff.mp hd
    obtain ⟨h1, h2⟩ := List.getElem?_eq_some_iff.mp hc
    have hin : i < n := by simpa using h1
    have e : i = c := by simpa using h2
    subst e
    refine ⟨hin, fun x H' y => ?_⟩
    obtain ⟨rfl, rfl⟩ := y
    exact ⟨F, .rfl s2, .int _⟩
  · show n ≤ i
    simpa using hi
section
variable {X : Cx} {tg a b c : Expr} {pos : Pos} {eva evb : Env → R Env D} {qa qb : Bool}
/-- a value of any kind that is walked -/
def iAny (K : Kf) (te : TE) : TI := fun σ H R => te σ H fun x H1 => (∃ a, x = .ref a ∧ (∃ xs, SqL K H1 a xs) ∧ R (Itl K a) H1) ∨ (∃ a, x = .ref a ∧ (∃ xs, SqT K H1 a xs) ∧ R (Itt K a) H1) ∨ ∃ z, x = .str z ∧ R (Its z) H1
theorem pi_any {te : TE} (he : PE X a te) : PI X tg a (iAny X.K te) := by
  refine ⟨fun pins s σ H R I h => ?_⟩
  refine thn (he.run pins s σ H _ I h) fun v s1 ⟨x, H1, I1, r1, q1⟩ => ?_
  rcases q1 with ⟨a, e, ⟨xs, hq⟩, q⟩ | ⟨a, e, ⟨xs, hq⟩, q⟩ | ⟨z, e, q⟩
  · subst e
    cases r1
    obtain ⟨its, rv, p, hz⟩ := I1.list hq
    refine wpAny_pyIter_list p.isList ?_
    refine ⟨s1.heap.objs.size, [s1.heap.objs.size], _, _, H1, rfl, I1.kept (t' := s1.toks) fun b o e => Heap.get?_push_of_some _ e, turn_list a _, ⟨_, Heap.get?_push_size _ rfl, rfl, rfl⟩, fun b hb => ?_, q⟩
    have e : b = s1.heap.objs.size := by simpa using hb
    subst e
    exact I1.fpOk (Nat.le_refl _) (I1.hok.fresh (Nat.le_refl _))
  · subst e
    cases r1
    obtain ⟨its, rv, p, hz⟩ := I1.tuple hq
    refine wpAny_pyIter_tuple (show s1.heap.IsTuple a its.toArray from p) ?_
    refine ⟨s1.heap.objs.size, [s1.heap.objs.size], _, _, H1, rfl, I1.kept (t' := s1.toks) fun b o e => Heap.get?_push_of_some _ e, turn_tuple a _, ⟨_, Heap.get?_push_size _ rfl, rfl, rfl⟩, fun b hb => ?_, q⟩
    have e : b = s1.heap.objs.size := by simpa using hb
    subst e
    exact I1.fpOk (Nat.le_refl _) (I1.hok.fresh (Nat.le_refl _))
  · subst e
    obtain ⟨t, rfl⟩ := r1
    cases ha : z.cps.all (· < 128)
    · exact wpAny_pyIter_wide ha (pi_one (tk := s1.toks) I1 _ (turn_str _ z t "str_iterator" (.inr rfl)) ⟨_, Heap.get?_push_size _ rfl, rfl, rfl⟩ q)
    · exact wpAny_pyIter_ascii ha (pi_one (tk := s1.toks) I1 _ (turn_str _ z t "str_ascii_iterator" (.inl rfl)) ⟨_, Heap.get?_push_size _ rfl, rfl, rfl⟩ q)
theorem mi_any (ha : PE X a (RdE X.K false qa eva)) : PI X tg a (RdI X.K false qa fun env => (eva env).bind fun x env => .opt (walked x) env) := by
  refine pi_imp (pi_any ha) fun σ H Q h => ?_
  obtain ⟨F, env, as, rel, got⟩ := h
  refine ⟨F, env, as, rel, gotK_mono (gotK_bind got) fun x env1 g1 v1 H1 F1 as1 A1 => ?_⟩
  obtain ⟨xs, e, g⟩ := gotK_opt g1
  have r := A1.rp0
  cases x with
  | list ys =>
    have e' : ys = xs := by simpa [walked] using e
    subst e'
    obtain ⟨a, vs, rfl, h1, r1⟩ := r.list_inv
    exact .inl ⟨a, rfl, ⟨vs, sqL_mono A1.rel.sub h1⟩, g _ H1 F1 as1 ⟨A1.rel, A1.post, A1.qu, itL h1 r1⟩⟩
  | tuple ys =>
    have e' : ys = xs := by simpa [walked] using e
    subst e'
    obtain ⟨a, vs, rfl, h1, r1⟩ := r.tup_inv
    exact .inr (.inl ⟨a, rfl, ⟨vs, sqT_mono A1.rel.sub h1.t⟩, g _ H1 F1 as1 ⟨A1.rel, A1.post, A1.qu, itT h1.t r1⟩⟩)
  | str s =>
    have e' : signs s = xs := by simpa [walked] using e
    subst e'
    obtain ⟨rfl, o⟩ := r.str_inv
    exact .inr (.inr ⟨s, rfl, g _ H1 F1 as1 ⟨A1.rel, A1.post, A1.qu, itS o⟩⟩)
  | _ => simp [walked] at e
theorem mi_range1 {p : Pos} (hg : Gl X "range") (hm : X.mg "range" = none) (hn : notStar a = true) (ha : PE X a (RdE X.K false qa eva)) :
    PI X tg (.Call (.Name "range" p) [a] [] pos) (RdI X.K false qa fun env => (eva env).bind fun x env => .opt (rangeD [x]) env) := by
  refine pi_imp (pi_range1 hg hm (pa_cons ha pa_nil (star_cons hn)) (star_cons hn)) fun σ H Q h => ?_
  obtain ⟨F, env, as, rel, got⟩ := h
  refine ⟨F, env, as, rel, gotK_mono (gotK_bind got) fun x env1 g1 v H1 F1 as1 A1 => ?_⟩
  obtain ⟨ys, e, g⟩ := gotK_opt g1
  cases x with
  | int n =>
    obtain ⟨h, rfl⟩ := ifs (by simpa only [rangeD] using e)
    have h := of_decide_eq_true h
    refine ⟨n, by rw [A1.rp0.int_inv], h.1, h.2, g _ H1 F1 as1 ⟨A1.rel, A1.post, A1.qu, ?_⟩⟩
    have := itR (K := X.K) (F0 := F1) 0 n.toNat
    simpa using this
  | _ => simp [rangeD] at e
theorem mi_range2 {p : Pos} (hg : Gl X "range") (hm : X.mg "range" = none) (hn : notStar a = true) (hn2 : notStar b = true) (ha : PE X a (RdE X.K false qa eva)) (hb : PE X b (RdE X.K false qb evb)) :
    PI X tg (.Call (.Name "range" p) [a, b] [] pos) (RdI X.K false (qa && qb) fun env => (eva env).bind fun x env => (evb env).bind fun y env => .opt (rangeD [x, y]) env) := by
  refine pi_imp (pi_range2 hg hm (pa_cons ha (pa_cons hb pa_nil (star_cons hn2)) (star_cons hn)) ((star_cons hn).trans (by rw [star_cons hn2]; rfl)) (star_cons hn2)) fun σ H Q h => ?_
  obtain ⟨F, env, as, rel, got⟩ := h
  refine ⟨F, env, as, rel, gotK_mono (gotK_bind got) fun x env1 g1 v H1 F1 as1 A1 => ⟨F1, env1, as1, A1.rel, gotK_mono (gotK_bind g1) fun y env2 g2 w H2 F2 as2 A2 => ?_⟩⟩
  obtain ⟨ys, e, g⟩ := gotK_opt g2
  cases x with
  | int m =>
    cases y with
    | int n =>
      obtain ⟨h, rfl⟩ := ifs (by simpa only [rangeD] using e)
      have h := of_decide_eq_true h
      exact ⟨m, n, by rw [A1.rp0.int_inv, A2.rp0.int_inv], h, g _ H2 F2 as2 ⟨A2.rel, A1.post.trans A2.post, fun z => by
        simp only [Bool.and_eq_true] at z
        exact (A1.qu z.1).trans (A2.qu z.2), itR m (n - m).toNat⟩⟩
    | _ => simp [rangeD] at e
  | _ => simp [rangeD] at e
theorem enumD_get {xs : List D} {i : Nat} {d : D} (h : (enumD xs)[i]? = some d) : ∃ x, xs[i]? = some x ∧ d = .tuple [.int i, x] := by
  unfold enumD at h
  rw [List.getElem?_zipWith] at h
  split at h
  · rename_i a b ha hb
    obtain ⟨h1, h2⟩ := List.getElem?_eq_some_iff.mp ha
    have : i = a := by simpa using h2
    subst this
    exact ⟨b, hb, by simpa using h.symm⟩
  · cases h
theorem enumD_len {xs : List D} : (enumD xs).length = xs.length := by simp [enumD]
theorem itE {K : Kf} {F0 : Hp} {a : Addr} {vs : List V} {xs : List D} (h : SqL K F0 a vs) (r : Rps K F0 vs xs) : ItOk K true (Ite K a) F0 (enumD xs) := by
  intro i F H s1 s2
  have hl : SqL K H a vs := sqL_mono (s1.trans s2) h
  refine ⟨fun d hd => ?_, fun hi => ⟨vs, hl, by rw [r.len, ← enumD_len]; exact hi⟩⟩
  obtain ⟨x, hx, rfl⟩ := enumD_get hd
  obtain ⟨v, h1, h2⟩ := r.get hx
  refine ⟨⟨vs, v, hl, h1⟩, fun w H' y => ?_⟩
  obtain ⟨p, u, rfl, hp, rfl, y⟩ := y
  have := y vs hl
  rw [h1] at this
  cases this
  obtain ⟨g, r⟩ := newW s2 hp ((Rps.cons (Rp.int _) (Rps.cons (h2.mono s1) .nil)) : Rps K F [.int (i : Nat), v] [.int (i : Nat), x])
  exact ⟨_, g, r⟩
theorem mi_enum {p tpos : Pos} {elts : List Expr} {kk : Nat} (hg : Gl X "enumerate") (hm : X.mg "enumerate" = none) (hn : notStar a = true) (ha : PE X a (RdE X.K false qa eva)) :
    PI X (.Tuple elts kk tpos) (.Call (.Name "enumerate" p) [a] [] pos) (RdI X.K true qa fun env => (eva env).bind fun x env => .opt (enum? x) env) := by
  refine pi_imp (pi_enum hg hm (pa_cons ha pa_nil (star_cons hn)) (star_cons hn)) fun σ H Q h => ?_
  obtain ⟨F, env, as, rel, got⟩ := h
  refine ⟨F, env, as, rel, gotK_mono (gotK_bind got) fun x env1 g1 v H1 F1 as1 A1 => ?_⟩
  obtain ⟨ys, e, g⟩ := gotK_opt g1
  cases x with
  | list xs =>
    cases e
    obtain ⟨a, vs, rfl, h1, r1⟩ := A1.rp0.list_inv
    exact ⟨a, vs, rfl, sqL_mono A1.rel.sub h1, g _ H1 F1 as1 ⟨A1.rel, A1.post, A1.qu, itE h1 r1⟩⟩
  | _ => cases e
theorem zipD_get {xs ys : List D} {i : Nat} {d : D} (h : (zipD xs ys)[i]? = some d) : ∃ x y, xs[i]? = some x ∧ ys[i]? = some y ∧ d = .tuple [x, y] := by
  unfold zipD at h
  rw [List.getElem?_zipWith] at h
  split at h
  · rename_i a b ha hb
    exact ⟨a, b, ha, hb, by simpa using h.symm⟩
  · cases h
theorem itZ {K : Kf} {F0 : Hp} {a b : Addr} {vs ws : List V} {xs ys : List D} (h : SqL K F0 a vs) (r : Rps K F0 vs xs) (h2 : SqL K F0 b ws) (r2 : Rps K F0 ws ys) : ItOk K true (Itz K a b) F0 (zipD xs ys) := by
  intro i F H s1 s2
  have hl : SqL K H a vs := sqL_mono (s1.trans s2) h
  have hl2 : SqL K H b ws := sqL_mono (s1.trans s2) h2
  refine ⟨fun d hd => ?_, fun hi => ⟨vs, ws, hl, hl2, ?_⟩⟩
  · obtain ⟨x, y, hx, hy, rfl⟩ := zipD_get hd
    obtain ⟨v, e1, e2⟩ := r.get hx
    obtain ⟨w, e3, e4⟩ := r2.get hy
    refine ⟨⟨vs, ws, v, w, hl, hl2, e1, e3⟩, fun z H' y => ?_⟩
    obtain ⟨p, u, u2, rfl, hp, rfl, y1, y2⟩ := y
    have := y1 vs hl
    rw [e1] at this
    cases this
    have := y2 ws hl2
    rw [e3] at this
    cases this
    obtain ⟨g, r⟩ := newW s2 hp ((Rps.cons (e2.mono s1) (Rps.cons (e4.mono s1) .nil)))
    exact ⟨_, g, r⟩
  · have : min xs.length ys.length ≤ i := by simpa [zipD] using hi
    rw [r.len, r2.len]; omega
theorem itZT {K : Kf} {F0 : Hp} {a b : Addr} {vs ws : List V} {xs ys : List D} (h : SqT K F0 a vs) (r : Rps K F0 vs xs) (h2 : SqT K F0 b ws) (r2 : Rps K F0 ws ys) : ItOk K true (RZ.ItzT K a b) F0 (zipD xs ys) := by
  intro i F H s1 s2
  have hl : SqT K H a vs := sqT_mono (s1.trans s2) h
  have hl2 : SqT K H b ws := sqT_mono (s1.trans s2) h2
  refine ⟨fun d hd => ?_, fun hi => ⟨vs, ws, hl, hl2, ?_⟩⟩
  · obtain ⟨x, y, hx, hy, rfl⟩ := zipD_get hd
    obtain ⟨v, e1, e2⟩ := r.get hx
    obtain ⟨w, e3, e4⟩ := r2.get hy
    refine ⟨⟨vs, ws, v, w, hl, hl2, e1, e3⟩, fun z H' y => ?_⟩
    obtain ⟨p, u, u2, rfl, hp, rfl, y1, y2⟩ := y
    have := y1 vs hl
    rw [e1] at this
    cases this
    have := y2 ws hl2
    rw [e3] at this
    cases this
    obtain ⟨g, r⟩ := newW s2 hp ((Rps.cons (e2.mono s1) (Rps.cons (e4.mono s1) .nil)))
    exact ⟨_, g, r⟩
  · have : min xs.length ys.length ≤ i := by simpa [zipD] using hi
    rw [r.len, r2.len]; omega
theorem mi_zip {p tpos : Pos} {elts : List Expr} {kk : Nat} (hg : Gl X "zip") (hm : X.mg "zip" = none) (hn : notStar a = true) (hn2 : notStar b = true) (ha : PE X a (RdE X.K false qa eva)) (hb : PE X b (RdE X.K false qb evb)) :
    PI X (.Tuple elts kk tpos) (.Call (.Name "zip" p) [a, b] [] pos) (RdI X.K true (qa && qb) fun env => (eva env).bind fun x env => (evb env).bind fun y env => .opt (zip? x y) env) := by
  refine pi_imp (RZ.pi_zipA hg hm (pa_cons ha (pa_cons hb pa_nil (star_cons hn2)) (star_cons hn)) (star_cons hn) (by rw [star_cons hn2]; rfl)) fun σ H Q h => ?_
  obtain ⟨F, env, as, rel, got⟩ := h
  refine ⟨F, env, as, rel, gotK_mono (gotK_bind got) fun x env1 g1 v H1 F1 as1 A1 => ⟨F1, env1, as1, A1.rel, gotK_mono (gotK_bind g1) fun y env2 g2 w H2 F2 as2 A2 => ?_⟩⟩
  obtain ⟨zs, e, g⟩ := gotK_opt g2
  have r1 := A1.rp0.mono A2.post.sf
  have r2 := A2.rp0
  have post := A1.post.trans A2.post
  have qu : (qa && qb) = true → Qu H env as H2 env2 as2 := fun z => by
    simp only [Bool.and_eq_true] at z
    exact (A1.qu z.1).trans (A2.qu z.2)
  cases x with
  | list xs =>
    cases y with
    | list ys =>
      cases e
      obtain ⟨a, vs, rfl, h1, s1⟩ := r1.list_inv
      obtain ⟨b, ws, rfl, h2, s2⟩ := r2.list_inv
      exact ⟨a, b, vs, ws, rfl, .inl ⟨sqL_mono A2.rel.sub h1, sqL_mono A2.rel.sub h2, g _ H2 F2 as2 ⟨A2.rel, post, qu, itZ h1 s1 h2 s2⟩⟩⟩
    | _ => cases e
  | tuple xs =>
    cases y with
    | tuple ys =>
      cases e
      obtain ⟨a, vs, rfl, h1, s1⟩ := r1.tup_inv
      obtain ⟨b, ws, rfl, h2, s2⟩ := r2.tup_inv
      exact ⟨a, b, vs, ws, rfl, .inr ⟨sqT_mono A2.rel.sub h1.t, sqT_mono A2.rel.sub h2.t, g _ H2 F2 as2 ⟨A2.rel, post, qu, itZT h1.t s1 h2.t s2⟩⟩⟩
    | _ => cases e
  | _ => cases e
end
end MP

set_option maxHeartbeats 1000000
namespace MP
open PySem PySem.Spec PyProof.Rows L2
/-! ### slots by place -/
section
variable {K : Kf} {F H F' H' : Hp} {σ : L2.St} {env : Env} {as : AEnv}
theorem Slots.of_get : ∀ {σ : L2.St} {env : Env} {as : AEnv}, env.length = σ.length → as.length = σ.length → (∀ (i : Nat) (s : Slot), env[i]? = some s → ∃ (v : Option V) (a : Option A), σ[i]? = some v ∧ as[i]? = some a ∧ SlotR K F H v s a) → Slots K F H σ env as
  | [], [], [], _, _, _ => .nil
  | [], _ :: _, _, h, _, _ => by simp at h
  | [], [], _ :: _, _, h, _ => by simp at h
  | _ :: _, [], _, h, _, _ => by simp at h
  | _ :: _, _ :: _, [], _, h, _ => by simp at h
  | v :: σ, s :: env, a :: as, h1, h2, h => by
    refine .cons ?_ (Slots.of_get (by simpa using h1) (by simpa using h2) fun i s e => ?_)
    · obtain ⟨v', a', e1, e2, r⟩ := h 0 s rfl
      cases e1; cases e2
      exact r
    · obtain ⟨v', a', e1, e2, r⟩ := h (i + 1) s (by simpa using e)
      exact ⟨v', a', by simpa using e1, by simpa using e2, r⟩
theorem adE_set_none : ∀ {as : AEnv} {i : Nat}, (adE (as.set i none)).Sublist (adE as)
  | [], _ => by simp
  | none :: r, 0 => by simp [adE]
  | some a :: r, 0 => by simp [adE]
  | none :: r, i + 1 => by simpa [adE] using adE_set_none
  | some a :: r, i + 1 => by
    simp only [List.set_cons_succ, adE]
    exact (List.Sublist.refl _).append adE_set_none
theorem Post.less {as' : AEnv} (h : (adE as').Sublist (adE as)) : Post H F as H F as' := ⟨.rfl, fun _ _ e _ => e, fun b hb => .inl (h.subset hb), fun _ h => .inl h, fun _ h => h⟩
theorem Rel.sto (r : Rel K F H σ env as) {i : Nat} {v : V} {x : D} (h : Rp K F v x) : Rel K F H (σ.set i (some v)) (env.sto i x) (as.set i none) :=
  ⟨r.sub, r.slots.set ⟨v, rfl, h⟩, r.nd.sublist adE_set_none, fun b hb => r.fr b (adE_set_none.subset hb)⟩
/-! ### targets -/
def gNs : List Nat → TGs
  | [] => gNil
  | j :: js => gCons (gName j) (gNs js)
def gT (K : Kf) (js : List Nat) : TG := match js with
  | [j] => gName j
  | _ => gTup K js.length (gNs js)
def clearA : List Nat → AEnv → AEnv
  | [], as => as
  | j :: js, as => (clearA js as).set j none
theorem clearA_sub : ∀ {js : List Nat} {as : AEnv}, (adE (clearA js as)).Sublist (adE as)
  | [], _ => .refl _
  | j :: js, as => adE_set_none.trans clearA_sub
theorem stos_ok : ∀ {js : List Nat} {xs : List D} {vs : List V} {σ : L2.St} {env env' : Env} {as : AEnv} {Q : L2.St → Hp → Prop}, stos js xs env = some env' → Rps K F vs xs → Rel K F H σ env as →
    (∀ σ' as', Rel K F H σ' env' as' → (adE as').Sublist (adE as) → (∀ ks, (∀ j ∈ js, j ∈ ks) → wipe σ' ks = wipe σ ks) → Q σ' H) → gNs js vs σ H Q
  | [], xs, vs, σ, env, env', as, Q, h, r, rel, k => by
    cases xs with
    | nil =>
      simp only [stos, Option.some.injEq] at h
      subst h
      exact ⟨r.nil_inv, k σ as rel (.refl _) fun _ _ => rfl⟩
    | cons x xs => simp [stos] at h
  | j :: js, xs, vs, σ, env, env', as, Q, h, r, rel, k => by
    cases xs with
    | nil => simp [stos] at h
    | cons x xs =>
      obtain ⟨v, ws, rfl, r1, r2⟩ := r.cons_inv
      refine ⟨v, ws, rfl, stos_ok (js := js) (by simpa only [stos] using h) r2 (rel.sto r1) fun σ' as' rel' sb hw => k σ' as' rel' (sb.trans adE_set_none) fun ks hk => ?_⟩
      rw [hw ks fun j hj => hk j (List.mem_cons_of_mem _ hj)]
      exact wipe_set (hk j List.mem_cons_self)
where
  wipe_set {σ : L2.St} {j : Nat} {x : Option V} : ∀ {ks : List Nat}, j ∈ ks → wipe (σ.set j x) ks = wipe σ ks
    | [], h => by simp at h
    | k :: ks, h => by
      simp only [wipe]
      by_cases q : j ∈ ks
      · rw [wipe_set q]
      · have e : j = k := by
          rcases List.mem_cons.mp h with h | h
          · exact h
          · exact absurd h q
        subst e
        rw [wipe_comm q, List.set_set]
  wipe_comm {σ : L2.St} {j : Nat} {x : Option V} : ∀ {ks : List Nat}, j ∉ ks → wipe (σ.set j x) ks = (wipe σ ks).set j x
    | [], _ => rfl
    | k :: ks, h => by
      simp only [wipe]
      rw [wipe_comm fun q => h (List.mem_cons_of_mem _ q)]
      rw [List.set_comm _ _ (fun e => h (by rw [e]; exact List.mem_cons_self))]
theorem bindT_ok {js : List Nat} {x : D} {v : V} {env' : Env} {wk : Bool} {Q : L2.St → Hp → Prop} (hwk : wk = true → js.length ≠ 1) (h : bindT js x env = some env') (r : RpWk K wk F v x) (rel : Rel K F H σ env as)
    (k : ∀ σ' as', Rel K F H σ' env' as' → (adE as').Sublist (adE as) → (∀ ks, (∀ j ∈ js, j ∈ ks) → wipe σ' ks = wipe σ ks) → Q σ' H) : gT K js v σ H Q := by
  have tup : ∀ (xs : List D), x = .tuple xs → stos js xs env = some env' → gTup K js.length (gNs js) v σ H Q := fun xs e h2 => by
    subst e
    have : ∃ a vs, v = .ref a ∧ SqT K F a vs ∧ Rps K F vs xs := by
      have tu : Rp K F v (.tuple xs) → ∃ a vs, v = .ref a ∧ SqT K F a vs ∧ Rps K F vs xs := fun r => by
        obtain ⟨a, vs, e, h1, r1⟩ := r.tup_inv
        exact ⟨a, vs, e, h1.t, r1⟩
      cases wk with
      | false => exact tu r
      | true =>
        rcases (show RpW K F v (.tuple xs) from r) with r | ⟨a, vs, ds, e, e2, h1, r1⟩
        · exact tu r
        · cases e2
          exact ⟨a, vs, e, h1, r1⟩
    obtain ⟨a, vs, rfl, h1, r1⟩ := this
    refine ⟨a, vs, rfl, sqT_mono rel.sub h1, ?_, stos_ok h2 r1 rel k⟩
    rw [r1.len]
    exact stos_len h2
  unfold bindT at h
  unfold gT
  split at h
  · rename_i j
    have e : env.sto j x = env' := Option.some.inj h
    subst e
    have r : Rp K F v x := by
      cases wk with
      | false => exact r
      | true => exact absurd rfl (hwk rfl)
    exact k _ _ (rel.sto r) adE_set_none fun ks hk => stos_ok.wipe_set (hk j (by simp))
  · rename_i hn
    have h2 : ∃ xs, x = .tuple xs ∧ stos js xs env = some env' := by
      cases x with
      | tuple xs => exact ⟨xs, rfl, h⟩
      | _ => cases h
    obtain ⟨xs, e, h3⟩ := h2
    first
      | (split
         · rename_i j; exact absurd rfl (hn j)
         · exact tup xs e h3)
      | exact tup xs e h3
where
  stos_len : ∀ {js : List Nat} {xs : List D} {env env' : Env}, stos js xs env = some env' → xs.length = js.length
    | [], [], _, _, _ => rfl
    | [], _ :: _, _, _, h => by simp [stos] at h
    | _ :: _, [], _, _, h => by simp [stos] at h
    | j :: js, x :: xs, env, env', h => by
      simp only [stos] at h
      rw [List.length_cons, List.length_cons, stos_len h]

/-! ### names forgotten, names restored -/
theorem Rel.wiped (r : Rel K F H σ env as) : ∀ js, Rel K F H (wipe σ js) (clear js env) (clearA js as)
  | [] => r
  | j :: js => by
    have h := Rel.wiped r js
    refine ⟨h.sub, ?_, h.nd.sublist adE_set_none, fun b hb => h.fr b (adE_set_none.subset hb)⟩
    exact h.slots.set (i := j) (v := none) (s := .no) (a := none) trivial
theorem wipe_get {σ : L2.St} {i : Nat} : ∀ {js : List Nat}, (i ∈ js → ∀ v, (wipe σ js)[i]? = some v → v = none) ∧ (i ∉ js → (wipe σ js)[i]? = σ[i]?)
  | [] => ⟨fun h => by simp at h, fun _ => rfl⟩
  | j :: js => by
    obtain ⟨h1, h2⟩ := wipe_get (σ := σ) (i := i) (js := js)
    refine ⟨fun h v e => ?_, fun h => ?_⟩
    · simp only [wipe] at e
      by_cases q : j = i
      · subst q
        rw [List.getElem?_set_self'] at e
        obtain ⟨_, _, e⟩ := Option.map_eq_some_iff.mp e
        exact e.symm
      · rw [List.getElem?_set_ne q] at e
        exact h1 ((List.mem_cons.mp h).resolve_left fun z => q z.symm) v e
    · simp only [wipe]
      have q : j ≠ i := fun e => h (by rw [e]; exact List.mem_cons_self)
      rw [List.getElem?_set_ne q]
      exact h2 fun z => h (List.mem_cons_of_mem _ z)
theorem clear_get {i : Nat} : ∀ {js : List Nat}, i ∉ js → (clear js env)[i]? = env[i]?
  | [], _ => rfl
  | j :: js, h => by
    simp only [clear]
    have q : j ≠ i := fun e => h (by rw [e]; exact List.mem_cons_self)
    rw [List.getElem?_set_ne q]
    exact clear_get fun z => h (List.mem_cons_of_mem _ z)
theorem clear_in {i : Nat} : ∀ {js : List Nat}, i ∈ js → i < env.length → (clear js env)[i]? = some .no
  | [], h, _ => by simp at h
  | j :: js, h, hl => by
    simp only [clear]
    by_cases q : j = i
    · subst q
      rw [List.getElem?_set_self]
      rw [clear_length]; exact hl
    · rw [List.getElem?_set_ne q]
      exact clear_in ((List.mem_cons.mp h).resolve_left fun z => q z.symm) hl
where
  clear_length : ∀ {js : List Nat} {env : Env}, (clear js env).length = env.length
    | [], _ => rfl
    | j :: js, env => by simp only [clear, List.length_set]; exact clear_length
theorem back_length {env1 : Env} : ∀ {js : List Nat}, (back js env env1).length = env1.length
  | [] => rfl
  | j :: js => by simp only [back, List.length_set]; exact back_length
theorem back_get {env env1 : Env} {i : Nat} : ∀ {js : List Nat}, (i ∉ js → (back js env env1)[i]? = env1[i]?) ∧ (i ∈ js → i < env1.length → (back js env env1)[i]? = some (env.getD i .no))
  | [] => ⟨fun _ => rfl, fun h => by simp at h⟩
  | j :: js => by
    obtain ⟨h1, h2⟩ := back_get (env := env) (env1 := env1) (i := i) (js := js)
    refine ⟨fun h => ?_, fun h hl => ?_⟩
    · simp only [back]
      have q : j ≠ i := fun e => h (by rw [e]; exact List.mem_cons_self)
      rw [List.getElem?_set_ne q]
      exact h1 fun z => h (List.mem_cons_of_mem _ z)
    · simp only [back]
      by_cases q : j = i
      · subst q
        rw [List.getElem?_set_self]
        rw [back_length]; exact hl
      · rw [List.getElem?_set_ne q]
        exact h2 ((List.mem_cons.mp h).resolve_left fun z => q z.symm) hl
theorem Rel.backed {F0 H0 : Hp} {env1 : Env} {as0 as1 : AEnv} {js : List Nat} (r0 : Rel K F0 H0 σ env as0) (sf : Sub F0 F) (hn : noOwn js env = true) (r1 : Rel K F H (wipe σ js) (clear js env1) as1) : Rel K F H σ (back js env env1) as1 := by
  obtain ⟨l1, l2⟩ := r1.slots.len
  obtain ⟨l3, l4⟩ := r0.slots.len
  rw [clear_in.clear_length, wipe_length] at l1
  rw [wipe_length] at l2
  refine ⟨r1.sub, Slots.of_get (by rw [back_length]; exact l1) l2 fun i s e => ?_, r1.nd, r1.fr⟩
  by_cases hi : i ∈ js
  · have hl : i < env1.length := by
      have := (List.getElem?_eq_some_iff.mp e).1
      rwa [back_length] at this
    rw [back_get.2 hi hl] at e
    have hl0 : i < env.length := by omega
    have e0 : env[i]? = some s := by
      rw [List.getD_eq_getElem?_getD, List.getElem?_eq_getElem hl0] at e
      rw [List.getElem?_eq_getElem hl0]
      simpa using e
    obtain ⟨v, a, e1, e2, r⟩ := r0.slots.get e0
    obtain ⟨v', a', e3, e4, r'⟩ := r1.slots.get (clear_in hi hl)
    have hno : isOwn s = false := by
      have := List.all_eq_true.mp hn i hi
      rw [List.getD_eq_getElem?_getD, e0] at this
      simpa using this
    have ha' : a' = none := by
      cases a' with
      | none => rfl
      | some _ => exact r'.elim
    subst ha'
    refine ⟨v, none, e1, e4, ?_⟩
    cases s with
    | no => trivial
    | val x =>
      cases a with
      | none =>
        obtain ⟨u, e, q⟩ := r
        exact ⟨u, e, q.mono sf⟩
      | some _ => exact r.elim
    | own t => cases hno
  · rw [back_get.1 hi] at e
    have e' : (clear js env1)[i]? = some s := by rw [clear_get hi]; exact e
    obtain ⟨v', a', e3, e4, r'⟩ := r1.slots.get e'
    rw [(wipe_get (σ := σ)).2 hi] at e3
    exact ⟨v', a', e3, e4, r'⟩
end

/-! ### a new list of data -/
structure AftN (K : Kf) (σ : L2.St) (H F : Hp) (env : Env) (as : AEnv) (qu : Bool) (xs : List D) (env' : Env) (p : Addr) (H' F' : Hp) (as' : AEnv) : Prop where
  rel : Rel K F' H' σ env' as'
  post : Post H F as H' F' as'
  qu : qu = true → Qu H env as H' env' as'
  new : H p = none
  nf : F' p = none
  na : p ∉ adE as'
  lst : ∃ vs, H' p = some (.lst vs) ∧ Rps K F' vs xs
def RdN (K : Kf) (qu : Bool) (ev : Env → R Env (List D)) : TE := fun σ H Q => ∃ F env as, Rel K F H σ env as ∧ GotK (ev env) fun xs env' => ∀ p H' F' as', AftN K σ H F env as qu xs env' p H' F' as' → Q (.ref p) H'
/-- frozen -/
theorem Rel.frz {K : Kf} {F H : Hp} {σ : L2.St} {env : Env} {as : AEnv} (r : Rel K F H σ env as) {p : Addr} {o : HO} (hp : H p = some o) (na : p ∉ adE as) : Rel K (upd F p o) H σ env as := by
  have sf : Sub F (upd F p o) := fun b u e => by
    by_cases q : b = p
    · subst q
      have := r.sub b u e
      rw [hp] at this
      rw [upd_same]; exact this
    · rw [upd_ne q]; exact e
  refine ⟨fun b u e => ?_, r.slots.mono sf fun _ _ _ e => e, r.nd, fun b hb => ?_⟩
  · by_cases q : b = p
    · subst q; rw [upd_same] at e; rw [hp]; exact e
    · rw [upd_ne q] at e; exact r.sub b u e
  · rw [upd_ne (show b ≠ p from fun e => na (by rw [← e]; exact hb))]
    exact r.fr b hb
theorem ofN_E {K : Kf} {qu : Bool} {ev : Env → R Env (List D)} {σ : L2.St} {H : Hp} {Q : VK} (h : RdE K false qu (fun env => (ev env).bind fun xs env => .ok (.list xs) env) σ H Q) : RdN K qu ev σ H Q := by
  obtain ⟨F, env, as, rel, got⟩ := h
  refine ⟨F, env, as, rel, gotK_mono (gotK_bind got) fun xs env1 g p H1 F1 as1 A => ?_⟩
  obtain ⟨vs, h1, r⟩ := A.lst
  have sf : Sub F1 (upd F1 p (.lst vs)) := Sub.up Sub.rfl A.nf
  refine g _ H1 (upd F1 p (.lst vs)) as1 ⟨A.rel.frz h1 A.na, ⟨A.post.sf.trans sf, A.post.fr, A.post.on, fun b hb => ?_, A.post.th⟩, A.qu, ?_⟩
  · by_cases q : b = p
    · subst q; exact .inr (.inr A.new)
    · rw [upd_ne q] at hb; exact A.post.fn b hb
  · exact Rp.lst (.inl (.inl upd_same)) (r.mono sf)
theorem me_ofN {X : Cx} {e : Expr} {qu : Bool} {ev : Env → R Env (List D)} (h : PE X e (RdN X.K qu ev)) : PE X e (RdE X.K false qu fun env => (ev env).bind fun xs env => .ok (.list xs) env) := pe_imp h fun _ _ _ h => ofN_E h
/-! ### what a block leaves alone -/
theorem Post.keep {H F H' F' : Hp} {as as' : AEnv} (p : Post H F as H' F' as') {b : Addr} {o : HO} (h : H b = some o) (hf : F b = none) (ha : b ∉ adE as) : H' b = some o ∧ F' b = none ∧ b ∉ adE as' := by
  refine ⟨p.fr b o h ha, ?_, fun hb => ?_⟩
  · cases e : F' b with
    | none => rfl
    | some u =>
      rcases p.fn b (by rw [e]; simp) with q | q | q
      · exact absurd hf q
      · exact absurd q ha
      · rw [h] at q; cases q
  · rcases p.on b hb with q | q
    · exact ha q
    · rw [h] at q; cases q
theorem Post.upd {H F H' F' : Hp} {as as' : AEnv} (p : Post H F as H' F' as') {D : Addr} {o : HO} (h : H D = none) : Post H F as (L2.upd H' D o) F' as' :=
  ⟨p.sf, fun b u e ha => by
    rw [upd_ne (show b ≠ D from fun q => by rw [q, h] at e; cases e)]
    exact p.fr b u e ha, p.on, p.fn, fun b hb => by
    by_cases q : b = D
    · rw [q, upd_same]; simp
    · rw [upd_ne q]; exact p.th b hb⟩
/-- something apart from the state is changed -/
theorem Rel.upd {K : Kf} {F H : Hp} {σ : L2.St} {env : Env} {as : AEnv} (r : Rel K F H σ env as) {p : Addr} {o : HO} (nf : F p = none) (na : p ∉ adE as) : Rel K F (upd H p o) σ env as :=
  ⟨fun b u e => by
    rw [upd_ne (fun q => by subst q; rw [nf] at e; cases e)]
    exact r.sub b u e, r.slots.mono .rfl fun b hb u e => by
    rw [upd_ne (show b ≠ p from fun q => na (by rw [← q]; exact hb))]; exact e, r.nd, r.fr⟩
def RdB (K : Kf) (qu : Bool) (ev : Env → R Env Bool) : TT := fun σ H Q => ∃ F env as, Rel K F H σ env as ∧ GotK (ev env) fun b env' => ∀ H' F' as', AftT K σ H F env as qu env' H' F' as' → Q b H'
theorem gotK_some {S α : Type} {r : R S α} {C : α → S → Prop} (h : GotK r C) : ∃ a s, r = .ok a s ∧ C a s := by
  cases r with
  | ok a s => exact ⟨a, s, rfl, h⟩
  | exc c ds s => exact h.elim
  | err => exact h.elim
section
variable {X : Cx} {tg elt iter : Expr} {ifs : List Expr} {scope : Scope} {own : List (Str × Nat)} {pos : Pos} {js : List Nat} {evi : Env → R Env (List D)} {evc : Env → R Env Bool} {eve : Env → R Env D} {wk qi qt qe : Bool}
theorem lcR {σ : L2.St} {H : Hp} {Q : VK} (hwk : wk = true → js.length ≠ 1) (h : RdN X.K false (evComp js evi evc eve) σ H Q) : tLc (RdI X.K wk qi evi) (gT X.K js) (RdB X.K qt evc) (RdE X.K false qe eve) js σ H Q := by
  obtain ⟨F, env, as, rel, got⟩ := h
  refine ⟨F, env, as, rel, gotK_mono (gotK_bind got) fun xs env1 g1 J H1 F1 as1 A1 D hD => ?_⟩
  split at g1
  · rename_i hno
    have nfD : F1 D = none := A1.rel.sub.none hD
    have naD : D ∉ adE as1 := fun h => A1.rel.slots.there D h hD
    let Cf : List MP.D → Env → Prop := fun ys e => fits ys.length = true ∧ ∀ p H' F' as', AftN X.K σ H F env as false ys (back js env1 e) p H' F' as' → Q (.ref p) H'
    have g1 : GotK (compL (compStep js evc eve) xs env1) Cf := gotK_mono (gotK_bind g1) fun ys e g => by
      split at g
      · rename_i hf
        exact ⟨hf, g⟩
      · exact g.elim
    refine ⟨fun i m H2 => m = xs.length - i ∧ i ≤ xs.length ∧ ∃ F2 env2 as2 av ad, Rel X.K F2 H2 (wipe σ js) (clear js env2) as2 ∧ Post H1 F1 as1 H2 F2 as2 ∧ H2 D = some (.lst av) ∧ F2 D = none ∧ D ∉ adE as2 ∧ Rps X.K F2 av ad ∧ GotK (compL (compStep js evc eve) (xs.drop i) env2) fun r e => Cf (ad ++ r) e, ⟨xs.length, rfl, Nat.zero_le _, F1, env1, clearA js as1, [], [], ?_, ?_, upd_same, nfD, fun h => naD (clearA_sub.subset h), .nil, by simpa using g1⟩, ?_⟩
    · exact (A1.rel.gr (.own A1.rel.sub hD)).wiped js
    · exact (Gr.own A1.rel.sub hD).post.trans (.less clearA_sub)
    · rintro i m H2 ⟨rfl, hi, F2, env2, as2, av, ad, rel2, post2, hD2, nf2, na2, rp2, g2⟩
      obtain ⟨it1, it2⟩ := A1.it i F2 H2 post2.sf rel2.sub
      by_cases hlt : i < xs.length
      · refine .inr ?_
        have hx : xs[i]? = some xs[i] := List.getElem?_eq_getElem hlt
        obtain ⟨go, yl⟩ := it1 _ hx
        refine ⟨go, fun H3 => ∃ F2 env2 as2 av ad, Rel X.K F2 H3 (wipe σ js) (clear js env2) as2 ∧ Post H1 F1 as1 H3 F2 as2 ∧ H3 D = some (.lst av) ∧ F2 D = none ∧ D ∉ adE as2 ∧ Rps X.K F2 av ad ∧ GotK (compL (compStep js evc eve) (xs.drop (i + 1)) env2) fun r e => Cf (ad ++ r) e, fun H' z => ⟨xs.length - (i + 1), by omega, rfl, hlt, z⟩, fun x H3 y => ?_⟩
        obtain ⟨F3, gr3, r3⟩ := yl x H3 y
        have rel3 := rel2.gr gr3
        have post3 := post2.trans (gr3.post (as := as2))
        obtain ⟨hD3, nf3, na3⟩ := (gr3.post (as := as2)).keep hD2 nf2 na2
        rw [List.drop_eq_getElem_cons hlt] at g2
        simp only [compL] at g2
        have g2 := gotK_bind g2
        cases hb : bindT js xs[i] (clear js env2) with
        | none =>
          have es : compStep js evc eve xs[i] env2 = .err := by unfold compStep; rw [hb]
          rw [es] at g2
          exact g2.elim
        | some env3 =>
          have es : compStep js evc eve xs[i] env2 = (evc env3).bind fun b env => if b = true then (eve env).bind fun y env => .ok (some y) env else .ok none env := by unfold compStep; rw [hb]
          rw [es] at g2
          refine bindT_ok hwk hb r3 rel3 fun σ3 as3 rel4 sb hw => ⟨?_, ?_⟩
          · rw [hw js fun _ z => z]
            exact wipe_wipe
          refine ⟨F3, env3, as3, rel4, gotK_mono (gotK_bind g2) fun b env5 g5 H5 F5 as5 A5 => ?_⟩
          have post4 : Post H1 F1 as1 H3 F3 as3 := post3.trans (.less sb)
          have na4 : D ∉ adE as3 := fun h => na3 (sb.subset h)
          have post5 := post4.trans A5.post
          obtain ⟨hD5, nf5, na5⟩ := A5.post.keep hD3 nf3 na4
          have wq : wipe σ3 js = wipe σ js := by rw [hw js fun _ z => z]; exact wipe_wipe
          cases b with
          | false =>
            rw [if_neg (by decide)] at g5
            dsimp only
            rw [if_neg (by decide)]
            have g6 := gotK_bind (gotK_ok g5)
            refine ⟨F5, env5, clearA js as5, av, ad, ?_, post5.trans (.less clearA_sub), hD5, nf5, fun h => na5 (clearA_sub.subset h), ((rp2.mono gr3.sf).mono A5.post.sf), gotK_mono g6 fun r e g => g⟩
            have := A5.rel.wiped js
            rw [wq] at this
            exact this
          | true =>
            rw [if_pos rfl] at g5
            dsimp only
            rw [if_pos rfl]
            refine ⟨F5, env5, as5, A5.rel, gotK_mono (gotK_bind g5) fun yd env6 g6 yv H6 F6 as6 A6 => ?_⟩
            have g6 := gotK_bind (gotK_ok g6)
            have post6 := post5.trans A6.post
            obtain ⟨hD6, nf6, na6⟩ := A6.post.keep hD5 nf5 na5
            have rp6 := ((rp2.mono gr3.sf).mono A5.post.sf).mono A6.post.sf
            refine ⟨av, hD6, ?_, F6, env6, clearA js as6, av ++ [yv], ad ++ [yd], ?_, ?_, upd_same, nf6, fun h => na6 (clearA_sub.subset h), rp6.append (.cons A6.rp0 .nil), gotK_mono g6 fun r e g => ?_⟩
            · obtain ⟨r, e, _, c⟩ := gotK_some g6
              have c := (gotK_ok c).1
              rw [sizeLine_n, rp6.len]
              have : (ad ++ yd :: r).length ≤ 16777216 := by simpa [fits] using c
              simp at this
              omega
            · have := (A6.rel.upd (o := .lst (av ++ [yv])) nf6 na6).wiped js
              rw [wq] at this
              exact this
            · exact (post6.trans (.less clearA_sub)).upd hD
            · rw [List.append_assoc]
              exact g
      · have e : i = xs.length := by omega
        subst e
        refine .inl ⟨it2 (Nat.le_refl _), ?_⟩
        rw [List.drop_length] at g2
        have g2 := gotK_ok g2
        simp only [List.append_nil] at g2
        refine g2.2 D H2 F2 as2 ⟨A1.rel.backed post2.sf hno rel2, A1.post.trans post2, fun z => (nomatch z), ?_, nf2, na2, av, hD2, rp2⟩
        · cases e : H D with
          | none => rfl
          | some o =>
            have := A1.post.th D (by rw [e]; simp)
            exact absurd hD this
  · exact g1.elim
where
  wipe_wipe {σ : L2.St} : ∀ {js : List Nat}, wipe (wipe σ js) js = wipe σ js := by
    intro js
    apply List.ext_getElem?
    intro i
    by_cases h : i ∈ js
    · cases e : (wipe σ js)[i]? with
      | none =>
        rw [List.getElem?_eq_none_iff] at e ⊢
        rw [wipe_length]; exact e
      | some v =>
        have hv := wipe_get.1 h v e
        have hl : i < (wipe (wipe σ js) js).length := by rw [wipe_length]; exact (List.getElem?_eq_some_iff.mp e).1
        have := wipe_get.1 h _ (List.getElem?_eq_getElem hl)
        rw [List.getElem?_eq_getElem hl, this, hv]
    · rw [wipe_get.2 h]
end
end MP

set_option maxHeartbeats 1000000
namespace MP
open PySem PySem.Spec PyProof.Rows L2
section
variable {X : Cx} {a b c : Expr} {pos : Pos} {eva evb evc : Env → R Env D} {va vb vc qa qb qc : Bool}
/-! ### comprehensions -/
theorem mb_nil : PTs X [] (RdB X.K true fun env => .ok true env) := ⟨fun pins s σ H Q I h => pts_nil.run pins s σ H Q I (by
  obtain ⟨F, env, as, rel, got⟩ := h
  exact got H F as ⟨rel, .rfl, fun _ => .rfl⟩)⟩
theorem mb_one (h : PT X c (RdT X.K qc evc)) : PTs X [c] (RdB X.K qc fun env => (evc env).bind fun x env => match truth x with
    | some true => .ok true env
    | some false => .ok false env
    | none => .err) := ⟨fun pins s σ H Q I hw => (pts_one h).run pins s σ H Q I (by
  obtain ⟨F, env, as, rel, got⟩ := hw
  refine ⟨F, env, as, rel, ?_⟩
  show GotK ((evc env).bind fun x env => .opt (truth x) env) _
  dsimp only at got
  cases he : evc env with
  | ok x env1 =>
    rw [he] at got
    have got : GotK (match truth x with
      | some true => R.ok true env1
      | some false => .ok false env1
      | none => .err) _ := got
    show GotK (R.opt (truth x) env1) _
    cases ht : truth x with
    | none => rw [ht] at got; exact got
    | some k => rw [ht] at got; cases k <;> exact got
  | exc c ds s => rw [he] at got; exact got
  | err => rw [he] at got; exact got)⟩
theorem mn_lc {tg elt iter : Expr} {ifs : List Expr} {scope : Scope} {own : List (Str × Nat)} {js : List Nat} {evi : Env → R Env (List D)} {evc : Env → R Env Bool} {eve : Env → R Env D} {wk qi qt qe : Bool} (hwk : wk = true → js.length ≠ 1)
    (hc : X.calm = true) (hN : X.N.Nodup) (hj : own.map (·.2) = js) (hi : PI X tg iter (RdI X.K wk qi evi)) (ok : BlkOk X.N X.env.scope scope own)
    (hg : ∀ (s : Shared) (H : Hp) (C : Addr) (cl : List (Str × Addr)) (fp : List Addr), PG (X.blk s H scope (compEnvC scope cl C X.env) fp) tg (gT X.K js)) (ht : ∀ (s : Shared) (H : Hp) (C : Addr) (cl : List (Str × Addr)) (fp : List Addr), PTs (X.blk s H scope (compEnvC scope cl C X.env) fp) ifs (RdB X.K qt evc))
    (he : ∀ (s : Shared) (H : Hp) (C : Addr) (cl : List (Str × Addr)) (fp : List Addr), PE (X.blk s H scope (compEnvC scope cl C X.env) fp) elt (RdE X.K false qe eve)) (hs : ∀ x, foldedSetIterable iter X.env x = pure x) :
    PE X (.ListComp elt [⟨tg, iter, ifs, 0⟩] scope pos) (RdN X.K false (evComp js evi evc eve)) := by
  refine pe_imp (pe_lc hc hN hi ok hg ht he hs) fun σ H Q h => ?_
  rw [hj]
  exact lcR hwk h
/-! ### new lists -/
theorem mn_lst {es : List Expr} {evs : Env → R Env (List D)} {qs : Bool} (hs : PA X es (RdL X.K qs evs)) :
    PE X (.List es pos) (RdN X.K qs fun env => (evs env).bind fun xs env => if fits xs.length then .ok xs env else .err) := by
  refine pe_imp (pe_lst hs) fun σ H Q h => ?_
  obtain ⟨F, env, as, rel, got⟩ := h
  refine ⟨F, env, as, rel, gotK_mono (gotK_bind got) fun xs env1 g1 vs H1 F1 as1 A1 => ?_⟩
  split at g1
  · rename_i hf
    refine ⟨by rw [sizeLine_n, A1.rp.len]; simpa [fits] using hf, fun p hp => ?_⟩
    have g := Gr.own (o := .lst vs) A1.rel.sub hp
    refine g1 p _ _ as1 ⟨A1.rel.gr g, A1.post.gr2 g, fun z => (A1.qu z).gr g, ?_, A1.rel.sub.none hp, fun h => A1.rel.slots.there p h hp, vs, upd_same, A1.rp⟩
    cases e : H p with
    | none => rfl
    | some o => exact absurd hp (A1.post.th p (by rw [e]; simp))
  · exact g1.elim
/-- a two-place operation whose answer is a new list -/
def rDN (K : Kf) (g : D → D → Option (List D)) : R2 := fun x y H Q => ∃ F p q zs, Sub F H ∧ RpV K F H x p ∧ RpV K F H y q ∧ g p q = some zs ∧ ∀ a vs, H a = none → Rps K F vs zs → Q (.ref a) (upd H a (.lst vs))
def catN (x y : D) : Option (List D) := match x, y with
  | .list xs, .list ys => if fits (xs.length + ys.length) = true then some (xs ++ ys) else none
  | _, _ => none
def repN (x y : D) : Option (List D) := match x, y with
  | .list xs, .int k => if decide (-(2 ^ 63) ≤ k ∧ k < 2 ^ 63) = true ∧ fits (xs.length * k.toNat) = true then some (reps xs k) else none
  | _, _ => none
theorem dop_catN : OpR X (binaryOp .Add) (rDN X.K catN) := by
  intro pins s σ H x y v u Q I rx ry h
  obtain ⟨F, p, q, z, sf, hx, hy, hg, k⟩ := h
  cases p with
  | list xs =>
    cases q with
    | list ys =>
      obtain ⟨hf, e⟩ := ifs (by simpa only [catN] using hg)
      obtain ⟨a, vs, rfl, h1, r1⟩ := hx.list_inv sf
      obtain ⟨b, ws, rfl, h2, r2⟩ := hy.list_inv sf
      have e1 := r1.len
      have e2 := r2.len
      subst e
      refine op_catR pins s σ H _ _ v u Q I rx ry ⟨a, b, vs, ws, rfl, rfl, h1, h2, ?_, fun p hp => k p _ hp (r1.append r2)⟩
      rw [sizeLine_n]
      have : xs.length + ys.length ≤ 16777216 := by simpa [fits] using hf
      omega
    | _ => simp [catN] at hg
  | _ => simp [catN] at hg
theorem dop_repN : OpR X (binaryOp .Mult) (rDN X.K repN) := by
  intro pins s σ H x y v u Q I rx ry h
  obtain ⟨F, p, q, z, sf, hx, hy, hg, k⟩ := h
  cases p with
  | list xs =>
    cases q with
    | int j =>
      obtain ⟨⟨hj, hf⟩, e⟩ := ifs (by simpa only [repN] using hg)
      obtain ⟨a, vs, rfl, h1, r1⟩ := hx.list_inv sf
      rw [hy.int_inv] at ry
      have hj := of_decide_eq_true hj
      have e1 := r1.len
      subst e
      refine op_repR pins s σ H _ _ v u Q I rx ry ⟨a, j, vs, rfl, rfl, h1, hj.1, hj.2, ?_, fun p hp => k p _ hp (r1.flat j.toNat)⟩
      rw [sizeLine_n, e1]; simpa [fits] using hf
    | _ => simp [repN] at hg
  | _ => simp [repN] at hg
theorem mn_bin {o' : Operator} {g : D → D → Option (List D)} (ho : OpR X (binaryOp o') (rDN X.K g)) (hv : va = true → qb = true) (ha : PE X a (RdE X.K va qa eva)) (hb : PE X b (RdE X.K vb qb evb)) :
    PE X (.BinOp a o' b pos) (RdN X.K (qa && qb) fun env => (eva env).bind fun x env => (evb env).bind fun y env => .opt (g x y) env) := by
  refine pe_imp (pe_op ho ha hb) fun σ H Q h => ?_
  refine (?_ : tOp _ _ _ σ H Q)
  obtain ⟨F, env, as, rel, got⟩ := h
  refine ⟨F, env, as, rel, gotK_mono (gotK_bind got) fun p env1 g1 v1 H1 F1 as1 A1 => ⟨F1, env1, as1, A1.rel, gotK_mono (gotK_bind g1) fun q env2 g2 v2 H2 F2 as2 A2 => ?_⟩⟩
  obtain ⟨zs, e, k⟩ := gotK_opt g2
  refine ⟨F2, p, q, zs, A2.rel.sub, ?_, A2.rv, e, fun a vs hp r => ?_⟩
  · have r1 := A1.rp
    split at r1
    · exact r1.mono A2.post.sf (A2.qu (hv (by assumption))).sh
    · exact (r1.mono A2.post.sf).v
  · have g := Gr.own (o := .lst vs) A2.rel.sub hp
    have post := A1.post.trans A2.post
    refine k a _ _ as2 ⟨A2.rel.gr g, post.gr2 g, fun z => ?_, ?_, A2.rel.sub.none hp, fun h => A2.rel.slots.there a h hp, vs, upd_same, r⟩
    · have z := Bool.and_eq_true_iff.mp z
      exact ((A1.qu z.1).trans (A2.qu z.2)).gr g
    · cases e : H a with
      | none => rfl
      | some o => exact absurd hp (post.th a (by rw [e]; simp))

/-! ### paths -/
def ixA (a : A) (k : D) : Option A := match a with
  | .lst _ xs => (asI k).bind (L2.atI xs)
  | _ => none
def getA (a : A) : List D → Option A
  | [] => some a
  | k :: ks => (ixA a k).bind fun u => getA u ks
theorem atI_map {α β : Type} (f : α → β) {xs : List α} {i : Int} : L2.atI (xs.map f) i = (L2.atI xs i).map f := by
  unfold L2.atI
  rw [List.length_map]
  cases L2.ixN xs.length i with
  | none => rfl
  | some j => simp
theorem tsOf_map : ∀ xs : List A, tsOf xs = xs.map A.t
  | [] => rfl
  | x :: xs => by simp [tsOf, tsOf_map xs]
theorem ixA_t (a : A) (k : D) : ixT a.t k = (ixA a k).map A.t := by
  cases a with
  | d v x => simp [A.t, ixT, ixA]
  | lst p xs =>
    simp only [A.t, ixT, ixA, tsOf_map]
    cases asI k with
    | none => rfl
    | some i => exact atI_map A.t
  | dic p kvs => simp [A.t, ixT, ixA]
theorem getA_t : ∀ (ks : List D) (a : A), getT a.t ks = (getA a ks).map A.t
  | [], a => rfl
  | k :: ks, a => by
    simp only [getT, getA, ixA_t]
    cases ixA a k with
    | none => rfl
    | some u => exact getA_t ks u
theorem getA_snoc : ∀ (ks : List D) (k : D) (a : A), getA a (ks ++ [k]) = (getA a ks).bind fun n => ixA n k
  | [], k, a => by
    simp only [List.nil_append, getA, Option.bind_some]
    cases ixA a k <;> rfl
  | q :: ks, k, a => by
    simp only [List.cons_append, getA]
    cases ixA a q with
    | none => rfl
    | some u => exact getA_snoc ks k u
theorem getA_ok {K : Kf} {F H : Hp} : ∀ (ks : List D) (a n : A), getA a ks = some n → a.ok K F H → n.ok K F H ∧ ∀ b ∈ n.ad, b ∈ a.ad
  | [], a, n, e, h => by cases e; exact ⟨h, fun _ h => h⟩
  | k :: ks, a, n, e, h => by
    simp only [getA] at e
    obtain ⟨u, e1, e2⟩ := Option.bind_eq_some_iff.mp e
    have hu : u.ok K F H ∧ ∀ b ∈ u.ad, b ∈ a.ad := by
      cases a with
      | lst p xs =>
        simp only [ixA] at e1
        obtain ⟨i, _, e3⟩ := Option.bind_eq_some_iff.mp e1
        obtain ⟨j, _, e4⟩ := atI_mem e3
        have hm := List.mem_of_getElem? e4
        simp only [A.ok] at h
        exact ⟨oksOf_get xs h.2 u hm, fun b hb => by simp only [A.ad, List.mem_cons]; exact .inr (adsOf_mem xs u hm b hb)⟩
      | _ => cases e1
    obtain ⟨h1, h2⟩ := getA_ok ks u n e2 hu.1
    exact ⟨h1, fun b hb => hu.2 b (h2 b hb)⟩
structure AftP (K : Kf) (σ : L2.St) (H F : Hp) (env : Env) (as : AEnv) (i : Nat) (qu : Bool) (ps : List D) (env' : Env) (v : V) (H' F' : Hp) (as' : AEnv) : Prop where
  rel : Rel K F' H' σ env' as'
  post : Post H F as H' F' as'
  qu : qu = true → Qu H env as H' env' as'
  at_ : ∃ a n, as'[i]? = some (some a) ∧ getA a ps = some n ∧ v = n.v
def RdP (K : Kf) (i : Nat) (qu : Bool) (ev : Env → R Env (List D)) : TE := fun σ H Q => ∃ F env as, Rel K F H σ env as ∧ GotK (ev env) fun ps env' => ∀ v H' F' as', AftP K σ H F env as i qu ps env' v H' F' as' → Q v H'
abbrev evP0 (i : Nat) : Env → R Env (List D) := fun env => if ((env.own i).bind fun t => getT t []).isSome = true then .ok [] env else .err
abbrev evP1 (i : Nat) (evk : Env → R Env (List D)) (eva : Env → R Env D) : Env → R Env (List D) := fun env => (evk env).bind fun ps env => (eva env).bind fun q env => if ((env.own i).bind fun t => getT t (ps ++ [q])).isSome = true then .ok (ps ++ [q]) env else .err
theorem mp_name {i : Nat} {x : Str} (hN : X.N[i]? = some x) (hv : Vis X.env.scope x) (hd : (x == ("__debug__" : Str)) = false) (hcd : (x == ("__classdict__" : Str)) = false) : PE X (.Name x pos) (RdP X.K i true (evP0 i)) := by
  refine pe_imp (pe_var hN hv hd hcd) fun σ H Q h => ?_
  obtain ⟨F, env, as, rel, got⟩ := h
  unfold evP0 at got
  split at got
  · rename_i hs
    cases ho : env.own i with
    | none => rw [ho] at hs; cases hs
    | some t =>
      obtain ⟨a, e1, e2, _, _⟩ := rel.own ho
      exact ⟨a.v, e1, gotK_ok got a.v H F as ⟨rel, .rfl, fun _ => .rfl, a, a, e2, rfl, rfl⟩⟩
  · exact got.elim
theorem mp_ix {i : Nat} {o : Expr} {evk : Env → R Env (List D)} {qk : Bool} (hs : notSlice a = true) (hq : qk = true ∧ qa = true) (ho : PE X o (RdP X.K i qk evk)) (ha : PE X a (RdE X.K false qa eva)) :
    PE X (.Subscript o a pos) (RdP X.K i true (evP1 i evk eva)) := by
  refine pe_imp (pe_ix ix_seq ho ha (plainIx hs)) fun σ H Q h => ?_
  refine (?_ : RdP X.K i qk evk σ H fun x H1 => RdE X.K false qa eva σ H1 fun y H2 => rIx X.K x y H2 Q)
  obtain ⟨F, env, as, rel, got⟩ := h
  refine ⟨F, env, as, rel, gotK_mono (gotK_bind got) fun ps env1 g1 v1 H1 F1 as1 A1 => ⟨F1, env1, as1, A1.rel, gotK_mono (gotK_bind g1) fun q env2 g2 v2 H2 F2 as2 A2 => ?_⟩⟩
  split at g2
  · rename_i hs
    have g2 := gotK_ok g2
    have q2 := A2.qu hq.2
    obtain ⟨a, n, e1, e2, e3⟩ := A1.at_
    have en := q2.en
    have an := q2.an
    subst en an
    cases ho : env2.own i with
    | none => rw [ho] at hs; cases hs
    | some t =>
      rw [ho] at hs
      obtain ⟨a', f1, f2, f3, f4⟩ := A2.rel.own ho
      rw [e1] at f2
      cases f2
      have hs : (getT t (ps ++ [q])).isSome = true := hs
      rw [← f3, getA_t, getA_snoc, e2] at hs
      cases hn : ixA n q with
      | none => simp [hn] at hs
      | some u =>
        have hgu : getA a (ps ++ [q]) = some u := by rw [getA_snoc, e2]; exact hn
        obtain ⟨ok, _⟩ := getA_ok ps a n e2 f4
        cases n with
        | lst p xs =>
          simp only [ixA] at hn
          obtain ⟨k, hk, hx⟩ := Option.bind_eq_some_iff.mp hn
          have hq' : q = .int k := by cases q <;> simp_all [asI]
          subst hq'
          simp only [A.ok] at ok
          refine .inl ⟨p, vsOf xs, k, u.v, e3, A2.rp0.int_inv, .inl (.of ok.1), ?_, ?_⟩
          · unfold vsOf
            rw [atI_map, hx]; rfl
          · exact g2 _ H2 F2 as2 ⟨A2.rel, A1.post.trans A2.post, fun _ => (A1.qu hq.1).trans q2, a, u, e1, hgu, rfl⟩
        | _ => cases hn
  · exact g2.elim
/-- what stands at a path: data -/
theorem me_peek {i : Nat} {evk : Env → R Env (List D)} {qk : Bool} (ho : PE X a (RdP X.K i qk evk)) : PE X a (RdE X.K false qk fun env => (evk env).bind fun ps env => .opt (((env.own i).bind fun t => getT t ps).bind leaf) env) := by
  refine pe_imp ho fun σ H Q h => ?_
  obtain ⟨F, env, as, rel, got⟩ := h
  refine ⟨F, env, as, rel, gotK_mono (gotK_bind got) fun ps env1 g1 v1 H1 F1 as1 A1 => ?_⟩
  obtain ⟨x, e, k⟩ := gotK_opt g1
  obtain ⟨u, e1, e2⟩ := Option.bind_eq_some_iff.mp e
  obtain ⟨t, e3, e4⟩ := Option.bind_eq_some_iff.mp e1
  obtain ⟨a, n, f1, f2, f3⟩ := A1.at_
  obtain ⟨a', g1, g2, g3, g4⟩ := A1.rel.own e3
  rw [f1] at g2
  cases g2
  rw [← g3, getA_t, f2] at e4
  have e4 : n.t = u := Option.some.inj e4
  obtain ⟨ok, _⟩ := getA_ok ps a n f2 g4
  subst e4
  cases n with
  | d v y =>
    have : y = x := by simpa [A.t, leaf] using e2
    subst this
    simp only [A.ok] at ok
    exact k _ H1 F1 as1 ⟨A1.rel, A1.post, A1.qu, by rw [f3]; exact ok⟩
  | lst p xs => simp [A.t, leaf] at e2
  | dic p xs => simp [A.t, leaf] at e2
theorem leaves_rps {K : Kf} {F H : Hp} : ∀ {xs : List A} {ds : List D}, oksOf K F H xs → leaves (tsOf xs) = some ds → Rps K F (vsOf xs) ds
  | [], ds, _, e => by
    have : ds = [] := by simpa [tsOf, leaves] using e.symm
    subst this; exact .nil
  | x :: xs, ds, h, e => by
    simp only [oksOf] at h
    cases x with
    | d v y =>
      simp only [tsOf, A.t, leaves, Option.map_eq_some_iff] at e
      obtain ⟨r, e1, rfl⟩ := e
      exact Rps.cons (show Rp K F v y by have := h.1; simpa only [A.ok] using this) (leaves_rps h.2 e1)
    | lst p ys => simp [tsOf, A.t, leaves] at e
    | dic p ys => simp [tsOf, A.t, leaves] at e
/-- what stands at a path: a list of data -/
theorem me_view {i : Nat} {evk : Env → R Env (List D)} {qk : Bool} (ho : PE X a (RdP X.K i qk evk)) : PE X a (RdE X.K true qk fun env => (evk env).bind fun ps env => .opt (((env.own i).bind fun t => getT t ps).bind look?) env) := by
  refine pe_imp ho fun σ H Q h => ?_
  obtain ⟨F, env, as, rel, got⟩ := h
  refine ⟨F, env, as, rel, gotK_mono (gotK_bind got) fun ps env1 g1 v1 H1 F1 as1 A1 => ?_⟩
  obtain ⟨x, e, k⟩ := gotK_opt g1
  obtain ⟨u, e1, e2⟩ := Option.bind_eq_some_iff.mp e
  obtain ⟨t, e3, e4⟩ := Option.bind_eq_some_iff.mp e1
  obtain ⟨a, n, f1, f2, f3⟩ := A1.at_
  obtain ⟨a', g1, g2, g3, g4⟩ := A1.rel.own e3
  rw [f1] at g2
  cases g2
  rw [← g3, getA_t, f2] at e4
  have e4 : n.t = u := Option.some.inj e4
  obtain ⟨ok, _⟩ := getA_ok ps a n f2 g4
  subst e4
  cases n with
  | lst p xs =>
    simp only [A.t, look?, lst?, Option.map_eq_some_iff] at e2
    obtain ⟨ds, e5, rfl⟩ := e2
    simp only [A.ok] at ok
    exact k _ H1 F1 as1 ⟨A1.rel, A1.post, A1.qu, by rw [if_pos rfl]; exact .inr ⟨p, _, ds, f3, rfl, ok.1, leaves_rps ok.2 e5⟩⟩
  | d v y =>
    have : y = x := by simpa [A.t, look?] using e2
    subst this
    simp only [A.ok] at ok
    exact k _ H1 F1 as1 ⟨A1.rel, A1.post, A1.qu, by rw [if_pos rfl, f3]; exact .inl ok⟩
  | dic p xs => simp [A.t, look?, lst?] at e2
end
end MP

set_option maxHeartbeats 1000000
namespace MP
open PySem PySem.Spec PyProof.Rows L2
/-! ### new trees -/
structure AftF (K : Kf) (σ : L2.St) (H F : Hp) (env : Env) (as : AEnv) (qu : Bool) (t : T) (env' : Env) (v : V) (H' F' : Hp) (as' : AEnv) : Prop where
  rel : Rel K F' H' σ env' as'
  post : Post H F as H' F' as'
  qu : qu = true → Qu H env as H' env' as'
  tr : ∃ a : A, v = a.v ∧ a.t = t ∧ a.ok K F' H' ∧ a.ad.Nodup ∧ ∀ b ∈ a.ad, F' b = none ∧ b ∉ adE as' ∧ (b ∈ adE as ∨ H b = none)
def RdF (K : Kf) (qu : Bool) (ev : Env → R Env T) : TE := fun σ H Q => ∃ F env as, Rel K F H σ env as ∧ GotK (ev env) fun t env' => ∀ v H' F' as', AftF K σ H F env as qu t env' v H' F' as' → Q v H'
mutual
theorem A.frz {K : Kf} {H : Hp} : ∀ (a : A) {F : Hp} {x : D}, a.ok K F H → a.t.data = some x → Sub F H → ∃ F', Sub F F' ∧ Sub F' H ∧ (∀ b, F' b ≠ none → F b ≠ none ∨ b ∈ a.ad) ∧ Rp K F' a.v x
  | .d v y, F, x, h, e, s => by
    have e : y = x := by simpa [A.t, T.data] using e
    subst e
    simp only [A.ok] at h
    exact ⟨F, .rfl, s, fun b h => .inl h, h⟩
  | .lst p xs, F, x, h, e, s => by
    simp only [A.t, T.data, Option.map_eq_some_iff] at e
    obtain ⟨ds, e1, rfl⟩ := e
    simp only [A.ok] at h
    obtain ⟨F1, s1, s2, h1, r⟩ := frzL xs h.2 e1 s
    refine ⟨L2.upd F1 p (.lst (vsOf xs)), fun b o e => ?_, fun b o e => ?_, fun b hb => ?_, ?_⟩
    · by_cases q : b = p
      · have := s b o e
        rw [q, h.1] at this
        rw [q, upd_same]; exact this
      · rw [upd_ne q]; exact s1 b o e
    · by_cases q : b = p
      · rw [q, upd_same] at e
        rw [q, h.1]; exact e
      · rw [upd_ne q] at e; exact s2 b o e
    · by_cases q : b = p
      · exact .inr (by simp [A.ad, q])
      · rw [upd_ne q] at hb
        rcases h1 b hb with z | z
        · exact .inl z
        · exact .inr (by simp [A.ad, z])
    · refine Rp.lst (.inl (.inl upd_same)) (r.mono fun b o e => ?_)
      by_cases q : b = p
      · have := s2 b o e
        rw [q, h.1] at this
        rw [q, upd_same]; exact this
      · rw [upd_ne q]; exact e
  | .dic p xs, F, x, h, e, s => by simp [A.t, T.data] at e
theorem frzL {K : Kf} {H : Hp} : ∀ (xs : List A) {F : Hp} {ds : List D}, oksOf K F H xs → datas (tsOf xs) = some ds → Sub F H → ∃ F', Sub F F' ∧ Sub F' H ∧ (∀ b, F' b ≠ none → F b ≠ none ∨ b ∈ adsOf xs) ∧ Rps K F' (vsOf xs) ds
  | [], F, ds, h, e, s => by
    have e : [] = ds := by simpa [tsOf, datas] using e
    subst e
    exact ⟨F, .rfl, s, fun b h => .inl h, .nil⟩
  | a :: xs, F, ds, h, e, s => by
    simp only [oksOf] at h
    simp only [tsOf, datas] at e
    cases e1 : a.t.data with
    | none => rw [e1] at e; cases e
    | some x =>
      cases e2 : datas (tsOf xs) with
      | none => rw [e1, e2] at e; cases e
      | some ys =>
        rw [e1, e2] at e
        have e : x :: ys = ds := Option.some.inj e
        subst e
        obtain ⟨F1, s1, s2, h1, r1⟩ := A.frz a h.1 e1 s
        obtain ⟨F2, s3, s4, h2, r2⟩ := frzL xs (oks_mono s1 xs (fun _ _ _ e => e) h.2) e2 s2
        refine ⟨F2, s1.trans s3, s4, fun b hb => ?_, .cons (r1.mono s3) r2⟩
        rcases h2 b hb with z | z
        · rcases h1 b z with z | z
          · exact .inl z
          · exact .inr (by simp [adsOf, z])
        · exact .inr (by simp [adsOf, z])
end
theorem Rel.frzs {K : Kf} {F F' H : Hp} {σ : L2.St} {env : Env} {as : AEnv} (r : Rel K F H σ env as) (s1 : Sub F F') (s2 : Sub F' H) (h : ∀ b, F' b ≠ none → F b ≠ none ∨ b ∉ adE as) : Rel K F' H σ env as :=
  ⟨s2, r.slots.mono s1 fun _ _ _ e => e, r.nd, fun b hb => by
    cases e : F' b with
    | none => rfl
    | some o =>
      rcases h b (by rw [e]; simp) with z | z
      · exact absurd (r.fr b hb) z
      · exact absurd hb z⟩
section
variable {X : Cx} {a b c e : Expr} {pos : Pos} {eva evb evc : Env → R Env D} {va vb vc qa qb qc qu : Bool}
theorem me_frz {ev : Env → R Env T} (h : PE X e (RdF X.K qu ev)) : PE X e (RdE X.K false qu fun env => (ev env).bind fun t env => .opt t.data env) := by
  refine pe_imp h fun σ H Q h => ?_
  obtain ⟨F, env, as, rel, got⟩ := h
  refine ⟨F, env, as, rel, gotK_mono (gotK_bind got) fun t env1 g v H1 F1 as1 A => ?_⟩
  obtain ⟨x, e, k⟩ := gotK_opt g
  obtain ⟨a, rfl, rfl, ok, nd, ap⟩ := A.tr
  obtain ⟨F2, s1, s2, h1, r⟩ := a.frz ok e A.rel.sub
  refine k _ H1 F2 as1 ⟨A.rel.frzs s1 s2 fun b hb => ?_, ⟨A.post.sf.trans s1, A.post.fr, A.post.on, fun b hb => ?_, A.post.th⟩, A.qu, r⟩
  · rcases h1 b hb with z | z
    · exact .inl z
    · exact .inr (ap b z).2.1
  · rcases h1 b hb with z | z
    · exact A.post.fn b z
    · exact .inr (ap b z).2.2
theorem ofN_F {K : Kf} {ev : Env → R Env (List D)} {σ : L2.St} {H : Hp} {Q : VK} (h : RdF K qu (fun env => (ev env).bind fun xs env => .ok (.lst (xs.map .d)) env) σ H Q) : RdN K qu ev σ H Q := by
  obtain ⟨F, env, as, rel, got⟩ := h
  refine ⟨F, env, as, rel, gotK_mono (gotK_bind got) fun xs env1 g p H1 F1 as1 N => ?_⟩
  obtain ⟨vs, h1, r⟩ := N.lst
  obtain ⟨l1, l2, l3, l4⟩ := leaves_ok (H := H1) r
  refine g _ H1 F1 as1 ⟨N.rel, N.post, N.qu, .lst p (leavesOf vs xs), rfl, by simp only [A.t, l3], ?_, ?_, fun b hb => ?_⟩
  · simp only [A.ok, l2]; exact ⟨h1, l1⟩
  · simp only [A.ad, l4]; simp
  · have : b = p := by simpa [A.ad, l4] using hb
    subst this
    exact ⟨N.nf, N.na, .inr N.new⟩
theorem mf_ofN {ev : Env → R Env (List D)} (h : PE X e (RdN X.K qu ev)) : PE X e (RdF X.K qu fun env => (ev env).bind fun xs env => .ok (.lst (xs.map .d)) env) := pe_imp h fun _ _ _ h => ofN_F h
/-- a tree apart from the state stays as it is -/
theorem A.keep {K : Kf} {H F H' F' : Hp} {as as' : AEnv} (p : Post H F as H' F' as') {a : A} (ok : a.ok K F H) (h : ∀ b ∈ a.ad, F b = none ∧ b ∉ adE as) : a.ok K F' H' ∧ ∀ b ∈ a.ad, F' b = none ∧ b ∉ adE as' := by
  refine ⟨A.ok_mono p.sf a (fun b hb o e => p.fr b o e (h b hb).2) ok, fun b hb => ?_⟩
  obtain ⟨h1, h2⟩ := h b hb
  cases e : H b with
  | none => exact absurd e (A.there a ok b hb)
  | some o => exact (p.keep e h1 h2).2
/-! ### lists of new trees -/
structure AftTs (K : Kf) (σ : L2.St) (H F : Hp) (env : Env) (as : AEnv) (qu : Bool) (ts : List T) (env' : Env) (vs : List V) (H' F' : Hp) (as' : AEnv) : Prop where
  rel : Rel K F' H' σ env' as'
  post : Post H F as H' F' as'
  qu : qu = true → Qu H env as H' env' as'
  tr : ∃ xs : List A, vs = vsOf xs ∧ tsOf xs = ts ∧ oksOf K F' H' xs ∧ (adsOf xs).Nodup ∧ ∀ b ∈ adsOf xs, F' b = none ∧ b ∉ adE as' ∧ (b ∈ adE as ∨ H b = none)
def RdTs (K : Kf) (qu : Bool) (ev : Env → R Env (List T)) : TA := fun σ H Q => ∃ F env as, Rel K F H σ env as ∧ GotK (ev env) fun ts env' => ∀ vs H' F' as', AftTs K σ H F env as qu ts env' vs H' F' as' → Q vs H'
theorem mts_nil : PA X [] (RdTs X.K true fun env => .ok [] env) := by
  refine pa_imp pa_nil fun σ H Q h => ?_
  obtain ⟨F, env, as, rel, got⟩ := h
  exact got [] H F as ⟨rel, .rfl, fun _ => .rfl, [], rfl, rfl, trivial, by simp [adsOf], by simp [adsOf]⟩
theorem mts_d {es : List Expr} {evs : Env → R Env (List T)} {qs : Bool} (hn : notStar a = true) (ha : PE X a (RdE X.K false qa eva)) (hs : PA X es (RdTs X.K qs evs)) :
    PA X (a :: es) (RdTs X.K (qa && qs) fun env => (eva env).bind fun x env => (evs env).bind fun ts env => .ok (.d x :: ts) env) := by
  refine pa_imp (pa_cons ha hs (star_cons hn)) fun σ H Q h => ?_
  obtain ⟨F, env, as, rel, got⟩ := h
  refine ⟨F, env, as, rel, gotK_mono (gotK_bind got) fun x env1 g1 v1 H1 F1 as1 A1 => ⟨F1, env1, as1, A1.rel, gotK_mono (gotK_bind g1) fun xs env2 g2 vs H2 F2 as2 A2 => ?_⟩⟩
  obtain ⟨xs, e1, e2, ok, nd, ap⟩ := A2.tr
  refine g2 _ H2 F2 as2 ⟨A2.rel, A1.post.trans A2.post, fun z => ?_, .d v1 x :: xs, ?_, ?_, ?_, ?_, fun b hb => ?_⟩
  · simp only [Bool.and_eq_true] at z
    exact (A1.qu z.1).trans (A2.qu z.2)
  · rw [e1]; rfl
  · simp only [tsOf, A.t, e2]
  · simp only [oksOf, A.ok]; exact ⟨A1.rp0.mono A2.post.sf, ok⟩
  · simpa [adsOf, A.ad] using nd
  · have hb : b ∈ adsOf xs := by simpa [adsOf, A.ad] using hb
    obtain ⟨h1, h2, h3⟩ := ap b hb
    refine ⟨h1, h2, ?_⟩
    rcases h3 with z | z
    · exact A1.post.on b z
    · refine .inr ?_
      cases e : H b with
      | none => rfl
      | some o => exact absurd z (A1.post.th b (by rw [e]; simp))
theorem mts_t {es : List Expr} {evt : Env → R Env T} {evs : Env → R Env (List T)} {qs : Bool} (hn : notStar a = true) (ha : PE X a (RdF X.K qa evt)) (hs : PA X es (RdTs X.K qs evs)) :
    PA X (a :: es) (RdTs X.K (qa && qs) fun env => (evt env).bind fun t env => (evs env).bind fun ts env => .ok (t :: ts) env) := by
  refine pa_imp (pa_cons ha hs (star_cons hn)) fun σ H Q h => ?_
  obtain ⟨F, env, as, rel, got⟩ := h
  refine ⟨F, env, as, rel, gotK_mono (gotK_bind got) fun t env1 g1 v1 H1 F1 as1 A1 => ⟨F1, env1, as1, A1.rel, gotK_mono (gotK_bind g1) fun xs env2 g2 vs H2 F2 as2 A2 => ?_⟩⟩
  obtain ⟨xs, e1, e2, ok, nd, ap⟩ := A2.tr
  obtain ⟨a, f1, f2, f3, f4, f5⟩ := A1.tr
  obtain ⟨k1, k2⟩ := A.keep A2.post f3 fun b hb => ⟨(f5 b hb).1, (f5 b hb).2.1⟩
  refine g2 _ H2 F2 as2 ⟨A2.rel, A1.post.trans A2.post, fun z => ?_, a :: xs, ?_, ?_, ?_, ?_, fun b hb => ?_⟩
  · simp only [Bool.and_eq_true] at z
    exact (A1.qu z.1).trans (A2.qu z.2)
  · rw [e1, f1]; rfl
  · simp only [tsOf, f2, e2]
  · simp only [oksOf]; exact ⟨k1, ok⟩
  · simp only [adsOf]
    refine List.nodup_append.mpr ⟨f4, nd, fun x hx y hy e => ?_⟩
    subst e
    rcases (ap x hy).2.2 with z | z
    · exact (f5 x hx).2.1 z
    · exact absurd z (A.there a f3 x hx)
  · simp only [adsOf, List.mem_append] at hb
    rcases hb with hb | hb
    · exact ⟨(k2 b hb).1, (k2 b hb).2, (f5 b hb).2.2⟩
    · obtain ⟨h1, h2, h3⟩ := ap b hb
      refine ⟨h1, h2, ?_⟩
      rcases h3 with z | z
      · exact A1.post.on b z
      · refine .inr ?_
        cases e : H b with
        | none => rfl
        | some o => exact absurd z (A1.post.th b (by rw [e]; simp))
theorem mf_lst {es : List Expr} {evs : Env → R Env (List T)} {qs : Bool} (hs : PA X es (RdTs X.K qs evs)) :
    PE X (.List es pos) (RdF X.K qs fun env => (evs env).bind fun ts env => if fits ts.length then .ok (.lst ts) env else .err) := by
  refine pe_imp (pe_lst hs) fun σ H Q h => ?_
  obtain ⟨F, env, as, rel, got⟩ := h
  refine ⟨F, env, as, rel, gotK_mono (gotK_bind got) fun ts env1 g1 vs H1 F1 as1 A1 => ?_⟩
  split at g1
  · rename_i hf
    obtain ⟨xs, rfl, rfl, ok, nd, ap⟩ := A1.tr
    refine ⟨by rw [sizeLine_n, vsOf, List.length_map, ← tsOf_length]; simpa [fits] using hf, fun p hp => ?_⟩
    have g := Gr.own (o := .lst (vsOf xs)) A1.rel.sub hp
    have hnew : ∀ b ∈ adsOf xs, b ≠ p := fun b hb q => by
      subst q
      exact absurd hp (oks_there xs ok b hb)
    refine g1 _ _ _ as1 ⟨A1.rel.gr g, A1.post.gr2 g, fun z => (A1.qu z).gr g, .lst p xs, rfl, rfl, ?_, ?_, fun b hb => ?_⟩
    · simp only [A.ok]
      exact ⟨upd_same, oks_mono .rfl xs (fun b hb o e => by rw [upd_ne (hnew b hb)]; exact e) ok⟩
    · simp only [A.ad]
      exact List.nodup_cons.mpr ⟨fun h => hnew p h rfl, nd⟩
    · simp only [A.ad, List.mem_cons] at hb
      rcases hb with rfl | hb
      · refine ⟨A1.rel.sub.none hp, fun h => A1.rel.slots.there b h hp, .inr ?_⟩
        cases e : H b with
        | none => rfl
        | some o => exact absurd hp (A1.post.th b (by rw [e]; simp))
      · exact ap b hb
  · exact g1.elim
end
end MP

set_option maxHeartbeats 1000000
namespace MP
open PySem PySem.Spec PyProof.Rows L2
/-! ### trees at places -/
theorem adE_split : ∀ {as : AEnv} {i : Nat} {a : A}, as[i]? = some (some a) → (adE as).Nodup → a.ad.Nodup ∧ ∀ b ∈ a.ad, b ∉ adE (as.set i none)
  | [], _, _, h, _ => by simp at h
  | none :: r, 0, a, h, _ => by simp at h
  | none :: r, i + 1, a, h, n => by
    simp only [List.set_cons_succ, adE] at n ⊢
    exact adE_split (by simpa using h) n
  | some x :: r, 0, a, h, n => by
    have h : x = a := by simpa using h
    subst h
    simp only [List.set_cons_zero, adE] at n ⊢
    obtain ⟨n1, n2, n3⟩ := List.nodup_append.mp n
    exact ⟨n1, fun b hb hc => n3 b hb b hc rfl⟩
  | some x :: r, i + 1, a, h, n => by
    simp only [List.set_cons_succ, adE] at n ⊢
    obtain ⟨n1, n2, n3⟩ := List.nodup_append.mp n
    have h : r[i]? = some (some a) := by simpa using h
    obtain ⟨k1, k2⟩ := adE_split h n2
    refine ⟨k1, fun b hb hc => ?_⟩
    rcases List.mem_append.mp hc with z | z
    · exact n3 b z b (adE_mem h hb) rfl
    · exact k2 b hb z
theorem adE_put : ∀ {as : AEnv} {i : Nat} {a : A}, (adE (as.set i none)).Nodup → a.ad.Nodup → (∀ b ∈ a.ad, b ∉ adE (as.set i none)) → (adE (as.set i (some a))).Nodup ∧ ∀ b ∈ adE (as.set i (some a)), b ∈ a.ad ∨ b ∈ adE (as.set i none)
  | [], _, _, n, _, _ => by simp [adE]
  | x :: r, 0, a, n, na, h => by
    simp only [List.set_cons_zero, adE] at n h ⊢
    refine ⟨List.nodup_append.mpr ⟨na, n, fun b hb c hc e => h b hb (e ▸ hc)⟩, fun b hb => List.mem_append.mp hb⟩
  | none :: r, i + 1, a, n, na, h => by
    simp only [List.set_cons_succ, adE] at n h ⊢
    exact adE_put n na h
  | some x :: r, i + 1, a, n, na, h => by
    simp only [List.set_cons_succ, adE] at n h ⊢
    obtain ⟨n1, n2, n3⟩ := List.nodup_append.mp n
    obtain ⟨k1, k2⟩ := adE_put n2 na fun b hb hc => h b hb (List.mem_append.mpr (.inr hc))
    refine ⟨List.nodup_append.mpr ⟨n1, k1, fun b hb c hc e => ?_⟩, fun b hb => ?_⟩
    · subst e
      rcases k2 b hc with z | z
      · exact h b z (List.mem_append.mpr (.inl hb))
      · exact n3 b hb b z rfl
    · rcases List.mem_append.mp hb with z | z
      · exact .inr (List.mem_append.mpr (.inl z))
      · rcases k2 b z with z | z
        · exact .inl z
        · exact .inr (List.mem_append.mpr (.inr z))
theorem set_self {α : Type} {xs : List α} {i : Nat} {v : α} (h : xs[i]? = some v) : xs.set i v = xs := by
  apply List.ext_getElem?
  intro j
  by_cases q : i = j
  · subst q
    obtain ⟨hl, _⟩ := List.getElem?_eq_some_iff.mp h
    rw [List.getElem?_set_self hl, h]
  · rw [List.getElem?_set_ne q]
/-- a variable lets its tree go -/
theorem Rel.letGo {K : Kf} {F H : Hp} {σ : L2.St} {env : Env} {as : AEnv} (r : Rel K F H σ env as) {i : Nat} {v : Option V} (h : σ[i]? = some v) : Rel K F H σ (env.set i .no) (as.set i none) := by
  have := r.slots.set (i := i) (v := v) (s := .no) (a := none) trivial
  rw [set_self h] at this
  exact ⟨r.sub, this, r.nd.sublist adE_set_none, fun b hb => r.fr b (adE_set_none.subset hb)⟩
/-- a variable gets a tree -/
theorem Rel.get {K : Kf} {F H : Hp} {σ : L2.St} {env : Env} {as : AEnv} (r : Rel K F H σ env as) {i : Nat} {a : A} (ok : a.ok K F H) (nd : a.ad.Nodup) (ap : ∀ b ∈ a.ad, F b = none ∧ b ∉ adE (as.set i none)) : Rel K F H (σ.set i (some a.v)) (env.set i (.own a.t)) (as.set i (some a)) := by
  obtain ⟨h1, h2⟩ := adE_put (i := i) (a := a) (r.nd.sublist adE_set_none) nd fun b hb => (ap b hb).2
  refine ⟨r.sub, r.slots.set ⟨rfl, rfl, ok⟩, h1, fun b hb => ?_⟩
  rcases h2 b hb with z | z
  · exact (ap b z).1
  · exact r.fr b (adE_set_none.subset z)
/-! ### statements -/
structure AftS (K : Kf) (hs : List Nat) (σ : L2.St) (H F : Hp) (as : AEnv) (env' : Env) (σ' : L2.St) (H' F' : Hp) (as' : AEnv) : Prop where
  rel : Rel K F' H' σ' env' as'
  post : Post H F as H' F' as'
  hs : ∀ i ∈ hs, σ'[i]? = σ[i]?
def RetR (K : Kf) (H : Hp) (as : AEnv) (H' F' : Hp) (as' : AEnv) (v : V) : Ret → Prop
  | .d x => Rp K F' v x
  | .o t => ∃ a : A, v = a.v ∧ a.t = t ∧ a.ok K F' H' ∧ a.ad.Nodup ∧ ∀ b ∈ a.ad, F' b = none ∧ b ∉ adE as' ∧ (b ∈ adE as ∨ H b = none)
def Done (K : Kf) (hs : List Nat) (σ : L2.St) (H F : Hp) (as : AEnv) (fl : Flow) (env' : Env) (D : Ends) : Prop := match fl with
  | .nx => ∀ σ' H' F' as', AftS K hs σ H F as env' σ' H' F' as' → D.nx σ' H'
  | .bk => ∀ σ' H' F' as', AftS K hs σ H F as env' σ' H' F' as' → D.bk σ' H'
  | .ct => ∀ σ' H' F' as', AftS K hs σ H F as env' σ' H' F' as' → D.ct σ' H'
  | .rt r => ∀ σ' H' F' as' v, AftS K hs σ H F as env' σ' H' F' as' → RetR K H as H' F' as' v r → D.rt v H'
def RdS (K : Kf) (hs : List Nat) (ev : Env → R Env Flow) : TS := fun D σ H => ∃ F env as, Rel K F H σ env as ∧ GotK (ev env) fun fl env' => Done K hs σ H F as fl env' D
section
variable {K : Kf} {hs : List Nat} {σ σ1 σ2 : L2.St} {H F H1 F1 H2 F2 : Hp} {env env1 env2 : Env} {as as1 as2 : AEnv} {D : Ends}
theorem AftS.trans (a : AftS K hs σ H F as env1 σ1 H1 F1 as1) (b : AftS K hs σ1 H1 F1 as1 env2 σ2 H2 F2 as2) : AftS K hs σ H F as env2 σ2 H2 F2 as2 :=
  ⟨b.rel, a.post.trans b.post, fun i hi => (b.hs i hi).trans (a.hs i hi)⟩
theorem Post.back {H F H' F' : Hp} {as as' : AEnv} (p : Post H F as H' F' as') {b : Addr} (h : b ∈ adE as' ∨ H' b = none) : b ∈ adE as ∨ H b = none := by
  rcases h with z | z
  · exact p.on b z
  · refine .inr ?_
    cases e : H b with
    | none => rfl
    | some o => exact absurd z (p.th b (by rw [e]; simp))
theorem Done.trans (a : AftS K hs σ H F as env1 σ1 H1 F1 as1) {fl : Flow} (d : Done K hs σ H F as fl env2 D) : Done K hs σ1 H1 F1 as1 fl env2 D := by
  cases fl with
  | nx => exact fun σ' H' F' as' b => d σ' H' F' as' (a.trans b)
  | bk => exact fun σ' H' F' as' b => d σ' H' F' as' (a.trans b)
  | ct => exact fun σ' H' F' as' b => d σ' H' F' as' (a.trans b)
  | rt r =>
    refine fun σ' H' F' as' v b q => d σ' H' F' as' v (a.trans b) ?_
    cases r with
    | d x => exact q
    | o t =>
      obtain ⟨n, e1, e2, e3, e4, e5⟩ := q
      exact ⟨n, e1, e2, e3, e4, fun b hb => ⟨(e5 b hb).1, (e5 b hb).2.1, a.post.back (e5 b hb).2.2⟩⟩
theorem AftS.same (r : Rel K F H σ env as) : AftS K hs σ H F as env σ H F as := ⟨r, .rfl, fun _ _ => rfl⟩
theorem Aft.s {qu vw : Bool} {x : MP.D} {v : V} (a : Aft K σ H F env as vw qu x env1 v H1 F1 as1) : AftS K hs σ H F as env1 σ H1 F1 as1 := ⟨a.rel, a.post, fun _ _ => rfl⟩
theorem AftT.s {qu : Bool} (a : AftT K σ H F env as qu env1 H1 F1 as1) : AftS K hs σ H F as env1 σ H1 F1 as1 := ⟨a.rel, a.post, fun _ _ => rfl⟩
theorem AftI.s {wk qu : Bool} {xs : List MP.D} {J : It} (a : AftI K σ H F env as wk qu xs env1 J H1 F1 as1) : AftS K hs σ H F as env1 σ H1 F1 as1 := ⟨a.rel, a.post, fun _ _ => rfl⟩
end
theorem ps_imp {X : Cx} {st : Stmt} {t t' : TS} (h : PS X st t) (i : ∀ D σ H, t' D σ H → t D σ H) : PS X st t' := ⟨fun pins s σ H D I q => h.run pins s σ H D I (i D σ H q)⟩
theorem pss_imp {X : Cx} {st : List Stmt} {t t' : TS} (h : PSs X st t) (i : ∀ D σ H, t' D σ H → t D σ H) : PSs X st t' := ⟨fun pins s σ H D I q => h.run pins s σ H D I (i D σ H q)⟩
abbrev evSeq (ev1 ev2 : Env → R Env Flow) : Env → R Env Flow := fun env => (ev1 env).bind fun f env => match f with
    | .nx => ev2 env
    | f => .ok f env
section
variable {X : Cx} {hs : List Nat} {st : Stmt} {rest : List Stmt} {a b c e : Expr} {pos : Pos} {eva evc eve : Env → R Env D} {ev1 ev2 : Env → R Env Flow} {va vc qa qc qe : Bool}
theorem mss_nil : PSs X [] (RdS X.K hs fun env => .ok .nx env) := by
  refine pss_imp pss_nil fun D σ H h => ?_
  obtain ⟨F, env, as, rel, got⟩ := h
  exact got σ H F as (.same rel)
theorem mss_cons (h1 : PS X st (RdS X.K hs ev1)) (h2 : PSs X rest (RdS X.K hs ev2)) : PSs X (st :: rest) (RdS X.K hs (evSeq ev1 ev2)) := by
  refine pss_imp (pss_cons h1 h2) fun D σ H h => ?_
  obtain ⟨F, env, as, rel, got⟩ := h
  refine ⟨F, env, as, rel, gotK_mono (gotK_bind got) fun fl env1 g => ?_⟩
  cases fl with
  | nx => exact fun σ1 H1 F1 as1 A => ⟨F1, env1, as1, A.rel, gotK_mono g fun fl env2 d => d.trans A⟩
  | bk => exact gotK_ok g
  | ct => exact gotK_ok g
  | rt r => exact gotK_ok g
theorem ms_pass : PS X (.Pass pos) (RdS X.K hs fun env => .ok .nx env) := by
  refine ps_imp ps_pass fun D σ H h => ?_
  obtain ⟨F, env, as, rel, got⟩ := h
  exact got σ H F as (.same rel)
theorem ms_break : PS X (.Break pos) (RdS X.K hs fun env => .ok .bk env) := by
  refine ps_imp ps_break fun D σ H h => ?_
  obtain ⟨F, env, as, rel, got⟩ := h
  exact got σ H F as (.same rel)
theorem ms_cont : PS X (.Continue pos) (RdS X.K hs fun env => .ok .ct env) := by
  refine ps_imp ps_continue fun D σ H h => ?_
  obtain ⟨F, env, as, rel, got⟩ := h
  exact got σ H F as (.same rel)
theorem ms_doc {x j pos pos'} : PS X (.Expr (.Constant (.str x) j pos) pos') (RdS X.K hs fun env => .ok .nx env) := by
  refine ps_imp ps_doc fun D σ H h => ?_
  obtain ⟨F, env, as, rel, got⟩ := h
  exact got σ H F as (.same rel)
theorem ms_expr (he : PE X e (RdE X.K va qa eva)) (hs' : swapsWith e none pos.line X.env = pure false) : PS X (.Expr e pos) (RdS X.K hs fun env => (eva env).bind fun _ env => .ok .nx env) := by
  refine ps_imp (ps_expr he hs') fun D σ H h => ?_
  obtain ⟨F, env, as, rel, got⟩ := h
  exact ⟨F, env, as, rel, gotK_mono (gotK_bind got) fun x env1 g v H1 F1 as1 A => g σ H1 F1 as1 A.s⟩
theorem ms_ret (he : PE X e (RdE X.K false qe eve)) : PS X (.Return (some e) pos) (RdS X.K hs fun env => (eve env).bind fun x env => .ok (.rt (.d x)) env) := by
  refine ps_imp (ps_ret he) fun D σ H h => ?_
  obtain ⟨F, env, as, rel, got⟩ := h
  exact ⟨F, env, as, rel, gotK_mono (gotK_bind got) fun x env1 g v H1 F1 as1 A => g σ H1 F1 as1 v A.s A.rp0⟩
theorem ms_retN : PS X (.Return none pos) (RdS X.K hs fun env => .ok (.rt (.d .none)) env) := by
  refine ps_imp ps_retN fun D σ H h => ?_
  obtain ⟨F, env, as, rel, got⟩ := h
  exact got σ H F as .non (.same rel) .non
/-- return of a tree of one's own -/
theorem ms_retO {i : Nat} {x : Str} {p2 : Pos} (hn : i ∉ hs) (hN : X.N[i]? = some x) (hv : Vis X.env.scope x) (hd : (x == ("__debug__" : Str)) = false) (hcd : (x == ("__classdict__" : Str)) = false) :
    PS X (.Return (some (.Name x p2)) pos) (RdS X.K hs fun env => match env.own i with
    | some t => .ok (.rt (.o t)) (env.set i .no)
    | none => .err) := by
  refine ps_imp (ps_ret (pe_var hN hv hd hcd)) fun D σ H h => ?_
  obtain ⟨F, env, as, rel, got⟩ := h
  dsimp only at got
  cases ho : env.own i with
  | none => rw [ho] at got; exact got.elim
  | some t =>
    rw [ho] at got
    have got := gotK_ok got
    obtain ⟨a, e1, e2, e3, e4⟩ := rel.own ho
    obtain ⟨n1, n2⟩ := adE_split e2 rel.nd
    exact ⟨a.v, e1, got σ H F (as.set i none) a.v ⟨rel.letGo e1, .less adE_set_none, fun _ _ => rfl⟩ ⟨a, rfl, e3, e4, n1, fun b hb => ⟨rel.fr b (adE_mem e2 hb), n2 b hb, .inl (adE_mem e2 hb)⟩⟩⟩
theorem ms_if {ss tt : List Stmt} (hc : PT X c (RdT X.K qc evc)) (h1 : PSs X ss (RdS X.K hs ev1)) (h2 : PSs X tt (RdS X.K hs ev2)) :
    PS X (.If c ss tt pos) (RdS X.K hs fun env => (evc env).bind fun x env => match truth x with
    | some true => ev1 env
    | some false => ev2 env
    | none => .err) := by
  refine ps_imp (ps_if hc h1 h2) fun D σ H h => ?_
  obtain ⟨F, env, as, rel, got⟩ := h
  refine ⟨F, env, as, rel, ?_⟩
  show GotK ((evc env).bind fun x env => .opt (truth x) env) _
  have got := gotK_bind got
  cases he : evc env with
  | ok x env1 =>
    rw [he] at got
    have got := gotK_ok got
    show GotK (R.opt (truth x) env1) _
    cases ht : truth x with
    | none => rw [ht] at got; exact got
    | some k =>
      rw [ht] at got
      intro H1 F1 as1 A1
      cases k with
      | true => exact ⟨F1, env1, as1, A1.rel, gotK_mono got fun fl env2 d => d.trans A1.s⟩
      | false => exact ⟨F1, env1, as1, A1.rel, gotK_mono got fun fl env2 d => d.trans A1.s⟩
  | exc c ds s => rw [he] at got; exact got
  | err => rw [he] at got; exact got
/-! ### names -/
theorem AftS.sto {K : Kf} {σ : L2.St} {H F : Hp} {env : Env} {as : AEnv} (rel : Rel K F H σ env as) {i : Nat} {v : V} {x : MP.D} (r : Rp K F v x) (hi : i ∉ hs) : AftS K hs σ H F as (env.sto i x) (σ.set i (some v)) H F (as.set i none) :=
  ⟨rel.sto r, .less adE_set_none, fun j hj => by rw [List.getElem?_set_ne (fun e => hi (by rw [e]; exact hj))]⟩
theorem ms_asg {i : Nat} (hi : i ∉ hs) (hset : PS X st (tAsg (RdE X.K false qe eve) (gName i))) :
    PS X st (RdS X.K hs fun env => (eve env).bind fun x env => .ok .nx (env.sto i x)) := by
  refine ps_imp hset fun D σ H h => ?_
  obtain ⟨F, env, as, rel, got⟩ := h
  exact ⟨F, env, as, rel, gotK_mono (gotK_bind got) fun y env1 g v H1 F1 as1 A => g _ H1 F1 _ (A.s.trans (.sto A.rel A.rp0 hi))⟩
theorem bindT_s {K : Kf} {σ : L2.St} {H F : Hp} {env env' : Env} {as : AEnv} {js : List Nat} {x : MP.D} {v : V} {wk : Bool} {Q : L2.St → Hp → Prop} (hwk : wk = true → js.length ≠ 1) (hj : ∀ j ∈ js, j ∉ hs) (h : bindT js x env = some env') (r : RpWk K wk F v x) (rel : Rel K F H σ env as)
    (k : ∀ σ' as', AftS K hs σ H F as env' σ' H F as' → Q σ' H) : gT K js v σ H Q :=
  bindT_ok hwk h r rel fun σ' as' rel' sb hw => k σ' as' ⟨rel', .less sb, fun i hi => by
    have hn : i ∉ js := fun z => hj i z hi
    have e := hw js fun _ z => z
    rw [← (wipe_get (σ := σ') (js := js)).2 hn, e, (wipe_get (σ := σ) (js := js)).2 hn]⟩
/-- a, b = e -/
theorem ms_unp {js : List Nat} {es : List Expr} {k : Nat} {p : Pos} (hj : ∀ j ∈ js, j ∉ hs) (h1 : js.length ≠ 1) (hg : PG X (.Tuple es k p) (gT X.K js)) (he : PE X e (RdE X.K false qe eve)) (hs' : swapsWithSole [.Tuple es k p] e pos.line X.env = pure false) (hw : swappedStores [.Tuple es k p] e X.env = pure none)
    (h2 : (assignEach [.Tuple es k p] X.env).map (·.2) = [assign (.Tuple es k p) X.env]) :
    PS X (.Assign [.Tuple es k p] e pos) (RdS X.K hs fun env => (eve env).bind fun x env => (match x with
    | .tuple xs => (match stos js xs env with
      | some env' => .ok .nx env'
      | none => .err)
    | _ => .err)) := by
  refine ps_imp (ps_asg he hg hs' hw h2) fun D σ H h => ?_
  obtain ⟨F, env, as, rel, got⟩ := h
  refine ⟨F, env, as, rel, gotK_mono (gotK_bind got) fun y env1 g v H1 F1 as1 A => ?_⟩
  cases y with
  | tuple xs =>
    have g : GotK (match stos js xs env1 with
      | some env' => R.ok Flow.nx env'
      | none => .err) _ := g
    cases hst : stos js xs env1 with
    | none => rw [hst] at g; exact g.elim
    | some env2 =>
      rw [hst] at g
      have g := gotK_ok g
      have hb : bindT js (.tuple xs) env1 = some env2 := by
        unfold bindT
        split
        · exact absurd rfl h1
        · exact hst
      exact bindT_s (wk := false) (fun z => (nomatch z)) hj hb A.rp0 A.rel fun σ' as' S => g σ' H1 F1 as' (A.s.trans S)
  | _ => exact g.elim
/-- name = a new tree -/
theorem ms_mk {i : Nat} {evt : Env → R Env T} (hi : i ∉ hs) (hset : PS X st (tAsg (RdF X.K qe evt) (gName i))) :
    PS X st (RdS X.K hs fun env => (evt env).bind fun t env => .ok .nx (env.set i (.own t))) := by
  refine ps_imp hset fun D σ H h => ?_
  obtain ⟨F, env, as, rel, got⟩ := h
  refine ⟨F, env, as, rel, gotK_mono (gotK_bind got) fun t env1 g v H1 F1 as1 A => ?_⟩
  obtain ⟨a, rfl, rfl, ok, nd, ap⟩ := A.tr
  have ap' : ∀ b ∈ a.ad, F1 b = none ∧ b ∉ adE (as1.set i none) := fun b hb => ⟨(ap b hb).1, fun z => (ap b hb).2.1 (adE_set_none.subset z)⟩
  obtain ⟨h1, h2⟩ := adE_put (i := i) (a := a) (A.rel.nd.sublist adE_set_none) nd fun b hb => (ap' b hb).2
  refine g _ H1 F1 (as1.set i (some a)) ⟨A.rel.get ok nd ap', ⟨A.post.sf, A.post.fr, fun b hb => ?_, A.post.fn, A.post.th⟩, fun j hj => by rw [List.getElem?_set_ne (fun e => hi (by rw [e]; exact hj))]⟩
  rcases h2 b hb with z | z
  · exact (ap b z).2.2
  · exact A.post.on b (adE_set_none.subset z)
/-- a tree is data from here on -/
theorem mss_frz {i : Nat} (h : PSs X rest (RdS X.K hs ev2)) : PSs X rest (RdS X.K hs (evSeq (fun env => match (env.own i).bind T.data with
    | some x => .ok .nx (env.sto i x)
    | none => .err) ev2)) := by
  refine pss_imp h fun D σ H h => ?_
  obtain ⟨F, env, as, rel, got⟩ := h
  unfold evSeq at got
  dsimp only at got
  cases hx : (env.own i).bind T.data with
  | none => rw [hx] at got; exact got.elim
  | some x =>
    rw [hx] at got
    obtain ⟨t, ho, ht⟩ := Option.bind_eq_some_iff.mp hx
    obtain ⟨a, e1, e2, e3, e4⟩ := rel.own ho
    subst e3
    obtain ⟨n1, n2⟩ := adE_split e2 rel.nd
    obtain ⟨F2, s1, s2, h1, r⟩ := a.frz e4 ht rel.sub
    have rel1 := (rel.letGo e1).frzs s1 s2 fun b hb => by
      rcases h1 b hb with z | z
      · exact .inl z
      · exact .inr (n2 b z)
    have rel2 := rel1.sto r (i := i)
    rw [set_self e1, List.set_set] at rel2
    have ee : Env.sto (env.set i .no) i x = env.sto i x := by unfold Env.sto; rw [List.set_set]
    rw [ee] at rel2
    have S : AftS X.K hs σ H F as (env.sto i x) σ H F2 (as.set i none) := ⟨rel2, ⟨s1, fun _ _ e _ => e, fun b hb => .inl (adE_set_none.subset hb), fun b hb => by
      rcases h1 b hb with z | z
      · exact .inl z
      · exact .inr (.inl (adE_mem e2 z)), fun _ h => h⟩, fun _ _ => rfl⟩
    exact ⟨F2, _, _, rel2, gotK_mono (show GotK (ev2 (env.sto i x)) _ from got) fun fl env2 d => d.trans S⟩
/-! ### loops -/
abbrev loopBody (js : List Nat) (evb : Env → R Env Flow) : D → Env → R Env Flow := fun x env => match bindT js x env with
    | some env => evb env
    | none => .err
theorem ms_for {tg iter : Expr} {body : List Stmt} {js : List Nat} {evi : Env → R Env (List D)} {evb : Env → R Env Flow} {wk qi : Bool} (hwk : wk = true → js.length ≠ 1) (hj : ∀ j ∈ js, j ∉ hs) (hp : PassesOwn (model X.prog X.w) X.A X.env X.xe) (hc : X.calm = true)
    (hi : PI X tg iter (RdI X.K wk qi evi)) (hg : PG X tg (gT X.K js)) (hb : PSs X body (RdS X.K hs evb)) (hf : ∀ x, foldedSetIterable iter X.env x = pure x) :
    PS X (.For tg iter body [] pos) (RdS X.K hs fun env => (evi env).bind fun xs env => loopL (loopBody js evb) xs env) := by
  refine ps_imp (ps_for hp hc hi hg hb hf) fun D σ H h => ?_
  obtain ⟨F, env, as, rel, got⟩ := h
  refine ⟨F, env, as, rel, gotK_mono (gotK_bind got) fun xs env1 g J H1 F1 as1 A1 => ?_⟩
  have g1 : GotK (loopL (loopBody js evb) xs env1) fun fl e => Done X.K hs σ H1 F1 as1 fl e D := gotK_mono g fun fl e d => d.trans A1.s
  refine ⟨fun i m σ2 H2 => m = xs.length - i ∧ i ≤ xs.length ∧ ∃ F2 env2 as2, Rel X.K F2 H2 σ2 env2 as2 ∧ Sub F1 F2 ∧ GotK (loopL (loopBody js evb) (xs.drop i) env2) fun fl e => Done X.K hs σ2 H2 F2 as2 fl e D,
    ⟨xs.length, rfl, Nat.zero_le _, F1, env1, as1, A1.rel, .rfl, by simpa using g1⟩, ?_⟩
  rintro i m σ2 H2 ⟨rfl, hi, F2, env2, as2, rel2, sb, g2⟩
  obtain ⟨it1, it2⟩ := A1.it i F2 H2 sb rel2.sub
  by_cases hlt : i < xs.length
  · refine .inr ?_
    have hx : xs[i]? = some xs[i] := List.getElem?_eq_getElem hlt
    obtain ⟨go, yl⟩ := it1 _ hx
    refine ⟨go, fun σ3 H3 => ∃ F2 env2 as2, Rel X.K F2 H3 σ3 env2 as2 ∧ Sub F1 F2 ∧ GotK (loopL (loopBody js evb) (xs.drop (i + 1)) env2) fun fl e => Done X.K hs σ3 H3 F2 as2 fl e D, fun σ' H' z => ⟨xs.length - (i + 1), by omega, rfl, hlt, z⟩, fun x H3 y => ?_⟩
    obtain ⟨F3, gr3, r3⟩ := yl x H3 y
    have rel3 := rel2.gr gr3
    have S3 : AftS X.K hs σ2 H2 F2 as2 env2 σ2 H3 F3 as2 := ⟨rel3, gr3.post, fun _ _ => rfl⟩
    rw [List.drop_eq_getElem_cons hlt] at g2
    simp only [loopL] at g2
    have g2 := gotK_bind g2
    cases hb : bindT js xs[i] env2 with
    | none =>
      have es : loopBody js evb xs[i] env2 = .err := by unfold loopBody; rw [hb]
      rw [es] at g2
      exact g2.elim
    | some env3 =>
      have es : loopBody js evb xs[i] env2 = evb env3 := by unfold loopBody; rw [hb]
      rw [es] at g2
      refine bindT_s hwk hj hb r3 rel3 fun σ4 as4 S4 => ⟨F3, env3, as4, S4.rel, gotK_mono g2 fun fl env5 g5 => ?_⟩
      have S := S3.trans S4
      cases fl with
      | nx => exact fun σ5 H5 F5 as5 A5 => ⟨F5, env5, as5, A5.rel, (sb.trans gr3.sf).trans A5.post.sf, gotK_mono g5 fun fl e d => d.trans (S.trans A5)⟩
      | ct => exact fun σ5 H5 F5 as5 A5 => ⟨F5, env5, as5, A5.rel, (sb.trans gr3.sf).trans A5.post.sf, gotK_mono g5 fun fl e d => d.trans (S.trans A5)⟩
      | bk => exact fun σ5 H5 F5 as5 A5 => gotK_ok g5 σ5 H5 F5 as5 (S.trans A5)
      | rt r => exact (gotK_ok g5 : Done X.K hs σ2 H2 F2 as2 (.rt r) env5 D).trans S
  · have e : i = xs.length := by omega
    subst e
    rw [List.drop_length] at g2
    exact .inl ⟨it2 (Nat.le_refl _), gotK_ok g2 σ2 H2 F2 as2 (.same rel2)⟩
theorem ms_while {body : List Stmt} {evb : Env → R Env Flow} {wh : Nat} (hp : PassesOwn (model X.prog X.w) X.A X.env X.xe) (hc : PT X c (RdT X.K qc evc)) (hb : PSs X body (RdS X.K hs evb)) :
    PS X (.While c body [] pos) (RdS X.K hs fun env => whlL (fun env => test (evc env)) evb wh env) := by
  refine ps_imp (ps_while hp hc hb) fun D σ H h => ?_
  obtain ⟨F, env, as, rel, got⟩ := h
  refine ⟨fun n σ2 H2 => ∃ F2 env2 as2, Rel X.K F2 H2 σ2 env2 as2 ∧ GotK (whlL (fun env => test (evc env)) evb n env2) fun fl e => Done X.K hs σ2 H2 F2 as2 fl e D, ⟨wh, F, env, as, rel, got⟩, ?_⟩
  rintro n σ2 H2 ⟨F2, env2, as2, rel2, g2⟩
  cases n with
  | zero => exact g2.elim
  | succ n =>
    simp only [whlL] at g2
    refine ⟨F2, env2, as2, rel2, gotK_mono (gotK_bind g2) fun b env3 g3 H3 F3 as3 A3 => ?_⟩
    cases b with
    | false =>
      rw [if_neg (by decide)] at g3
      rw [if_neg (by decide)]
      exact gotK_ok g3 σ2 H3 F3 as3 A3.s
    | true =>
      rw [if_pos rfl] at g3
      rw [if_pos rfl]
      refine ⟨fun σ4 H4 => ∃ F2 env2 as2, Rel X.K F2 H4 σ4 env2 as2 ∧ GotK (whlL (fun env => test (evc env)) evb n env2) fun fl e => Done X.K hs σ4 H4 F2 as2 fl e D, fun σ' H' z => ⟨n, Nat.lt_succ_self _, z⟩, F3, env3, as3, A3.rel, gotK_mono (gotK_bind g3) fun fl env5 g5 => ?_⟩
      have S : AftS X.K hs σ2 H2 F2 as2 env3 σ2 H3 F3 as3 := A3.s
      cases fl with
      | nx => exact fun σ5 H5 F5 as5 A5 => ⟨F5, env5, as5, A5.rel, gotK_mono g5 fun fl e d => d.trans (S.trans A5)⟩
      | ct => exact fun σ5 H5 F5 as5 A5 => ⟨F5, env5, as5, A5.rel, gotK_mono g5 fun fl e d => d.trans (S.trans A5)⟩
      | bk => exact fun σ5 H5 F5 as5 A5 => gotK_ok g5 σ5 H5 F5 as5 (S.trans A5)
      | rt r => exact (gotK_ok g5 : Done X.K hs σ2 H2 F2 as2 (.rt r) env5 D).trans S
end
end MP

set_option maxHeartbeats 1000000
namespace MP
open PySem PySem.Spec PyProof.Rows L2
/-! ### a node of a tree is changed -/
theorem vsOf_set {xs : List A} {j : Nat} {c : A} (h : ∀ x, xs[j]? = some x → c.v = x.v) : vsOf (xs.set j c) = vsOf xs := by
  unfold vsOf
  apply List.ext_getElem?
  intro k
  rw [List.getElem?_map, List.getElem?_map]
  by_cases q : j = k
  · subst q
    cases e : xs[j]? with
    | none =>
      rw [List.getElem?_eq_none_iff] at e
      rw [List.getElem?_eq_none_iff.mpr (by rw [List.length_set]; exact e)]
    | some x =>
      obtain ⟨hl, _⟩ := List.getElem?_eq_some_iff.mp e
      rw [List.getElem?_set_self hl]
      simp [h x e]
  · rw [List.getElem?_set_ne q]
theorem tsOf_set {xs : List A} {j : Nat} {c : A} : tsOf (xs.set j c) = (tsOf xs).set j c.t := by
  rw [tsOf_map, tsOf_map, List.map_set]
theorem adsOf_set : ∀ {xs : List A} {j : Nat} {x c : A}, xs[j]? = some x → (adsOf xs).Nodup → c.ad.Nodup → (∀ b ∈ c.ad, b ∈ x.ad ∨ b ∉ adsOf xs) →
    (adsOf (xs.set j c)).Nodup ∧ ∀ b ∈ adsOf (xs.set j c), b ∈ c.ad ∨ b ∈ adsOf xs
  | [], _, _, _, h, _, _, _ => by simp at h
  | y :: ys, 0, x, c, h, n, nc, k => by
    have h : y = x := by simpa using h
    subst h
    simp only [List.set_cons_zero, adsOf] at n k ⊢
    obtain ⟨n1, n2, n3⟩ := List.nodup_append.mp n
    refine ⟨List.nodup_append.mpr ⟨nc, n2, fun b hb d hd e => ?_⟩, fun b hb => ?_⟩
    · subst e
      rcases k b hb with z | z
      · exact n3 b z b hd rfl
      · exact z (List.mem_append.mpr (.inr hd))
    · rcases List.mem_append.mp hb with z | z
      · exact .inl z
      · exact .inr (List.mem_append.mpr (.inr z))
  | y :: ys, j + 1, x, c, h, n, nc, k => by
    simp only [List.set_cons_succ, adsOf] at n k ⊢
    obtain ⟨n1, n2, n3⟩ := List.nodup_append.mp n
    have h : ys[j]? = some x := by simpa using h
    have hx := List.mem_of_getElem? h
    obtain ⟨k1, k2⟩ := adsOf_set h n2 nc fun b hb => (k b hb).imp (fun z => z) fun z hc => z (List.mem_append.mpr (.inr hc))
    refine ⟨List.nodup_append.mpr ⟨n1, k1, fun b hb d hd e => ?_⟩, fun b hb => ?_⟩
    · subst e
      rcases k2 b hd with z | z
      · rcases k b z with w | w
        · exact n3 b hb b (adsOf_mem ys x hx b w) rfl
        · exact w (List.mem_append.mpr (.inl hb))
      · exact n3 b hb b z rfl
    · rcases List.mem_append.mp hb with z | z
      · exact .inr (List.mem_append.mpr (.inl z))
      · rcases k2 b z with z | z
        · exact .inl z
        · exact .inr (List.mem_append.mpr (.inr z))
theorem oksOf_set {K : Kf} {F H : Hp} : ∀ {xs : List A} {j : Nat} {c : A}, oksOf K F H xs → c.ok K F H → oksOf K F H (xs.set j c)
  | [], _, _, h, _ => h
  | _ :: _, 0, _, h, hc => by simp only [List.set_cons_zero, oksOf] at h ⊢; exact ⟨hc, h.2⟩
  | _ :: _, j + 1, _, h, hc => by simp only [List.set_cons_succ, oksOf] at h ⊢; exact ⟨h.1, oksOf_set h.2 hc⟩
theorem node_mod {K : Kf} {F H H2 : Hp} {p : Addr} {n n2 : A} {f : T → Option T} (hp : p ∈ n.ad) (hv : n2.v = n.v) (hf : f n.t = some n2.t) (h2 : n2.ok K F H2) (k : ∀ b, b ≠ p → ∀ o, H b = some o → H2 b = some o) (nd2 : n2.ad.Nodup) (E : Addr → Prop) (ap : ∀ b ∈ n2.ad, b ∈ n.ad ∨ E b) :
    ∀ (ps : List D) (a : A), getA a ps = some n → a.ok K F H → a.ad.Nodup → (∀ b, E b → b ∉ a.ad) → ∀ t, modT f a.t ps = some t → ∃ a2 : A, a2.v = a.v ∧ a2.t = t ∧ a2.ok K F H2 ∧ a2.ad.Nodup ∧ ∀ b ∈ a2.ad, b ∈ a.ad ∨ E b := by
  intro ps
  induction ps with
  | nil =>
    intro a e ok nd hE t ht
    cases e
    have ht : f n.t = some t := ht
    rw [hf] at ht
    cases ht
    exact ⟨n2, hv, rfl, h2, nd2, ap⟩
  | cons q ps ih =>
    intro a e ok nd hE t ht
    simp only [getA] at e
    obtain ⟨u, e1, e2⟩ := Option.bind_eq_some_iff.mp e
    simp only [modT] at ht
    rw [ixA_t, e1] at ht
    obtain ⟨w, h3, h4⟩ := Option.bind_eq_some_iff.mp (show (modT f u.t ps).bind (fun v => setT a.t q v) = some t from ht)
    cases a with
    | lst r xs =>
      simp only [ixA] at e1
      obtain ⟨i, hi, hx⟩ := Option.bind_eq_some_iff.mp e1
      obtain ⟨j, hj, hxj⟩ := atI_mem hx
      have hm := List.mem_of_getElem? hxj
      simp only [A.ok] at ok
      simp only [A.ad] at nd
      obtain ⟨nr, nd⟩ := List.nodup_cons.mp nd
      have hu := oksOf_get xs ok.2 u hm
      have ndu : u.ad.Nodup := by
        clear ht h3 h4 e ih hE
        induction xs generalizing j with
        | nil => simp at hm
        | cons y ys ihx =>
          simp only [adsOf] at nd
          obtain ⟨n1, n2', n3⟩ := List.nodup_append.mp nd
          rcases List.mem_cons.mp hm with z | z
          · rw [z]; exact n1
          · have : ∀ (ys : List A), u ∈ ys → (adsOf ys).Nodup → u.ad.Nodup := by
              intro ys
              induction ys with
              | nil => intro h; simp at h
              | cons y ys ih2 =>
                intro h n
                simp only [adsOf] at n
                obtain ⟨m1, m2, _⟩ := List.nodup_append.mp n
                rcases List.mem_cons.mp h with z | z
                · rw [z]; exact m1
                · exact ih2 z m2
            exact this ys z n2'
      have hEx : ∀ b, E b → b ∉ adsOf xs := fun b z hc => hE b z (by simp [A.ad, hc])
      obtain ⟨c2, c3, c4, c5, c6, c7⟩ := ih u e2 hu ndu (fun b z hc => hEx b z (adsOf_mem xs u hm b hc)) w h3
      obtain ⟨gk, gsub⟩ := getA_ok ps u n e2 hu
      have pu : p ∈ u.ad := gsub p hp
      have pxs : p ∈ adsOf xs := adsOf_mem xs u hm p pu
      have rp : r ≠ p := fun e => nr (e ▸ pxs)
      simp only [A.t, setT] at h4
      obtain ⟨i', hi', h5⟩ := Option.bind_eq_some_iff.mp h4
      rw [hi] at hi'
      cases hi'
      obtain ⟨j', hj', h6⟩ := Option.map_eq_some_iff.mp h5
      rw [tsOf_length, hj] at hj'
      cases hj'
      subst h6
      have hst : ∀ b ∈ c2.ad, b ∈ u.ad ∨ b ∉ adsOf xs := fun b hb => (c7 b hb).imp (fun z => z) fun z => hEx b z
      obtain ⟨s1, s2⟩ := adsOf_set hxj nd c6 hst
      refine ⟨.lst r (xs.set j c2), rfl, ?_, ?_, ?_, fun b hb => ?_⟩
      · simp only [A.t, tsOf_set, c4]
      · simp only [A.ok]
        rw [vsOf_set (fun x hx => by rw [hxj] at hx; cases hx; exact c3)]
        refine ⟨k r rp _ ok.1, ?_⟩
        -- the other items do not hold p
        have other : ∀ (m : Nat) (y : A), xs[m]? = some y → m ≠ j → y.ok K F H2 := fun m y hy hne => by
          refine A.ok_mono .rfl y (fun b hb o e => ?_) (oksOf_get xs ok.2 y (List.mem_of_getElem? hy))
          refine k b (fun e2 => ?_) o e
          subst e2
          exact absurd rfl (ads_apart nd hy hxj hne b hb b pu)
        exact oks_of fun m y hy => by
          by_cases q2 : j = m
          · subst q2
            obtain ⟨hl, _⟩ := List.getElem?_eq_some_iff.mp hxj
            rw [List.getElem?_set_self hl] at hy
            cases hy
            exact c5
          · rw [List.getElem?_set_ne q2] at hy
            exact other m y hy fun e => q2 e.symm
      · simp only [A.ad]
        refine List.nodup_cons.mpr ⟨fun h => ?_, s1⟩
        rcases s2 r h with z | z
        · rcases c7 r z with w2 | w2
          · exact nr (adsOf_mem xs u hm r w2)
          · exact hE r w2 (by simp [A.ad])
        · exact nr z
      · simp only [A.ad, List.mem_cons] at hb ⊢
        rcases hb with rfl | hb
        · exact .inl (.inl rfl)
        · rcases s2 b hb with z | z
          · exact (c7 b z).imp (fun w => .inr (adsOf_mem xs u hm b w)) fun w => w
          · exact .inl (.inr z)
    | d v x => cases e1
    | dic r xs => cases e1
where
  ads_apart : ∀ {xs : List A} {m j : Nat} {y u : A}, (adsOf xs).Nodup → xs[m]? = some y → xs[j]? = some u → m ≠ j → ∀ b ∈ y.ad, ∀ c ∈ u.ad, b ≠ c
    | [], _, _, _, _, _, h, _, _ => by simp at h
    | z :: zs, 0, 0, _, _, _, _, _, h => absurd rfl h
    | z :: zs, 0, j + 1, y, u, n, h1, h2, _ => by
      simp only [adsOf] at n
      obtain ⟨_, _, n3⟩ := List.nodup_append.mp n
      have h1 : z = y := by simpa using h1
      subst h1
      exact fun b hb c hc => n3 b hb c (adsOf_mem zs u (List.mem_of_getElem? (by simpa using h2)) c hc)
    | z :: zs, m + 1, 0, y, u, n, h1, h2, _ => by
      simp only [adsOf] at n
      obtain ⟨_, _, n3⟩ := List.nodup_append.mp n
      have h2 : z = u := by simpa using h2
      subst h2
      exact fun b hb c hc e => n3 c hc b (adsOf_mem zs y (List.mem_of_getElem? (by simpa using h1)) b hb) e.symm
    | z :: zs, m + 1, j + 1, y, u, n, h1, h2, h => by
      simp only [adsOf] at n
      obtain ⟨_, n2, _⟩ := List.nodup_append.mp n
      exact ads_apart n2 (by simpa using h1) (by simpa using h2) fun e => h (by rw [e])
  oks_of {K : Kf} {F H : Hp} : ∀ {xs : List A}, (∀ (m : Nat) (y : A), xs[m]? = some y → y.ok K F H) → oksOf K F H xs
    | [], _ => trivial
    | y :: ys, h => ⟨h 0 y rfl, oks_of fun m z hz => h (m + 1) z (by simpa using hz)⟩
theorem Env.set_set {env : Env} {i : Nat} {s t : Slot} : (List.set (List.set env i s) i t) = List.set env i t := List.set_set ..
/-- a list within a variable's tree gets new items -/
theorem chg_ok {K : Kf} {F H : Hp} {σ : L2.St} {env : Env} {as : AEnv} (rel : Rel K F H σ env as) {i : Nat} {a : A} {t' : T} (ha : as[i]? = some (some a)) (hσ : σ[i]? = some (some a.v)) (ok : a.ok K F H) {ps : List MP.D} {p : Addr} {xs xs2 : List A} {f : T → Option T} {E : Addr → Prop}
    (hn : getA a ps = some (.lst p xs)) (hf : f (.lst (tsOf xs)) = some (.lst (tsOf xs2))) (ht : modT f a.t ps = some t') (ok2 : oksOf K F (L2.upd H p (.lst (vsOf xs2))) xs2) (nd2 : (p :: adsOf xs2).Nodup) (ap : ∀ b ∈ adsOf xs2, b ∈ adsOf xs ∨ E b) (hE : ∀ b, E b → F b = none ∧ b ∉ adE as) :
    ∃ a2 : A, a2.v = a.v ∧ p ∈ adE as ∧ Rel K F (L2.upd H p (.lst (vsOf xs2))) σ (env.set i (.own t')) (as.set i (some a2)) ∧ ∀ b ∈ adE (as.set i (some a2)), b ∈ adE as ∨ E b := by
  obtain ⟨n1, n2⟩ := adE_split ha rel.nd
  obtain ⟨g1, g2⟩ := getA_ok ps a _ hn ok
  have pa : p ∈ a.ad := g2 p (by simp [A.ad])
  obtain ⟨a2, h1, h2, h3, h4, h5⟩ := node_mod (K := K) (F := F) (H := H) (H2 := L2.upd H p (.lst (vsOf xs2))) (p := p) (n := .lst p xs) (n2 := .lst p xs2) (f := f) (by simp [A.ad]) rfl (by simpa only [A.t] using hf) (by simp only [A.ok]; exact ⟨upd_same, ok2⟩)
    (fun b hb o e => by rw [upd_ne hb]; exact e) (by simpa only [A.ad] using nd2) E (fun b hb => by
      simp only [A.ad, List.mem_cons] at hb ⊢
      rcases hb with z | z
      · exact .inl (.inl z)
      · exact (ap b z).imp .inr fun w => w) ps a hn ok n1 (fun b z hc => (hE b z).2 (adE_mem ha hc)) t' ht
  have rel1 := (rel.letGo hσ).upd (o := .lst (vsOf xs2)) (rel.fr p (adE_mem ha pa)) (n2 p pa)
  have apart : ∀ b ∈ a2.ad, F b = none ∧ b ∉ adE (as.set i none) := fun b hb => by
    rcases h5 b hb with z | z
    · exact ⟨rel.fr b (adE_mem ha z), n2 b z⟩
    · exact ⟨(hE b z).1, fun w => (hE b z).2 (adE_set_none.subset w)⟩
  have rel2 := rel1.get (i := i) h3 h4 (by rw [List.set_set]; exact apart)
  rw [h1, set_self hσ, h2, Env.set_set, List.set_set] at rel2
  refine ⟨a2, h1, adE_mem ha pa, rel2, fun b hb => ?_⟩
  rcases (adE_put (rel.nd.sublist adE_set_none) h4 fun b hb => (apart b hb).2).2 b hb with z | z
  · exact (h5 b z).imp (fun w => adE_mem ha w) fun w => w
  · exact .inl (adE_set_none.subset z)
theorem Post.chg {H0 F0 H F : Hp} {as0 as as2 : AEnv} (q : Post H0 F0 as0 H F as) {p : Addr} {o : HO} (hp : p ∈ adE as) (h : ∀ b ∈ adE as2, b ∈ adE as ∨ b ∈ adE as0 ∨ H0 b = none) : Post H0 F0 as0 (L2.upd H p o) F as2 :=
  ⟨q.sf, fun b u e ha => by
    rw [upd_ne (show b ≠ p from fun z => by
      subst z
      rcases q.on b hp with w | w
      · exact ha w
      · rw [e] at w; cases w)]
    exact q.fr b u e ha, fun b hb => by
    rcases h b hb with z | z
    · exact q.on b z
    · exact z, q.fn, fun b hb => by
    by_cases z : b = p
    · rw [z, upd_same]; simp
    · rw [upd_ne z]; exact q.th b hb⟩
end MP

set_option maxHeartbeats 1000000
namespace MP
open PySem PySem.Spec PyProof.Rows L2
theorem lstAt_ok {i : Nat} {ps : List D} {env : Env} (h : lstAt i ps env = true) : ∃ t ts, env.own i = some t ∧ getT t ps = some (.lst ts) := by
  unfold lstAt at h
  split at h
  · rename_i ts e
    obtain ⟨t, h1, h2⟩ := Option.bind_eq_some_iff.mp e
    exact ⟨t, ts, h1, h2⟩
  · cases h
theorem guardL_ok {α : Type} {i : Nat} {ps : List D} {env : Env} {k : R Env α} {C : α → Env → Prop} (h : GotK (guardL i ps env k) C) : lstAt i ps env = true ∧ GotK k C := by
  unfold guardL at h
  split at h
  · exact ⟨by assumption, h⟩
  · exact h.elim
theorem modT_get {f : T → Option T} : ∀ {ps : List D} {t t' : T}, modT f t ps = some t' → ∃ u w, getT t ps = some u ∧ f u = some w
  | [], t, t', h => ⟨t, t', rfl, h⟩
  | k :: ps, t, t', h => by
    simp only [modT] at h
    obtain ⟨u, e1, h⟩ := Option.bind_eq_some_iff.mp h
    obtain ⟨v, e2, h⟩ := Option.bind_eq_some_iff.mp h
    obtain ⟨x, w, e3, e4⟩ := modT_get e2
    refine ⟨x, w, ?_, e4⟩
    simp only [getT, e1]
    exact e3
section
variable {K : Kf} {σ : L2.St} {H F H1 F1 H2 F2 : Hp} {env env1 env2 : Env} {as as1 as2 : AEnv} {i : Nat} {ps : List D} {v : V} {qk : Bool}
/-- the node, a list -/
theorem AftP.list (P0 : AftP K σ H F env as i qk ps env1 v H1 F1 as1) (h : lstAt i ps env1 = true) : ∃ p xs a, v = .ref p ∧ as1[i]? = some (some a) ∧ getA a ps = some (.lst p xs) ∧ H1 p = some (.lst (vsOf xs)) := by
  obtain ⟨t, ts, h1, h2⟩ := lstAt_ok h
  obtain ⟨a, n, e1, e2, e3⟩ := P0.at_
  obtain ⟨a', f1, f2, f3, f4⟩ := P0.rel.own h1
  rw [e1] at f2
  cases f2
  rw [← f3, getA_t, e2] at h2
  have h2 : n.t = .lst ts := Option.some.inj h2
  obtain ⟨ok, _⟩ := getA_ok ps a n e2 f4
  cases n with
  | lst p xs =>
    simp only [A.ok] at ok
    exact ⟨p, xs, a, e3, e1, e2, ok.1⟩
  | d v x => simp [A.t] at h2
  | dic p xs => simp [A.t] at h2
/-- the node behind a further evaluation -/
theorem AftP.later (P0 : AftP K σ H F env as i qk ps env1 v H1 F1 as1) {q : Bool} (rel2 : Rel K F2 H2 σ env2 as2) (hq : (q = true ∧ Qu H1 env1 as1 H2 env2 as2) ∨ ps = []) {f : T → Option T} {t' : T} (h : ((env2.own i).bind fun t => modT f t ps) = some t') :
    ∃ a n, as2[i]? = some (some a) ∧ σ[i]? = some (some a.v) ∧ a.ok K F2 H2 ∧ getA a ps = some n ∧ n.v = v ∧ n.ok K F2 H2 ∧ (∃ w, f n.t = some w) ∧ modT f a.t ps = some t' := by
  obtain ⟨t, h1, h2⟩ := Option.bind_eq_some_iff.mp h
  obtain ⟨a2, f1, f2, f3, f4⟩ := rel2.own h1
  obtain ⟨u, w, g1, g2⟩ := modT_get h2
  rw [← f3, getA_t] at g1
  obtain ⟨n, g3, g4⟩ := Option.map_eq_some_iff.mp g1
  obtain ⟨ok, _⟩ := getA_ok ps a2 n g3 f4
  refine ⟨a2, n, f2, f1, f4, g3, ?_, ok, ⟨w, by rw [g4]; exact g2⟩, by rw [f3]; exact h2⟩
  obtain ⟨a, m, e1, e2, e3⟩ := P0.at_
  rcases hq with ⟨_, q⟩ | hq
  · rw [q.an, e1] at f2
    cases f2
    rw [e2] at g3
    cases g3
    exact e3.symm
  · subst hq
    cases e2
    cases g3
    have hσ1 : σ[i]? = some (some a.v) := by
      obtain ⟨l1, l2⟩ := P0.rel.slots.len
      have hl : i < env1.length := by rw [l1, ← l2]; exact (List.getElem?_eq_some_iff.mp e1).1
      obtain ⟨v', a', k1, k2, k3⟩ := P0.rel.slots.get (List.getElem?_eq_getElem hl)
      rw [e1] at k2
      cases k2
      cases hs : env1[i] with
      | own t0 => rw [hs] at k3; rw [k1, k3.1]
      | no => rw [hs] at k3; exact k3.elim
      | val x => rw [hs] at k3; exact k3.elim
    rw [hσ1] at f1
    have : a.v = a2.v := by simpa using f1
    rw [e3, this]
theorem vsOf_append (xs ys : List A) : vsOf (xs ++ ys) = vsOf xs ++ vsOf ys := by unfold vsOf; rw [List.map_append]
end
def notCall : Expr → Bool
  | .Call _ _ _ _ => false
  | _ => true
theorem base_ok {o : Expr} {m : Str} {env : PySem.Env} (h : notCall o = true) : attributeBase o m env (eval o env) = eval o env := by cases o <;> first | rfl | cases h
theorem few_ok {e : Expr} {env : PySem.Env} {cpos : Pos} (h : notStar e = true) : ((backTo cpos (starEach (e :: []) env)).all (fun x => !x.1) && (backToKw cpos (keywordEach [] env)).all (fun x => x.1.isSome)
      && decide ((e :: []).length + ([] : List Keyword).length + (if ([] : List Keyword).isEmpty then 0 else 1) < 30)) = true := by rw [star_cons h]; rfl
section
variable {X : Cx} {hs : List Nat} {o e : Expr} {pos apos cpos : Pos} {i : Nat} {evk : Env → R Env (List D)} {eve : Env → R Env D} {evt : Env → R Env T} {qk qe : Bool}
/-- how the argument may stand to the path: it changes nothing, or the path is a name -/
def PathOk (i : Nat) (q : Bool) (evk : Env → R Env (List D)) : Prop := q = true ∨ evk = evP0 i
theorem PathOk.nil {q : Bool} (h : PathOk i q evk) {env env1 : Env} {ps : List D} (e : evk env = .ok ps env1) : q = true ∨ ps = [] := by
  rcases h with h | h
  · exact .inl h
  · subst h
    unfold evP0 at e
    split at e
    · cases e; exact .inr rfl
    · cases e
theorem gotK_eq {S α : Type} {r : R S α} {C : α → S → Prop} (h : GotK r C) : GotK r fun a s => r = .ok a s ∧ C a s := by
  cases r with
  | ok a s => exact ⟨rfl, h⟩
  | exc c ds s => exact h
  | err => exact h
theorem chg_got {ps : List D} {f : T → Option T} {env : Env} {C : Flow → Env → Prop} (h : GotK (chg i ps f env) C) : ∃ t', ((env.own i).bind fun t => modT f t ps) = some t' ∧ C .nx (env.set i (.own t')) := by
  unfold chg at h
  split at h
  · exact ⟨_, by assumption, h⟩
  · exact h.elim
theorem nodup_item {u : A} : ∀ {ys : List A}, u ∈ ys → (adsOf ys).Nodup → u.ad.Nodup
  | [], h, _ => by simp at h
  | y :: ys, h, n => by
    simp only [adsOf] at n
    obtain ⟨m1, m2, _⟩ := List.nodup_append.mp n
    rcases List.mem_cons.mp h with z | z
    · rw [z]; exact m1
    · exact nodup_item z m2
theorem nodup_sub : ∀ (ps : List MP.D) (a n : A), getA a ps = some n → a.ad.Nodup → n.ad.Nodup
  | [], a, n, e, h => by cases e; exact h
  | k :: ps, a, n, e, h => by
    simp only [getA] at e
    obtain ⟨u, e1, e2⟩ := Option.bind_eq_some_iff.mp e
    cases a with
    | lst p xs =>
      simp only [ixA] at e1
      obtain ⟨i, _, e3⟩ := Option.bind_eq_some_iff.mp e1
      obtain ⟨j, _, e4⟩ := atI_mem e3
      simp only [A.ad] at h
      exact nodup_sub ps u n e2 (nodup_item (List.mem_of_getElem? e4) (List.nodup_cons.mp h).2)
    | d v x => cases e1
    | dic p xs => cases e1
/-- a list at a path is written -/
theorem wr {K : Kf} {σ : L2.St} {H F H2 F2 : Hp} {env2 : Env} {as as2 : AEnv} {ps : List MP.D} {a : A} {p : Addr} {xs : List A} {t' : T} {f : T → Option T} (xs2 : List A) (post : Post H F as H2 F2 as2) (rel2 : Rel K F2 H2 σ env2 as2)
    (n1 : as2[i]? = some (some a)) (n2 : σ[i]? = some (some a.v)) (n3 : a.ok K F2 H2) (n4 : getA a ps = some (.lst p xs)) (n8 : modT f a.t ps = some t') (hf : f (.lst (tsOf xs)) = some (.lst (tsOf xs2)))
    (ok2 : oksOf K F2 H2 xs2) (nd2 : (p :: adsOf xs).Nodup → (adsOf xs2).Nodup) (ap : ∀ b ∈ adsOf xs2, b ∈ adsOf xs ∨ F2 b = none ∧ b ∉ adE as2 ∧ (b ∈ adE as ∨ H b = none)) :
    ∃ as3, AftS K hs σ H F as (env2.set i (.own t')) σ (L2.upd H2 p (.lst (vsOf xs2))) F2 as3 := by
  obtain ⟨q1, _⟩ := adE_split n1 rel2.nd
  have q2 := nodup_sub ps a _ n4 q1
  simp only [A.ad] at q2
  have pin : p ∈ a.ad := (getA_ok ps a _ n4 n3).2 p (by simp [A.ad])
  have pne : p ∉ adsOf xs2 := fun h => by
    rcases ap p h with z | z
    · exact (List.nodup_cons.mp q2).1 z
    · exact z.2.1 (adE_mem n1 pin)
  obtain ⟨a2, b1, b2, b3, b4⟩ := chg_ok rel2 (xs2 := xs2) (E := fun b => F2 b = none ∧ b ∉ adE as2 ∧ (b ∈ adE as ∨ H b = none)) n1 n2 n3 n4 hf n8 (oks_mono .rfl xs2 (fun b hb o e => by
    rw [upd_ne (show b ≠ p from fun z => pne (z ▸ hb))]
    exact e) ok2) (List.nodup_cons.mpr ⟨pne, nd2 q2⟩) ap (fun b z => ⟨z.1, z.2.1⟩)
  exact ⟨_, b3, post.chg b2 fun b hb => (b4 b hb).imp (fun w => w) fun w => w.2.2, fun _ _ => rfl⟩
theorem tsLen {xs : List A} {n : Nat} (h : decide ((tsOf xs).length < n) = true) : (vsOf xs).length < n := by
  have := of_decide_eq_true h
  rw [tsOf_length] at this
  unfold vsOf; rw [List.length_map]; exact this
theorem ms_app (hq : PathOk i qe evk) (hn : notStar e = true) (hb : notCall o = true) (hline : (apos.endLine == cpos.line) = true) (ho : PE X o (RdP X.K i qk evk)) (he : PE X e (RdE X.K false qe eve)) :
    PS X (.Expr (.Call (.Attribute o "append" apos) [e] [] cpos) pos) (RdS X.K hs fun env => (evk env).bind fun ps env => guardL i ps env ((eve env).bind fun x env => chg i ps (fApp (.d x)) env)) := by
  refine ps_imp (ps_expr (pe_bm PySem.F.plainAttrs_list PySem.F.slot_list_append PySem.F.type_list_append mt_append ho (pa_cons he pa_nil (star_cons hn)) (base_ok hb) (few_ok hn) hline (star_cons hn)) rfl) fun D σ H h => ?_
  obtain ⟨F, env, as, rel, got⟩ := h
  refine ⟨F, env, as, rel, gotK_mono (gotK_eq (gotK_bind got)) fun ps env1 ⟨hev, g⟩ v H1 F1 as1 A1 => ?_⟩
  obtain ⟨hl, g⟩ := guardL_ok g
  obtain ⟨p, xs0, a0, hv, _, _, hp1⟩ := A1.list hl
  subst hv
  refine ⟨.inl ⟨rfl, _, .inl (.of hp1)⟩, F1, env1, as1, A1.rel, gotK_mono (gotK_bind g) fun x env2 g2 y H2 F2 as2 A2 => ?_⟩
  obtain ⟨t', ht, k⟩ := chg_got g2
  obtain ⟨a, n, n1, n2, n3, n4, n5, n6, ⟨w, n7⟩, n8⟩ := A1.later A2.rel (q := qe) (by
    rcases hq.nil hev with z | z
    · exact .inl ⟨z, A2.qu z⟩
    · exact .inr z) ht
  cases n with
  | lst p2 xs =>
    have e : p2 = p := by simpa [A.v] using n5
    subst e
    simp only [A.ok] at n6
    simp only [A.t, fApp] at n7
    obtain ⟨hlen, _⟩ := ifs n7
    obtain ⟨as3, S⟩ := wr (hs := hs) (xs ++ [.d y x]) (A1.post.trans A2.post) A2.rel n1 n2 n3 n4 n8 (by
      simp only [fApp]
      rw [if_pos hlen, tsOf_append]
      rfl) (oksOf_append _ _ n6.2 ⟨by simp only [A.ok]; exact A2.rp0, trivial⟩) (fun h => by
      rw [adsOf_append]
      simpa [adsOf, A.ad] using (List.nodup_cons.mp h).2) (fun b hb => by
      rw [adsOf_append] at hb
      exact .inl (by simpa [adsOf, A.ad] using hb))
    refine ⟨p2, vsOf xs, y, rfl, rfl, n6.1, ?_, ?_⟩
    · rw [sizeLine_n]; exact tsLen hlen
    · rw [vsOf_append] at S
      exact k σ _ F2 _ S
  | d v x => simp [A.t, fApp] at n7
  | dic p xs => simp [A.t, fApp] at n7
theorem ms_appT (hq : PathOk i qe evk) (hn : notStar e = true) (hb : notCall o = true) (hline : (apos.endLine == cpos.line) = true) (ho : PE X o (RdP X.K i qk evk)) (he : PE X e (RdF X.K qe evt)) :
    PS X (.Expr (.Call (.Attribute o "append" apos) [e] [] cpos) pos) (RdS X.K hs fun env => (evk env).bind fun ps env => guardL i ps env ((evt env).bind fun t env => chg i ps (fApp t) env)) := by
  refine ps_imp (ps_expr (pe_bm PySem.F.plainAttrs_list PySem.F.slot_list_append PySem.F.type_list_append mt_append ho (pa_cons he pa_nil (star_cons hn)) (base_ok hb) (few_ok hn) hline (star_cons hn)) rfl) fun D σ H h => ?_
  obtain ⟨F, env, as, rel, got⟩ := h
  refine ⟨F, env, as, rel, gotK_mono (gotK_eq (gotK_bind got)) fun ps env1 ⟨hev, g⟩ v H1 F1 as1 A1 => ?_⟩
  obtain ⟨hl, g⟩ := guardL_ok g
  obtain ⟨p, xs0, a0, hv, _, _, hp1⟩ := A1.list hl
  subst hv
  refine ⟨.inl ⟨rfl, _, .inl (.of hp1)⟩, F1, env1, as1, A1.rel, gotK_mono (gotK_bind g) fun t env2 g2 y H2 F2 as2 A2 => ?_⟩
  obtain ⟨t', ht, k⟩ := chg_got g2
  obtain ⟨u, rfl, rfl, uok, und, uap⟩ := A2.tr
  obtain ⟨a, n, n1, n2, n3, n4, n5, n6, ⟨w, n7⟩, n8⟩ := A1.later A2.rel (q := qe) (by
    rcases hq.nil hev with z | z
    · exact .inl ⟨z, A2.qu z⟩
    · exact .inr z) ht
  cases n with
  | lst p2 xs =>
    have e : p2 = p := by simpa [A.v] using n5
    subst e
    have pin : ∀ b ∈ adsOf xs, b ∈ adE as2 := fun b hb => adE_mem n1 ((getA_ok ps a _ n4 n3).2 b (by simp [A.ad, hb]))
    simp only [A.ok] at n6
    simp only [A.t, fApp] at n7
    obtain ⟨hlen, _⟩ := ifs n7
    obtain ⟨as3, S⟩ := wr (hs := hs) (xs ++ [u]) (A1.post.trans A2.post) A2.rel n1 n2 n3 n4 n8 (by
      simp only [fApp]
      rw [if_pos hlen, tsOf_append]
      rfl) (oksOf_append _ _ n6.2 ⟨uok, trivial⟩) (fun h => by
      rw [adsOf_append]
      simp only [adsOf, List.append_nil]
      refine List.nodup_append.mpr ⟨(List.nodup_cons.mp h).2, und, fun b hb c hc e => ?_⟩
      subst e
      exact (uap b hc).2.1 (pin b hb)) (fun b hb => by
      rw [adsOf_append] at hb
      simp only [adsOf, List.append_nil] at hb
      rcases List.mem_append.mp hb with z | z
      · exact .inl z
      · exact .inr ⟨(uap b z).1, (uap b z).2.1, A1.post.back (uap b z).2.2⟩)
    refine ⟨p2, vsOf xs, u.v, rfl, rfl, n6.1, ?_, ?_⟩
    · rw [sizeLine_n]; exact tsLen hlen
    · rw [vsOf_append] at S
      exact k σ _ F2 _ S
  | d v x => simp [A.t, fApp] at n7
  | dic p xs => simp [A.t, fApp] at n7
/-! ### extend -/
def rExtR (K : Kf) : V → List V → Hp → VK → Prop := fun x vs H Q => ∃ l b xs zs, x = .ref l ∧ vs = [.ref b] ∧ H l = some (.lst xs) ∧ (SqL K H b zs ∨ SqT K H b zs) ∧ xs.length + zs.length ≤ sizeLine ∧ Q .non (upd H l (.lst (xs ++ zs)))
theorem mt_extR : MtR X "list.extend" (rExtR X.K) := by
  intro pins s σ H x vs v us Q I rx rv h
  obtain ⟨l, b, xs, zs, rfl, rfl, hH, hB, hz, q⟩ := h
  cases rx
  obtain ⟨u, rfl, ru⟩ := rv.one
  cases ru
  obtain ⟨z, its, n, r, hl, e⟩ := I.lstM hH
  rcases hB with hB | hB
  · obtain ⟨z2, its2, n2, dd2, sl2, r2, hl2, e2⟩ := lstR I hB
    have hsz : its.toArray.size + its2.toArray.size ≤ sizeLine := by rw [List.size_toArray, List.size_toArray]; omega
    have hlong : ¬ (!its.toArray.isEmpty && Builtin.List.listTooLong (its.toArray.size + its2.toArray.size)) = true := by
      rw [notLongL hsz, Bool.and_false]
      exact Bool.false_ne_true
    refine call_meets F.slot_list_extend ⟨_, e, rfl⟩ F.entry_list_extend (F.args_list_extend_2 _ _)
      (list_ext_l l its.toArray n b its2.toArray n2 dd2 sl2 hlong (by rw [List.size_toArray]; omega) (by omega)) ⟨e, e2, ?_⟩
    refine ⟨.non, _, I.lset (its' := its ++ its2) hH e (by simp) (r.append r2) ?_, rfl, q⟩
    rw [List.length_append]
    omega
  · obtain ⟨z2, its2, n2, dd2, sl2, r2, hl2, e2⟩ := tupR I hB
    have hsz : its.toArray.size + its2.toArray.size ≤ sizeLine := by rw [List.size_toArray, List.size_toArray]; omega
    have hlong : ¬ (!its.toArray.isEmpty && Builtin.List.listTooLong (its.toArray.size + its2.toArray.size)) = true := by
      rw [notLongL hsz, Bool.and_false]
      exact Bool.false_ne_true
    refine call_meets F.slot_list_extend ⟨_, e, rfl⟩ F.entry_list_extend (F.args_list_extend_2 _ _)
      (list_ext_t l its.toArray n b its2.toArray n2 dd2 sl2 hlong (by rw [List.size_toArray]; omega) (by omega)) ⟨e, e2, ?_⟩
    refine ⟨.non, _, I.lset (its' := its ++ its2) hH e (by simp) (r.append r2) ?_, rfl, q⟩
    rw [List.length_append]
    omega
theorem ms_ext (hq : PathOk i qe evk) (hn : notStar e = true) (hb : notCall o = true) (hline : (apos.endLine == cpos.line) = true) (ho : PE X o (RdP X.K i qk evk)) (he : PE X e (RdE X.K false qe eve)) :
    PS X (.Expr (.Call (.Attribute o "extend" apos) [e] [] cpos) pos) (RdS X.K hs fun env => (evk env).bind fun ps env => guardL i ps env ((eve env).bind fun x env => extD i ps x env)) := by
  refine ps_imp (ps_expr (pe_bm PySem.F.plainAttrs_list PySem.F.slot_list_extend PySem.F.type_list_extend mt_extR ho (pa_cons he pa_nil (star_cons hn)) (base_ok hb) (few_ok hn) hline (star_cons hn)) rfl) fun D σ H h => ?_
  obtain ⟨F, env, as, rel, got⟩ := h
  refine ⟨F, env, as, rel, gotK_mono (gotK_eq (gotK_bind got)) fun ps env1 ⟨hev, g⟩ v H1 F1 as1 A1 => ?_⟩
  obtain ⟨hl, g⟩ := guardL_ok g
  obtain ⟨p, xs0, a0, hv, _, _, hp1⟩ := A1.list hl
  subst hv
  refine ⟨.inl ⟨rfl, _, .inl (.of hp1)⟩, F1, env1, as1, A1.rel, gotK_mono (gotK_bind g) fun x env2 g2 y H2 F2 as2 A2 => ?_⟩
  have main : ∀ (ys : List MP.D) (b : Addr) (zs : List V), y = .ref b → (SqL X.K H2 b zs ∨ SqT X.K H2 b zs) → Rps X.K F2 zs ys → GotK (chg i ps (fExt (ys.map .d)) env2) (fun fl env' => Done X.K hs σ H F as fl env' D) → rExtR X.K (.ref p) [y] H2 fun _ H3 => D.nx σ H3 := by
    intro ys b zs hy hb2 r2 g2
    subst hy
    obtain ⟨t', ht, k⟩ := chg_got g2
    obtain ⟨a, n, n1, n2, n3, n4, n5, n6, ⟨w, n7⟩, n8⟩ := A1.later A2.rel (q := qe) (by
      rcases hq.nil hev with z | z
      · exact .inl ⟨z, A2.qu z⟩
      · exact .inr z) ht
    obtain ⟨l1, l2, l3, l4⟩ := leaves_ok (H := H2) r2
    cases n with
    | lst p2 xs =>
      have e : p2 = p := by simpa [A.v] using n5
      subst e
      simp only [A.ok] at n6
      simp only [A.t, fExt] at n7
      obtain ⟨hlen, _⟩ := ifs n7
      obtain ⟨as3, S⟩ := wr (hs := hs) (xs ++ leavesOf zs ys) (A1.post.trans A2.post) A2.rel n1 n2 n3 n4 n8 (by
        simp only [fExt]
        rw [if_pos hlen, tsOf_append, l3]) (oksOf_append _ _ n6.2 l1) (fun h => by
        rw [adsOf_append, l4]
        simpa using (List.nodup_cons.mp h).2) (fun b hb => by
        rw [adsOf_append, l4] at hb
        exact .inl (by simpa using hb))
      refine ⟨p2, b, vsOf xs, zs, rfl, rfl, n6.1, hb2, ?_, ?_⟩
      · rw [sizeLine_n]
        have : (tsOf xs).length + (ys.map T.d).length ≤ 16777216 := by simpa [fits] using hlen
        rw [tsOf_length, List.length_map] at this
        unfold vsOf; rw [List.length_map, r2.len]; exact this
      · rw [vsOf_append, l2] at S
        exact k σ _ F2 _ S
    | d v x => simp [A.t, fExt] at n7
    | dic p xs => simp [A.t, fExt] at n7
  cases x with
  | list ys =>
    obtain ⟨b, zs, e, hb2, r2⟩ := A2.rp0.list_inv
    exact main ys b zs e (.inl (sqL_mono A2.rel.sub hb2)) r2 g2
  | tuple ys =>
    obtain ⟨b, zs, e, hb2, r2⟩ := A2.rp0.tup_inv
    exact main ys b zs e (.inr (sqT_mono A2.rel.sub hb2.t)) r2 g2
  | _ => exact g2.elim
/-! ### own[k] = .. -/
theorem modT_put {q : MP.D} {u : T} {xs : List T} {w : T} (h : fPut q u (.lst xs) = some w) : ∃ k j, q = .int k ∧ L2.ixN xs.length k = some j ∧ w = .lst (xs.set j u) := by
  simp only [fPut, setT] at h
  obtain ⟨k, h1, h2⟩ := Option.bind_eq_some_iff.mp h
  obtain ⟨j, h3, h4⟩ := Option.map_eq_some_iff.mp h2
  have : q = .int k := by cases q <;> simp_all [asI]
  exact ⟨k, j, this, h3, h4.symm⟩
theorem put_pg {qx : Bool} {evq : Env → R Env MP.D} {σ : L2.St} {H F : Hp} {env : Env} {as : AEnv} {D : Ends} {v : V} {u : A} (hk : qx = true ∨ evk = evP0 i)
    (rel : Rel X.K F H σ env as) (uv : v = u.v) (uok : u.ok X.K F H) (und : u.ad.Nodup) (uap : ∀ b ∈ u.ad, F b = none ∧ b ∉ adE as)
    {H0 F0 : Hp} {as0 : AEnv} (post0 : Post H0 F0 as0 H F as) (uap0 : ∀ b ∈ u.ad, b ∈ adE as0 ∨ H0 b = none)
    (got : GotK ((evk env).bind fun ps env => (evq env).bind fun q env => chg i ps (fPut q u.t) env) fun fl env' => Done X.K hs σ H0 F0 as0 fl env' D) : gSub (RdP X.K i qk evk) (RdE X.K false qx evq) rSetL v σ H D.nx := by
  refine ⟨F, env, as, rel, gotK_mono (gotK_eq (gotK_bind got)) fun ps env1 ⟨hev, g⟩ w H1 F1 as1 A1 => ⟨F1, env1, as1, A1.rel, gotK_mono (gotK_bind g) fun q env2 g2 y H2 F2 as2 A2 => ?_⟩⟩
  obtain ⟨t', ht, kk⟩ := chg_got g2
  obtain ⟨a, n, n1, n2, n3, n4, n5, n6, ⟨w', n7⟩, n8⟩ := A1.later A2.rel (q := qx) (by
    rcases PathOk.nil (q := qx) hk hev with z | z
    · exact .inl ⟨z, A2.qu z⟩
    · exact .inr z) ht
  obtain ⟨u1, u2⟩ := A.keep A1.post uok uap
  obtain ⟨u3, u4⟩ := A.keep A2.post u1 u2
  cases n with
  | lst p2 xs =>
    have hin := (getA_ok ps a _ n4 n3).2
    simp only [A.ok] at n6
    obtain ⟨k', j, rfl, hj, hw⟩ := modT_put (by simpa only [A.t] using n7)
    rw [tsOf_length] at hj
    have hxs : xs.length = (vsOf xs).length := by unfold vsOf; rw [List.length_map]
    have hjl : j < xs.length := (L2.ixN_seq hj).2.1
    have hget : xs[j]? = some xs[j] := List.getElem?_eq_getElem hjl
    have nin : ∀ b ∈ u.ad, b ∉ adsOf xs := fun b hb hc => (u4 b hb).2 (adE_mem n1 (hin b (by simp [A.ad, hc])))
    have h1 : (p2 :: adsOf xs).Nodup → (adsOf (xs.set j u)).Nodup := fun h => (adsOf_set hget (List.nodup_cons.mp h).2 und fun b hb => .inr (nin b hb)).1
    have h2 : ∀ b ∈ adsOf (xs.set j u), b ∈ adsOf xs ∨ F2 b = none ∧ b ∉ adE as2 ∧ (b ∈ adE as0 ∨ H0 b = none) := fun b hb => by
      obtain ⟨q1, _⟩ := adE_split n1 A2.rel.nd
      have q2 := nodup_sub ps a _ n4 q1
      simp only [A.ad] at q2
      rcases (adsOf_set hget (List.nodup_cons.mp q2).2 und fun b hb => .inr (nin b hb)).2 b hb with z | z
      · exact .inr ⟨(u4 b z).1, (u4 b z).2, uap0 b z⟩
      · exact .inl z
    obtain ⟨as3, S⟩ := wr (hs := hs) (xs.set j u) ((post0.trans A1.post).trans A2.post) A2.rel n1 n2 n3 n4 n8 (by
      rw [tsOf_set]
      simp only [fPut, setT, asI, Option.bind_some, tsOf_length, hj, Option.map_some]) (oksOf_set n6.2 u3) h1 h2
    refine ⟨p2, vsOf xs, k', j, by rw [← n5]; rfl, A2.rp0.int_inv, n6.1, by rw [← hxs]; exact hj, ?_⟩
    have e : vsOf (xs.set j u) = (vsOf xs).set j v := by unfold vsOf; rw [List.map_set, uv]
    rw [← e]
    exact kk σ _ F2 _ S
  | d v x => simp [A.t, fPut, setT] at n7
  | dic p xs => simp [A.t, fPut, setT] at n7
theorem sub_assign {o k : Expr} {tpos : Pos} {env : PySem.Env} (h : notSlice k = true) (v : Value) : assign (.Subscript o k tpos) env v = (do
      let ov ← holding [v] (eval o env)
      let iv ← holding [v, ov] (eval k env)
      standAt tpos
      holding [v, ov, iv] (setItem ov iv v)
      release [v, ov, iv] []) := by cases k <;> first | rfl | cases h
theorem ms_put {k : Expr} {evq : Env → R Env MP.D} {qx : Bool} {tpos : Pos} (hq : PathOk i qx evk) (hk : notSlice k = true) (he : PE X e (RdE X.K false qe eve)) (ho : PE X o (RdP X.K i qk evk)) (hx : PE X k (RdE X.K false qx evq))
    (hsw : swapsWithSole [.Subscript o k tpos] e pos.line X.env = pure false) (hw : swappedStores [.Subscript o k tpos] e X.env = pure none) :
    PS X (.Assign [.Subscript o k tpos] e pos) (RdS X.K hs fun env => (eve env).bind fun x env => (evk env).bind fun ps env => (evq env).bind fun q env => chg i ps (fPut q (.d x)) env) := by
  refine ps_imp (ps_asg he (pg_sub ho hx set_list (sub_assign hk)) hsw hw rfl) fun D σ H h => ?_
  obtain ⟨F, env, as, rel, got⟩ := h
  refine ⟨F, env, as, rel, gotK_mono (gotK_bind got) fun x env1 g v H1 F1 as1 A1 => ?_⟩
  exact put_pg (u := .d v x) hq A1.rel rfl (by simp only [A.ok]; exact A1.rp0) (by simp [A.ad]) (by simp [A.ad]) A1.post (by simp [A.ad]) g
theorem ms_putT {k : Expr} {evq : Env → R Env MP.D} {qx : Bool} {tpos : Pos} (hq : PathOk i qx evk) (hk : notSlice k = true) (he : PE X e (RdF X.K qe evt)) (ho : PE X o (RdP X.K i qk evk)) (hx : PE X k (RdE X.K false qx evq))
    (hsw : swapsWithSole [.Subscript o k tpos] e pos.line X.env = pure false) (hw : swappedStores [.Subscript o k tpos] e X.env = pure none) :
    PS X (.Assign [.Subscript o k tpos] e pos) (RdS X.K hs fun env => (evt env).bind fun t env => (evk env).bind fun ps env => (evq env).bind fun q env => chg i ps (fPut q t) env) := by
  refine ps_imp (ps_asg he (pg_sub ho hx set_list (sub_assign hk)) hsw hw rfl) fun D σ H h => ?_
  obtain ⟨F, env, as, rel, got⟩ := h
  refine ⟨F, env, as, rel, gotK_mono (gotK_bind got) fun t env1 g v H1 F1 as1 A1 => ?_⟩
  obtain ⟨u, rfl, rfl, ok, nd, ap⟩ := A1.tr
  exact put_pg (u := u) hq A1.rel rfl ok nd (fun b hb => ⟨(ap b hb).1, (ap b hb).2.1⟩) A1.post (fun b hb => (ap b hb).2.2) g
end
end MP

set_option maxHeartbeats 1000000
namespace MP
open PySem PySem.Spec PyProof.Rows L2
section
variable {X : Cx} {a b e : Expr} {pos p : Pos} {x : Str} {eva evb : Env → R Env D} {va vb qa qb : Bool} {id T : String} {r : List V → Hp → VK → Prop}
/-- a rule for one argument -/
def R1 (K : Kf) (r : List V → Hp → VK → Prop) (g : D → Option D) : Prop := ∀ F H x p z (Q : VK), Sub F H → RpV K F H x p → g p = some z → (∀ v H' F', Gr F H F' H' → Rp K F' v z → Q v H') → r [x] H Q
def R1N (K : Kf) (r : List V → Hp → VK → Prop) (g : D → Option (List D)) : Prop := ∀ F H x p zs (Q : VK), Sub F H → RpV K F H x p → g p = some zs → (∀ l vs, H l = none → Rps K F vs zs → Q (.ref l) (upd H l (.lst vs))) → r [x] H Q
theorem one_R {g : D → Option D} (hr : R1 X.K r g) {σ : L2.St} {H : Hp} {Q : VK} (h : RdE X.K false qa (fun env => (eva env).bind fun x env => .opt (g x) env) σ H Q) : tCB r (tCons (RdE X.K va qa eva) tNil) σ H Q := by
  obtain ⟨F, env, as, rel, got⟩ := h
  refine ⟨F, env, as, rel, gotK_mono (gotK_bind got) fun y env1 g1 v H1 F1 as1 A1 => ?_⟩
  obtain ⟨z, e, k⟩ := gotK_opt g1
  exact hr F1 H1 v y z Q A1.rel.sub A1.rv e fun w H' F' gr rp => k w H' F' as1 ⟨A1.rel.gr gr, A1.post.gr2 gr, fun q => (A1.qu q).gr gr, rp⟩
theorem one_N {g : D → Option (List D)} (hr : R1N X.K r g) {σ : L2.St} {H : Hp} {Q : VK} (h : RdN X.K qa (fun env => (eva env).bind fun x env => .opt (g x) env) σ H Q) : tCB r (tCons (RdE X.K va qa eva) tNil) σ H Q := by
  obtain ⟨F, env, as, rel, got⟩ := h
  refine ⟨F, env, as, rel, gotK_mono (gotK_bind got) fun y env1 g1 v H1 F1 as1 A1 => ?_⟩
  obtain ⟨z, e, k⟩ := gotK_opt g1
  refine hr F1 H1 v y z Q A1.rel.sub A1.rv e fun l vs hl r => ?_
  have gr := Gr.own (o := .lst vs) A1.rel.sub hl
  refine k l _ F1 as1 ⟨A1.rel.gr gr, A1.post.gr2 gr, fun q => (A1.qu q).gr gr, ?_, A1.rel.sub.none hl, fun h => A1.rel.slots.there l h hl, vs, upd_same, r⟩
  cases e : H l with
  | none => rfl
  | some o => exact absurd hl (A1.post.th l (by rw [e]; simp))
theorem me_callB {g : D → Option D} (hr : R1 X.K r g) (hc : CallR X (.builtin id) r) (hv : bootBuiltins x = some (.builtin id)) (hx : x ≠ "__name__") (hdb : (x == ("__debug__" : Str)) = false) (hg : Gl X x) (hm : X.mg x = none) (hn : notStar a = true) (ha : PE X a (RdE X.K va qa eva)) :
    PE X (.Call (.Name x p) [a] [] pos) (RdE X.K false qa fun env => (eva env).bind fun x env => .opt (g x) env) :=
  pe_imp (pe_callB hc hg hm hv (pa_cons ha pa_nil (star_cons hn)) hx hdb (star_cons hn)) fun σ H Q h => one_R hr h
theorem me_callT {g : D → Option D} (hr : R1 X.K r g) (hc : CallR X (.type T) r) (hv : bootBuiltins x = some (.type T)) (hx : x ≠ "__name__") (hdb : (x == ("__debug__" : Str)) = false) (hg : Gl X x) (hm : X.mg x = none) (hn : notStar a = true) (ha : PE X a (RdE X.K va qa eva)) :
    PE X (.Call (.Name x p) [a] [] pos) (RdE X.K false qa fun env => (eva env).bind fun x env => .opt (g x) env) :=
  pe_imp (pe_callTy hc hg hm hv (pa_cons ha pa_nil (star_cons hn)) hx hdb (star_cons hn)) fun σ H Q h => one_R hr h
theorem mn_callB {g : D → Option (List D)} (hr : R1N X.K r g) (hc : CallR X (.builtin id) r) (hv : bootBuiltins x = some (.builtin id)) (hx : x ≠ "__name__") (hdb : (x == ("__debug__" : Str)) = false) (hg : Gl X x) (hm : X.mg x = none) (hn : notStar a = true) (ha : PE X a (RdE X.K va qa eva)) :
    PE X (.Call (.Name x p) [a] [] pos) (RdN X.K qa fun env => (eva env).bind fun x env => .opt (g x) env) :=
  pe_imp (pe_callB hc hg hm hv (pa_cons ha pa_nil (star_cons hn)) hx hdb (star_cons hn)) fun σ H Q h => one_N hr h
theorem mn_callT {g : D → Option (List D)} (hr : R1N X.K r g) (hc : CallR X (.type T) r) (hv : bootBuiltins x = some (.type T)) (hx : x ≠ "__name__") (hdb : (x == ("__debug__" : Str)) = false) (hg : Gl X x) (hm : X.mg x = none) (hn : notStar a = true) (ha : PE X a (RdE X.K va qa eva)) :
    PE X (.Call (.Name x p) [a] [] pos) (RdN X.K qa fun env => (eva env).bind fun x env => .opt (g x) env) :=
  pe_imp (pe_callTy hc hg hm hv (pa_cons ha pa_nil (star_cons hn)) hx hdb (star_cons hn)) fun σ H Q h => one_N hr h
end
theorem rv_list {K : Kf} {F H : Hp} {v : V} {ds : List D} (s : Sub F H) (r : RpV K F H v (.list ds)) : ∃ a vs, v = .ref a ∧ SqL K H a vs ∧ Rps K F vs ds := by
  obtain ⟨a, vs, e, h, r⟩ := r.list_inv s
  exact ⟨a, vs, e, h, r⟩
theorem r1_len {K : Kf} : R1 K (fun xs H Q => ∃ x n, xs = [x] ∧ LenV K x H n ∧ Q (.int n) H) (b1D .len) := by
  intro F H x p z Q s r e k
  cases p with
  | list xs =>
    cases e
    obtain ⟨a, vs, rfl, h, r⟩ := rv_list s r
    exact ⟨_, vs.length, rfl, .inl ⟨vs, h, rfl⟩, by rw [r.len]; exact k _ H F (.rfl s) (.int _)⟩
  | tuple xs =>
    cases e
    obtain ⟨a, vs, rfl, h, r, _⟩ := r.tup_inv s
    exact ⟨_, vs.length, rfl, .inr ⟨vs, h, rfl⟩, by rw [r.len]; exact k _ H F (.rfl s) (.int _)⟩
  | str t =>
    cases e
    obtain ⟨rfl, o⟩ := r.str_inv
    simp only [okS, Bool.and_eq_true, decide_eq_true_eq] at o
    exact ⟨_, t.length, rfl, ⟨by rw [sizeLine_n]; exact o.2, rfl⟩, k _ H F (.rfl s) (.int _)⟩
  | _ => cases e
theorem r1_tuple {K : Kf} : R1 K (fun xs H Q => ∃ p ys, xs = [.ref p] ∧ ((SqL K H p ys ∧ ∀ l o, H l = none → TupAt ys o → Q (.ref l) (upd H l o)) ∨ (SqT K H p ys ∧ Q (.ref p) H))) (b1D .tuple) := by
  intro F H x p z Q s r e k
  cases p with
  | list xs =>
    cases e
    obtain ⟨a, vs, rfl, h, r⟩ := rv_list s r
    exact ⟨a, vs, rfl, .inl ⟨h, fun l o hl ho => by
      obtain ⟨g, q⟩ := newT s hl ho r
      exact k _ _ _ g q⟩⟩
  | tuple xs =>
    cases e
    obtain ⟨a, vs, rfl, h, r, h2⟩ := r.tup_inv s
    exact ⟨a, vs, rfl, .inr ⟨h, k _ H F (.rfl s) (Rp.tup h2 r)⟩⟩
  | _ => cases e
theorem r1n_list {K : Kf} : R1N K (fun xs H Q => ∃ p ys, xs = [.ref p] ∧ (SqL K H p ys ∨ SqT K H p ys) ∧ ∀ l, H l = none → Q (.ref l) (upd H l (.lst ys))) items? := by
  intro F H x p z Q s r e k
  cases p with
  | list xs =>
    cases e
    obtain ⟨a, vs, rfl, h, r⟩ := rv_list s r
    exact ⟨a, vs, rfl, .inl h, fun l hl => k l vs hl r⟩
  | tuple xs =>
    cases e
    obtain ⟨a, vs, rfl, h, r, h2⟩ := r.tup_inv s
    exact ⟨a, vs, rfl, .inr h, fun l hl => k l vs hl r⟩
  | _ => cases e
theorem r1_int {K : Kf} : R1 K (fun xs H Q => (∃ i, xs = [.int i] ∧ Q (.int i) H) ∨ ∃ k, xs = [.bl k] ∧ Q (.int (if k then 1 else 0)) H) (b1D .int) := by
  intro F H x p z Q s r e k
  cases p with
  | int i =>
    cases e
    exact .inl ⟨i, by rw [r.int_inv], k _ H F (.rfl s) (.int _)⟩
  | bool b =>
    cases e
    exact .inr ⟨b, by rw [r.bool_inv], k _ H F (.rfl s) (.int _)⟩
  | _ => cases e
theorem r1_str {K : Kf} : R1 K (fun xs H Q => ∃ i, xs = [.int i] ∧ i.natAbs.log2 < 1920 ∧ Q (.str (toString i)) H) (b1D .str) := by
  intro F H x p z Q s r e k
  cases p with
  | int i =>
    obtain ⟨⟨h1, h2⟩, rfl⟩ := ifs (by simpa only [b1D] using e)
    exact ⟨i, by rw [r.int_inv], of_decide_eq_true h1, k _ H F (.rfl s) (.str h2)⟩
  | _ => cases e
theorem r1_abs {K : Kf} : R1 K (fun xs H Q => ∃ i, xs = [.int i] ∧ Q (.int (if i < 0 then -i else i)) H) (b1D .abs) := by
  intro F H x p z Q s r e k
  cases p with
  | int i =>
    cases e
    exact ⟨i, by rw [r.int_inv], k _ H F (.rfl s) (.int _)⟩
  | _ => cases e
theorem r1_sum {K : Kf} : R1 K (rSum K) (b1D .sum) := by
  intro F H x p z Q s r e k
  cases p with
  | list xs =>
    obtain ⟨ns, h1, rfl⟩ := Option.map_eq_some_iff.mp (by simpa only [b1D] using e)
    have := ints_some h1
    subst this
    obtain ⟨a, vs, rfl, h, r⟩ := rv_list s r
    exact ⟨a, ns, rfl, by rw [← r.ints_inv]; exact h, k _ H F (.rfl s) (.int _)⟩
  | _ => cases e
theorem r1_all {K : Kf} : R1 K (rAll K) (b1D .all) := by
  intro F H x p z Q s r e k
  cases p with
  | list xs =>
    obtain ⟨ns, h1, rfl⟩ := Option.map_eq_some_iff.mp (by simpa only [b1D] using e)
    have := bools_some h1
    subst this
    obtain ⟨a, vs, rfl, h, r⟩ := rv_list s r
    exact ⟨a, ns, rfl, by rw [← r.bools_inv]; exact h, k _ H F (.rfl s) (.bl _)⟩
  | _ => cases e
theorem r1_any {K : Kf} : R1 K (rAny K) (b1D .any) := by
  intro F H x p z Q s r e k
  cases p with
  | list xs =>
    obtain ⟨ns, h1, rfl⟩ := Option.map_eq_some_iff.mp (by simpa only [b1D] using e)
    have := bools_some h1
    subst this
    obtain ⟨a, vs, rfl, h, r⟩ := rv_list s r
    exact ⟨a, ns, rfl, by rw [← r.bools_inv]; exact h, k _ H F (.rfl s) (.bl _)⟩
  | _ => cases e
/-! ### isinstance -/
def tyV? (t : Ty) : String := match t with
  | .str => "str" | .int => "int" | .bool => "bool" | .tuple => "tuple" | .list => "list" | .dict => "dict"
theorem isi_tyx {K : Kf} {F H : Hp} {x : V} {d : D} (s : Sub F H) (r : RpV K F H x d) (t : Ty) : ∃ u : Value, TyX K H x u ∧ PySem.W.kitOne K u (.type (tyV? t)) = some (isTy t d) := by
  cases d with
  | none => rw [r.none_inv]; exact ⟨_, .base .non, by cases t <;> rfl⟩
  | bool b => rw [r.bool_inv]; exact ⟨_, .base (.bl b), by cases t <;> rfl⟩
  | int i => rw [r.int_inv]; exact ⟨_, .base (.int i), by cases t <;> rfl⟩
  | str y => rw [r.str_inv.1]; exact ⟨_, .base (.str y), by cases t <;> rfl⟩
  | list xs =>
    obtain ⟨a, vs, rfl, h, r⟩ := r.list_inv s
    rcases h with (h | ⟨o, h⟩) | ⟨o, its, n, h, hc, _⟩
    · exact ⟨_, .base (.lst h), by cases t <;> rfl⟩
    · exact ⟨_, .base (.frz h), by cases t <;> rfl⟩
    · exact ⟨_, .kList h hc, by cases t <;> rfl⟩
  | tuple xs =>
    obtain ⟨a, vs, rfl, h, r, _⟩ := r.tup_inv s
    rcases h with (h | ⟨o, h⟩) | ⟨o, its, n, h, hc, _⟩
    · exact ⟨_, .base (.tup h), by cases t <;> rfl⟩
    · exact ⟨_, .fTuple h, by cases t <;> rfl⟩
    · exact ⟨_, .kTuple h hc, by cases t <;> rfl⟩
  | dict x => exact r.dict_inv.elim
section
variable {X : Cx} {a : Expr} {pos p p2 : Pos} {x : Str} {eva : Env → R Env D} {va qa : Bool}
theorem me_isi {t : Ty} (hx : x = Str.ofString (tyV? t)) (hg : Gl X "isinstance") (hm : X.mg "isinstance" = none) (hg2 : Gl X x) (hm2 : X.mg x = none) (hn : notStar a = true) (ha : PE X a (RdE X.K va qa eva)) :
    PE X (.Call (.Name "isinstance" p) [a, .Name x p2] [] pos) (RdE X.K false qa fun env => (eva env).bind fun x env => .ok (.bool (isTy t x)) env) := by
  have hb : PE X (.Name x p2) (tC (.ty (tyV? t))) := by
    subst hx
    cases t
    · exact pe_bltn (u := .type "str") hg2 hm2 (by decide +kernel) rfl (by decide) (by decide)
    · exact pe_bltn (u := .type "int") hg2 hm2 (by decide +kernel) rfl (by decide) (by decide)
    · exact pe_bltn (u := .type "bool") hg2 hm2 (by decide +kernel) rfl (by decide) (by decide)
    · exact pe_bltn (u := .type "tuple") hg2 hm2 (by decide +kernel) rfl (by decide) (by decide)
    · exact pe_bltn (u := .type "list") hg2 hm2 (by decide +kernel) rfl (by decide) (by decide)
    · exact pe_bltn (u := .type "dict") hg2 hm2 (by decide +kernel) rfl (by decide) (by decide)
  refine pe_imp (pe_callB call_isi hg hm (by decide +kernel) (pa_cons ha (pa_cons hb pa_nil rfl) (star_cons hn)) (by decide) (by decide) (star_cons hn)) fun σ H Q h => ?_
  obtain ⟨F, env, as, rel, got⟩ := h
  refine ⟨F, env, as, rel, gotK_mono (gotK_bind got) fun y env1 g1 v H1 F1 as1 A1 => ?_⟩
  obtain ⟨u, h1, h2⟩ := isi_tyx A1.rel.sub A1.rv t
  exact ⟨v, .ty (tyV? t), u, .type (tyV? t), isTy t y, rfl, .ty _, h1, h2, gotK_ok g1 _ H1 F1 as1 ⟨A1.rel, A1.post, A1.qu, .bl _⟩⟩
end
end MP

set_option maxHeartbeats 1000000
namespace MP
open PySem PySem.Spec PyProof.Rows L2
/-! ### xs.index(x) -/
def idxR (vs : List V) (y : V) (k : Nat → Prop) : Prop :=
  (∃ (ys : List Str) (z : Str), vs = ys.map V.str ∧ y = .str z ∧ z ∈ ys ∧ k (ys.idxOf z)) ∨ ∃ (ns : List Int) (n : Int), vs = ns.map V.int ∧ y = .int n ∧ n ∈ ns ∧ k (ns.idxOf n)
section
variable {X : Cx} {o e : Expr} {apos cpos pos p : Pos} {to : TE} {t : TA}
def tIndex (K : Kf) (to : TE) (t : TA) : TE := fun σ H Q => to σ H fun x H1 => ∃ a vs, x = .ref a ∧
  ((SqD K H1 a vs ∧ t σ H1 fun xs H2 => ∃ y, xs = [y] ∧ SqD K H2 a vs ∧ idxR vs y fun j => Q (.int (j : Nat)) H2) ∨ (SqL K H1 a vs ∧ t σ H1 fun xs H2 => ∃ y, xs = [y] ∧ SqL K H2 a vs ∧ idxR vs y fun j => Q (.int (j : Nat)) H2))
theorem strsAre {ys : List Str} {us : List Value} (h : Vals (ys.map V.str) us) : StrsAre us ys := strsAre_of h
theorem pe_index (ho : PE X o to) (ha : PA X [e] t) (hbase : attributeBase o "index" X.env (eval o X.env) = eval o X.env) (hn : notStar e = true) (hline : (apos.endLine == cpos.line) = true) :
    PE X (.Call (.Attribute o "index" apos) [e] [] cpos) (tIndex X.K to t) := by
  refine ⟨fun pins s σ H Q I h => ?_⟩
  refine wpAny_Call_method_late hbase (few_ok hn) hline rfl (thn (ho.run pins s σ H _ I h) fun v s1 ⟨x, H1, I1, r1, a, vs, hx, q1⟩ => ?_)
  subst hx
  cases r1
  rcases q1 with ⟨hq, q1⟩ | ⟨hq, q1⟩
  · have hd : s1.TypeIs (.ref a) "tuple" ∧ ∀ b, Value.ref a = .ref b → ∃ ob, s1.heap.get? b = some ob ∧ ob.dict = none := by
      rcases hq with ⟨its, n, sl, hH⟩ | ⟨ob, its, n, h1, h2, h3, h4, _⟩
      · obtain ⟨e1, _⟩ := I1.hok a _ hH
        exact ⟨⟨_, e1, rfl⟩, fun b e => by cases e; exact ⟨_, e1, rfl⟩⟩
      · have e1 := I1.kIn a ob h1
        exact ⟨⟨_, e1, h2⟩, fun b e => by cases e; exact ⟨_, e1, h3⟩⟩
    refine ⟨"tuple", "tuple.index", PySem.F.plainAttrs_tuple, PySem.F.slot_tuple_index, PySem.F.type_tuple_index, hd.1, hd.2, ?_⟩
    have hA := ha.run cpos pins s1 σ H1 _ I1 q1
    rw [star_cons hn] at hA ⊢
    refine Calls.callWith_builtin rfl (Calls.evalArgs_plain ?_)
    refine thn hA fun us s2 ⟨ws, H2, I2, r2, y, hy, hq2, hi⟩ => ?_
    subst hy
    obtain ⟨u, rfl, ru⟩ := r2.one
    obtain ⟨its, rv, pl, hz⟩ := I2.tuple hq2.t
    rcases hi with ⟨ys, z, rfl, rfl, hm, q⟩ | ⟨ns, n, rfl, rfl, hm, q⟩
    · obtain ⟨tk, rfl⟩ := ru
      exact SeqAt.tuple_index_strs (show s2.heap.IsTuple a its.toArray from pl) (strsAre rv) hm ⟨.int _, H2, I2.tok _, ⟨_, rfl⟩, q⟩
    · obtain ⟨tk, rfl⟩ := ru
      exact SeqAt.tuple_index_ints (show s2.heap.IsTuple a its.toArray from pl) (RZ.intsAre_vals rv) hm ⟨.int _, H2, I2.tok _, ⟨_, rfl⟩, q⟩
  · have hd := tyV_is (T := "list") (x := .ref a) (v := .ref a) I1 rfl (.inl ⟨rfl, vs, hq⟩)
    refine ⟨"list", "list.index", PySem.F.plainAttrs_list, PySem.F.slot_list_index, PySem.F.type_list_index, hd.1, hd.2, ?_⟩
    have hA := ha.run cpos pins s1 σ H1 _ I1 q1
    rw [star_cons hn] at hA ⊢
    refine Calls.callWith_builtin rfl (Calls.evalArgs_plain ?_)
    refine thn hA fun us s2 ⟨ws, H2, I2, r2, y, hy, hq2, hi⟩ => ?_
    subst hy
    obtain ⟨u, rfl, ru⟩ := r2.one
    obtain ⟨its, rv, pl, hz⟩ := I2.list hq2
    rcases hi with ⟨ys, z, rfl, rfl, hm, q⟩ | ⟨ns, n, rfl, rfl, hm, q⟩
    · obtain ⟨tk, rfl⟩ := ru
      exact SeqAt.list_index_strs pl.isList (strsAre rv) (by simpa using hz) hm ⟨.int _, H2, I2.tok _, ⟨_, rfl⟩, q⟩
    · obtain ⟨tk, rfl⟩ := ru
      exact SeqAt.list_index_ints pl.isList (RZ.intsAre_vals rv) (by simpa using hz) hm ⟨.int _, H2, I2.tok _, ⟨_, rfl⟩, q⟩
theorem idx_ok {K : Kf} {F H : Hp} {vs : List V} {xs : List D} {y : V} {d z : D} {k : Nat → Prop} {Q : V → Prop} (r : Rps K F vs xs) (hy : Rp K F y d) (h : idx? xs d = some z) (q : ∀ v, Rp K F v z → Q v) : idxR vs y fun j => Q (.int (j : Nat)) := by
  cases d with
  | str t =>
    obtain ⟨ys, h1, h2⟩ := Option.bind_eq_some_iff.mp (by simpa only [idx?] using h)
    obtain ⟨hm, rfl⟩ := ifs h2
    have := strs_some h1
    subst this
    exact .inl ⟨ys, t, r.strs_inv.1, hy.str_inv.1, hm, q _ (.int _)⟩
  | int t =>
    obtain ⟨ys, h1, h2⟩ := Option.bind_eq_some_iff.mp (by simpa only [idx?] using h)
    obtain ⟨hm, rfl⟩ := ifs h2
    have := ints_some h1
    subst this
    exact .inr ⟨ys, t, r.ints_inv, hy.int_inv, hm, q _ (.int _)⟩
  | _ => cases h
variable {eva evb : Env → R Env D} {qa qb : Bool} {a b : Expr}
theorem me_index (hnc : notCall a = true) (hline : (apos.endLine == cpos.line) = true) (hn : notStar b = true) (ha : PE X a (RdE X.K false qa eva)) (hb : PE X b (RdE X.K false qb evb)) :
    PE X (.Call (.Attribute a "index" apos) [b] [] cpos) (RdE X.K false (qa && qb) fun env => (eva env).bind fun x env => (if (items? x).isSome = true then .ok x env else .err : R Env D).bind fun x env => (evb env).bind fun y env => .opt (b2D .index x y) env) := by
  refine pe_imp (pe_index ha (pa_cons hb pa_nil (star_cons hn)) (base_ok hnc) hn hline) fun σ H Q h => ?_
  obtain ⟨F, env, as, rel, got⟩ := h
  refine ⟨F, env, as, rel, gotK_mono (gotK_bind got) fun x env1 g1 v1 H1 F1 as1 A1 => ?_⟩
  have r1 := A1.rp0
  have fin : ∀ {xs : List D} {vs : List V} {y : D} {w : V} {H2 F2 : Hp} {env2 : Env} {as2 : AEnv}, Rps X.K F1 vs xs → (x = .list xs ∨ x = .tuple xs) → Aft X.K σ H1 F1 env1 as1 false qb y env2 w H2 F2 as2 → GotK (.opt (b2D .index x y) env2 : R Env D) (fun z env' => ∀ v H' F' as', Aft X.K σ H F env as false (qa && qb) z env' v H' F' as' → Q v H') → idxR vs w fun j => Q (.int (j : Nat)) H2 := fun {xs vs y w H2 F2 env2 as2} r hx A2 g => by
    obtain ⟨z, e, kk⟩ := gotK_opt g
    have e2 : idx? xs y = some z := by
      rcases hx with hx | hx <;> (rw [hx] at e; exact e)
    refine idx_ok (H := H2) (k := fun _ => True) (Q := fun v => Q v H2) (r.mono A2.post.sf) A2.rp0 e2 fun v rv => kk v H2 F2 as2 ⟨A2.rel, A1.post.trans A2.post, fun q => ?_, rv⟩
    simp only [Bool.and_eq_true] at q
    exact (A1.qu q.1).trans (A2.qu q.2)
  cases x with
  | list xs =>
    obtain ⟨p, vs, e, h1, r⟩ := r1.list_inv
    refine ⟨p, vs, e, .inr ⟨sqL_mono A1.rel.sub h1, F1, env1, as1, A1.rel, gotK_mono (gotK_bind g1) fun y env2 g2 w H2 F2 as2 A2 => ⟨w, rfl, sqL_mono A2.rel.sub (sqL_mono A2.post.sf h1), fin r (.inl rfl) A2 g2⟩⟩⟩
  | tuple xs =>
    obtain ⟨p, vs, e, h1, r⟩ := r1.tup_inv
    refine ⟨p, vs, e, .inl ⟨sqD_mono A1.rel.sub h1, F1, env1, as1, A1.rel, gotK_mono (gotK_bind g1) fun y env2 g2 w H2 F2 as2 A2 => ⟨w, rfl, sqD_mono A2.rel.sub (sqD_mono A2.post.sf h1), fin r (.inr rfl) A2 g2⟩⟩⟩
  | _ => exact g1.elim
/-! ### min, max of two -/
theorem me_two {g : D → D → Option D} {id : String} {gi : Int → Int → Int} (hg : ∀ i j, g (.int i) (.int j) = some (.int (gi i j))) (hg2 : ∀ x y z, g x y = some z → ∃ i j, x = .int i ∧ y = .int j)
    (hc : CallR X (.builtin id) (fun xs H Q => ∃ i j, xs = [.int i, .int j] ∧ Q (.int (gi i j)) H)) {x : Str} (hv : bootBuiltins x = some (.builtin id)) (hx : x ≠ "__name__") (hdb : (x == ("__debug__" : Str)) = false) (hgl : Gl X x) (hm : X.mg x = none) (hn : notStar a = true) (hn2 : notStar b = true) (ha : PE X a (RdE X.K false qa eva)) (hb : PE X b (RdE X.K false qb evb)) :
    PE X (.Call (.Name x p) [a, b] [] pos) (RdE X.K false (qa && qb) fun env => (eva env).bind fun x env => (evb env).bind fun y env => .opt (g x y) env) := by
  refine pe_imp (pe_callB hc hgl hm hv (pa_cons ha (pa_cons hb pa_nil (star_cons hn2)) (star_cons hn)) hx hdb (star_cons hn) (by rw [star_cons hn2]; rfl)) fun σ H Q h => ?_
  obtain ⟨F, env, as, rel, got⟩ := h
  refine ⟨F, env, as, rel, gotK_mono (gotK_bind got) fun x env1 g1 v H1 F1 as1 A1 => ⟨F1, env1, as1, A1.rel, gotK_mono (gotK_bind g1) fun y env2 g2 w H2 F2 as2 A2 => ?_⟩⟩
  obtain ⟨z, e, k⟩ := gotK_opt g2
  obtain ⟨i, j, rfl, rfl⟩ := hg2 x y z e
  rw [hg] at e
  cases e
  refine ⟨i, j, by rw [A1.rp0.int_inv, A2.rp0.int_inv], k _ H2 F2 as2 ⟨A2.rel, A1.post.trans A2.post, fun q => ?_, .int _⟩⟩
  simp only [Bool.and_eq_true] at q
  exact (A1.qu q.1).trans (A2.qu q.2)
end
end MP

set_option maxHeartbeats 1000000
namespace MP
open PySem PySem.Spec PyProof.Rows L2
/-! ### slices with a step -/
theorem Rps.pick {K : Kf} {F : Hp} {vs : List V} {ds : List D} (r : Rps K F vs ds) (f : Nat → Nat) : ∀ (ms : List Nat), Rps K F (ms.filterMap fun m => vs[f m]?) (ms.filterMap fun m => ds[f m]?)
  | [] => .nil
  | m :: ms => by
    rw [List.filterMap_cons, List.filterMap_cons]
    cases e : ds[f m]? with
    | none =>
      rw [List.getElem?_eq_none_iff] at e
      rw [List.getElem?_eq_none_iff.mpr (by rw [r.len]; exact e)]
      exact r.pick f ms
    | some d =>
      obtain ⟨v, h1, h2⟩ := r.get e
      rw [h1]
      exact .cons h2 (r.pick f ms)
theorem vals_pick {vs : List V} {us : List Value} (r : Vals vs us) (f : Nat → Nat) : ∀ (ms : List Nat), Vals (ms.filterMap fun m => vs[f m]?) (ms.filterMap fun m => us[f m]?)
  | [] => .nil
  | m :: ms => by
    rw [List.filterMap_cons, List.filterMap_cons]
    cases e : vs[f m]? with
    | none =>
      rw [List.getElem?_eq_none_iff] at e
      rw [List.getElem?_eq_none_iff.mpr (by rw [← r.length]; exact e)]
      exact vals_pick r f ms
    | some d =>
      obtain ⟨v, h1, h2⟩ := r.get e
      rw [h1]
      exact .cons h2 (vals_pick r f ms)
def SlS (X : Cx) (r : V → Option Int → Option Int → Int → Hp → VK → Prop) : Prop :=
  ∀ (pins : List (Addr × Obj)) (s : Shared) (σ : L2.St) (H : Hp) (x : V) (v vl vu vs : Value) (lo hi : Option Int) (k : Int) (sl : Addr) (Q : VK), Inv X pins σ H s → RelV x v → s.heap.IsSliceOf sl vl vu vs → IsPart vl lo → IsPart vu hi → IsPart vs (some k) → r x lo hi k H Q →
    ∃ T id, typeLookup (.type T) "__getitem__" = pure (some (.builtin id)) ∧ s.TypeIs v T ∧ wpAny (model X.prog X.w) X.A (getItem v (.ref sl)) (EP X pins σ Q) X.xe s
def tSlS (r : V → Option Int → Option Int → Int → Hp → VK → Prop) (te : TE) (tl th ts : TO) : TE := fun σ H Q => te σ H fun x H1 => tl σ H1 fun l H2 => th σ H2 fun u H3 => ts σ H3 fun k H4 => ∃ j, k = some j ∧ r x l u j H4 Q
section
variable {X : Cx}
theorem pe_sliceS {e : Expr} {lo hi : Option Expr} {st : Expr} {p2 pos : Pos} {te : TE} {tl th ts : TO} {r : V → Option Int → Option Int → Int → Hp → VK → Prop} (hr : SlS X r) (he : PE X e te) (hl : PO X lo tl) (hu : PO X hi th) (hs : PO X (some st) ts) : PE X (.Subscript e (.Slice lo hi (some st) p2) pos) (tSlS r te tl th ts) := by
  refine ⟨fun pins s σ H Q I h => ?_⟩
  refine Subscript_ (thn (he.run pins s σ H _ I h) fun v s1 ⟨x, H1, I1, r1, q1⟩ => ?_)
  refine wpAny_Slice (thn (hl.run pins s1 σ H1 _ I1 q1) fun vl s2 ⟨l, H2, I2, pl, q2⟩ => thn (hu.run pins s2 σ H2 _ I2 q2) fun vu s3 ⟨u, H3, I3, pu, q3⟩ => thn (hs.run pins s3 σ H3 _ I3 q3) fun vs s4 ⟨k, H4, I4, ps, j, ej, q4⟩ => ?_)
  subst ej
  have I5 : Inv X pins σ H4 { s4 with heap := s4.heap.push { cls := .type "slice", data := .fields #[vl, vu, vs] } } := I4.kept (t' := s4.toks) fun b ob q => Heap.get?_push_of_some _ q
  obtain ⟨T, id, hT, ht, hg⟩ := hr pins { s4 with heap := s4.heap.push { cls := .type "slice", data := .fields #[vl, vu, vs] } } σ H4 x v vl vu vs l u j s4.heap.objs.size Q I5 r1 (Heap.IsSliceOf.new ..) pl pu ps q4
  show wpAny (model X.prog X.w) X.A (subscriptTail e (.Slice lo hi (some st) p2) v (.ref s4.heap.objs.size)) (EP X pins σ Q) X.xe { s4 with heap := s4.heap.push { cls := .type "slice", data := .fields #[vl, vu, vs] } }
  exact tail_any (ops := [v, .ref s4.heap.objs.size]) ht hT hg (by with_unfolding_all rfl)
theorem sliceApplied_step {prog : Program} {w : World} {A : Around} {E : Value → Shared → Prop} {s : Shared} {sl : Addr} {vl vu vs : Value} {lo hi : Option Int} {k : Int} {n : Nat} {Q : Int × Int × Nat → Shared → Prop} (hs : s.heap.IsSliceOf sl vl vu vs) (pl : IsPart vl lo) (pu : IsPart vu hi) (ps : IsPart vs (some k)) (hk : k ≠ 0)
    (h : Q ((Builtin.Slice.sliceAdjust lo hi k n).1, k, Builtin.Slice.slicePlaces (Builtin.Slice.sliceAdjust lo hi k n).1 (Builtin.Slice.sliceAdjust lo hi k n).2 k) s) : wpAny (model prog w) A (Builtin.Slice.sliceApplied (.ref sl) (pure (n : Int))) Q E s := by
  obtain ⟨os, hos, hcs, hds⟩ := id hs
  unfold Builtin.Slice.sliceApplied Builtin.Slice.sliceFields
  refine wpAny_bind (wpAny_bind (wpAny_field hos hds (x := vl) rfl (wpAny_bind (wpAny_field hos hds (x := vu) rfl (wpAny_bind (wpAny_field hos hds (x := vs) rfl (wpAny_pure ?_)))))))
  refine wpAny_bind (HT.slicePart_ ps ?_)
  show wpAny _ _ (if (k == 0) = true then _ else _) _ _ s
  rw [if_neg (by simpa using hk)]
  refine wpAny_bind (HT.slicePart_ pl (wpAny_bind (HT.slicePart_ pu (wpAny_bind (wpAny_pure ?_)))))
  exact wpAny_pure h
theorem getItem_tuple_step {prog : Program} {w : World} {A : Around} {E : Value → Shared → Prop} {s : Shared} {t sl : Addr} {items : Array Value} {vl vu vs : Value} {lo hi : Option Int} {k : Int} {Q : Value → Shared → Prop} (ht : IsTup s.heap t items) (hs : s.heap.IsSliceOf sl vl vu vs) (pl : IsPart vl lo) (pu : IsPart vu hi) (ps : IsPart vs (some k)) (hk : k ≠ 0) (hk1 : k ≠ 1)
    (hz : ((List.range (Builtin.Slice.slicePlaces (Builtin.Slice.sliceAdjust lo hi k items.size).1 (Builtin.Slice.sliceAdjust lo hi k items.size).2 k)).filterMap fun (m : Nat) => items.toList[((Builtin.Slice.sliceAdjust lo hi k items.size).1 + (m : Int) * k).toNat]?).length ≤ sizeLine)
    (h : Q (.ref s.heap.objs.size) { s with heap := s.heap.push { cls := .type "tuple", data := .seq ((List.range (Builtin.Slice.slicePlaces (Builtin.Slice.sliceAdjust lo hi k items.size).1 (Builtin.Slice.sliceAdjust lo hi k items.size).2 k)).filterMap fun (m : Nat) => items.toList[((Builtin.Slice.sliceAdjust lo hi k items.size).1 + (m : Int) * k).toNat]?).toArray } }) :
    wpAny (model prog w) A (getItem (.ref t) (.ref sl)) Q E s := by
  obtain ⟨os, hos, hcs, hds⟩ := id hs
  have hTs : s.TypeIs (.ref sl) "slice" := ⟨os, hos, hcs⟩
  unfold getItem
  try with_reducible refine wpAny_holding ?_
  first | refine wpAny_bind (wpAny_pure ?_) | skip
  refine wpAny_bind (wpAny_sequenceKey ht.typeIs (by decide) ?_)
  refine wpAny_bind (wpAny_callSpecial?_slot (name := Str.ofString "__getitem__") ht.typeIs PyProof.Rows.slot_tuple_getitem
    (wpAny_call_entry PyProof.Rows.slot_tuple_getitem ht.typeIs entry_tuple_getitem ?_ (args_tuple_getitem _ _)))
  show wpAny _ _ (Builtin.Tuple.tupleItemsOf (.ref t) >>= _) _ _ s
  refine wpAny_bind (tupleItemsOf_ ht ?_)
  refine wpAny_bind (wpAny_typeOf hTs ?_)
  rw [if_pos (by decide)]
  refine wpAny_bind (sliceApplied_step hs pl pu ps hk ?_)
  have hno : ¬ (((Builtin.Slice.sliceAdjust lo hi k items.size).1 == 0 && k == 1 && Builtin.Slice.slicePlaces (Builtin.Slice.sliceAdjust lo hi k items.size).1 (Builtin.Slice.sliceAdjust lo hi k items.size).2 k == items.size) = true) := by
    intro q
    rw [Bool.and_eq_true, Bool.and_eq_true] at q
    exact hk1 (eq_of_beq q.1.2)
  show wpAny _ _ (if ((Builtin.Slice.sliceAdjust lo hi k items.size).1 == 0 && k == 1 && Builtin.Slice.slicePlaces (Builtin.Slice.sliceAdjust lo hi k items.size).1 (Builtin.Slice.sliceAdjust lo hi k items.size).2 k == items.size) = true then _ else _) _ _ s
  have epick : (fun (m : Nat) => items[((Builtin.Slice.sliceAdjust lo hi k items.size).1 + (m : Int) * k).toNat]?) = fun (m : Nat) => items.toList[((Builtin.Slice.sliceAdjust lo hi k items.size).1 + (m : Int) * k).toNat]? := by
    funext m
    rw [Array.getElem?_toList]
  rw [if_neg hno, epick]
  have htake : sizeOk (.seq ((List.range (Builtin.Slice.slicePlaces (Builtin.Slice.sliceAdjust lo hi k items.size).1 (Builtin.Slice.sliceAdjust lo hi k items.size).2 k)).filterMap fun (m : Nat) => items.toList[((Builtin.Slice.sliceAdjust lo hi k items.size).1 + (m : Int) * k).toNat]?).toArray) := by
    show Array.size _ ≤ sizeLine
    rw [List.size_toArray]; exact hz
  first
    | exact wpAny_bind (m := Builtin.Tuple.tupleExact _) (wpAny_newObj_type (wpAny_pure ⟨_, rfl, wpAny_pure h⟩) htake)
    | exact wpAny_bind (m := Builtin.Tuple.tupleExact _) (wpAny_newObj_type (wpAny_bind (wpAny_pure (wpAny_pure ⟨_, rfl, wpAny_pure h⟩))) htake)
    | exact wpAny_bind (wpAny_bind (m := Builtin.Tuple.tupleExact _) (wpAny_newObj_type (wpAny_pure (wpAny_pure ⟨_, rfl, wpAny_pure h⟩)) htake))
    | exact wpAny_bind (wpAny_bind (m := Builtin.Tuple.tupleExact _) (wpAny_newObj_type (wpAny_pure ⟨_, rfl, wpAny_pure h⟩) htake))
def rStep (K : Kf) : V → Option Int → Option Int → Int → Hp → VK → Prop := fun x lo hi k H Q => ∃ F p z, Sub F H ∧ RpV K F H x p ∧ stepD p lo hi k = some z ∧ ∀ v H' F', Gr F H F' H' → Rp K F' v z → Q v H'
theorem sl_step : SlS X (rStep X.K) := by
  intro pins s σ H x v vl vu vs lo hi k sl Q I rx hs pl pu ps h
  obtain ⟨F, p, z, sf, hx, hg, kk⟩ := h
  cases p with
  | tuple xs =>
    obtain ⟨⟨h1, h2, h3⟩, rfl⟩ := ifs (by simpa only [stepD] using hg)
    obtain ⟨a, ws, rfl, q1, r1, _⟩ := hx.tup_inv sf
    cases rx
    obtain ⟨its, r, ht, hz⟩ := I.tuple q1
    have hlen : its.toArray.size = xs.length := by rw [List.size_toArray, ← r.length, r1.len]
    refine ⟨"tuple", _, PyProof.Rows.slot_tuple_getitem.lookup, ht.typeIs, ?_⟩
    have vp := vals_pick r (fun m => ((Builtin.Slice.sliceAdjust lo hi k xs.length).1 + (m : Int) * k).toNat) (List.range (Builtin.Slice.slicePlaces (Builtin.Slice.sliceAdjust lo hi k xs.length).1 (Builtin.Slice.sliceAdjust lo hi k xs.length).2 k))
    have rp := r1.pick (fun m => ((Builtin.Slice.sliceAdjust lo hi k xs.length).1 + (m : Int) * k).toNat) (List.range (Builtin.Slice.slicePlaces (Builtin.Slice.sliceAdjust lo hi k xs.length).1 (Builtin.Slice.sliceAdjust lo hi k xs.length).2 k))
    have hsz : (pickS xs (Builtin.Slice.sliceAdjust lo hi k xs.length).1 k (Builtin.Slice.slicePlaces (Builtin.Slice.sliceAdjust lo hi k xs.length).1 (Builtin.Slice.sliceAdjust lo hi k xs.length).2 k)).length ≤ 16777216 := by simpa [fits] using h3
    refine getItem_tuple_step ht hs pl pu ps (of_decide_eq_true h1) (of_decide_eq_true h2) ?_ ?_
    · rw [hlen, sizeLine_n]
      show ((List.range _).filterMap fun (m : Nat) => its[_]?).length ≤ _
      rw [← vp.length, rp.len]
      exact hsz
    · rw [hlen]
      obtain ⟨o, ho, I2⟩ := tup_new (h' := s.heap.push { cls := .type "tuple", data := .seq ((List.range (Builtin.Slice.slicePlaces (Builtin.Slice.sliceAdjust lo hi k xs.length).1 (Builtin.Slice.sliceAdjust lo hi k xs.length).2 k)).filterMap fun (m : Nat) => its[((Builtin.Slice.sliceAdjust lo hi k xs.length).1 + (m : Int) * k).toNat]?).toArray }) I (fun b u e => Heap.get?_push_of_some _ e) (Heap.get?_push_size _ rfl) vp (by rw [rp.len, sizeLine_n]; exact hsz)
      obtain ⟨g, rr⟩ := newT sf (I.hok.fresh (Nat.le_refl _)) ho rp
      exact ⟨.ref s.heap.objs.size, _, I2, rfl, kk _ _ _ g rr⟩
  | _ => cases hg
variable {a st : Expr} {eva evs : Env → R Env D} {evl evh : Env → R Env (Option Int)} {va qa ql qh qs : Bool} {pos p2 : Pos} {lo hi : Option Expr}
theorem me_step (hv : va = true → (ql && qh && qs) = true) (ha : PE X a (RdE X.K va qa eva)) (hl : PO X lo (RdO X.K ql evl)) (hh : PO X hi (RdO X.K qh evh)) (hs : PE X st (RdE X.K false qs evs)) :
    PE X (.Subscript a (.Slice lo hi (some st) p2) pos) (RdE X.K false (qa && ql && qh && qs) fun env => (eva env).bind fun x env => (evl env).bind fun l env => (evh env).bind fun h env => (evs env).bind fun k env => .opt ((asI k).bind (stepD x l h)) env) := by
  refine pe_imp (pe_sliceS sl_step ha hl hh (mo_some hs)) fun σ H Q h => ?_
  obtain ⟨F, env, as, rel, got⟩ := h
  refine ⟨F, env, as, rel, gotK_mono (gotK_bind got) fun x env1 g1 v1 H1 F1 as1 A1 => ⟨F1, env1, as1, A1.rel, gotK_mono (gotK_bind g1) fun l env2 g2 H2 F2 as2 A2 => ⟨F2, env2, as2, A2.rel, gotK_mono (gotK_bind g2) fun h env3 g3 H3 F3 as3 A3 => ⟨F3, env3, as3, A3.rel, ?_⟩⟩⟩⟩
  have g3 := gotK_bind g3
  refine gotK_bindI (gotK_mono g3 fun k env4 g4 => ?_)
  obtain ⟨z, e, g⟩ := gotK_opt g4
  obtain ⟨j, e1, e2⟩ := Option.bind_eq_some_iff.mp e
  show GotK (R.opt ((asI k).map some) env4) _
  rw [e1]
  intro H4 F4 as4 A4
  refine ⟨j, rfl, F4, x, z, A4.rel.sub, ?_, e2, fun v H' F' gr r => g v H' F' as4 ⟨A4.rel.gr gr, (((A1.post.trans A2.post).trans A3.post).trans A4.post).gr2 gr, fun z => ?_, r⟩⟩
  · have r1 := A1.rp
    split at r1
    · have hv := hv (by assumption)
      simp only [Bool.and_eq_true] at hv
      exact ((r1.mono A2.post.sf (A2.qu hv.1.1).sh).mono A3.post.sf (A3.qu hv.1.2).sh).mono A4.post.sf (A4.qu hv.2).sh
    · exact (((r1.mono A2.post.sf).mono A3.post.sf).mono A4.post.sf).v
  · simp only [Bool.and_eq_true] at z
    exact ((((A1.qu z.1.1.1).trans (A2.qu z.1.1.2)).trans (A3.qu z.1.2)).trans (A4.qu z.2)).gr gr
where
  gotK_bindI {S α β : Type} {r : R S α} {f : α → S → R S β} {C : β → S → Prop} (h : GotK r fun a e => GotK (f a e) C) : GotK (r.bind f) C := by
    cases r with
    | ok a s => exact h
    | exc c ds s => exact h
    | err => exact h
end
end MP

set_option maxHeartbeats 2000000
/-! Sets of texts. -/
namespace MP
open PySem PySem.Spec PyProof.Rows L2 PySem.Froz
/-- the set of texts at a: its members l, each once -/
def SetS (P : Program) (w : World) (h : Heap) (a : Addr) (l : List Str) : Prop :=
  ∃ es ep t, h.get? a = some (sObj "set" (es, ep, t)) ∧ TxOk P w (es, ep, t) l ∧ l.Nodup ∧ l.length < scanBound ∧ Ris t.place.toList ∧ (w.params.followText "set-order" = true ∨ t.led = true)
section
variable {P : Program} {w : World} {A : Around} {E : Value → Shared → Prop} {s : Shared} {a : Addr} {l : List Str}
theorem SetS.at (R : SetS P w s.heap a l) {h' : Heap} (k : ∀ o, s.heap.get? a = some o → h'.get? a = some o) : SetS P w h' a l := by
  obtain ⟨es, ep, t, ho, r⟩ := R
  exact ⟨es, ep, t, k _ ho, r⟩
theorem setS_new {h : Heap} {a : Addr} (ho : h.get? a = some { cls := .type "set", dict := none, data := .set #[] 0 (.fresh 0 0 (!w.params.followText "set-order")) }) : SetS P w h a [] :=
  ⟨#[], 0, _, ho, .nil (by rfl), List.nodup_nil, by decide, List.Pairwise.nil, by
    show _ ∨ (!w.params.followText "set-order") = true
    cases w.params.followText "set-order"
    · exact .inr rfl
    · exact .inl rfl⟩
theorem tailTx_ris {ep : Nat} {es1 : Array (Int × Value)} {t2 : SetTable} {wasDummy : Bool} (hr : Ris t2.place.toList) : Ris (tailTx ep es1 t2 wasDummy).2.2.place.toList ∧ (tailTx ep es1 t2 wasDummy).2.2.led = t2.led := by
  unfold tailTx
  split
  · exact ⟨relayAll_ris t2 es1 _, relayAll_led t2 es1 _⟩
  · exact ⟨hr, rfl⟩
theorem addTx_ris {h : Int} {v : Value} {es : Array (Int × Value)} {ep : Nat} {t : SetTable} (hr : Ris t.place.toList) : Ris (addTx h v (es, ep, t)).2.2.place.toList ∧ (addTx h v (es, ep, t)).2.2.led = t.led := by
  have h1 := layNew_ris t es h v hr
  have h2 := layNew_led t es h v
  unfold addTx
  have h3 : Ris (if (layNew t es h v).2.1.plain = true then { (layNew t es h v).2.1 with plain := false } else (layNew t es h v).2.1).place.toList ∧ (if (layNew t es h v).2.1.plain = true then { (layNew t es h v).2.1 with plain := false } else (layNew t es h v).2.1).led = t.led := by
    split
    · exact ⟨h1, h2⟩
    · exact ⟨h1, h2⟩
  obtain ⟨k1, k2⟩ := tailTx_ris (ep := ep) (es1 := (layNew t es h v).1) (wasDummy := (layNew t es h v).2.2.1) h3.1
  exact ⟨k1, k2.trans h3.2⟩
/-- one text more -/
def insS (k : Str) (l : List Str) : List Str := if k ∈ l then l else k :: l
theorem setS_add {k : Str} {u : Tok} {Q : Bool → Shared → Prop} (R : SetS P w s.heap a l) (room : l.length + 1 < scanBound)
    (hQ : ∀ h' b, Heap.SameBut a s.heap h' → SetS P w h' a (insS k l) → Q b { s with heap := h' }) : wpAny (model P w) A (setAddHashed a (.str k u) (hashStr w k)) Q E s := by
  obtain ⟨es, ep, t, ho, F, nd, hb, hr, hl⟩ := R
  by_cases hk : k ∈ l
  · have e : insS k l = l := if_pos hk
    have hd : (sObj "set" (es, ep, t)).data = .set es ep t := rfl
    have hf : t.fits es.size = true := F.fit
    have hel : ElemsOf (strKind P w) es.toList := F.el
    have hsz : es.size = l.length := F.sz
    have hb0 : es.size < scanBound := by omega
    have hkey : (strKind P w).is k (.str k u) = true := is_str k u
    obtain ⟨e0, he0, hp0⟩ := (F.mem k).mp hk
    unfold setAddHashed setAddHashedIn
    refine wpAny_holding (wpAny_bind (wpAny_setState_of ho hd hf ?_))
    dsimp only
    rw [byScan_of rfl hb0 hel]
    simp only [↓reduceIte]
    unfold setAddByScan
    refine wpAny_bind ?_
    refine wpAny_bind (wpAny_rule ?_)
    refine wpAny_bind (wpAny_setScan_of (knd := strKind P w) (k := k) hkey ho hd hf hel ?_)
    cases hfi : List.findIdx? (fun e => (strKind P w).is k e.2) es.toList with
    | none =>
      have c := List.findIdx?_eq_none_iff.mp hfi e0 he0
      rw [hp0] at c
      cases c
    | some j =>
      dsimp only
      refine wpAny_pure (wpAny_pure ?_)
      have q := hQ s.heap false (Heap.SameBut.refl a s.heap) (by rw [e]; exact ⟨es, ep, t, ho, F, nd, hb, hr, hl⟩)
      exact q
  · have e : insS k l = k :: l := if_neg hk
    refine add_x ho F hk room ?_
    obtain ⟨r1, r2⟩ := addTx_ris (h := hashStr w k) (v := .str k u) (es := es) (ep := ep) hr
    refine hQ _ true (Heap.SameBut.update s.heap a _) ?_
    rw [e]
    exact ⟨(addTx (hashStr w k) (.str k u) (es, ep, t)).1, (addTx (hashStr w k) (.str k u) (es, ep, t)).2.1, (addTx (hashStr w k) (.str k u) (es, ep, t)).2.2, get_upd _ ho rfl, add_ok u F, List.nodup_cons.mpr ⟨hk, nd⟩, room, r1, hl.imp id fun z => r2.trans z⟩
/-- the texts put in, one behind another -/
def insAll : List Str → List Str → List Str
  | [], l => l
  | k :: ks, l => insAll ks (insS k l)
theorem insS_len (k : Str) (l : List Str) : (insS k l).length ≤ l.length + 1 := by
  unfold insS
  split <;> simp
theorem insS_mem (k x : Str) (l : List Str) : x ∈ insS k l ↔ x = k ∨ x ∈ l := by
  unfold insS
  split
  · rename_i h
    exact ⟨.inr, fun z => z.elim (fun e => e ▸ h) id⟩
  · exact List.mem_cons
theorem insAll_mem (x : Str) : ∀ (ks l : List Str), x ∈ insAll ks l ↔ x ∈ ks ∨ x ∈ l
  | [], l => by simp [insAll]
  | k :: ks, l => by
    simp only [insAll]
    rw [insAll_mem x ks, insS_mem, List.mem_cons]
    constructor
    · rintro (h | h | h)
      · exact .inl (.inr h)
      · exact .inl (.inl h)
      · exact .inr h
    · rintro ((h | h) | h)
      · exact .inr (.inl h)
      · exact .inl h
      · exact .inr (.inr h)
theorem insAll_snoc (ks : List Str) (k : Str) : ∀ l, insAll (ks ++ [k]) l = insS k (insAll ks l) := by
  induction ks with
  | nil => intro l; rfl
  | cons x ks ih => intro l; exact ih (insS x l)
theorem insAll_len : ∀ (ks l : List Str), (insAll ks l).length ≤ ks.length + l.length
  | [], l => by simp [insAll]
  | k :: ks, l => by
    have := insAll_len ks (insS k l)
    have := insS_len k l
    simp only [insAll, List.length_cons]
    omega
theorem set_update_strs {I : Addr} {fp wr : List Addr} {G : Array GenState → Array GenState → Prop} {n : Nat} {Pv : Nat → Value → Prop} {St : Nat → Shared → Prop} {R : Result → Shared → Prop}
    (W : WalksS P w A.in1 I fp wr G n Pv St) (S : Addr) (hSf : S ∉ fp) (ns l0 : List Str) (hn : n = ns.length) (hb : ns.length + l0.length + 1 < scanBound) (hval : ∀ i v, Pv i v → ∃ k t, ns[i]? = some k ∧ v = .str k t) :
    ∀ (k i : Nat) (s : Shared), n - i = k → i ≤ n → St i s → SetS P w s.heap S (insAll (ns.take i) l0) →
      (∀ s', Moved (S :: wr) G s s' → SetS P w s'.heap S (insAll ns l0) → R (.ok (.ret .none)) s') →
      codeAny (model P w) A (.builtin "set.update.loop" ⟨[.ref S, .ref I], []⟩) R s := by
  have hSw : S ∉ wr := fun h => hSf (W.sub _ h)
  have hsub : ∀ b ∈ wr, b ∈ S :: wr := fun b hb => List.mem_cons_of_mem _ hb
  intro k
  induction k with
  | zero =>
    intro i s hk' hi hst hS hR
    have hin : i = n := by omega
    subst hin
    refine codeAny_builtin F.entry_set_update_loop ?_
    rw [Around.under_plainId F.plain_set_update_loop _]
    show wpAny _ A.in1 (pyNext (.ref I) >>= _) _ _ s
    refine wpAny_bind (W.done s _ _ hst fun s' hm => ?_)
    show wpAny _ A.in1 (ret Value.none) _ _ s'
    have e : ns.take i = ns := List.take_of_length_le (by omega)
    rw [e] at hS
    exact wpAny_pure (hR s' (hm.mono hsub) (hS.at fun o e => hm.heap S o hSw e))
  | succ k ih =>
    intro i s hk' hi hst hS hR
    have hlt : i < n := by omega
    refine codeAny_builtin F.entry_set_update_loop ?_
    rw [Around.under_plainId F.plain_set_update_loop _]
    show wpAny _ A.in1 (pyNext (.ref I) >>= _) _ _ s
    refine wpAny_bind (W.item i s _ _ hlt hst fun v s' hP hst' hm => ?_)
    obtain ⟨z, t, hz, rfl⟩ := hval i v hP
    have hS' : SetS P w s'.heap S (insAll (ns.take i) l0) := hS.at fun o e => hm.heap S o hSw e
    have hlen : (insAll (ns.take i) l0).length + 1 < scanBound := by
      have h1 := insAll_len (ns.take i) l0
      have h2 : (ns.take i).length ≤ ns.length := by rw [List.length_take]; omega
      omega
    show wpAny _ A.in1 (holding [Value.str z t] (setAdd S (.str z t)) >>= _) _ _ s'
    refine wpAny_bind (wpAny_holding ?_)
    unfold setAdd
    refine wpAny_holding ?_
    refine wpAny_bind ((strKind P w).pyHash (k := z) (is_str _ _) ?_)
    refine setS_add (s := { s' with toks := s'.toks + 1 }) hS' hlen fun h' b hsb hS2 => ?_
    have hS3 : SetS P w h' S (insAll (ns.take (i + 1)) l0) := by
      rw [List.take_add_one, hz]
      show SetS P w h' S (insAll (ns.take i ++ [z]) l0)
      rw [insAll_snoc]
      exact hS2
    refine wpAny_pure ⟨plainId_quiet F.plain_set_update_loop _, ih (i + 1) _ (by omega) hlt (W.frame _ s' _ _ hst' (Nat.le_succ _) fun b hb o e => ?_) hS3 fun s'' hm'' hS'' => ?_⟩
    · rw [hsb.2 b (fun h : b = S => hSf (by rw [← h]; exact hb))]; exact e
    · refine hR s'' (Moved.trans W.gtrans ((hm.mono hsub).then_heap (Nat.le_succ _) fun b o hb e => ?_) hm'') hS''
      rw [hsb.2 b (fun h : b = S => hb (by rw [h]; exact List.mem_cons_self))]; exact e
end
end MP

set_option maxHeartbeats 2000000
namespace MP
open PySem PySem.Spec PyProof.Rows L2 PySem.Froz
theorem strsGet : ∀ {us : List Value} {xs : List Str}, StrsAre us xs → ∀ (i : Nat) (v : Value), us[i]? = some v → ∃ k t, xs[i]? = some k ∧ v = .str k t
  | _, _, .nil, i, v, e => by simp at e
  | _, _, .cons x t r, 0, v, e => by
    have e : Value.str x t = v := by simpa using e
    exact ⟨x, t, rfl, e.symm⟩
  | _, _, .cons x t r, i + 1, v, e => by
    obtain ⟨k, t', h1, h2⟩ := strsGet r i v (by simpa using e)
    exact ⟨k, t', by simpa using h1, h2⟩
section
variable {P : Program} {w : World} {A : Around} {E : Value → Shared → Prop} {s : Shared}
theorem call_set_lst {l : Addr} {items : Array Value} (ns : List Str) {Q : Value → Shared → Prop} (hh : A.handled = none) (hl : s.heap.IsList l items) (hit : StrsAre items.toList ns) (hb : ns.length + 1 < scanBound)
    (h : ∀ (h' : Heap) (tk : Nat), SetS P w h' s.heap.objs.size (insAll ns []) → (∀ b o, s.heap.get? b = some o → h'.get? b = some o) → Q (.ref s.heap.objs.size) { s with heap := h', toks := tk }) :
    wpAny (model P w) A (call (.type "set") [.ref l]) Q E s := by
  have hisz : items.size = ns.length := by
    have q := StrsAre.len_eq hit
    rw [Array.length_toList] at q
    exact q
  obtain ⟨c, tl, hmro⟩ := F.called_set.mro
  have hmade := F.called_set.made
  have hsub := F.called_set.sub
  refine wpAny_call (codeAny_of_tree ?_)
  show wpAny _ _ (callAny (.type "set") _) _ _ _
  refine wpAny_pure ⟨Code.quiet_builtin _ (by decide +kernel), codeAny_builtin F.entry_type_call ?_⟩
  rw [Around.under_plain (weight_type_call_type "set" [.ref l] []) rfl]
  have h1 := F.called_set.notType
  have h2 := F.called_set.canCreate
  have hct := F.typeCall_set_1 (.ref l)
  repeat (any_goals (first | assumption | wp_step))
  refine codeAny_mono (code_set_led1 (.ref l) (E := E) (Q₁ := fun obj s₁ => obj = .ref s.heap.objs.size ∧ s₁ = { s with heap := s.heap.push { cls := .type "set", dict := none, data := .set #[] 0 (.fresh 0 0 (!w.params.followText "set-order")) } }) ⟨rfl, rfl⟩) fun r s₁ hr => ?_
  cases r with
  | error e => exact hr
  | ok fl =>
    cases fl with
    | ret obj =>
      obtain ⟨rfl, rfl⟩ := hr
      have hS : (s.heap.push { cls := .type "set", dict := none, data := .set #[] 0 (.fresh 0 0 (!w.params.followText "set-order")) }).get? s.heap.objs.size = some { cls := .type "set", dict := none, data := .set #[] 0 (.fresh 0 0 (!w.params.followText "set-order")) } := Heap.get?_push_size _ rfl
      have hT : Shared.TypeIs { s with heap := s.heap.push { cls := .type "set", dict := none, data := .set #[] 0 (.fresh 0 0 (!w.params.followText "set-order")) } } (.ref s.heap.objs.size) "set" := ⟨_, hS, rfl⟩
      have hli := F.called_set.init.lookup
      have hbi := F.called_set.init.bind (.ref s.heap.objs.size)
      repeat (any_goals (first | assumption | wp_step))
      refine codeAny_mono (codeAny_call_builtin (R := wants (fun r s₂ => r = .none ∧ ∃ h' tk, s₂ = { s with heap := h', toks := tk } ∧ SetS P w h' s.heap.objs.size (insAll ns []) ∧
          (∀ b o, s.heap.get? b = some o → h'.get? b = some o)) E) F.called_set.init.plain F.entry_set_init (check_set_init_1 hT ?_)) fun r₂ s₂ hr₂ => ?_
      · obtain ⟨ol, hol, hcl, nl, hdl⟩ := hl
        obtain ⟨ocls, odict, odata, oslots⟩ := ol
        simp only at hcl hdl
        subst hcl; subst hdl
        have hol' : (s.heap.push { cls := .type "set", dict := none, data := .set #[] 0 (.fresh 0 0 (!w.params.followText "set-order")) }).get? l = some { cls := .type "list", dict := odict, data := .seq items nl, slots := oslots } := Heap.get?_push_of_some _ hol
        have hsls := F.sub_list_set
        have hslf := F.sub_list_frozenset
        have hne : (Value.type "list" == Value.type "dict") = false := by decide
        have hl1 : (s.heap.push { cls := .type "set", dict := none, data := .set #[] 0 (.fresh 0 0 (!w.params.followText "set-order")) }).IsList l items := ⟨_, hol', rfl, nl, rfl⟩
        unfold Builtin.«set.__init__» noKeywords Builtin.Frozenset.updateFrom
        generalize hPI : pyIter = PI
        wp_walk
        subst hPI
        refine wpAny_pyIter_list hl1 ?_
        refine wpAny_bind (wpAny_runValue ?_)
        have hlS : l < s.heap.objs.size := Heap.lt_size hol
        have hh3 : A.in1.in1.in1.handled = none := by simp [hh]
        have hneI : l ≠ (s.heap.push { cls := .type "set", dict := none, data := .set #[] 0 (.fresh 0 0 (!w.params.followText "set-order")) }).objs.size := by
          rw [Heap.size_push]; exact Nat.ne_of_lt (Nat.lt_succ_of_lt hlS)
        have hSf : s.heap.objs.size ∉ [(s.heap.push { cls := .type "set", dict := none, data := .set #[] 0 (.fresh 0 0 (!w.params.followText "set-order")) }).objs.size, l] := by
          rw [Heap.size_push]; simp only [List.mem_cons, List.mem_singleton, List.not_mem_nil, or_false, not_or]
          exact ⟨Nat.ne_of_lt (Nat.lt_succ_self _), Nat.ne_of_gt hlS⟩
        have hval : ∀ (i : Nat) (v : Value), items[i]? = some v → ∃ k t, ns[i]? = some k ∧ v = .str k t := fun i v hv => by
          exact strsGet hit i v (by rw [Array.getElem?_toList]; exact hv)
        refine set_update_strs ((Walks.list hh3 _ l hneI items).toS) s.heap.objs.size
          hSf ns [] hisz (by simpa using hb) hval (items.size - 0) 0 _ (by omega) (Nat.zero_le _)
          ⟨⟨_, Heap.get?_push_size _ rfl, rfl, rfl⟩, (hl1.push _)⟩ ?hS0 ?hR
        case hS0 =>
          have hget : ((s.heap.push { cls := .type "set", dict := none, data := .set #[] 0 (.fresh 0 0 (!w.params.followText "set-order")) }).push { cls := .type "list_iterator", data := .fields #[.ref l, .int 0 0] }).get? s.heap.objs.size
              = some { cls := .type "set", dict := none, data := .set #[] 0 (.fresh 0 0 (!w.params.followText "set-order")) } := Heap.get?_push_of_some _ hS
          exact setS_new hget
        case hR =>
          intro s' hm hS'
          obtain ⟨h', g2, d', tk', os'⟩ := s'
          have eg : g2 = s.gens := hm.gens
          have ed : d' = s.drawn := hm.drawn
          have eo : os' = s.os := hm.os
          subst eg; subst ed; subst eo
          show wpAny _ _ _ _ _ _
          refine wpAny_pure ?_
          show wpAny _ _ (ret Value.none) _ _ _
          refine wpAny_pure ⟨rfl, h', tk', rfl, hS', fun b o e => ?_⟩
          have hb0 : b < s.heap.objs.size := Heap.lt_size e
          have hb1 : b ≠ s.heap.objs.size := Nat.ne_of_lt hb0
          have hb2 : b ≠ (s.heap.push { cls := .type "set", dict := none, data := .set #[] 0 (.fresh 0 0 (!w.params.followText "set-order")) }).objs.size := by
            rw [Heap.size_push]; exact Nat.ne_of_lt (Nat.lt_succ_of_lt hb0)
          exact hm.heap b o (by simp only [List.mem_cons, List.mem_singleton, List.not_mem_nil, or_false, not_or]; exact ⟨hb1, hb2⟩) (Heap.get?_push_of_some _ (Heap.get?_push_of_some _ e))
      · cases r₂ with
        | error e => exact hr₂
        | ok fl₂ =>
          cases fl₂ with
          | ret r =>
            obtain ⟨rfl, h', tk, rfl, hS', hk'⟩ := hr₂
            repeat (any_goals (first | assumption | wp_step))
            exact h _ _ hS' hk'
          | _ => exact hr₂.elim
    | _ => exact hr.elim
theorem call_set_tup {l : Addr} {items : Array Value} (ns : List Str) {Q : Value → Shared → Prop} (hh : A.handled = none) (hl : s.heap.IsTuple l items) (hit : StrsAre items.toList ns) (hb : ns.length + 1 < scanBound)
    (h : ∀ (h' : Heap) (tk : Nat), SetS P w h' s.heap.objs.size (insAll ns []) → (∀ b o, s.heap.get? b = some o → h'.get? b = some o) → Q (.ref s.heap.objs.size) { s with heap := h', toks := tk }) :
    wpAny (model P w) A (call (.type "set") [.ref l]) Q E s := by
  have hisz : items.size = ns.length := by
    have q := StrsAre.len_eq hit
    rw [Array.length_toList] at q
    exact q
  obtain ⟨c, tl, hmro⟩ := F.called_set.mro
  have hmade := F.called_set.made
  have hsub := F.called_set.sub
  refine wpAny_call (codeAny_of_tree ?_)
  show wpAny _ _ (callAny (.type "set") _) _ _ _
  refine wpAny_pure ⟨Code.quiet_builtin _ (by decide +kernel), codeAny_builtin F.entry_type_call ?_⟩
  rw [Around.under_plain (weight_type_call_type "set" [.ref l] []) rfl]
  have h1 := F.called_set.notType
  have h2 := F.called_set.canCreate
  have hct := F.typeCall_set_1 (.ref l)
  repeat (any_goals (first | assumption | wp_step))
  refine codeAny_mono (code_set_led1 (.ref l) (E := E) (Q₁ := fun obj s₁ => obj = .ref s.heap.objs.size ∧ s₁ = { s with heap := s.heap.push { cls := .type "set", dict := none, data := .set #[] 0 (.fresh 0 0 (!w.params.followText "set-order")) } }) ⟨rfl, rfl⟩) fun r s₁ hr => ?_
  cases r with
  | error e => exact hr
  | ok fl =>
    cases fl with
    | ret obj =>
      obtain ⟨rfl, rfl⟩ := hr
      have hS : (s.heap.push { cls := .type "set", dict := none, data := .set #[] 0 (.fresh 0 0 (!w.params.followText "set-order")) }).get? s.heap.objs.size = some { cls := .type "set", dict := none, data := .set #[] 0 (.fresh 0 0 (!w.params.followText "set-order")) } := Heap.get?_push_size _ rfl
      have hT : Shared.TypeIs { s with heap := s.heap.push { cls := .type "set", dict := none, data := .set #[] 0 (.fresh 0 0 (!w.params.followText "set-order")) } } (.ref s.heap.objs.size) "set" := ⟨_, hS, rfl⟩
      have hli := F.called_set.init.lookup
      have hbi := F.called_set.init.bind (.ref s.heap.objs.size)
      repeat (any_goals (first | assumption | wp_step))
      refine codeAny_mono (codeAny_call_builtin (R := wants (fun r s₂ => r = .none ∧ ∃ h' tk, s₂ = { s with heap := h', toks := tk } ∧ SetS P w h' s.heap.objs.size (insAll ns []) ∧
          (∀ b o, s.heap.get? b = some o → h'.get? b = some o)) E) F.called_set.init.plain F.entry_set_init (check_set_init_1 hT ?_)) fun r₂ s₂ hr₂ => ?_
      · obtain ⟨ol, hol, hcl, nl, hdl⟩ := hl
        obtain ⟨ocls, odict, odata, oslots⟩ := ol
        simp only at hcl hdl
        subst hcl; subst hdl
        have hol' : (s.heap.push { cls := .type "set", dict := none, data := .set #[] 0 (.fresh 0 0 (!w.params.followText "set-order")) }).get? l = some { cls := .type "tuple", dict := odict, data := .seq items nl, slots := oslots } := Heap.get?_push_of_some _ hol
        have hsls := F.sub_tuple_set
        have hslf := F.sub_tuple_frozenset
        have hne : (Value.type "tuple" == Value.type "dict") = false := by decide
        have hl1 : (s.heap.push { cls := .type "set", dict := none, data := .set #[] 0 (.fresh 0 0 (!w.params.followText "set-order")) }).IsTuple l items := ⟨_, hol', rfl, nl, rfl⟩
        unfold Builtin.«set.__init__» noKeywords Builtin.Frozenset.updateFrom
        generalize hPI : pyIter = PI
        wp_walk
        subst hPI
        refine wpAny_pyIter_tuple hl1 ?_
        refine wpAny_bind (wpAny_runValue ?_)
        have hlS : l < s.heap.objs.size := Heap.lt_size hol
        have hh3 : A.in1.in1.in1.handled = none := by simp [hh]
        have hneI : l ≠ (s.heap.push { cls := .type "set", dict := none, data := .set #[] 0 (.fresh 0 0 (!w.params.followText "set-order")) }).objs.size := by
          rw [Heap.size_push]; exact Nat.ne_of_lt (Nat.lt_succ_of_lt hlS)
        have hSf : s.heap.objs.size ∉ [(s.heap.push { cls := .type "set", dict := none, data := .set #[] 0 (.fresh 0 0 (!w.params.followText "set-order")) }).objs.size, l] := by
          rw [Heap.size_push]; simp only [List.mem_cons, List.mem_singleton, List.not_mem_nil, or_false, not_or]
          exact ⟨Nat.ne_of_lt (Nat.lt_succ_self _), Nat.ne_of_gt hlS⟩
        have hval : ∀ (i : Nat) (v : Value), items[i]? = some v → ∃ k t, ns[i]? = some k ∧ v = .str k t := fun i v hv => by
          exact strsGet hit i v (by rw [Array.getElem?_toList]; exact hv)
        refine set_update_strs ((Walks.tuple hh3 _ l hneI items).toS) s.heap.objs.size
          hSf ns [] hisz (by simpa using hb) hval (items.size - 0) 0 _ (by omega) (Nat.zero_le _)
          ⟨⟨_, Heap.get?_push_size _ rfl, rfl, rfl⟩, (hl1.push _)⟩ ?hS0 ?hR
        case hS0 =>
          have hget : ((s.heap.push { cls := .type "set", dict := none, data := .set #[] 0 (.fresh 0 0 (!w.params.followText "set-order")) }).push { cls := .type "tuple_iterator", data := .fields #[.ref l, .int 0 0] }).get? s.heap.objs.size
              = some { cls := .type "set", dict := none, data := .set #[] 0 (.fresh 0 0 (!w.params.followText "set-order")) } := Heap.get?_push_of_some _ hS
          exact setS_new hget
        case hR =>
          intro s' hm hS'
          obtain ⟨h', g2, d', tk', os'⟩ := s'
          have eg : g2 = s.gens := hm.gens
          have ed : d' = s.drawn := hm.drawn
          have eo : os' = s.os := hm.os
          subst eg; subst ed; subst eo
          show wpAny _ _ _ _ _ _
          refine wpAny_pure ?_
          show wpAny _ _ (ret Value.none) _ _ _
          refine wpAny_pure ⟨rfl, h', tk', rfl, hS', fun b o e => ?_⟩
          have hb0 : b < s.heap.objs.size := Heap.lt_size e
          have hb1 : b ≠ s.heap.objs.size := Nat.ne_of_lt hb0
          have hb2 : b ≠ (s.heap.push { cls := .type "set", dict := none, data := .set #[] 0 (.fresh 0 0 (!w.params.followText "set-order")) }).objs.size := by
            rw [Heap.size_push]; exact Nat.ne_of_lt (Nat.lt_succ_of_lt hb0)
          exact hm.heap b o (by simp only [List.mem_cons, List.mem_singleton, List.not_mem_nil, or_false, not_or]; exact ⟨hb1, hb2⟩) (Heap.get?_push_of_some _ (Heap.get?_push_of_some _ e))
      · cases r₂ with
        | error e => exact hr₂
        | ok fl₂ =>
          cases fl₂ with
          | ret r =>
            obtain ⟨rfl, h', tk, rfl, hS', hk'⟩ := hr₂
            repeat (any_goals (first | assumption | wp_step))
            exact h _ _ hS' hk'
          | _ => exact hr₂.elim
    | _ => exact hr.elim
end
end MP

set_option maxHeartbeats 2000000
/-! sorted(set of texts), sorted(list of texts) -/
namespace MP
open PySem PySem.Spec PyProof.Rows L2 PySem.Froz
theorem each_strs : ∀ {vs : List Value} {bs : List Str}, PySem.W.EachIs (fun v b => ∃ u, v = .str b u) vs bs → StrsAre vs bs
  | _, _, .nil => .nil
  | _, _, .cons ⟨u, e⟩ r => by subst e; exact .cons _ u (each_strs r)
theorem strs_each : ∀ {vs : List Value} {bs : List Str}, StrsAre vs bs → PySem.W.EachIs (fun v b => ∃ u, v = .str b u) vs bs
  | _, _, .nil => .nil
  | _, _, .cons x u r => .cons ⟨u, rfl⟩ (strs_each r)
theorem str_le_antisymm (a b : Str) (h1 : a.cps.toList ≤ b.cps.toList) (h2 : b.cps.toList ≤ a.cps.toList) : a = b := by
  have e : a.cps.toList = b.cps.toList := List.le_antisymm h1 h2
  cases a; cases b
  simp only at e
  rw [Array.toList_inj] at e
  rw [e]
theorem strs_mem : ∀ {vs : List Value} {ks : List Str}, StrsAre vs ks → ∀ {k : Str} {t : Tok}, Value.str k t ∈ vs → k ∈ ks
  | _, _, .nil, _, _, h => by simp at h
  | _, _, .cons x u r, k, t, h => by
    rcases List.mem_cons.mp h with e | h
    · cases e
      exact List.mem_cons_self
    · exact List.mem_cons_of_mem _ (strs_mem r h)
theorem strs_perm : ∀ {us vs : List Value} {ks : List Str}, StrsAre us ks → vs.Perm us → ∃ ks', StrsAre vs ks' ∧ ks'.Perm ks := by
  intro us vs ks h p0
  have p := p0.symm
  clear p0
  induction p generalizing ks with
  | nil => exact ⟨ks, h, .refl _⟩
  | cons x _ ih =>
    cases h with
    | cons y t r =>
      obtain ⟨ks', h1, h2⟩ := ih r
      exact ⟨y :: ks', .cons y t h1, h2.cons y⟩
  | swap x y r =>
    cases h with
    | cons a t h =>
      cases h with
      | cons b u h => exact ⟨b :: a :: _, .cons b u (.cons a t h), .swap a b _⟩
  | trans _ _ ih1 ih2 =>
    obtain ⟨k1, a1, a2⟩ := ih1 h
    obtain ⟨k2, b1, b2⟩ := ih2 a1
    exact ⟨k2, b1, b2.trans a2⟩
theorem perm_of_sub {l m : List Str} (nd : l.Nodup) (h : ∀ k, k ∈ l → k ∈ m) (hl : m.length ≤ l.length) : l.Perm m := by
  induction l generalizing m with
  | nil =>
    have : m = [] := List.eq_nil_of_length_eq_zero (by simpa using hl)
    rw [this]
  | cons x r ih =>
    obtain ⟨n1, n2⟩ := List.nodup_cons.mp nd
    have hx := h x List.mem_cons_self
    have p := List.perm_cons_erase hx
    refine List.Perm.trans ?_ p.symm
    refine List.Perm.cons x (ih n2 (fun k hk => ?_) ?_)
    · have q := h k (List.mem_cons_of_mem _ hk)
      exact (List.mem_erase_of_ne (fun e => n1 (by rw [← e]; exact hk))).mpr q
    · rw [List.length_erase_of_mem hx]
      simp only [List.length_cons] at hl
      omega
theorem sort_perm {l m : List Str} (p : l.Perm m) : l.mergeSort leS = m.mergeSort leS := by
  have tr : ∀ a b c : Str, leS a b = true → leS b c = true → leS a c = true := fun a b c h1 h2 => by
    have h1 := of_decide_eq_true h1
    have h2 := of_decide_eq_true h2
    exact decide_eq_true (List.le_trans h1 h2)
  have to : ∀ a b : Str, (leS a b || leS b a) = true := fun a b => by
    rcases List.le_total a.cps.toList b.cps.toList with h | h
    · simp [leS, h]
    · simp [leS, h]
  refine List.Perm.eq_of_pairwise (le := fun a b => leS a b = true) (fun a b _ _ h1 h2 => str_le_antisymm a b (of_decide_eq_true h1) (of_decide_eq_true h2)) (List.pairwise_mergeSort tr to l) (List.pairwise_mergeSort tr to m) ?_
  exact ((List.mergeSort_perm l leS).trans p).trans (List.mergeSort_perm m leS).symm
section
variable {P : Program} {w : World} {A : Around} {E : Value → Shared → Prop} {s : Shared} {a : Addr} {l : List Str}
theorem els_strs {es : List (Int × Value)} (h : ElemsOf (strKind P w) es) : ∃ ks : List Str, StrsAre (es.map (·.2)) ks := by
  induction es with
  | nil => exact ⟨[], .nil⟩
  | cons e r ih =>
    obtain ⟨ks, hk⟩ := ih fun x hx => h x (List.mem_cons_of_mem _ hx)
    obtain ⟨⟨k, hk1, _⟩, _⟩ := h e List.mem_cons_self
    obtain ⟨t, ht⟩ := Value.isStrOf_shape hk1
    exact ⟨k :: ks, by rw [List.map_cons, ht]; exact .cons k t hk⟩
theorem els_nodup {es : Array (Int × Value)} {ep : Nat} {t : SetTable} (F : TxOk P w (es, ep, t) l) (nd : l.Nodup) : ∃ ks : List Str, StrsAre (es.toList.map (·.2)) ks ∧ ks.Perm l := by
  obtain ⟨ks, hk⟩ := els_strs (P := P) (w := w) F.el
  refine ⟨ks, hk, ?_⟩
  have hlen : ks.length = l.length := by
    rw [← StrsAre.len_eq hk, List.length_map, Array.length_toList]
    exact F.sz
  have hsub : ∀ k, k ∈ l → k ∈ ks := fun k h => by
    obtain ⟨e, he, hp⟩ := (F.mem k).mp h
    obtain ⟨t, ht⟩ := Value.isStrOf_shape hp
    have q : Value.str k t ∈ es.toList.map (·.2) := List.mem_map.mpr ⟨e, he, ht⟩
    exact strs_mem hk q
  exact (perm_of_sub nd hsub (by omega)).symm
theorem sorted_setS {Q : Value → Shared → Prop} (R : SetS P w s.heap a l) (hh : A.handled = none) (hu : A.units + 8 < cLine)
    (hQ : ∀ s' p (out : Array Value) (c : Nat), (∀ b o, s.heap.get? b = some o → s'.heap.get? b = some o) → s'.gens = s.gens → s'.os = s.os → s.heap.objs.size ≤ p →
      s'.heap.get? p = some (seqObj "list" out c) → StrsAre out.toList (l.mergeSort leS) → Q (.ref p) s') :
    wpAny (model P w) A (call (.builtin "sorted") [.ref a]) Q E s := by
  obtain ⟨es, ep, t, ho, F, nd, hb, hr, hl⟩ := R
  have hes : es.size = l.length := F.sz
  refine Calls.call_function_entry kind_sorted plain_sorted entry_sorted (args_sorted1 _) ?_
  unfold Builtin.«sorted»
  refine wpAny_bind (m := checkCount "sorted" 1 1 _) (wpAny_pure ?_)
  refine wpAny_bind (collect_set (A := A.in1) hh ⟨_, ho, rfl, rfl⟩ F.fit (by rw [hes]; exact hb) hr hl fun s1 vs k1 hz g1 o1 pm => ?_)
  obtain ⟨ks0, hk0, pk0⟩ := els_nodup F nd
  obtain ⟨ks, hk, pk1⟩ := strs_perm hk0 pm
  have pk : ks.Perm l := pk1.trans pk0
  have hvl : vs.length = ks.length := StrsAre.len_eq hk
  have hkl : ks.length = l.length := pk.length_eq
  refine wpAny_bind (wpAny_newList ?_ (by rw [hvl, hkl]; exact fits_of_scanBound hb))
  have hoL : (s1.heap.push (seqObj "list" vs.toArray 0)).get? s1.heap.objs.size = some (seqObj "list" vs.toArray 0) := Heap.get?_push_size _ rfl
  have e1 := strs_each hk
  refine wpAny_bind (wpAny_holding (PySem.W.list_sort_data (s := { s1 with heap := s1.heap.push (seqObj "list" vs.toArray 0) }) (bs := ks) (enc := PyData.str) hoL e1 (e1.mono fun v b ⟨u, hv⟩ => ⟨[], by subst hv; exact .str _ _, by simp⟩) (PySem.W.AllAlike.of fun b b' => rfl)
    (PySem.W.Sortable.others fun b => ⟨by simp, by simp⟩) (by rw [hkl]; exact fits_of_scanBound hb) (fun b _ => ?_) fun out hol hE => ?_))
  · show _ + 0 < cLine
    simp only [Around.in1_units]
    omega
  obtain ⟨c, hc⟩ := sortedHeap_at (vs := vs) (out := out.toArray) hoL
  refine wpAny_pure ⟨_, rfl, ?_⟩
  refine hQ { s1 with heap := sortedHeap (s1.heap.push (seqObj "list" vs.toArray 0)) s1.heap.objs.size vs out.toArray } s1.heap.objs.size out.toArray c (fun b u e => ?_) g1 o1 hz hc ?_
  · have q := k1 b u e
    have hlt := Heap.lt_size q
    show (sortedHeap (s1.heap.push (seqObj "list" vs.toArray 0)) s1.heap.objs.size vs out.toArray).get? b = some u
    rw [sortedHeap_old (Nat.ne_of_lt hlt) (by rw [size_push']; exact Nat.lt_succ_of_lt hlt)]
    exact Heap.get?_push_of_some _ q
  · have q := each_strs hE
    have e2 : PySem.W.dataLe false (fun b : Str => PyData.str b) = leS := PySem.W.dataLe_str (fun b : Str => b)
    have e3 : ks.mergeSort (PySem.W.dataLe false PyData.str) = l.mergeSort leS := by
      rw [show PySem.W.dataLe false PyData.str = leS from e2]
      exact sort_perm pk
    rw [e3] at q
    exact q
end
end MP

set_option maxHeartbeats 1000000
/-! A set's table always has room: the probe i -> 5i+1 mod 2^k runs through every slot. -/
namespace MP
open PySem PySem.Spec PyProof.Rows L2 PySem.Froz
def lcg : Nat → Nat → Nat
  | 0, i => i
  | n + 1, i => lcg n (5 * i + 1)
theorem lcg_add : ∀ n m i, lcg (n + m) i = lcg m (lcg n i)
  | 0, m, i => by rw [Nat.zero_add]; rfl
  | n + 1, m, i => by
    rw [show n + 1 + m = (n + m) + 1 by omega]
    exact lcg_add n m (5 * i + 1)
theorem lcg_pow : ∀ m, ∃ a b, ∀ i, lcg (2 ^ m) i = i + 2 ^ m * (4 * a * i + 2 * b + 1)
  | 0 => ⟨1, 0, fun i => by show 5 * i + 1 = _; omega⟩
  | m + 1 => by
    obtain ⟨a, b, h⟩ := lcg_pow m
    refine ⟨a + 2 * a * a * 2 ^ m, b + a * 2 ^ m * (2 * b + 1), fun i => ?_⟩
    rw [show 2 ^ (m + 1) = 2 ^ m + 2 ^ m by rw [Nat.pow_succ]; omega, lcg_add, h, h]
    generalize 2 ^ m = M
    grind
theorem lcg_surj : ∀ k i t, ∃ n, n < 2 ^ k ∧ lcg n i % 2 ^ k = t % 2 ^ k
  | 0, i, t => ⟨0, by simp, by simp [Nat.mod_one]⟩
  | k + 1, i, t => by
    obtain ⟨n, hn, e⟩ := lcg_surj k i t
    have hp : 2 ^ (k + 1) = 2 ^ k * 2 := Nat.pow_succ ..
    by_cases h : lcg n i % 2 ^ (k + 1) = t % 2 ^ (k + 1)
    · exact ⟨n, by omega, h⟩
    · obtain ⟨a, b, q⟩ := lcg_pow k
      refine ⟨n + 2 ^ k, by omega, ?_⟩
      rw [lcg_add, q]
      generalize lcg n i = x at *
      rw [hp] at h ⊢
      have e1 := Nat.mod_mul (x := x) (a := 2 ^ k) (b := 2)
      have e2 := Nat.mod_mul (x := t) (a := 2 ^ k) (b := 2)
      have e3 := Nat.mod_mul (x := x + 2 ^ k * (4 * a * x + 2 * b + 1)) (a := 2 ^ k) (b := 2)
      have hpos : 0 < 2 ^ k := Nat.two_pow_pos k
      have e4 : (x + 2 ^ k * (4 * a * x + 2 * b + 1)) % 2 ^ k = x % 2 ^ k := by rw [Nat.add_mul_mod_self_left]
      have e5 : (x + 2 ^ k * (4 * a * x + 2 * b + 1)) / 2 ^ k = x / 2 ^ k + (4 * a * x + 2 * b + 1) := by rw [Nat.add_mul_div_left _ _ hpos]
      rw [e3, e2, e4, e5, e]
      have e6 : 4 * a * x = 2 * (2 * a * x) := by grind
      have h7 : (x / 2 ^ k + (4 * a * x + 2 * b + 1)) % 2 = (x / 2 ^ k + 1) % 2 := by rw [e6]; omega
      rw [h7]
      rw [e1, e2, e] at h
      have h8 : (x / 2 ^ k) % 2 ≠ (t / 2 ^ k) % 2 := fun z => h (by rw [z])
      have h9 : (x / 2 ^ k + 1) % 2 = (t / 2 ^ k) % 2 := by omega
      rw [h9]
/-- the probe's stops -/
def stops (mask : Nat) : Nat → Nat × Nat → Nat × Nat
  | 0, p => p
  | n + 1, p => stops mask n (SetTable.leap mask p.1 p.2)
theorem stops_add (mask : Nat) : ∀ n m p, stops mask (n + m) p = stops mask m (stops mask n p)
  | 0, m, p => by rw [Nat.zero_add]; rfl
  | n + 1, m, p => by
    rw [show n + 1 + m = (n + m) + 1 by omega]
    exact stops_add mask n m _
theorem stops_snd (mask : Nat) : ∀ n i p, (stops mask n (i, p)).2 = p / 32 ^ n
  | 0, i, p => by simp [stops]
  | n + 1, i, p => by
    show (stops mask n (SetTable.leap mask i p)).2 = _
    unfold SetTable.leap
    rw [stops_snd mask n, Nat.div_div_eq_div_mul, Nat.pow_succ, Nat.mul_comm]
theorem stops_lcg (mask : Nat) : ∀ n i, (stops mask n (i, 0)).1 % (mask + 1) = lcg n i % (mask + 1)
  | 0, i => rfl
  | n + 1, i => by
    show (stops mask n (SetTable.leap mask i 0)).1 % _ = _
    unfold SetTable.leap
    rw [Nat.zero_div, stops_lcg mask n]
    have lem : ∀ n x y, x % (mask + 1) = y % (mask + 1) → lcg n x % (mask + 1) = lcg n y % (mask + 1) := by
      intro n
      induction n with
      | zero => intro x y h; exact h
      | succ n ih =>
        intro x y h
        refine ih _ _ ?_
        rw [Nat.add_mod, Nat.mul_mod, h, ← Nat.mul_mod, ← Nat.add_mod]
    refine lem n _ _ ?_
    rw [Nat.mod_mod]
    congr 1
    omega
theorem stops_lt (mask : Nat) : ∀ n p, p.1 ≤ mask → (stops mask n p).1 ≤ mask
  | 0, p, h => h
  | n + 1, p, h => stops_lt mask n _ (by
    unfold SetTable.leap
    exact Nat.le_of_lt_succ (Nat.mod_lt (p.1 * 5 + 1 + p.2 / 32) (Nat.succ_pos mask)))
/-- within mask + 15 turns each slot is a stop -/
theorem stops_all {k mask : Nat} (hm : mask + 1 = 2 ^ k) {i p t : Nat} (hi : i ≤ mask) (hp : p < 2 ^ 64) (ht : t ≤ mask) : ∃ n, n < SetTable.turns mask ∧ (stops mask n (i, p)).1 = t := by
  have h13 : (stops mask 13 (i, p)).2 = 0 := by
    rw [stops_snd]
    exact Nat.div_eq_of_lt (by omega)
  have hle := stops_lt mask 13 (i, p) hi
  obtain ⟨j, q, e⟩ : ∃ j q, stops mask 13 (i, p) = (j, q) := ⟨_, _, rfl⟩
  rw [e] at h13 hle
  have h13 : q = 0 := h13
  subst h13
  obtain ⟨n, hn, he⟩ := lcg_surj k j t
  rw [← hm] at he hn
  refine ⟨13 + n, by unfold SetTable.turns; omega, ?_⟩
  rw [stops_add, e]
  have q := stops_lcg mask n j
  rw [he, Nat.mod_eq_of_lt (by omega : t < mask + 1), Nat.mod_eq_of_lt (Nat.lt_succ_of_le (stops_lt mask n (j, 0) hle))] at q
  exact q
end MP

set_option maxHeartbeats 1000000
/-! A set's table laid anew: nothing is lost. -/
namespace MP
open PySem PySem.Spec PyProof.Rows L2 PySem.Froz
theorem free_some {mask : Nat} {owner : Array (Option Nat)} : ∀ (fuel i p : Nat), i ≤ mask →
    (∃ n, n < fuel ∧ owner.getD (stops mask n (i, p)).1 (some 0) = none) →
    ∃ j, SetTable.layClean.free mask owner fuel i p = some j ∧ j ≤ mask ∧ owner.getD j (some 0) = none
  | 0, _, _, _, ⟨_, h, _⟩ => absurd h (Nat.not_lt_zero _)
  | fuel + 1, i, p, hi, ⟨n, hn, h⟩ => by
    unfold SetTable.layClean.free
    cases hf : (List.range (SetTable.runEnd mask i + 1 - i)).find? fun k => (owner.getD (i + k) (some 0)).isNone with
    | some k =>
      refine ⟨i + k, rfl, ?_, ?_⟩
      · have hk := List.mem_of_find?_eq_some hf
        rw [List.mem_range] at hk
        unfold SetTable.runEnd at hk
        split at hk <;> omega
      · have q := List.find?_some hf
        exact Option.isNone_iff_eq_none.mp q
    | none =>
      have q := List.find?_eq_none.mp hf 0 (by rw [List.mem_range]; unfold SetTable.runEnd; split <;> omega)
      cases n with
      | zero =>
        have h : owner.getD i (some 0) = none := h
        rw [Nat.add_zero, h] at q
        exact absurd rfl q
      | succ n =>
        have hl : (SetTable.leap mask i p).1 ≤ mask := Nat.le_of_lt_succ (Nat.mod_lt _ (Nat.succ_pos mask))
        exact free_some fuel (SetTable.leap mask i p).1 (SetTable.leap mask i p).2 hl ⟨n, Nat.lt_of_succ_lt_succ hn, h⟩
/-- the table's live slots -/
def liveOf (owner : Array (Option Nat)) (l : List Nat) : List (Nat × Nat) := l.filterMap fun j => (owner.getD j none).map (j, ·)
theorem live_other {owner : Array (Option Nat)} {j : Nat} {v : Option Nat} : ∀ l : List Nat, j ∉ l → liveOf (owner.setIfInBounds j v) l = liveOf owner l
  | [], _ => rfl
  | x :: l, h => by
    have hx : j ≠ x := fun e => h (by rw [e]; exact List.mem_cons_self)
    have e : (owner.setIfInBounds j v).getD x none = owner.getD x none := by
      simp only [Array.getD_eq_getD_getElem?, Array.getElem?_setIfInBounds, hx, if_false]
    unfold liveOf
    rw [List.filterMap_cons, List.filterMap_cons, e]
    have q := live_other (owner := owner) (v := v) l fun m => h (List.mem_cons_of_mem _ m)
    unfold liveOf at q
    rw [q]
theorem live_set {owner : Array (Option Nat)} {j k : Nat} (hj : j < owner.size) (he : owner.getD j none = none) : ∀ l : List Nat, l.Nodup → j ∈ l → (liveOf (owner.setIfInBounds j (some k)) l).Perm ((j, k) :: liveOf owner l)
  | [], _, h => by simp at h
  | x :: l, nd, h => by
    obtain ⟨n1, n2⟩ := List.nodup_cons.mp nd
    by_cases hx : j = x
    · subst hx
      have e1 : (owner.setIfInBounds j (some k)).getD j none = some k := by
        simp [Array.getD_eq_getD_getElem?, Array.getElem?_setIfInBounds, hj]
      have q := live_other (owner := owner) (v := some k) l n1
      unfold liveOf at q ⊢
      rw [List.filterMap_cons, List.filterMap_cons, e1, he, q]
      exact .refl _
    · have hm : j ∈ l := (List.mem_cons.mp h).resolve_left hx
      have e : (owner.setIfInBounds j (some k)).getD x none = owner.getD x none := by
        simp only [Array.getD_eq_getD_getElem?, Array.getElem?_setIfInBounds, hx, if_false]
      have q := live_set (k := k) hj he l n2 hm
      unfold liveOf at q ⊢
      rw [List.filterMap_cons, List.filterMap_cons, e]
      cases owner.getD x none with
      | none => exact q
      | some y => exact (List.Perm.cons _ q).trans (List.Perm.swap _ _ _)
theorem live_full {owner : Array (Option Nat)} : ∀ l : List Nat, (∀ j ∈ l, owner.getD j none ≠ none) → (liveOf owner l).length = l.length
  | [], _ => rfl
  | x :: l, h => by
    have h1 := h x List.mem_cons_self
    have h2 := live_full l fun j hj => h j (List.mem_cons_of_mem _ hj)
    unfold liveOf at h2 ⊢
    rw [List.filterMap_cons]
    cases e : owner.getD x none with
    | none => exact absurd e h1
    | some y =>
      show _ + 1 = _ + 1
      rw [h2]
theorem live_fst {owner : Array (Option Nat)} : ∀ l : List Nat, ((liveOf owner l).map (·.1)).Sublist l
  | [] => .slnil
  | x :: l => by
    have h2 := live_fst (owner := owner) l
    unfold liveOf at h2 ⊢
    rw [List.filterMap_cons]
    cases e : owner.getD x none with
    | none => exact .cons _ h2
    | some y => exact .cons₂ _ h2
structure Lay (mask : Nat) (owner : Array (Option Nat)) (k : Nat) : Prop where
  size : owner.size = mask + 1
  perm : ((liveOf owner (List.range (mask + 1))).map (·.2)).Perm (List.range k)
def layStep (mask : Nat) (acc : Option (Array (Option Nat) × Nat)) (h : Int) : Option (Array (Option Nat) × Nat) := do
  let (owner, k) ← acc
  let j ← SetTable.layClean.free mask owner (SetTable.turns mask) (SetTable.bits h % (mask + 1)) (SetTable.bits h)
  pure (owner.setIfInBounds j (some k), k + 1)
theorem getD_none {owner : Array (Option Nat)} {j : Nat} (h : owner.getD j (some 0) = none) : j < owner.size ∧ owner.getD j none = none := by
  rw [Array.getD_eq_getD_getElem?] at h ⊢
  by_cases hj : j < owner.size
  · rw [Array.getElem?_eq_getElem hj] at h ⊢
    exact ⟨hj, h⟩
  · rw [Array.getElem?_eq_none (by omega)] at h
    cases h
theorem lay_step {mask e : Nat} (hm : mask + 1 = 2 ^ e) {owner : Array (Option Nat)} {k : Nat} (L : Lay mask owner k) (hk : k ≤ mask) (h : Int) :
    ∃ o', layStep mask (some (owner, k)) h = some (o', k + 1) ∧ Lay mask o' (k + 1) := by
  have hb : SetTable.bits h < 2 ^ 64 := by
    unfold SetTable.bits
    omega
  have hi : SetTable.bits h % (mask + 1) ≤ mask := Nat.le_of_lt_succ (Nat.mod_lt _ (Nat.succ_pos mask))
  obtain ⟨t, ht, htn⟩ : ∃ t, t ≤ mask ∧ owner.getD t none = none := by
    apply Classical.byContradiction
    intro no
    have q := live_full (owner := owner) (List.range (mask + 1)) fun j hj e => no ⟨j, Nat.le_of_lt_succ (List.mem_range.mp hj), e⟩
    have q2 := L.perm.length_eq
    rw [List.length_map, q, List.length_range, List.length_range] at q2
    omega
  obtain ⟨n, hn, hs⟩ := stops_all hm hi hb ht
  have htn' : owner.getD (stops mask n (SetTable.bits h % (mask + 1), SetTable.bits h)).1 (some 0) = none := by
    rw [hs]
    rw [Array.getD_eq_getD_getElem?] at htn ⊢
    rw [Array.getElem?_eq_getElem (by rw [L.size]; omega)] at htn ⊢
    exact htn
  obtain ⟨j, hf, hj, hjn⟩ := free_some (SetTable.turns mask) _ (SetTable.bits h) hi ⟨n, hn, htn'⟩
  obtain ⟨hjs, hjn⟩ := getD_none hjn
  refine ⟨owner.setIfInBounds j (some k), ?_, ?_, ?_⟩
  · show (do
      let j ← SetTable.layClean.free mask owner (SetTable.turns mask) (SetTable.bits h % (mask + 1)) (SetTable.bits h)
      pure (owner.setIfInBounds j (some k), k + 1)) = _
    rw [hf]
    rfl
  · rw [Array.size_setIfInBounds]; exact L.size
  · refine ((live_set hjs hjn (List.range (mask + 1)) List.nodup_range (by rw [List.mem_range]; omega)).map (·.2)).trans ?_
    rw [List.map_cons, List.range_succ (n := k)]
    exact (List.Perm.cons k L.perm).trans (List.perm_append_comm (l₁ := [k]))
theorem lay_all {mask e : Nat} (hm : mask + 1 = 2 ^ e) : ∀ (hs : List Int) (owner : Array (Option Nat)) (k : Nat), Lay mask owner k → k + hs.length ≤ mask + 1 →
    ∃ o', hs.foldl (layStep mask) (some (owner, k)) = some (o', k + hs.length) ∧ Lay mask o' (k + hs.length)
  | [], owner, k, L, _ => ⟨owner, rfl, L⟩
  | h :: hs, owner, k, L, hb => by
    simp only [List.length_cons] at hb
    obtain ⟨o1, e1, L1⟩ := lay_step hm L (by omega) h
    obtain ⟨o2, e2, L2⟩ := lay_all hm hs o1 (k + 1) L1 (by omega)
    refine ⟨o2, ?_, ?_⟩
    · rw [List.foldl_cons, e1, e2, List.length_cons]
      congr 2
      omega
    · rw [List.length_cons, show k + (hs.length + 1) = k + 1 + hs.length by omega]
      exact L2
theorem laid_ok {mask e finger moves : Nat} {led plain : Bool} {hashes : Array Int} (hm : mask + 1 = 2 ^ e) (hb : hashes.size ≤ mask + 1) :
    ∃ place order, SetTable.laid mask finger moves led plain hashes = some ({ mask, place, dummies := #[], finger, led, moves, plain }, order) ∧ order.toList.Perm (List.range hashes.size) ∧ Ris place.toList ∧ place.size = hashes.size := by
  have L0 : Lay mask (Array.replicate (mask + 1) none) 0 := by
    refine ⟨by simp, ?_⟩
    have : liveOf (Array.replicate (mask + 1) none) (List.range (mask + 1)) = [] := by
      unfold liveOf
      rw [List.filterMap_eq_nil_iff]
      intro j hj
      rw [List.mem_range] at hj
      rw [Array.getD_eq_getD_getElem?, Array.getElem?_replicate, if_pos hj]
      rfl
    rw [this]
    exact .refl _
  obtain ⟨o, e1, L⟩ := lay_all hm hashes.toList _ 0 L0 (by simpa using hb)
  rw [Nat.zero_add, Array.length_toList] at e1 L
  have e2 : SetTable.layClean mask hashes = some o := by
    unfold SetTable.layClean
    rw [← Array.foldl_toList]
    show Option.map _ (hashes.toList.foldl (layStep mask) _) = _
    rw [e1]
    rfl
  refine ⟨((liveOf o (List.range (mask + 1))).map (·.1)).toArray, ((liveOf o (List.range (mask + 1))).map (·.2)).toArray, ?_, ?_, ?_, ?_⟩
  · unfold SetTable.laid
    rw [e2]
    rfl
  · exact L.perm
  · exact List.Pairwise.sublist (live_fst _) List.pairwise_lt_range
  · have q := L.perm.length_eq
    rw [List.length_map, List.length_range] at q
    simp [q]
theorem above_ok : ∀ (f m n : Nat), n < 2 ^ (m + f) → ∃ k, SetTable.sizeAbove.go n f (2 ^ m) = 2 ^ k ∧ n < 2 ^ k ∧ (2 ^ k ≤ 2 ^ m ∨ 2 ^ k ≤ 2 * n)
  | 0, m, n, h => ⟨m, rfl, h, .inl (Nat.le_refl _)⟩
  | f + 1, m, n, h => by
    unfold SetTable.sizeAbove.go
    by_cases q : 2 ^ m ≤ n
    · rw [if_pos q]
      obtain ⟨k, h1, h2, h3⟩ := above_ok f (m + 1) n (by rw [show m + 1 + f = m + (f + 1) by omega]; exact h)
      refine ⟨k, h1, h2, .inr ?_⟩
      rcases h3 with h3 | h3
      · rw [Nat.pow_succ] at h3
        omega
      · exact h3
    · rw [if_neg q]
      exact ⟨m, rfl, by omega, .inl (Nat.le_refl _)⟩
theorem sizeAbove_ok {n : Nat} (h : n < 2 ^ 60) : ∃ k, SetTable.sizeAbove n = 2 ^ k ∧ n < 2 ^ k ∧ 2 ^ k ≤ 8 + 2 * n := by
  obtain ⟨k, h1, h2, h3⟩ := above_ok 64 3 n (Nat.lt_trans h (by decide))
  exact ⟨k, h1, h2, by omega⟩
end MP

set_option maxHeartbeats 1000000
/-! set | set, texts -/
namespace MP
open PySem PySem.Spec PyProof.Rows L2 PySem.Froz
theorem pick_id {α : Type} : ∀ es : List α, (List.range es.length).filterMap (fun i => es[i]?) = es
  | [] => rfl
  | x :: r => by
    rw [List.length_cons, List.range_succ_eq_map, List.filterMap_cons, List.filterMap_map]
    show x :: _ = _
    congr 1
    exact pick_id r
theorem pick_all {α : Type} {es : List α} {ord : List Nat} (p : ord.Perm (List.range es.length)) : (ord.filterMap fun i => es[i]?).Perm es := by
  refine (p.filterMap _).trans ?_
  rw [pick_id]
section
variable {P : Program} {w : World} {A : Around} {E : Value → Shared → Prop} {s : Shared} {a : Addr} {l : List Str}
/-- a payload laid anew -/
theorem laid_set {mask e finger moves : Nat} {led plain : Bool} {es : Array (Int × Value)} {ep : Nat} {t : SetTable} (hm : mask + 1 = 2 ^ e) (F : TxOk P w (es, ep, t) l) (hn : l.length ≤ mask) :
    ∃ t' ord, t'.mask = mask ∧ SetTable.laid mask finger moves led plain (es.map (·.1)) = some (t', ord) ∧ (ord.filterMap (es[·]?)).size = es.size ∧
      (∀ ep', TxOk P w (ord.filterMap (es[·]?), ep', t') l) ∧ Ris t'.place.toList ∧ t'.led = led := by
  have hsz : es.size = l.length := F.sz
  obtain ⟨place, ord, h1, h2, h3, h4⟩ := laid_ok (finger := finger) (moves := moves) (led := led) (plain := plain) (hashes := es.map (·.1)) hm (by rw [Array.size_map]; omega)
  rw [Array.size_map] at h2 h4
  have p : (ord.filterMap (es[·]?)).toList.Perm es.toList := by
    rw [Array.toList_filterMap]
    have q := pick_all (es := es.toList) (ord := ord.toList) (by rw [Array.length_toList]; exact h2)
    have e : (fun i : Nat => es.toList[i]?) = fun i => es[i]? := by
      funext i
      rw [Array.getElem?_toList]
    rw [e] at q
    exact q
  have hs2 : (ord.filterMap (es[·]?)).size = es.size := by rw [← Array.length_toList, p.length_eq, Array.length_toList]
  refine ⟨_, ord, rfl, h1, hs2, fun ep' => F.perm p ?_, h3, rfl⟩
  simp [SetTable.fits, SetTable.fill, h4, hs2]
  omega
/-- the set at a has a table of a power of two, n below it -/
def Pow (h : Heap) (a : Addr) (n : Nat) : Prop := ∃ es ep t e, h.get? a = some (sObj "set" (es, ep, t)) ∧ t.mask + 1 = 2 ^ e ∧ n ≤ t.mask
theorem setS_relay {wanted : Nat} {Q : Unit → Shared → Prop} (R : SetS P w s.heap a l) (hw : l.length ≤ wanted) (hb : wanted < 100000)
    (hQ : ∀ h', Heap.SameBut a s.heap h' → SetS P w h' a l → Pow h' a wanted → Q () { s with heap := h' }) : wpAny (model P w) A (setRelay a wanted) Q E s := by
  obtain ⟨es, ep, t, ho, F, nd, hlen, hr, hl⟩ := R
  obtain ⟨k, k1, k2, k3⟩ := sizeAbove_ok (n := wanted) (by omega)
  have hpos : 0 < 2 ^ k := Nat.two_pow_pos k
  obtain ⟨t', ord, e0, e1, e2, e3, e4, e5⟩ := laid_set (mask := 2 ^ k - 1) (e := k) (finger := t.finger) (moves := t.movedTo (2 ^ k - 1)) (led := t.led) (plain := t.plain) (by omega) F (by omega)
  have hrel : t.relaid (es.map (·.1)) wanted = some (t', ord) := by
    unfold SetTable.relaid
    rw [k1]
    exact e1
  have hsz : es.size = l.length := F.sz
  unfold setRelay
  refine wpAny_bind (wpAny_setState_of ho rfl F.fit ?_)
  dsimp only
  rw [if_neg (by rw [k1, sizeLine_eq]; omega), hrel]
  refine wpAny_bind (m := (do
    if (ord.filterMap (es[·]?)).size != es.size then unsupported "internal:set-table-lost-an-element"
    pure (ord.filterMap (es[·]?), t') : Sem (Array (Int × Value) × SetTable))) ?_
  have hne : ((ord.filterMap (es[·]?)).size != es.size) = false := by rw [e2]; simp
  rw [hne]
  refine wpAny_pure ?_
  refine wpAny_storeSet_of ho rfl ?_ (by rw [e2, hsz]; exact fits_of_scanBound hlen)
  refine hQ _ (Heap.SameBut.update s.heap a _) ?_ ⟨ord.filterMap (es[·]?), ep + 1, t', k, Heap.get?_update_self (Obj.putSet (ord.filterMap (es[·]?)) t') ho rfl, by rw [e0]; omega, by rw [e0]; omega⟩
  exact ⟨ord.filterMap (es[·]?), ep + 1, t', Heap.get?_update_self (Obj.putSet (ord.filterMap (es[·]?)) t') ho rfl, e3 _, nd, hlen, e4, hl.imp id fun z => e5.trans z⟩
end
end MP

set_option maxHeartbeats 1000000
/-! set | set, texts: the walk of the one, put into the other -/
namespace MP
open PySem PySem.Spec PyProof.Rows L2 PySem.Froz
section
variable {P : Program} {w : World} {A : Around} {E : Value → Shared → Prop} {s : Shared} {a : Addr} {l : List Str}
theorem setWalk_any {o : Obj} {es : Array (Int × Value)} {ep : Nat} {t : SetTable} {Q : Array (Int × Value) → Shared → Prop} (ho : s.heap.get? a = some o) (hd : o.data = .set es ep t) (hf : t.fits es.size = true)
    (hl : w.params.followText "set-order" = true ∨ t.led = true)
    (h : ∀ xs d, xs.toList.Perm es.toList → Q xs { s with drawn := d }) : wpAny (model P w) A (setWalk a) Q E s := by
  unfold setWalk
  refine wpAny_bind (wpAny_setState_of ho hd hf ?_)
  dsimp only
  refine wpAny_bind (wpAny_byText ?_)
  rcases SrtO.bcase (w.params.followText "set-order") with hb | hb
  · refine wp_if_pos hb ?_
    exact wpAny_bind (wpAny_askSetting (wpAny_pure (h _ s.drawn (pick_perm _ _))))
  · refine wp_if_neg (by rw [hb]; exact Bool.false_ne_true) ?_
    have hled : t.led = true := hl.resolve_left (by rw [hb]; exact Bool.false_ne_true)
    by_cases hdr : (!t.plain && decide (es.size > 1)) = true
    · refine wp_if_pos hdr ?_
      refine wpAny_bind (drawOrder_at _ _ _ _ (Nat.le_of_eq Array.length_toList) fun ys d hp => ?_)
      exact wpAny_pure (h _ d (by simpa using hp))
    · refine wp_if_neg hdr ?_
      refine wpAny_bind (wpAny_of_eq (a := ()) ?_ ?_)
      · show (if (!t.led && decide (es.size > 1)) = true then unsupported "set:maker-not-led" else pure ()) = pure ()
        rw [hled] <;> rfl
      · exact wpAny_pure (h es s.drawn (.refl _))
theorem setsQuiet_txt {Q : Bool → Shared → Prop} (as : List Addr) (h : ∀ b ∈ as, ∃ l, SetS P w s.heap b l) (hQ : Q true s) : wpAny (model P w) A (setsQuiet as) Q E s := by
  unfold setsQuiet
  refine wpAny_bind (wpAny_forIn_list _ (fun rest r s' => s' = s ∧ r.1 = none ∧ ∀ b ∈ rest, ∃ l, SetS P w s.heap b l) _ (fun x rest r s' hI => ?_) (fun r s' hI => ?_) _ _ ⟨rfl, rfl, h⟩)
  · obtain ⟨rfl, hr, hs⟩ := hI
    obtain ⟨l, es, ep, t, ho, F, _⟩ := hs x List.mem_cons_self
    refine wpAny_bind (m := setEntries x) ?_
    unfold setEntries
    refine wpAny_bind (wpAny_setState_of ho rfl F.fit (wpAny_pure ?_))
    refine wpAny_bind (wpAny_forIn_array' _ (fun rest r s'' => s'' = s' ∧ r.1 = none ∧ ∀ e ∈ rest, e ∈ es.toList) _ (fun e rest r s'' hI => ?_) (fun r s'' hI => ?_) _ _ ⟨rfl, rfl, fun e he => he⟩)
    · obtain ⟨rfl, hr, hm⟩ := hI
      obtain ⟨⟨k, hk, _⟩, _⟩ := F.el e (hm e List.mem_cons_self)
      obtain ⟨tk, hv⟩ := Value.isStrOf_shape hk
      obtain ⟨e1, e2⟩ := e
      have hv : e2 = .str k tk := hv
      subst hv
      exact wpAny_pure ⟨rfl, rfl, fun e he => hm e (List.mem_cons_of_mem _ he)⟩
    · obtain ⟨rfl, hr, _⟩ := hI
      obtain ⟨r1, r2⟩ := r
      have hr : r1 = none := hr
      subst hr
      exact wpAny_pure ⟨rfl, rfl, fun b hb => hs b (List.mem_cons_of_mem _ hb)⟩
  · obtain ⟨rfl, hr, _⟩ := hI
    obtain ⟨r1, r2⟩ := r
    have hr : r1 = none := hr
    subst hr
    exact wpAny_pure hQ
/-- the walk of one set, for another to take: the first in any order, the other as it was but for marks -/
theorem walkUnseen {b : Addr} {m : List Str} {Q : Array (Int × Value) → Shared → Prop} {es : Array (Int × Value)} {ep : Nat} {t : SetTable} (hab : a ≠ b) (ho : s.heap.get? b = some (sObj "set" (es, ep, t))) (F : TxOk P w (es, ep, t) m)
    (R : SetS P w s.heap a l) (S : SetS P w s.heap b m) (hl : w.params.followText "set-order" = true ∨ t.led = true)
    (h : ∀ xs h' d, xs.toList.Perm es.toList → Heap.SameBut a s.heap h' → SetS P w h' a l → Q xs { s with heap := h', drawn := d }) : wpAny (model P w) A (setWalkUnseen b [a] (some a)) Q E s := by
  unfold setWalkUnseen
  refine wpAny_bind (wpAny_setState_of ho rfl F.fit ?_)
  dsimp only
  refine wpAny_bind (wpAny_byText ?_)
  by_cases c : (w.params.followText "set-order" || (t.led && t.plain) || decide (es.size ≤ 1)) = true
  · refine wp_if_pos c ?_
    exact setWalk_any ho rfl F.fit hl fun xs d p => h xs s.heap d p (Heap.SameBut.refl a s.heap) R
  · refine wp_if_neg c ?_
    refine wpAny_bind (setsQuiet_txt [b, a] (fun x hx => ?_) ?_)
    · rcases List.mem_cons.mp hx with e | hx
      · exact ⟨m, by rw [e]; exact S⟩
      · exact ⟨l, by rw [List.mem_singleton.mp hx]; exact R⟩
    refine wp_if_neg (by simp) ?_
    refine wpAny_bind (wpAny_rule ?_)
    obtain ⟨ea, pa, ta, hoa, Fa, nda, hba, hra, hla⟩ := R
    refine wpAny_bind (wpAny_setState_of hoa rfl Fa.fit ?_)
    dsimp only
    have hbt : w.params.followText "set-order" = false := by
      rcases SrtO.bcase (w.params.followText "set-order") with q | q
      · rw [q] at c; exact absurd rfl c
      · exact q
    have htl : t.led = true := hl.resolve_left (by rw [hbt]; exact Bool.false_ne_true)
    have hal : ta.led = true := hla.resolve_left (by rw [hbt]; exact Bool.false_ne_true)
    by_cases c2 : ((ta.led && !t.led) || (ta.plain && !t.plain)) = true
    · refine wp_if_pos c2 ?_
      refine wpAny_bind (wpAny_storeSet_of hoa rfl ?_ (by rw [show ea.size = l.length from Fa.sz]; exact fits_of_scanBound hba))
      refine wpAny_pure ?_
      refine h es _ s.drawn (.refl _) (Heap.SameBut.update s.heap a _) ?_
      exact ⟨ea, pa + 1, { ta with led := ta.led && t.led, plain := ta.plain && t.plain }, Heap.get?_update_self (Obj.putSet ea { ta with led := ta.led && t.led, plain := ta.plain && t.plain }) hoa rfl,
        Fa.perm (.refl _) Fa.fit, nda, hba, hra, .inr (by show (ta.led && t.led) = true; rw [htl, hal]; rfl)⟩
    · refine wp_if_neg c2 ?_
      exact wpAny_pure (h es s.heap s.drawn (.refl _) (Heap.SameBut.refl a s.heap) ⟨ea, pa, ta, hoa, Fa, nda, hba, hra, hla⟩)
end
end MP

set_option maxHeartbeats 1000000
/-! set | set, texts: one set put into another -/
namespace MP
open PySem PySem.Spec PyProof.Rows L2 PySem.Froz
section
variable {P : Program} {w : World} {A : Around} {E : Value → Shared → Prop} {s : Shared} {a : Addr} {l : List Str}
theorem setS_room {more : Nat} {Q : Unit → Shared → Prop} (R : SetS P w s.heap a l) (hb : more < 4096) (hp0 : l = [] → Pow s.heap a 0)
    (hQ : ∀ h', Heap.SameBut a s.heap h' → SetS P w h' a l → (l = [] → Pow h' a more) → Q () { s with heap := h' }) : wpAny (model P w) A (setRoomFor a more) Q E s := by
  have R0 := R
  obtain ⟨es, ep, t, ho, F, nd, hlen, hr, hl⟩ := R
  have hsz : es.size = l.length := F.sz
  have hp : t.place.size = es.size := by
    have q := F.fit
    simp only [SetTable.fits, Bool.and_eq_true, beq_iff_eq] at q
    exact q.1
  unfold setRoomFor
  refine wpAny_bind (wpAny_setState_of ho rfl F.fit ?_)
  dsimp only
  unfold SetTable.roomFor
  by_cases c : (t.fill + more) * 5 ≥ t.mask * 3
  · rw [if_pos c]
    have q : scanBound = 4096 := rfl
    refine setS_relay R0 (by omega) (by omega) fun h' k1 R1 hp1 => hQ h' k1 R1 fun _ => ?_
    obtain ⟨es', ep', t', e, q1, q2, q3⟩ := hp1
    exact ⟨es', ep', t', e, q1, q2, by omega⟩
  · rw [if_neg c]
    refine wpAny_pure (hQ s.heap (Heap.SameBut.refl a s.heap) R0 fun hl0 => ?_)
    obtain ⟨es', ep', t', e, q1, q2, q3⟩ := hp0 hl0
    rw [ho] at q1
    cases q1
    exact ⟨es, ep, t, e, ho, q2, by omega⟩
theorem setS_merge {b : Addr} {m : List Str} {each : Sem Unit} {Q : Unit → Shared → Prop} (hab : a ≠ b) (R : SetS P w s.heap a l) (S : SetS P w s.heap b m) (hb : l.length + m.length + 1 < scanBound) (hp0 : l = [] → Pow s.heap a 0)
    (he : ∀ (A : Around) (s' : Shared) (Q' : Unit → Shared → Prop), s'.heap.get? b = s.heap.get? b → Q' () s' → wpAny (model P w) A each Q' E s')
    (hQ : ∀ h' d l', Heap.SameBut a s.heap h' → SetS P w h' a l' → (∀ k, k ∈ l' ↔ k ∈ l ∨ k ∈ m) → l'.length ≤ l.length + m.length → (m = [] → h' = s.heap) → Q () { s with heap := h', drawn := d }) : wpAny (model P w) A (setMerge a b each) Q E s := by
  have S0 := S
  obtain ⟨eb, pb, tb, hob, Fb, ndb, hlb, hrb, hldb⟩ := S
  have hsb : eb.size = m.length := Fb.sz
  have hsc : scanBound = 4096 := rfl
  unfold setMerge
  refine wp_if_neg (by simpa using hab) ?_
  try refine wpAny_bind (wpAny_pure ?_)
  refine wpAny_bind (wpAny_setState_of hob rfl Fb.fit ?_)
  dsimp only
  by_cases c : eb.isEmpty = true
  · refine wp_if_pos c ?_
    have hm : m = [] := List.eq_nil_of_length_eq_zero (by rw [← hsb]; simpa using c)
    refine wpAny_pure (hQ s.heap s.drawn l (Heap.SameBut.refl a s.heap) R (fun k => by rw [hm]; simp) (by omega) fun _ => rfl)
  · refine wp_if_neg c ?_
    have hmn : m ≠ [] := fun z => c (by rw [z] at hsb; simpa using hsb)
    try refine wpAny_bind (wpAny_pure ?_)
    refine wpAny_bind (setS_room R (by omega) hp0 fun h1 k1 R1 hp1 => ?_)
    have R1' := R1
    obtain ⟨ea, pa, ta, hoa, Fa, nda, hla, hra, hlda⟩ := R1
    have hob1 : h1.get? b = some (sObj "set" (eb, pb, tb)) := (k1.2 b (Ne.symm hab)).trans hob
    refine wpAny_bind (wpAny_setState_of (s := { s with heap := h1 }) hoa rfl Fa.fit ?_)
    dsimp only
    have hpa : ta.place.size = ea.size := by
      have q := Fa.fit
      simp only [SetTable.fits, Bool.and_eq_true, beq_iff_eq] at q
      exact q.1
    have hsa : ea.size = l.length := Fa.sz
    have hled2 : w.params.followText "set-order" = true ∨ (ta.led && tb.led) = true := by
      rcases hlda with q | q
      · exact .inl q
      · exact hldb.imp id fun z => by rw [q, z]; rfl
    cases hroad : ta.road tb with
    | oneByOne =>
      dsimp only
      have S1 : SetS P w h1 b m := ⟨eb, pb, tb, hob1, Fb, ndb, hlb, hrb, hldb⟩
      refine wpAny_bind (walkUnseen (s := { s with heap := h1 }) hab hob1 Fb R1' S1 hldb fun xs h2 d p k2 R2 => ?_)
      refine wpAny_bind (wpAny_forIn_array' _ (fun rest _ s' => ∃ h3 l3, s' = { s with heap := h3, drawn := d } ∧ Heap.SameBut a h2 h3 ∧ SetS P w h3 a l3 ∧ ElemsOf (strKind P w) rest ∧
        (∀ k, (k ∈ l3 ∨ ∃ e ∈ rest, (strKind P w).is k e.2 = true) ↔ k ∈ l ∨ k ∈ m) ∧ l3.length + rest.length ≤ l.length + m.length) _ (fun e rest _ s' hI => ?_) (fun _ s' hI => ?_) _ _
        ⟨h2, l, rfl, Heap.SameBut.refl a h2, R2, Fb.el.perm p, fun k => ?_, ?_⟩)
      · obtain ⟨h3, l3, rfl, k3, R3, el, mm, ln⟩ := hI
        obtain ⟨⟨k, hk, hhash⟩, _⟩ := el e List.mem_cons_self
        obtain ⟨tk, hv⟩ := Value.isStrOf_shape hk
        obtain ⟨e1, e2⟩ := e
        have hv : e2 = .str k tk := hv
        subst hv
        have hhash : e1 = hashStr w k := hhash
        subst hhash
        simp only [List.length_cons] at ln
        dsimp only
        refine wpAny_bind (wpAny_holding (setS_add (s := { s with heap := h3, drawn := d }) R3 (by omega) fun h4 b4 k4 R4 => ?_))
        have hb4 : h4.get? b = some (sObj "set" (eb, pb, tb)) := (k4.2 b (Ne.symm hab)).trans ((k3.2 b (Ne.symm hab)).trans ((k2.2 b (Ne.symm hab)).trans hob1))
        refine wpAny_bind (he _ _ _ (hb4.trans hob.symm) ?_)
        refine wpAny_bind (wpAny_setState_of (s := { s with heap := h4, drawn := d }) hb4 rfl Fb.fit ?_)
        dsimp only
        refine wp_if_neg (by simp) ?_
        refine wpAny_pure ⟨h4, insS k l3, rfl, k3.trans k4, R4, el.tail, fun k' => ?_, ?_⟩
        · rw [← mm k', insS_mem]
          constructor
          · rintro ((q | q) | ⟨e, he, q⟩)
            · exact .inr ⟨_, List.mem_cons_self, by rw [q]; exact is_str k tk⟩
            · exact .inl q
            · exact .inr ⟨e, List.mem_cons_of_mem _ he, q⟩
          · rintro (q | ⟨e, he, q⟩)
            · exact .inl (.inr q)
            · rcases List.mem_cons.mp he with z | he
              · subst z
                have q1 : Value.isStrOf k' (.str k tk) = true := q
                obtain ⟨t2, z⟩ := Value.isStrOf_shape q1
                cases z
                exact .inl (.inl rfl)
              · exact .inr ⟨e, he, q⟩
        · have := insS_len k l3
          omega
      · obtain ⟨h3, l3, rfl, k3, R3, el, mm, ln⟩ := hI
        refine wpAny_pure (hQ h3 d l3 ((k1.trans k2).trans k3) R3 (fun k => ?_) (by simpa using ln) fun z => absurd z hmn)
        rw [← mm k]
        simp
      · rw [Fb.mem k]
        have q : (∃ e ∈ xs.toList, (strKind P w).is k e.2 = true) ↔ ∃ e ∈ eb.toList, (strKind P w).is k e.2 = true :=
          ⟨fun ⟨e, he, q⟩ => ⟨e, p.mem_iff.mp he, q⟩, fun ⟨e, he, q⟩ => ⟨e, p.mem_iff.mpr he, q⟩⟩
        rw [q]
      · have q1 := p.length_eq
        have q2 : eb.toList.length = m.length := Array.length_toList.trans hsb
        rw [q1, q2]
        exact Nat.le_refl _
    | slotForSlot =>
      have hl0 : l = [] := by
        unfold SetTable.road at hroad
        split at hroad
        · cases hroad
        · rename_i hf
          refine List.eq_nil_of_length_eq_zero ?_
          simp only [bne_iff_ne, ne_eq, Decidable.not_not, SetTable.fill] at hf
          omega
      refine wpAny_storeSet_of (s := { s with heap := h1 }) hoa rfl ?_ (by rw [hsb]; exact fits_of_scanBound hlb)
      refine hQ _ s.drawn m (k1.trans (Heap.SameBut.update h1 a _)) ?_ (fun k => by rw [hl0]; simp) (by omega) fun z => absurd z hmn
      exact ⟨eb, pa + 1, { tb with finger := ta.finger, led := ta.led && tb.led, moves := ta.moves, plain := ta.plain && tb.plain },
        Heap.get?_update_self (Obj.putSet eb { tb with finger := ta.finger, led := ta.led && tb.led, moves := ta.moves, plain := ta.plain && tb.plain }) hoa rfl, Fb.perm (.refl _) Fb.fit, ndb, hlb, hrb, hled2⟩
    | clean =>
      have hl0 : l = [] := by
        unfold SetTable.road at hroad
        split at hroad
        · cases hroad
        · rename_i hf
          refine List.eq_nil_of_length_eq_zero ?_
          simp only [bne_iff_ne, ne_eq, Decidable.not_not, SetTable.fill] at hf
          omega
      obtain ⟨es', ep', t', e, q1, q2, q3⟩ := hp1 hl0
      rw [hoa] at q1
      cases q1
      obtain ⟨t', ord, e0, e1, e2, e3, e4, e5⟩ := laid_set (mask := ta.mask) (e := e) (finger := ta.finger) (moves := ta.moves) (led := ta.led && tb.led) (plain := ta.plain && tb.plain) q2 Fb (by omega)
      dsimp only
      rw [e1]
      refine wpAny_bind (m := (do
        if (ord.filterMap (eb[·]?)).size != eb.size then unsupported "internal:set-table-lost-an-element"
        pure (ord.filterMap (eb[·]?), t') : Sem (Array (Int × Value) × SetTable))) ?_
      have hne : ((ord.filterMap (eb[·]?)).size != eb.size) = false := by rw [e2]; simp
      rw [hne]
      refine wpAny_pure ?_
      refine wpAny_storeSet_of (s := { s with heap := h1 }) hoa rfl ?_ (by rw [e2, hsb]; exact fits_of_scanBound hlb)
      refine hQ _ s.drawn m (k1.trans (Heap.SameBut.update h1 a _)) ?_ (fun k => by rw [hl0]; simp) (by omega) fun z => absurd z hmn
      exact ⟨ord.filterMap (eb[·]?), pa + 1, t', Heap.get?_update_self (Obj.putSet (ord.filterMap (eb[·]?)) t') hoa rfl, e3 _, ndb, hlb, e4, hled2.imp id fun z => e5.trans z⟩
end
end MP

set_option maxHeartbeats 1000000
/-! set | set, texts -/
namespace MP
open PySem PySem.Spec PyProof.Rows L2 PySem.Froz
section
variable {P : Program} {w : World} {A : Around} {E : Value → Shared → Prop} {s : Shared} {a : Addr} {l : List Str}
theorem newSet_txt {Q : Value → Shared → Prop} (h : Q (.ref s.heap.objs.size) { s with heap := s.heap.push { cls := .type "set", dict := none, data := .set #[] 0 (.fresh 0 0 (!w.params.followText "set-order")) } }) :
    wpAny (model P w) A (newSet (.type "set")) Q E s := by
  unfold newSet setsByText
  refine wpAny_bind (wpAny_bind (wpAny_askSetting (wpAny_pure ?_)))
  dsimp only
  simp only [newObj]
  exact wpAny_bind (wpAny_alloc (wpAny_pure h))
theorem baseOf_set {o : Obj} {Q : Value → Shared → Prop} (ho : s.heap.get? a = some o) (hc : o.cls = .type "set") (h : Q (.type "set") s) : wpAny (model P w) A (Builtin.Frozenset.baseOf a) Q E s := by
  unfold Builtin.Frozenset.baseOf
  refine wpAny_bind (wpAny_isInstance (b := true) ⟨o, ho, hc⟩ sub_set_self ?_)
  exact wpAny_pure h
/-- a copy of a set -/
theorem setS_copy {Q : Value → Shared → Prop} (R : SetS P w s.heap a l) (hb : l.length + 1 < scanBound)
    (hQ : ∀ h' d l', (∀ b o, s.heap.get? b = some o → h'.get? b = some o) → SetS P w h' s.heap.objs.size l' → (∀ k, k ∈ l' ↔ k ∈ l) → l'.length ≤ l.length → (l' = [] → Pow h' s.heap.objs.size 0) →
      Q (.ref s.heap.objs.size) { s with heap := h', drawn := d }) : wpAny (model P w) A (Builtin.Frozenset.copyOf a) Q E s := by
  have R0 := R
  obtain ⟨es, ep, t, ho, F, nd, hlen, hr, hl⟩ := R
  have hlt : a < s.heap.objs.size := Heap.lt_size ho
  unfold Builtin.Frozenset.copyOf
  refine wpAny_bind (baseOf_set ho rfl ?_)
  refine wpAny_bind (newSet_txt ?_)
  have hS : (s.heap.push { cls := .type "set", dict := none, data := .set #[] 0 (.fresh 0 0 (!w.params.followText "set-order")) }).get? s.heap.objs.size = some { cls := .type "set", dict := none, data := .set #[] 0 (.fresh 0 0 (!w.params.followText "set-order")) } := Heap.get?_push_size _ rfl
  have hold : ∀ b o, s.heap.get? b = some o → (s.heap.push { cls := .type "set", dict := none, data := .set #[] 0 (.fresh 0 0 (!w.params.followText "set-order")) }).get? b = some o := fun b o e => Heap.get?_push_of_some _ e
  refine wpAny_bind (wpAny_pure ?_)
  refine wpAny_bind (setS_merge (s := { s with heap := s.heap.push { cls := .type "set", dict := none, data := .set #[] 0 (.fresh 0 0 (!w.params.followText "set-order")) } }) (a := s.heap.objs.size) (b := a) (l := []) (m := l)
    (Nat.ne_of_gt hlt) (setS_new hS) (R0.at fun o e => hold a o e) (by simpa using hb) (fun _ => ⟨_, _, _, 3, hS, rfl, Nat.zero_le _⟩) (fun A' s' Q' _ q => wpAny_pure q) fun h' d l' k1 R1 m1 n1 e1 => ?_)
  refine wpAny_pure (hQ h' d l' (fun b o e => ?_) R1 (fun k => by rw [m1]; simp) (by simpa using n1) ?_)
  · exact (k1.2 b (Nat.ne_of_lt (Heap.lt_size e))).trans (hold b o e)
  · intro hl0
    have hl : l = [] := List.eq_nil_iff_forall_not_mem.mpr fun k hk => by
      have q := (m1 k).mpr (.inr hk)
      rw [hl0] at q
      cases q
    rw [e1 hl]
    exact ⟨_, _, _, 3, hS, rfl, Nat.zero_le _⟩
end
end MP

set_option maxHeartbeats 1000000
/-! set | set, texts -/
namespace MP
open PySem PySem.Spec PyProof.Rows L2 PySem.Froz
section
variable {P : Program} {w : World} {A : Around} {E : Value → Shared → Prop} {s : Shared} {a b : Addr} {l m : List Str}
theorem entry_or : entryFor table "set.__or__" = some Builtin.«frozenset.__or__» :=
  entryFor_alias (id' := "frozenset.__or__") (by kernel_rfl) (by decide +kernel) (by decide +kernel) (by kernel_rfl)
theorem anySet_set {Q : Bool → Shared → Prop} {o : Obj} (ho : s.heap.get? a = some o) (hc : o.cls = .type "set") (h : Q true s) : wpAny (model P w) A (Builtin.Frozenset.isAnySet (.ref a)) Q E s := by
  unfold Builtin.Frozenset.isAnySet
  refine wpAny_bind (wpAny_isInstance (b := true) ⟨o, ho, hc⟩ sub_set_self ?_)
  exact wpAny_pure h
theorem or_sets {Q : Value → Shared → Prop} (hab : a ≠ b) (R : SetS P w s.heap a l) (S : SetS P w s.heap b m) (hb : l.length + m.length + 1 < scanBound)
    (hQ : ∀ h' d l', (∀ b o, s.heap.get? b = some o → h'.get? b = some o) → SetS P w h' s.heap.objs.size l' → (∀ k, k ∈ l' ↔ k ∈ l ∨ k ∈ m) → l'.length ≤ l.length + m.length →
      Q (.ref s.heap.objs.size) { s with heap := h', drawn := d }) : wpAny (model P w) A (binaryOp .BitOr (.ref a) (.ref b)) Q E s := by
  obtain ⟨ea, pa, ta, hoa, Ra⟩ := id R
  obtain ⟨eb, pb, tb, hob, Rb⟩ := id S
  have hlb : b < s.heap.objs.size := Heap.lt_size hob
  refine wpAny_binaryOp_same (T := "set") ⟨_, hoa, rfl⟩ ⟨_, hob, rfl⟩ F.fills_set_or F.slot_set_or ?_
  refine wpAny_call_entry F.slot_set_or ⟨_, hoa, rfl⟩ entry_or ?_ (F.args_set_or_2 _ _)
  unfold Builtin.«frozenset.__or__»
  wp_delta
  refine wpAny_bind (wpAny_pure (M := model P w) ?_)
  dsimp only
  refine wpAny_bind (wpAny_bind (anySet_set hoa rfl ?_))
  refine anySet_set hob rfl ?_
  refine wp_if_neg (by decide) ?_
  try refine wpAny_bind (wpAny_pure (M := model P w) ?_)
  refine wpAny_bind ?_
  wp_delta
  refine wpAny_bind (setS_copy R (by omega) fun h1 d1 l1 k1 R1 m1 n1 p1 => ?_)
  have hne : s.heap.objs.size ≠ b := Nat.ne_of_gt hlb
  refine wp_if_pos (by simp; exact fun z => hab z.symm) ?_
  have hsc : scanBound = 4096 := rfl
  refine wpAny_bind (m := Builtin.Frozenset.addrOf (.ref s.heap.objs.size)) (wpAny_pure ?_)
  refine wpAny_bind (wpAny_holding ?_)
  simp only [Bool.false_eq_true, if_false]
  unfold Builtin.Frozenset.updateFrom
  refine wpAny_bind (anySet_set (s := { s with heap := h1, drawn := d1 }) (k1 b _ hob) rfl ?_)
  refine wp_if_pos rfl ?_
  refine wpAny_bind (m := Builtin.Frozenset.addrOf (.ref b)) (wpAny_pure ?_)
  unfold Builtin.Frozenset.merge
  refine wpAny_bind (wpAny_setEpoch_of (s := { s with heap := h1, drawn := d1 }) (k1 b _ hob) rfl Rb.1.fit ?_)
  refine setS_merge (s := { s with heap := h1, drawn := d1 }) hne R1 (S.at fun o e => k1 b o e) (by omega) p1 (fun A' s' Q' hs q => ?_) fun h2 d2 l2 k2 R2 m2 n2 _ => ?_
  · unfold Builtin.Frozenset.unchanged
    refine wpAny_bind (wpAny_setEpoch_of (hs.trans (k1 b _ hob)) rfl Rb.1.fit ?_)
    exact wp_if_neg (by simp) (wpAny_pure q)
  · refine wpAny_pure (wpAny_pure ⟨_, rfl, by simp, hQ h2 d2 l2 (fun c o e => ?_) R2 (fun k => by rw [m2, m1]) (by omega)⟩)
    exact (k2.2 c (Nat.ne_of_lt (Heap.lt_size e))).trans (k1 c o e)
end
end MP

set_option maxHeartbeats 1000000
/-! Sets of texts as objects of the abstract heap; the calls set(x), sorted(set), set | set. -/
namespace MP
open PySem PySem.Spec PyProof.Rows L2
def SetSO (P : Program) (w : World) (a : Addr) (l : List Str) : HO := .ext fun h => SetS P w h a l
theorem setSO_new {P : Program} {w : World} {H : Hp} {h : Heap} {a : Addr} {l : List Str} (R : SetS P w h a l) : ObjOk P w H h a (SetSO P w a l) := by
  have ⟨es, ep, t, ho, r⟩ := R
  refine ⟨R, ⟨_, ho⟩, fun h1 h2 p k => ?_⟩
  have ⟨es', ep', t', ho', r'⟩ : SetS P w h1 a l := p
  exact ⟨es', ep', t', k _ ho', r'⟩
theorem vals_strs : ∀ {us : List Value} {xs : List Str}, StrsAre us xs → Vals (xs.map V.str) us
  | _, _, .nil => .nil
  | _, _, .cons x t r => .cons ⟨t, rfl⟩ (vals_strs r)
section
variable {X : Cx}
/-- set(xs), xs a list or a tuple of texts -/
def rSetS (K : Kf) (P : Program) (w : World) : List V → Hp → VK → Prop := fun xs H Q => ∃ (p : Addr) (ks : List Str), xs = [V.ref p] ∧ (SqL K H p (ks.map V.str) ∨ SqT K H p (ks.map V.str)) ∧ ks.length + 1 < scanBound ∧
  ∀ a, H a = none → Q (.ref a) (upd H a (SetSO P w a (insAll ks [])))
theorem cr_setS (hc : X.calm = true) : CallR X (.type "set") (rSetS X.K X.prog X.w) := by
  intro pins s σ H xs us Q I r h
  obtain ⟨p, ks, rfl, hp, hb, q⟩ := h
  rw [Vals.ref1 r]
  have hn : H s.heap.objs.size = none := I.hok.fresh (Nat.le_refl _)
  rcases hp with hp | hp
  · obtain ⟨its, rv, pl, hz⟩ := I.list hp
    refine call_set_lst ks (I.ok.hd hc) pl.isList (by simpa using strsAre_of rv) hb fun h' tk R k => ?_
    exact ⟨.ref s.heap.objs.size, upd H s.heap.objs.size (SetSO X.prog X.w s.heap.objs.size (insAll ks [])), I.laid (t' := tk) k (Nat.le_refl _) (setSO_new R), rfl, q _ hn⟩
  · obtain ⟨its, rv, pl, hz⟩ := I.tuple hp
    refine call_set_tup ks (I.ok.hd hc) pl (by simpa using strsAre_of rv) hb fun h' tk R k => ?_
    exact ⟨.ref s.heap.objs.size, upd H s.heap.objs.size (SetSO X.prog X.w s.heap.objs.size (insAll ks [])), I.laid (t' := tk) k (Nat.le_refl _) (setSO_new R), rfl, q _ hn⟩
/-- sorted(a set of texts) -/
def rSortedS (P : Program) (w : World) : List V → Hp → VK → Prop := fun vs H Q => ∃ (a : Addr) (l : List Str), vs = [V.ref a] ∧ H a = some (SetSO P w a l) ∧
  ∀ p, H p = none → Q (.ref p) (upd H p (.lst ((l.mergeSort leS).map V.str)))
theorem cr_sortedS (hc : X.calm = true) (hu : X.A.units + 64 < cLine) : CallR X (.builtin "sorted") (rSortedS X.prog X.w) := by
  intro pins s σ H vs us Q I r h
  obtain ⟨a, l, rfl, ha, q⟩ := h
  have R : SetS X.prog X.w s.heap a l := (I.hok a _ ha).1
  have hlen : l.length < scanBound := by
    obtain ⟨_, _, _, _, _, _, z, _⟩ := id R
    exact z
  rw [Vals.ref1 r]
  refine sorted_setS R (I.ok.hd hc) (by omega) fun s' p out c k g o hp hg hout => ?_
  have hlen : ((l.mergeSort leS).map V.str).length ≤ sizeLine := by rw [List.length_map, List.length_mergeSort]; exact fits_of_scanBound hlen
  have hn : H p = none := I.hok.fresh hp
  have J : Inv X pins σ (upd H p (.lst ((l.mergeSort leS).map V.str))) { s with heap := s'.heap, gens := s'.gens, drawn := s'.drawn, toks := s'.toks } :=
    I.call (ch := []) (Un.laid k hp hn) (I.hok.laid k hp ⟨hlen, out.toList, c, vals_strs hout, hg⟩) (by rw [g]; exact I.bare) (fun _ z => nomatch z)
  have e : s' = { s with heap := s'.heap, gens := s'.gens, drawn := s'.drawn, toks := s'.toks } := by
    cases s'
    cases s
    cases o
    rfl
  rw [e]
  exact ⟨.ref p, _, J, rfl, q p hn⟩
/-- a set of texts | a set of texts -/
def rOrS (P : Program) (w : World) : R2 := fun x y H Q => ∃ (a b : Addr) (l m : List Str), x = .ref a ∧ y = .ref b ∧ a ≠ b ∧ H a = some (SetSO P w a l) ∧ H b = some (SetSO P w b m) ∧ l.length + m.length + 1 < scanBound ∧
  ∀ c l', H c = none → (∀ k, k ∈ l' ↔ k ∈ l ∨ k ∈ m) → l'.Nodup → Q (.ref c) (upd H c (SetSO P w c l'))
theorem op_orS : OpR X (binaryOp .BitOr) (rOrS X.prog X.w) := by
  intro pins s σ H x y v u Q I rx ry h
  obtain ⟨a, b, l, m, rfl, rfl, hab, ha, hb, hl, q⟩ := h
  have R : SetS X.prog X.w s.heap a l := (I.hok a _ ha).1
  have S : SetS X.prog X.w s.heap b m := (I.hok b _ hb).1
  cases rx; cases ry
  have hn : H s.heap.objs.size = none := I.hok.fresh (Nat.le_refl _)
  refine or_sets hab R S hl fun h' d l' k R' mm n => ?_
  have nd : l'.Nodup := by
    obtain ⟨_, _, _, _, _, z, _⟩ := id R'
    exact z
  have J : Inv X pins σ (upd H s.heap.objs.size (SetSO X.prog X.w s.heap.objs.size l')) { s with heap := h', gens := s.gens, drawn := d, toks := s.toks } :=
    I.call (ch := []) (Un.laid k (Nat.le_refl _) hn) (I.hok.laid k (Nat.le_refl _) (setSO_new R')) I.bare (fun _ z => nomatch z)
  exact ⟨.ref s.heap.objs.size, _, J, rfl, q _ l' hn mm nd⟩
end
end MP

set_option maxHeartbeats 1000000
/-! sorted(set(x)), sorted(set(x) | set(y)) -/
namespace MP
open PySem PySem.Spec PyProof.Rows L2
theorem dedup_mem (x : Str) : ∀ l : List Str, x ∈ dedup l ↔ x ∈ l
  | [] => Iff.rfl
  | y :: l => by
    have ih := dedup_mem x l
    show x ∈ (if y ∈ l then dedup l else y :: dedup l) ↔ _
    by_cases h : y ∈ l
    · rw [if_pos h, ih, List.mem_cons]
      exact ⟨.inr, fun q => q.elim (fun e => e ▸ h) id⟩
    · rw [if_neg h, List.mem_cons, List.mem_cons, ih]
theorem dedup_nodup : ∀ l : List Str, (dedup l).Nodup
  | [] => List.nodup_nil
  | y :: l => by
    show (if y ∈ l then dedup l else y :: dedup l).Nodup
    by_cases h : y ∈ l
    · rw [if_pos h]; exact dedup_nodup l
    · rw [if_neg h]; exact List.nodup_cons.mpr ⟨fun q => h ((dedup_mem y l).mp q), dedup_nodup l⟩
/-- whatever order the members come in -/
theorem sort_members {l ss : List Str} (nd : l.Nodup) (h : ∀ k, k ∈ l ↔ k ∈ ss) : l.mergeSort leS = sortS (dedup ss) :=
  sort_perm ((List.perm_ext_iff_of_nodup nd (dedup_nodup ss)).mpr fun k => (h k).trans (dedup_mem k ss).symm)
theorem insS_nodup {k : Str} {l : List Str} (nd : l.Nodup) : (insS k l).Nodup := by
  unfold insS
  split
  · exact nd
  · rename_i h
    exact List.nodup_cons.mpr ⟨h, nd⟩
theorem insAll_nodup : ∀ (ks l : List Str), l.Nodup → (insAll ks l).Nodup
  | [], _, nd => nd
  | k :: ks, l, nd => insAll_nodup ks (insS k l) (insS_nodup nd)
theorem setD_some {ds zs : List D} (h : setD ds = some zs) : ∃ ss, ds = ss.map .str ∧ ss.length + 1 < 4096 ∧ zs = (sortS (dedup ss)).map .str := by
  unfold setD at h
  split at h
  · rename_i ss e
    obtain ⟨h1, h2⟩ := ifs h
    exact ⟨ss, strs_some e, of_decide_eq_true h1, h2.symm⟩
  · cases h
theorem scan4 : scanBound = 4096 := rfl
/-- what is a list or a tuple of texts, as a value -/
theorem items_strs {K : Kf} {F H : Hp} {v : V} {y : D} {ss : List Str} (sf : Sub F H) (r : RpV K F H v y) (h : items? y = some (ss.map .str)) : ∃ p, v = .ref p ∧ (SqL K H p (ss.map V.str) ∨ SqT K H p (ss.map V.str)) ∧ ∀ s ∈ ss, okS s = true := by
  cases y with
  | list ds =>
    obtain ⟨a, vs, rfl, h1, r1⟩ := rv_list sf r
    have e : ds = ss.map .str := Option.some.inj h
    subst e
    obtain ⟨rfl, o⟩ := r1.strs_inv
    exact ⟨a, rfl, .inl h1, o⟩
  | tuple ds =>
    obtain ⟨a, vs, rfl, h1, r1, _⟩ := r.tup_inv sf
    have e : ds = ss.map .str := Option.some.inj h
    subst e
    obtain ⟨rfl, o⟩ := r1.strs_inv
    exact ⟨a, rfl, .inr h1, o⟩
  | _ => cases h
theorem rps_sorted {K : Kf} {F : Hp} {ss : List Str} (h : ∀ s ∈ ss, okS s = true) : Rps K F ((sortS (dedup ss)).map V.str) ((sortS (dedup ss)).map .str) :=
  .strs fun s hs => h s ((dedup_mem s ss).mp (by
    have := (List.mergeSort_perm (dedup ss) leS).mem_iff (a := s)
    exact this.mp hs))
section
variable {X : Cx} {a b : Expr} {pos p p2 p3 p4 pos2 pos3 : Pos} {eva evb : Env → R Env D} {va vb qa qb : Bool}
/-- sorted(set(x)) -/
theorem mn_sset (hc : X.calm = true) (hu : X.A.units + 64 < cLine) (hg : Gl X "sorted") (hm : X.mg "sorted" = none) (hg2 : Gl X "set") (hm2 : X.mg "set" = none) (hn : notStar a = true) (ha : PE X a (RdE X.K va qa eva)) :
    PE X (.Call (.Name "sorted" p) [.Call (.Name "set" p2) [a] [] pos2] [] pos) (RdN X.K qa fun env => (eva env).bind fun x env => .opt ((items? x).bind setD) env) := by
  have h1 : PE X (.Call (.Name "set" p2) [a] [] pos2) _ := pe_callTy (cr_setS hc) hg2 hm2 (by decide +kernel) (pa_cons ha pa_nil (star_cons hn)) (by decide) (by decide) (star_cons hn)
  refine pe_imp (pe_callB (cr_sortedS hc hu) hg hm (by decide +kernel) (pa_cons h1 pa_nil rfl) (by decide) (by decide) rfl) fun σ H Q h => ?_
  obtain ⟨F, env, as, rel, got⟩ := h
  refine ⟨F, env, as, rel, gotK_mono (gotK_bind got) fun y env1 g1 v H1 F1 as1 A1 => ?_⟩
  obtain ⟨zs, e, k⟩ := gotK_opt g1
  obtain ⟨ds, e1, e2⟩ := Option.bind_eq_some_iff.mp e
  obtain ⟨ss, rfl, hl, rfl⟩ := setD_some e2
  obtain ⟨q, rfl, hq, ho⟩ := items_strs A1.rel.sub A1.rv e1
  refine ⟨q, ss, rfl, hq, by rw [scan4]; exact hl, fun c hc => ⟨c, insAll ss [], rfl, upd_same, fun l hl => ?_⟩⟩
  have gr := (Gr.own (o := SetSO X.prog X.w c (insAll ss [])) A1.rel.sub hc)
  have gr2 := gr.trans (Gr.own (o := .lst (((insAll ss []).mergeSort leS).map V.str)) gr.sh hl)
  have hl0 : H1 l = none := by
    cases e : H1 l with
    | none => rfl
    | some o => have := gr.kp l o e; rw [hl] at this; cases this
  have es : (insAll ss []).mergeSort leS = sortS (dedup ss) := sort_members (insAll_nodup ss [] List.nodup_nil) fun k => by rw [insAll_mem]; simp
  refine k l _ F1 as1 ⟨A1.rel.gr gr2, A1.post.gr2 gr2, fun q => (A1.qu q).gr gr2, ?_, A1.rel.sub.none hl0, fun h => A1.rel.slots.there l h hl0, _, upd_same, by rw [es]; exact rps_sorted ho⟩
  cases e : H l with
  | none => rfl
  | some o => exact absurd hl0 (A1.post.th l (by rw [e]; simp))
/-- sorted(set(x) | set(y)) -/
theorem mn_ssets (hc : X.calm = true) (hu : X.A.units + 64 < cLine) (hg : Gl X "sorted") (hm : X.mg "sorted" = none) (hg2 : Gl X "set") (hm2 : X.mg "set" = none) (hn : notStar a = true) (hn2 : notStar b = true) (ha : PE X a (RdE X.K va qa eva)) (hb : PE X b (RdE X.K vb qb evb)) :
    PE X (.Call (.Name "sorted" p) [.BinOp (.Call (.Name "set" p2) [a] [] pos2) .BitOr (.Call (.Name "set" p3) [b] [] pos3) p4] [] pos) (RdN X.K (qa && qb) fun env => (eva env).bind fun x env => (evb env).bind fun y env => .opt (match items? x, items? y with
      | some xs, some ys => setD (xs ++ ys)
      | _, _ => none) env) := by
  have h1 : PE X (.Call (.Name "set" p2) [a] [] pos2) _ := pe_callTy (cr_setS hc) hg2 hm2 (by decide +kernel) (pa_cons ha pa_nil (star_cons hn)) (by decide) (by decide) (star_cons hn)
  have h2 : PE X (.Call (.Name "set" p3) [b] [] pos3) _ := pe_callTy (cr_setS hc) hg2 hm2 (by decide +kernel) (pa_cons hb pa_nil (star_cons hn2)) (by decide) (by decide) (star_cons hn2)
  have h3 := pe_op (pos := p4) op_orS h1 h2
  refine pe_imp (pe_callB (cr_sortedS hc hu) hg hm (by decide +kernel) (pa_cons h3 pa_nil rfl) (by decide) (by decide) rfl) fun σ H Q h => ?_
  obtain ⟨F, env, as, rel, got⟩ := h
  refine ⟨F, env, as, rel, gotK_mono (gotK_bind got) fun y env1 g1 v H1 F1 as1 A1 => ?_⟩
  have gx : ∃ (ss ts : List Str), items? y = some (ss.map .str) ∧ GotK (evb env1) (fun z env2 => items? z = some (ts.map .str)) ∧ ss.length + ts.length + 1 < 4096 := by
    have g := gotK_bind g1
    obtain ⟨z, env2, e2, g⟩ := gotK_some g
    obtain ⟨zs, e, _⟩ := gotK_opt g
    split at e
    · rename_i xs ys ex ey
      obtain ⟨ss, h, hl, _⟩ := setD_some e
      obtain ⟨s1, s2, rfl, rfl, rfl⟩ := List.append_eq_map_iff.mp h
      refine ⟨s1, s2, ex, by rw [e2]; exact ey, by simpa using hl⟩
    · cases e
  obtain ⟨ss, ts, ey, ez, hlen⟩ := gx
  obtain ⟨q, rfl, hq, ho⟩ := items_strs A1.rel.sub A1.rv ey
  refine ⟨q, ss, rfl, hq, by rw [scan4]; omega, fun c hc => ?_⟩
  have gr := (Gr.own (o := SetSO X.prog X.w c (insAll ss [])) A1.rel.sub hc)
  refine ⟨F1, env1, as1, A1.rel.gr gr, ?_⟩
  obtain ⟨z, env2, e2, g2⟩ := gotK_some (gotK_bind g1)
  rw [e2] at ez ⊢
  intro v2 H2 F2 as2 A2
  obtain ⟨zs, e, k⟩ := gotK_opt g2
  have ez : items? z = some (ts.map .str) := ez
  rw [ey, ez] at e
  obtain ⟨us, hus, _, rfl⟩ := setD_some e
  have hus : us = ss ++ ts := by
    rw [← List.map_append] at hus
    exact (List.map_inj_right (fun _ _ h => by cases h; rfl)).mp hus.symm
  subst hus
  obtain ⟨q2, rfl, hq2, ho2⟩ := items_strs A2.rel.sub A2.rv ez
  refine ⟨q2, ts, rfl, hq2, by rw [scan4]; omega, fun d hd => ?_⟩
  have hcn : c ∉ adE as1 := fun h => A1.rel.slots.there c h hc
  have hc2 : H2 c = some (SetSO X.prog X.w c (insAll ss [])) := A2.post.fr c _ upd_same hcn
  have hcd : c ≠ d := ne_of_none hc2 hd
  have gr3 := (Gr.own (o := SetSO X.prog X.w d (insAll ts [])) A2.rel.sub hd)
  refine ⟨c, d, insAll ss [], insAll ts [], rfl, rfl, hcd, ?_, upd_same, ?_, fun f l' hf hl' nd => ?_⟩
  · rw [upd_ne hcd]; exact hc2
  · have a1 := insAll_len ss []
    have a2 := insAll_len ts []
    simp only [List.length_nil, Nat.add_zero] at a1 a2
    rw [scan4]
    omega
  refine ⟨f, l', rfl, upd_same, fun l hl => ?_⟩
  have gr4 := gr3.trans (Gr.own (o := SetSO X.prog X.w f l') gr3.sh hf)
  have gr5 := gr4.trans (Gr.own (o := .lst ((l'.mergeSort leS).map V.str)) gr4.sh hl)
  have hl0 : H2 l = none := by
    cases e : H2 l with
    | none => rfl
    | some o => have := gr4.kp l o e; rw [hl] at this; cases this
  have es : l'.mergeSort leS = sortS (dedup (ss ++ ts)) := sort_members nd fun k => by rw [hl', insAll_mem, insAll_mem]; simp
  have post := (A1.post.gr2 gr).trans A2.post
  refine k l _ F2 as2 ⟨A2.rel.gr gr5, post.gr2 gr5, fun q => ?_, ?_, A2.rel.sub.none hl0, fun h => A2.rel.slots.there l h hl0, _, upd_same, by rw [es]; exact rps_sorted fun s hs => (List.mem_append.mp hs).elim (ho s) (ho2 s)⟩
  · simp only [Bool.and_eq_true] at q
    exact (((A1.qu q.1).gr gr).trans (A2.qu q.2)).gr gr5
  · cases e : H l with
    | none => rfl
    | some o => exact absurd hl0 (post.th l (by rw [e]; simp))
end
/-! ### sorted(a list of texts, of numbers) -/
section
variable {X : Cx}
def rSortL (K : Kf) : List V → Hp → VK → Prop := fun vs H Q => ∃ (a : Addr) (ss : List Str), vs = [V.ref a] ∧ SqL K H a (ss.map V.str) ∧ ∀ p, H p = none → Q (.ref p) (upd H p (.lst ((sortS ss).map V.str)))
theorem cr_sortL (hu : X.A.units + 64 < cLine) : CallR X (.builtin "sorted") (rSortL X.K) := by
  intro pins s σ H vs us Q I r h
  obtain ⟨a, ss, rfl, hs, q⟩ := h
  obtain ⟨its, rv, hl, hz⟩ := I.list hs
  rw [Vals.ref1 r]
  have hS : StrsAre its ss := by simpa using strsAre_of rv
  have e1 := strs_each hS
  refine PySem.W.sorted_data (bs := ss) (enc := PyData.str) hl.isList e1 (e1.mono fun v b ⟨u, hv⟩ => ⟨[], by subst hv; exact .str _ _⟩) (PySem.W.AllAlike.of fun b b' => rfl)
    (PySem.W.Sortable.others fun b => ⟨by simp, by simp⟩) (by simpa using hz) (fun b _ => ?_) fun out hol hE => ?_
  · show _ + 0 < cLine
    omega
  obtain ⟨ep, he'⟩ := PyProof.Rows.sortedAll_at s.heap its out.toArray
  have e2 : PySem.W.dataLe false (fun b : Str => PyData.str b) = leS := PySem.W.dataLe_str (fun b : Str => b)
  have e3 : ss.mergeSort (PySem.W.dataLe false PyData.str) = sortS ss := by rw [show PySem.W.dataLe false PyData.str = leS from e2]; rfl
  rw [e3] at hE
  have hlen : ((sortS ss).map V.str).length ≤ sizeLine := by
    rw [List.length_map]
    unfold sortS
    rw [List.length_mergeSort]
    simpa using hz
  exact ⟨.ref _, upd H (s.heap.objs.size + 1) (.lst ((sortS ss).map V.str)), I.laid (t' := s.toks) (fun _ _ => PyProof.Rows.sortedAll_old) (Nat.le_succ _) ⟨hlen, out, ep, vals_strs (each_strs hE), he'⟩, rfl, q _ (I.hok.fresh (Nat.le_succ _))⟩
def rSortD (K : Kf) : List V → Hp → VK → Prop := fun vs H Q => rSortL K vs H Q ∨ L2.rSortedI K vs H Q
theorem cr_sortD (hu : X.A.units + 64 < cLine) : CallR X (.builtin "sorted") (rSortD X.K) := by
  intro pins s σ H vs us Q I r h
  rcases h with h | h
  · exact cr_sortL hu pins s σ H vs us Q I r h
  · exact cr_sortedI pins s σ H vs us Q I r h
theorem sortI_eq {ns ns' : List Int} (p : ns'.Perm ns) (h : ns'.Pairwise (· ≤ ·)) : ns' = sortI ns := by
  have tr : ∀ a b c : Int, decide (a ≤ b) = true → decide (b ≤ c) = true → decide (a ≤ c) = true := fun a b c h1 h2 => by
    have h1 := of_decide_eq_true h1
    have h2 := of_decide_eq_true h2
    exact decide_eq_true (by omega)
  have to : ∀ a b : Int, (decide (a ≤ b) || decide (b ≤ a)) = true := fun a b => by
    rcases Int.le_total a b with h | h
    · simp [h]
    · simp [h]
  refine List.Perm.eq_of_pairwise (le := fun a b : Int => decide (a ≤ b) = true) (fun a b _ _ h1 h2 => Int.le_antisymm (of_decide_eq_true h1) (of_decide_eq_true h2)) (h.imp fun {a b} h => decide_eq_true h) (List.pairwise_mergeSort tr to ns) ?_
  exact p.trans (List.mergeSort_perm ns _).symm
theorem r1n_sorted {K : Kf} : R1N K (rSortD K) (fun x => (b1D .sorted x).bind fun y => items? y) := by
  intro F H x p zs Q s r e k
  cases p with
  | list xs =>
    obtain ⟨y, e1, e2⟩ := Option.bind_eq_some_iff.mp e
    obtain ⟨ys, e3, rfl⟩ := Option.map_eq_some_iff.mp (by simpa only [b1D] using e1)
    cases e2
    obtain ⟨a, vs, rfl, h, r⟩ := rv_list s r
    unfold sortD at e3
    split at e3
    · rename_i ss es
      cases e3
      have := strs_some es
      subst this
      obtain ⟨rfl, o⟩ := r.strs_inv
      exact .inl ⟨a, ss, rfl, h, fun p hp => k p _ hp (.strs fun t ht => o t ((List.mergeSort_perm ss leS).mem_iff.mp ht))⟩
    · split at e3
      · rename_i ns en
        cases e3
        have := ints_some en
        subst this
        have := r.ints_inv
        subst this
        exact .inr ⟨a, ns, rfl, h, fun ns' p hp hs hn => by
          rw [sortI_eq hp hs]
          exact k p _ hn (.ints _)⟩
      · cases e3
  | _ => cases e
end
end MP

set_option maxHeartbeats 1000000
namespace MP
open PySem PySem.Spec PyProof.Rows L2
/-! ### arguments -/
inductive ArgV (K : Kf) (F : Hp) (σ : L2.St) : List E → List (Option D) → List V → Prop
  | nil : ArgV K F σ [] [] []
  | d {e : E} {es : List E} {x : D} {os : List (Option D)} {v : V} {vs : List V} : (∀ i, e ≠ .hand i) → Rp K F v x → ArgV K F σ es os vs → ArgV K F σ (e :: es) (some x :: os) (v :: vs)
  | h {i : Nat} {es : List E} {os : List (Option D)} {v : V} {vs : List V} : σ[i]? = some (some v) → ArgV K F σ es os vs → ArgV K F σ (.hand i :: es) (none :: os) (v :: vs)
theorem ArgV.mono {K : Kf} {F F' : Hp} {σ : L2.St} {es : List E} {os : List (Option D)} {vs : List V} (s : Sub F F') (h : ArgV K F σ es os vs) : ArgV K F' σ es os vs := by
  induction h with
  | nil => exact .nil
  | d hn r _ ih => exact .d hn (r.mono s) ih
  | h e _ ih => exact .h e ih
structure AftA (K : Kf) (σ : L2.St) (H F : Hp) (env : Env) (as : AEnv) (es : List E) (qu : Bool) (os : List (Option D)) (env' : Env) (vs : List V) (H' F' : Hp) (as' : AEnv) : Prop where
  rel : Rel K F' H' σ env' as'
  post : Post H F as H' F' as'
  qu : qu = true → Qu H env as H' env' as'
  av : ArgV K F' σ es os vs
def RdA (K : Kf) (es : List E) (qu : Bool) (ev : Env → R Env (List (Option D))) : TA := fun σ H Q => ∃ F env as, Rel K F H σ env as ∧ GotK (ev env) fun os env' => ∀ vs H' F' as', AftA K σ H F env as es qu os env' vs H' F' as' → Q vs H'
section
variable {X : Cx} {a : Expr} {es : List Expr} {ces : List E} {c : E} {eva : Env → R Env D} {evs : Env → R Env (List (Option D))} {qa qs : Bool} {pos : Pos}
theorem mar_nil : PA X [] (RdA X.K [] true fun env => .ok [] env) := by
  refine pa_imp pa_nil fun σ H Q h => ?_
  obtain ⟨F, env, as, rel, got⟩ := h
  exact got [] H F as ⟨rel, .rfl, fun _ => .rfl, .nil⟩
theorem mar_d (hc : ∀ i, c ≠ .hand i) (hn : notStar a = true) (ha : PE X a (RdE X.K false qa eva)) (hs : PA X es (RdA X.K ces qs evs)) :
    PA X (a :: es) (RdA X.K (c :: ces) (qa && qs) fun env => (eva env).bind fun x env => (evs env).bind fun os env => .ok (some x :: os) env) := by
  refine pa_imp (pa_cons ha hs (star_cons hn)) fun σ H Q h => ?_
  obtain ⟨F, env, as, rel, got⟩ := h
  refine ⟨F, env, as, rel, gotK_mono (gotK_bind got) fun x env1 g1 v1 H1 F1 as1 A1 => ⟨F1, env1, as1, A1.rel, gotK_mono (gotK_bind g1) fun xs env2 g2 vs H2 F2 as2 A2 => ?_⟩⟩
  refine g2 _ H2 F2 as2 ⟨A2.rel, A1.post.trans A2.post, fun z => ?_, .d hc (A1.rp0.mono A2.post.sf) A2.av⟩
  simp only [Bool.and_eq_true] at z
  exact (A1.qu z.1).trans (A2.qu z.2)
theorem mar_h {i : Nat} {x : Str} (hN : X.N[i]? = some x) (hv : Vis X.env.scope x) (hd : (x == ("__debug__" : Str)) = false) (hcd : (x == ("__classdict__" : Str)) = false) (hs : PA X es (RdA X.K ces qs evs)) :
    PA X (.Name x pos :: es) (RdA X.K (.hand i :: ces) false fun env => if (env.own i).isSome = true then (evs env).bind fun os env => .ok (none :: os) env else .err) := by
  refine pa_imp (pa_cons (pe_var hN hv hd hcd) hs rfl) fun σ H Q h => ?_
  obtain ⟨F, env, as, rel, got⟩ := h
  dsimp only at got
  split at got
  · rename_i ho
    obtain ⟨t, ho⟩ := Option.isSome_iff_exists.mp ho
    obtain ⟨a, e1, e2, _, _⟩ := rel.own ho
    refine ⟨a.v, e1, F, env, as, rel, gotK_mono (gotK_bind got) fun os env2 g2 vs H2 F2 as2 A2 => ?_⟩
    exact g2 _ H2 F2 as2 ⟨A2.rel, A2.post, fun z => (nomatch z), .h e1 A2.av⟩
  · exact got.elim
end
/-! ### the trees that are handed on -/
def handIn (i : Nat) : List E → Bool
  | [] => false
  | .hand j :: es => i == j || handIn i es
  | _ :: es => handIn i es
def handsOk : List E → Bool
  | [] => true
  | .hand j :: es => !handIn j es && handsOk es
  | _ :: es => handsOk es
def dropH : List E → Env → Env
  | [], env => env
  | .hand i :: es, env => dropH es (env.set i .no)
  | _ :: es, env => dropH es env
def dropHA : List E → AEnv → AEnv
  | [], as => as
  | .hand i :: es, as => dropHA es (as.set i none)
  | _ :: es, as => dropHA es as
theorem dropHA_sub : ∀ {es : List E} {as : AEnv}, (adE (dropHA es as)).Sublist (adE as)
  | [], _ => .refl _
  | e :: es, as => by
    cases e <;> simp only [dropHA]
    case hand i => exact dropHA_sub.trans adE_set_none
    all_goals exact dropHA_sub
theorem dropH_set {j : Nat} {s : Slot} : ∀ {es : List E} {env : Env}, handIn j es = false → dropH es (env.set j s) = (dropH es env).set j s
  | [], _, _ => rfl
  | e :: es, env, h => by
    cases e with
    | hand i =>
      simp only [handIn, Bool.or_eq_false_iff, beq_eq_false_iff_ne] at h
      simp only [dropH]
      rw [List.set_comm _ _ h.1, dropH_set h.2]
    | _ => exact dropH_set (es := es) (env := env) h
theorem own_set_ne {env : Env} {i j : Nat} {s : Slot} (h : i ≠ j) : Env.own (env.set j s) i = Env.own env i := by
  unfold Env.own
  rw [List.getElem?_set_ne h.symm]
theorem fillA_set {j : Nat} {s : Slot} : ∀ {es : List E} {os : List (Option D)} {env : Env}, handIn j es = false → fillA es os (env.set j s) = fillA es os env
  | [], [], _, _ => rfl
  | [], _ :: _, _, _ => rfl
  | e :: es, [], env, h => by cases e <;> rfl
  | e :: es, o :: os, env, h => by
    cases e with
    | hand i =>
      simp only [handIn, Bool.or_eq_false_iff, beq_eq_false_iff_ne] at h
      cases o with
      | none => simp only [fillA]; rw [own_set_ne (Ne.symm h.1), fillA_set h.2]
      | some x => simp only [fillA]; rw [fillA_set h.2]
    | _ =>
      cases o with
      | none => rfl
      | some x => simp only [fillA]; rw [fillA_set (es := es) h]
theorem fill_rel {K : Kf} {F H : Hp} {σ : L2.St} : ∀ {es : List E} {os : List (Option D)} {vs : List V} {env : Env} {as : AEnv} {args : List Arg}, ArgV K F σ es os vs → handsOk es = true → Rel K F H σ env as → fillA es os env = some args →
    Rel K F H σ (dropH es env) (dropHA es as) ∧ ∃ al, Slots K F H (vs.map some) (startEnv args) al ∧ (adE al).Nodup ∧ ∀ b ∈ adE al, b ∈ adE as ∧ b ∉ adE (dropHA es as) := by
  intro es os vs env as args av
  induction av generalizing env as args with
  | nil =>
    intro _ rel e
    cases e
    exact ⟨rel, [], .nil, by simp [adE], by simp [adE]⟩
  | @d e es x os v vs hn r av ih =>
    intro ho rel e1
    have ho : handsOk es = true := by cases e <;> first | exact ho | exact absurd rfl (hn _)
    have e2 : (fillA es os env).map (.d x :: ·) = some args := by cases e <;> first | exact e1 | exact absurd rfl (hn _)
    obtain ⟨args', e3, rfl⟩ := Option.map_eq_some_iff.mp e2
    obtain ⟨h1, al, h2, h3, h4⟩ := ih ho rel e3
    have d1 : dropH (e :: es) env = dropH es env := by cases e <;> first | rfl | exact absurd rfl (hn _)
    have d2 : dropHA (e :: es) as = dropHA es as := by cases e <;> first | rfl | exact absurd rfl (hn _)
    rw [d1, d2]
    exact ⟨h1, none :: al, .cons ⟨v, rfl, r⟩ h2, h3, h4⟩
  | @h i es os v vs hs av ih =>
    intro ho rel e1
    simp only [handsOk, Bool.and_eq_true, Bool.not_eq_true'] at ho
    simp only [fillA] at e1
    cases hw : env.own i with
    | none => rw [hw] at e1; cases e1
    | some t =>
      cases hf : fillA es os env with
      | none => rw [hw, hf] at e1; cases e1
      | some args' =>
        rw [hw, hf] at e1
        cases e1
        obtain ⟨a, f1, f2, f3, f4⟩ := rel.own hw
        rw [hs] at f1
        have fv : v = a.v := by simpa using f1
        obtain ⟨n1, n2⟩ := adE_split f2 rel.nd
        obtain ⟨h1, al, h2, h3, h4⟩ := ih (env := env.set i .no) (as := as.set i none) ho.2 (rel.letGo hs) (by rw [fillA_set ho.1]; exact hf)
        refine ⟨h1, some a :: al, .cons ⟨by rw [fv], f3, f4⟩ h2, ?_, fun b hb => ?_⟩
        · simp only [adE]
          exact List.nodup_append.mpr ⟨n1, h3, fun b hb c hc e => by
            subst e
            exact n2 b hb (h4 b hc).1⟩
        · simp only [adE, List.mem_append] at hb
          rcases hb with hb | hb
          · exact ⟨adE_mem f2 hb, fun z => n2 b hb (dropHA_sub.subset z)⟩
          · exact ⟨adE_set_none.subset (h4 b hb).1, (h4 b hb).2⟩
/-- what comes back -/
inductive OutV (K : Kf) (F H : Hp) : List Arg → List T → List V → AEnv → Prop
  | nil : OutV K F H [] [] [] []
  | d {x : D} {as : List Arg} {ts : List T} {v : V} {vs : List V} {al : AEnv} : OutV K F H as ts vs al → OutV K F H (.d x :: as) ts (v :: vs) (none :: al)
  | o {t0 : T} {as : List Arg} {ts : List T} {vs : List V} {al : AEnv} {a : A} : a.ok K F H → OutV K F H as ts vs al → OutV K F H (.o t0 :: as) (a.t :: ts) (a.v :: vs) (some a :: al)
structure AftC (K : Kf) (args : List Arg) (vs : List V) (H F : Hp) (al : AEnv) (r : Ret) (ts : List T) (v : V) (H' F' : Hp) (al' : AEnv) : Prop where
  sub : Sub F' H'
  out : OutV K F' H' args ts vs al'
  nd : (adE al').Nodup
  fr : ∀ b ∈ adE al', F' b = none
  post : Post H F al H' F' al'
  ret : RetR K H al H' F' al' v r
theorem putBack_drop {K : Kf} {F : Hp} {σ : L2.St} : ∀ {es : List E} {os : List (Option D)} {vs : List V} {ts : List T} {env : Env}, ArgV K F σ es os vs → handsOk es = true → putBack es ts (dropH es env) = putBack es ts env := by
  intro es os vs ts env av
  induction av generalizing ts env with
  | nil => intro _; rfl
  | @d e es x os v vs hn r av ih =>
    intro ho
    have ho : handsOk es = true := by cases e <;> first | exact ho | exact absurd rfl (hn _)
    have h1 : ∀ env', putBack (e :: es) ts env' = putBack es ts env' := fun env' => by cases e <;> first | (cases ts <;> rfl) | exact absurd rfl (hn _)
    have d1 : dropH (e :: es) env = dropH es env := by cases e <;> first | rfl | exact absurd rfl (hn _)
    rw [h1, h1, d1]
    exact ih ho
  | @h i es os v vs hs av ih =>
    intro ho
    simp only [handsOk, Bool.and_eq_true, Bool.not_eq_true'] at ho
    cases ts with
    | nil => rfl
    | cons t ts =>
      simp only [putBack, dropH]
      rw [← dropH_set ho.1, List.set_set]
      exact ih ho.2
theorem give_back {K : Kf} {F0 F H : Hp} {σ : L2.St} : ∀ {es : List E} {os : List (Option D)} {vs : List V} {args : List Arg} {ts : List T} {al : AEnv} {env0 env : Env} {as : AEnv}, ArgV K F0 σ es os vs → fillA es os env0 = some args → OutV K F H args ts vs al → (adE al).Nodup → (∀ b ∈ adE al, F b = none ∧ b ∉ adE as) → Rel K F H σ env as →
    ∃ env' as', putBack es ts env = some env' ∧ Rel K F H σ env' as' ∧ ∀ b ∈ adE as', b ∈ adE al ∨ b ∈ adE as := by
  intro es os vs args ts al env0 env as av
  induction av generalizing args ts al env as with
  | nil =>
    intro e o _ _ rel
    cases e
    cases o
    exact ⟨env, as, rfl, rel, fun b h => .inr h⟩
  | @d e es x os v vs hn r av ih =>
    intro e1 o nd fr rel
    have e2 : (fillA es os env0).map (.d x :: ·) = some args := by cases e <;> first | exact e1 | exact absurd rfl (hn _)
    obtain ⟨args', e3, rfl⟩ := Option.map_eq_some_iff.mp e2
    cases o with
    | d o =>
      obtain ⟨env', as', h1, h2, h3⟩ := ih e3 o nd fr rel
      refine ⟨env', as', ?_, h2, h3⟩
      rw [← h1]
      cases e <;> first | (cases ts <;> rfl) | exact absurd rfl (hn _)
  | @h i es os v vs hs av ih =>
    intro e1 o nd fr rel
    simp only [fillA] at e1
    cases hw : env0.own i with
    | none => rw [hw] at e1; cases e1
    | some t =>
      cases hf : fillA es os env0 with
      | none => rw [hw, hf] at e1; cases e1
      | some args' =>
        rw [hw, hf] at e1
        cases e1
        cases o with
        | @o _ _ ts _ al a ok o =>
          simp only [adE] at nd fr
          obtain ⟨n1, n2, n3⟩ := List.nodup_append.mp nd
          have rel1 := rel.get (i := i) ok n1 fun b hb => ⟨(fr b (List.mem_append.mpr (.inl hb))).1, fun z => (fr b (List.mem_append.mpr (.inl hb))).2 (adE_set_none.subset z)⟩
          rw [set_self hs] at rel1
          have mem := (adE_put (i := i) (rel.nd.sublist adE_set_none) n1 fun b hb z => (fr b (List.mem_append.mpr (.inl hb))).2 (adE_set_none.subset z)).2
          obtain ⟨env', as', h1, h2, h3⟩ := ih hf o n2 (fun b hb => ⟨(fr b (List.mem_append.mpr (.inr hb))).1, fun z => by
            rcases mem b z with w | w
            · exact n3 b w b hb rfl
            · exact (fr b (List.mem_append.mpr (.inr hb))).2 (adE_set_none.subset w)⟩) rel1
          refine ⟨env', as', h1, h2, fun b hb => ?_⟩
          simp only [adE, List.mem_append]
          rcases h3 b hb with z | z
          · exact .inl (.inr z)
          · rcases mem b z with w | w
            · exact .inl (.inl w)
            · exact .inr (adE_set_none.subset w)
/-! ### what a def promises -/
def spF (K : Kf) (run : List Arg → R (List T) Ret) : Sp := fun vs H Q _ => ∃ F args al, Sub F H ∧ Slots K F H (vs.map some) (startEnv args) al ∧ (adE al).Nodup ∧ (∀ b ∈ adE al, F b = none) ∧
  GotK (run args) fun r ts => ∀ v H' F' al', AftC K args vs H F al r ts v H' F' al' → Q v H'
/-- behind a call, where it was made -/
theorem behind {K : Kf} {σ : L2.St} {H F H3 F3 : Hp} {env : Env} {as : AEnv} {es : List E} {os : List (Option D)} {vs : List V} {args : List Arg} {al al' : AEnv} {r : Ret} {ts : List T} {v : V} (av : ArgV K F σ es os vs) (ho : handsOk es = true) (rel : Rel K F H σ env as) (hf : fillA es os env = some args)
    (hr : Rel K F H σ (dropH es env) (dropHA es as)) (h4 : ∀ b ∈ adE al, b ∈ adE as ∧ b ∉ adE (dropHA es as)) (C : AftC K args vs H F al r ts v H3 F3 al') :
    ∃ env' as', putBack es ts env = some env' ∧ Rel K F3 H3 σ env' as' ∧ Post H F as H3 F3 as' ∧ RetR K H as H3 F3 as' v r := by
  have hne : ∀ b ∈ adE (dropHA es as), b ∉ adE al := fun b hb hc => (h4 b hc).2 hb
  have hnew : ∀ b, b ∈ adE al' → b ∉ adE (dropHA es as) := fun b hb hc => by
    rcases C.post.on b hb with z | z
    · exact hne b hc z
    · exact hr.slots.there b hc z
  have rel1 : Rel K F3 H3 σ (dropH es env) (dropHA es as) := ⟨C.sub, hr.slots.mono C.post.sf fun b hb o e => C.post.fr b o e (hne b hb), hr.nd, fun b hb => by
    cases e : F3 b with
    | none => rfl
    | some o =>
      rcases C.post.fn b (by rw [e]; simp) with z | z | z
      · exact absurd (hr.fr b hb) z
      · exact absurd z (hne b hb)
      · exact absurd z (hr.slots.there b hb)⟩
  obtain ⟨env', as', h5, h6, h7⟩ := give_back av hf C.out C.nd (fun b hb => ⟨C.fr b hb, hnew b hb⟩) rel1
  rw [putBack_drop av ho] at h5
  have on : ∀ b ∈ adE as', b ∈ adE as ∨ H b = none := fun b hb => by
    rcases h7 b hb with z | z
    · exact (C.post.on b z).imp (fun w => (h4 b w).1) fun w => w
    · exact .inl (dropHA_sub.subset z)
  refine ⟨env', as', h5, h6, ⟨C.post.sf, fun b o e hb => C.post.fr b o e fun z => hb (h4 b z).1, on, fun b hb => ?_, C.post.th⟩, ?_⟩
  · rcases C.post.fn b hb with z | z | z
    · exact .inl z
    · exact .inr (.inl (h4 b z).1)
    · exact .inr (.inr z)
  · have rr := C.ret
    cases r with
    | d x => exact rr
    | o t =>
      obtain ⟨a, e1, e2, e3, e4, e5⟩ := rr
      refine ⟨a, e1, e2, e3, e4, fun b hb => ⟨(e5 b hb).1, fun z => ?_, (e5 b hb).2.2.imp (fun w => (h4 b w).1) fun w => w⟩⟩
      rcases h7 b z with w | w
      · exact (e5 b hb).2.1 w
      · rcases (e5 b hb).2.2 with y | y
        · exact hne b w y
        · exact hr.slots.there b w y
abbrev evCall (es : List E) (run : List Arg → R (List T) Ret) (evs : Env → R Env (List (Option D))) : Env → R Env D := fun env => (evs env).bind fun os env => match fillA es os env with
    | some as => (match run as with
      | .ok r ts => (match putBack es ts env, retD r with
        | some env', some x => .ok x env'
        | _, _ => .err)
      | .exc c ds ts => (match putBack es ts env with
        | some env' => .exc c ds env'
        | none => .err)
      | .err => .err)
    | none => .err
abbrev evCallT (es : List E) (run : List Arg → R (List T) Ret) (evs : Env → R Env (List (Option D))) : Env → R Env T := fun env => (evs env).bind fun os env => match fillA es os env with
    | some as => (match run as with
      | .ok (.o t) ts => (match putBack es ts env with
        | some env' => .ok t env'
        | none => .err)
      | .ok (.d _) _ => .err
      | .exc c ds ts => (match putBack es ts env with
        | some env' => .exc c ds env'
        | none => .err)
      | .err => .err)
    | none => .err
def noHand : List E → Bool
  | [] => true
  | .hand _ :: _ => false
  | _ :: es => noHand es
theorem call_R {K : Kf} {ces : List E} {qs : Bool} {run : List Arg → R (List T) Ret} {evs : Env → R Env (List (Option D))} {σ : L2.St} {H : Hp} {Q : VK} {EX : XK} {TT' : TA} (ho : handsOk ces = true)
    (ht : ∀ {σ H Q}, RdA K ces qs evs σ H Q → TT' σ H Q) (h : RdE K false false (evCall ces run evs) σ H Q) : TT' σ H fun vs H1 => spF K run vs H1 Q EX := by
  refine ht ?_
  obtain ⟨F, env, as, rel, got⟩ := h
  refine ⟨F, env, as, rel, gotK_mono (gotK_bind got) fun os env1 g1 vs H1 F1 as1 A1 => ?_⟩
  cases hf : fillA ces os env1 with
  | none => rw [hf] at g1; exact g1.elim
  | some args =>
    rw [hf] at g1
    obtain ⟨h1, al, h2, h3, h4⟩ := fill_rel A1.av ho A1.rel hf
    refine ⟨F1, args, al, A1.rel.sub, h2, h3, fun b hb => A1.rel.fr b (h4 b hb).1, ?_⟩
    dsimp only at g1
    cases hr : run args with
    | exc c ds ts =>
      rw [hr] at g1
      dsimp only at g1
      cases hp : putBack ces ts env1 with
      | none => rw [hp] at g1; exact g1.elim
      | some e => rw [hp] at g1; exact g1.elim
    | err => rw [hr] at g1; exact g1.elim
    | ok r ts =>
      rw [hr] at g1
      dsimp only at g1
      intro v H2 F2 al' C
      obtain ⟨env', as', p1, p2, p3, p4⟩ := behind A1.av ho A1.rel hf h1 h4 C
      rw [p1] at g1
      cases hx : retD r with
      | none => rw [hx] at g1; exact g1.elim
      | some x =>
        rw [hx] at g1
        have g1 := gotK_ok g1
        have post := A1.post.trans p3
        cases r with
        | d y =>
          have : y = x := by simpa [retD] using hx
          subst this
          exact g1 v H2 F2 as' ⟨p2, post, fun z => (nomatch z), p4⟩
        | o t =>
          obtain ⟨a, rfl, rfl, e3, e4, e5⟩ := p4
          obtain ⟨F3, s1, s2, k1, rr⟩ := a.frz e3 (by simpa only [retD] using hx) p2.sub
          refine g1 _ H2 F3 as' ⟨p2.frzs s1 s2 fun b hb => ?_, ⟨post.sf.trans s1, post.fr, post.on, fun b hb => ?_, post.th⟩, fun z => (nomatch z), rr⟩
          · rcases k1 b hb with z | z
            · exact .inl z
            · exact .inr (e5 b z).2.1
          · rcases k1 b hb with z | z
            · exact post.fn b z
            · exact .inr (A1.post.back (e5 b z).2.2)
theorem call_F {K : Kf} {ces : List E} {qs : Bool} {run : List Arg → R (List T) Ret} {evs : Env → R Env (List (Option D))} {σ : L2.St} {H : Hp} {Q : VK} {EX : XK} {TT' : TA} (ho : handsOk ces = true)
    (ht : ∀ {σ H Q}, RdA K ces qs evs σ H Q → TT' σ H Q) (h : RdF K false (evCallT ces run evs) σ H Q) : TT' σ H fun vs H1 => spF K run vs H1 Q EX := by
  refine ht ?_
  obtain ⟨F, env, as, rel, got⟩ := h
  refine ⟨F, env, as, rel, gotK_mono (gotK_bind got) fun os env1 g1 vs H1 F1 as1 A1 => ?_⟩
  cases hf : fillA ces os env1 with
  | none => rw [hf] at g1; exact g1.elim
  | some args =>
    rw [hf] at g1
    obtain ⟨h1, al, h2, h3, h4⟩ := fill_rel A1.av ho A1.rel hf
    refine ⟨F1, args, al, A1.rel.sub, h2, h3, fun b hb => A1.rel.fr b (h4 b hb).1, ?_⟩
    dsimp only at g1
    cases hr : run args with
    | exc c ds ts =>
      rw [hr] at g1
      dsimp only at g1
      cases hp : putBack ces ts env1 with
      | none => rw [hp] at g1; exact g1.elim
      | some e => rw [hp] at g1; exact g1.elim
    | err => rw [hr] at g1; exact g1.elim
    | ok r ts =>
      rw [hr] at g1
      intro v H2 F2 al' C
      obtain ⟨env', as', p1, p2, p3, p4⟩ := behind A1.av ho A1.rel hf h1 h4 C
      cases r with
      | d y => exact g1.elim
      | o t =>
        dsimp only at g1
        rw [p1] at g1
        have g1 := gotK_ok g1
        have post := A1.post.trans p3
        obtain ⟨a, rfl, rfl, e3, e4, e5⟩ := p4
        exact g1 _ H2 F2 as' ⟨p2, post, fun z => (nomatch z), a, rfl, rfl, e3, e4, fun b hb => ⟨(e5 b hb).1, (e5 b hb).2.1, A1.post.back (e5 b hb).2.2⟩⟩
end MP

set_option maxHeartbeats 1000000
namespace MP
open PySem PySem.Spec PyProof.Rows
open L2 hiding CX0 E0 pass0
open C8
/-- a def of the module that may be called: what it promises -/
structure FnF (X : Cx) (n : Nat) (x : Str) (ps : List Str) (run : List Arg → R (List T) Ret) : Prop where
  ex : ∃ (f : Addr) (fd : FuncData), FnOk X.prog X.w X.K X.mg X.base CX0 n f fd ps (spF X.K run) ∧ X.mg x = some (.ref f) ∧ PySem.W.keepIn X.K (.ref f) = true ∧ Binds X.K fd ps [] ∧
    KBn X.K fd ps 0 ps (fun us ws => us ++ ws) (fun us ws => us ++ ws)
section
variable {X : Cx} {n : Nat} {x : Str} {ps : List Str} {run : List Arg → R (List T) Ret} {ces ces2 : List E} {evs : Env → R Env (List (Option D))} {qs : Bool} {e : Expr} {es : List Expr} {p pos : Pos}
theorem c_call (F : FnF X n x ps run) (hr : Room n X.A) (hg : Gl X x) (hdb : (x == ("__debug__" : Str)) = false) (hn : notStar e = true) (hns : es.all notStar = true) {t : TA} (ha : PA X (e :: es) t) :
    PE X (.Call (.Name x p) (e :: es) [] pos) (fun σ H Q => t σ H fun vs H1 => spF X.K run vs H1 Q E0) := by
  obtain ⟨f, fd, F, hm, hk, hb, _⟩ := F.ex
  have := pe_call (dvs := []) (ds := []) (E := E0) (pos := pos) (p := p) F hr hg hm hk hb .nil pass0 ha hdb (star_cons hn) (star_none hns)
  refine pe_imp this fun σ H Q h => ?_
  unfold tCall
  simpa using h
where
  star_none : ∀ {es : List Expr}, es.all notStar = true → (backTo pos (starEach es X.env)).any (·.1) = false
    | [], _ => rfl
    | e :: es, h => by
      simp only [List.all_cons, Bool.and_eq_true] at h
      rw [star_cons h.1]
      show (false || (backTo pos (starEach es X.env)).any (·.1)) = false
      rw [star_none h.2]
      rfl
theorem c_call0 (F : FnF X n x ps run) (hr : Room n X.A) (hg : Gl X x) (hdb : (x == ("__debug__" : Str)) = false) :
    PE X (.Call (.Name x p) [] [] pos) (fun σ H Q => tNil σ H fun vs H1 => spF X.K run vs H1 Q E0) := by
  obtain ⟨f, fd, F, hm, hk, hb, _⟩ := F.ex
  exact pe_call0 (dvs := []) (ds := []) (E := E0) (pos := pos) (p := p) F hr hg hm hk hb .nil pass0 hdb
/-! ### keywords -/
def kwName : Keyword → Option Str
  | ⟨nm, _, _⟩ => nm
def kwVal : Keyword → Expr
  | ⟨_, e, _⟩ => e
theorem kw_all : ∀ {kws : List Keyword} {ks : List Str} {env : PySem.Env}, kws.map kwName = ks.map some → (backToKw pos (keywordEach kws env)).all (·.1.isSome) = true ∧ (backToKw pos (keywordEach kws env)).filterMap (·.1) = ks ∧ (backToKw pos (keywordEach kws env)).any (·.1.isNone) = false
  | [], ks, env, h => by
    have : ks = [] := by simpa using h.symm
    subst this
    exact ⟨rfl, rfl, rfl⟩
  | ⟨nm, e, kp⟩ :: kws, ks, env, h => by
    cases ks with
    | nil => simp at h
    | cons k ks =>
      simp only [List.map_cons, List.cons.injEq] at h
      have h1 : nm = some k := h.1
      subst h1
      obtain ⟨a, b, c⟩ := kw_all (env := env) h.2
      refine ⟨?_, ?_, ?_⟩
      · show (true && _) = true
        rw [Bool.true_and]; exact a
      · show k :: _ = k :: ks
        exact congrArg (k :: ·) b
      · show (false || _) = false
        rw [Bool.false_or]; exact c
theorem pk_imp {X : Cx} {e : List Keyword} {t t' : TA} (h : PK X e t) (i : ∀ σ H Q, t' σ H Q → t σ H Q) : PK X e t' := ⟨fun pos pins s σ H Q I q => h.run pos pins s σ H Q I (i σ H Q q)⟩
end
section
variable {X : Cx} {a : Expr} {kws : List Keyword} {ces : List E} {c : E} {eva : Env → R Env D} {evs : Env → R Env (List (Option D))} {qa qs : Bool} {pos kpos : Pos} {nm : Option Str}
theorem mkr_nil : PK X [] (RdA X.K [] true fun env => .ok [] env) := by
  refine pk_imp pk_nil fun σ H Q h => ?_
  obtain ⟨F, env, as, rel, got⟩ := h
  exact got [] H F as ⟨rel, .rfl, fun _ => .rfl, .nil⟩
theorem mkr_d (hc : ∀ i, c ≠ .hand i) (ha : PE X a (RdE X.K false qa eva)) (hs : PK X kws (RdA X.K ces qs evs)) :
    PK X (⟨nm, a, kpos⟩ :: kws) (RdA X.K (c :: ces) (qa && qs) fun env => (eva env).bind fun x env => (evs env).bind fun os env => .ok (some x :: os) env) := by
  refine pk_imp (pk_cons ha hs) fun σ H Q h => ?_
  obtain ⟨F, env, as, rel, got⟩ := h
  refine ⟨F, env, as, rel, gotK_mono (gotK_bind got) fun x env1 g1 v1 H1 F1 as1 A1 => ⟨F1, env1, as1, A1.rel, gotK_mono (gotK_bind g1) fun xs env2 g2 vs H2 F2 as2 A2 => ?_⟩⟩
  refine g2 _ H2 F2 as2 ⟨A2.rel, A1.post.trans A2.post, fun z => ?_, .d hc (A1.rp0.mono A2.post.sf) A2.av⟩
  simp only [Bool.and_eq_true] at z
  exact (A1.qu z.1).trans (A2.qu z.2)
theorem mkr_h {i : Nat} {x : Str} (hN : X.N[i]? = some x) (hv : Vis X.env.scope x) (hd : (x == ("__debug__" : Str)) = false) (hcd : (x == ("__classdict__" : Str)) = false) (hs : PK X kws (RdA X.K ces qs evs)) :
    PK X (⟨nm, .Name x pos, kpos⟩ :: kws) (RdA X.K (.hand i :: ces) false fun env => if (env.own i).isSome = true then (evs env).bind fun os env => .ok (none :: os) env else .err) := by
  refine pk_imp (pk_cons (pe_var hN hv hd hcd) hs) fun σ H Q h => ?_
  obtain ⟨F, env, as, rel, got⟩ := h
  dsimp only at got
  split at got
  · rename_i ho
    obtain ⟨t, ho⟩ := Option.isSome_iff_exists.mp ho
    obtain ⟨a, e1, e2, _, _⟩ := rel.own ho
    refine ⟨a.v, e1, F, env, as, rel, gotK_mono (gotK_bind got) fun os env2 g2 vs H2 F2 as2 A2 => ?_⟩
    exact g2 _ H2 F2 as2 ⟨A2.rel, A2.post, fun z => (nomatch z), .h e1 A2.av⟩
  · exact got.elim
end
section
variable {X : Cx} {n : Nat} {x : Str} {ps : List Str} {run : List Arg → R (List T) Ret} {ces : List E} {evs : Env → R Env (List (Option D))} {qs : Bool} {kws : List Keyword} {p pos : Pos}
theorem c_callk (F : FnF X n x ps run) (hr : Room n X.A) (hg : Gl X x) (hdb : (x == ("__debug__" : Str)) = false) (hk2 : kws.map kwName = ps.map some) {t : TA} (ha : PK X kws t) :
    PE X (.Call (.Name x p) [] kws pos) (fun σ H Q => t σ H fun vs H1 => vs.length = ps.length ∧ spF X.K run vs H1 Q E0) := by
  obtain ⟨f, fd, F, hm, hk, _, hb⟩ := F.ex
  refine ⟨fun pins s σ H Q I h => ?_⟩
  refine wpAny_Call_Name_kw (ld_glob I hg hm ?_ hdb)
  obtain ⟨k1, k2, k3⟩ := kw_all (pos := pos) (env := X.env) hk2
  refine PySem.W.callWith_KW0 (h₀ := X.base) I.ok.mod.kin hk k1 (thn (ha.run pos pins s σ H _ I h) fun us s1 ⟨vs, H1, I1, r, hl, q⟩ => ⟨I1.kIn, ?_⟩) (by rw [k3]; rfl)
  rw [k2]
  exact run_fnN (us := []) (vs := []) F hr hb pass0 I1 .nil r rfl hl (by simpa using q)
end
theorem av_len {K : Kf} {F : Hp} {σ : L2.St} {es : List E} {os : List (Option D)} {vs : List V} (h : ArgV K F σ es os vs) : vs.length = es.length := by
  induction h with
  | nil => rfl
  | d _ _ _ ih => simp [ih]
  | h _ _ ih => simp [ih]
section
variable {X : Cx} {n : Nat} {x : Str} {ps : List Str} {run : List Arg → R (List T) Ret} {ces : List E} {evs : Env → R Env (List (Option D))} {qs : Bool} {e : Expr} {es : List Expr} {kws : List Keyword} {p pos : Pos}
theorem me_call (F : FnF X n x ps run) (hr : Room n X.A) (hg : Gl X x) (hdb : (x == ("__debug__" : Str)) = false) (hn : notStar e = true) (hns : es.all notStar = true) (ho : handsOk ces = true) (ha : PA X (e :: es) (RdA X.K ces qs evs)) :
    PE X (.Call (.Name x p) (e :: es) [] pos) (RdE X.K false false (evCall ces run evs)) := pe_imp (c_call F hr hg hdb hn hns ha) fun σ H Q h => call_R ho (fun h => h) h
theorem mf_call (F : FnF X n x ps run) (hr : Room n X.A) (hg : Gl X x) (hdb : (x == ("__debug__" : Str)) = false) (hn : notStar e = true) (hns : es.all notStar = true) (ho : handsOk ces = true) (ha : PA X (e :: es) (RdA X.K ces qs evs)) :
    PE X (.Call (.Name x p) (e :: es) [] pos) (RdF X.K false (evCallT ces run evs)) := pe_imp (c_call F hr hg hdb hn hns ha) fun σ H Q h => call_F ho (fun h => h) h
theorem ra_nil {K : Kf} {σ : L2.St} {H : Hp} {Q : List V → Hp → Prop} (h : RdA K [] true (fun env => .ok [] env) σ H Q) : tNil σ H Q := by
  obtain ⟨F, env, as, rel, got⟩ := h
  exact got [] H F as ⟨rel, .rfl, fun _ => .rfl, .nil⟩
theorem me_call0 (F : FnF X n x ps run) (hr : Room n X.A) (hg : Gl X x) (hdb : (x == ("__debug__" : Str)) = false) :
    PE X (.Call (.Name x p) [] [] pos) (RdE X.K false false (evCall [] run fun env => .ok [] env)) := pe_imp (c_call0 F hr hg hdb) fun σ H Q h => call_R (ces := []) rfl ra_nil h
theorem mf_call0 (F : FnF X n x ps run) (hr : Room n X.A) (hg : Gl X x) (hdb : (x == ("__debug__" : Str)) = false) :
    PE X (.Call (.Name x p) [] [] pos) (RdF X.K false (evCallT [] run fun env => .ok [] env)) := pe_imp (c_call0 F hr hg hdb) fun σ H Q h => call_F (ces := []) rfl ra_nil h
theorem ra_len {K : Kf} {σ : L2.St} {H : Hp} {Q : List V → Hp → Prop} (hl : ces.length = ps.length) (h : RdA K ces qs evs σ H Q) : RdA K ces qs evs σ H fun vs H1 => vs.length = ps.length ∧ Q vs H1 := by
  obtain ⟨F, env, as, rel, got⟩ := h
  exact ⟨F, env, as, rel, gotK_mono got fun os env1 g vs H1 F1 as1 A => ⟨by rw [av_len A.av, hl], g vs H1 F1 as1 A⟩⟩
theorem me_callk (F : FnF X n x ps run) (hr : Room n X.A) (hg : Gl X x) (hdb : (x == ("__debug__" : Str)) = false) (hk2 : kws.map kwName = ps.map some) (hl : ces.length = ps.length) (ho : handsOk ces = true) (ha : PK X kws (RdA X.K ces qs evs)) :
    PE X (.Call (.Name x p) [] kws pos) (RdE X.K false false (evCall ces run evs)) := pe_imp (c_callk F hr hg hdb hk2 ha) fun σ H Q h => ra_len hl (call_R ho (fun h => h) h)
theorem mf_callk (F : FnF X n x ps run) (hr : Room n X.A) (hg : Gl X x) (hdb : (x == ("__debug__" : Str)) = false) (hk2 : kws.map kwName = ps.map some) (hl : ces.length = ps.length) (ho : handsOk ces = true) (ha : PK X kws (RdA X.K ces qs evs)) :
    PE X (.Call (.Name x p) [] kws pos) (RdF X.K false (evCallT ces run evs)) := pe_imp (c_callk F hr hg hdb hk2 ha) fun σ H Q h => ra_len hl (call_F ho (fun h => h) h)
end
end MP

set_option maxHeartbeats 1000000
/-! THE CHECK: core text against the program's text. -/
namespace MP
open PySem PySem.Spec PyProof.Rows L2
structure Sta where
  sc : Scope
  N : List Str
  fns : List (Str × List Str)
  gls : List Str
  blts : List Str
  hs : List Nat
  top : Bool
def kind (s : Sta) (x : Str) : Option NameKind := s.sc.names.lookup x
def odd (x : Str) : Bool := (x == ("__debug__" : Str)) || (x == ("__classdict__" : Str))
def isVis : Option NameKind → Bool
  | some .local => true
  | some .cell => true
  | some .free => true
  | _ => false
def isLoc (t : Bool) : Option NameKind → Bool
  | some .local => true
  | some .cell => t
  | _ => false
def isGlo : Option NameKind → Bool
  | some .globalImplicit => true
  | _ => false
/-- a local name is read -/
def rdN (s : Sta) (i : Nat) (x : Str) : Bool := decide (s.N[i]? = some x) && isVis (kind s x) && !odd x
/-- a local name is stored -/
def stN (s : Sta) (i : Nat) (x : Str) : Bool := decide (s.N[i]? = some x) && isLoc s.top (kind s x)
def gloN (s : Sta) (x : Str) : Bool := isGlo (kind s x) && !odd x
def bltN (s : Sta) (x : Str) : Bool := isGlo (kind s x) && decide (x ∈ s.blts)
def conB (d : D) (c : Const) : Bool := match d, c with
  | .none, .none => true
  | .bool b, .bool b' => b == b'
  | .int i, .int j => decide (i = j)
  | .str x, .str y => decide (x = y) && okS x
  | _, _ => false
def vwE : E → Bool
  | .view _ _ => true
  | _ => false
mutual
/-- nothing that is owned changes -/
def quE : E → Bool
  | .var _ => true
  | .con _ => true
  | .glob _ => true
  | .tup es => quEs es
  | .lst es => quEs es
  | .bin _ a b => quE a && quE b
  | .neg a => quE a
  | .cmp a _ b => quE a && quE b
  | .cmp2 a _ b _ c => quE a && quE b && quE c
  | .isN a => quE a
  | .notN a => quE a
  | .and a b => quE a && quE b
  | .or a b => quE a && quE b
  | .not a => quE a
  | .ife c a b => quE c && quE a && quE b
  | .ix a b => quE a && quE b
  | .sl a lo hi => quE a && quO lo && quO hi
  | .sls a lo hi k => quE a && quO lo && quO hi && quE k
  | .isi a _ => quE a
  | .b1 _ a => quE a
  | .b2 _ a c => quE a && quE c
  | .peek _ ks => quEs ks
  | .view _ ks => quEs ks
  | _ => false
def quEs : List E → Bool
  | [] => true
  | e :: es => quE e && quEs es
def quO : Option E → Bool
  | none => true
  | some e => quE e
end
/-- a test's parts have their tests -/
def tstE : E → Bool
  | .ife _ _ _ => false
  | .not a => tstE a
  | .and a b => tstE a && tstE b
  | .or a b => tstE a && tstE b
  | _ => true
def isComp : Expr → Bool
  | .ListComp _ _ _ _ => true
  | .SetComp _ _ _ _ => true
  | .DictComp _ _ _ _ _ => true
  | _ => false
/-- the names of a comprehension's own -/
def ownOf (N : List Str) (js : List Nat) : List (Str × Nat) := js.filterMap fun j => (N[j]?).map fun x => (x, j)
def inner (s : Sta) (scope : Scope) : Sta := { s with sc := relS scope s.sc, top := false }
def chkTs (s : Sta) : List Nat → List Expr → Bool
  | [], [] => true
  | j :: js, .Name x _ :: es => stN s j x && chkTs s js es
  | _, _ => false
/-- a target -/
def chkTg (s : Sta) (js : List Nat) (e : Expr) : Bool := match js, e with
  | [j], .Name x _ => stN s j x
  | [_], _ => false
  | js, .Tuple es _ _ => chkTs s js es
  | _, _ => false
def noFold : Expr → Bool
  | .Set _ _ _ => false
  | _ => true
def b1B : Bi → String → Bool
  | .len, x => x == "len"
  | .int, x => x == "int"
  | .str, x => x == "str"
  | .abs, x => x == "abs"
  | .sum, x => x == "sum"
  | .any, x => x == "any"
  | .all, x => x == "all"
  | .tuple, x => x == "tuple"
  | .list, x => x == "list"
  | _, _ => false
def b1N (b : Bi) : Option String := match b with
  | .len => some "len" | .int => some "int" | .str => some "str" | .abs => some "abs" | .sum => some "sum" | .any => some "any" | .all => some "all" | .tuple => some "tuple" | .list => some "list"
  | _ => none
/-- a path's keys are quiet data -/
def keyE (e : E) : Bool := quE e && !vwE e
mutual
def chkE (s : Sta) : Nat → E → Expr → Bool
  | 0, _, _ => false
  | n + 1, .var i, e0 => (match e0 with
    | .Name x _ => rdN s i x
    | _ => false)
  | n + 1, .con d, e0 => (match e0 with
    | .Constant c _ _ => conB d c
    | _ => false)
  | n + 1, .glob k, e0 => (match e0 with
    | .Name x _ => gloN s x && decide (s.gls[k]? = some x)
    | _ => false)
  | n + 1, .tup es, e0 => (match e0 with
    | .Tuple xs _ _ => chkEs s n es xs
    | _ => false)
  | n + 1, .lst es, e0 => (match e0 with
    | .List xs _ => chkEs s n es xs
    | _ => false)
  | n + 1, .bin o a b, e0 => (match e0 with
    | .BinOp x o' y _ => decide (binOf o = o') && (!vwE a || quE b) && chkE s n a x && chkE s n b y
    | _ => false)
  | n + 1, .neg a, e0 => (match e0 with
    | .UnaryOp .USub x _ => chkE s n a x
    | _ => false)
  | n + 1, .cmp a o b, e0 => (match e0 with
    | .Compare x [o'] [y] _ => decide (opOf o = o') && !behindInMarks o' y && (!vwE a || quE b) && chkE s n a x && chkE s n b y
    | _ => false)
  | n + 1, .cmp2 a o b o2 c, e0 => (match e0 with
    | .Compare x [o', o2'] [y, z] _ => decide (opOf o = o') && decide (opOf o2 = o2') && !lastMarks [o', o2'] [y, z] && ((quE a && quE b && quE c) || (!vwE a && !vwE b)) && chkE s n a x && chkE s n b y && chkE s n c z
    | _ => false)
  | n + 1, .isN a, e0 => (match e0 with
    | .Compare x [.Is] [.Constant .none _ _] _ => chkE s n a x
    | _ => false)
  | n + 1, .notN a, e0 => (match e0 with
    | .Compare x [.IsNot] [.Constant .none _ _] _ => chkE s n a x
    | _ => false)
  | n + 1, .and a b, e0 => (match e0 with
    | .BoolOp .And (x :: y :: r) p => !vwE a && !vwE b && chkE s n a x && (match r with
      | [] => chkE s n b y
      | z :: r => chkE s n b (.BoolOp .And (y :: z :: r) p))
    | _ => false)
  | n + 1, .or a b, e0 => (match e0 with
    | .BoolOp .Or (x :: y :: r) p => !vwE a && !vwE b && chkE s n a x && (match r with
      | [] => chkE s n b y
      | z :: r => chkE s n b (.BoolOp .Or (y :: z :: r) p))
    | _ => false)
  | n + 1, .not a, e0 => (match e0 with
    | .UnaryOp .Not x _ => chkE s n a x
    | _ => false)
  | n + 1, .ife c a b, e0 => (match e0 with
    | .IfExp t x y _ => !vwE a && !vwE b && tstE c && chkE s n c t && chkE s n a x && chkE s n b y
    | _ => false)
  | n + 1, .ix a b, e0 => (match e0 with
    | .Subscript x y _ => notSlice y && (!vwE a || quE b) && !vwE b && chkE s n a x && chkE s n b y
    | _ => false)
  | n + 1, .sl a lo hi, e0 => (match e0 with
    | .Subscript x (.Slice l h none _) _ => (!vwE a || (quO lo && quO hi)) && chkE s n a x && chkO s n lo l && chkO s n hi h
    | _ => false)
  | n + 1, .sls a lo hi k, e0 => (match e0 with
    | .Subscript x (.Slice l h (some st) _) _ => (!vwE a || (quO lo && quO hi && quE k)) && !vwE k && chkE s n a x && chkO s n lo l && chkO s n hi h && chkE s n k st
    | _ => false)
  | n + 1, .b2 b a c, e0 => (match b, e0 with
    | .index, .Call (.Attribute x m ap) [y] [] cp => decide (m = ("index" : Str)) && notCall x && (ap.endLine == cp.line) && notStar y && !vwE a && !vwE c && chkE s n a x && chkE s n c y
    | .sortedSets, .Call (.Name f _) [.BinOp (.Call (.Name g _) [x] [] _) .BitOr (.Call (.Name g2 _) [y] [] _) _] [] _ => decide (f = ("sorted" : Str)) && bltN s f && decide (g = ("set" : Str)) && decide (g2 = ("set" : Str)) && bltN s g && notStar x && notStar y && chkE s n a x && chkE s n c y
    | .min, .Call (.Name f _) [x, y] [] _ => decide (f = ("min" : Str)) && bltN s f && notStar x && notStar y && !vwE a && !vwE c && chkE s n a x && chkE s n c y
    | .max, .Call (.Name f _) [x, y] [] _ => decide (f = ("max" : Str)) && bltN s f && notStar x && notStar y && !vwE a && !vwE c && chkE s n a x && chkE s n c y
    | _, _ => false)
  | n + 1, .isi a t, e0 => (match e0 with
    | .Call (.Name f _) [x, .Name ty _] [] _ => decide (f = ("isinstance" : Str)) && bltN s f && decide (ty = Str.ofString (tyV? t)) && bltN s ty && notStar x && chkE s n a x
    | _ => false)
  | n + 1, .b1 b a, e0 => (match b, e0 with
    | .upper, .Call (.Attribute x m ap) [] [] cp => decide (m = ("upper" : Str)) && notCall x && (ap.endLine == cp.line) && !vwE a && chkE s n a x
    | .sortedSet, .Call (.Name f _) [.Call (.Name g _) [x] [] _] [] _ => decide (f = ("sorted" : Str)) && bltN s f && decide (g = ("set" : Str)) && bltN s g && notStar x && chkE s n a x
    | .sorted, .Call (.Name f _) [x] [] _ => decide (f = ("sorted" : Str)) && bltN s f && notStar x && chkE s n a x
    | b, .Call (.Name f _) [x] [] _ => (match b1N b with
      | some nm => decide (f = Str.ofString nm) && bltN s f && notStar x && chkE s n a x
      | none => false)
    | _, _ => false)
  | n + 1, .call f es, e0 => (match e0 with
    | .Call (.Name x _) xs kws _ => gloN s x && handsOk es && (match s.fns[f]? with
      | some (y, ps) => decide (y = x) && (match kws with
        | [] => xs.all notStar && chkA s n es xs
        | kws => decide (xs = []) && decide (kws.map kwName = ps.map some) && decide (es.length = ps.length) && chkA s n es (kws.map kwVal))
      | none => false)
    | _ => false)
  | n + 1, .peek i ks, e => chkP s i n ks e
  | n + 1, .view i ks, e => chkP s i n ks e
  | n + 1, .comp js k it cs el, e0 => (match e0 with
    | .ListComp elt gens scope _ => (match gens with
      | [⟨tg, iter, ifs, 0⟩] => noFold iter && decide ((ownOf s.N js).map (·.2) = js) && blkC s.N s.sc scope (ownOf s.N js) && !vwE el && chkI s n k it tg iter && chkTg (inner s scope) js tg && chkC (inner s scope) n cs ifs && chkE (inner s scope) n el elt
      | _ => false)
    | _ => false)
  | n + 1, _, _ => false
def chkEs (s : Sta) : Nat → List E → List Expr → Bool
  | 0, _, _ => false
  | n + 1, [], [] => true
  | n + 1, c :: cs, e :: es => notStar e && !vwE c && chkE s n c e && chkEs s n cs es
  | n + 1, _, _ => false
def chkO (s : Sta) : Nat → Option E → Option Expr → Bool
  | 0, _, _ => false
  | n + 1, none, none => true
  | n + 1, some c, some e => chkE s n c e
  | n + 1, _, _ => false
/-- arguments -/
def chkA (s : Sta) : Nat → List E → List Expr → Bool
  | 0, _, _ => false
  | n + 1, [], [] => true
  | n + 1, .hand i :: cs, .Name x _ :: es => rdN s i x && chkA s n cs es
  | n + 1, .hand _ :: _, _ => false
  | n + 1, c :: cs, e :: es => notStar e && !vwE c && chkE s n c e && chkA s n cs es
  | n + 1, _, _ => false
/-- a path, the last key first -/
def chkP (s : Sta) (i : Nat) : Nat → List E → Expr → Bool
  | 0, _, _ => false
  | n + 1, [], .Name x _ => rdN s i x
  | n + 1, k :: ks, .Subscript o y _ => notSlice y && keyE k && quEs ks && chkP s i n ks o && chkE s n k y
  | n + 1, _, _ => false
/-- what is walked -/
def chkI (s : Sta) : Nat → IK → List E → Expr → Expr → Bool
  | 0, _, _, _, _ => false
  | n + 1, k, es, tg, e0 => (match k, es with
    | .any, [e] => !vwE e && chkE s n e e0
    | .rng, [a] => (match e0 with
      | .Call (.Name f _) [x] [] _ => decide (f = ("range" : Str)) && bltN s f && notStar x && !vwE a && chkE s n a x
      | _ => false)
    | .rng, [a, b] => (match e0 with
      | .Call (.Name f _) [x, y] [] _ => decide (f = ("range" : Str)) && bltN s f && notStar x && notStar y && !vwE a && !vwE b && chkE s n a x && chkE s n b y
      | _ => false)
    | .enum, [a] => (match tg, e0 with
      | .Tuple _ _ _, .Call (.Name f _) [x] [] _ => decide (f = ("enumerate" : Str)) && bltN s f && notStar x && !vwE a && chkE s n a x
      | _, _ => false)
    | .zip, [a, b] => (match tg, e0 with
      | .Tuple _ _ _, .Call (.Name f _) [x, y] [] _ => decide (f = ("zip" : Str)) && bltN s f && notStar x && notStar y && !vwE a && !vwE b && chkE s n a x && chkE s n b y
      | _, _ => false)
    | _, _ => false)
/-- the tests of a comprehension -/
def chkC (s : Sta) : Nat → List E → List Expr → Bool
  | 0, _, _ => false
  | n + 1, [], [] => true
  | n + 1, [c], [e] => tstE c && chkE s n c e
  | n + 1, _, _ => false
end
end MP

set_option maxHeartbeats 4000000
namespace MP
open PySem PySem.Spec PyProof.Rows L2
structure Cxt (X : Cx) (s : Sta) (cl : Call) (gl : List D) (k : Nat) : Prop where
  N : X.N = s.N
  nd : s.N.Nodup
  sc : X.env.scope = s.sc
  calm : X.calm = true
  room : Room k X.A
  hp : PassesOwn (model X.prog X.w) X.A X.env X.xe
  fnv : s.top = true → ∀ x, X.fn x = true
  fns : ∀ (j : Nat) (x : Str) (ps : List Str), s.fns[j]? = some (x, ps) → FnF X k x ps (cl j)
  gls : ∀ (j : Nat) (x : Str), s.gls[j]? = some x → ∃ (v : V) (u : Value) (d : D), X.mg x = some u ∧ RelV v u ∧ gl[j]? = some d ∧ ∀ F, Rp X.K F v d
  blts : ∀ x ∈ s.blts, X.mg x = none
section
variable {X : Cx} {s : Sta} {cl : Call} {gl : List D} {k : Nat}
theorem Cxt.blk (C : Cxt X s cl gl k) (s' : Shared) (H : Hp) (scope : Scope) (Ca : Addr) (cs : List (Str × Addr)) (fp : List Addr) : Cxt (X.blk s' H scope (compEnvC scope cs Ca X.env) fp) (inner s scope) cl gl k where
  N := C.N
  nd := C.nd
  sc := by
    show relS scope X.env.scope = relS scope s.sc
    rw [C.sc]
  calm := C.calm
  room := C.room
  hp := PassesOwn.never
  fnv := fun h => (nomatch h)
  fns := fun j x ps h => ⟨(C.fns j x ps h).ex⟩
  gls := C.gls
  blts := C.blts
theorem Cxt.name (C : Cxt X s cl gl k) {i : Nat} {x : Str} (h : rdN s i x = true) : X.N[i]? = some x ∧ Vis X.env.scope x ∧ (x == ("__debug__" : Str)) = false ∧ (x == ("__classdict__" : Str)) = false := by
  simp only [rdN, odd, Bool.and_eq_true, decide_eq_true_eq, Bool.not_eq_true', Bool.or_eq_false_iff] at h
  refine ⟨by rw [C.N]; exact h.1.1, ?_, h.2.1, h.2.2⟩
  have hk := h.1.2
  unfold kind at hk
  unfold Vis
  rw [C.sc]
  cases hl : s.sc.names.lookup x with
  | none => rw [hl] at hk; cases hk
  | some kd => rw [hl] at hk; cases kd <;> simp [isVis] at hk ⊢
theorem Cxt.store (C : Cxt X s cl gl k) {i : Nat} {x : Str} (h : stN s i x = true) : X.N[i]? = some x ∧ L2.Loc X.env.scope x ∧ (X.fn x = true ∨ X.env.scope.names.lookup x = some .local) := by
  simp only [stN, Bool.and_eq_true, decide_eq_true_eq] at h
  refine ⟨by rw [C.N]; exact h.1, ?_⟩
  have hk := h.2
  unfold kind at hk
  unfold L2.Loc
  rw [C.sc]
  cases hl : s.sc.names.lookup x with
  | none => rw [hl] at hk; cases hk
  | some kd =>
    rw [hl] at hk
    cases kd with
    | «local» => exact ⟨.inl rfl, .inr rfl⟩
    | cell => exact ⟨.inr rfl, .inl (C.fnv hk x)⟩
    | _ => cases hk
theorem glo_of (C : Cxt X s cl gl k) {x : Str} (h : isGlo (kind s x) = true) : Gl X x := by
  show X.env.scope.names.lookup x = some .globalImplicit
  rw [C.sc]
  unfold kind at h
  cases hl : s.sc.names.lookup x with
  | none => rw [hl] at h; cases h
  | some kd => rw [hl] at h; cases kd <;> first | rfl | cases h
theorem Cxt.glob (C : Cxt X s cl gl k) {x : Str} (h : gloN s x = true) : Gl X x ∧ (x == ("__debug__" : Str)) = false := by
  simp only [gloN, odd, Bool.and_eq_true, Bool.not_eq_true', Bool.or_eq_false_iff] at h
  exact ⟨glo_of C h.1, h.2.1⟩
theorem Cxt.blt (C : Cxt X s cl gl k) {x : Str} (h : bltN s x = true) : Gl X x ∧ X.mg x = none := by
  simp only [bltN, Bool.and_eq_true, decide_eq_true_eq] at h
  exact ⟨glo_of C h.1, C.blts x h.2⟩
end
/-! ### targets -/
section
variable {X : Cx} {s : Sta} {cl : Call} {gl : List D} {k : Nat}
theorem tgs_ok (C : Cxt X s cl gl k) : ∀ (js : List Nat) (es : List Expr), chkTs s js es = true → PGs X es (gNs js) ∧ (assignEach es X.env).length = js.length ∧ (assignEach es X.env).findIdx? (·.1) = none
  | [], [], _ => ⟨pgs_nil, rfl, rfl⟩
  | [], _ :: _, h => by simp [chkTs] at h
  | j :: js, [], h => by simp [chkTs] at h
  | j :: js, e :: es, h => by
    cases e with
    | Name x p =>
      simp only [chkTs, Bool.and_eq_true] at h
      obtain ⟨h1, h2, h3⟩ := C.store h.1
      obtain ⟨i1, i2, i3⟩ := tgs_ok C js es h.2
      refine ⟨pgs_cons (pg_name (by rw [C.N]; exact C.nd) h1 h2 h3) i1 rfl, ?_, ?_⟩
      · show (assignEach es X.env).length + 1 = js.length + 1
        rw [i2]
      · have e : assignEach (.Name x p :: es) X.env = (false, assign (.Name x p) X.env) :: assignEach es X.env := rfl
        rw [e]
        simp [List.findIdx?_cons, i3]
    | _ => simp [chkTs] at h
theorem tg_ok (C : Cxt X s cl gl k) {js : List Nat} {e : Expr} (h : chkTg s js e = true) : PG X e (gT X.K js) := by
  have tup : ∀ es kk p, e = .Tuple es kk p → chkTs s js es = true → (∀ j, js ≠ [j]) → PG X e (gT X.K js) := fun es kk p he h2 hn => by
    subst he
    obtain ⟨i1, i2, i3⟩ := tgs_ok C js es h2
    have e2 : gT X.K js = gTup X.K js.length (gNs js) := by
      unfold gT
      split
      · exact absurd rfl (hn _)
      · rfl
    rw [e2]
    exact pg_tup C.calm i1 i2 i3
  match js, e, h with
  | [j], .Name x p, h =>
    obtain ⟨h1, h2, h3⟩ := C.store (show stN s j x = true from h)
    exact pg_name (by rw [C.N]; exact C.nd) h1 h2 h3
  | [], .Tuple es kk p, h => exact tup es kk p rfl h (by simp)
  | a :: b :: r, .Tuple es kk p, h => exact tup es kk p rfl h (by simp)
end
def isBO : Expr → Bool
  | .BoolOp _ _ _ => true
  | _ => false
def asL : D → Option (List D)
  | .list xs => some xs
  | _ => none
def unL (ev : Env → R Env D) : Env → R Env (List D) := fun env => (ev env).bind fun x env => .opt (asL x) env
theorem unL_list {ev : Env → R Env (List D)} : unL (fun env => (ev env).bind fun xs env => .ok (.list xs) env) = ev := by
  funext env
  show R.bind (R.bind (ev env) _) _ = ev env
  generalize ev env = r
  cases r <;> rfl
structure SE (X : Cx) (cl : Call) (gl : List D) (c : E) (e : Expr) : Prop where
  pe : PE X e (RdE X.K (vwE c) (quE c) (evE cl gl c))
  pt : tstE c = true → PT X e (RdT X.K (quE c) (evE cl gl c))
  pw : isBO e = true → tstE c = true → PW X e (RdT X.K (quE c) (evE cl gl c))
  pn : fresh c = true → PE X e (RdN X.K (quE c) (unL (evE cl gl c)))
def quC : List E → Bool
  | [c] => quE c
  | _ => true
def quI : List E → Bool
  | [a] => quE a
  | [a, b] => quE a && quE b
  | _ => true
def quA : List E → Bool
  | [] => true
  | .hand _ :: _ => false
  | c :: cs => quE c && quA cs
def wkI : IK → Bool
  | .enum => true
  | .zip => true
  | _ => false
structure Snd (n : Nat) (s : Sta) (X : Cx) (cl : Call) (gl : List D) : Prop where
  e : ∀ c e, chkE s n c e = true → SE X cl gl c e
  es : ∀ cs es, chkEs s n cs es = true → PA X es (RdL X.K (quEs cs) (evEs cl gl cs))
  o : ∀ c e, chkO s n c e = true → PO X e (RdO X.K (quO c) (evO cl gl c))
  a : ∀ cs es, chkA s n cs es = true → PA X es (RdA X.K cs (quA cs) (evAs cl gl cs))
  k : ∀ cs kws, chkA s n cs (kws.map kwVal) = true → PK X kws (RdA X.K cs (quA cs) (evAs cl gl cs))
  p : ∀ i ks e, chkP s i n ks e = true → PE X e (RdP X.K i (quEs ks) (evP cl gl i ks))
  i : ∀ kk its tg e, chkI s n kk its tg e = true → PI X tg e (RdI X.K (wkI kk) (quI its) (evI cl gl kk its))
  c : ∀ cs es, chkC s n cs es = true → PTs X es (RdB X.K (quC cs) (evCs cl gl cs))
section
variable {X : Cx} {s : Sta} {cl : Call} {gl : List D} {k n : Nat}
theorem not_hand {c : E} {s : Sta} {n : Nat} {e : Expr} (h : chkE s n c e = true) (i : Nat) : c ≠ .hand i := by
  intro z
  subst z
  cases n with
  | zero => cases h
  | succ n => simp [chkE] at h
/-- an expression whose test is its value's truth -/
theorem SE.of {c : E} {e : Expr} (pe : PE X e (RdE X.K (vwE c) (quE c) (evE cl gl c))) (he : ∀ whole, isTrue e X.env whole = (do let v ← whole; standAt e.pos; holding [v] (truthy v))) (hb : isBO e = false) (hf : fresh c = false) : SE X cl gl c e :=
  ⟨pe, fun _ => mt_val pe he, fun h => absurd (hb ▸ h) Bool.false_ne_true, fun h => absurd (hf ▸ h) Bool.false_ne_true⟩
theorem snd_es (S : Snd n s X cl gl) : ∀ cs es, chkEs s (n + 1) cs es = true → PA X es (RdL X.K (quEs cs) (evEs cl gl cs)) := by
  intro cs es h
  match cs, es, h with
  | [], [], _ => exact ma_nil
  | c :: cs, e :: es, h =>
    simp only [chkEs, Bool.and_eq_true, Bool.not_eq_true'] at h
    have h1 := (S.e c e h.1.2).pe
    rw [h.1.1.2] at h1
    exact ma_cons h.1.1.1 h1 (S.es cs es h.2)
theorem snd_o (S : Snd n s X cl gl) : ∀ c e, chkO s (n + 1) c e = true → PO X e (RdO X.K (quO c) (evO cl gl c)) := by
  intro c e h
  match c, e, h with
  | none, none, _ => exact mo_none
  | some c, some e, h => exact mo_some (S.e c e (by simpa only [chkO] using h)).pe
theorem snd_a (C : Cxt X s cl gl k) (S : Snd n s X cl gl) : ∀ cs es, chkA s (n + 1) cs es = true → PA X es (RdA X.K cs (quA cs) (evAs cl gl cs)) := by
  intro cs es h
  have d : ∀ c cs e es, (∀ i, c ≠ .hand i) → (notStar e && !vwE c && chkE s n c e && chkA s n cs es) = true → evAs cl gl (c :: cs) = (fun env => (evE cl gl c env).bind fun x env => (evAs cl gl cs env).bind fun os env => .ok (some x :: os) env) → quA (c :: cs) = (quE c && quA cs) → PA X (e :: es) (RdA X.K (c :: cs) (quA (c :: cs)) (evAs cl gl (c :: cs))) := fun c cs e es hn h he hq => by
    simp only [Bool.and_eq_true, Bool.not_eq_true'] at h
    have h1 := (S.e c e h.1.2).pe
    rw [h.1.1.2] at h1
    rw [he, hq]
    exact mar_d hn h.1.1.1 h1 (S.a cs es h.2)
  match cs, es, h with
  | [], [], _ => exact mar_nil
  | c :: cs, [], h => cases c <;> simp [chkA] at h
  | c :: cs, e :: es, h =>
    cases c with
    | hand i =>
      cases e with
      | Name x p =>
        simp only [chkA, Bool.and_eq_true] at h
        obtain ⟨h1, h2, h3, h4⟩ := C.name h.1
        exact mar_h h1 h2 h3 h4 (S.a cs es h.2)
      | _ => simp [chkA] at h
    | _ => exact d _ cs e es (by intro i z; cases z) (by simpa only [chkA] using h) rfl rfl
theorem snd_k (C : Cxt X s cl gl k) (S : Snd n s X cl gl) : ∀ cs kws, chkA s (n + 1) cs (kws.map kwVal) = true → PK X kws (RdA X.K cs (quA cs) (evAs cl gl cs)) := by
  intro cs kws h
  have d : ∀ c cs nm e kp kws, (∀ i, c ≠ .hand i) → (notStar e && !vwE c && chkE s n c e && chkA s n cs (kws.map kwVal)) = true → evAs cl gl (c :: cs) = (fun env => (evE cl gl c env).bind fun x env => (evAs cl gl cs env).bind fun os env => .ok (some x :: os) env) → quA (c :: cs) = (quE c && quA cs) → PK X (⟨nm, e, kp⟩ :: kws) (RdA X.K (c :: cs) (quA (c :: cs)) (evAs cl gl (c :: cs))) := fun c cs nm e kp kws hn h he hq => by
    simp only [Bool.and_eq_true, Bool.not_eq_true'] at h
    have h1 := (S.e c e h.1.2).pe
    rw [h.1.1.2] at h1
    rw [he, hq]
    exact mkr_d hn h1 (S.k cs kws h.2)
  match cs, kws, h with
  | [], [], _ => exact mkr_nil
  | c :: cs, [], h =>
    have h : chkA s (n + 1) (c :: cs) [] = true := h
    cases c <;> simp [chkA] at h
  | c :: cs, ⟨nm, e, kp⟩ :: kws, h =>
    have h : chkA s (n + 1) (c :: cs) (e :: kws.map kwVal) = true := h
    cases c with
    | hand i =>
      cases e with
      | Name x p =>
        simp only [chkA, Bool.and_eq_true] at h
        obtain ⟨h1, h2, h3, h4⟩ := C.name h.1
        exact mkr_h h1 h2 h3 h4 (S.k cs kws h.2)
      | _ => simp [chkA] at h
    | _ => exact d _ cs nm e kp kws (by intro i z; cases z) (by simpa only [chkA] using h) rfl rfl
theorem snd_p (C : Cxt X s cl gl k) (S : Snd n s X cl gl) : ∀ i ks e, chkP s i (n + 1) ks e = true → PE X e (RdP X.K i (quEs ks) (evP cl gl i ks)) := by
  intro i ks e h
  match ks, e, h with
  | [], .Name x p, h =>
    obtain ⟨h1, h2, h3, h4⟩ := C.name (by simpa only [chkP] using h)
    exact mp_name h1 h2 h3 h4
  | kk :: ks, .Subscript o y p, h =>
    simp only [chkP, keyE, Bool.and_eq_true, Bool.not_eq_true'] at h
    have h1 := (S.e kk y h.2).pe
    rw [h.1.1.1.2.2] at h1
    have e1 : quEs (kk :: ks) = true := by simp [quEs, h.1.1.1.2.1, h.1.1.2]
    rw [e1]
    exact mp_ix h.1.1.1.1 ⟨h.1.1.2, h.1.1.1.2.1⟩ (S.p i ks o h.1.2) h1
theorem snd_c (S : Snd n s X cl gl) : ∀ cs es, chkC s (n + 1) cs es = true → PTs X es (RdB X.K (quC cs) (evCs cl gl cs)) := by
  intro cs es h
  match cs, es, h with
  | [], [], _ => exact mb_nil
  | [c], [e], h =>
    simp only [chkC, Bool.and_eq_true] at h
    exact mb_one ((S.e c e h.2).pt h.1)
theorem snd_i (C : Cxt X s cl gl k) (S : Snd n s X cl gl) : ∀ kk its tg e, chkI s (n + 1) kk its tg e = true → PI X tg e (RdI X.K (wkI kk) (quI its) (evI cl gl kk its)) := by
  intro kk its tg e0 h
  have use : ∀ {c : E} {e : Expr}, vwE c = false → chkE s n c e = true → PE X e (RdE X.K false (quE c) (evE cl gl c)) := fun {c e} hv hc => by
    have := (S.e c e hc).pe
    rw [hv] at this
    exact this
  match kk, its, h with
  | .any, [c], h =>
    simp only [chkI, Bool.and_eq_true, Bool.not_eq_true'] at h
    exact mi_any (use h.1 h.2)
  | .rng, [a], h =>
    simp only [chkI] at h
    split at h
    · simp only [Bool.and_eq_true, Bool.not_eq_true', decide_eq_true_eq] at h
      obtain ⟨⟨⟨⟨h1, h2⟩, h3⟩, h4⟩, h5⟩ := h
      subst h1
      obtain ⟨g1, g2⟩ := C.blt h2
      exact mi_range1 g1 g2 h3 (use h4 h5)
    · cases h
  | .rng, [a, b], h =>
    simp only [chkI] at h
    split at h
    · simp only [Bool.and_eq_true, Bool.not_eq_true', decide_eq_true_eq] at h
      obtain ⟨⟨⟨⟨⟨⟨⟨h1, h2⟩, h3⟩, h3'⟩, h4⟩, h4'⟩, h5⟩, h6⟩ := h
      subst h1
      obtain ⟨g1, g2⟩ := C.blt h2
      exact mi_range2 g1 g2 h3 h3' (use h4 h5) (use h4' h6)
    · cases h
  | .enum, [a], h =>
    simp only [chkI] at h
    split at h
    · simp only [Bool.and_eq_true, Bool.not_eq_true', decide_eq_true_eq] at h
      obtain ⟨⟨⟨⟨h1, h2⟩, h3⟩, h4⟩, h5⟩ := h
      subst h1
      obtain ⟨g1, g2⟩ := C.blt h2
      exact mi_enum g1 g2 h3 (use h4 h5)
    · cases h
  | .zip, [a, b], h =>
    simp only [chkI] at h
    split at h
    · simp only [Bool.and_eq_true, Bool.not_eq_true', decide_eq_true_eq] at h
      obtain ⟨⟨⟨⟨⟨⟨⟨h1, h2⟩, h3⟩, h3'⟩, h4⟩, h4'⟩, h5⟩, h6⟩ := h
      subst h1
      obtain ⟨g1, g2⟩ := C.blt h2
      exact mi_zip g1 g2 h3 h3' (use h4 h5) (use h4' h6)
    · cases h
  | .any, [], h => simp [chkI] at h
  | .any, _ :: _ :: _, h => simp [chkI] at h
  | .rng, [], h => simp [chkI] at h
  | .rng, _ :: _ :: _ :: _, h => simp [chkI] at h
  | .enum, [], h => simp [chkI] at h
  | .enum, _ :: _ :: _, h => simp [chkI] at h
  | .zip, [], h => simp [chkI] at h
  | .zip, [_], h => simp [chkI] at h
  | .zip, _ :: _ :: _ :: _, h => simp [chkI] at h
end
end MP

set_option maxHeartbeats 4000000
namespace MP
open PySem PySem.Spec PyProof.Rows L2
section
variable {X : Cx} {s : Sta} {cl : Call} {gl : List D} {k n : Nat}
theorem vq {a b : E} (h : (!vwE a || quE b) = true) : vwE a = true → quE b = true := fun z => by
  rw [z] at h
  simpa using h
theorem mb1 {b : Bi} {nm : String} {a : E} {x : Expr} {p pos : Pos} {f : Str} (C : Cxt X s cl gl k) (hb : b1N b = some nm) (hf : f = Str.ofString nm) (h : bltN s f = true) (hn : notStar x = true) (ha : PE X x (RdE X.K (vwE a) (quE a) (evE cl gl a))) :
    PE X (.Call (.Name f p) [x] [] pos) (RdE X.K false (quE a) fun env => (evE cl gl a env).bind fun y env => .opt (b1D b y) env) ∧ (b = .list → PE X (.Call (.Name f p) [x] [] pos) (RdN X.K (quE a) fun env => (evE cl gl a env).bind fun y env => .opt (items? y) env)) := by
  obtain ⟨g1, g2⟩ := C.blt h
  subst hf
  cases b with
  | len => cases hb; exact ⟨me_callB r1_len call_len (by decide +kernel) (by decide) (by decide) g1 g2 hn ha, fun z => nomatch z⟩
  | tuple => cases hb; exact ⟨me_callT r1_tuple call_tupD (by decide +kernel) (by decide) (by decide) g1 g2 hn ha, fun z => nomatch z⟩
  | list =>
    cases hb
    have hN := mn_callT (pos := pos) (p := p) r1n_list call_list_of (by decide +kernel) (by decide) (by decide) g1 g2 hn ha
    refine ⟨?_, fun _ => hN⟩
    have := me_ofN hN
    have e : (fun env => ((fun env => (evE cl gl a env).bind fun y env => R.opt (items? y) env) env).bind fun xs env => R.ok (PyData.list xs) env) = fun env => (evE cl gl a env).bind fun y env => .opt (b1D .list y) env := by
      funext env
      show R.bind (R.bind (evE cl gl a env) _) _ = R.bind (evE cl gl a env) _
      generalize evE cl gl a env = r
      cases r with
      | ok y env1 => cases y <;> rfl
      | exc c ds s => rfl
      | err => rfl
    rw [e] at this
    exact this
  | int => cases hb; exact ⟨me_callT r1_int call_int1 (by decide +kernel) (by decide) (by decide) g1 g2 hn ha, fun z => nomatch z⟩
  | str => cases hb; exact ⟨me_callT r1_str call_str_int (by decide +kernel) (by decide) (by decide) g1 g2 hn ha, fun z => nomatch z⟩
  | abs => cases hb; exact ⟨me_callB r1_abs call_abs (by decide +kernel) (by decide) (by decide) g1 g2 hn ha, fun z => nomatch z⟩
  | sum => cases hb; exact ⟨me_callB r1_sum (cr_sum C.calm) (by decide +kernel) (by decide) (by decide) g1 g2 hn ha, fun z => nomatch z⟩
  | any => cases hb; exact ⟨me_callB r1_any (cr_any C.calm) (by decide +kernel) (by decide) (by decide) g1 g2 hn ha, fun z => nomatch z⟩
  | all => cases hb; exact ⟨me_callB r1_all (cr_all C.calm) (by decide +kernel) (by decide) (by decide) g1 g2 hn ha, fun z => nomatch z⟩
  | _ => cases hb
theorem me_upper {a : E} {x : Expr} {ap cp : Pos} (hnc : notCall x = true) (hl : (ap.endLine == cp.line) = true) (ha : PE X x (RdE X.K false (quE a) (evE cl gl a))) :
    PE X (.Call (.Attribute x "upper" ap) [] [] cp) (RdE X.K false (quE a) fun env => (evE cl gl a env).bind fun y env => .opt (b1D .upper y) env) := by
  refine pe_imp (pe_bm0 PySem.F.plainAttrs_str PySem.F.slot_str_upper PySem.F.type_str_upper mt_upper ha (base_ok hnc) hl) fun σ H Q h => ?_
  obtain ⟨F, env, as, rel, got⟩ := h
  refine ⟨F, env, as, rel, gotK_mono (gotK_bind got) fun y env1 g v H1 F1 as1 A1 => ?_⟩
  obtain ⟨z, e, kk⟩ := gotK_opt g
  cases y with
  | str t =>
    obtain ⟨⟨h1, h2⟩, rfl⟩ := ifs (by simpa only [b1D] using e)
    obtain ⟨rfl, o⟩ := A1.rp0.str_inv
    exact ⟨rfl, t, rfl, rfl, of_decide_eq_true h1, kk _ H1 F1 as1 ⟨A1.rel, A1.post, A1.qu, .str h2⟩⟩
  | _ => cases e
theorem unL_bin {o : Op} {g : D → D → Option (List D)} {a b : E} (h : ∀ x y, g x y = (binD o x y).bind asL) : (fun env => (evE cl gl a env).bind fun x env => (evE cl gl b env).bind fun y env => R.opt (g x y) env) = unL (evE cl gl (.bin o a b)) := by
  funext env
  unfold unL
  show _ = R.bind ((evE cl gl a env).bind fun x env => (evE cl gl b env).bind fun y env => R.opt (binD o x y) env) _
  generalize evE cl gl a env = r
  cases r with
  | ok x env1 =>
    show R.bind (evE cl gl b env1) _ = R.bind (R.bind (evE cl gl b env1) _) _
    generalize evE cl gl b env1 = r
    cases r with
    | ok y env2 =>
      show R.opt (g x y) env2 = R.bind (R.opt (binD o x y) env2) _
      rw [h]
      cases binD o x y <;> rfl
    | exc c ds s => rfl
    | err => rfl
  | exc c ds s => rfl
  | err => rfl
theorem catN_eq (x y : D) : catN x y = (binD .add x y).bind asL := by
  cases x <;> cases y <;> simp [catN, binD, asL]
  all_goals (try (cases binI .add _ _ <;> rfl))
  all_goals (try (split <;> rfl))
theorem repN_eq (x y : D) : repN x y = (binD .mul x y).bind asL := by
  cases x <;> cases y <;> simp [repN, binD, asL]
  all_goals (try (cases binI .mul _ _ <;> rfl))
  all_goals (try (split <;> rfl))
/-! ### a new list: a slice -/
def rCutN (K : Kf) : V → Option Int → Option Int → Hp → VK → Prop := fun x lo hi H Q => ∃ F xs, Sub F H ∧ RpV K F H x (.list xs) ∧ ∀ a vs, H a = none → Rps K F vs (cut xs lo hi) → Q (.ref a) (upd H a (.lst vs))
theorem sl_anyN : SlR X (rCutN X.K) := by
  intro pins s σ H x v vl vu lo hi sl Q I rx hs pl pu h
  obtain ⟨F, xs, sf, hx, k⟩ := h
  obtain ⟨a, vs, rfl, h1, r1⟩ := hx.list_inv sf
  exact sl_list pins s σ H _ v vl vu lo hi sl Q I rx hs pl pu ⟨a, vs, rfl, h1, fun p hp => k p _ hp (r1.cut lo hi)⟩
def cutN (x : D) (lo hi : Option Int) : Option (List D) := match x with
  | .list xs => some (cut xs lo hi)
  | _ => none
theorem mn_sl {a : Expr} {lo hi : Option Expr} {eva : Env → R Env D} {evl evh : Env → R Env (Option Int)} {va qa ql qh : Bool} {pos p2 : Pos} (hv : va = true → (ql && qh) = true) (ha : PE X a (RdE X.K va qa eva)) (hl : PO X lo (RdO X.K ql evl)) (hh : PO X hi (RdO X.K qh evh)) :
    PE X (.Subscript a (.Slice lo hi none p2) pos) (RdN X.K (qa && ql && qh) fun env => (eva env).bind fun x env => (evl env).bind fun l env => (evh env).bind fun h env => .opt (cutN x l h) env) := by
  refine pe_imp (pe_slice sl_anyN ha hl hh) fun σ H Q h => ?_
  obtain ⟨F, env, as, rel, got⟩ := h
  refine ⟨F, env, as, rel, gotK_mono (gotK_bind got) fun x env1 g1 v1 H1 F1 as1 A1 => ⟨F1, env1, as1, A1.rel, gotK_mono (gotK_bind g1) fun l env2 g2 H2 F2 as2 A2 => ⟨F2, env2, as2, A2.rel, gotK_mono (gotK_bind g2) fun h env3 g3 H3 F3 as3 A3 => ?_⟩⟩⟩
  obtain ⟨z, e, g⟩ := gotK_opt g3
  cases x with
  | list xs =>
    cases e
    have post := (A1.post.trans A2.post).trans A3.post
    refine ⟨F3, xs, A3.rel.sub, ?_, fun p vs hp r => ?_⟩
    · have r1 := A1.rp
      split at r1
      · have hv := hv (by assumption)
        simp only [Bool.and_eq_true] at hv
        exact (r1.mono A2.post.sf (A2.qu hv.1).sh).mono A3.post.sf (A3.qu hv.2).sh
      · exact ((r1.mono A2.post.sf).mono A3.post.sf).v
    · have gr := Gr.own (o := .lst vs) A3.rel.sub hp
      refine g p _ _ as3 ⟨A3.rel.gr gr, post.gr2 gr, fun z => ?_, ?_, A3.rel.sub.none hp, fun h => A3.rel.slots.there p h hp, vs, upd_same, r⟩
      · simp only [Bool.and_eq_true] at z
        exact (((A1.qu z.1.1).trans (A2.qu z.1.2)).trans (A3.qu z.2)).gr gr
      · cases e : H p with
        | none => rfl
        | some o => exact absurd hp (post.th p (by rw [e]; simp))
  | _ => cases e
theorem unL_sl {a : E} {lo hi : Option E} : (fun env => (evE cl gl a env).bind fun x env => (evO cl gl lo env).bind fun l env => (evO cl gl hi env).bind fun h env => R.opt (cutN x l h) env) = unL (evE cl gl (.sl a lo hi)) := by
  funext env
  unfold unL
  show _ = R.bind ((evE cl gl a env).bind fun x env => (evO cl gl lo env).bind fun l env => (evO cl gl hi env).bind fun h env => R.opt (cutD x l h) env) _
  generalize evE cl gl a env = r
  cases r with
  | ok x env1 =>
    show R.bind (evO cl gl lo env1) _ = R.bind (R.bind (evO cl gl lo env1) _) _
    generalize evO cl gl lo env1 = r
    cases r with
    | ok y env2 =>
      show R.bind (evO cl gl hi env2) _ = R.bind (R.bind (evO cl gl hi env2) _) _
      generalize evO cl gl hi env2 = r
      cases r with
      | ok z env3 => cases x <;> rfl
      | exc c ds s => rfl
      | err => rfl
    | exc c ds s => rfl
    | err => rfl
  | exc c ds s => rfl
  | err => rfl
end
end MP

set_option maxHeartbeats 4000000
namespace MP
open PySem PySem.Spec PyProof.Rows L2
section
variable {X : Cx} {s : Sta} {cl : Call} {gl : List D} {k n : Nat}
theorem SE.ofN {c : E} {e : Expr} {ev : Env → R Env (List D)} (hN : PE X e (RdN X.K (quE c) ev)) (hv : vwE c = false) (hev : evE cl gl c = fun env => (ev env).bind fun xs env => .ok (.list xs) env) (he : ∀ whole, isTrue e X.env whole = (do let v ← whole; standAt e.pos; holding [v] (truthy v))) (hb : isBO e = false) : SE X cl gl c e := by
  have pe : PE X e (RdE X.K (vwE c) (quE c) (evE cl gl c)) := by
    rw [hv, hev]
    exact me_ofN hN
  refine ⟨pe, fun _ => mt_val pe he, fun h => absurd (hb ▸ h) Bool.false_ne_true, fun _ => ?_⟩
  rw [hev, unL_list]
  exact hN
/-- a test is computed by its own road -/
theorem SE.tst {c : E} {e : Expr} (pe : PE X e (RdE X.K (vwE c) (quE c) (evE cl gl c))) (pt : tstE c = true → PT X e (RdT X.K (quE c) (evE cl gl c))) (hb : isBO e = false) (hf : fresh c = false) : SE X cl gl c e :=
  ⟨pe, pt, fun h => absurd (hb ▸ h) Bool.false_ne_true, fun h => absurd (hf ▸ h) Bool.false_ne_true⟩
theorem snd_and {a b : E} {x y : Expr} {r : List Expr} {p : Pos} (S : Snd n s X cl gl) (h : (!vwE a && !vwE b && chkE s n a x && (match r with
    | [] => chkE s n b y
    | z :: r => chkE s n b (.BoolOp .And (y :: z :: r) p))) = true) : SE X cl gl (.and a b) (.BoolOp .And (x :: y :: r) p) := by
  simp only [Bool.and_eq_true, Bool.not_eq_true'] at h
  obtain ⟨⟨⟨h1, h2⟩, h3⟩, h4⟩ := h
  have Sa := S.e a x h3
  have pa := Sa.pe
  rw [h1] at pa
  have key : PE X (.BoolOp .And (y :: r) p) (RdE X.K false (quE b) (evE cl gl b)) ∧ (tstE b = true → PW X (.BoolOp .And (y :: r) p) (RdT X.K (quE b) (evE cl gl b))) := by
    cases r with
    | nil =>
      have Sb := S.e b y h4
      have pb := Sb.pe
      rw [h2] at pb
      exact ⟨me_one pb, fun z => mw_one (Sb.pt z)⟩
    | cons z r =>
      have Sb := S.e b _ h4
      have pb := Sb.pe
      rw [h2] at pb
      exact ⟨pb, fun z => Sb.pw rfl z⟩
  have pw : tstE (.and a b) = true → PW X (.BoolOp .And (x :: y :: r) p) (RdT X.K (quE (.and a b)) (evE cl gl (.and a b))) := fun z => by
    simp only [tstE, Bool.and_eq_true] at z
    exact mw_and (Sa.pt z.1) (key.2 z.2)
  exact ⟨me_and ⟨rfl, rfl⟩ pa key.1, fun z => (pw z).pt, fun _ z => pw z, fun z => (nomatch z)⟩
theorem snd_or {a b : E} {x y : Expr} {r : List Expr} {p : Pos} (S : Snd n s X cl gl) (h : (!vwE a && !vwE b && chkE s n a x && (match r with
    | [] => chkE s n b y
    | z :: r => chkE s n b (.BoolOp .Or (y :: z :: r) p))) = true) : SE X cl gl (.or a b) (.BoolOp .Or (x :: y :: r) p) := by
  simp only [Bool.and_eq_true, Bool.not_eq_true'] at h
  obtain ⟨⟨⟨h1, h2⟩, h3⟩, h4⟩ := h
  have Sa := S.e a x h3
  have pa := Sa.pe
  rw [h1] at pa
  have key : PE X (.BoolOp .Or (y :: r) p) (RdE X.K false (quE b) (evE cl gl b)) ∧ (tstE b = true → PW X (.BoolOp .Or (y :: r) p) (RdT X.K (quE b) (evE cl gl b))) := by
    cases r with
    | nil =>
      have Sb := S.e b y h4
      have pb := Sb.pe
      rw [h2] at pb
      exact ⟨me_one pb, fun z => mw_one (Sb.pt z)⟩
    | cons z r =>
      have Sb := S.e b _ h4
      have pb := Sb.pe
      rw [h2] at pb
      exact ⟨pb, fun z => Sb.pw rfl z⟩
  have pw : tstE (.or a b) = true → PW X (.BoolOp .Or (x :: y :: r) p) (RdT X.K (quE (.or a b)) (evE cl gl (.or a b))) := fun z => by
    simp only [tstE, Bool.and_eq_true] at z
    exact mw_or (Sa.pt z.1) (key.2 z.2)
  exact ⟨me_or ⟨rfl, rfl⟩ pa key.1, fun z => (pw z).pt, fun _ z => pw z, fun z => (nomatch z)⟩
theorem isT_call {f : Expr} {as : List Expr} {kws : List Keyword} {pos : Pos} {env : PySem.Env} : ∀ whole, isTrue (.Call f as kws pos) env whole = (do let v ← whole; standAt (Expr.Call f as kws pos).pos; holding [v] (truthy v)) := fun _ => rfl
theorem snd_call (C : Cxt X s cl gl k) (S : Snd n s X cl gl) {f : Nat} {es : List E} {x : Str} {xs : List Expr} {kws : List Keyword} {p pos : Pos} {y : Str} {ps : List Str} (hg : gloN s x = true) (ho : handsOk es = true) (hf : s.fns[f]? = some (y, ps)) (hy : y = x)
    (h : (match kws with
      | [] => xs.all notStar && chkA s n es xs
      | kws => decide (xs = []) && decide (kws.map kwName = ps.map some) && decide (es.length = ps.length) && chkA s n es (kws.map kwVal)) = true) :
    PE X (.Call (.Name x p) xs kws pos) (RdE X.K false false (evCall es (cl f) (evAs cl gl es))) ∧ PE X (.Call (.Name x p) xs kws pos) (RdF X.K false (evCallT es (cl f) (evAs cl gl es))) := by
  subst hy
  obtain ⟨g1, g2⟩ := C.glob hg
  have F := C.fns f _ ps hf
  cases kws with
  | nil =>
    simp only [Bool.and_eq_true] at h
    cases xs with
    | nil =>
      cases n with
      | zero => exact absurd h.2 (by simp [chkA])
      | succ n =>
        cases es with
        | nil => exact ⟨me_call0 F C.room g1 g2, mf_call0 F C.room g1 g2⟩
        | cons c cs => exact absurd h.2 (by cases c <;> simp [chkA])
    | cons e xs =>
      have h1 := h.1
      simp only [List.all_cons, Bool.and_eq_true] at h1
      have PAa := S.a es (e :: xs) h.2
      exact ⟨me_call F C.room g1 g2 h1.1 h1.2 ho PAa, mf_call F C.room g1 g2 h1.1 h1.2 ho PAa⟩
  | cons kw kws =>
    simp only [Bool.and_eq_true, decide_eq_true_eq] at h
    obtain ⟨⟨⟨h1, h2⟩, h3⟩, h4⟩ := h
    subst h1
    have PKa := S.k es (kw :: kws) h4
    exact ⟨me_callk F C.room g1 g2 h2 h3 ho PKa, mf_callk F C.room g1 g2 h2 h3 ho PKa⟩
theorem foldOk {iter : Expr} {env : PySem.Env} (h : noFold iter = true) : ∀ x, foldedSetIterable iter env x = pure x := fun x => by
  cases iter <;> first | rfl | cases h
theorem wk_ok {s s2 : Sta} {n : Nat} {kk : IK} {its : List E} {js : List Nat} {tg e : Expr} (h : chkI s n kk its tg e = true) (h2 : chkTg s2 js tg = true) : wkI kk = true → js.length ≠ 1 := fun hw hl => by
  have tt : ∃ es k p, tg = .Tuple es k p := by
    cases n with
    | zero => cases h
    | succ n =>
      cases kk with
      | any => cases hw
      | rng => cases hw
      | enum =>
        match its, h with
        | [a], h =>
          simp only [chkI] at h
          split at h
          · exact ⟨_, _, _, rfl⟩
          · cases h
        | [], h => simp [chkI] at h
        | _ :: _ :: _, h => simp [chkI] at h
      | zip =>
        match its, h with
        | [a, b], h =>
          simp only [chkI] at h
          split at h
          · exact ⟨_, _, _, rfl⟩
          · cases h
        | [], h => simp [chkI] at h
        | [_], h => simp [chkI] at h
        | _ :: _ :: _ :: _, h => simp [chkI] at h
  obtain ⟨es, k, p, rfl⟩ := tt
  match js, hl, h2 with
  | [j], _, h2 => cases h2
/-- a comprehension, as a new list -/
theorem snd_comp (C : Cxt X s cl gl k) (S : Snd n s X cl gl) (Sb : ∀ (scope : Scope) (s' : Shared) (H : Hp) (Ca : Addr) (cs : List (Str × Addr)) (fp : List Addr), Snd n (inner s scope) (X.blk s' H scope (compEnvC scope cs Ca X.env) fp) cl gl)
    {js : List Nat} {kk : IK} {it cs : List E} {el : E} {elt tg iter : Expr} {ifs : List Expr} {scope : Scope}
    (h : (noFold iter && decide ((ownOf s.N js).map (·.2) = js) && blkC s.N s.sc scope (ownOf s.N js) && !vwE el && chkI s n kk it tg iter && chkTg (inner s scope) js tg && chkC (inner s scope) n cs ifs && chkE (inner s scope) n el elt) = true) :
    (ownOf s.N js).map (·.2) = js ∧ BlkOk X.N X.env.scope scope (ownOf s.N js) ∧ (wkI kk = true → js.length ≠ 1) ∧ PI X tg iter (RdI X.K (wkI kk) (quI it) (evI cl gl kk it)) ∧ (∀ x, foldedSetIterable iter X.env x = pure x) ∧
    (∀ (s' : Shared) (H : Hp) (Ca : Addr) (cc : List (Str × Addr)) (fp : List Addr), PG (X.blk s' H scope (compEnvC scope cc Ca X.env) fp) tg (gT X.K js)) ∧
    (∀ (s' : Shared) (H : Hp) (Ca : Addr) (cc : List (Str × Addr)) (fp : List Addr), PTs (X.blk s' H scope (compEnvC scope cc Ca X.env) fp) ifs (RdB X.K (quC cs) (evCs cl gl cs))) ∧
    (∀ (s' : Shared) (H : Hp) (Ca : Addr) (cc : List (Str × Addr)) (fp : List Addr), PE (X.blk s' H scope (compEnvC scope cc Ca X.env) fp) elt (RdE X.K false (quE el) (evE cl gl el))) := by
  simp only [Bool.and_eq_true, Bool.not_eq_true', decide_eq_true_eq] at h
  obtain ⟨⟨⟨⟨⟨⟨⟨h1, h2⟩, h3⟩, h4⟩, h5⟩, h6⟩, h7⟩, h8⟩ := h
  refine ⟨h2, ?_, wk_ok h5 h6, S.i kk it tg iter h5, foldOk h1, fun s' H Ca cc fp => tg_ok (C.blk s' H scope Ca cc fp) h6, fun s' H Ca cc fp => (Sb scope s' H Ca cc fp).c cs ifs h7, fun s' H Ca cc fp => ?_⟩
  · rw [C.N, C.sc]
    exact blkOk_by h3
  · have := ((Sb scope s' H Ca cc fp).e el elt h8).pe
    rw [h4] at this
    exact this
theorem path_shape {i : Nat} {ks : List E} {e : Expr} (h : chkP s i n ks e = true) : (∀ whole, isTrue e X.env whole = (do let v ← whole; standAt e.pos; holding [v] (truthy v))) ∧ isBO e = false := by
  cases n with
  | zero => cases h
  | succ n =>
    cases e with
    | Name x p => exact ⟨fun _ => rfl, rfl⟩
    | Subscript a b p => exact ⟨fun _ => rfl, rfl⟩
    | _ => cases ks <;> simp [chkP] at h
theorem unL_list1 {a : E} : (fun env => (evE cl gl a env).bind fun y env => R.opt (items? y) env) = unL (evE cl gl (.b1 .list a)) := by
  funext env
  unfold unL
  show R.bind (evE cl gl a env) _ = R.bind (R.bind (evE cl gl a env) _) _
  generalize evE cl gl a env = r
  cases r with
  | ok y env1 => cases y <;> rfl
  | exc c ds s => rfl
  | err => rfl
theorem opt_list (r : R Env D) (g : D → Option (List D)) : (r.bind fun x env => R.opt ((g x).map PyData.list) env) = (r.bind fun x env => R.opt (g x) env).bind fun xs env => R.ok (PyData.list xs) env := by
  cases r with
  | ok x env =>
    show R.opt ((g x).map PyData.list) env = R.bind (R.opt (g x) env) _
    cases g x <;> rfl
  | exc c ds s => rfl
  | err => rfl
theorem opt_list2 (r : R Env D) (r2 : Env → R Env D) (g : D → D → Option (List D)) : (r.bind fun x env => (r2 env).bind fun y env => R.opt ((g x y).map PyData.list) env) = (r.bind fun x env => (r2 env).bind fun y env => R.opt (g x y) env).bind fun xs env => R.ok (PyData.list xs) env := by
  cases r with
  | ok x env =>
    show R.bind (r2 env) _ = R.bind (R.bind (r2 env) _) _
    cases r2 env with
    | ok y env2 =>
      show R.opt ((g x y).map PyData.list) env2 = R.bind (R.opt (g x y) env2) _
      cases g x y <;> rfl
    | exc c ds s => rfl
    | err => rfl
  | exc c ds s => rfl
  | err => rfl
theorem snd_e (C : Cxt X s cl gl k) (S : Snd n s X cl gl) (Sb : ∀ (scope : Scope) (s' : Shared) (H : Hp) (Ca : Addr) (cs : List (Str × Addr)) (fp : List Addr), Snd n (inner s scope) (X.blk s' H scope (compEnvC scope cs Ca X.env) fp) cl gl) :
    ∀ c e, chkE s (n + 1) c e = true → SE X cl gl c e := by
  intro c e0 h
  have hu : X.A.units + 64 < cLine := C.room.units
  cases c with
  | var i =>
    simp only [chkE] at h
    split at h
    · obtain ⟨h1, h2, h3, h4⟩ := C.name h
      exact .of (me_var rfl h1 h2 h3 h4) (fun _ => rfl) rfl rfl
    · cases h
  | con d =>
    simp only [chkE] at h
    split at h
    · rename_i c j p
      have pe : PE X (.Constant c j p) (RdE X.K false true fun env => .ok d env) := by
        unfold conB at h
        split at h
        · exact me_con pe_non fun _ => .non
        · have : _ = _ := eq_of_beq h
          subst this
          exact me_con pe_bl fun _ => .bl _
        · have := of_decide_eq_true h
          subst this
          exact me_con pe_int fun _ => .int _
        · simp only [Bool.and_eq_true, decide_eq_true_eq] at h
          obtain ⟨h1, h2⟩ := h
          subst h1
          exact me_con pe_str fun _ => .str h2
        · cases h
      exact .of pe (fun _ => rfl) rfl rfl
    · cases h
  | glob j =>
    simp only [chkE] at h
    split at h
    · simp only [Bool.and_eq_true, decide_eq_true_eq] at h
      obtain ⟨g1, g2⟩ := C.glob h.1
      obtain ⟨v, u, d, k1, k2, k3, k4⟩ := C.gls j _ h.2
      have pe := me_con (x := d) (pe_glob (pos := ‹Pos›) g1 k1 k2 g2) k4
      have e : evE cl gl (.glob j) = fun env => .ok d env := by
        funext env
        show R.opt gl[j]? env = _
        rw [k3]; rfl
      refine .of ?_ (fun _ => rfl) rfl rfl
      rw [e]
      exact pe
    · cases h
  | tup es =>
    simp only [chkE] at h
    split at h
    · exact .of (me_tup (S.es es _ h)) (fun _ => rfl) rfl rfl
    · cases h
  | lst es =>
    simp only [chkE] at h
    split at h
    · refine .ofN (mn_lst (S.es es _ h)) rfl ?_ (fun _ => rfl) rfl
      funext env
      show R.bind (evEs cl gl es env) _ = R.bind (R.bind (evEs cl gl es env) _) _
      generalize evEs cl gl es env = r
      cases r with
      | ok xs env1 =>
        show (if fits xs.length = true then R.ok (PyData.list xs) env1 else .err) = R.bind (if fits xs.length = true then R.ok xs env1 else .err) _
        split <;> rfl
      | exc c ds s => rfl
      | err => rfl
    · cases h
  | bin o a b =>
    simp only [chkE] at h
    split at h
    · simp only [Bool.and_eq_true, decide_eq_true_eq] at h
      obtain ⟨⟨⟨h1, h2⟩, h3⟩, h4⟩ := h
      have pa := (S.e a _ h3).pe
      have pb := (S.e b _ h4).pe
      have pe := me_bin (pos := ‹Pos›) h1 (vq h2) pa pb
      refine ⟨pe, fun _ => mt_val pe fun _ => rfl, fun z => (nomatch z), fun hf => ?_⟩
      cases o with
      | add =>
        subst h1
        have := mn_bin (pos := ‹Pos›) dop_catN (vq h2) pa pb
        rw [unL_bin catN_eq] at this
        exact this
      | mul =>
        subst h1
        have := mn_bin (pos := ‹Pos›) dop_repN (vq h2) pa pb
        rw [unL_bin repN_eq] at this
        exact this
      | _ => cases hf
    · cases h
  | neg a =>
    simp only [chkE] at h
    split at h
    · exact .of (me_neg (S.e a _ h).pe) (fun _ => rfl) rfl rfl
    · cases h
  | cmp a o b =>
    simp only [chkE] at h
    split at h
    · simp only [Bool.and_eq_true, decide_eq_true_eq, Bool.not_eq_true'] at h
      obtain ⟨⟨⟨⟨h1, h0⟩, h2⟩, h3⟩, h4⟩ := h
      have pa := (S.e a _ h3).pe
      have pb := (S.e b _ h4).pe
      exact .tst (me_cmp h1 hu h0 (vq h2) pa pb) (fun _ => mt_cmp h1 hu h0 (vq h2) pa pb) rfl rfl
    · cases h
  | cmp2 a o b o2 c =>
    simp only [chkE] at h
    split at h
    · simp only [Bool.and_eq_true, decide_eq_true_eq, Bool.not_eq_true', Bool.or_eq_true] at h
      obtain ⟨⟨⟨⟨⟨⟨h1, h1'⟩, h0⟩, h2⟩, h3⟩, h4⟩, h5⟩ := h
      have pa := (S.e a _ h3).pe
      have pb := (S.e b _ h4).pe
      have pc := (S.e c _ h5).pe
      subst h1
      subst h1'
      have hq : (quE a && quE b && quE c) = true ∨ (vwE a = false ∧ vwE b = false) := by
        rcases h2 with z | z
        · exact .inl (by simp [z.1.1, z.1.2, z.2])
        · exact .inr z
      exact .tst (me_cmp2 hu h0 hq pa pb pc) (fun _ => mt_cmp2 hu h0 hq pa pb pc) rfl rfl
    · cases h
  | isN a =>
    simp only [chkE] at h
    split at h
    · exact .tst (me_isN (S.e a _ h).pe) (fun _ => mt_isN (S.e a _ h).pe) rfl rfl
    · cases h
  | notN a =>
    simp only [chkE] at h
    split at h
    · exact .tst (me_notN (S.e a _ h).pe) (fun _ => mt_notN (S.e a _ h).pe) rfl rfl
    · cases h
  | and a b =>
    simp only [chkE] at h
    split at h
    · exact snd_and S h
    · cases h
  | or a b =>
    simp only [chkE] at h
    split at h
    · exact snd_or S h
    · cases h
  | not a =>
    simp only [chkE] at h
    split at h
    · have Sa := S.e a _ h
      exact .tst (me_not Sa.pe) (fun z => mt_not (Sa.pt z)) rfl rfl
    · cases h
  | ife c a b =>
    simp only [chkE] at h
    split at h
    · simp only [Bool.and_eq_true, Bool.not_eq_true'] at h
      obtain ⟨⟨⟨⟨⟨h1, h2⟩, h3⟩, h4⟩, h5⟩, h6⟩ := h
      have pa := (S.e a _ h5).pe
      have pb := (S.e b _ h6).pe
      rw [h1] at pa
      rw [h2] at pb
      exact .tst (me_ife ⟨rfl, rfl⟩ ((S.e c _ h4).pt h3) pa pb) (fun z => (nomatch z)) rfl rfl
    · cases h
  | ix a b =>
    simp only [chkE] at h
    split at h
    · simp only [Bool.and_eq_true, Bool.not_eq_true'] at h
      obtain ⟨⟨⟨⟨h1, h2⟩, h3⟩, h4⟩, h5⟩ := h
      exact .of (me_ix h1 (vq h2) (S.e a _ h4).pe (S.e b _ h5).pe) (fun _ => rfl) rfl rfl
    · cases h
  | sl a lo hi =>
    simp only [chkE] at h
    split at h
    · simp only [Bool.and_eq_true] at h
      obtain ⟨⟨⟨h1, h2⟩, h3⟩, h4⟩ := h
      have hv : vwE a = true → (quO lo && quO hi) = true := fun z => by
        rw [z] at h1
        simpa using h1
      have pa := (S.e a _ h2).pe
      have pl := S.o lo _ h3
      have ph := S.o hi _ h4
      have pe := me_sl (pos := ‹Pos›) (p2 := ‹Pos›) hv pa pl ph
      refine ⟨me_sl hv pa pl ph, fun _ => mt_val (me_sl hv pa pl ph) fun _ => rfl, fun z => (nomatch z), fun _ => ?_⟩
      rw [← unL_sl]
      exact mn_sl hv pa pl ph
    · cases h
  | sls a lo hi kk =>
    simp only [chkE] at h
    split at h
    · simp only [Bool.and_eq_true, Bool.not_eq_true'] at h
      obtain ⟨⟨⟨⟨⟨h1, h0⟩, h2⟩, h3⟩, h4⟩, h5⟩ := h
      have hv : vwE a = true → (quO lo && quO hi && quE kk) = true := fun z => by
        rw [z] at h1
        simpa using h1
      have pk := (S.e kk _ h5).pe
      rw [h0] at pk
      exact .of (me_step hv (S.e a _ h2).pe (S.o lo _ h3) (S.o hi _ h4) pk) (fun _ => rfl) rfl rfl
    · cases h
  | b2 b a c =>
    simp only [chkE] at h
    split at h
    · simp only [Bool.and_eq_true, decide_eq_true_eq, Bool.not_eq_true'] at h
      obtain ⟨⟨⟨⟨⟨⟨⟨h1, h2⟩, h3⟩, h4⟩, h5⟩, h6⟩, h7⟩, h8⟩ := h
      subst h1
      have pa := (S.e a _ h7).pe
      have pc := (S.e c _ h8).pe
      rw [h5] at pa
      rw [h6] at pc
      refine .of (pe_imp (me_index h2 h3 h4 pa pc) fun σ H Q h => ?_) (fun _ => rfl) rfl rfl
      obtain ⟨F, env, as, rel, got⟩ := h
      refine ⟨F, env, as, rel, ?_⟩
      have got : GotK ((evE cl gl a env).bind fun x env => (evE cl gl c env).bind fun y env => R.opt (b2D .index x y) env) _ := got
      show GotK ((evE cl gl a env).bind _) _
      revert got
      generalize evE cl gl a env = r
      intro got
      cases r with
      | ok x env1 =>
        show GotK (R.bind (if (items? x).isSome = true then R.ok x env1 else .err) _) _
        have got : GotK ((evE cl gl c env1).bind fun y env => R.opt (b2D .index x y) env) _ := got
        have hx : (items? x).isSome = true := by
          have g := gotK_bind got
          obtain ⟨y, env2, _, g⟩ := gotK_some g
          obtain ⟨z, e, _⟩ := gotK_opt g
          cases x <;> first | rfl | cases e
        rw [if_pos hx]
        exact got
      | exc c ds s => exact got.elim
      | err => exact got.elim
    · simp only [Bool.and_eq_true, decide_eq_true_eq] at h
      obtain ⟨⟨⟨⟨⟨⟨⟨⟨h1, h2⟩, h3⟩, h3'⟩, h4⟩, h5⟩, h6⟩, h7⟩, h8⟩ := h
      subst h1
      subst h3
      subst h3'
      obtain ⟨g1, g2⟩ := C.blt h2
      obtain ⟨g3, g4⟩ := C.blt h4
      exact .ofN (mn_ssets C.calm hu g1 g2 g3 g4 h5 h6 (S.e a _ h7).pe (S.e c _ h8).pe) rfl (funext fun env => opt_list2 (evE cl gl a env) (evE cl gl c) _) (fun _ => rfl) rfl
    · simp only [Bool.and_eq_true, decide_eq_true_eq, Bool.not_eq_true'] at h
      obtain ⟨⟨⟨⟨⟨⟨⟨h1, h2⟩, h3⟩, h4⟩, h5⟩, h6⟩, h7⟩, h8⟩ := h
      subst h1
      have pa := (S.e a _ h7).pe
      have pc := (S.e c _ h8).pe
      rw [h5] at pa
      rw [h6] at pc
      obtain ⟨g1, g2⟩ := C.blt h2
      exact .of (me_two (g := b2D .min) (fun _ _ => rfl) (fun x y z e => by cases x <;> cases y <;> first | exact ⟨_, _, rfl, rfl⟩ | cases e) (call_min2 C.calm) (by decide +kernel) (by decide) (by decide) g1 g2 h3 h4 pa pc) (fun _ => rfl) rfl rfl
    · simp only [Bool.and_eq_true, decide_eq_true_eq, Bool.not_eq_true'] at h
      obtain ⟨⟨⟨⟨⟨⟨⟨h1, h2⟩, h3⟩, h4⟩, h5⟩, h6⟩, h7⟩, h8⟩ := h
      subst h1
      have pa := (S.e a _ h7).pe
      have pc := (S.e c _ h8).pe
      rw [h5] at pa
      rw [h6] at pc
      obtain ⟨g1, g2⟩ := C.blt h2
      exact .of (me_two (g := b2D .max) (fun _ _ => rfl) (fun x y z e => by cases x <;> cases y <;> first | exact ⟨_, _, rfl, rfl⟩ | cases e) (call_max2 C.calm) (by decide +kernel) (by decide) (by decide) g1 g2 h3 h4 pa pc) (fun _ => rfl) rfl rfl
    · cases h
  | isi a t =>
    simp only [chkE] at h
    split at h
    · simp only [Bool.and_eq_true, decide_eq_true_eq] at h
      obtain ⟨⟨⟨⟨⟨h1, h2⟩, h3⟩, h4⟩, h5⟩, h6⟩ := h
      subst h1
      obtain ⟨g1, g2⟩ := C.blt h2
      obtain ⟨g3, g4⟩ := C.blt h4
      exact .of (me_isi h3 g1 g2 g3 g4 h5 (S.e a _ h6).pe) (fun _ => rfl) rfl rfl
    · cases h
  | b1 b a =>
    simp only [chkE] at h
    split at h
    · simp only [Bool.and_eq_true, decide_eq_true_eq, Bool.not_eq_true'] at h
      obtain ⟨⟨⟨⟨h1, h2⟩, h3⟩, h4⟩, h5⟩ := h
      subst h1
      have pa := (S.e a _ h5).pe
      rw [h4] at pa
      exact .of (me_upper h2 h3 pa) (fun _ => rfl) rfl rfl
    · simp only [Bool.and_eq_true, decide_eq_true_eq] at h
      obtain ⟨⟨⟨⟨⟨h1, h2⟩, h3⟩, h4⟩, h5⟩, h6⟩ := h
      subst h1
      subst h3
      obtain ⟨g1, g2⟩ := C.blt h2
      obtain ⟨g3, g4⟩ := C.blt h4
      exact .ofN (mn_sset C.calm hu g1 g2 g3 g4 h5 (S.e a _ h6).pe) rfl (funext fun env => opt_list (evE cl gl a env) fun x => (items? x).bind setD) (fun _ => rfl) rfl
    · simp only [Bool.and_eq_true, decide_eq_true_eq] at h
      obtain ⟨⟨⟨h1, h2⟩, h3⟩, h4⟩ := h
      subst h1
      obtain ⟨g1, g2⟩ := C.blt h2
      refine .ofN (mn_callB r1n_sorted (cr_sortD hu) (by decide +kernel) (by decide) (by decide) g1 g2 h3 (S.e a _ h4).pe) rfl (funext fun env => ?_) (fun _ => rfl) rfl
      show ((evE cl gl a env).bind fun x env => R.opt (b1D .sorted x) env) = _
      rw [← opt_list]
      congr 1
      funext x env
      congr 1
      cases x with
      | list xs =>
        show (sortD xs).map PyData.list = ((((sortD xs).map PyData.list).bind fun y => items? y)).map PyData.list
        cases sortD xs <;> rfl
      | _ => rfl
    · split at h
      · simp only [Bool.and_eq_true, decide_eq_true_eq] at h
        obtain ⟨⟨⟨h1, h2⟩, h3⟩, h4⟩ := h
        rename_i hb1
        have M := fun p pos => mb1 (p := p) (pos := pos) C hb1 h1 h2 h3 (S.e a _ h4).pe
        refine ⟨(M _ _).1, fun _ => mt_val (M _ _).1 fun _ => rfl, fun z => (nomatch z), fun hf => ?_⟩
        have hl : b = .list := by cases b <;> first | rfl | (simp [fresh] at hf; done) | (simp [b1N] at hb1; done)
        subst hl
        rw [← unL_list1]
        exact (M _ _).2 rfl
      · cases h
    · cases h
  | call f es =>
    simp only [chkE] at h
    split at h
    · simp only [Bool.and_eq_true] at h
      obtain ⟨⟨h1, h2⟩, h3⟩ := h
      split at h3
      · simp only [Bool.and_eq_true, decide_eq_true_eq] at h3
        exact .of (snd_call C S h1 h2 (by assumption) h3.1 h3.2).1 (fun _ => rfl) rfl rfl
      · cases h3
    · cases h
  | peek i ks =>
    simp only [chkE] at h
    obtain ⟨t1, t2⟩ := path_shape (X := X) h
    exact .of (me_peek (S.p i ks e0 h)) t1 t2 rfl
  | view i ks =>
    simp only [chkE] at h
    obtain ⟨t1, t2⟩ := path_shape (X := X) h
    exact .of (me_view (S.p i ks e0 h)) t1 t2 rfl
  | comp js kk it cs el =>
    simp only [chkE] at h
    split at h
    · split at h
      · obtain ⟨h2, h3, hw, h4, h5, h6, h7, h8⟩ := snd_comp C S Sb h
        exact .ofN (mn_lc hw C.calm (by rw [C.N]; exact C.nd) h2 h4 h3 h6 h7 h8 h5) rfl rfl (fun _ => rfl) rfl
      · cases h
    · cases h
  | _ => simp [chkE] at h
end
/-- what the check passes is read as the core says -/
theorem snd (cl : Call) (gl : List D) (k : Nat) : ∀ (n : Nat) (s : Sta) (X : Cx), Cxt X s cl gl k → Snd n s X cl gl
  | 0, s, X, C => ⟨fun _ _ h => (nomatch h), fun _ _ h => (nomatch h), fun _ _ h => (nomatch h), fun _ _ h => (nomatch h), fun _ _ h => (nomatch h), fun _ _ _ h => (nomatch h), fun _ _ _ _ h => (nomatch h), fun _ _ h => (nomatch h)⟩
  | n + 1, s, X, C => by
    have S := snd cl gl k n s X C
    exact ⟨snd_e C S fun scope s' H Ca cs fp => snd cl gl k n (inner s scope) _ (C.blk s' H scope Ca cs fp), snd_es S, snd_o S, snd_a C S, snd_k C S, snd_p C S, snd_i C S, snd_c S⟩
end MP

set_option maxHeartbeats 4000000
namespace MP
open PySem PySem.Spec PyProof.Rows L2
/-! ### trees -/
mutual
def quT : E → Bool
  | .lst es => quTs es
  | .call _ _ => false
  | c => quE c
def quTs : List E → Bool
  | [] => true
  | .lst es :: r => quT (.lst es) && quTs r
  | c :: r => quE c && quTs r
end
mutual
def chkTr (s : Sta) : Nat → E → Expr → Bool
  | 0, _, _ => false
  | n + 1, c, e0 => (match c with
    | .lst es => (match e0 with
      | .List xs _ => chkTrs s n es xs
      | _ => false)
    | .call f es => (match e0 with
      | .Call (.Name x _) xs kws _ => gloN s x && handsOk es && (match s.fns[f]? with
        | some (y, ps) => decide (y = x) && (match kws with
          | [] => xs.all notStar && chkA s n es xs
          | kws => decide (xs = []) && decide (kws.map kwName = ps.map some) && decide (es.length = ps.length) && chkA s n es (kws.map kwVal))
        | none => false)
      | _ => false)
    | c => fresh c && chkE s n c e0)
def chkTrs (s : Sta) : Nat → List E → List Expr → Bool
  | 0, _, _ => false
  | n + 1, [], [] => true
  | n + 1, .lst es :: cs, e :: xs => notStar e && chkTr s n (.lst es) e && chkTrs s n cs xs
  | n + 1, c :: cs, e :: xs => notStar e && !vwE c && chkE s n c e && chkTrs s n cs xs
  | n + 1, _, _ => false
end
/-! ### statements -/
/-- the store is not exchanged with the comprehension's end -/
def notSw (s : Sta) (e : Expr) (t : Str) (p : Pos) : Bool := match e with
  | .ListComp _ _ sc pos => !(decide (kind s t = some .local) && p.line == pos.line && !(sc.names.any fun (n, k) => n == t && (k == .local || k == .cell)))
  | .SetComp _ _ _ _ => false
  | .DictComp _ _ _ _ _ => false
  | _ => true
/-- name = [..] on one line -/
def swOk (s : Sta) (n i : Nat) (c : E) (e : Expr) (t : Str) (p : Pos) : Bool := match c, e with
  | .comp js k it cs el, .ListComp elt [⟨tg, iter, ifs, 0⟩] scope pos => decide (s.N[i]? = some t) && decide (s.sc.kind = .function) && decide (kind s t = some .local) && p.line == pos.line && !(scope.names.any fun (n, k) => n == t && (k == .local || k == .cell)) &&
    (noFold iter && decide ((ownOf s.N js).map (·.2) = js) && blkC s.N s.sc scope (ownOf s.N js) && !vwE el && chkI s n k it tg iter && chkTg (inner s scope) js tg && chkC (inner s scope) n cs ifs && chkE (inner s scope) n el elt)
  | _, _ => false
def apartH (s : Sta) (js : List Nat) : Bool := js.all fun j => !(s.hs.contains j)
def notTup : Expr → Bool
  | .Tuple _ _ _ => false
  | _ => true
def noKeys : List E → Bool
  | [] => true
  | _ => false
mutual
def chkSt (s : Sta) : Nat → S → Stmt → Bool
  | 0, _, _ => false
  | n + 1, .asg i c, st => (match st with
    | .Assign [.Name x p] e pos => stN s i x && apartH s [i] && !vwE c && ((notSw s e x p && chkE s n c e) || swOk s n i c e x p)
    | _ => false)
  | n + 1, .mk i c, st => (match st with
    | .Assign [.Name x p] e pos => stN s i x && apartH s [i] && ((notSw s e x p && chkTr s n c e) || swOk s n i c e x p)
    | _ => false)
  | n + 1, .unp js c, st => (match st with
    | .Assign [.Tuple ts k p] e pos => chkTs s js ts && !(js.length == 1) && apartH s js && !vwE c && chkE s n c e && notTup e
    | _ => false)
  | n + 1, .app i ks c, st => (match st with
    | .Expr (.Call (.Attribute o m ap) [e] [] cp) pos => decide (m = ("append" : Str)) && (quE c || noKeys ks) && notStar e && notCall o && (ap.endLine == cp.line) && chkP s i n ks o && !vwE c && chkE s n c e
    | _ => false)
  | n + 1, .appT i ks c, st => (match st with
    | .Expr (.Call (.Attribute o m ap) [e] [] cp) pos => decide (m = ("append" : Str)) && (quT c || noKeys ks) && notStar e && notCall o && (ap.endLine == cp.line) && chkP s i n ks o && chkTr s n c e
    | _ => false)
  | n + 1, .ext i ks c, st => (match st with
    | .Expr (.Call (.Attribute o m ap) [e] [] cp) pos => decide (m = ("extend" : Str)) && (quE c || noKeys ks) && notStar e && notCall o && (ap.endLine == cp.line) && chkP s i n ks o && !vwE c && chkE s n c e
    | _ => false)
  | n + 1, .put i ks q c, st => (match st with
    | .Assign [.Subscript o y tp] e pos => (quE q || noKeys ks) && notSlice y && !vwE c && chkE s n c e && chkP s i n ks o && !vwE q && chkE s n q y
    | _ => false)
  | n + 1, .putT i ks q c, st => (match st with
    | .Assign [.Subscript o y tp] e pos => (quE q || noKeys ks) && notSlice y && chkTr s n c e && chkP s i n ks o && !vwE q && chkE s n q y
    | _ => false)
  | n + 1, .frz _, _ => false
  | n + 1, .ifs c a b, st => (match st with
    | .If t x y _ => tstE c && chkE s n c t && chkSs s n a x && chkSs s n b y
    | _ => false)
  | n + 1, .loop js k it b, st => (match st with
    | .For tg iter body [] _ => chkI s n k it tg iter && chkTg s js tg && apartH s js && noFold iter && chkSs s n b body
    | _ => false)
  | n + 1, .whl c b, st => (match st with
    | .While t body [] _ => tstE c && chkE s n c t && chkSs s n b body
    | _ => false)
  | n + 1, .ret c, st => (match st with
    | .Return (some e) _ => !vwE c && chkE s n c e
    | .Return none _ => (match c with
      | .con .none => true
      | _ => false)
    | _ => false)
  | n + 1, .retO i, st => (match st with
    | .Return (some (.Name x _)) _ => rdN s i x && apartH s [i]
    | _ => false)
  | n + 1, .ex c, st => (match st with
    | .Expr e _ => !isComp e && chkE s n c e
    | _ => false)
  | n + 1, .pass, st => (match st with
    | .Pass _ => true
    | .Expr (.Constant (.str _) _ _) _ => true
    | _ => false)
  | n + 1, .brk, st => (match st with
    | .Break _ => true
    | _ => false)
  | n + 1, .cnt, st => (match st with
    | .Continue _ => true
    | _ => false)
  | n + 1, .tr b, st => (match st with
    | .Try body (_ :: _) [] [] _ => chkSs s n b body
    | _ => false)
def chkSs (s : Sta) : Nat → List S → List Stmt → Bool
  | 0, _, _ => false
  | n + 1, cs, es => (match cs with
    | [] => (match es with
      | [] => true
      | _ => false)
    | .frz _ :: cs => chkSs s n cs es
    | c :: cs => (match es with
      | e :: es => chkSt s n c e && chkSs s n cs es
      | _ => false))
end
end MP

set_option maxHeartbeats 4000000
namespace MP
open PySem PySem.Spec PyProof.Rows L2
section
variable {X : Cx} {s : Sta} {cl : Call} {gl : List D} {k : Nat}
theorem evT_fresh {c : E} (h : fresh c = true) (h1 : ∀ es, c ≠ .lst es) : evT cl gl c = fun env => (unL (evE cl gl c) env).bind fun xs env => .ok (.lst (xs.map .d)) env := by
  have key : ∀ env, (if fresh c = true then (evE cl gl c env).bind fun x env => (match x with
    | .list xs => .ok (.lst (xs.map .d)) env
    | _ => .err) else .err : R Env T) = (unL (evE cl gl c) env).bind fun xs env => .ok (.lst (xs.map .d)) env := fun env => by
    rw [if_pos h]
    unfold unL
    show _ = R.bind (R.bind (evE cl gl c env) _) _
    generalize evE cl gl c env = r
    cases r with
    | ok y env1 => cases y <;> rfl
    | exc c ds s => rfl
    | err => rfl
  funext env
  rw [← key]
  cases c <;> first | rfl | exact absurd rfl (h1 _) | (simp [fresh] at h)
theorem snd_tr (C : Cxt X s cl gl k) : ∀ n, (∀ c e, chkTr s n c e = true → PE X e (RdF X.K (quT c) (evT cl gl c))) ∧ (∀ cs es, chkTrs s n cs es = true → PA X es (RdTs X.K (quTs cs) (evTs cl gl cs)))
  | 0 => ⟨fun _ _ h => by simp [chkTr] at h, fun _ _ h => by simp [chkTrs] at h⟩
  | n + 1 => by
    have S := snd cl gl k n s X C
    obtain ⟨I1, I2⟩ := snd_tr C n
    refine ⟨fun c e0 h => ?_, fun cs es h => ?_⟩
    · have fr : ∀ c, (∀ es, c ≠ .lst es) → (∀ f es, c ≠ .call f es) → (fresh c && chkE s n c e0) = true → quT c = quE c → PE X e0 (RdF X.K (quT c) (evT cl gl c)) := fun c h1 h2 h hq => by
        simp only [Bool.and_eq_true] at h
        rw [evT_fresh h.1 h1, hq]
        exact mf_ofN ((S.e c e0 h.2).pn h.1)
      cases c with
      | lst es =>
        simp only [chkTr] at h
        split at h
        · exact mf_lst (I2 es _ h)
        · cases h
      | call f es =>
        simp only [chkTr] at h
        split at h
        · simp only [Bool.and_eq_true] at h
          obtain ⟨⟨h1, h2⟩, h3⟩ := h
          split at h3
          · simp only [Bool.and_eq_true, decide_eq_true_eq] at h3
            exact (snd_call C S h1 h2 (by assumption) h3.1 h3.2).2
          · cases h3
        · cases h
      | _ => exact fr _ (by intro es z; cases z) (by intro f es z; cases z) (by simpa only [chkTr] using h) rfl
    · match cs, es, h with
      | [], [], _ => exact mts_nil
      | [], _ :: _, h => simp [chkTrs] at h
      | c :: cs, [], h => cases c <;> simp [chkTrs] at h
      | c :: cs, e :: xs, h =>
        have d : ∀ c, (∀ es, c ≠ .lst es) → (notStar e && !vwE c && chkE s n c e && chkTrs s n cs xs) = true → evTs cl gl (c :: cs) = (fun env => (evE cl gl c env).bind fun x env => (evTs cl gl cs env).bind fun ts env => .ok (.d x :: ts) env) → quTs (c :: cs) = (quE c && quTs cs) → PA X (e :: xs) (RdTs X.K (quTs (c :: cs)) (evTs cl gl (c :: cs))) := fun c hn h he hq => by
          simp only [Bool.and_eq_true, Bool.not_eq_true'] at h
          have h1 := (S.e c e h.1.2).pe
          rw [h.1.1.2] at h1
          rw [he, hq]
          exact mts_d h.1.1.1 h1 (I2 cs xs h.2)
        cases c with
        | lst es =>
          simp only [chkTrs, Bool.and_eq_true] at h
          exact mts_t h.1.1 (I1 (.lst es) e h.1.2) (I2 cs xs h.2)
        | _ => exact d _ (by intro es z; cases z) (by simpa only [chkTrs] using h) rfl rfl
/-! ### name = e -/
theorem sw_false {e : Expr} {x : Str} {p : Pos} {l : Nat} (C : Cxt X s cl gl k) (h : notSw s e x p = true) : swapsWith e (some (.Name x p)) l X.env = pure false := by
  unfold notSw at h
  cases e with
  | ListComp elt gs sc pos =>
    simp only at h
    have e1 : swapsWith (.ListComp elt gs sc pos) (some (.Name x p)) l X.env = pure (X.env.blockKind == .function && X.env.kindOf x == some .local && p.line == pos.line && !(sc.names.any fun (n, k) => n == x && (k == .local || k == .cell))) := rfl
    rw [e1]
    have e2 : X.env.kindOf x = kind s x := by
      show X.env.scope.names.lookup x = _
      rw [C.sc]; rfl
    rw [e2]
    have e3 : (kind s x == some .local) = decide (kind s x = some .local) := by
      by_cases z : kind s x = some .local
      · rw [z]; rfl
      · rw [decide_eq_false z]
        exact beq_eq_false_iff_ne.mpr z
    rw [e3]
    generalize (X.env.blockKind == ScopeKind.function) = b
    cases b with
    | false => rfl
    | true =>
      simp only [Bool.not_eq_true'] at h
      rw [Bool.true_and, h]
  | SetComp elt gs sc pos => cases h
  | DictComp a b gs sc pos => cases h
  | _ => rfl
theorem set_of (C : Cxt X s cl gl k) {i : Nat} {e : Expr} {x : Str} {p pos : Pos} {te : TE} (h : stN s i x = true) (hsw : notSw s e x p = true) (he : PE X e te) : PS X (.Assign [.Name x p] e pos) (tAsg te (gName i)) := by
  obtain ⟨h1, h2, h3⟩ := C.store h
  exact ps_set (by rw [C.N]; exact C.nd) h1 h2 he (sw_false C hsw) h3
theorem setC_of (C : Cxt X s cl gl k) {n i : Nat} {c : E} {e : Expr} {x : Str} {p pos : Pos} (h : swOk s n i c e x p = true) : fresh c = true ∧ vwE c = false ∧ (∀ es, c ≠ .lst es) ∧ quT c = false ∧ quE c = false ∧ ∃ ev, evE cl gl c = (fun env => (ev env).bind fun xs env => .ok (.list xs) env) ∧ PS X (.Assign [.Name x p] e pos) (tAsg (RdN X.K false ev) (gName i)) := by
  unfold swOk at h
  split at h
  · rename_i js kk it cs el elt tg iter ifs scope cpos
    simp only [Bool.and_eq_true, decide_eq_true_eq, Bool.not_eq_true'] at h
    obtain ⟨⟨⟨⟨⟨h1, h2⟩, h3⟩, h4⟩, h5⟩, h6⟩ := h
    obtain ⟨k2, k3, kw, k4, k5, k6, k7, k8⟩ := snd_comp C (snd cl gl k n s X C) (fun scope s' H Ca cs fp => snd cl gl k n (inner s scope) _ (C.blk s' H scope Ca cs fp)) (by
      simp only [Bool.and_eq_true, decide_eq_true_eq, Bool.not_eq_true']
      exact h6)
    have hl : X.env.scope.names.lookup x = some .local := by rw [C.sc]; exact h3
    refine ⟨rfl, rfl, (by intro es z; cases z), rfl, rfl, _, rfl, ?_⟩
    refine ps_imp (ps_setLc C.calm (by rw [C.N]; exact C.nd) (by rw [C.N]; exact h1) hl (sw_true (by rw [C.sc]; exact h2) hl h4 h5) k4 k3 k6 k7 k8 k5) fun D σ H h => ?_
    refine (?_ : tLc _ _ _ _ _ σ H _)
    rw [k2]
    exact lcR kw h
  · cases h
theorem apart1 {js : List Nat} (h : apartH s js = true) : ∀ j ∈ js, j ∉ s.hs := fun j hj => by
  have := List.all_eq_true.mp h j hj
  simpa using this
theorem sole_sub {o y e : Expr} {tp : Pos} {l : Nat} {env : PySem.Env} : swapsWithSole [.Subscript o y tp] e l env = pure false := by
  show swapsWith e (some (.Subscript o y tp)) l env = pure false
  cases e <;> rfl
theorem sole_tup {ts : List Expr} {kk : Nat} {e : Expr} {tp : Pos} {l : Nat} {env : PySem.Env} : swapsWithSole [.Tuple ts kk tp] e l env = pure false := by
  show swapsWith e (some (.Tuple ts kk tp)) l env = pure false
  cases e <;> rfl
theorem swp_sub {o y e : Expr} {tp : Pos} {env : PySem.Env} : swappedStores [.Subscript o y tp] e env = pure none := rfl
theorem swp_tup {ts : List Expr} {kk : Nat} {e : Expr} {tp : Pos} {env : PySem.Env} (h : notTup e = true) : swappedStores [.Tuple ts kk tp] e env = pure none := by
  cases e <;> first | rfl | cases h
theorem drop_ok {e : Expr} {l : Nat} {env : PySem.Env} (h : isComp e = false) : swapsWith e none l env = pure false := by
  cases e <;> first | rfl | cases h
theorem pathOk {i : Nat} {ks : List E} {q : Bool} (h : (q || noKeys ks) = true) : PathOk i q (evP cl gl i ks) := by
  simp only [Bool.or_eq_true] at h
  rcases h with h | h
  · exact .inl h
  · cases ks with
    | nil => exact .inr rfl
    | cons a r => cases h
end
theorem Cxt.noxC {X : Cx} {s : Sta} {cl : Call} {gl : List D} {k : Nat} (C : Cxt X s cl gl k) : Cxt X.nox s cl gl k where
  N := C.N
  nd := C.nd
  sc := C.sc
  calm := C.calm
  room := C.room
  hp := PassesOwn.never
  fnv := C.fnv
  fns := fun j x ps h => ⟨(C.fns j x ps h).ex⟩
  gls := C.gls
  blts := C.blts
theorem snd_st (s : Sta) (cl : Call) (gl : List D) (k wh : Nat) : ∀ (n : Nat) (X : Cx), Cxt X s cl gl k → (∀ c st, chkSt s n c st = true → PS X st (RdS X.K s.hs (evS cl gl wh c))) ∧ (∀ cs sts, chkSs s n cs sts = true → PSs X sts (RdS X.K s.hs (evSs cl gl wh cs)))
  | 0, X, C => ⟨fun _ _ h => by simp [chkSt] at h, fun _ _ h => by simp [chkSs] at h⟩
  | n + 1, X, C => by
    have S := snd cl gl k n s X C
    obtain ⟨T1, T2⟩ := snd_tr C n
    obtain ⟨I1, I2⟩ := snd_st s cl gl k wh n X C
    have use : ∀ {c : E} {e : Expr}, vwE c = false → chkE s n c e = true → PE X e (RdE X.K false (quE c) (evE cl gl c)) := fun {c e} hv hc => by
      have := (S.e c e hc).pe
      rw [hv] at this
      exact this
    refine ⟨fun c st h => ?_, fun cs sts h => ?_⟩
    · cases c with
      | asg i c =>
        simp only [chkSt] at h
        split at h
        · simp only [Bool.and_eq_true, Bool.or_eq_true, Bool.not_eq_true'] at h
          obtain ⟨⟨⟨h1, h2⟩, h3⟩, h4⟩ := h
          have hi := apart1 h2 i (by simp)
          rcases h4 with h4 | h4
          · exact ms_asg hi (set_of C h1 h4.1 (use h3 h4.2))
          · obtain ⟨_, _, _, _, q, ev, e1, p1⟩ := setC_of (pos := ‹Pos›) C h4
            have := ms_asg (hs := s.hs) hi (ps_imp p1 fun D σ H h => ofN_E h)
            show PS _ _ (RdS X.K s.hs fun env => (evE cl gl c env).bind fun x env => .ok .nx (env.sto i x))
            rw [e1]
            exact this
        · cases h
      | mk i c =>
        simp only [chkSt] at h
        split at h
        · simp only [Bool.and_eq_true, Bool.or_eq_true] at h
          obtain ⟨⟨h1, h2⟩, h4⟩ := h
          have hi := apart1 h2 i (by simp)
          rcases h4 with h4 | h4
          · exact ms_mk hi (set_of C h1 h4.1 (T1 c _ h4.2))
          · obtain ⟨f1, _, f3, _, q, ev, e1, p1⟩ := setC_of (pos := ‹Pos›) C h4
            have := ms_mk (hs := s.hs) hi (ps_imp p1 fun D σ H h => ofN_F h)
            have e2 : evT cl gl c = fun env => (ev env).bind fun xs env => .ok (.lst (xs.map .d)) env := by
              rw [evT_fresh f1 f3, e1, unL_list]
            show PS _ _ (RdS X.K s.hs fun env => (evT cl gl c env).bind fun t env => .ok .nx (env.set i (.own t)))
            rw [e2]
            exact this
        · cases h
      | unp js c =>
        simp only [chkSt] at h
        split at h
        · simp only [Bool.and_eq_true, Bool.not_eq_true'] at h
          obtain ⟨⟨⟨⟨⟨h1, h2⟩, h3⟩, h4⟩, h5⟩, h6⟩ := h
          have hl : js.length ≠ 1 := by simpa using h2
          exact ms_unp (apart1 h3) hl (tg_ok C (by
            match js, hl, h1 with
            | [], _, h1 => exact h1
            | [_], hl, _ => exact absurd rfl hl
            | a :: b :: r, _, h1 => exact h1)) (use h4 h5) sole_tup (swp_tup h6) rfl
        · cases h
      | app i ks c =>
        simp only [chkSt] at h
        split at h
        · simp only [Bool.and_eq_true, decide_eq_true_eq, Bool.not_eq_true'] at h
          obtain ⟨⟨⟨⟨⟨⟨⟨h1, h2⟩, h3⟩, h4⟩, h5⟩, h6⟩, h7⟩, h8⟩ := h
          subst h1
          exact ms_app (pathOk h2) h3 h4 h5 (S.p i ks _ h6) (use h7 h8)
        · cases h
      | appT i ks c =>
        simp only [chkSt] at h
        split at h
        · simp only [Bool.and_eq_true, decide_eq_true_eq] at h
          obtain ⟨⟨⟨⟨⟨⟨h1, h2⟩, h3⟩, h4⟩, h5⟩, h6⟩, h7⟩ := h
          subst h1
          exact ms_appT (pathOk h2) h3 h4 h5 (S.p i ks _ h6) (T1 c _ h7)
        · cases h
      | ext i ks c =>
        simp only [chkSt] at h
        split at h
        · simp only [Bool.and_eq_true, decide_eq_true_eq, Bool.not_eq_true'] at h
          obtain ⟨⟨⟨⟨⟨⟨⟨h1, h2⟩, h3⟩, h4⟩, h5⟩, h6⟩, h7⟩, h8⟩ := h
          subst h1
          exact ms_ext (pathOk h2) h3 h4 h5 (S.p i ks _ h6) (use h7 h8)
        · cases h
      | put i ks q c =>
        simp only [chkSt] at h
        split at h
        · simp only [Bool.and_eq_true, Bool.not_eq_true'] at h
          obtain ⟨⟨⟨⟨⟨⟨h1, h2⟩, h3⟩, h4⟩, h5⟩, h6⟩, h7⟩ := h
          exact ms_put (pathOk h1) h2 (use h3 h4) (S.p i ks _ h5) (use h6 h7) sole_sub swp_sub
        · cases h
      | putT i ks q c =>
        simp only [chkSt] at h
        split at h
        · simp only [Bool.and_eq_true, Bool.not_eq_true'] at h
          obtain ⟨⟨⟨⟨⟨h1, h2⟩, h3⟩, h5⟩, h6⟩, h7⟩ := h
          exact ms_putT (pathOk h1) h2 (T1 c _ h3) (S.p i ks _ h5) (use h6 h7) sole_sub swp_sub
        · cases h
      | frz i => simp [chkSt] at h
      | ifs c a b =>
        simp only [chkSt] at h
        split at h
        · simp only [Bool.and_eq_true] at h
          obtain ⟨⟨⟨h1, h2⟩, h3⟩, h4⟩ := h
          exact ms_if ((S.e c _ h2).pt h1) (I2 a _ h3) (I2 b _ h4)
        · cases h
      | loop js kk it b =>
        simp only [chkSt] at h
        split at h
        · simp only [Bool.and_eq_true] at h
          obtain ⟨⟨⟨⟨h1, h2⟩, h3⟩, h4⟩, h5⟩ := h
          exact ms_for (wk_ok h1 h2) (apart1 h3) C.hp C.calm (S.i kk it _ _ h1) (tg_ok C h2) (I2 b _ h5) (foldOk h4)
        · cases h
      | whl c b =>
        simp only [chkSt] at h
        split at h
        · simp only [Bool.and_eq_true] at h
          obtain ⟨⟨h1, h2⟩, h3⟩ := h
          exact ms_while C.hp ((S.e c _ h2).pt h1) (I2 b _ h3)
        · cases h
      | ret c =>
        simp only [chkSt] at h
        split at h
        · simp only [Bool.and_eq_true, Bool.not_eq_true'] at h
          exact ms_ret (use h.1 h.2)
        · split at h
          · exact ms_retN
          · cases h
        · cases h
      | retO i =>
        simp only [chkSt] at h
        split at h
        · simp only [Bool.and_eq_true] at h
          obtain ⟨h1, h2, h3, h4⟩ := C.name h.1
          exact ms_retO (apart1 h.2 i (by simp)) h1 h2 h3 h4
        · cases h
      | ex c =>
        simp only [chkSt] at h
        split at h
        · simp only [Bool.and_eq_true, Bool.not_eq_true'] at h
          exact ms_expr (S.e c _ h.2).pe (drop_ok h.1)
        · cases h
      | pass =>
        simp only [chkSt] at h
        split at h
        · exact ms_pass
        · exact ms_doc
        · cases h
      | brk =>
        simp only [chkSt] at h
        split at h
        · exact ms_break
        · cases h
      | cnt =>
        simp only [chkSt] at h
        split at h
        · exact ms_cont
        · cases h
      | tr b =>
        simp only [chkSt] at h
        split at h
        · exact ps_try_thru0 ((snd_st s cl gl k wh n X.nox C.noxC).2 b _ h)
        · cases h
    · cases cs with
      | nil =>
        simp only [chkSs] at h
        split at h
        · exact mss_nil
        · cases h
      | cons c cs =>
        cases c with
        | frz i => exact mss_frz (I2 cs sts (by simpa only [chkSs] using h))
        | _ =>
          cases sts with
          | nil => simp [chkSs] at h
          | cons e es =>
            simp only [chkSs, Bool.and_eq_true] at h
            exact mss_cons (I1 _ _ h.1) (I2 cs _ h.2)
end MP

set_option maxHeartbeats 4000000
namespace MP
open PySem PySem.Spec PyProof.Rows L2
def hsOf : List Bool → Nat → List Nat
  | [], _ => []
  | true :: hs, i => i :: hsOf hs (i + 1)
  | false :: hs, i => hsOf hs (i + 1)
theorem start_len : ∀ (args : List Arg), (startEnv args).length = args.length
  | [] => rfl
  | .d _ :: as => by simp [startEnv, start_len as]
  | .o _ :: as => by simp [startEnv, start_len as]
theorem argsOk_len : ∀ {hs : List Bool} {as : List Arg}, argsOk hs as = true → as.length = hs.length
  | [], [], _ => rfl
  | [], _ :: _, h => by simp [argsOk] at h
  | _ :: _, [], h => by simp [argsOk] at h
  | true :: hs, .o _ :: as, h => by simp only [argsOk] at h; simp [argsOk_len h]
  | true :: hs, .d _ :: as, h => by simp [argsOk] at h
  | false :: hs, .d _ :: as, h => by simp only [argsOk] at h; simp [argsOk_len h]
  | false :: hs, .o _ :: as, h => by simp [argsOk] at h
theorem adE_none : ∀ {n : Nat}, adE (List.replicate n none) = []
  | 0 => rfl
  | n + 1 => by rw [List.replicate_succ]; exact adE_none
theorem adE_app : ∀ {a b : AEnv}, adE (a ++ b) = adE a ++ adE b
  | [], b => rfl
  | none :: a, b => by simp only [List.cons_append, adE]; exact adE_app
  | some x :: a, b => by simp only [List.cons_append, adE, adE_app, List.append_assoc]
theorem slots_pad {K : Kf} {F H : Hp} {σ : L2.St} {env : Env} {as : AEnv} (r : Slots K F H σ env as) (n : Nat) : Slots K F H (σ ++ List.replicate n none) (env ++ List.replicate n .no) (as ++ List.replicate n none) := by
  induction r with
  | nil =>
    induction n with
    | zero => exact .nil
    | succ n ih =>
      simp only [List.nil_append, List.replicate_succ] at ih ⊢
      exact .cons trivial ih
  | cons h _ ih => exact .cons h ih
/-- the trees of the parameters that are handed -/
theorem out_pick {K : Kf} {F0 H0 F H : Hp} {σ : L2.St} {env : Env} {as : AEnv} (rel : Rel K F H σ env as) : ∀ {hands : List Bool} {i : Nat} {args : List Arg} {vs : List V} {al0 : AEnv} {ts : List T}, argsOk hands args = true → Slots K F0 H0 (vs.map some) (startEnv args) al0 → outs hands i env = some ts →
    (∀ j ∈ hsOf hands i, ∃ v, vs[j - i]? = some v ∧ σ[j]? = some (some v)) → ∃ al, OutV K F H args ts vs al ∧ (adE al).Sublist (adE (as.drop i))
  | [], i, args, vs, al0, ts, ha, sl, ho, hh => by
    cases args with
    | nil =>
      have e : vs = [] := by
        have := sl.len.1
        simp [startEnv] at this
        exact List.eq_nil_of_length_eq_zero this.symm
      subst e
      have e2 : ts = [] := by simpa [outs] using ho.symm
      subst e2
      exact ⟨[], .nil, List.nil_sublist _⟩
    | cons a r => simp [argsOk] at ha
  | h :: hands, i, args, vs, al0, ts, ha, sl, ho, hh => by
    have dropS : (adE (as.drop (i + 1))).Sublist (adE (as.drop i)) := by
      cases e : as[i]? with
      | none =>
        rw [List.getElem?_eq_none_iff] at e
        rw [List.drop_eq_nil_of_le (by omega)]
        exact List.nil_sublist _
      | some x =>
        obtain ⟨hl, hx⟩ := List.getElem?_eq_some_iff.mp e
        rw [List.drop_eq_getElem_cons hl]
        cases hy : as[i] with
        | none => exact List.Sublist.refl _
        | some y => simp only [adE]; exact List.sublist_append_right _ _
    cases args with
    | nil => simp [argsOk] at ha
    | cons a args =>
      cases h with
      | false =>
        cases a with
        | o t => simp [argsOk] at ha
        | d x =>
          simp only [argsOk] at ha
          simp only [startEnv] at sl
          cases vs with
          | nil => cases sl
          | cons v vs =>
            cases sl with
            | cons hs sl =>
              simp only [outs] at ho
              obtain ⟨al, h1, h2⟩ := out_pick rel (i := i + 1) ha sl ho fun j hj => by
                obtain ⟨w, k1, k2⟩ := hh j (by simpa only [hsOf] using hj)
                have hlt : i + 1 ≤ j := hs_ge hj
                refine ⟨w, ?_, k2⟩
                have e : j - i = (j - (i + 1)) + 1 := by omega
                rw [e] at k1
                simpa using k1
              exact ⟨none :: al, .d h1, h2.trans dropS⟩
      | true =>
        cases a with
        | d x => simp [argsOk] at ha
        | o t =>
          simp only [argsOk] at ha
          simp only [startEnv] at sl
          cases vs with
          | nil => cases sl
          | cons v vs =>
            cases sl with
            | cons hs sl =>
              simp only [outs] at ho
              cases hw : env.own i with
              | none => rw [hw] at ho; cases ho
              | some t1 =>
                cases hq : outs hands (i + 1) env with
                | none => rw [hw, hq] at ho; cases ho
                | some ts1 =>
                  rw [hw, hq] at ho
                  have ho : t1 :: ts1 = ts := Option.some.inj ho
                  subst ho
                  obtain ⟨n, e1, e2, e3, e4⟩ := rel.own hw
                  obtain ⟨w, k1, k2⟩ := hh i (by simp [hsOf])
                  have k1 : v = w := by simpa using k1
                  subst k1
                  rw [e1] at k2
                  have k3 : n.v = v := by simpa using k2
                  obtain ⟨al, h1, h2⟩ := out_pick rel (i := i + 1) ha sl hq fun j hj => by
                    obtain ⟨w, k1, k2⟩ := hh j (by simp only [hsOf]; exact List.mem_cons_of_mem _ hj)
                    have hlt : i + 1 ≤ j := hs_ge hj
                    refine ⟨w, ?_, k2⟩
                    have e : j - i = (j - (i + 1)) + 1 := by omega
                    rw [e] at k1
                    simpa using k1
                  refine ⟨some n :: al, ?_, ?_⟩
                  · rw [← e3, ← k3]
                    exact .o e4 h1
                  · obtain ⟨hl, hx⟩ := List.getElem?_eq_some_iff.mp e2
                    rw [List.drop_eq_getElem_cons hl, hx]
                    simp only [adE]
                    exact (List.Sublist.refl _).append h2
where
  hs_ge : ∀ {hands : List Bool} {i j : Nat}, j ∈ hsOf hands i → i ≤ j
    | [], _, _, h => by simp [hsOf] at h
    | true :: hs, i, j, h => by
      simp only [hsOf, List.mem_cons] at h
      rcases h with h | h
      · omega
      · have := hs_ge h; omega
    | false :: hs, i, j, h => by
      have := hs_ge (hands := hs) (i := i + 1) (by simpa only [hsOf] using h)
      omega
theorem hs_lt : ∀ {hands : List Bool} {i j : Nat}, j ∈ hsOf hands i → j < i + hands.length
  | [], _, _, h => by simp [hsOf] at h
  | true :: hs, i, j, h => by
    simp only [hsOf, List.mem_cons] at h
    rcases h with h | h
    · simp; omega
    · have := hs_lt h; simp; omega
  | false :: hs, i, j, h => by
    have := hs_lt (hands := hs) (i := i + 1) (by simpa only [hsOf] using h)
    simp; omega
/-- a run, opened -/
theorem run_got {cl : Call} {gl : List D} {wh : Nat} {f : Fn} {args : List Arg} {C : Ret → List T → Prop} (h : GotK (runFn cl gl wh f args) C) : argsOk f.hands args = true ∧
    GotK (evSs cl gl wh f.body (startEnv args ++ List.replicate (f.ns - args.length) .no)) fun fl env => ∃ ts, outs f.hands 0 env = some ts ∧ match fl with
      | .nx => C (.d .none) ts
      | .rt r => C r ts
      | _ => False := by
  unfold runFn at h
  split at h
  · rename_i ha
    refine ⟨ha, ?_⟩
    cases he : evSs cl gl wh f.body (startEnv args ++ List.replicate (f.ns - args.length) .no) with
    | ok fl env =>
      rw [he] at h
      dsimp only at h
      cases ho : outs f.hands 0 env with
      | none => rw [ho] at h; exact h.elim
      | some ts =>
        rw [ho] at h
        refine ⟨ts, ho, ?_⟩
        cases fl <;> exact h
    | exc c ds env =>
      rw [he] at h
      dsimp only at h
      cases ho : outs f.hands 0 env with
      | none => rw [ho] at h; exact h.elim
      | some ts => rw [ho] at h; exact h.elim
    | err => rw [he] at h; exact h.elim
  · exact h.elim
/-- from a body's end to the call's end -/
theorem ends {K : Kf} {H F H' F' : Hp} {vs : List V} {N : List Str} {args : List Arg} {al : AEnv} {hands : List Bool} {n : Nat} {env' : Env} {σ' : L2.St} {as' : AEnv} {ts : List T} {v : V} {r : Ret} (ha : argsOk hands args = true) (sl : Slots K F H (vs.map some) (startEnv args) al) (ho : outs hands 0 env' = some ts)
    (A : AftS K (hsOf hands 0) (L2.start N vs) H F (al ++ List.replicate n none) env' σ' H' F' as') (q : RetR K H (al ++ List.replicate n none) H' F' as' v r) : ∃ al', AftC K args vs H F al r ts v H' F' al' := by
  have hl : vs.length = hands.length := by
    have h1 := sl.len.1
    rw [start_len, argsOk_len ha] at h1
    simpa using h1.symm
  have hal : adE (al ++ List.replicate n none) = adE al := by rw [adE_app, adE_none, List.append_nil]
  obtain ⟨al', h1, h2⟩ := out_pick (i := 0) A.rel ha sl ho fun j hj => by
    have hj2 := hs_lt hj
    have hlt : j < vs.length := by omega
    refine ⟨vs[j], by rw [Nat.sub_zero]; exact List.getElem?_eq_getElem hlt, ?_⟩
    rw [A.hs j hj]
    unfold L2.start
    rw [List.getElem?_append_left (by simpa using hlt), List.getElem?_map, List.getElem?_eq_getElem hlt]
    rfl
  rw [List.drop_zero] at h2
  refine ⟨al', A.rel.sub, h1, A.rel.nd.sublist h2, fun b hb => A.rel.fr b (h2.subset hb), ⟨A.post.sf, fun b o e hb => A.post.fr b o e (by rw [hal]; exact hb), fun b hb => ?_, fun b hb => ?_, A.post.th⟩, ?_⟩
  · have := A.post.on b (h2.subset hb)
    rwa [hal] at this
  · have := A.post.fn b hb
    rwa [hal] at this
  · cases r with
    | d x => exact q
    | o t =>
      obtain ⟨a, e1, e2, e3, e4, e5⟩ := q
      refine ⟨a, e1, e2, e3, e4, fun b hb => ⟨(e5 b hb).1, fun z => (e5 b hb).2.1 (h2.subset z), ?_⟩⟩
      have := (e5 b hb).2.2
      rwa [hal] at this
/-! ### a def of the module -/
structure FnG (P : Program) (w : World) (K : Kf) (mg : Str → Option Value) (base : Heap) (n : Nat) (x : Str) (ps : List Str) (run : List Arg → R (List T) Ret) : Prop where
  ex : ∃ (f : Addr) (fd : FuncData), FnOk P w K mg base C8.CX0 n f fd ps (spF K run) ∧ mg x = some (.ref f) ∧ PySem.W.keepIn K (.ref f) = true ∧ Binds K fd ps [] ∧
    KBn K fd ps 0 ps (fun us ws => us ++ ws) (fun us ws => us ++ ws)
/-- what the checks of one def ask -/
structure Chk (fns : List (Str × List Str)) (gls blts : List Str) (fuel : Nat) (fn : Fn) (N ps : List Str) (scope : Scope) (body : List Stmt) : Prop where
  ns : fn.ns = N.length
  hands : fn.hands.length = ps.length
  scp : C8.scC N ps scope = true
  body : chkSs ⟨scope, N, fns, gls, blts, hsOf fn.hands 0, true⟩ fuel fn.body body = true
theorem fn_snd {P : Program} {w : World} {K : Kf} {mg : Str → Option Value} {base : Heap} {fns : List (Str × List Str)} {gls blts : List Str} {fuel wh n : Nat} {fn : Fn} {N ps : List Str} {x qual : Str} {params : Arguments} {body : List Stmt} {scope : Scope} {f : Addr} {fd : FuncData} {cl : Call} {gl : List D}
    (hc : Chk fns gls blts fuel fn N ps scope body) (F : FunD K x qual params body scope [] [] f fd)
    (hf : ∀ (j : Nat) (y : Str) (qs : List Str), fns[j]? = some (y, qs) → FnG P w K mg base n y qs (cl j))
    (hgl : ∀ (j : Nat) (y : Str), gls[j]? = some y → ∃ (v : V) (u : Value) (d : D), mg y = some u ∧ RelV v u ∧ gl[j]? = some d ∧ ∀ G, Rp K G v d) (hb : ∀ y ∈ blts, mg y = none) :
    FnOk P w K mg base C8.CX0 (n + 1) f fd ps (spF K (runFn cl gl wh fn)) := by
  have S := C8.fnScope_by hc.scp
  have len : ∀ vs H Q E, spF K (runFn cl gl wh fn) vs H Q E → vs.length = ps.length := fun vs H Q E h => by
    obtain ⟨F0, args, al, sub, sl, nd, fr, got⟩ := h
    have ha := (run_got got).1
    have h1 := sl.len.1
    rw [start_len, argsOk_len ha, hc.hands] at h1
    simpa using h1.symm
  refine F.ok S len fun cdv A outer s H vs Q E hr hsp => ?_
  have C : Cxt (cxOf C8.CX0 P w K mg base N qual scope f cdv A outer s H E).nox ⟨scope, N, fns, gls, blts, hsOf fn.hands 0, true⟩ cl gl n :=
    { N := rfl, nd := S.nd, sc := rfl, calm := rfl, room := hr, hp := PassesOwn.never, fnv := fun _ _ => rfl, fns := fun j y qs h => ⟨(hf j y qs h).ex⟩, gls := hgl, blts := hb }
  refine ⟨_, PSs.nox ((snd_st _ cl gl n wh fuel _ C).2 fn.body body hc.body), ?_⟩
  obtain ⟨F0, args, al, sub, sl, nd, fr, got⟩ := hsp
  obtain ⟨ha, got⟩ := run_got got
  have hl : vs.length = ps.length := by
    have h1 := sl.len.1
    rw [start_len, argsOk_len ha, hc.hands] at h1
    simpa using h1.symm
  have hl2 : args.length = vs.length := by rw [argsOk_len ha, hc.hands, hl]
  have hal : ∀ n, adE (al ++ List.replicate n none) = adE al := fun n => by rw [adE_app, adE_none, List.append_nil]
  refine ⟨F0, _, al ++ List.replicate (fn.ns - args.length) none, ⟨sub, ?_, by rw [hal]; exact nd, fun b hb => fr b (by rw [hal] at hb; exact hb)⟩, gotK_mono got fun fl env' ⟨ts, ho, c⟩ => ?_⟩
  · have := slots_pad sl (fn.ns - args.length)
    unfold L2.start
    rw [hl2, hc.ns] at this ⊢
    exact this
  · cases fl with
    | nx =>
      intro σ' H' F' as' A'
      obtain ⟨al', hC⟩ := ends (r := .d .none) (v := .non) ha sl ho A' .non
      exact c .non H' F' al' hC
    | rt r =>
      intro σ' H' F' as' v A' q
      obtain ⟨al', hC⟩ := ends (r := r) (v := v) ha sl ho A' q
      exact c v H' F' al' hC
    | bk => exact c.elim
    | ct => exact c.elim
end MP

set_option maxHeartbeats 4000000
namespace MP
open PySem PySem.Spec PyProof.Rows L2
/-! ### a program's defs -/
structure PDef where
  name : Str
  N : List Str
  ps : List Str
  params : Arguments
  body : List Stmt
  scope : Scope
structure DefOk (K : Kf) (mg : Str → Option Value) (d : PDef) : Prop where
  ex : ∃ (f : Addr) (fd : FuncData), FunD K d.name d.name d.params d.body d.scope [] [] f fd ∧ mg d.name = some (.ref f) ∧ Binds K fd d.ps [] ∧ KBn K fd d.ps 0 d.ps (fun us ws => us ++ ws) (fun us ws => us ++ ws)
theorem kbn_of {K : Kf} {x qual : Str} {params : Arguments} {body : List Stmt} {scope : Scope} {f : Addr} {fd : FuncData} {ps : List Str} (F : FunD K x qual params body scope [] [] f fd)
    (h : ∀ (kV doc pm : Value) (an : Option Addr) (cdv ct : Value) (ws : List Value), ws.length = ps.length → bindArgs (PySem.W.fnOf x qual params body scope .none kV doc pm an cdv ct) ⟨[], ps.zip ws⟩ = pure (ps.zip ws)) : KBn K fd ps 0 ps (fun us ws => us ++ ws) (fun us ws => us ++ ws) := by
  obtain ⟨oc, od, dV, kV, doc, pm, an, cdv, ct, osl, rfl, lk, hcd, hD, hK⟩ := F.ex
  rcases hD with ⟨_, rfl⟩ | ⟨e, _⟩
  · refine ⟨fun s us ws X l1 l2 => ?_, fun r1 r2 => r1.append r2⟩
    have e : us = [] := List.eq_nil_of_length_eq_zero l1
    subst e
    exact .of_eq (h kV doc pm an cdv ct ws l2)
  · exact absurd rfl e
theorem all_snd {P : Program} {w : World} {K : Kf} {mg : Str → Option Value} {base : Heap} {gls blts : List Str} {fuel wh : Nat} {gl : List D} (tab : List (Fn × PDef))
    (hchk : ∀ p ∈ tab, Chk (tab.map fun p => (p.2.name, p.2.ps)) gls blts fuel p.1 p.2.N p.2.ps p.2.scope p.2.body) (hdef : ∀ p ∈ tab, DefOk K mg p.2)
    (hgl : ∀ (j : Nat) (y : Str), gls[j]? = some y → ∃ (v : V) (u : Value) (d : D), mg y = some u ∧ RelV v u ∧ gl[j]? = some d ∧ ∀ G, Rp K G v d) (hb : ∀ y ∈ blts, mg y = none) :
    ∀ (n j : Nat) (y : Str) (qs : List Str), (tab.map fun p => (p.2.name, p.2.ps))[j]? = some (y, qs) → FnG P w K mg base n y qs (callN gl wh (tab.map Prod.fst) n j)
  | n, j, y, qs, h => by
    rw [List.getElem?_map] at h
    obtain ⟨p, hp, e⟩ := Option.map_eq_some_iff.mp h
    have hm := List.mem_of_getElem? hp
    obtain ⟨f, fd, F, hmg, hbi, hkb⟩ := (hdef p hm).ex
    have e1 : p.2.name = y := congrArg Prod.fst e
    have e2 : p.2.ps = qs := congrArg Prod.snd e
    subst e1
    subst e2
    refine ⟨f, fd, ?_, hmg, F.kp, hbi, hkb⟩
    cases n with
    | zero =>
      refine ⟨fun vs H Q E h => ?_, fun A outer s H args us vs Q E _ _ _ _ h => ?_⟩
      · obtain ⟨_, _, _, _, _, _, _, got⟩ := h
        exact got.elim
      · obtain ⟨_, _, _, _, _, _, _, got⟩ := h
        exact got.elim
    | succ n =>
      have := fn_snd (P := P) (w := w) (base := base) (wh := wh) (n := n) (cl := callN gl wh (tab.map Prod.fst) n) (gl := gl) (hchk p hm) F (fun j' y' qs' h' => all_snd tab hchk hdef hgl hb n j' y' qs' h') hgl hb
      refine this.imp fun vs H Q E h => ?_
      obtain ⟨G, args, al, s1, s2, s3, s4, got⟩ := h
      refine ⟨G, args, al, s1, s2, s3, s4, ?_⟩
      have ec : callN gl wh (tab.map Prod.fst) (n + 1) j args = runFn (callN gl wh (tab.map Prod.fst) n) gl wh p.1 args := by
        show (match (tab.map Prod.fst)[j]? with
          | some f => runFn (callN gl wh (tab.map Prod.fst) n) gl wh f args
          | none => .err) = _
        rw [List.getElem?_map, hp]
        rfl
      rw [ec] at got
      exact got
/-- the law's def: its promise of a script -/
theorem law_sp {K : Kf} {run : List Arg → R (List T) Ret} {H : Hp} {a : Addr} {ns : List Int} (hs : SqL K H a (ns.map V.int)) (h : run [.d (.list (ns.map .int))] = .ok (.d (.bool true)) []) :
    spF K run [.ref a] H (fun v _ => v = .bl true) fun _ _ _ => False := by
  -- what is frozen: the script
  have : ∃ F, Sub F H ∧ SqL K F a (ns.map V.int) := by
    rcases hs with (h1 | ⟨o, h1⟩) | h1
    · exact ⟨H, .rfl, .inl (.inl h1)⟩
    · exact ⟨H, .rfl, .inl (.inr ⟨o, h1⟩)⟩
    · exact ⟨H, .rfl, .inr h1⟩
  obtain ⟨F, s1, s2⟩ := this
  have hslot : SlotR K F H (some (.ref a)) (.val (.list (ns.map .int))) none := ⟨_, rfl, Rp.lst s2 (Rps.ints ns)⟩
  refine ⟨F, [.d (.list (ns.map .int))], [none], s1, .cons hslot .nil, by simp [adE], by simp [adE], ?_⟩
  rw [h]
  intro v H' F' al' C
  exact (show Rp K F' v (.bool true) from C.ret).bool_inv
end MP

set_option maxHeartbeats 2000000
/-! The head: facts of defs, of built-ins, of constants that are data. -/
namespace MP
open PySem PySem.Spec PyProof.Rows L2
mutual
def datV (K : Kf) : D → Value → Bool
  | .none, .none => true
  | .bool b, .bool c => b == c
  | .int i, .int j _ => decide (i = j)
  | .str x, .str y _ => decide (x = y)
  | .list ds, .ref a => (match K.lookup a with
    | some ⟨.type c, none, .seq its _, _⟩ => decide (c = "list") && (decide (its.size ≤ sizeLine) && datVs K ds its.toList)
    | _ => false)
  | .tuple ds, .ref a => (match K.lookup a with
    | some ⟨.type c, none, .seq its _, _⟩ => decide (c = "tuple") && (decide (its.size ≤ sizeLine) && datVs K ds its.toList)
    | _ => false)
  | _, _ => false
def datVs (K : Kf) : List D → List Value → Bool
  | [], [] => true
  | d :: ds, u :: us => datV K d u && datVs K ds us
  | _, _ => false
end
theorem seq_of {K : Kf} {a : Addr} {t : String} {p : List Value → Bool} (h : (match K.lookup a with
    | some ⟨.type c, none, .seq its _, _⟩ => decide (c = t) && (decide (its.size ≤ sizeLine) && p its.toList)
    | _ => false) = true) : ∃ its n sl, K.lookup a = some ⟨.type t, none, .seq its n, sl⟩ ∧ its.size ≤ sizeLine ∧ p its.toList = true := by
  cases q : K.lookup a with
  | none => rw [q] at h; cases h
  | some o =>
    obtain ⟨oc, od, dt, osl⟩ := o
    rw [q] at h
    cases oc with
    | type c =>
      cases od with
      | none =>
        cases dt with
        | seq its n =>
          have h : (decide (c = t) && (decide (its.size ≤ sizeLine) && p its.toList)) = true := h
          simp only [Bool.and_eq_true, decide_eq_true_eq] at h
          obtain ⟨rfl, h2, h3⟩ := h
          exact ⟨its, n, osl, rfl, h2, h3⟩
        | _ => cases h
      | some a => cases dt <;> cases h
    | _ => cases od <;> cases dt <;> cases h
mutual
theorem datV_ok {K : Kf} : ∀ (d : D) (u : Value), datV K d u = true → ∃ v, RelV v u ∧ ∀ G, Dq K G v d
  | .none, u, h => by
    cases u with
    | none => exact ⟨.non, rfl, fun _ => .non⟩
    | _ => simp [datV] at h
  | .bool b, u, h => by
    cases u with
    | bool c =>
      simp only [datV, beq_iff_eq] at h
      subst h
      exact ⟨.bl b, rfl, fun _ => .bl _⟩
    | _ => simp [datV] at h
  | .int b, u, h => by
    cases u with
    | int c t =>
      simp only [datV, decide_eq_true_eq] at h
      subst h
      exact ⟨.int b, ⟨t, rfl⟩, fun _ => .int _⟩
    | _ => simp [datV] at h
  | .str b, u, h => by
    cases u with
    | str c t =>
      simp only [datV, decide_eq_true_eq] at h
      subst h
      exact ⟨.str b, ⟨t, rfl⟩, fun _ => .str _⟩
    | _ => simp [datV] at h
  | .list ds, u, h => by
    cases u with
    | ref a =>
      simp only [datV] at h
      obtain ⟨its, n, sl, h1, h2, h3⟩ := seq_of h
      obtain ⟨vs, h4, h5⟩ := datVs_ok ds _ h3
      exact ⟨.ref a, rfl, fun G => .lst (.inr ⟨_, its, n, h1, rfl, rfl, rfl, h2, h4⟩) (h5 G)⟩
    | _ => simp [datV] at h
  | .tuple ds, u, h => by
    cases u with
    | ref a =>
      simp only [datV] at h
      obtain ⟨its, n, sl, h1, h2, h3⟩ := seq_of h
      obtain ⟨vs, h4, h5⟩ := datVs_ok ds _ h3
      exact ⟨.ref a, rfl, fun G => .tup (.inr ⟨_, its, n, h1, rfl, rfl, rfl, h2, h4⟩) (h5 G)⟩
    | _ => simp [datV] at h
  | .dict _, u, h => by cases u <;> simp [datV] at h
theorem datVs_ok {K : Kf} : ∀ (ds : List D) (us : List Value), datVs K ds us = true → ∃ vs, Vals vs us ∧ ∀ G, DqAll K G vs ds
  | [], [], _ => ⟨[], .nil, fun _ => .nil⟩
  | [], _ :: _, h => by simp [datVs] at h
  | _ :: _, [], h => by simp [datVs] at h
  | d :: ds, u :: us, h => by
    simp only [datVs, Bool.and_eq_true] at h
    obtain ⟨v, h1, h2⟩ := datV_ok d u h.1
    obtain ⟨vs, h3, h4⟩ := datVs_ok ds us h.2
    exact ⟨v :: vs, .cons h1 h3, fun G => .cons (h2 G) (h4 G)⟩
end
/-- a name of the module that stands for data -/
def datG (K : Kf) (x : Str) (d : D) : Bool := match PySem.W.nsIn K mainGlobals x with
  | some (some u) => datV K d u
  | _ => false
theorem datG_ok {K : Kf} {h : Heap} {mg : Str → Option Value} (X : K.In h) (G : h.Ns mainGlobals mg) {x : Str} {d : D} (c : datG K x d = true) (o : okD d = true) : ∃ (v : V) (u : Value), mg x = some u ∧ RelV v u ∧ ∀ F, Rp K F v d := by
  unfold datG at c
  split at c
  · rename_i u e
    obtain ⟨v, h1, h2⟩ := datV_ok d u c
    exact ⟨v, u, PySem.W.mg_of X G e, h1, fun F => ⟨h2 F, o⟩⟩
  · cases c
/-! ### the Hook -/
def obsP (fa : List He.Fa) (fn : List He.DefD) (dt : List (Str × D)) (K : Kf) : He.AlD := ((dt.all fun p => datG K p.1 p.2) && (He.obsD fa fn K).1, (He.obsD fa fn K).2)
structure SaysP (fa : List He.Fa) (fn : List He.DefD) (dt : List (Str × D)) (K : Kf) : Prop where
  d : He.SaysD fa fn K
  t : ∀ p ∈ dt, datG K p.1 p.2 = true
theorem says_of {fa : List He.Fa} {fn : List He.DefD} {dt : List (Str × D)} {K : Kf} (h : obsP fa fn dt K = He.valD fn) : SaysP fa fn dt K := by
  have h1 : ((dt.all fun p => datG K p.1 p.2) && (He.obsD fa fn K).1) = true := congrArg Prod.fst h
  have h2 : (He.obsD fa fn K).2 = fn.map He.DefD.val := congrArg Prod.snd h
  obtain ⟨h3, h4⟩ := Bool.and_eq_true_iff.mp h1
  exact ⟨Prod.ext h4 h2, List.all_eq_true.mp h3⟩
def obsPG (n : Nat) (fa : List He.Fa) (fn : List He.DefD) (dt : List (Str × D)) (g : Addr → Option Obj) : He.AlD := obsP fa fn dt (He.frG g (He.asD g n))
def hookP (n : Nat) (fa : List He.Fa) (fn : List He.DefD) (dt : List (Str × D)) : PySem.W.Hook where
  α := He.AlD
  obs := fun s => obsPG n fa fn dt s.heap.get?
  val := fun _ => He.valD fn
  says := fun _ h => ∃ K : Kf, K.In h ∧ SaysP fa fn dt K
  of := fun _ _ e => ⟨_, He.frG_in, says_of e⟩
  keeps := fun _ _ _ ⟨K, hK, c⟩ k => ⟨K, PySem.W.Frag.In.keeps hK k, c⟩
theorem obsPG_eq {n : Nat} {fa : List He.Fa} {fn : List He.DefD} {dt : List (Str × D)} {g : Addr → Option Obj} {s : Shared} (h : ∀ a, g a = s.heap.get? a) : obsPG n fa fn dt g = (hookP n fa fn dt).obs s := by
  have e : g = s.heap.get? := funext h
  rw [e] <;> rfl
/-! ### the checks, all at once -/
def chkP1 (fns : List (Str × List Str)) (gls blts : List Str) (fuel : Nat) (p : Fn × PDef) : Bool :=
  decide (p.1.ns = p.2.N.length) && decide (p.1.hands.length = p.2.ps.length) && C8.scC p.2.N p.2.ps p.2.scope && chkSs ⟨p.2.scope, p.2.N, fns, gls, blts, hsOf p.1.hands 0, true⟩ fuel p.1.body p.2.body
theorem chk_all {tab : List (Fn × PDef)} {fns : List (Str × List Str)} {gls blts : List Str} {fuel : Nat} (h : tab.all (chkP1 fns gls blts fuel) = true) : ∀ p ∈ tab, Chk fns gls blts fuel p.1 p.2.N p.2.ps p.2.scope p.2.body := fun p hp => by
  have := List.all_eq_true.mp h p hp
  simp only [chkP1, Bool.and_eq_true, decide_eq_true_eq] at this
  exact ⟨this.1.1.1, this.1.1.2, this.1.2, this.2⟩
/-- constants -/
theorem gls_ok {K : Kf} {h : Heap} {mg : Str → Option Value} {gls : List Str} {gl : List D} (X : K.In h) (G : h.Ns mainGlobals mg) (c : ∀ p ∈ gls.zip gl, datG K p.1 p.2 = true) (o : gl.all okD = true) (hl : gls.length = gl.length) :
    ∀ (j : Nat) (y : Str), gls[j]? = some y → ∃ (v : V) (u : Value) (d : D), mg y = some u ∧ RelV v u ∧ gl[j]? = some d ∧ ∀ F, Rp K F v d := fun j y hj => by
  obtain ⟨h1, h2⟩ := List.getElem?_eq_some_iff.mp hj
  have h3 : j < gl.length := by omega
  have hm : (y, gl[j]) ∈ gls.zip gl := by
    rw [← h2]
    have : (gls.zip gl)[j]? = some (gls[j], gl[j]) := by rw [List.getElem?_zip_eq_some]; exact ⟨List.getElem?_eq_getElem h1, List.getElem?_eq_getElem h3⟩
    exact List.mem_of_getElem? this
  obtain ⟨v, u, e1, e2, e3⟩ := datG_ok X G (c _ hm) (List.all_eq_true.mp o _ (List.getElem_mem h3))
  exact ⟨v, u, gl[j], e1, e2, List.getElem?_eq_getElem h3, e3⟩
/-- built-ins -/
theorem blts_ok {K : Kf} {h : Heap} {mg : Str → Option Value} {fa : List He.Fa} {fn : List He.DefD} {blts : List Str} (X : K.In h) (G : h.Ns mainGlobals mg) (c : He.SaysD fa fn K) (hs : ∀ y ∈ blts, He.Fa.free y ∈ fa) : ∀ y ∈ blts, mg y = none := fun y hy => by
  obtain ⟨i, hi⟩ := List.getElem?_of_mem (hs y hy)
  exact He.free_ok X G (c.fact i hi)
end MP

set_option maxHeartbeats 200000
namespace MP
open PySem
/-! Reasoning about the evaluator. -/
theorem callN_s {gl : List D} {wh : Nat} {fns : List Fn} {n k : Nat} {as : List Arg} (f : Fn) (h : fns[k]? = some f) : callN gl wh fns (n + 1) k as = runFn (callN gl wh fns n) gl wh f as := by
  show (match fns[k]? with
    | some f => runFn (callN gl wh fns n) gl wh f as
    | none => .err) = _
  rw [h]
section
variable {S α β γ : Type}
@[simp] theorem R.bind_ok (a : α) (s : S) (f : α → S → R S β) : (R.ok a s).bind f = f a s := (rfl)
@[simp] theorem R.bind_err (f : α → S → R S β) : (R.err : R S α).bind f = .err := (rfl)
@[simp] theorem R.opt_some (a : α) (s : S) : (R.opt (some a) s : R S α) = .ok a s := (rfl)
@[simp] theorem R.opt_none (s : S) : (R.opt none s : R S α) = .err := (rfl)
/-- what follows, not looked at before its turn -/
class Cnt (S α β : Type) where
  f : α → S → R S β
def R.lz (r : R S α) [k : Cnt S α β] : R S β := r.bind k.f
@[simp] theorem R.lz_ok (a : α) (s : S) (f : α → S → R S β) : @R.lz S α β (.ok a s) ⟨f⟩ = f a s := (rfl)
@[simp] theorem R.lz_err (f : α → S → R S β) : @R.lz S α β .err ⟨f⟩ = .err := (rfl)
@[simp] theorem R.lz_assoc (r : R S α) (f : α → S → R S β) (g : β → S → R S γ) : @R.lz S β γ (@R.lz S α β r ⟨f⟩) ⟨g⟩ = @R.lz S α γ r ⟨fun a s => @R.lz S β γ (f a s) ⟨g⟩⟩ := by cases r <;> rfl
@[simp] theorem R.lz_bind (r : R S α) (f : α → S → R S β) (g : β → S → R S γ) : (@R.lz S α β r ⟨f⟩).bind g = @R.lz S α γ r ⟨fun a s => (f a s).bind g⟩ := by cases r <;> rfl
@[simp] theorem R.lz_ite {c : Prop} [Decidable c] (a b : R S α) (f : α → S → R S β) : @R.lz S α β (if c then a else b) ⟨f⟩ = if c then @R.lz S α β a ⟨f⟩ else @R.lz S α β b ⟨f⟩ := by split <;> rfl
@[simp] theorem R.bind_assoc (r : R S α) (f : α → S → R S β) (g : β → S → R S γ) : (r.bind f).bind g = r.bind fun a s => (f a s).bind g := by cases r <;> rfl
@[simp] theorem R.ite_bind {c : Prop} [Decidable c] (a b : R S α) (f : α → S → R S β) : (if c then a else b).bind f = if c then a.bind f else b.bind f := by split <;> rfl
@[simp] theorem R.opt_ite {c : Prop} [Decidable c] (a b : Option α) (s : S) : (R.opt (if c then a else b) s : R S α) = if c then R.opt a s else R.opt b s := by split <;> rfl
/-- the answer is there, and it is so -/
inductive GotR (r : R S α) (C : α → S → Prop) : Prop where
  | intro (a : α) (s : S) (h : r = .ok a s) (c : C a s)
theorem GotR.ok {a : α} {s : S} {C : α → S → Prop} (c : C a s) : GotR (.ok a s) C := ⟨a, s, rfl, c⟩
@[simp] theorem gotR_ok (a : α) (s : S) (C : α → S → Prop) : GotR (.ok a s) C = C a s := propext ⟨fun ⟨_, _, h, c⟩ => by cases h; exact c, fun c => ⟨a, s, rfl, c⟩⟩
@[simp] theorem gotR_err (C : α → S → Prop) : GotR (.err : R S α) C = False := by
  refine propext ⟨fun h => ?_, fun h => h.elim⟩
  obtain ⟨_, _, h, _⟩ := h
  cases h
@[simp] theorem gotR_ite {c : Prop} [Decidable c] (a b : R S α) (C : α → S → Prop) : GotR (if c then a else b) C = if c then GotR a C else GotR b C := by split <;> rfl
theorem GotR.bind {r : R S α} {f : α → S → R S β} {C : α → S → Prop} {C' : β → S → Prop} (h : GotR r C) (k : ∀ a s, C a s → GotR (f a s) C') : GotR (r.bind f) C' := by
  obtain ⟨a, s, rfl, c⟩ := h
  exact k a s c
theorem GotR.mono {r : R S α} {C C' : α → S → Prop} (h : GotR r C) (k : ∀ a s, C a s → C' a s) : GotR r C' := by
  obtain ⟨a, s, rfl, c⟩ := h
  exact ⟨a, s, rfl, k a s c⟩
theorem GotR.ex {r : R S α} {C : α → S → Prop} (h : GotR r C) : ∃ a s, r = .ok a s ∧ C a s := by
  obtain ⟨a, s, e, c⟩ := h
  exact ⟨a, s, e, c⟩
/-- a road not looked at before its turn -/
class Bx (α : Type) where
  v : α
/-- by truth -/
def brO (o : Option Bool) [a : Bx (R S α)] [b : Bx (R S α)] : R S α := match o with
  | some true => a.v
  | some false => b.v
  | none => .err
@[simp] theorem brO_some (b : Bool) (x y : R S α) : @brO S α (some b) ⟨x⟩ ⟨y⟩ = if b = true then x else y := by cases b <;> rfl
end
/-- what follows a statement -/
def contF (f : Flow) (k : Env → R Env Flow) (env : Env) : R Env Flow := match f with
  | .nx => k env
  | f => .ok f env
@[simp] theorem contF_nx (k : Env → R Env Flow) (env : Env) : contF .nx k env = k env := (rfl)
@[simp] theorem contF_rt (r : Ret) (k : Env → R Env Flow) (env : Env) : contF (.rt r) k env = .ok (.rt r) env := (rfl)
@[simp] theorem contF_bk (k : Env → R Env Flow) (env : Env) : contF .bk k env = .ok .bk env := (rfl)
@[simp] theorem contF_ct (k : Env → R Env Flow) (env : Env) : contF .ct k env = .ok .ct env := (rfl)
/-- a call's end -/
def finR (hs : List Bool) (r : R Env Flow) : R (List T) Ret := match r with
  | .ok fl env => (match outs hs 0 env with
    | some ts => (match fl with
      | .nx => .ok (.d .none) ts
      | .rt r => .ok r ts
      | _ => .err)
    | none => .err)
  | .exc c ds env => (match outs hs 0 env with
    | some ts => .exc c ds ts
    | none => .err)
  | .err => .err
def finO (o : Option (List T)) (r : Ret) : R (List T) Ret := match o with
  | some ts => .ok r ts
  | none => .err
@[simp] theorem finO_some (ts : List T) (r : Ret) : finO (some ts) r = .ok r ts := (rfl)
@[simp] theorem finR_nx (hs : List Bool) (env : Env) : finR hs (.ok .nx env) = finO (outs hs 0 env) (.d .none) := by
  unfold finR finO
  dsimp only
@[simp] theorem finR_rt (hs : List Bool) (r : Ret) (env : Env) : finR hs (.ok (.rt r) env) = finO (outs hs 0 env) r := by
  unfold finR finO
  dsimp only
@[simp] theorem finR_ite {c : Prop} [Decidable c] (hs : List Bool) (a b : R Env Flow) : finR hs (if c then a else b) = if c then finR hs a else finR hs b := by split <;> rfl
@[simp] theorem finR_err (hs : List Bool) : finR hs .err = .err := (rfl)
theorem run_fin {cl : Call} {gl : List D} {wh : Nat} {f : Fn} {as : List Arg} (h : argsOk f.hands as = true) : runFn cl gl wh f as = finR f.hands (evSs cl gl wh f.body (startEnv as ++ List.replicate (f.ns - as.length) .no)) := by
  unfold runFn
  rw [if_pos h]
  rfl
/-- a def's call -/
theorem call_fin {gl : List D} {wh : Nat} {fns : List Fn} {n k : Nat} {as : List Arg} (f : Fn) (h : fns[k]? = some f) (ha : argsOk f.hands as = true) {env : Env} (he : startEnv as ++ List.replicate (f.ns - as.length) .no = env) :
    callN gl wh fns (n + 1) k as = finR f.hands (evSs (callN gl wh fns n) gl wh f.body env) := by
  rw [callN_s f h, run_fin ha, he]
section
variable {cl : Call} {gl : List D} {wh : Nat} {env : Env}
@[simp] theorem evSs_nil : evSs cl gl wh [] env = .ok .nx env := (rfl)
@[simp] theorem evSs_cons (s : S) (r : List S) : evSs cl gl wh (s :: r) env = (@R.lz _ _ _ (evS cl gl wh s env) ⟨fun f env => contF f (evSs cl gl wh r) env⟩) := by
  show R.bind _ _ = R.bind _ _
  congr 1
@[simp] theorem evS_asg (i : Nat) (e : E) : evS cl gl wh (.asg i e) env = (@R.lz _ _ _ (evE cl gl e env) ⟨fun x env => .ok .nx (env.sto i x)⟩) := (rfl)
def unpO (js : List Nat) (x : D) (env : Env) : R Env Flow := match x with
  | .tuple xs => (match stos js xs env with
    | some env' => .ok .nx env'
    | none => .err)
  | _ => .err
@[simp] theorem unpO_t (js : List Nat) (xs : List D) : unpO js (.tuple xs) env = (@R.lz _ _ _ (R.opt (stos js xs env) env) ⟨fun e _ => .ok .nx e⟩) := by
  unfold unpO
  dsimp only
  cases stos js xs env <;> rfl
@[simp] theorem stos_nil : stos [] [] env = some env := (rfl)
@[simp] theorem stos_cons (j : Nat) (js : List Nat) (x : D) (xs : List D) : stos (j :: js) (x :: xs) env = stos js xs (env.sto j x) := (rfl)
@[simp] theorem evS_unp (js : List Nat) (e : E) : evS cl gl wh (.unp js e) env = (@R.lz _ _ _ (evE cl gl e env) ⟨fun x env => unpO js x env⟩) := (rfl)
@[simp] theorem evS_mk (i : Nat) (e : E) : evS cl gl wh (.mk i e) env = (@R.lz _ _ _ (evT cl gl e env) ⟨fun t env => .ok .nx (env.set i (.own t))⟩) := (rfl)
@[simp] theorem evS_app (i : Nat) (ks : List E) (e : E) : evS cl gl wh (.app i ks e) env = (@R.lz _ _ _ (evP cl gl i ks env) ⟨fun ps env => guardL i ps env ((@R.lz _ _ _ (evE cl gl e env) ⟨fun x env => chg i ps (fApp (.d x)) env⟩))⟩) := (rfl)
@[simp] theorem evS_put (i : Nat) (ks : List E) (k e : E) : evS cl gl wh (.put i ks k e) env = (@R.lz _ _ _ (evE cl gl e env) ⟨fun x env => (@R.lz _ _ _ (evP cl gl i ks env) ⟨fun ps env => (@R.lz _ _ _ (evE cl gl k env) ⟨fun q env => chg i ps (fPut q (.d x)) env⟩)⟩)⟩) := (rfl)
@[simp] theorem evS_ifs (c : E) (a b : List S) : evS cl gl wh (.ifs c a b) env = (@R.lz _ _ _ (evE cl gl c env) ⟨fun x env => @brO _ _ (truth x) ⟨(evSs cl gl wh a env)⟩ ⟨(evSs cl gl wh b env)⟩⟩) := by
  show R.bind _ _ = R.bind _ _
  rfl
@[simp] theorem evS_ret (e : E) : evS cl gl wh (.ret e) env = (@R.lz _ _ _ (evE cl gl e env) ⟨fun x env => R.ok (Flow.rt (.d x)) env⟩) := (rfl)
@[simp] theorem evS_retO (i : Nat) : evS cl gl wh (.retO i) env = (@R.lz _ _ _ (R.opt (env.own i) env) ⟨fun t env => R.ok (Flow.rt (.o t)) (env.set i .no)⟩) := by
  show (match env.own i with
    | some t => R.ok (Flow.rt (.o t)) (env.set i .no)
    | none => .err) = _
  cases env.own i <;> rfl
@[simp] theorem evS_ex (e : E) : evS cl gl wh (.ex e) env = (@R.lz _ _ _ (evE cl gl e env) ⟨fun _ env => .ok .nx env⟩) := (rfl)
@[simp] theorem evS_pass : evS cl gl wh .pass env = .ok .nx env := (rfl)
@[simp] theorem evS_brk : evS cl gl wh .brk env = .ok .bk env := (rfl)
@[simp] theorem evS_cnt : evS cl gl wh .cnt env = .ok .ct env := (rfl)
@[simp] theorem evS_tr (b : List S) : evS cl gl wh (.tr b) env = evSs cl gl wh b env := (rfl)
@[simp] theorem evS_frz (i : Nat) : evS cl gl wh (.frz i) env = (@R.lz _ _ _ (R.opt ((env.own i).bind T.data) env) ⟨fun x env => R.ok Flow.nx (env.sto i x)⟩) := by
  show (match (env.own i).bind T.data with
    | some x => R.ok Flow.nx (env.sto i x)
    | none => .err) = _
  cases (env.own i).bind T.data <;> rfl
/-- a loop's turn -/
def turnS (cl : Call) (gl : List D) (wh : Nat) (js : List Nat) (b : List S) (x : D) (env : Env) : R Env Flow := (@R.lz _ _ _ (R.opt (bindT js x env) env) ⟨fun e _ => evSs cl gl wh b e⟩)
@[simp] theorem evS_loop (js : List Nat) (k : IK) (it : List E) (b : List S) : evS cl gl wh (.loop js k it b) env = (@R.lz _ _ _ (evI cl gl k it env) ⟨fun xs env => loopL (turnS cl gl wh js b) xs env⟩) := by
  show R.bind _ _ = R.bind _ _
  congr 1
  funext xs env
  congr 1
  funext x env
  unfold turnS
  cases bindT js x env <;> rfl
/-! expressions -/
@[simp] theorem evE_var (i : Nat) : evE cl gl (.var i) env = .opt (env.val i) env := (rfl)
@[simp] theorem evE_con (x : D) : evE cl gl (.con x) env = .ok x env := (rfl)
@[simp] theorem evE_glob (k : Nat) : evE cl gl (.glob k) env = .opt gl[k]? env := (rfl)
@[simp] theorem evE_tup (es : List E) : evE cl gl (.tup es) env = (@R.lz _ _ _ (evEs cl gl es env) ⟨fun xs env => if fits xs.length = true then .ok (PyData.tuple xs) env else .err⟩) := (rfl)
@[simp] theorem evE_lst (es : List E) : evE cl gl (.lst es) env = (@R.lz _ _ _ (evEs cl gl es env) ⟨fun xs env => if fits xs.length = true then .ok (PyData.list xs) env else .err⟩) := (rfl)
@[simp] theorem evE_bin (o : Op) (a b : E) : evE cl gl (.bin o a b) env = (@R.lz _ _ _ (evE cl gl a env) ⟨fun x env => (@R.lz _ _ _ (evE cl gl b env) ⟨fun y env => .opt (binD o x y) env⟩)⟩) := (rfl)
@[simp] theorem evE_neg (a : E) : evE cl gl (.neg a) env = (@R.lz _ _ _ (evE cl gl a env) ⟨fun x env => .opt ((asI x).map fun i => .int (-i)) env⟩) := (rfl)
@[simp] theorem evE_cmp (o : Cm) (a b : E) : evE cl gl (.cmp a o b) env = (@R.lz _ _ _ (evE cl gl a env) ⟨fun x env => (@R.lz _ _ _ (evE cl gl b env) ⟨fun y env => .opt ((cmpD o x y).map .bool) env⟩)⟩) := (rfl)
@[simp] theorem evE_cmp2 (a : E) (o : Cm) (b : E) (o' : Cm) (c : E) : evE cl gl (.cmp2 a o b o' c) env = (@R.lz _ _ _ (evE cl gl a env) ⟨fun x env => (@R.lz _ _ _ (evE cl gl b env) ⟨fun y env => @brO _ _ (cmpD o x y) ⟨((@R.lz _ _ _ (evE cl gl c env) ⟨fun z env => .opt ((cmpD o' y z).map .bool) env⟩))⟩ ⟨(.ok (.bool false) env)⟩⟩)⟩) := (rfl)
@[simp] theorem evE_isN (a : E) : evE cl gl (.isN a) env = (@R.lz _ _ _ (evE cl gl a env) ⟨fun x env => .ok (.bool (isNone x)) env⟩) := (rfl)
@[simp] theorem evE_notN (a : E) : evE cl gl (.notN a) env = (@R.lz _ _ _ (evE cl gl a env) ⟨fun x env => .ok (.bool (!isNone x)) env⟩) := (rfl)
@[simp] theorem evE_and (a b : E) : evE cl gl (.and a b) env = (@R.lz _ _ _ (evE cl gl a env) ⟨fun x env => @brO _ _ (truth x) ⟨(evE cl gl b env)⟩ ⟨(.ok x env)⟩⟩) := (rfl)
@[simp] theorem evE_or (a b : E) : evE cl gl (.or a b) env = (@R.lz _ _ _ (evE cl gl a env) ⟨fun x env => @brO _ _ (truth x) ⟨(.ok x env)⟩ ⟨(evE cl gl b env)⟩⟩) := (rfl)
@[simp] theorem evE_not (a : E) : evE cl gl (.not a) env = (@R.lz _ _ _ (evE cl gl a env) ⟨fun x env => .opt ((truth x).map fun b => .bool (!b)) env⟩) := (rfl)
@[simp] theorem evE_ife (c a b : E) : evE cl gl (.ife c a b) env = (@R.lz _ _ _ (evE cl gl c env) ⟨fun x env => @brO _ _ (truth x) ⟨(evE cl gl a env)⟩ ⟨(evE cl gl b env)⟩⟩) := (rfl)
@[simp] theorem evE_ix (a b : E) : evE cl gl (.ix a b) env = (@R.lz _ _ _ (evE cl gl a env) ⟨fun x env => (@R.lz _ _ _ (evE cl gl b env) ⟨fun y env => .opt (ixD x y) env⟩)⟩) := (rfl)
@[simp] theorem evE_sl (a : E) (lo hi : Option E) : evE cl gl (.sl a lo hi) env = (@R.lz _ _ _ (evE cl gl a env) ⟨fun x env => (@R.lz _ _ _ (evO cl gl lo env) ⟨fun l env => (@R.lz _ _ _ (evO cl gl hi env) ⟨fun h env => .opt (cutD x l h) env⟩)⟩)⟩) := (rfl)
@[simp] theorem evE_sls (a : E) (lo hi : Option E) (k : E) : evE cl gl (.sls a lo hi k) env = (@R.lz _ _ _ (evE cl gl a env) ⟨fun x env => (@R.lz _ _ _ (evO cl gl lo env) ⟨fun l env => (@R.lz _ _ _ (evO cl gl hi env) ⟨fun h env => (@R.lz _ _ _ (evE cl gl k env) ⟨fun k env => .opt ((asI k).bind (stepD x l h)) env⟩)⟩)⟩)⟩) := (rfl)
@[simp] theorem evE_isi (a : E) (t : Ty) : evE cl gl (.isi a t) env = (@R.lz _ _ _ (evE cl gl a env) ⟨fun x env => .ok (.bool (isTy t x)) env⟩) := (rfl)
@[simp] theorem evE_b1 (b : Bi) (a : E) : evE cl gl (.b1 b a) env = (@R.lz _ _ _ (evE cl gl a env) ⟨fun x env => .opt (b1D b x) env⟩) := (rfl)
@[simp] theorem evE_b2 (b : Bi) (a c : E) : evE cl gl (.b2 b a c) env = (@R.lz _ _ _ (evE cl gl a env) ⟨fun x env => (@R.lz _ _ _ (evE cl gl c env) ⟨fun y env => .opt (b2D b x y) env⟩)⟩) := (rfl)
/-- what a call leaves -/
def callR (es : List E) (env : Env) (r : R (List T) Ret) : R Env D := match r with
  | .ok r ts => (match putBack es ts env, retD r with
    | some env', some x => .ok x env'
    | _, _ => .err)
  | .exc c ds ts => (match putBack es ts env with
    | some env' => .exc c ds env'
    | none => .err)
  | .err => .err
@[simp] theorem callR_ok (es : List E) (r : Ret) (ts : List T) : callR es env (.ok r ts) = (@R.lz _ _ _ (R.opt (putBack es ts env) env) ⟨fun e _ => .opt (retD r) e⟩) := by
  unfold callR
  dsimp only
  cases putBack es ts env <;> cases retD r <;> rfl
@[simp] theorem callR_ite {c : Prop} [Decidable c] (es : List E) (a b : R (List T) Ret) : callR es env (if c then a else b) = if c then callR es env a else callR es env b := by split <;> rfl
@[simp] theorem evE_call (f : Nat) (es : List E) : evE cl gl (.call f es) env = (@R.lz _ _ _ (evAs cl gl es env) ⟨fun os env => (@R.lz _ _ _ (R.opt (fillA es os env) env) ⟨fun as env => callR es env (cl f as)⟩)⟩) := by
  show R.bind (evAs cl gl es env) _ = R.bind (evAs cl gl es env) fun os env => R.bind (R.opt (fillA es os env) env) fun as env => callR es env (cl f as)
  congr 1
  funext os env
  show (match fillA es os env with
    | some as => _
    | none => R.err) = _
  cases fillA es os env with
  | none => rfl
  | some as =>
    show _ = callR es env (cl f as)
    unfold callR
    first
      | (dsimp only; done)
      | (dsimp only; cases cl f as <;> rfl)
@[simp] theorem evE_peek (i : Nat) (ks : List E) : evE cl gl (.peek i ks) env = (@R.lz _ _ _ (evP cl gl i ks env) ⟨fun ps env => .opt (((env.own i).bind fun t => getT t ps).bind leaf) env⟩) := (rfl)
@[simp] theorem evE_view (i : Nat) (ks : List E) : evE cl gl (.view i ks) env = (@R.lz _ _ _ (evP cl gl i ks env) ⟨fun ps env => .opt (((env.own i).bind fun t => getT t ps).bind look?) env⟩) := (rfl)
@[simp] theorem evE_comp (js : List Nat) (k : IK) (it cs : List E) (e : E) : evE cl gl (.comp js k it cs e) env = (@R.lz _ _ _ (evComp js (evI cl gl k it) (evCs cl gl cs) (evE cl gl e) env) ⟨fun ys env => .ok (PyData.list ys) env⟩) := (rfl)
@[simp] theorem evP_nil (i : Nat) : evP cl gl i [] env = if ((env.own i).bind fun t => getT t []).isSome = true then .ok [] env else .err := (rfl)
@[simp] theorem evP_cons (i : Nat) (k : E) (ks : List E) : evP cl gl i (k :: ks) env = (@R.lz _ _ _ (evP cl gl i ks env) ⟨fun ps env => (@R.lz _ _ _ (evE cl gl k env) ⟨fun q env => if ((env.own i).bind fun t => getT t (ps ++ [q])).isSome = true then .ok (ps ++ [q]) env else .err⟩)⟩) := (rfl)
@[simp] theorem evEs_nil : evEs cl gl [] env = .ok [] env := (rfl)
@[simp] theorem evEs_cons (e : E) (es : List E) : evEs cl gl (e :: es) env = (@R.lz _ _ _ (evE cl gl e env) ⟨fun x env => (@R.lz _ _ _ (evEs cl gl es env) ⟨fun xs env => .ok (x :: xs) env⟩)⟩) := (rfl)
@[simp] theorem evAs_nil : evAs cl gl [] env = .ok [] env := (rfl)
@[simp] theorem evAs_h (i : Nat) (es : List E) : evAs cl gl (.hand i :: es) env = if (env.own i).isSome = true then (@R.lz _ _ _ (evAs cl gl es env) ⟨fun os env => .ok (none :: os) env⟩) else .err := (rfl)
def isHand : E → Bool
  | .hand _ => true
  | _ => false
@[simp] theorem isHand_var (i : Nat) : isHand (.var i) = false := (rfl)
@[simp] theorem isHand_con (x : D) : isHand (.con x) = false := (rfl)
@[simp] theorem isHand_glob (k : Nat) : isHand (.glob k) = false := (rfl)
@[simp] theorem isHand_tup (es : List E) : isHand (.tup es) = false := (rfl)
@[simp] theorem isHand_lst (es : List E) : isHand (.lst es) = false := (rfl)
@[simp] theorem isHand_bin (o : Op) (a b : E) : isHand (.bin o a b) = false := (rfl)
@[simp] theorem isHand_neg (a : E) : isHand (.neg a) = false := (rfl)
@[simp] theorem isHand_cmp (a : E) (o : Cm) (b : E) : isHand (.cmp a o b) = false := (rfl)
@[simp] theorem isHand_cmp2 (a : E) (o : Cm) (b : E) (o2 : Cm) (c : E) : isHand (.cmp2 a o b o2 c) = false := (rfl)
@[simp] theorem isHand_isN (a : E) : isHand (.isN a) = false := (rfl)
@[simp] theorem isHand_notN (a : E) : isHand (.notN a) = false := (rfl)
@[simp] theorem isHand_and (a b : E) : isHand (.and a b) = false := (rfl)
@[simp] theorem isHand_or (a b : E) : isHand (.or a b) = false := (rfl)
@[simp] theorem isHand_not (a : E) : isHand (.not a) = false := (rfl)
@[simp] theorem isHand_ife (c a b : E) : isHand (.ife c a b) = false := (rfl)
@[simp] theorem isHand_ix (a b : E) : isHand (.ix a b) = false := (rfl)
@[simp] theorem isHand_sl (a : E) (lo hi : Option E) : isHand (.sl a lo hi) = false := (rfl)
@[simp] theorem isHand_sls (a : E) (lo hi : Option E) (k : E) : isHand (.sls a lo hi k) = false := (rfl)
@[simp] theorem isHand_isi (a : E) (t : Ty) : isHand (.isi a t) = false := (rfl)
@[simp] theorem isHand_b1 (b : Bi) (a : E) : isHand (.b1 b a) = false := (rfl)
@[simp] theorem isHand_b2 (b : Bi) (a c : E) : isHand (.b2 b a c) = false := (rfl)
@[simp] theorem isHand_call (f : Nat) (es : List E) : isHand (.call f es) = false := (rfl)
@[simp] theorem isHand_peek (i : Nat) (ks : List E) : isHand (.peek i ks) = false := (rfl)
@[simp] theorem isHand_view (i : Nat) (ks : List E) : isHand (.view i ks) = false := (rfl)
@[simp] theorem isHand_pop (i : Nat) (ks : List E) (k : Option E) : isHand (.pop i ks k) = false := (rfl)
@[simp] theorem isHand_comp (js : List Nat) (k : IK) (it cs : List E) (e : E) : isHand (.comp js k it cs e) = false := (rfl)
theorem evAs_d {e : E} (h : isHand e = false) (es : List E) : evAs cl gl (e :: es) env = (evE cl gl e env).bind fun x env => (evAs cl gl es env).bind fun os env => .ok (some x :: os) env := by
  cases e <;> first | rfl | cases h
@[simp] theorem evO_none : evO cl gl none env = .ok none env := (rfl)
@[simp] theorem evO_some (e : E) : evO cl gl (some e) env = (@R.lz _ _ _ (evE cl gl e env) ⟨fun x env => .opt ((asI x).map some) env⟩) := (rfl)
@[simp] theorem evCs_nil : evCs cl gl [] env = .ok true env := (rfl)
@[simp] theorem evCs_cons (c : E) (cs : List E) : evCs cl gl (c :: cs) env = (@R.lz _ _ _ (evE cl gl c env) ⟨fun x env => @brO _ _ (truth x) ⟨(evCs cl gl cs env)⟩ ⟨(.ok false env)⟩⟩) := (rfl)
@[simp] theorem evI_any (a : E) : evI cl gl .any [a] env = (@R.lz _ _ _ (evE cl gl a env) ⟨fun x env => .opt (walked x) env⟩) := (rfl)
@[simp] theorem evI_rng (a : E) : evI cl gl .rng [a] env = (@R.lz _ _ _ (evE cl gl a env) ⟨fun x env => .opt (rangeD [x]) env⟩) := (rfl)
@[simp] theorem evI_rng2 (a b : E) : evI cl gl .rng [a, b] env = (@R.lz _ _ _ (evE cl gl a env) ⟨fun x env => (@R.lz _ _ _ (evE cl gl b env) ⟨fun y env => .opt (rangeD [x, y]) env⟩)⟩) := (rfl)
@[simp] theorem evI_enum (a : E) : evI cl gl .enum [a] env = (@R.lz _ _ _ (evE cl gl a env) ⟨fun x env => .opt (enum? x) env⟩) := (rfl)
@[simp] theorem evI_zip (a b : E) : evI cl gl .zip [a, b] env = (@R.lz _ _ _ (evE cl gl a env) ⟨fun x env => (@R.lz _ _ _ (evE cl gl b env) ⟨fun y env => .opt (zip? x y) env⟩)⟩) := (rfl)
/-- one argument -/
@[simp] theorem fillA_nil : fillA [] [] env = some [] := (rfl)
@[simp] theorem fillA_h (i : Nat) (es : List E) (os : List (Option D)) : fillA (.hand i :: es) (none :: os) env = (env.own i).bind fun t => (fillA es os env).map (.o t :: ·) := by
  show (match env.own i, fillA es os env with
    | some t, some as => some (Arg.o t :: as)
    | _, _ => none) = _
  cases env.own i <;> cases fillA es os env <;> rfl
theorem fillA_d {e : E} (h : isHand e = false) (es : List E) (x : D) (os : List (Option D)) : fillA (e :: es) (some x :: os) env = (fillA es os env).map (.d x :: ·) := by
  cases e <;> first | rfl | cases h
@[simp] theorem putBack_nil : putBack [] [] env = some env := (rfl)
@[simp] theorem putBack_h (i : Nat) (es : List E) (t : T) (ts : List T) : putBack (.hand i :: es) (t :: ts) env = putBack es ts (env.set i (.own t)) := (rfl)
theorem putBack_d {e : E} (h : isHand e = false) (es : List E) (ts : List T) : putBack (e :: es) ts env = putBack es ts env := by
  cases e <;> first | rfl | cases h
@[simp] theorem evAs_var (i : Nat) (es : List E) : evAs cl gl (.var i :: es) env = (@R.lz _ _ _ (evE cl gl (.var i) env) ⟨fun x env => (@R.lz _ _ _ (evAs cl gl es env) ⟨fun os env => .ok (some x :: os) env⟩)⟩) := (rfl)
@[simp] theorem fillA_var (i : Nat) (es : List E) (y : D) (os : List (Option D)) : fillA (.var i :: es) (some y :: os) env = (fillA es os env).map (.d y :: ·) := (rfl)
@[simp] theorem putBack_var (i : Nat) (es : List E) (ts : List T) : putBack (.var i :: es) ts env = putBack es ts env := by cases ts <;> rfl
@[simp] theorem evAs_con (x : D) (es : List E) : evAs cl gl (.con x :: es) env = (@R.lz _ _ _ (evE cl gl (.con x) env) ⟨fun x env => (@R.lz _ _ _ (evAs cl gl es env) ⟨fun os env => .ok (some x :: os) env⟩)⟩) := (rfl)
@[simp] theorem fillA_con (x : D) (es : List E) (y : D) (os : List (Option D)) : fillA (.con x :: es) (some y :: os) env = (fillA es os env).map (.d y :: ·) := (rfl)
@[simp] theorem putBack_con (x : D) (es : List E) (ts : List T) : putBack (.con x :: es) ts env = putBack es ts env := by cases ts <;> rfl
@[simp] theorem evAs_glob (k : Nat) (es : List E) : evAs cl gl (.glob k :: es) env = (@R.lz _ _ _ (evE cl gl (.glob k) env) ⟨fun x env => (@R.lz _ _ _ (evAs cl gl es env) ⟨fun os env => .ok (some x :: os) env⟩)⟩) := (rfl)
@[simp] theorem fillA_glob (k : Nat) (es : List E) (y : D) (os : List (Option D)) : fillA (.glob k :: es) (some y :: os) env = (fillA es os env).map (.d y :: ·) := (rfl)
@[simp] theorem putBack_glob (k : Nat) (es : List E) (ts : List T) : putBack (.glob k :: es) ts env = putBack es ts env := by cases ts <;> rfl
@[simp] theorem evAs_tup (fs : List E) (es : List E) : evAs cl gl (.tup fs :: es) env = (@R.lz _ _ _ (evE cl gl (.tup fs) env) ⟨fun x env => (@R.lz _ _ _ (evAs cl gl es env) ⟨fun os env => .ok (some x :: os) env⟩)⟩) := (rfl)
@[simp] theorem fillA_tup (fs : List E) (es : List E) (y : D) (os : List (Option D)) : fillA (.tup fs :: es) (some y :: os) env = (fillA es os env).map (.d y :: ·) := (rfl)
@[simp] theorem putBack_tup (fs : List E) (es : List E) (ts : List T) : putBack (.tup fs :: es) ts env = putBack es ts env := by cases ts <;> rfl
@[simp] theorem evAs_lst (fs : List E) (es : List E) : evAs cl gl (.lst fs :: es) env = (@R.lz _ _ _ (evE cl gl (.lst fs) env) ⟨fun x env => (@R.lz _ _ _ (evAs cl gl es env) ⟨fun os env => .ok (some x :: os) env⟩)⟩) := (rfl)
@[simp] theorem fillA_lst (fs : List E) (es : List E) (y : D) (os : List (Option D)) : fillA (.lst fs :: es) (some y :: os) env = (fillA es os env).map (.d y :: ·) := (rfl)
@[simp] theorem putBack_lst (fs : List E) (es : List E) (ts : List T) : putBack (.lst fs :: es) ts env = putBack es ts env := by cases ts <;> rfl
@[simp] theorem evAs_bin (o : Op) (a b : E) (es : List E) : evAs cl gl (.bin o a b :: es) env = (@R.lz _ _ _ (evE cl gl (.bin o a b) env) ⟨fun x env => (@R.lz _ _ _ (evAs cl gl es env) ⟨fun os env => .ok (some x :: os) env⟩)⟩) := (rfl)
@[simp] theorem fillA_bin (o : Op) (a b : E) (es : List E) (y : D) (os : List (Option D)) : fillA (.bin o a b :: es) (some y :: os) env = (fillA es os env).map (.d y :: ·) := (rfl)
@[simp] theorem putBack_bin (o : Op) (a b : E) (es : List E) (ts : List T) : putBack (.bin o a b :: es) ts env = putBack es ts env := by cases ts <;> rfl
@[simp] theorem evAs_neg (a : E) (es : List E) : evAs cl gl (.neg a :: es) env = (@R.lz _ _ _ (evE cl gl (.neg a) env) ⟨fun x env => (@R.lz _ _ _ (evAs cl gl es env) ⟨fun os env => .ok (some x :: os) env⟩)⟩) := (rfl)
@[simp] theorem fillA_neg (a : E) (es : List E) (y : D) (os : List (Option D)) : fillA (.neg a :: es) (some y :: os) env = (fillA es os env).map (.d y :: ·) := (rfl)
@[simp] theorem putBack_neg (a : E) (es : List E) (ts : List T) : putBack (.neg a :: es) ts env = putBack es ts env := by cases ts <;> rfl
@[simp] theorem evAs_cmp (a : E) (o : Cm) (b : E) (es : List E) : evAs cl gl (.cmp a o b :: es) env = (@R.lz _ _ _ (evE cl gl (.cmp a o b) env) ⟨fun x env => (@R.lz _ _ _ (evAs cl gl es env) ⟨fun os env => .ok (some x :: os) env⟩)⟩) := (rfl)
@[simp] theorem fillA_cmp (a : E) (o : Cm) (b : E) (es : List E) (y : D) (os : List (Option D)) : fillA (.cmp a o b :: es) (some y :: os) env = (fillA es os env).map (.d y :: ·) := (rfl)
@[simp] theorem putBack_cmp (a : E) (o : Cm) (b : E) (es : List E) (ts : List T) : putBack (.cmp a o b :: es) ts env = putBack es ts env := by cases ts <;> rfl
@[simp] theorem evAs_cmp2 (a : E) (o : Cm) (b : E) (o2 : Cm) (c : E) (es : List E) : evAs cl gl (.cmp2 a o b o2 c :: es) env = (@R.lz _ _ _ (evE cl gl (.cmp2 a o b o2 c) env) ⟨fun x env => (@R.lz _ _ _ (evAs cl gl es env) ⟨fun os env => .ok (some x :: os) env⟩)⟩) := (rfl)
@[simp] theorem fillA_cmp2 (a : E) (o : Cm) (b : E) (o2 : Cm) (c : E) (es : List E) (y : D) (os : List (Option D)) : fillA (.cmp2 a o b o2 c :: es) (some y :: os) env = (fillA es os env).map (.d y :: ·) := (rfl)
@[simp] theorem putBack_cmp2 (a : E) (o : Cm) (b : E) (o2 : Cm) (c : E) (es : List E) (ts : List T) : putBack (.cmp2 a o b o2 c :: es) ts env = putBack es ts env := by cases ts <;> rfl
@[simp] theorem evAs_isN (a : E) (es : List E) : evAs cl gl (.isN a :: es) env = (@R.lz _ _ _ (evE cl gl (.isN a) env) ⟨fun x env => (@R.lz _ _ _ (evAs cl gl es env) ⟨fun os env => .ok (some x :: os) env⟩)⟩) := (rfl)
@[simp] theorem fillA_isN (a : E) (es : List E) (y : D) (os : List (Option D)) : fillA (.isN a :: es) (some y :: os) env = (fillA es os env).map (.d y :: ·) := (rfl)
@[simp] theorem putBack_isN (a : E) (es : List E) (ts : List T) : putBack (.isN a :: es) ts env = putBack es ts env := by cases ts <;> rfl
@[simp] theorem evAs_notN (a : E) (es : List E) : evAs cl gl (.notN a :: es) env = (@R.lz _ _ _ (evE cl gl (.notN a) env) ⟨fun x env => (@R.lz _ _ _ (evAs cl gl es env) ⟨fun os env => .ok (some x :: os) env⟩)⟩) := (rfl)
@[simp] theorem fillA_notN (a : E) (es : List E) (y : D) (os : List (Option D)) : fillA (.notN a :: es) (some y :: os) env = (fillA es os env).map (.d y :: ·) := (rfl)
@[simp] theorem putBack_notN (a : E) (es : List E) (ts : List T) : putBack (.notN a :: es) ts env = putBack es ts env := by cases ts <;> rfl
@[simp] theorem evAs_and (a b : E) (es : List E) : evAs cl gl (.and a b :: es) env = (@R.lz _ _ _ (evE cl gl (.and a b) env) ⟨fun x env => (@R.lz _ _ _ (evAs cl gl es env) ⟨fun os env => .ok (some x :: os) env⟩)⟩) := (rfl)
@[simp] theorem fillA_and (a b : E) (es : List E) (y : D) (os : List (Option D)) : fillA (.and a b :: es) (some y :: os) env = (fillA es os env).map (.d y :: ·) := (rfl)
@[simp] theorem putBack_and (a b : E) (es : List E) (ts : List T) : putBack (.and a b :: es) ts env = putBack es ts env := by cases ts <;> rfl
@[simp] theorem evAs_or (a b : E) (es : List E) : evAs cl gl (.or a b :: es) env = (@R.lz _ _ _ (evE cl gl (.or a b) env) ⟨fun x env => (@R.lz _ _ _ (evAs cl gl es env) ⟨fun os env => .ok (some x :: os) env⟩)⟩) := (rfl)
@[simp] theorem fillA_or (a b : E) (es : List E) (y : D) (os : List (Option D)) : fillA (.or a b :: es) (some y :: os) env = (fillA es os env).map (.d y :: ·) := (rfl)
@[simp] theorem putBack_or (a b : E) (es : List E) (ts : List T) : putBack (.or a b :: es) ts env = putBack es ts env := by cases ts <;> rfl
@[simp] theorem evAs_not (a : E) (es : List E) : evAs cl gl (.not a :: es) env = (@R.lz _ _ _ (evE cl gl (.not a) env) ⟨fun x env => (@R.lz _ _ _ (evAs cl gl es env) ⟨fun os env => .ok (some x :: os) env⟩)⟩) := (rfl)
@[simp] theorem fillA_not (a : E) (es : List E) (y : D) (os : List (Option D)) : fillA (.not a :: es) (some y :: os) env = (fillA es os env).map (.d y :: ·) := (rfl)
@[simp] theorem putBack_not (a : E) (es : List E) (ts : List T) : putBack (.not a :: es) ts env = putBack es ts env := by cases ts <;> rfl
@[simp] theorem evAs_ife (c a b : E) (es : List E) : evAs cl gl (.ife c a b :: es) env = (@R.lz _ _ _ (evE cl gl (.ife c a b) env) ⟨fun x env => (@R.lz _ _ _ (evAs cl gl es env) ⟨fun os env => .ok (some x :: os) env⟩)⟩) := (rfl)
@[simp] theorem fillA_ife (c a b : E) (es : List E) (y : D) (os : List (Option D)) : fillA (.ife c a b :: es) (some y :: os) env = (fillA es os env).map (.d y :: ·) := (rfl)
@[simp] theorem putBack_ife (c a b : E) (es : List E) (ts : List T) : putBack (.ife c a b :: es) ts env = putBack es ts env := by cases ts <;> rfl
@[simp] theorem evAs_ix (a b : E) (es : List E) : evAs cl gl (.ix a b :: es) env = (@R.lz _ _ _ (evE cl gl (.ix a b) env) ⟨fun x env => (@R.lz _ _ _ (evAs cl gl es env) ⟨fun os env => .ok (some x :: os) env⟩)⟩) := (rfl)
@[simp] theorem fillA_ix (a b : E) (es : List E) (y : D) (os : List (Option D)) : fillA (.ix a b :: es) (some y :: os) env = (fillA es os env).map (.d y :: ·) := (rfl)
@[simp] theorem putBack_ix (a b : E) (es : List E) (ts : List T) : putBack (.ix a b :: es) ts env = putBack es ts env := by cases ts <;> rfl
@[simp] theorem evAs_sl (a : E) (lo hi : Option E) (es : List E) : evAs cl gl (.sl a lo hi :: es) env = (@R.lz _ _ _ (evE cl gl (.sl a lo hi) env) ⟨fun x env => (@R.lz _ _ _ (evAs cl gl es env) ⟨fun os env => .ok (some x :: os) env⟩)⟩) := (rfl)
@[simp] theorem fillA_sl (a : E) (lo hi : Option E) (es : List E) (y : D) (os : List (Option D)) : fillA (.sl a lo hi :: es) (some y :: os) env = (fillA es os env).map (.d y :: ·) := (rfl)
@[simp] theorem putBack_sl (a : E) (lo hi : Option E) (es : List E) (ts : List T) : putBack (.sl a lo hi :: es) ts env = putBack es ts env := by cases ts <;> rfl
@[simp] theorem evAs_sls (a : E) (lo hi : Option E) (k : E) (es : List E) : evAs cl gl (.sls a lo hi k :: es) env = (@R.lz _ _ _ (evE cl gl (.sls a lo hi k) env) ⟨fun x env => (@R.lz _ _ _ (evAs cl gl es env) ⟨fun os env => .ok (some x :: os) env⟩)⟩) := (rfl)
@[simp] theorem fillA_sls (a : E) (lo hi : Option E) (k : E) (es : List E) (y : D) (os : List (Option D)) : fillA (.sls a lo hi k :: es) (some y :: os) env = (fillA es os env).map (.d y :: ·) := (rfl)
@[simp] theorem putBack_sls (a : E) (lo hi : Option E) (k : E) (es : List E) (ts : List T) : putBack (.sls a lo hi k :: es) ts env = putBack es ts env := by cases ts <;> rfl
@[simp] theorem evAs_isi (a : E) (t : Ty) (es : List E) : evAs cl gl (.isi a t :: es) env = (@R.lz _ _ _ (evE cl gl (.isi a t) env) ⟨fun x env => (@R.lz _ _ _ (evAs cl gl es env) ⟨fun os env => .ok (some x :: os) env⟩)⟩) := (rfl)
@[simp] theorem fillA_isi (a : E) (t : Ty) (es : List E) (y : D) (os : List (Option D)) : fillA (.isi a t :: es) (some y :: os) env = (fillA es os env).map (.d y :: ·) := (rfl)
@[simp] theorem putBack_isi (a : E) (t : Ty) (es : List E) (ts : List T) : putBack (.isi a t :: es) ts env = putBack es ts env := by cases ts <;> rfl
@[simp] theorem evAs_b1 (b : Bi) (a : E) (es : List E) : evAs cl gl (.b1 b a :: es) env = (@R.lz _ _ _ (evE cl gl (.b1 b a) env) ⟨fun x env => (@R.lz _ _ _ (evAs cl gl es env) ⟨fun os env => .ok (some x :: os) env⟩)⟩) := (rfl)
@[simp] theorem fillA_b1 (b : Bi) (a : E) (es : List E) (y : D) (os : List (Option D)) : fillA (.b1 b a :: es) (some y :: os) env = (fillA es os env).map (.d y :: ·) := (rfl)
@[simp] theorem putBack_b1 (b : Bi) (a : E) (es : List E) (ts : List T) : putBack (.b1 b a :: es) ts env = putBack es ts env := by cases ts <;> rfl
@[simp] theorem evAs_b2 (b : Bi) (a c : E) (es : List E) : evAs cl gl (.b2 b a c :: es) env = (@R.lz _ _ _ (evE cl gl (.b2 b a c) env) ⟨fun x env => (@R.lz _ _ _ (evAs cl gl es env) ⟨fun os env => .ok (some x :: os) env⟩)⟩) := (rfl)
@[simp] theorem fillA_b2 (b : Bi) (a c : E) (es : List E) (y : D) (os : List (Option D)) : fillA (.b2 b a c :: es) (some y :: os) env = (fillA es os env).map (.d y :: ·) := (rfl)
@[simp] theorem putBack_b2 (b : Bi) (a c : E) (es : List E) (ts : List T) : putBack (.b2 b a c :: es) ts env = putBack es ts env := by cases ts <;> rfl
@[simp] theorem evAs_call (f : Nat) (fs : List E) (es : List E) : evAs cl gl (.call f fs :: es) env = (@R.lz _ _ _ (evE cl gl (.call f fs) env) ⟨fun x env => (@R.lz _ _ _ (evAs cl gl es env) ⟨fun os env => .ok (some x :: os) env⟩)⟩) := (rfl)
@[simp] theorem fillA_call (f : Nat) (fs : List E) (es : List E) (y : D) (os : List (Option D)) : fillA (.call f fs :: es) (some y :: os) env = (fillA es os env).map (.d y :: ·) := (rfl)
@[simp] theorem putBack_call (f : Nat) (fs : List E) (es : List E) (ts : List T) : putBack (.call f fs :: es) ts env = putBack es ts env := by cases ts <;> rfl
@[simp] theorem evAs_peek (i : Nat) (ks : List E) (es : List E) : evAs cl gl (.peek i ks :: es) env = (@R.lz _ _ _ (evE cl gl (.peek i ks) env) ⟨fun x env => (@R.lz _ _ _ (evAs cl gl es env) ⟨fun os env => .ok (some x :: os) env⟩)⟩) := (rfl)
@[simp] theorem fillA_peek (i : Nat) (ks : List E) (es : List E) (y : D) (os : List (Option D)) : fillA (.peek i ks :: es) (some y :: os) env = (fillA es os env).map (.d y :: ·) := (rfl)
@[simp] theorem putBack_peek (i : Nat) (ks : List E) (es : List E) (ts : List T) : putBack (.peek i ks :: es) ts env = putBack es ts env := by cases ts <;> rfl
@[simp] theorem evAs_view (i : Nat) (ks : List E) (es : List E) : evAs cl gl (.view i ks :: es) env = (@R.lz _ _ _ (evE cl gl (.view i ks) env) ⟨fun x env => (@R.lz _ _ _ (evAs cl gl es env) ⟨fun os env => .ok (some x :: os) env⟩)⟩) := (rfl)
@[simp] theorem fillA_view (i : Nat) (ks : List E) (es : List E) (y : D) (os : List (Option D)) : fillA (.view i ks :: es) (some y :: os) env = (fillA es os env).map (.d y :: ·) := (rfl)
@[simp] theorem putBack_view (i : Nat) (ks : List E) (es : List E) (ts : List T) : putBack (.view i ks :: es) ts env = putBack es ts env := by cases ts <;> rfl
@[simp] theorem evAs_pop (i : Nat) (ks : List E) (k : Option E) (es : List E) : evAs cl gl (.pop i ks k :: es) env = (@R.lz _ _ _ (evE cl gl (.pop i ks k) env) ⟨fun x env => (@R.lz _ _ _ (evAs cl gl es env) ⟨fun os env => .ok (some x :: os) env⟩)⟩) := (rfl)
@[simp] theorem fillA_pop (i : Nat) (ks : List E) (k : Option E) (es : List E) (y : D) (os : List (Option D)) : fillA (.pop i ks k :: es) (some y :: os) env = (fillA es os env).map (.d y :: ·) := (rfl)
@[simp] theorem putBack_pop (i : Nat) (ks : List E) (k : Option E) (es : List E) (ts : List T) : putBack (.pop i ks k :: es) ts env = putBack es ts env := by cases ts <;> rfl
@[simp] theorem evAs_comp (js : List Nat) (k : IK) (it cs : List E) (e : E) (es : List E) : evAs cl gl (.comp js k it cs e :: es) env = (@R.lz _ _ _ (evE cl gl (.comp js k it cs e) env) ⟨fun x env => (@R.lz _ _ _ (evAs cl gl es env) ⟨fun os env => .ok (some x :: os) env⟩)⟩) := (rfl)
@[simp] theorem fillA_comp (js : List Nat) (k : IK) (it cs : List E) (e : E) (es : List E) (y : D) (os : List (Option D)) : fillA (.comp js k it cs e :: es) (some y :: os) env = (fillA es os env).map (.d y :: ·) := (rfl)
@[simp] theorem putBack_comp (js : List Nat) (k : IK) (it cs : List E) (e : E) (es : List E) (ts : List T) : putBack (.comp js k it cs e :: es) ts env = putBack es ts env := by cases ts <;> rfl
@[simp] theorem retD_d (x : D) : retD (.d x) = some x := (rfl)
@[simp] theorem truth_b (b : Bool) : truth (.bool b) = some b := (rfl)
@[simp] theorem own_nil (i : Nat) : Env.own [] i = none := (rfl)
@[simp] theorem own_0 (t : T) (e : Env) : Env.own (.own t :: e) 0 = some t := (rfl)
@[simp] theorem own_s (s : Slot) (e : Env) (i : Nat) : Env.own (s :: e) (i + 1) = Env.own e i := (rfl)
@[simp] theorem val_0 (t : D) (e : Env) : Env.val (.val t :: e) 0 = some t := (rfl)
@[simp] theorem val_s (s : Slot) (e : Env) (i : Nat) : Env.val (s :: e) (i + 1) = Env.val e i := (rfl)
@[simp] theorem sto_0 (s : Slot) (e : Env) (x : D) : Env.sto (s :: e) 0 x = .val x :: e := (rfl)
@[simp] theorem sto_s (s : Slot) (e : Env) (i : Nat) (x : D) : Env.sto (s :: e) (i + 1) x = s :: Env.sto e i x := (rfl)
@[simp] theorem bindT_1 (j : Nat) (x : D) : bindT [j] x env = some (env.sto j x) := (rfl)
@[simp] theorem outs_nil (i : Nat) : outs [] i env = some [] := (rfl)
@[simp] theorem outs_f (hs : List Bool) (i : Nat) : outs (false :: hs) i env = outs hs (i + 1) env := (rfl)
@[simp] theorem outs_t (hs : List Bool) (i : Nat) : outs (true :: hs) i env = (env.own i).bind fun t => (outs hs (i + 1) env).map (t :: ·) := by
  show (match env.own i, outs hs (i + 1) env with
    | some t, some ts => some (t :: ts)
    | _, _ => none) = _
  cases env.own i <;> cases outs hs (i + 1) env <;> rfl
end
/-! new trees -/
section
variable {cl : Call} {gl : List D} {env : Env}
def callT (es : List E) (env : Env) (r : R (List T) Ret) : R Env T := match r with
  | .ok (.o t) ts => (match putBack es ts env with
    | some env' => .ok t env'
    | none => .err)
  | .ok (.d _) _ => .err
  | .exc c ds ts => (match putBack es ts env with
    | some env' => .exc c ds env'
    | none => .err)
  | .err => .err
@[simp] theorem callT_ok (es : List E) (t : T) (ts : List T) : callT es env (.ok (.o t) ts) = (@R.lz _ _ _ (R.opt (putBack es ts env) env) ⟨fun e _ => .ok t e⟩) := by
  unfold callT
  dsimp only
  cases putBack es ts env <;> rfl
@[simp] theorem evT_lst (es : List E) : evT cl gl (.lst es) env = (@R.lz _ _ _ (evTs cl gl es env) ⟨fun ts env => if fits ts.length = true then .ok (.lst ts) env else .err⟩) := (rfl)
@[simp] theorem evT_call (f : Nat) (es : List E) : evT cl gl (.call f es) env = (@R.lz _ _ _ (evAs cl gl es env) ⟨fun os env => (@R.lz _ _ _ (R.opt (fillA es os env) env) ⟨fun as env => callT es env (cl f as)⟩)⟩) := by
  show R.bind (evAs cl gl es env) _ = R.bind (evAs cl gl es env) fun os env => R.bind (R.opt (fillA es os env) env) fun as env => callT es env (cl f as)
  congr 1
  funext os env
  show (match fillA es os env with
    | some as => _
    | none => R.err) = _
  cases fillA es os env with
  | none => rfl
  | some as =>
    show _ = callT es env (cl f as)
    unfold callT
    first
      | (dsimp only; done)
      | (dsimp only
         cases cl f as with
         | ok r ts => cases r <;> rfl
         | exc c ds ts => rfl
         | err => rfl)
@[simp] theorem evTs_nil : evTs cl gl [] env = .ok [] env := (rfl)
@[simp] theorem evTs_lst (es r : List E) : evTs cl gl (.lst es :: r) env = (@R.lz _ _ _ (evT cl gl (.lst es) env) ⟨fun t env => (@R.lz _ _ _ (evTs cl gl r env) ⟨fun ts env => .ok (t :: ts) env⟩)⟩) := (rfl)
@[simp] theorem evTs_con (x : D) (r : List E) : evTs cl gl (.con x :: r) env = (@R.lz _ _ _ (evE cl gl (.con x) env) ⟨fun x env => (@R.lz _ _ _ (evTs cl gl r env) ⟨fun ts env => .ok (.d x :: ts) env⟩)⟩) := (rfl)
@[simp] theorem evTs_var (x : Nat) (r : List E) : evTs cl gl (.var x :: r) env = (@R.lz _ _ _ (evE cl gl (.var x) env) ⟨fun x env => (@R.lz _ _ _ (evTs cl gl r env) ⟨fun ts env => .ok (.d x :: ts) env⟩)⟩) := (rfl)
end
/-! operators on what is known -/
@[simp] theorem bin_add (i j : Int) : binD .add (.int i) (.int j) = some (.int (i + j)) := (rfl)
@[simp] theorem bin_sub (i j : Int) : binD .sub (.int i) (.int j) = some (.int (i - j)) := (rfl)
theorem small_of {i : Int} (h : -18446744073709551616 < i ∧ i < 18446744073709551616) : small i = true := by
  unfold small
  rw [decide_eq_true_eq]
  omega
theorem bin_mulR {i j : Int} (h : small j = true) : binD .mul (.int i) (.int j) = some (.int (i * j)) := by
  simp [binD, binI, h]
theorem bin_mulL {i j : Int} (h : small i = true) : binD .mul (.int i) (.int j) = some (.int (i * j)) := by
  simp [binD, binI, h]
@[simp] theorem bin_mul_lit (i : Int) (k : Nat) : binD .mul (.int i) (.int (no_index (OfNat.ofNat k : Int))) = if k < 18446744073709551616 then some (.int (i * (OfNat.ofNat k : Int))) else if small i = true then some (.int (i * (OfNat.ofNat k : Int))) else none := by
  by_cases h : k < 18446744073709551616
  · rw [if_pos h]
    refine bin_mulR (small_of ?_)
    show _ < (k : Int) ∧ (k : Int) < _
    omega
  · rw [if_neg h]
    by_cases h2 : small i = true
    · rw [if_pos h2, bin_mulL h2]
    · rw [if_neg h2]
      have : small (OfNat.ofNat k : Int) = false := by
        show small (k : Int) = false
        unfold small
        rw [decide_eq_false_iff_not]
        omega
      simp [binD, binI, this, h2]
theorem bin_mod {i j : Int} (h : 0 < j) : binD .mod (.int i) (.int j) = some (.int (i % j)) := by
  simp [binD, binI, h]
theorem bin_fdiv {i j : Int} (h : 0 < j ∧ j < 1073741824) : binD .fdiv (.int i) (.int j) = some (.int (i / j)) := by
  simp [binD, binI, h]
theorem cmp_lt (i j : Int) : cmpD .lt (.int i) (.int j) = some (decide (i < j)) := rfl
theorem cmp_le (i j : Int) : cmpD .le (.int i) (.int j) = some (decide (i ≤ j)) := rfl
theorem cmp_gt (i j : Int) : cmpD .gt (.int i) (.int j) = some (decide (j < i)) := rfl
theorem cmp_ge (i j : Int) : cmpD .ge (.int i) (.int j) = some (decide (j ≤ i)) := rfl
theorem cmp_eqI (i j : Int) : cmpD .eq (.int i) (.int j) = some (decide (i = j)) := by
  simp [cmpD, dep, PyData.depth, PyData.eqv]
  rfl
theorem cmp_neI (i j : Int) : cmpD .ne (.int i) (.int j) = some (!decide (i = j)) := by
  simp [cmpD, dep, PyData.depth, PyData.eqv]
  rfl

@[simp] theorem start_nil : startEnv [] = [] := (rfl)
@[simp] theorem start_d (x : D) (as : List Arg) : startEnv (.d x :: as) = .val x :: startEnv as := (rfl)
@[simp] theorem start_o (x : T) (as : List Arg) : startEnv (.o x :: as) = .own x :: startEnv as := (rfl)
@[simp] theorem getT_nil (t : T) : getT t [] = some t := (rfl)
@[simp] theorem getT_cons (t : T) (k : D) (ks : List D) : getT t (k :: ks) = (ixT t k).bind fun u => getT u ks := (rfl)
@[simp] theorem ixT_lst (xs : List T) (i : Int) : ixT (.lst xs) (.int i) = L2.atI xs i := (rfl)
@[simp] theorem modT_nil (f : T → Option T) (t : T) : modT f t [] = f t := (rfl)
@[simp] theorem modT_cons (f : T → Option T) (t : T) (k : D) (ks : List D) : modT f t (k :: ks) = (ixT t k).bind fun u => (modT f u ks).bind fun v => setT t k v := (rfl)
@[simp] theorem setT_lst (xs : List T) (i : Int) (u : T) : setT (.lst xs) (.int i) u = (L2.ixN xs.length i).map fun j => .lst (xs.set j u) := (rfl)
@[simp] theorem fPut_eq (k : D) (u t : T) : fPut k u t = setT t k u := (rfl)
@[simp] theorem fApp_lst (u : T) (ts : List T) : fApp u (.lst ts) = if ts.length < 16777216 then some (.lst (ts ++ [u])) else none := by
  unfold fApp
  simp
@[simp] theorem chg_eq (i : Nat) (ks : List D) (f : T → Option T) (env : Env) : chg i ks f env = (@R.lz _ _ _ (R.opt ((env.own i).bind fun t => modT f t ks) env) ⟨fun t env => R.ok .nx (env.set i (.own t))⟩) := by
  unfold chg
  cases (env.own i).bind fun t => modT f t ks <;> rfl
@[simp] theorem look_d (x : D) : look? (.d x) = some x := (rfl)
@[simp] theorem look_l (ts : List T) : look? (.lst ts) = (leaves ts).map .list := (rfl)
@[simp] theorem leaf_d (x : D) : leaf (.d x) = some x := (rfl)
@[simp] theorem leaves_nil : leaves [] = some [] := (rfl)
@[simp] theorem leaves_d (x : D) (r : List T) : leaves (.d x :: r) = (leaves r).map (x :: ·) := (rfl)
@[simp] theorem leaves_map {α : Type} (f : α → D) : ∀ xs : List α, leaves (xs.map fun a => T.d (f a)) = some (xs.map f)
  | [] => rfl
  | x :: xs => by
    show (leaves (xs.map fun a => T.d (f a))).map (f x :: ·) = _
    rw [leaves_map f xs]
    rfl
@[simp] theorem guardL_eq {α : Type} (i : Nat) (ps : List D) (env : Env) (k : R Env α) : guardL i ps env k = if lstAt i ps env = true then k else .err := (rfl)
theorem lstAt_of {i : Nat} {ps : List D} {env : Env} {ts : List T} (h : (env.own i).bind (fun t => getT t ps) = some (.lst ts)) : lstAt i ps env = true := by
  unfold lstAt
  rw [h]
@[simp] theorem ixN_lit (n k : Nat) : L2.ixN n (no_index (OfNat.ofNat k : Int)) = if k < n then some k else none := by
  show L2.ixN n (k : Int) = _
  unfold L2.ixN
  rw [if_pos (by omega)]
  by_cases h : k < n
  · rw [if_pos (by omega), if_pos h]; rfl
  · rw [if_neg (by omega), if_neg h]
theorem ixN_nat {n : Nat} {i : Int} (h : 0 ≤ i ∧ i < n) : L2.ixN n i = some i.toNat := by
  unfold L2.ixN
  rw [if_pos h.1, if_pos h.2]
@[simp] theorem atI_lit {α : Type} (xs : List α) (k : Nat) : L2.atI xs (no_index (OfNat.ofNat k : Int)) = xs[k]? := by
  unfold L2.atI
  rw [ixN_lit]
  by_cases h : k < xs.length
  · rw [if_pos h]; rfl
  · rw [if_neg h, List.getElem?_eq_none (by omega)]; rfl
theorem atI_of {α : Type} {xs : List α} {i : Int} (h : 0 ≤ i ∧ i < xs.length) : L2.atI xs i = xs[i.toNat]? := by
  unfold L2.atI
  rw [ixN_nat h]; rfl
theorem atI_mod {α : Type} {xs : List α} (i : Int) (h : xs ≠ []) : ∃ x, x ∈ xs ∧ L2.atI xs (i % (xs.length : Int)) = some x := by
  have h1 : 0 < xs.length := List.length_pos_iff.mpr h
  have h2 := Int.emod_nonneg i (b := (xs.length : Int)) (by omega)
  have h3 := Int.emod_lt_of_pos i (b := (xs.length : Int)) (by omega)
  have h4 : (i % (xs.length : Int)).toNat < xs.length := by omega
  exact ⟨xs[(i % (xs.length : Int)).toNat], List.getElem_mem _, by rw [atI_of ⟨h2, h3⟩, List.getElem?_eq_getElem h4]⟩
theorem atI_in {α : Type} {xs : List α} {i : Int} (h : 0 ≤ i ∧ i < xs.length) : ∃ x, x ∈ xs ∧ L2.atI xs i = some x := by
  have h4 : i.toNat < xs.length := by omega
  exact ⟨xs[i.toNat], List.getElem_mem _, by rw [atI_of h, List.getElem?_eq_getElem h4]⟩
theorem atI_neg {α : Type} {xs : List α} (h : xs ≠ []) : L2.atI xs (-1) = xs.getLast? := by
  have : 0 < xs.length := List.length_pos_iff.mpr h
  unfold L2.atI L2.ixN
  rw [if_neg (by omega), if_pos (by omega), List.getLast?_eq_getElem?]
  show xs[((-1 : Int) + xs.length).toNat]? = _
  congr 1
  omega
@[simp] theorem asI_int (i : Int) : asI (.int i) = some i := (rfl)
@[simp] theorem isSome_some' {α : Type} (a : α) : (some a).isSome = true := (rfl)
@[simp] theorem ix_l (xs : List D) (i : Int) : ixD (.list xs) (.int i) = L2.atI xs i := (rfl)
@[simp] theorem ix_t (xs : List D) (i : Int) : ixD (.tuple xs) (.int i) = L2.atI xs i := (rfl)
@[simp] theorem ix_s (s : Str) (i : Int) : ixD (.str s) (.int i) = (L2.atI s.cps.toList i).map fun c => .str ⟨#[c]⟩ := (rfl)
@[simp] theorem len_l (xs : List D) : b1D .len (.list xs) = some (.int xs.length) := (rfl)
@[simp] theorem len_t (xs : List D) : b1D .len (.tuple xs) = some (.int xs.length) := (rfl)
@[simp] theorem len_s (s : Str) : b1D .len (.str s) = some (.int s.length) := (rfl)
@[simp] theorem tup_l (xs : List D) : b1D .tuple (.list xs) = some (.tuple xs) := (rfl)
@[simp] theorem tup_t (xs : List D) : b1D .tuple (.tuple xs) = some (.tuple xs) := (rfl)
@[simp] theorem lst_l (xs : List D) : b1D .list (.list xs) = some (.list xs) := (rfl)
@[simp] theorem lst_t (xs : List D) : b1D .list (.tuple xs) = some (.list xs) := (rfl)
@[simp] theorem int_i (i : Int) : b1D .int (.int i) = some (.int i) := (rfl)
@[simp] theorem walked_l (xs : List D) : walked (.list xs) = some xs := (rfl)
@[simp] theorem walked_t (xs : List D) : walked (.tuple xs) = some xs := (rfl)
@[simp] theorem walked_s (s : Str) : walked (.str s) = some (signs s) := (rfl)
theorem range_n {n : Int} (h : n < 4611686018427387904) (h0 : -4611686018427387904 ≤ n) : rangeD [.int n] = some ((List.range n.toNat).map fun (k : Nat) => .int k) := by
  unfold rangeD
  dsimp only
  rw [if_pos]
  rw [decide_eq_true_eq]
  omega
@[simp] theorem lit_le (k n : Nat) : ((no_index (OfNat.ofNat k : Int)) ≤ (n : Int)) = (k ≤ n) := by
  show ((k : Int) ≤ n) = _
  simp
@[simp] theorem lit_lt (k n : Nat) : ((no_index (OfNat.ofNat k : Int)) < (n : Int)) = (k < n) := by
  show ((k : Int) < n) = _
  simp
@[simp] theorem le_lit (k n : Nat) : ((n : Int) ≤ (no_index (OfNat.ofNat k : Int))) = (n ≤ k) := by
  show ((n : Int) ≤ k) = _
  simp
@[simp] theorem lt_lit (k n : Nat) : ((n : Int) < (no_index (OfNat.ofNat k : Int))) = (n < k) := by
  show ((n : Int) < k) = _
  simp
@[simp] theorem eq_lit (k n : Nat) : ((n : Int) = (no_index (OfNat.ofNat k : Int))) = (n = k) := by
  show ((n : Int) = (k : Int)) = _
  rw [eq_iff_iff]
  omega
/-! walks -/
end MP

set_option maxHeartbeats 200000
namespace MP
open PySem
/-! loops, comprehensions -/
section
variable {S α β : Type}
theorem compL_fun {step : α → S → R S (Option β)} {g : α → Option β} (I : S → Prop) : ∀ (xs : List α) (s : S), I s → (∀ x ∈ xs, ∀ s, I s → ∃ s', step x s = .ok (g x) s' ∧ I s') → ∃ s', compL step xs s = .ok (xs.filterMap g) s' ∧ I s'
  | [], s, h, _ => ⟨s, rfl, h⟩
  | x :: xs, s, h, k => by
    obtain ⟨s1, e1, h1⟩ := k x List.mem_cons_self s h
    obtain ⟨s2, e2, h2⟩ := compL_fun I xs s1 h1 fun y hy => k y (List.mem_cons_of_mem _ hy)
    refine ⟨s2, ?_, h2⟩
    show (step x s).bind (fun o s1 => (compL step xs s1).bind fun r s2 => .ok (match o with
      | some y => y :: r
      | none => r) s2) = _
    rw [e1, R.bind_ok, e2, R.bind_ok, List.filterMap_cons]
    cases g x <;> rfl
theorem compL_inv {step : α → S → R S (Option β)} (I : S → Prop) (J : β → Prop) : ∀ (xs : List α) (s : S), I s → (∀ x ∈ xs, ∀ s, I s → GotR (step x s) fun o s' => I s' ∧ ∀ y, o = some y → J y) → GotR (compL step xs s) fun ys s' => I s' ∧ (∀ y ∈ ys, J y) ∧ ys.length ≤ xs.length
  | [], s, h, _ => .ok ⟨h, by simp, by simp⟩
  | x :: xs, s, h, k => by
    refine GotR.bind (k x List.mem_cons_self s h) fun o s1 h1 => GotR.bind (compL_inv I J xs s1 h1.1 fun y hy => k y (List.mem_cons_of_mem _ hy)) fun ys s2 h2 => ?_
    cases o with
    | none =>
      refine .ok ⟨h2.1, h2.2.1, ?_⟩
      have := h2.2.2
      show ys.length ≤ xs.length + 1
      omega
    | some y =>
      refine .ok ⟨h2.1, fun z hz => ?_, ?_⟩
      · rcases List.mem_cons.mp hz with e | e
        · exact e ▸ h1.2 y rfl
        · exact h2.2.1 z e
      · have := h2.2.2
        show ys.length + 1 ≤ xs.length + 1
        omega
end
theorem loopL_inv {α : Type} {body : α → Env → R Env Flow} (I : Env → Prop) (C : Flow → Env → Prop) : ∀ (xs : List α) (s : Env), I s → (∀ x ∈ xs, ∀ s, I s → GotR (body x s) fun f s' => match f with
      | .nx => I s'
      | .ct => I s'
      | .bk => C .nx s'
      | .rt r => C (.rt r) s') → (∀ s, I s → C .nx s) → GotR (loopL body xs s) C
  | [], s, h, _, k2 => .ok (k2 s h)
  | x :: xs, s, h, k, k2 => by
    refine GotR.bind (k x List.mem_cons_self s h) fun f s1 h1 => ?_
    cases f with
    | nx => exact loopL_inv I C xs s1 h1 (fun y hy => k y (List.mem_cons_of_mem _ hy)) k2
    | ct => exact loopL_inv I C xs s1 h1 (fun y hy => k y (List.mem_cons_of_mem _ hy)) k2
    | bk => exact .ok h1
    | rt r => exact .ok h1
/-- an invariant of the part that is done -/
theorem loopL_pre {α : Type} {body : α → Env → R Env Flow} (I : List α → Env → Prop) (C : Flow → Env → Prop) : ∀ (xs pre : List α) (s : Env), I pre s → (∀ (l : List α) (x : α) (r : List α), pre ++ xs = l ++ x :: r → ∀ s, I l s → GotR (body x s) fun f s' => match f with
      | .nx => I (l ++ [x]) s'
      | .ct => I (l ++ [x]) s'
      | .bk => C .nx s'
      | .rt r => C (.rt r) s') → (∀ s, I (pre ++ xs) s → C .nx s) → GotR (loopL body xs s) C
  | [], pre, s, h, _, k2 => .ok (k2 s (by rw [List.append_nil]; exact h))
  | x :: xs, pre, s, h, k, k2 => by
    refine GotR.bind (k pre x xs rfl s h) fun f s1 h1 => ?_
    have e : pre ++ [x] ++ xs = pre ++ x :: xs := by simp
    cases f with
    | nx => exact loopL_pre I C xs (pre ++ [x]) s1 h1 (fun l y r q => k l y r (by rw [← e]; exact q)) (by rw [e]; exact k2)
    | ct => exact loopL_pre I C xs (pre ++ [x]) s1 h1 (fun l y r q => k l y r (by rw [← e]; exact q)) (by rw [e]; exact k2)
    | bk => exact .ok h1
    | rt r => exact .ok h1
/-- a loop that looks, and ends the def at the first that does not pass -/
theorem loopL_all {α : Type} {body : α → Env → R Env Flow} (I : Env → Prop) (p : α → Bool) (r : Ret) : ∀ (xs : List α) (s : Env), I s → (∀ x ∈ xs, ∀ s, I s → ∃ s', I s' ∧ body x s = if p x = true then .ok .nx s' else .ok (.rt r) s') → ∃ s', I s' ∧ loopL body xs s = if xs.all p = true then .ok .nx s' else .ok (.rt r) s'
  | [], s, h, _ => ⟨s, h, rfl⟩
  | x :: xs, s, h, k => by
    obtain ⟨s1, h1, e1⟩ := k x List.mem_cons_self s h
    show ∃ s', I s' ∧ (body x s).bind (fun f s1 => match f with
      | .nx => loopL body xs s1
      | .ct => loopL body xs s1
      | .bk => .ok .nx s1
      | .rt r => .ok (.rt r) s1) = _
    rw [e1, List.all_cons]
    cases p x with
    | false => exact ⟨s1, h1, rfl⟩
    | true =>
      obtain ⟨s2, h2, e2⟩ := loopL_all I p r xs s1 h1 fun y hy => k y (List.mem_cons_of_mem _ hy)
      exact ⟨s2, h2, by simpa using e2⟩
section
variable {js : List Nat} {evi : Env → R Env (List D)} {evc : Env → R Env Bool} {eve : Env → R Env D} {env : Env} {xs : List D}
theorem evComp_eq : evComp js evi evc eve env = (evi env).bind fun xs env => if noOwn js env = true then (compL (compStep js evc eve) xs env).bind fun ys env1 => if fits ys.length = true then .ok ys (back js env env1) else .err else .err := rfl
theorem compStep_eq (x : D) : compStep js evc eve x env = (@R.lz _ _ _ (R.opt (bindT js x (clear js env)) env) ⟨fun e _ => (@R.lz _ _ _ (evc e) ⟨fun b env => if b = true then (@R.lz _ _ _ (eve env) ⟨fun y env => .ok (some y) env⟩) else .ok none env⟩)⟩) := by
  unfold compStep
  cases bindT js x (clear js env) <;> rfl
theorem evCompP {g : D → Option D} (hi : evi env = .ok xs env) (hn : noOwn js env = true) (h : ∀ x ∈ xs, ∃ e, bindT js x (clear js env) = some e ∧ clear js e = clear js env ∧ ((evc e).bind fun b e => if b = true then (eve e).bind fun y e => .ok (some y) e else .ok none e) = .ok (g x) e)
    (hb : ∀ e, clear js e = clear js env → back js env e = env) : evComp js evi evc eve env = if fits (xs.filterMap g).length = true then .ok (xs.filterMap g) env else .err := by
  obtain ⟨s', e, hs⟩ := compL_fun (step := compStep js evc eve) (g := g) (fun s => clear js s = clear js env) xs env rfl fun x hx s hs => by
    obtain ⟨e, e1, e2, e3⟩ := h x hx
    refine ⟨e, ?_, e2⟩
    rw [compStep_eq, hs, e1, R.opt_some, R.lz_ok]
    exact e3
  rw [evComp_eq, hi, R.bind_ok, if_pos hn, e, R.bind_ok, hb s' hs]
end
section
variable {j : Nat} {evi : Env → R Env (List D)} {evc : Env → R Env Bool} {eve : Env → R Env D} {env : Env} {xs : List D}
theorem set_same_no {e env : Env} (h : e.set j .no = env.set j .no) : e.set j (env.getD j .no) = env := by
  have h2 : (e.set j .no).set j (env.getD j .no) = (env.set j .no).set j (env.getD j .no) := by rw [h]
  rw [List.set_set, List.set_set] at h2
  rw [h2]
  by_cases hj : j < env.length
  · apply List.ext_getElem?
    intro i
    rw [List.getElem?_set]
    split
    · rename_i hi
      subst hi
      simp [hj, List.getD]
    · rfl
  · exact List.set_eq_of_length_le (by omega)
theorem evComp1 {g : D → Option D} (hi : evi env = .ok xs env) (hn : noOwn [j] env = true) (h : ∀ x ∈ xs, ((evc (env.set j (.val x))).bind fun b e => if b = true then (eve e).bind fun y e => .ok (some y) e else .ok none e) = .ok (g x) (env.set j (.val x))) :
    evComp [j] evi evc eve env = if fits (xs.filterMap g).length = true then .ok (xs.filterMap g) env else .err :=
  evCompP hi hn (fun x hx => ⟨env.set j (.val x), by simp [clear, Env.sto], by simp [clear], h x hx⟩) fun e he => by
    simp only [clear] at he
    show e.set j (env.getD j .no) = env
    exact set_same_no he
/-- no test: each item -/
theorem evComp1m {cl : Call} {gl : List D} {g : D → D} (hi : evi env = .ok xs env) (hn : noOwn [j] env = true) (h : ∀ x ∈ xs, eve (env.set j (.val x)) = .ok (g x) (env.set j (.val x))) :
    evComp [j] evi (evCs cl gl []) eve env = if fits xs.length = true then .ok (xs.map g) env else .err := by
  rw [evComp1 (g := fun x => some (g x)) hi hn fun x hx => by simp [h x hx]]
  have : xs.filterMap (fun x => some (g x)) = xs.map g := by rw [← List.filterMap_eq_map]; rfl
  rw [this, List.length_map]
/-- a test, the items themselves -/
theorem evComp1f {cl : Call} {gl : List D} {c : E} {p : D → Bool} (hi : evi env = .ok xs env) (hn : noOwn [j] env = true) (hl : j < env.length) (h : ∀ x ∈ xs, evE cl gl c (env.set j (.val x)) = .ok (.bool (p x)) (env.set j (.val x))) :
    evComp [j] evi (evCs cl gl [c]) (evE cl gl (.var j)) env = if fits (xs.filter p).length = true then .ok (xs.filter p) env else .err := by
  rw [evComp1 (g := fun x => if p x = true then some x else none) hi hn fun x hx => by
    have hv : Env.val (env.set j (.val x)) j = some x := by
      unfold Env.val
      rw [List.getElem?_set_self hl]
    simp [h x hx, hv]
    cases p x <;> rfl]
  have : ∀ xs : List D, xs.filterMap (fun x => if p x = true then some x else none) = xs.filter p := fun xs => by
    induction xs with
    | nil => rfl
    | cons x xs ih =>
      rw [List.filterMap_cons, List.filter_cons, ih]
      cases p x <;> rfl
  rw [this]
end
/-! values -/
@[simp] theorem fits_iff (n : Nat) : (fits n = true) = (n ≤ 16777216) := by simp [fits]
@[simp] theorem bools_nil : bools? [] = some [] := (rfl)
@[simp] theorem bools_cons (b : Bool) (r : List D) : bools? (.bool b :: r) = (bools? r).map (b :: ·) := (rfl)
@[simp] theorem bools_map {α : Type} (f : α → Bool) : ∀ xs : List α, bools? (xs.map fun a => .bool (f a)) = some (xs.map f)
  | [] => rfl
  | x :: xs => by
    rw [List.map_cons, bools_cons, bools_map f xs]
    rfl
@[simp] theorem strs_map {α : Type} (f : α → Str) : ∀ xs : List α, strs? (xs.map fun a => .str (f a)) = some (xs.map f)
  | [] => rfl
  | x :: xs => by
    show (strs? (xs.map fun a => PyData.str (f a))).map (f x :: ·) = _
    rw [strs_map f xs]
    rfl
@[simp] theorem all_l (xs : List D) : b1D .all (.list xs) = (bools? xs).map fun bs => .bool (bs.all id) := (rfl)
@[simp] theorem any_l (xs : List D) : b1D .any (.list xs) = (bools? xs).map fun bs => .bool (bs.any id) := (rfl)
def inD (x : D) (ys : List D) : Bool := ys.any fun y => PyData.eqv y x
theorem cmp_inT {x : D} (h : dep x ≤ 60) (ys : List D) : cmpD .isin x (.tuple ys) = some (inD x ys) := by simp [cmpD, h, inD]
theorem cmp_inL {x : D} (h : dep x ≤ 60) (ys : List D) : cmpD .isin x (.list ys) = some (inD x ys) := by simp [cmpD, h, inD]
theorem cmp_ninT {x : D} (h : dep x ≤ 60) (ys : List D) : cmpD .notin x (.tuple ys) = some (!inD x ys) := by simp [cmpD, h, inD]
theorem cmp_ninL {x : D} (h : dep x ≤ 60) (ys : List D) : cmpD .notin x (.list ys) = some (!inD x ys) := by simp [cmpD, h, inD]
@[simp] theorem dep_str (s : Str) : dep (.str s) = 0 := by simp [dep, PyData.depth]
@[simp] theorem dep_int (s : Int) : dep (.int s) = 0 := by simp [dep, PyData.depth]
@[simp] theorem dep_bool (s : Bool) : dep (.bool s) = 0 := by simp [dep, PyData.depth]
@[simp] theorem dep_none : dep .none = 0 := by simp [dep, PyData.depth]
@[simp] theorem cmp_inTs (s : Str) (ys : List D) : cmpD .isin (.str s) (.tuple ys) = some (inD (.str s) ys) := cmp_inT (by rw [dep_str]; omega) ys
@[simp] theorem cmp_inLs (s : Str) (ys : List D) : cmpD .isin (.str s) (.list ys) = some (inD (.str s) ys) := cmp_inL (by rw [dep_str]; omega) ys
@[simp] theorem cmp_ninTs (s : Str) (ys : List D) : cmpD .notin (.str s) (.tuple ys) = some (!inD (.str s) ys) := cmp_ninT (by rw [dep_str]; omega) ys
@[simp] theorem cmp_ninLs (s : Str) (ys : List D) : cmpD .notin (.str s) (.list ys) = some (!inD (.str s) ys) := cmp_ninL (by rw [dep_str]; omega) ys
@[simp] theorem cmp_in1 (c : Nat) (t : Str) : cmpD .isin (.str ⟨#[c]⟩) (.str t) = some (decide (c ∈ t.cps.toList)) := by
  show some (!(Builtin.Str.occurrences t ⟨#[c]⟩ 0 t.length 1).isEmpty) = _
  rw [StrLaws.found_one]
@[simp] theorem cmp_ltS (a b : Str) : cmpD .lt (.str a) (.str b) = some (ltS a b) := (rfl)
@[simp] theorem cmp_leS (a b : Str) : cmpD .le (.str a) (.str b) = some (!ltS b a) := (rfl)
@[simp] theorem cmp_gtS (a b : Str) : cmpD .gt (.str a) (.str b) = some (ltS b a) := (rfl)
@[simp] theorem bin_addL (xs ys : List D) : binD .add (.list xs) (.list ys) = if fits (xs.length + ys.length) = true then some (.list (xs ++ ys)) else none := by simp [binD]
@[simp] theorem bin_addT (xs ys : List D) : binD .add (.tuple xs) (.tuple ys) = if fits (xs.length + ys.length) = true then some (.tuple (xs ++ ys)) else none := by simp [binD]
@[simp] theorem bin_addS (xs ys : Str) : binD .add (.str xs) (.str ys) = if fits (xs.length + ys.length) = true then some (.str (xs ++ ys)) else none := by simp [binD]
theorem zipD_eq : ∀ xs ys : List D, zipD xs ys = (xs.zip ys).map fun p => .tuple [p.1, p.2]
  | [], _ => rfl
  | _ :: _, [] => rfl
  | x :: xs, y :: ys => by
    show _ :: zipD xs ys = _ :: _
    rw [zipD_eq xs ys]
    rfl
theorem range_split {α : Type} {f : Nat → α} {n : Nat} {l r : List α} {x : α} (h : (List.range n).map f = l ++ x :: r) : x = f l.length ∧ l.length < n := by
  have hl := congrArg List.length h
  simp at hl
  have hx : ((List.range n).map f)[l.length]? = some x := by rw [h]; simp
  have : l.length < n := by omega
  rw [List.getElem?_map, List.getElem?_range this] at hx
  exact ⟨(Option.some.inj hx).symm, this⟩
theorem range_nat (n : Nat) (h : n ≤ 16777216) : rangeD [.int (n : Int)] = some ((List.range n).map fun (k : Nat) => .int k) := by
  rw [range_n (by omega) (by omega)]
  rfl
theorem range_lit (k : Nat) (h : k ≤ 16777216) : rangeD [.int (no_index (OfNat.ofNat k : Int))] = some ((List.range k).map fun (i : Nat) => .int i) := range_nat k h
theorem take_snoc {α : Type} {xs : List α} {k : Nat} {x : α} (h : xs[k]? = some x) : xs.take (k + 1) = xs.take k ++ [x] := by
  rw [List.take_add_one, h]
  rfl
/-- a call's answer is data -/
def Ans (r : R (List T) Ret) (C : D → List T → Prop) : Prop := ∃ x ts, r = .ok (.d x) ts ∧ C x ts
theorem Ans.mono {r : R (List T) Ret} {C C' : D → List T → Prop} (h : Ans r C) (k : ∀ x ts, C x ts → C' x ts) : Ans r C' := by
  obtain ⟨x, ts, e, c⟩ := h
  exact ⟨x, ts, e, k x ts c⟩
theorem Ans.ok {x : D} {ts : List T} {C : D → List T → Prop} (h : C x ts) : Ans (.ok (.d x) ts) C := ⟨x, ts, rfl, h⟩
end MP

set_option maxHeartbeats 200000
namespace K00
open PySem MP
def g_SMALL : D := (.str (Str.ofString "abcdefghijklmnopqrstuvwxyz"))
def g_FIGURES : D := (.str (Str.ofString "0123456789"))
def g_KEPT : D := (.tuple [(.str (Str.ofString "rank")), (.str (Str.ofString "stage")), (.str (Str.ofString "mark")), (.str (Str.ofString "person")), (.str (Str.ofString "paper")), (.str (Str.ofString "fresh")), (.str (Str.ofString "command")), (.str (Str.ofString "actor")), (.str (Str.ofString "other")), (.str (Str.ofString "cell")), (.str (Str.ofString "then")), (.str (Str.ofString "has")), (.str (Str.ofString "hasnt")), (.str (Str.ofString "put")), (.str (Str.ofString "take")), (.str (Str.ofString "never")), (.str (Str.ofString "may"))])
def gl : List D := [g_SMALL, g_FIGURES, g_KEPT]
/-- 0: is_name(thing, sign) -/
def f_is_name : Fn := ⟨2, [false], [(.ifs (.or (.not (.isi (.var 0) .str)) (.or (.not (.cmp2 (.con (.int 1)) .le (.b1 .len (.var 0)) .le (.con (.int 8)))) (.cmp (.var 0) .isin (.glob 2)))) [(.ret (.con (.bool false)))] []), (.ret (.and (.cmp (.ix (.var 0) (.con (.int 0))) .isin (.glob 0)) (.b1 .all (.comp [1] .any [(.var 0)] [] (.cmp (.var 1) .isin (.bin .add (.glob 0) (.glob 1)))))))]⟩
/-- 1: is_set(thing, one, other, name) -/
def f_is_set : Fn := ⟨4, [false], [(.ifs (.or (.not (.isi (.var 0) .tuple)) (.not (.b1 .all (.comp [3] .any [(.var 0)] [] (.call 0 [(.var 3)]))))) [(.ret (.con (.bool false)))] []), (.ret (.b1 .all (.comp [1, 2] .zip [(.var 0), (.sl (.var 0) (some (.con (.int 1))) none)] [] (.cmp (.var 1) .lt (.var 2)))))]⟩
/-- 2: joined_sets(one, other) -/
def f_joined_sets : Fn := ⟨2, [false, false], [(.ret (.b1 .tuple (.b2 .sortedSets (.var 0) (.var 1))))]⟩
/-- 3: cut_set(one, other, name) -/
def f_cut_set : Fn := ⟨3, [false, false], [(.ret (.b1 .tuple (.comp [2] .any [(.var 0)] [(.cmp (.var 2) .notin (.var 1))] (.var 2))))]⟩
/-- 4: shares(one, other, name) -/
def f_shares : Fn := ⟨3, [false, false], [(.ret (.b1 .any (.comp [2] .any [(.var 0)] [] (.cmp (.var 2) .isin (.var 1)))))]⟩
/-- 5: fits_part(part, rank, marks, ranks, has, hasnt, mark) -/
def f_fits_part : Fn := ⟨7, [false, false, false], [(.unp [3, 4, 5] (.var 0)), (.ret (.and (.cmp (.var 1) .isin (.var 3)) (.and (.b1 .all (.comp [6] .any [(.var 4)] [] (.cmp (.var 6) .isin (.var 2)))) (.not (.b1 .any (.comp [6] .any [(.var 5)] [] (.cmp (.var 6) .isin (.var 2))))))))]⟩
/-- 6: changed_marks(change, marks, mark) -/
def f_changed_marks : Fn := ⟨3, [false, false], [(.ret (.b1 .tuple (.b1 .sortedSet (.bin .add (.comp [2] .any [(.var 1)] [(.cmp (.var 2) .notin (.ix (.var 0) (.con (.int 3))))] (.var 2)) (.b1 .list (.ix (.var 0) (.con (.int 2))))))))]⟩
/-- 7: is_later(names, one, other) -/
def f_is_later : Fn := ⟨3, [false, false, false], [(.ret (.cmp (.b2 .index (.var 0) (.var 1)) .gt (.b2 .index (.var 0) (.var 2))))]⟩
/-- 8: way_follows(names, way, name) -/
def f_way_follows : Fn := ⟨3, [false, false, false], [(.ret (.call 7 [(.var 0), (.var 2), (.ix (.var 1) (.neg (.con (.int 1))))]))]⟩
/-- 9: _law_pan(script, pan, cell, rest, k) -/
def f__law_pan : Fn := ⟨5, [false], [(.mk 1 (.lst [(.lst []), (.con (.int 60101)), (.con (.int 0)), (.lst [(.con (.int 0)), (.con (.int 0)), (.con (.int 0)), (.con (.int 0)), (.con (.int 0)), (.con (.int 0)), (.con (.int 0))])])), (.loop [2] .any [(.var 0)] [(.app 1 [(.con (.int 0))] (.bin .mod (.b1 .int (.var 2)) (.con (.int 15485863)))), (.put 1 [] (.con (.int 1)) (.bin .mod (.bin .add (.bin .add (.bin .mul (.view 1 [(.con (.int 1))]) (.con (.int 4219))) (.bin .mul (.bin .mod (.b1 .int (.var 2)) (.con (.int 15485863))) (.con (.int 5)))) (.con (.int 61))) (.con (.int 433494437))))]), (.ifs (.cmp (.bin .mod (.view 1 [(.con (.int 1))]) (.con (.int 4))) .eq (.con (.int 1))) [(.asg 3 (.bin .fdiv (.view 1 [(.con (.int 1))]) (.con (.int 4)))), (.loop [4] .rng [(.con (.int 7))] [(.put 1 [(.con (.int 3))] (.var 4) (.bin .mod (.var 3) (.con (.int 5)))), (.asg 3 (.bin .fdiv (.var 3) (.con (.int 5))))])] []), (.retO 1)]⟩
/-- 10: _law_scrape(pan, place, many, cell) -/
def f__law_scrape : Fn := ⟨4, [true, false, false], [(.put 0 [] (.con (.int 2)) (.bin .add (.view 0 [(.con (.int 2))]) (.con (.int 1)))), (.asg 3 (.bin .mod (.view 0 [(.con (.int 2))]) (.con (.int 1013)))), (.ifs (.cmp (.b1 .len (.view 0 [(.con (.int 0))])) .gt (.con (.int 0))) [(.asg 3 (.bin .add (.var 3) (.view 0 [(.bin .mod (.bin .add (.bin .mul (.view 0 [(.con (.int 2))]) (.con (.int 3))) (.con (.int 2))) (.b1 .len (.view 0 [(.con (.int 0))]))), (.con (.int 0))])))] []), (.put 0 [] (.con (.int 1)) (.bin .mod (.bin .add (.bin .add (.bin .add (.bin .mul (.view 0 [(.con (.int 1))]) (.con (.int 69069))) (.bin .mul (.var 3) (.con (.int 67)))) (.bin .mul (.bin .mod (.view 0 [(.con (.int 2))]) (.con (.int 10007))) (.con (.int 151)))) (.con (.int 13))) (.con (.int 433494437)))), (.ifs (.cmp (.view 0 [(.var 1), (.con (.int 3))]) .eq (.con (.int 1))) [(.ret (.con (.int 0)))] []), (.ifs (.cmp (.view 0 [(.var 1), (.con (.int 3))]) .eq (.con (.int 2))) [(.ret (.bin .sub (.var 2) (.con (.int 1))))] []), (.ret (.bin .mod (.bin .fdiv (.view 0 [(.con (.int 1))]) (.con (.int 83))) (.var 2)))]⟩
/-- 11: _law_same(told, due, k) -/
def f__law_same : Fn := ⟨3, [false, false], [(.ifs (.isN (.var 1)) [(.ret (.isN (.var 0)))] []), (.ifs (.isi (.var 1) .bool) [(.ret (.and (.isi (.var 0) .bool) (.cmp (.var 0) .eq (.var 1))))] []), (.ifs (.isi (.var 1) .int) [(.ret (.and (.isi (.var 0) .int) (.and (.not (.isi (.var 0) .bool)) (.cmp (.var 0) .eq (.var 1)))))] []), (.ifs (.isi (.var 1) .str) [(.ret (.and (.isi (.var 0) .str) (.cmp (.var 0) .eq (.var 1))))] []), (.ifs (.or (.and (.isi (.var 1) .list) (.not (.isi (.var 0) .list))) (.and (.isi (.var 1) .tuple) (.not (.isi (.var 0) .tuple)))) [(.ret (.con (.bool false)))] []), (.ifs (.cmp (.b1 .len (.var 0)) .ne (.b1 .len (.var 1))) [(.ret (.con (.bool false)))] []), (.loop [2] .rng [(.b1 .len (.var 1))] [(.ifs (.not (.call 11 [(.ix (.var 0) (.var 2)), (.ix (.var 1) (.var 2))])) [(.ret (.con (.bool false)))] [])]), (.ret (.con (.bool true)))]⟩
/-- 12: _law_kept(first) -/
def f__law_kept : Fn := ⟨1, [], [(.asg 0 (.lst [(.con (.str (Str.ofString "rank"))), (.con (.str (Str.ofString "stage"))), (.con (.str (Str.ofString "mark"))), (.con (.str (Str.ofString "person"))), (.con (.str (Str.ofString "paper"))), (.con (.str (Str.ofString "fresh"))), (.con (.str (Str.ofString "command"))), (.con (.str (Str.ofString "actor"))), (.con (.str (Str.ofString "other"))), (.con (.str (Str.ofString "cell"))), (.con (.str (Str.ofString "then"))), (.con (.str (Str.ofString "has"))), (.con (.str (Str.ofString "hasnt")))])), (.ret (.bin .add (.var 0) (.lst [(.con (.str (Str.ofString "put"))), (.con (.str (Str.ofString "take"))), (.con (.str (Str.ofString "never"))), (.con (.str (Str.ofString "may")))])))]⟩
/-- 13: _law_is_name(thing, sign) -/
def f__law_is_name : Fn := ⟨2, [false], [(.ifs (.or (.not (.isi (.var 0) .str)) (.or (.cmp (.b1 .len (.var 0)) .eq (.con (.int 0))) (.or (.cmp (.b1 .len (.var 0)) .gt (.con (.int 8))) (.cmp (.var 0) .isin (.call 12 []))))) [(.ret (.con (.bool false)))] []), (.loop [1] .any [(.var 0)] [(.ifs (.and (.not (.cmp2 (.con (.str (Str.ofString "a"))) .le (.var 1) .le (.con (.str (Str.ofString "z"))))) (.not (.cmp2 (.con (.str (Str.ofString "0"))) .le (.var 1) .le (.con (.str (Str.ofString "9")))))) [(.ret (.con (.bool false)))] [])]), (.ret (.cmp (.con (.str (Str.ofString "a"))) .le (.ix (.var 0) (.con (.int 0)))))]⟩
/-- 14: _law_is_set(thing, k) -/
def f__law_is_set : Fn := ⟨2, [false], [(.ifs (.not (.isi (.var 0) .tuple)) [(.ret (.con (.bool false)))] []), (.loop [1] .rng [(.b1 .len (.var 0))] [(.ifs (.not (.call 13 [(.ix (.var 0) (.var 1))])) [(.ret (.con (.bool false)))] []), (.ifs (.and (.cmp (.var 1) .gt (.con (.int 0))) (.not (.cmp (.ix (.var 0) (.bin .sub (.var 1) (.con (.int 1)))) .lt (.ix (.var 0) (.var 1))))) [(.ret (.con (.bool false)))] [])]), (.ret (.con (.bool true)))]⟩
/-- 15: _law_name(pan, names) -/
def f__law_name : Fn := ⟨2, [true], [(.asg 1 (.tup [(.con (.str (Str.ofString "a"))), (.con (.str (Str.ofString "b"))), (.con (.str (Str.ofString "c"))), (.con (.str (Str.ofString "ab"))), (.con (.str (Str.ofString "a1"))), (.con (.str (Str.ofString "z"))), (.con (.str (Str.ofString "zz"))), (.con (.str (Str.ofString "m"))), (.con (.str (Str.ofString "m0"))), (.con (.str (Str.ofString "m10"))), (.con (.str (Str.ofString "ranks"))), (.con (.str (Str.ofString "hasnot"))), (.con (.str (Str.ofString "puts"))), (.con (.str (Str.ofString "taken"))), (.con (.str (Str.ofString "mayb"))), (.con (.str (Str.ofString "cell9"))), (.con (.str (Str.ofString "abcdefgh"))), (.con (.str (Str.ofString "z9999999")))])), (.ret (.ix (.var 1) (.call 10 [(.hand 0), (.con (.int 0)), (.con (.int 18))])))]⟩
/-- 16: _law_set(pan, most, k) -/
def f__law_set : Fn := ⟨3, [true, false], [(.ret (.b1 .tuple (.b1 .sortedSet (.comp [2] .rng [(.call 10 [(.hand 0), (.con (.int 1)), (.bin .add (.var 1) (.con (.int 1)))])] [] (.call 15 [(.hand 0)])))))]⟩
/-- 17: _law_things(pan, name, kept, one, near, start, k) -/
def f__law_things : Fn := ⟨7, [true], [(.asg 1 (.call 15 [(.hand 0)])), (.asg 2 (.call 12 [])), (.asg 3 (.ix (.var 2) (.call 10 [(.hand 0), (.con (.int 2)), (.con (.int 17))]))), (.asg 4 (.lst [(.bin .add (.var 1) (.con (.str (Str.ofString "A")))), (.b1 .upper (.sl (.var 1) none (some (.con (.int 1))))), (.bin .add (.con (.str (Str.ofString "1"))) (.sl (.var 1) none (some (.con (.int 6))))), (.bin .add (.var 1) (.con (.str (Str.ofString " ")))), (.bin .add (.con (.str (Str.ofString " "))) (.var 1)), (.bin .add (.var 1) (.con (.str (Str.ofString "\n")))), (.bin .add (.sl (.var 1) none (some (.con (.int 4)))) (.con (.str (Str.ofString "_x")))), (.con (.str (Str.ofString ""))), (.bin .mul (.con (.str (Str.ofString "a"))) (.con (.int 8))), (.bin .mul (.con (.str (Str.ofString "a"))) (.con (.int 9))), (.con (.str (Str.ofString "abcdefghi")))])), (.asg 4 (.bin .add (.var 4) (.lst [(.var 3), (.bin .add (.var 3) (.con (.str (Str.ofString "s")))), (.sl (.var 3) none (some (.neg (.con (.int 1))))), (.con .none), (.con (.bool true)), (.con (.int 0)), (.con (.int 7)), (.lst [(.var 1)]), (.tup [(.var 1)]), (.tup []), (.lst []), (.con (.str (Str.ofString "0"))), (.con (.str (Str.ofString "a-b"))), (.b1 .upper (.var 3)), (.con (.str (Str.ofString "A"))), (.bin .add (.var 1) (.bin .mul (.con (.str (Str.ofString "0"))) (.con (.int 8))))]))), (.asg 5 (.call 10 [(.hand 0), (.con (.int 3)), (.b1 .len (.var 4))])), (.ret (.bin .add (.lst [(.var 1), (.var 3)]) (.comp [6] .rng [(.con (.int 13))] [] (.ix (.var 4) (.bin .mod (.bin .add (.var 5) (.bin .mul (.con (.int 5)) (.var 6))) (.b1 .len (.var 4)))))))]⟩
/-- 18: _law_lots(pan, lot, more, two, wrong, start, k) -/
def f__law_lots : Fn := ⟨7, [true], [(.asg 1 (.call 16 [(.hand 0), (.con (.int 5))])), (.asg 2 (.call 15 [(.hand 0)])), (.asg 3 (.b1 .tuple (.b1 .sortedSet (.lst [(.var 2), (.con (.str (Str.ofString "q"))), (.con (.str (Str.ofString "b")))])))), (.asg 4 (.lst [(.b1 .list (.var 1)), (.bin .add (.var 1) (.sl (.var 1) (some (.neg (.con (.int 1)))) none)), (.sls (.var 3) none none (.neg (.con (.int 1)))), (.bin .add (.var 1) (.tup [(.con (.str (Str.ofString "")))])), (.bin .add (.tup [(.con (.str (Str.ofString "A")))]) (.var 1)), (.tup [(.ix (.call 12 []) (.call 10 [(.hand 0), (.con (.int 2)), (.con (.int 17))]))]), (.bin .add (.var 1) (.tup [(.con .none)])), (.tup [(.var 1)]), (.bin .add (.var 1) (.tup [(.con (.bool true))])), (.tup [(.con (.int 1))])])), (.asg 4 (.bin .add (.var 4) (.lst [(.con .none), (.var 2), (.con (.bool true)), (.con (.int 3)), (.con (.str (Str.ofString ""))), (.bin .add (.var 3) (.tup [(.ix (.var 3) (.con (.int 0)))])), (.bin .add (.sl (.var 3) (some (.con (.int 1))) none) (.sl (.var 3) none (some (.con (.int 1))))), (.tup [(.con (.str (Str.ofString "a"))), (.con (.str (Str.ofString "b"))), (.con (.str (Str.ofString "a")))]), (.tup [(.con (.str (Str.ofString "a"))), (.con (.str (Str.ofString "a")))]), (.tup [(.con (.str (Str.ofString "b"))), (.con (.str (Str.ofString "a")))]), (.tup [(.con (.str (Str.ofString "a1"))), (.con (.str (Str.ofString "a")))]), (.tup [(.con (.str (Str.ofString "m10"))), (.con (.str (Str.ofString "m2")))]), (.tup [(.tup [(.con (.str (Str.ofString "a")))])])]))), (.asg 5 (.call 10 [(.hand 0), (.con (.int 4)), (.b1 .len (.var 4))])), (.ret (.bin .add (.lst [(.var 1), (.var 3), (.tup []), (.tup [(.var 2)])]) (.comp [6] .rng [(.con (.int 10))] [] (.ix (.var 4) (.bin .mod (.bin .add (.var 5) (.bin .mul (.con (.int 4)) (.var 6))) (.b1 .len (.var 4)))))))]⟩
/-- 19: _law_joined(one, other) -/
def f__law_joined : Fn := ⟨2, [false, false], [(.ret (.b1 .tuple (.b1 .sortedSet (.bin .add (.b1 .list (.var 0)) (.b1 .list (.var 1))))))]⟩
/-- 20: _law_without(one, other, name) -/
def f__law_without : Fn := ⟨3, [false, false], [(.ret (.b1 .tuple (.comp [2] .any [(.var 0)] [(.cmp (.var 2) .notin (.var 1))] (.var 2))))]⟩
/-- 21: _law_fits(part, rank, marks, mark) -/
def f__law_fits : Fn := ⟨4, [false, false, false], [(.ifs (.cmp (.var 1) .notin (.ix (.var 0) (.con (.int 0)))) [(.ret (.con (.bool false)))] []), (.loop [3] .any [(.ix (.var 0) (.con (.int 1)))] [(.ifs (.cmp (.var 3) .notin (.var 2)) [(.ret (.con (.bool false)))] [])]), (.loop [3] .any [(.ix (.var 0) (.con (.int 2)))] [(.ifs (.cmp (.var 3) .isin (.var 2)) [(.ret (.con (.bool false)))] [])]), (.ret (.con (.bool true)))]⟩
/-- 22: _law_sets_asked(pan, one, other, pair, both, told, name) -/
def f__law_sets_asked : Fn := ⟨7, [true], [(.asg 1 (.call 16 [(.hand 0), (.con (.int 5))])), (.asg 2 (.call 16 [(.hand 0), (.con (.int 4))])), (.loop [3] .any [(.tup [(.tup [(.var 1), (.var 2)]), (.tup [(.var 2), (.var 1)]), (.tup [(.var 1), (.var 1)]), (.tup [(.var 1), (.tup [])]), (.tup [(.tup []), (.var 1)]), (.tup [(.var 1), (.sl (.var 1) none (some (.con (.int 1))))]), (.tup [(.sls (.var 1) none none (.con (.int 2))), (.sls (.var 1) (some (.con (.int 1))) none (.con (.int 2)))])])] [(.asg 4 (.comp [6] .any [(.ix (.var 3) (.con (.int 0)))] [(.cmp (.var 6) .isin (.ix (.var 3) (.con (.int 1))))] (.var 6))), (.asg 5 (.tup [(.call 2 [(.ix (.var 3) (.con (.int 0))), (.ix (.var 3) (.con (.int 1)))]), (.call 3 [(.ix (.var 3) (.con (.int 0))), (.ix (.var 3) (.con (.int 1)))]), (.call 4 [(.ix (.var 3) (.con (.int 0))), (.ix (.var 3) (.con (.int 1)))])])), (.ifs (.not (.call 11 [(.var 5), (.tup [(.call 19 [(.ix (.var 3) (.con (.int 0))), (.ix (.var 3) (.con (.int 1)))]), (.call 20 [(.ix (.var 3) (.con (.int 0))), (.ix (.var 3) (.con (.int 1)))]), (.cmp (.b1 .len (.var 4)) .gt (.con (.int 0)))])])) [(.ret (.con (.bool false)))] [])]), (.ret (.con (.bool true)))]⟩
/-- 23: _law_parts_asked(pan, ranks, has, hasnt, part, free, rank, marks, put, take, change, some, due) -/
def f__law_parts_asked : Fn := ⟨13, [true], [(.asg 1 (.call 19 [(.call 16 [(.hand 0), (.con (.int 3))]), (.tup [(.call 15 [(.hand 0)])])])), (.asg 2 (.call 16 [(.hand 0), (.con (.int 2))])), (.asg 3 (.call 20 [(.call 16 [(.hand 0), (.con (.int 2))]), (.var 2)])), (.asg 4 (.tup [(.var 1), (.var 2), (.var 3)])), (.asg 5 (.call 20 [(.call 16 [(.hand 0), (.con (.int 3))]), (.call 19 [(.var 2), (.var 3)])])), (.asg 6 (.call 15 [(.hand 0)])), (.loop [7] .any [(.tup [(.var 2), (.call 19 [(.var 2), (.var 5)]), (.call 19 [(.var 2), (.var 3)]), (.sl (.var 2) (some (.con (.int 1))) none), (.var 5), (.tup []), (.var 3), (.call 19 [(.var 2), (.sl (.var 3) none (some (.con (.int 1))))]), (.call 19 [(.var 2), (.sl (.var 3) (some (.neg (.con (.int 1)))) none)])])] [(.loop [11] .any [(.tup [(.var 6), (.ix (.var 1) (.con (.int 0))), (.ix (.var 1) (.neg (.con (.int 1))))])] [(.ifs (.not (.call 11 [(.call 5 [(.var 4), (.var 11), (.var 7)]), (.call 21 [(.var 4), (.var 11), (.var 7)])])) [(.ret (.con (.bool false)))] [])])]), (.asg 8 (.call 16 [(.hand 0), (.con (.int 3))])), (.asg 9 (.call 20 [(.call 16 [(.hand 0), (.con (.int 3))]), (.var 8)])), (.ifs (.cmp (.bin .add (.b1 .len (.var 8)) (.b1 .len (.var 9))) .eq (.con (.int 0))) [(.asg 8 (.tup [(.con (.str (Str.ofString "m")))]))] []), (.asg 10 (.tup [(.con (.str (Str.ofString "marks"))), (.ix (.tup [(.con (.str (Str.ofString "actor"))), (.con (.str (Str.ofString "other")))]) (.call 10 [(.hand 0), (.con (.int 5)), (.con (.int 2))])), (.var 8), (.var 9)])), (.loop [7] .any [(.tup [(.var 8), (.var 9), (.tup []), (.var 5), (.call 19 [(.var 8), (.var 9)]), (.call 19 [(.var 5), (.sl (.var 9) none (some (.con (.int 1))))])])] [(.asg 12 (.call 19 [(.call 20 [(.var 7), (.var 9)]), (.var 8)])), (.ifs (.not (.call 11 [(.call 6 [(.var 10), (.var 7)]), (.var 12)])) [(.ret (.con (.bool false)))] [])]), (.ret (.con (.bool true)))]⟩
/-- 24: _law_ways_asked(pan, names, k, one, name, way, other) -/
def f__law_ways_asked : Fn := ⟨7, [true], [(.mk 1 (.lst [])), (.loop [2] .rng [(.bin .add (.con (.int 1)) (.call 10 [(.hand 0), (.con (.int 6)), (.con (.int 6))]))] [(.asg 4 (.call 15 [(.hand 0)])), (.ifs (.cmp (.var 4) .notin (.view 1 [])) [(.app 1 [] (.var 4))] [])]), (.asg 1 (.b1 .tuple (.view 1 []))), (.loop [3] .rng [(.b1 .len (.var 1))] [(.asg 5 (.sl (.sl (.var 1) none (some (.bin .add (.var 3) (.con (.int 1))))) (some (.call 10 [(.hand 0), (.con (.int 5)), (.bin .add (.var 3) (.con (.int 1)))])) none)), (.loop [6] .rng [(.b1 .len (.var 1))] [(.ifs (.not (.call 11 [(.call 7 [(.var 1), (.ix (.var 1) (.var 3)), (.ix (.var 1) (.var 6))]), (.cmp (.var 3) .gt (.var 6))])) [(.ret (.con (.bool false)))] []), (.ifs (.not (.call 11 [(.call 8 [(.var 1), (.var 5), (.ix (.var 1) (.var 6))]), (.cmp (.var 6) .gt (.var 3))])) [(.ret (.con (.bool false)))] [])])]), (.ret (.con (.bool true)))]⟩
/-- 25: _law_whole(script, pan, thing, wide, told, part, k) -/
def f__law_whole : Fn := ⟨7, [false], [(.mk 1 (.call 9 [(.var 0)])), (.loop [2] .any [(.call 17 [(.hand 1)])] [(.ifs (.not (.call 11 [(.call 0 [(.var 2)]), (.call 13 [(.var 2)])])) [(.ret (.con (.bool false)))] [])]), (.loop [2] .any [(.call 18 [(.hand 1)])] [(.ifs (.not (.call 11 [(.call 1 [(.var 2)]), (.call 14 [(.var 2)])])) [(.ret (.con (.bool false)))] [])]), (.ifs (.or (.not (.call 22 [(.hand 1)])) (.or (.not (.call 23 [(.hand 1)])) (.not (.call 24 [(.hand 1)])))) [(.ret (.con (.bool false)))] []), (.asg 3 (.b1 .tuple (.b1 .sorted (.comp [6] .rng [(.con (.int 40))] [] (.bin .add (.con (.str (Str.ofString "n"))) (.b1 .str (.var 6))))))), (.asg 4 (.tup [(.call 1 [(.var 3)]), (.call 1 [(.bin .add (.bin .add (.sl (.var 3) none (some (.con (.int 20)))) (.sl (.var 3) (some (.con (.int 21))) none)) (.tup [(.con (.str (Str.ofString "n0")))]))]), (.call 2 [(.sls (.var 3) none none (.con (.int 2))), (.sls (.var 3) (some (.con (.int 1))) none (.con (.int 2)))]), (.call 4 [(.var 3), (.sl (.var 3) (some (.con (.int 39))) none)])])), (.ifs (.not (.call 11 [(.var 4), (.tup [(.con (.bool true)), (.con (.bool false)), (.var 3), (.con (.bool true))])])) [(.ret (.con (.bool false)))] []), (.asg 5 (.tup [(.tup [(.con (.str (Str.ofString "clerk")))]), (.tup []), (.tup [(.con (.str (Str.ofString "made")))])])), (.asg 4 (.tup [(.call 0 [(.con (.str (Str.ofString "a1")))]), (.call 0 [(.con (.str (Str.ofString "then")))]), (.call 5 [(.var 5), (.con (.str (Str.ofString "clerk"))), (.tup [])]), (.call 5 [(.var 5), (.con (.str (Str.ofString "clerk"))), (.tup [(.con (.str (Str.ofString "made")))])]), (.call 7 [(.tup [(.con (.str (Str.ofString "r"))), (.con (.str (Str.ofString "q")))]), (.con (.str (Str.ofString "q"))), (.con (.str (Str.ofString "r")))])])), (.ret (.call 11 [(.var 4), (.tup [(.con (.bool true)), (.con (.bool false)), (.con (.bool true)), (.con (.bool false)), (.con (.bool true))])]))]⟩
/-- 26: law(script) -/
def f_law : Fn := ⟨1, [false], [(.tr [(.ret (.call 25 [(.var 0)]))])]⟩
def fns : List Fn := [f_is_name, f_is_set, f_joined_sets, f_cut_set, f_shares, f_fits_part, f_changed_marks, f_is_later, f_way_follows, f__law_pan, f__law_scrape, f__law_same, f__law_kept, f__law_is_name, f__law_is_set, f__law_name, f__law_set, f__law_things, f__law_lots, f__law_joined, f__law_without, f__law_fits, f__law_sets_asked, f__law_parts_asked, f__law_ways_asked, f__law_whole, f_law]
end K00

set_option maxHeartbeats 1000000
namespace MP.K00
open PySem _root_.K00
variable {wh : Nat}
def panT (cs : List Int) (h c : Int) (f : List Int) : T := .lst [.lst (cs.map fun i => .d (.int i)), .d (.int h), .d (.int c), .lst (f.map fun i => .d (.int i))]
def Pan (t : T) : Prop := ∃ cs h c f, t = panT cs h c f ∧ 0 ≤ h ∧ 0 ≤ c ∧ f.length = 7
def Drawn (many : Int) (x : D) (ts : List T) : Prop := ∃ t' v, Pan t' ∧ 0 ≤ v ∧ v < many ∧ x = .int v ∧ ts = [t']
theorem scrape (n : Nat) {t : T} (ht : Pan t) {place many : Int} (hp : 0 ≤ place ∧ place < 7) (hm : 0 < many) :
    Ans (callN gl wh fns (n+1) 10 [.o t, .d (.int place), .d (.int many)]) (Drawn many) := by
  obtain ⟨cs, h, c, f, rfl, hh, hc, hf⟩ := ht
  obtain ⟨fp, _, e2⟩ := atI_in (xs := f) (i := place) (by omega)
  have fin : ∀ (h' : Int), 0 ≤ h' → Ans (if fp = 1 then R.ok (Ret.d (PyData.int 0)) [panT cs h' (c+1) f] else if fp = 2 then R.ok (Ret.d (PyData.int (many - 1))) [panT cs h' (c+1) f] else R.ok (Ret.d (PyData.int (h' / 83 % many))) [panT cs h' (c+1) f]) (Drawn many) := by
    intro h' hh'
    have hP : Pan (panT cs h' (c+1) f) := ⟨_, _, _, _, rfl, hh', by omega, hf⟩
    split
    · exact .ok ⟨_, 0, hP, by omega, by omega, rfl, rfl⟩
    · split
      · exact .ok ⟨_, many - 1, hP, by omega, by omega, rfl, rfl⟩
      · exact .ok ⟨_, h' / 83 % many, hP, Int.emod_nonneg _ (by omega), Int.emod_lt_of_pos _ hm, rfl, rfl⟩
  rw [call_fin f__law_scrape rfl rfl rfl]
  by_cases hcs : cs = []
  · subst hcs
    simp [f__law_scrape, panT, bin_mod, bin_fdiv, cmp_gt, cmp_eqI, e2, atI_map, hm]
    refine fin _ ?_; exact Int.emod_nonneg _ (by decide)
  · obtain ⟨x, _, e1⟩ := atI_mod ((c + 1) * 3 + 2) hcs
    have hl : 0 < cs.length := List.length_pos_iff.mpr hcs
    simp [f__law_scrape, panT, bin_mod, bin_fdiv, cmp_gt, cmp_eqI, e2, atI_map, hm, e1, hl]
    refine fin _ ?_; exact Int.emod_nonneg _ (by decide)
def keptS : List Str := (["rank", "stage", "mark", "person", "paper", "fresh", "command", "actor", "other", "cell", "then", "has", "hasnt", "put", "take", "never", "may"] : List String).map Str.ofString
def keptL : List D := keptS.map .str
theorem g_kept : g_KEPT = .tuple keptL := rfl
theorem kept (n : Nat) : callN gl wh fns (n+1) 12 [] = .ok (.d (.list keptL)) [] := by
  rw [call_fin f__law_kept rfl rfl rfl]
  simp [f__law_kept, keptL, keptS]
def lowC (c : Nat) : Bool := decide (97 ≤ c) && decide (c ≤ 122)
def sgnC (c : Nat) : Bool := lowC c || (decide (48 ≤ c) && decide (c ≤ 57))
def nmS (s : Str) : Bool := decide (1 ≤ s.length) && (decide (s.length ≤ 8) && (!inD (.str s) keptL && (s.cps.toList.all sgnC && s.cps.toList.head?.any lowC)))
def nm : D → Bool
  | .str s => nmS s
  | _ => false
theorem gl0 : gl[0]? = some g_SMALL := rfl
theorem gl1 : gl[1]? = some g_FIGURES := rfl
theorem gl2 : gl[2]? = some (.tuple keptL) := rfl
def small : Str := Str.ofString "abcdefghijklmnopqrstuvwxyz"
def figures : Str := Str.ofString "0123456789"
theorem g_small : g_SMALL = .str small := rfl
theorem g_figures : g_FIGURES = .str figures := rfl
theorem mem_small0 (c : Nat) : decide (c ∈ small.cps.toList) = lowC c := by
  have : small.cps.toList = [97,98,99,100,101,102,103,104,105,106,107,108,109,110,111,112,113,114,115,116,117,118,119,120,121,122] := by decide +kernel
  rw [this]
  unfold lowC
  rw [← Bool.decide_and, decide_eq_decide]
  simp only [List.mem_cons, List.not_mem_nil, or_false]
  omega
theorem mem_small (c : Nat) : (c ∈ small.cps) = (lowC c = true) := by rw [← mem_small0]; simp
theorem mem_signs0 (c : Nat) : decide (c ∈ (small ++ figures).cps.toList) = sgnC c := by
  have : (small ++ figures).cps.toList = [97,98,99,100,101,102,103,104,105,106,107,108,109,110,111,112,113,114,115,116,117,118,119,120,121,122,48,49,50,51,52,53,54,55,56,57] := by decide +kernel
  rw [this]
  unfold sgnC lowC
  rw [← Bool.decide_and, ← Bool.decide_and, ← Bool.decide_or, decide_eq_decide]
  simp only [List.mem_cons, List.not_mem_nil, or_false]
  omega
theorem mem_signs (c : Nat) : (c ∈ (small ++ figures).cps) = (sgnC c = true) := by rw [← mem_signs0]; simp
theorem len_sf : small.length + figures.length ≤ 16777216 := by decide +kernel
theorem signs_map (s : Str) : signs s = s.cps.toList.map fun c => .str ⟨#[c]⟩ := rfl
theorem cps_len (s : Str) : s.cps.toList.length = s.length := rfl
theorem cast_sgn {s : Str} (hl : s.length ≤ 16777216) {cl : Call} {env : Env} (hv : env.val 0 = some (.str s)) (hn : noOwn [1] env = true) (hk : 1 < env.length) :
    evComp [1] (evI cl gl .any [.var 0]) (evCs cl gl []) (evE cl gl (.cmp (.var 1) .isin (.bin .add (.glob 0) (.glob 1)))) env = .ok (s.cps.toList.map fun c => .bool (sgnC c)) env := by
  have hi : evI cl gl .any [.var 0] env = .ok (signs s) env := by simp [hv]
  let g : D → D := fun x => match x with
    | .str t => .bool (t.cps.toList.all sgnC)
    | _ => .none
  rw [evComp1m (g := g) hi hn ?_]
  · have e : (signs s).map g = s.cps.toList.map fun c => .bool (sgnC c) := by
      rw [signs_map, List.map_map]
      apply List.map_congr_left
      intro c _
      simp [g]
    have e2 : (signs s).length = s.length := by rw [signs_map, List.length_map]; rfl
    rw [e, e2, if_pos (by simpa using hl)]
  · intro x hx
    rw [signs_map] at hx
    obtain ⟨c, _, rfl⟩ := List.mem_map.mp hx
    have hv1 : Env.val (env.set 1 (.val (.str ⟨#[c]⟩))) 1 = some (.str ⟨#[c]⟩) := by
      unfold Env.val
      rw [List.getElem?_set_self hk]
    simp [hv1, gl0, gl1, g_small, g_figures, len_sf, mem_signs, g]
theorem is_name (n : Nat) (x : D) : callN gl wh fns (n+1) 0 [.d x] = .ok (.d (.bool (nm x))) [] := by
  rw [call_fin f_is_name rfl rfl rfl]
  cases x with
  | str s =>
    by_cases h1 : 1 ≤ s.length
    · by_cases h2 : s.length ≤ 8
      · have h2' : ¬ 8 < s.length := by omega
        have h2'' : s.length ≤ 16777216 := by omega
        cases h3 : inD (.str s) keptL with
        | true => simp [f_is_name, isTy, cmp_le, gl0, gl1, gl2, h1, h2, h2', h3, nm, nmS]
        | false =>
          obtain ⟨c, r, hc⟩ : ∃ c r, s.cps.toList = c :: r := by
            cases h : s.cps.toList with
            | nil => rw [← cps_len, h] at h1; simp at h1
            | cons c r => exact ⟨c, r, rfl⟩
          have hc0 : s.cps[0]? = some c := by rw [← Array.getElem?_toList, hc]; rfl
          simp [f_is_name, isTy, cmp_le, gl0, gl1, gl2, h1, h2, h2', h3, hc0, g_small, mem_small]
          cases h4 : lowC c with
          | false => simp [h4, nm, nmS, h1, h2, h3, hc]
          | true =>
            simp
            rw [cast_sgn h2'' rfl rfl (by simp)]
            simp [nm, nmS, h1, h2, h3, hc, h4]
      · simp [f_is_name, isTy, cmp_le, h1, h2, nm, nmS, Nat.lt_of_not_le h2]
    · have h1' : s.length = 0 := by omega
      simp [f_is_name, isTy, cmp_le, h1, nm, nmS, h1']
  | _ => simp [f_is_name, isTy, nm]
end MP.K00

set_option maxHeartbeats 1000000
namespace MP.K00
open PySem _root_.K00
variable {wh : Nat}
theorem ltS_one (c d : Nat) : ltS ⟨#[c]⟩ ⟨#[d]⟩ = decide (c < d) := by
  unfold ltS
  rw [decide_eq_decide]
  show ([c] : List Nat) < [d] ↔ _
  rw [List.cons_lt_cons_iff]
  simp
theorem ltS_hd (c d : Nat) (r : Str) (h : r.cps.toList.head? = some d) : ltS r ⟨#[c]⟩ = decide (d < c ∨ (d = c ∧ r.cps.toList.tail < [])) := by
  unfold ltS
  rw [decide_eq_decide]
  cases hr : r.cps.toList with
  | nil => rw [hr] at h; cases h
  | cons x t =>
    rw [hr] at h
    cases h
    rw [List.cons_lt_cons_iff]
    simp
theorem s_a : Str.ofString "a" = ⟨#[97]⟩ := by decide +kernel
theorem s_z : Str.ofString "z" = ⟨#[122]⟩ := by decide +kernel
theorem s_0 : Str.ofString "0" = ⟨#[48]⟩ := by decide +kernel
theorem s_9 : Str.ofString "9" = ⟨#[57]⟩ := by decide +kernel
theorem law_is_name (n : Nat) (x : D) : callN gl wh fns (n+2) 13 [.d x] = .ok (.d (.bool (nm x))) [] := by
  rw [call_fin f__law_is_name rfl rfl rfl]
  cases x with
  | str s =>
    by_cases h1 : 1 ≤ s.length
    · have h1' : ¬ s.length = 0 := by omega
      by_cases h2 : s.length ≤ 8
      · have h2' : ¬ 8 < s.length := by omega
        cases h3 : inD (.str s) keptL with
        | true => simp [f__law_is_name, isTy, cmp_eqI, cmp_gt, h1, h1', h2, h2', h3, nm, nmS, kept]
        | false =>
          obtain ⟨c, r, hc⟩ : ∃ c r, s.cps.toList = c :: r := by
            cases h : s.cps.toList with
            | nil => rw [← cps_len, h] at h1; simp at h1
            | cons c r => exact ⟨c, r, rfl⟩
          have hc0 : s.cps[0]? = some c := by rw [← Array.getElem?_toList, hc]; rfl
          simp [f__law_is_name, isTy, cmp_eqI, cmp_gt, h1, h1', h2, h2', h3, kept]
          let p : D → Bool := fun x => match x with
            | .str t => t.cps.toList.all sgnC
            | _ => false
          obtain ⟨s', ⟨v, rfl⟩, e⟩ := loopL_all (body := turnS (callN gl wh fns (n + 1)) gl wh [1]
              [S.ifs
                  (((E.con (PyData.str (Str.ofString "a"))).cmp2 Cm.le (E.var 1) Cm.le
                          (E.con (PyData.str (Str.ofString "z")))).not.and
                    ((E.con (PyData.str (Str.ofString "0"))).cmp2 Cm.le (E.var 1) Cm.le
                        (E.con (PyData.str (Str.ofString "9")))).not)
                  [S.ret (E.con (PyData.bool false))] []]) (fun e => ∃ v, e = [Slot.val (PyData.str s), v]) p (.d (.bool false)) (signs s) [Slot.val (PyData.str s), Slot.no] ⟨_, rfl⟩ (by
            rintro x hx _ ⟨v, rfl⟩
            rw [signs_map] at hx
            obtain ⟨c, _, rfl⟩ := List.mem_map.mp hx
            refine ⟨_, ⟨.val (.str ⟨#[c]⟩), rfl⟩, ?_⟩
            simp [turnS, s_a, s_z, s_0, s_9, ltS_one, p, sgnC, lowC]
            by_cases a1 : 97 ≤ c <;> by_cases a2 : c ≤ 122 <;> by_cases a3 : 48 ≤ c <;> by_cases a4 : c ≤ 57 <;> simp [a1, a2, a3, a4, Nat.not_lt.mpr, Nat.lt_of_not_le])
          rw [e]
          have ep : (signs s).all p = s.cps.toList.all sgnC := by
            rw [signs_map, List.all_map]
            congr 1
            funext c
            simp [p]
          rw [ep]
          cases h5 : s.cps.toList.all sgnC with
          | false => simp [nm, nmS, h1, h2, h3, h5]
          | true =>
            have hs : sgnC c = true ∧ r.all sgnC = true := by
              rw [hc] at h5
              simpa only [List.all_cons, Bool.and_eq_true] using h5
            have hl : lowC c = !decide (c < 97) := by
              have := hs.1
              simp only [sgnC, lowC, Bool.or_eq_true, Bool.and_eq_true, decide_eq_true_eq] at this
              unfold lowC
              by_cases a1 : c < 97
              · have a2 : ¬ 97 ≤ c := by omega
                simp [a1, a2]
              · have a2 : 97 ≤ c := by omega
                have a3 : c ≤ 122 := by omega
                simp [a1, a2, a3]
            simp [nm, nmS, h1, h2, h3, hc0, s_a, ltS_one, hc, hs.1, hs.2, hl]
      · simp [f__law_is_name, isTy, cmp_eqI, cmp_gt, h1, h2, nm, nmS, Nat.lt_of_not_le h2, h1']
    · have h1' : s.length = 0 := by omega
      simp [f__law_is_name, isTy, cmp_eqI, h1, nm, nmS, h1']
  | _ => simp [f__law_is_name, isTy, nm]
/-! sets -/
/-- names that ascend -/
def asc : List D → Bool
  | .str a :: .str b :: r => ltS a b && asc (.str b :: r)
  | _ => true
def st : D → Bool
  | .tuple xs => xs.all nm && asc xs
  | _ => false
theorem nm_str {x : D} (h : nm x = true) : ∃ s, x = .str s := by
  cases x <;> first | exact ⟨_, rfl⟩ | cases h
theorem zip_t (xs ys : List D) : zip? (.tuple xs) (.tuple ys) = some (zipD xs ys) := rfl
theorem cut_t (xs : List D) (lo hi : Option Int) : cutD (.tuple xs) lo hi = some (.tuple (cut xs lo hi)) := rfl
theorem cut_1 (xs : List D) : cut xs (some 1) none = xs.drop 1 := by
  have : HT.sIx xs.length 0 (some 1) = min 1 xs.length := HT.sIx_nat _ _ 1
  unfold cut
  rw [this, HT.sIx_none]
  cases xs with
  | nil => rfl
  | cons x r => simp
/-- a comprehension over pairs -/
theorem evComp2m {j k : Nat} {cl : Call} {gl : List D} {evi : Env → R Env (List D)} {eve : Env → R Env D} {env : Env} {ps : List (D × D)} {g : D → D → D} (hjk : j ≠ k) (hi : evi env = .ok (ps.map fun p => .tuple [p.1, p.2]) env) (hn : noOwn [j, k] env = true)
    (h : ∀ p ∈ ps, eve ((env.set j (.val p.1)).set k (.val p.2)) = .ok (g p.1 p.2) ((env.set j (.val p.1)).set k (.val p.2))) :
    evComp [j, k] evi (evCs cl gl []) eve env = if fits ps.length = true then .ok (ps.map fun p => g p.1 p.2) env else .err := by
  have hcl : ∀ e : Env, clear [j, k] e = (e.set k .no).set j .no := fun e => rfl
  have hst : ∀ x y, (((env.set k .no).set j .no).set j (.val x)).set k (.val y) = (env.set j (.val x)).set k (.val y) := fun x y => by
    rw [List.set_set, List.set_comm _ _ hjk, List.set_set, List.set_comm _ _ hjk]
  let gg : D → Option D := fun x => match x with
    | .tuple [a, b] => some (g a b)
    | _ => none
  rw [evCompP (g := gg) hi hn ?_ ?_]
  · have e : (ps.map fun p => PyData.tuple [p.1, p.2]).filterMap gg = ps.map fun p => g p.1 p.2 := by
      rw [List.filterMap_map, ← List.filterMap_eq_map]
      rfl
    rw [e, List.length_map]
  · intro x hx
    obtain ⟨p, hp, rfl⟩ := List.mem_map.mp hx
    refine ⟨(env.set j (.val p.1)).set k (.val p.2), ?_, ?_, ?_⟩
    · show some ((((clear [j, k] env).set j (.val p.1)).set k (.val p.2))) = _
      rw [hcl, hst]
    · rw [hcl, hcl, List.set_set, List.set_comm _ _ (Ne.symm hjk), List.set_set, List.set_comm _ _ hjk]
    · simp [h p hp, gg]
  · intro e he
    rw [hcl, hcl] at he
    show ((e.set k (env.getD k .no))).set j (env.getD j .no) = env
    have e1 : ((e.set k .no).set j .no).set j (env.getD j .no) = ((env.set k .no).set j .no).set j (env.getD j .no) := by rw [he]
    rw [List.set_set, List.set_set, List.set_comm _ _ (Ne.symm hjk), List.set_comm _ _ (Ne.symm hjk)] at e1
    have e2 : env.set j (env.getD j .no) = env := set_same_no rfl
    rw [e2] at e1
    have e3 := congrArg (fun z => List.set z k (env.getD k .no)) e1
    simp only [List.set_set] at e3
    rw [List.set_comm _ _ (Ne.symm hjk)]
    rw [e3]
    exact set_same_no rfl
theorem asc_zip : ∀ xs : List D, xs.all nm = true → (xs.zip (xs.drop 1)).all (fun p => match p.1, p.2 with
    | .str a, .str b => ltS a b
    | _, _ => false) = asc xs
  | [], _ => rfl
  | [x], h => by
    cases x <;> rfl
  | x :: y :: r, h => by
    simp only [List.all_cons, Bool.and_eq_true] at h
    obtain ⟨a, rfl⟩ := nm_str h.1
    obtain ⟨b, rfl⟩ := nm_str h.2.1
    have ih := asc_zip (.str b :: r) (by simp only [List.all_cons, Bool.and_eq_true]; exact h.2)
    show (_ && _) = (_ && _)
    rw [← ih]
    rfl
theorem is_set (n : Nat) (x : D) (hx : ∀ xs, x = .tuple xs → xs.length ≤ 1000) : callN gl wh fns (n+2) 1 [.d x] = .ok (.d (.bool (st x))) [] := by
  rw [call_fin f_is_set rfl rfl rfl]
  cases x with
  | tuple xs =>
    have hl := hx xs rfl
    simp [f_is_set, isTy]
    rw [evComp1m (xs := xs) (g := fun x => .bool (nm x)) (by simp) rfl (by
      intro x _
      simp [is_name])]
    cases ha : xs.all nm with
    | false =>
      have : ¬ ∀ x ∈ xs, nm x = true := by
        intro h
        rw [List.all_eq_true.mpr h] at ha
        cases ha
      simp [st, ha, this]
      omega
    | true =>
      have hf : xs.length ≤ 16777216 := by omega
      have : ∀ x ∈ xs, nm x = true := List.all_eq_true.mp ha
      simp [st, ha, this, hf, zip_t, cut_t, cut_1]
      rw [evComp2m (ps := xs.zip (xs.drop 1)) (g := fun a b => .bool (match a, b with
        | .str a, .str b => ltS a b
        | _, _ => false)) (by decide) ?_ rfl ?_]
      · rw [← asc_zip xs ha]
        simp
        omega
      · simp [cut_t, cut_1, zip_t, zipD_eq]
      · intro p hp
        obtain ⟨a, ha⟩ := nm_str (this p.1 (List.of_mem_zip hp).1)
        obtain ⟨b, hb⟩ := nm_str (this p.2 (List.mem_of_mem_drop (List.of_mem_zip hp).2))
        simp [ha, hb]
  | _ => simp [f_is_set, isTy, st]
def ltN (x y : D) : Bool := match x, y with
  | .str a, .str b => ltS a b
  | _, _ => false
def lastLt (l : List D) (y : D) : Bool := match l.getLast? with
  | some a => ltN a y
  | none => true
theorem asc_snoc (y : D) (hy : nm y = true) : ∀ l : List D, l.all nm = true → asc (l ++ [y]) = (asc l && lastLt l y)
  | [], _ => by cases y <;> rfl
  | [x], h => by
    obtain ⟨b, rfl⟩ := nm_str hy
    simp only [List.all_cons, Bool.and_eq_true] at h
    obtain ⟨a, rfl⟩ := nm_str h.1
    show (ltS a b && asc [.str b]) = (asc [.str a] && ltS a b)
    simp [asc]
  | x :: z :: r, h => by
    simp only [List.all_cons, Bool.and_eq_true] at h
    obtain ⟨a, rfl⟩ := nm_str h.1
    obtain ⟨b, rfl⟩ := nm_str h.2.1
    have ih := asc_snoc y hy (.str b :: r) (by simp only [List.all_cons, Bool.and_eq_true]; exact h.2)
    show (ltS a b && asc ((.str b :: r) ++ [y])) = ((ltS a b && asc (.str b :: r)) && _)
    rw [ih, Bool.and_assoc]
    unfold lastLt
    rw [List.getLast?_cons_cons]
theorem asc_take : ∀ (xs : List D) (k : Nat), asc xs = true → asc (xs.take k) = true
  | [], k, _ => by simp [asc]
  | x :: r, 0, _ => by simp [asc]
  | [x], k + 1, h => by simpa using h
  | x :: y :: r, 1, h => by cases x <;> rfl
  | x :: y :: r, k + 2, h => by
    cases x with
    | str a =>
      cases y with
      | str b =>
        have h : (ltS a b && asc (.str b :: r)) = true := h
        simp only [Bool.and_eq_true] at h
        have ih := asc_take (.str b :: r) (k + 1) h.2
        show (ltS a b && asc ((.str b :: r).take (k + 1))) = true
        simp only [Bool.and_eq_true]
        exact ⟨h.1, ih⟩
      | _ => rfl
    | _ => rfl
theorem st_take {xs : List D} (k : Nat) (h : st (.tuple xs) = true) : st (.tuple (xs.take k)) = true := by
  simp only [st, Bool.and_eq_true] at h ⊢
  refine ⟨?_, asc_take _ _ h.2⟩
  rw [List.all_eq_true] at h ⊢
  exact fun x hx => h.1 x (List.mem_of_mem_take hx)
theorem law_is_set (n : Nat) (x : D) (hx : ∀ xs, x = .tuple xs → xs.length ≤ 1000) : callN gl wh fns (n+3) 14 [.d x] = .ok (.d (.bool (st x))) [] := by
  rw [call_fin f__law_is_set rfl rfl rfl]
  cases x with
  | tuple xs =>
    have hl := hx xs rfl
    simp [f__law_is_set, isTy, range_nat xs.length (by omega)]
    have key := loopL_pre (body := turnS (callN gl wh fns (n + 2)) gl wh [1] [(.ifs (.not (.call 13 [(.ix (.var 0) (.var 1))])) [(.ret (.con (.bool false)))] []), (.ifs (.and (.cmp (.var 1) .gt (.con (.int 0))) (.not (.cmp (.ix (.var 0) (.bin .sub (.var 1) (.con (.int 1)))) .lt (.ix (.var 0) (.var 1))))) [(.ret (.con (.bool false)))] [])])
      (fun l e => ∃ v, e = [Slot.val (.tuple xs), v] ∧ st (.tuple (xs.take l.length)) = true) (fun f e => (f = .nx ∧ st (.tuple xs) = true ∧ ∃ v, e = [Slot.val (.tuple xs), v]) ∨ (f = .rt (.d (.bool false)) ∧ st (.tuple xs) = false))
      ((List.range xs.length).map fun (k : Nat) => PyData.int k) [] [Slot.val (.tuple xs), Slot.no] ⟨_, rfl, rfl⟩ (by
        intro l x r e s ⟨v, hs, hst⟩
        subst hs
        rw [List.nil_append] at e
        obtain ⟨rfl, hk⟩ := range_split e
        have hk1 : xs[l.length]? = some xs[l.length] := List.getElem?_eq_getElem hk
        have ha : L2.atI xs (l.length : Int) = some xs[l.length] := by rw [atI_of (by omega)]; exact hk1
        generalize xs[l.length] = y at hk1 ha
        have ht := take_snoc hk1
        have hfalse : st (.tuple (xs.take (l.length + 1))) = false → st (.tuple xs) = false := fun h => by
          cases h2 : st (.tuple xs) with
          | false => rfl
          | true => rw [st_take _ h2] at h; cases h
        have hal : (xs.take l.length).all nm = true := by
          simp only [st, Bool.and_eq_true] at hst
          exact hst.1
        have hst1 : st (.tuple (xs.take (l.length + 1))) = (nm y && lastLt (xs.take l.length) y) := by
          rw [ht]
          simp only [st, List.all_append, hal, List.all_cons, List.all_nil, Bool.true_and, Bool.and_true]
          cases hy : nm y with
          | false => rfl
          | true =>
            rw [asc_snoc y hy _ hal]
            simp only [st, Bool.and_eq_true] at hst
            rw [hst.2]
            simp only [Bool.true_and]
        cases hy : nm y with
        | false =>
          have := hfalse (by rw [hst1, hy]; rfl)
          simp [turnS, ha, law_is_name, hy, this]
        | true =>
          rw [hy] at hst1
          by_cases hk0 : l.length = 0
          · have hl0 : l = [] := List.eq_nil_of_length_eq_zero hk0
            subst hl0
            have : st (.tuple (xs.take 1)) = true := by
              rw [show (1 : Nat) = ([] : List D).length + 1 from rfl, hst1]; rfl
            simp at ha
            simp [turnS, ha, law_is_name, hy, cmp_gt, this]
          · have hz : (xs.take l.length).getLast? = xs[l.length - 1]? := by
              rw [List.getLast?_eq_getElem?, List.length_take, Nat.min_eq_left (by omega), List.getElem?_take_of_lt (by omega)]
            have hz2 : xs[l.length - 1]? = some xs[l.length - 1] := List.getElem?_eq_getElem (by omega)
            have hzm : xs[l.length - 1] ∈ xs.take l.length := by
              have : (xs.take l.length)[l.length - 1]? = some xs[l.length - 1] := by rw [List.getElem?_take_of_lt (by omega)]; exact hz2
              exact List.mem_of_getElem? this
            have hz3 : L2.atI xs ((l.length : Int) - 1) = some xs[l.length - 1] := by
              rw [atI_of (by omega), ← hz2]
              congr 1
              omega
            generalize xs[l.length - 1] = z at hz2 hzm hz3
            obtain ⟨a, rfl⟩ := nm_str (List.all_eq_true.mp hal z hzm)
            obtain ⟨b, rfl⟩ := nm_str hy
            unfold lastLt at hst1
            rw [hz, hz2] at hst1
            have hst1 : st (.tuple (xs.take (l.length + 1))) = ltS a b := by rw [hst1]; rfl
            have hk0' : 0 < l.length := by omega
            cases hab : ltS a b with
            | false =>
              have := hfalse (by rw [hst1, hab])
              simp [turnS, ha, law_is_name, hy, cmp_gt, hk0', hz3, hab, this]
            | true => simp [turnS, ha, law_is_name, hy, cmp_gt, hk0', hz3, hab, hst1]) (by
        intro s ⟨v, hs, hst⟩
        refine .inl ⟨rfl, ?_, v, hs⟩
        simpa using hst)
    obtain ⟨f, e, h1, h2⟩ := key.ex
    rw [h1]
    rcases h2 with ⟨rfl, h3, v, rfl⟩ | ⟨rfl, h3⟩
    · simp [h3]
    · simp [h3]
  | _ => simp [f__law_is_set, isTy, st]
end MP.K00

set_option maxHeartbeats 1000000
namespace MP.K00
open PySem _root_.K00
variable {wh : Nat}
/-! tuples of texts -/
def ts (ss : List Str) : D := .tuple (ss.map .str)
theorem strs_str : ∀ ss : List Str, strs? (ss.map .str) = some ss
  | [] => rfl
  | s :: r => by
    show (strs? (r.map .str)).map (s :: ·) = _
    rw [strs_str r]
    rfl
theorem ss_1 {a : List Str} (h : a.length ≤ 1000) : b1D .sortedSet (.list (a.map .str)) = some (.list ((sortS (dedup a)).map .str)) := by
  show (Option.map _ (setD (a.map .str))) = _
  unfold setD
  rw [strs_str]
  dsimp only
  rw [if_pos (by rw [decide_eq_true_eq]; omega)]
  rfl
theorem ss_2 {a b : List Str} (h : a.length + b.length ≤ 1000) : b2D .sortedSets (.tuple (a.map .str)) (.tuple (b.map .str)) = some (.list ((sortS (dedup (a ++ b))).map .str)) := by
  show (Option.map _ (setD (a.map .str ++ b.map .str))) = _
  unfold setD
  rw [← List.map_append, strs_str]
  dsimp only
  rw [if_pos (by rw [decide_eq_true_eq, List.length_append]; omega)]
  rfl
def jn (a b : List Str) : List Str := sortS (dedup (a ++ b))
theorem joined (n : Nat) {a b : List Str} (h : a.length + b.length ≤ 1000) : callN gl wh fns (n+1) 2 [.d (ts a), .d (ts b)] = .ok (.d (ts (jn a b))) [] := by
  rw [call_fin f_joined_sets rfl rfl rfl]
  simp [f_joined_sets, ts, ss_2 h, jn]
theorem law_joined (n : Nat) {a b : List Str} (h : a.length + b.length ≤ 1000) : callN gl wh fns (n+1) 19 [.d (ts a), .d (ts b)] = .ok (.d (ts (jn a b))) [] := by
  rw [call_fin f__law_joined rfl rfl rfl]
  have h1 : a.length + b.length ≤ 16777216 := by omega
  simp [f__law_joined, ts, h1, jn]
  rw [← List.map_append, ss_1 (by rw [List.length_append]; omega)]
  simp
theorem inD_str (s : Str) (b : List Str) : inD (.str s) (b.map .str) = decide (s ∈ b) := by
  unfold inD
  rw [List.any_map]
  induction b with
  | nil => rfl
  | cons x r ih =>
    rw [List.any_cons, ih]
    show ((PyData.eqv (.str x) (.str s)) || _) = _
    have : PyData.eqv (.str x) (.str s) = decide (s = x) := by
      show (x == s) = _
      by_cases h : s = x
      · subst h; simp
      · have h2 : ¬ x = s := fun e => h e.symm
        simp [h, h2]
    rw [this]
    by_cases h1 : s = x <;> by_cases h2 : s ∈ r <;> simp [h1, h2]
def wo (a b : List Str) : List Str := a.filter fun s => !decide (s ∈ b)
theorem filter_str (a : List Str) (p : D → Bool) : (a.map PyData.str).filter p = (a.filter fun s => p (.str s)).map .str := by
  induction a with
  | nil => rfl
  | cons x r ih =>
    rw [List.map_cons, List.filter_cons, List.filter_cons, ih]
    split <;> rfl
theorem wo_len (a b : List Str) : (wo a b).length ≤ a.length := List.length_filter_le _ _
theorem filt {j : Nat} {cl : Call} {i : Nat} {env : Env} {a b : List Str} (h : a.length ≤ 1000) {c : E} {evi : Env → R Env (List D)} {p : Str → Bool} (hi : evi env = .ok (a.map .str) env) (hn : noOwn [j] env = true) (hl : j < env.length)
    (hc : ∀ s ∈ a, evE cl gl c (env.set j (.val (.str s))) = .ok (.bool (p s)) (env.set j (.val (.str s)))) :
    evComp [j] evi (evCs cl gl [c]) (evE cl gl (.var j)) env = .ok ((a.filter p).map .str) env := by
  let q : D → Bool := fun x => match x with
    | .str s => p s
    | _ => false
  rw [evComp1f (p := q) hi hn hl]
  · have : (a.map PyData.str).filter q = (a.filter p).map .str := by rw [filter_str]
    rw [this, List.length_map, if_pos]
    have := List.length_filter_le p a
    simp
    omega
  · intro x hx
    obtain ⟨s, hs, rfl⟩ := List.mem_map.mp hx
    exact hc s hs
theorem cut_set (n : Nat) {a b : List Str} (h : a.length ≤ 1000) : callN gl wh fns (n+1) 3 [.d (ts a), .d (ts b)] = .ok (.d (ts (wo a b))) [] := by
  rw [call_fin f_cut_set rfl rfl rfl]
  simp [f_cut_set, ts]
  rw [filt (i := 0) (b := b) h (a := a) (p := fun s => !decide (s ∈ b)) (by simp) rfl (by simp) (by intro s _; simp [inD_str])]
  simp [wo]
theorem law_without (n : Nat) {a b : List Str} (h : a.length ≤ 1000) : callN gl wh fns (n+1) 20 [.d (ts a), .d (ts b)] = .ok (.d (ts (wo a b))) [] := by
  rw [call_fin f__law_without rfl rfl rfl]
  simp [f__law_without, ts]
  rw [filt (i := 0) (b := b) h (a := a) (p := fun s => !decide (s ∈ b)) (by simp) rfl (by simp) (by intro s _; simp [inD_str])]
  simp [wo]
/-- a comprehension of bools -/
theorem bls {j : Nat} {cl : Call} {env : Env} {a : List Str} (h : a.length ≤ 1000) {evi : Env → R Env (List D)} {eve : Env → R Env D} {p : Str → Bool} (hi : evi env = .ok (a.map .str) env) (hn : noOwn [j] env = true)
    (hc : ∀ s ∈ a, eve (env.set j (.val (.str s))) = .ok (.bool (p s)) (env.set j (.val (.str s)))) :
    evComp [j] evi (evCs cl gl []) eve env = .ok (a.map fun s => .bool (p s)) env := by
  let q : D → D := fun x => match x with
    | .str s => .bool (p s)
    | _ => .none
  rw [evComp1m (g := q) hi hn]
  · rw [List.map_map, List.length_map, if_pos (by simp; omega)]
    rfl
  · intro x hx
    obtain ⟨s, hs, rfl⟩ := List.mem_map.mp hx
    exact hc s hs
theorem shares (n : Nat) {a b : List Str} (h : a.length ≤ 1000) : callN gl wh fns (n+1) 4 [.d (ts a), .d (ts b)] = .ok (.d (.bool (a.any fun s => decide (s ∈ b)))) [] := by
  rw [call_fin f_shares rfl rfl rfl]
  simp [f_shares, ts]
  rw [bls h (p := fun s => decide (s ∈ b)) (by simp) rfl (by intro s _; simp [inD_str])]
  simp
def fits3 (r h hn : List Str) (s : Str) (m : List Str) : Bool := decide (s ∈ r) && ((h.all fun x => decide (x ∈ m)) && !(hn.any fun x => decide (x ∈ m)))
theorem fits_part (n : Nat) {r h hn m : List Str} (s : Str) (h1 : h.length ≤ 1000) (h2 : hn.length ≤ 1000) : callN gl wh fns (n+1) 5 [.d (.tuple [ts r, ts h, ts hn]), .d (.str s), .d (ts m)] = .ok (.d (.bool (fits3 r h hn s m))) [] := by
  rw [call_fin f_fits_part rfl rfl rfl]
  simp [f_fits_part, ts, inD_str]
  by_cases hr : s ∈ r
  · simp [hr]
    rw [bls h1 (p := fun s => decide (s ∈ m)) (by simp) rfl (by intro s _; simp [inD_str])]
    cases ha : h.all fun x => decide (x ∈ m) with
    | false => simp [fits3, hr, ha]
    | true =>
      simp [fits3, hr, ha]
      rw [bls h2 (p := fun s => decide (s ∈ m)) (by simp) rfl (by intro s _; simp [inD_str])]
      simp
  · simp [hr, fits3]
/-- a loop that ends the def by False at the first that does not pass -/
theorem lookL {α : Type} {body : α → Env → R Env Flow} (I : Env → Prop) (p : α → Bool) (r : Ret) {xs : List α} {s : Env} (h : I s) (k : ∀ x ∈ xs, ∀ s, I s → ∃ s', I s' ∧ body x s = if p x = true then .ok .nx s' else .ok (.rt r) s') : ∃ s', I s' ∧ loopL body xs s = if xs.all p = true then .ok .nx s' else .ok (.rt r) s' := loopL_all I p r xs s h k
theorem law_fits (n : Nat) {r h hn m : List Str} (s : Str) : callN gl wh fns (n+1) 21 [.d (.tuple [ts r, ts h, ts hn]), .d (.str s), .d (ts m)] = .ok (.d (.bool (fits3 r h hn s m))) [] := by
  rw [call_fin f__law_fits rfl rfl rfl]
  by_cases hr : s ∈ r
  · simp [f__law_fits, ts, inD_str, hr]
    obtain ⟨s1, ⟨v1, rfl⟩, e1⟩ := lookL (body := turnS (callN gl wh fns n) gl wh [3] [(.ifs (.cmp (.var 3) .notin (.var 2)) [(.ret (.con (.bool false)))] [])])
      (fun e => ∃ v, e = [Slot.val (.tuple [.tuple (r.map .str), .tuple (h.map .str), .tuple (hn.map .str)]), Slot.val (.str s), Slot.val (.tuple (m.map .str)), v]) (fun x => inD x (m.map .str)) (.d (.bool false)) (xs := h.map PyData.str) ⟨.no, rfl⟩ (by
        rintro x hx _ ⟨v, rfl⟩
        obtain ⟨t, _, rfl⟩ := List.mem_map.mp hx
        refine ⟨_, ⟨.val (.str t), rfl⟩, ?_⟩
        simp [turnS]
        cases inD (.str t) (m.map PyData.str) <;> rfl)
    rw [e1]
    have ea : (h.map PyData.str).all (fun x => inD x (m.map .str)) = h.all fun x => decide (x ∈ m) := by
      rw [List.all_map]
      congr 1
      funext x
      exact inD_str x m
    rw [ea]
    cases ha : h.all fun x => decide (x ∈ m) with
    | false => simp [fits3, ha]
    | true =>
      simp
      obtain ⟨s2, ⟨v2, rfl⟩, e2⟩ := lookL (body := turnS (callN gl wh fns n) gl wh [3] [(.ifs (.cmp (.var 3) .isin (.var 2)) [(.ret (.con (.bool false)))] [])])
        (fun e => ∃ v, e = [Slot.val (.tuple [.tuple (r.map .str), .tuple (h.map .str), .tuple (hn.map .str)]), Slot.val (.str s), Slot.val (.tuple (m.map .str)), v]) (fun x => !inD x (m.map .str)) (.d (.bool false)) (xs := hn.map PyData.str) ⟨v1, rfl⟩ (by
          rintro x hx _ ⟨v, rfl⟩
          obtain ⟨t, _, rfl⟩ := List.mem_map.mp hx
          refine ⟨_, ⟨.val (.str t), rfl⟩, ?_⟩
          simp [turnS]
          cases inD (.str t) (m.map PyData.str) <;> rfl)
      rw [e2]
      have eb : (hn.map PyData.str).all (fun x => !inD x (m.map .str)) = !hn.any fun x => decide (x ∈ m) := by
        rw [List.all_map, List.not_any_eq_all_not]
        congr 1
        funext x
        show (!inD (.str x) _) = _
        rw [inD_str]
      rw [eb]
      cases hb : hn.any fun x => decide (x ∈ m) with
      | false => simp [fits3, hr, ha, hb]
      | true => simp [fits3, hr, ha, hb]
  · simp [f__law_fits, ts, inD_str, hr, fits3]
theorem changed (n : Nat) {put take m : List Str} (x0 x1 : D) (h : m.length + put.length ≤ 1000) : callN gl wh fns (n+1) 6 [.d (.tuple [x0, x1, ts put, ts take]), .d (ts m)] = .ok (.d (ts (jn (wo m take) put))) [] := by
  rw [call_fin f_changed_marks rfl rfl rfl]
  simp [f_changed_marks, ts]
  rw [filt (i := 1) (b := take) (a := m) (by omega) (p := fun s => !decide (s ∈ take)) (by simp) rfl (by simp) (by intro s _; simp [inD_str])]
  have h1 : (wo m take).length + put.length ≤ 1000 := by have := wo_len m take; omega
  have h2 : (List.filter (fun s => !decide (s ∈ take)) m).length + put.length ≤ 16777216 := by
    have : (List.filter (fun s => !decide (s ∈ take)) m).length = (wo m take).length := rfl
    omega
  simp [h2]
  rw [← List.map_append, ss_1 (by rw [List.length_append]; exact h1)]
  simp [jn, wo]
theorem idx_ts {ns : List Str} {s : Str} (h : s ∈ ns) : b2D .index (.tuple (ns.map .str)) (.str s) = some (.int (ns.idxOf s : Nat)) := by
  show (strs? (ns.map .str)).bind _ = _
  rw [strs_str]
  show (if s ∈ ns then _ else _) = _
  rw [if_pos h]
theorem is_later (n : Nat) {ns : List Str} {a b : Str} (ha : a ∈ ns) (hb : b ∈ ns) : callN gl wh fns (n+1) 7 [.d (ts ns), .d (.str a), .d (.str b)] = .ok (.d (.bool (decide (ns.idxOf b < ns.idxOf a)))) [] := by
  rw [call_fin f_is_later rfl rfl rfl]
  simp [f_is_later, ts, idx_ts ha, idx_ts hb, cmp_gt]
theorem way_follows (n : Nat) {ns way : List Str} {a b : Str} (ha : a ∈ ns) (hb : b ∈ ns) (hw : way.getLast? = some b) : callN gl wh fns (n+2) 8 [.d (ts ns), .d (ts way), .d (.str a)] = .ok (.d (.bool (decide (ns.idxOf b < ns.idxOf a)))) [] := by
  rw [call_fin f_way_follows rfl rfl rfl]
  have h1 : L2.atI (way.map PyData.str) (-1) = some (.str b) := by
    rw [atI_neg]
    · rw [List.getLast?_map, hw]; rfl
    · intro e
      have : way = [] := by simpa using e
      rw [this] at hw
      cases hw
  simp [f_way_follows, ts, h1]
  rw [show PyData.tuple (ns.map .str) = ts ns from rfl, is_later n ha hb]
  simp
/-! a thing is the same as itself -/
mutual
def flat : D → Bool
  | .dict _ => false
  | .list xs => flats xs && decide (xs.length ≤ 1000)
  | .tuple xs => flats xs && decide (xs.length ≤ 1000)
  | _ => true
def flats : List D → Bool
  | [] => true
  | x :: r => flat x && flats r
end
theorem flats_mem : ∀ {xs : List D}, flats xs = true → ∀ x ∈ xs, flat x = true
  | [], _, x, h => by simp at h
  | y :: r, h, x, hx => by
    simp only [flats, Bool.and_eq_true] at h
    rcases List.mem_cons.mp hx with e | e
    · rw [e]; exact h.1
    · exact flats_mem h.2 x e
theorem depth_mem : ∀ {xs : List D} {x : D}, x ∈ xs → PyData.depth x ≤ PyData.depthAll xs
  | [], x, h => by simp at h
  | y :: r, x, h => by
    rcases List.mem_cons.mp h with e | e
    · rw [e]; simp only [PyData.depthAll]; omega
    · have := depth_mem e
      simp only [PyData.depthAll]
      omega
theorem cmp_eqB (a b : Bool) : cmpD .eq (.bool a) (.bool b) = some (a == b) := by
  simp [cmpD, PyData.eqv]
theorem cmp_eqS (a b : Str) : cmpD .eq (.str a) (.str b) = some (a == b) := by
  simp [cmpD, PyData.eqv]
theorem same_seq (n : Nat) (xs : List D) (hl : xs.length ≤ 1000) (x : D) (hx : x = .list xs ∨ x = .tuple xs) (ih : ∀ y ∈ xs, callN gl wh fns n 11 [.d y, .d y] = .ok (.d (.bool true)) []) :
    callN gl wh fns (n+1) 11 [.d x, .d x] = .ok (.d (.bool true)) [] := by
  have key : ∃ s', (∃ v, s' = [Slot.val x, Slot.val x, v]) ∧ loopL (turnS (callN gl wh fns n) gl wh [2] [(.ifs (.not (.call 11 [(.ix (.var 0) (.var 2)), (.ix (.var 1) (.var 2))])) [(.ret (.con (.bool false)))] [])]) ((List.range xs.length).map fun (k : Nat) => PyData.int k) [Slot.val x, Slot.val x, .no] = .ok .nx s' := by
    obtain ⟨s', h1, h2⟩ := lookL (body := turnS (callN gl wh fns n) gl wh [2] [(.ifs (.not (.call 11 [(.ix (.var 0) (.var 2)), (.ix (.var 1) (.var 2))])) [(.ret (.con (.bool false)))] [])])
      (fun e => ∃ v, e = [Slot.val x, Slot.val x, v]) (fun _ => true) (.d (.bool false)) (xs := (List.range xs.length).map fun (k : Nat) => PyData.int k) (s := [Slot.val x, Slot.val x, .no]) ⟨.no, rfl⟩ (by
        rintro z hz _ ⟨v, rfl⟩
        obtain ⟨k, hk, rfl⟩ := List.mem_map.mp hz
        rw [List.mem_range] at hk
        have ha : L2.atI xs (k : Int) = some xs[k] := by rw [atI_of (by omega)]; exact List.getElem?_eq_getElem hk
        have hi := ih xs[k] (List.getElem_mem hk)
        refine ⟨_, ⟨.val (.int k), rfl⟩, ?_⟩
        rcases hx with rfl | rfl
        · simp [turnS, ha, hi]
        · simp [turnS, ha, hi])
    exact ⟨s', h1, by rw [h2]; simp⟩
  obtain ⟨s', ⟨v, rfl⟩, e⟩ := key
  rw [call_fin f__law_same rfl rfl rfl]
  rcases hx with rfl | rfl
  · simp [f__law_same, isNone, isTy, cmp_neI, range_nat xs.length (by omega)]
    rw [e]
    simp
  · simp [f__law_same, isNone, isTy, cmp_neI, range_nat xs.length (by omega)]
    rw [e]
    simp
theorem same : ∀ (n : Nat) (x : D), dep x < n → flat x = true → callN gl wh fns n 11 [.d x, .d x] = .ok (.d (.bool true)) []
  | 0, _, h, _ => absurd h (by omega)
  | n + 1, x, h, hf => by
    cases x with
    | dict _ => cases hf
    | list xs =>
      simp only [flat, Bool.and_eq_true, decide_eq_true_eq] at hf
      refine same_seq n xs hf.2 _ (.inl rfl) fun y hy => same n y ?_ (flats_mem hf.1 y hy)
      have := depth_mem hy
      simp only [dep, PyData.depth] at h ⊢
      omega
    | tuple xs =>
      simp only [flat, Bool.and_eq_true, decide_eq_true_eq] at hf
      refine same_seq n xs hf.2 _ (.inr rfl) fun y hy => same n y ?_ (flats_mem hf.1 y hy)
      have := depth_mem hy
      simp only [dep, PyData.depth] at h ⊢
      omega
    | none =>
      rw [call_fin f__law_same rfl rfl rfl]
      simp [f__law_same, isNone]
    | bool b =>
      rw [call_fin f__law_same rfl rfl rfl]
      simp [f__law_same, isNone, isTy, cmp_eqB]
    | int b =>
      rw [call_fin f__law_same rfl rfl rfl]
      simp [f__law_same, isNone, isTy, cmp_eqI]
    | str b =>
      rw [call_fin f__law_same rfl rfl rfl]
      simp [f__law_same, isNone, isTy, cmp_eqS]
end MP.K00

set_option maxHeartbeats 2000000
namespace MP.K00
open PySem _root_.K00
variable {wh : Nat}
theorem pan (n : Nat) (ns : List Int) (hns : ns.length ≤ 63) : ∃ t, Pan t ∧ callN gl wh fns (n+1) 9 [.d (.list (ns.map .int))] = .ok (.o t) [] := by
  rw [call_fin f__law_pan rfl rfl rfl]
  simp [f__law_pan]
  have k1 := loopL_pre (body := turnS (callN gl wh fns n) gl wh [2] [(.app 1 [(.con (.int 0))] (.bin .mod (.b1 .int (.var 2)) (.con (.int 15485863)))), (.put 1 [] (.con (.int 1)) (.bin .mod (.bin .add (.bin .add (.bin .mul (.view 1 [(.con (.int 1))]) (.con (.int 4219))) (.bin .mul (.bin .mod (.b1 .int (.var 2)) (.con (.int 15485863))) (.con (.int 5)))) (.con (.int 61))) (.con (.int 433494437))))])
    (fun l e => ∃ cs h v, e = [Slot.val (.list (ns.map .int)), .own (panT cs h 0 [0,0,0,0,0,0,0]), v, .no, .no] ∧ 0 ≤ h ∧ cs.length = l.length)
    (fun f e => f = .nx ∧ ∃ cs h v, e = [Slot.val (.list (ns.map .int)), .own (panT cs h 0 [0,0,0,0,0,0,0]), v, .no, .no] ∧ 0 ≤ h) (ns.map PyData.int) [] [Slot.val (.list (ns.map .int)), .own (panT [] 60101 0 [0,0,0,0,0,0,0]), .no, .no, .no] ⟨[], 60101, .no, rfl, by omega, rfl⟩ (by
      rintro l x r e s ⟨cs, h, v, rfl, hh, hl⟩
      obtain ⟨i, rfl⟩ : ∃ i, x = .int i := by
        have : x ∈ ns.map PyData.int := by
          rw [List.nil_append] at e
          rw [e]; simp
        obtain ⟨i, _, e⟩ := List.mem_map.mp this
        exact ⟨i, e.symm⟩
      have hll : cs.length < 16777216 := by
        have := congrArg List.length e
        simp at this
        omega
      simp [turnS, panT, lstAt, bin_mod, hll]
      refine ⟨cs ++ [i % 15485863], (h * 4219 + i % 15485863 * 5 + 61) % 433494437, ⟨by simp, rfl⟩, Int.emod_nonneg _ (by decide), by simp [hl]⟩) (by
      rintro s ⟨cs, h, v, rfl, hh, _⟩
      exact ⟨rfl, cs, h, v, rfl, hh⟩)
  obtain ⟨f, s1, e1, rfl, cs, h, v, rfl, hh⟩ := k1.ex
  have e1' := e1
  simp only [panT, List.map_nil, List.map_cons] at e1'
  rw [e1']
  simp [bin_mod, cmp_eqI]
  by_cases hb : h % 4 = 1
  · simp [hb, bin_fdiv, range_lit]
    have k2 := loopL_inv (body := turnS (callN gl wh fns n) gl wh [4] [(.put 1 [(.con (.int 3))] (.var 4) (.bin .mod (.var 3) (.con (.int 5)))), (.asg 3 (.bin .fdiv (.var 3) (.con (.int 5))))])
      (fun e => ∃ f r v4, e = [Slot.val (.list (ns.map .int)), .own (panT cs h 0 f), v, .val (.int r), v4] ∧ f.length = 7)
      (fun fl e => fl = .nx ∧ ∃ f r v4, e = [Slot.val (.list (ns.map .int)), .own (panT cs h 0 f), v, .val (.int r), v4] ∧ f.length = 7)
      ((List.range 7).map fun (k : Nat) => PyData.int k) [Slot.val (.list (ns.map .int)), .own (panT cs h 0 [0,0,0,0,0,0,0]), v, .val (.int (h / 4)), .no] ⟨[0,0,0,0,0,0,0], h / 4, .no, rfl, rfl⟩ (by
        rintro x hx s ⟨f, r, v4, rfl, hf⟩
        obtain ⟨k, hk, rfl⟩ := List.mem_map.mp hx
        rw [List.mem_range] at hk
        have hi : L2.ixN 7 (k : Int) = some k := by rw [ixN_nat (by omega)]; rfl
        simp [turnS, panT, bin_mod, bin_fdiv, hi, hf]
        exact ⟨f.set k (r % 5), by rw [List.map_set], by simpa using hf⟩) (by
        rintro s ⟨f, r, v4, rfl, hf⟩
        exact ⟨rfl, f, r, v4, rfl, hf⟩)
    obtain ⟨f, s2, e2, rfl, f, r, v4, rfl, hf⟩ := k2.ex
    simp only [panT, List.map_nil, List.map_cons] at e2
    rw [e2]
    simp
    exact ⟨cs, h, 0, f, rfl, hh, by omega, hf⟩
  · simp [hb]
    exact ⟨cs, h, 0, [0,0,0,0,0,0,0], rfl, hh, by omega, rfl⟩
/-! drawn things -/
def namesS : List Str := (["a", "b", "c", "ab", "a1", "z", "zz", "m", "m0", "m10", "ranks", "hasnot", "puts", "taken", "mayb", "cell9", "abcdefgh", "z9999999"] : List String).map Str.ofString
theorem scr (n : Nat) {t : T} (ht : Pan t) {place many : Int} (hp : 0 ≤ place ∧ place < 7) (hm : 0 < many) : ∃ t' v, Pan t' ∧ 0 ≤ v ∧ v < many ∧ callN gl wh fns (n+1) 10 [.o t, .d (.int place), .d (.int many)] = .ok (.d (.int v)) [t'] := by
  obtain ⟨x, tt, e, t', v, h1, h2, h3, rfl, rfl⟩ := scrape (wh := wh) n ht hp hm
  exact ⟨t', v, h1, h2, h3, e⟩
theorem law_name (n : Nat) {t : T} (ht : Pan t) : ∃ t' s, Pan t' ∧ s ∈ namesS ∧ callN gl wh fns (n+2) 15 [.o t] = .ok (.d (.str s)) [t'] := by
  obtain ⟨t', v, h1, h2, h3, e⟩ := scr (wh := wh) n ht (place := 0) (many := 18) (by omega) (by omega)
  obtain ⟨x, hx, e2⟩ := atI_in (xs := namesS.map PyData.str) (i := v) ⟨h2, by simpa [namesS] using h3⟩
  obtain ⟨s, hs, rfl⟩ := List.mem_map.mp hx
  refine ⟨t', s, h1, hs, ?_⟩
  rw [call_fin f__law_name rfl rfl rfl]
  simp only [namesS, List.map_cons, List.map_nil] at e2
  simp [f__law_name, e, e2]
theorem sort_mem {ss : List Str} {s : Str} (h : s ∈ sortS (dedup ss)) : s ∈ ss := (dedup_mem s ss).mp ((List.mergeSort_perm (dedup ss) leS).mem_iff.mp h)
theorem dedup_len : ∀ ss : List Str, (dedup ss).length ≤ ss.length
  | [] => by simp [dedup]
  | x :: r => by
    have := dedup_len r
    unfold dedup
    split <;> simp <;> omega
theorem sort_len (ss : List Str) : (sortS (dedup ss)).length ≤ ss.length := by
  unfold sortS
  rw [List.length_mergeSort]
  exact dedup_len ss
theorem law_set (n : Nat) {t : T} (ht : Pan t) (most : Int) (hm : 0 ≤ most ∧ most ≤ 100) : ∃ t' ss, Pan t' ∧ (∀ s ∈ ss, s ∈ namesS) ∧ (ss.length : Int) ≤ most ∧ callN gl wh fns (n+3) 16 [.o t, .d (.int most)] = .ok (.d (ts ss)) [t'] := by
  obtain ⟨t1, v, h1, h2, h3, e⟩ := scr (wh := wh) (n + 1) ht (place := 1) (many := most + 1) (by omega) (by omega)
  have hr : rangeD [.int v] = some ((List.range v.toNat).map fun (k : Nat) => .int k) := by
    have := range_nat v.toNat (by omega)
    rwa [Int.toNat_of_nonneg h2] at this
  have key := compL_inv (step := compStep [2] (evCs (callN gl wh fns (n + 2)) gl []) (evE (callN gl wh fns (n + 2)) gl (.call 15 [(.hand 0)])))
    (fun e => ∃ t' v, Pan t' ∧ e = [Slot.own t', .val (.int most), v]) (fun y => ∃ s, s ∈ namesS ∧ y = .str s) ((List.range v.toNat).map fun (k : Nat) => PyData.int k) [Slot.own t1, .val (.int most), .no] ⟨t1, .no, h1, rfl⟩ (by
      rintro x _ s ⟨t', v, hp, rfl⟩
      obtain ⟨t2, s, h4, h5, e5⟩ := law_name (wh := wh) n hp
      simp [compStep_eq, clear, e5]
      exact ⟨h4, h5⟩)
  obtain ⟨ys, s2, e2, ⟨t2, v2, hp2, rfl⟩, hy, hl⟩ := key.ex
  obtain ⟨ss, rfl, hss⟩ : ∃ ss : List Str, ys = ss.map .str ∧ ∀ s ∈ ss, s ∈ namesS := by
    clear e2 hl
    induction ys with
    | nil => exact ⟨[], rfl, by simp⟩
    | cons y r ih =>
      obtain ⟨s, h5, rfl⟩ := hy y List.mem_cons_self
      obtain ⟨ss, rfl, h6⟩ := ih fun z hz => hy z (List.mem_cons_of_mem _ hz)
      refine ⟨s :: ss, rfl, fun z hz => ?_⟩
      rcases List.mem_cons.mp hz with e | e
      · rw [e]; exact h5
      · exact h6 z e
  simp at hl
  have hlen := sort_len ss
  refine ⟨t2, sortS (dedup ss), hp2, fun s hs => hss s (sort_mem hs), by omega, ?_⟩
  rw [call_fin f__law_set rfl rfl rfl]
  have h100 : ss.length ≤ 16777216 := by omega
  have nh : noOwn [2] [Slot.own t1, .val (.int most), .no] = true := rfl
  simp [f__law_set, evComp_eq, e, hr, nh]
  rw [e2]
  simp [h100, back, ss_1 (a := ss) (by omega)]
  rfl
end MP.K00

set_option maxHeartbeats 2000000
namespace MP.K00
open PySem _root_.K00
variable {wh : Nat}
@[simp] theorem cut_s (s : Str) (lo hi : Option Int) : cutD (.str s) lo hi = some (.str (L2.cutS s lo hi)) := (rfl)
theorem up_s {s : Str} (h1 : s.length ≤ 5592405) (h2 : okS (Txt.upper s) = true) : b1D .upper (.str s) = some (.str (Txt.upper s)) := by
  show (if _ then _ else _) = _
  rw [if_pos ⟨by rw [decide_eq_true_eq]; exact h1, h2⟩]
def okName (s : Str) : Bool := decide (s.length ≤ 8) && (okS (Txt.upper (L2.cutS s none (some 1))) && (decide ((L2.cutS s none (some 1)).length ≤ 100) && (decide ((L2.cutS s none (some 6)).length ≤ 100) && decide ((L2.cutS s none (some 4)).length ≤ 100))))
theorem okNames : namesS.all okName = true := by decide +kernel
def okKept (s : Str) : Bool := decide (s.length ≤ 8) && okS (Txt.upper s)
theorem okKepts : keptS.all okKept = true := by decide +kernel
theorem l_A : (Str.ofString "A").length = 1 := by decide +kernel
theorem l_1 : (Str.ofString "1").length = 1 := by decide +kernel
theorem l_b : (Str.ofString " ").length = 1 := by decide +kernel
theorem l_n : (Str.ofString "\n").length = 1 := by decide +kernel
theorem l_x : (Str.ofString "_x").length = 2 := by decide +kernel
theorem l_s : (Str.ofString "s").length = 1 := by decide +kernel
theorem m_8 : binD .mul (.str (Str.ofString "a")) (.int 8) = some (.str (repS (Str.ofString "a") 8)) := by
  show (if _ then _ else _) = _
  rw [if_pos ⟨rfl, by decide +kernel, by decide +kernel⟩]
theorem m_9 : binD .mul (.str (Str.ofString "a")) (.int 9) = some (.str (repS (Str.ofString "a") 9)) := by
  show (if _ then _ else _) = _
  rw [if_pos ⟨rfl, by decide +kernel, by decide +kernel⟩]
theorem m_0 : binD .mul (.str (Str.ofString "0")) (.int 8) = some (.str (repS (Str.ofString "0") 8)) := by
  show (if _ then _ else _) = _
  rw [if_pos ⟨rfl, by decide +kernel, by decide +kernel⟩]
theorem l_0 : (repS (Str.ofString "0") 8).length = 8 := by decide +kernel
/-- some items of a list, by places that go round -/
def pickF (near : List D) (w c : Int) (m : Nat) : List D := (List.range m).map fun (q : Nat) => (L2.atI near ((w + c * (q : Int)) % (near.length : Int))).getD .none
theorem pick_len (near : List D) (w c : Int) (m : Nat) : (pickF near w c m).length = m := by simp [pickF]
theorem pick_mem {near : List D} (w c : Int) (m : Nat) (hn : near ≠ []) : ∀ y ∈ pickF near w c m, y ∈ near := fun y hy => by
  obtain ⟨q, _, rfl⟩ := List.mem_map.mp hy
  obtain ⟨x, hx, e⟩ := atI_mod (w + c * (q : Int)) hn
  rw [e]
  exact hx
theorem pick_ev {cl : Call} {env : Env} {i j k m : Nat} {c w : Int} {near : List D} (hi : env.val i = some (.list near)) (hk : env.val k = some (.int w)) (hn : near ≠ []) (hj : noOwn [j] env = true) (hl : j < env.length) (hij : i ≠ j) (hkj : k ≠ j) (hm : m ≤ 1000) (hc : MP.small c = true) :
    evComp [j] (evI cl gl .rng [.con (.int (m : Int))]) (evCs cl gl []) (evE cl gl (.ix (.var i) (.bin .mod (.bin .add (.var k) (.bin .mul (.con (.int c)) (.var j))) (.b1 .len (.var i))))) env = .ok (pickF near w c m) env := by
  let g : D → D := fun x => match x with
    | .int q => (L2.atI near ((w + c * q) % (near.length : Int))).getD .none
    | _ => .none
  have h0 : (0 : Int) < near.length := by have := List.length_pos_iff.mpr hn; omega
  have vset : ∀ (q : Nat) (x : D), q ≠ j → Env.val (env.set j (.val x)) q = env.val q := fun q x h => by
    unfold Env.val
    rw [List.getElem?_set_ne (Ne.symm h)]
  have vj : ∀ x : D, Env.val (env.set j (.val x)) j = some x := fun x => by
    unfold Env.val
    rw [List.getElem?_set_self hl]
  rw [evComp1m (g := g) (xs := (List.range m).map fun (q : Nat) => PyData.int q) (by
      show evI cl gl .rng [.con (.int (m : Int))] env = _
      simp [range_nat m (by omega)]) hj]
  · rw [if_pos (by simp; omega), List.map_map]
    rfl
  · intro x hx
    obtain ⟨q, _, rfl⟩ := List.mem_map.mp hx
    obtain ⟨x, hx, e⟩ := atI_mod (w + c * (q : Int)) hn
    have e2 : g (.int q) = x := by
      show (L2.atI near ((w + c * (q : Int)) % (near.length : Int))).getD .none = x
      rw [e]; rfl
    simp [vset i _ hij, vset k _ hkj, vj, hi, hk, bin_mulL hc, bin_mod h0, e, e2]
theorem law_things (n : Nat) {t : T} (ht : Pan t) : ∃ t' ds, Pan t' ∧ callN gl wh fns (n+3) 17 [.o t] = .ok (.d (.list ds)) [t'] := by
  obtain ⟨t1, name, p1, hn, e1⟩ := law_name (wh := wh) n ht
  obtain ⟨t2, v, p2, v1, v2, e2⟩ := scr (wh := wh) (n + 1) p1 (place := 2) (many := 17) (by omega) (by omega)
  obtain ⟨x, hx, i2⟩ := atI_in (xs := keptL) (i := v) ⟨v1, by simpa [keptL, keptS] using v2⟩
  obtain ⟨one, ho, rfl⟩ := List.mem_map.mp hx
  obtain ⟨t3, w, p3, w1, w2, e3⟩ := scr (wh := wh) (n + 1) p2 (place := 3) (many := 27) (by omega) (by omega)
  have q1 := List.all_eq_true.mp okNames name hn
  have q2 := List.all_eq_true.mp okKepts one ho
  simp only [okName, okKept, Bool.and_eq_true, decide_eq_true_eq] at q1 q2
  obtain ⟨a1, a2, a3, a4, a5⟩ := q1
  obtain ⟨b1, b2⟩ := q2
  have u1 := up_s (s := L2.cutS name none (some 1)) (by omega) a2
  have u2 := up_s (s := one) (by omega) b2
  have c1 : name.length + 1 ≤ 16777216 := by omega
  have c2 : 1 + name.length ≤ 16777216 := by omega
  have c3 : 1 + (L2.cutS name none (some 6)).length ≤ 16777216 := by omega
  have c4 : (L2.cutS name none (some 4)).length + 2 ≤ 16777216 := by omega
  have c5 : one.length + 1 ≤ 16777216 := by omega
  have c6 : name.length + 8 ≤ 16777216 := by omega
  rw [call_fin f__law_things rfl rfl rfl]
  simp [f__law_things, e1, kept, e2, i2, e3, u1, u2, m_8, m_9, m_0, l_A, l_1, l_b, l_n, l_x, l_s, l_0, c1, c2, c3, c4, c5, c6]
  rw [show (13 : Int) = ((13 : Nat) : Int) from rfl, pick_ev (i := 4) (j := 6) (k := 5) (m := 13) (w := w)]
  case hi => rfl
  case hk => rfl
  case hn => exact List.cons_ne_nil _ _
  case hj => rfl
  case hl => simp
  case hij => decide
  case hkj => decide
  case hm => decide
  case hc => decide
  simp [pick_len]
  exact p3
/-! slices -/
theorem cut_len {α : Type} (xs : List α) (lo hi : Option Int) : (cut xs lo hi).length ≤ xs.length := by
  unfold cut
  simp
  omega
theorem cut_map {α β : Type} (f : α → β) (xs : List α) (lo hi : Option Int) : cut (xs.map f) lo hi = (cut xs lo hi).map f := by
  unfold cut
  rw [List.length_map, List.map_take, List.map_drop]
theorem cut_sub {α : Type} {xs : List α} {lo hi : Option Int} : ∀ x ∈ cut xs lo hi, x ∈ xs := fun x hx => List.mem_of_mem_drop (List.mem_of_mem_take hx)
def stp {α : Type} (xs : List α) (lo hi : Option Int) (k : Int) : List α := pickS xs (Builtin.Slice.sliceAdjust lo hi k xs.length).1 k (Builtin.Slice.slicePlaces (Builtin.Slice.sliceAdjust lo hi k xs.length).1 (Builtin.Slice.sliceAdjust lo hi k xs.length).2 k)
theorem places_le (lo hi k : Int) (hk : k ≠ 0) : Builtin.Slice.slicePlaces lo hi k ≤ (hi - lo).natAbs := by
  unfold Builtin.Slice.slicePlaces
  split
  · split
    · have : (hi - lo - 1) / k ≤ hi - lo - 1 := Int.ediv_le_self _ (by omega)
      omega
    · simp
  · split
    · have : (lo - hi - 1) / (-k) ≤ lo - hi - 1 := Int.ediv_le_self _ (by omega)
      omega
    · simp
theorem adjust_in (lo hi : Option Int) (k : Int) (n : Nat) : (-1 ≤ (Builtin.Slice.sliceAdjust lo hi k n).1 ∧ (Builtin.Slice.sliceAdjust lo hi k n).1 ≤ n) ∧ (-1 ≤ (Builtin.Slice.sliceAdjust lo hi k n).2 ∧ (Builtin.Slice.sliceAdjust lo hi k n).2 ≤ n) := by
  unfold Builtin.Slice.sliceAdjust
  dsimp only
  constructor
  · cases lo with
    | none => dsimp only; split <;> omega
    | some v => dsimp only; split <;> split <;> omega
  · cases hi with
    | none => dsimp only; split <;> omega
    | some v => dsimp only; split <;> split <;> omega
theorem stp_len {α : Type} (xs : List α) (lo hi : Option Int) (k : Int) (hk : k ≠ 0) : (stp xs lo hi k).length ≤ xs.length + 1 := by
  unfold stp pickS
  refine Nat.le_trans (List.length_filterMap_le _ _) ?_
  rw [List.length_range]
  have h1 := places_le (Builtin.Slice.sliceAdjust lo hi k xs.length).1 (Builtin.Slice.sliceAdjust lo hi k xs.length).2 k hk
  have h2 := adjust_in lo hi k xs.length
  omega
theorem stp_map {α β : Type} (f : α → β) (xs : List α) (lo hi : Option Int) (k : Int) : stp (xs.map f) lo hi k = (stp xs lo hi k).map f := by
  unfold stp pickS
  rw [List.length_map, List.map_filterMap]
  congr 1
  funext m
  simp
theorem stp_sub {α : Type} {xs : List α} {lo hi : Option Int} {k : Int} : ∀ x ∈ stp xs lo hi k, x ∈ xs := fun x hx => by
  unfold stp pickS at hx
  obtain ⟨m, _, h⟩ := List.mem_filterMap.mp hx
  exact List.mem_of_getElem? h
theorem step_t {xs : List D} {lo hi : Option Int} {k : Int} (hk : k ≠ 0) (hk1 : k ≠ 1) (hl : xs.length ≤ 1000) : stepD (.tuple xs) lo hi k = some (.tuple (stp xs lo hi k)) := by
  show (if _ then _ else _) = _
  have := stp_len xs lo hi k hk
  rw [if_pos ⟨decide_eq_true hk, decide_eq_true hk1, by rw [fits_iff]; show (stp xs lo hi k).length ≤ _; omega⟩]
  rfl
/-- tuples are short -/
def short : D → Bool
  | .tuple xs => decide (xs.length ≤ 1000)
  | _ => true
theorem short_t {x : D} (h : short x = true) : ∀ xs, x = .tuple xs → xs.length ≤ 1000 := fun xs e => by
  subst e
  simpa [short] using h
theorem law_lots (n : Nat) {t : T} (ht : Pan t) : ∃ t' ds, Pan t' ∧ (∀ d ∈ ds, short d = true) ∧ callN gl wh fns (n+4) 18 [.o t] = .ok (.d (.list ds)) [t'] := by
  obtain ⟨t1, lot, p1, hl1, hl2, e1⟩ := law_set (wh := wh) n ht 5 (by omega)
  obtain ⟨t2, more, p2, hm, e2⟩ := law_name (wh := wh) (n + 1) p1
  obtain ⟨t3, v, p3, v1, v2, e3⟩ := scr (wh := wh) (n + 2) p2 (place := 2) (many := 17) (by omega) (by omega)
  obtain ⟨x, hx, i2⟩ := atI_in (xs := keptL) (i := v) ⟨v1, by simpa [keptL, keptS] using v2⟩
  obtain ⟨t4, w, p4, w1, w2, e4⟩ := scr (wh := wh) (n + 2) p3 (place := 4) (many := 23) (by omega) (by omega)
  have htl := sort_len [more, Str.ofString "q", Str.ofString "b"]
  have s3 := ss_1 (a := [more, Str.ofString "q", Str.ofString "b"]) (by simp)
  generalize htw : sortS (dedup [more, Str.ofString "q", Str.ofString "b"]) = two at htl s3
  simp only [List.length_cons, List.length_nil] at htl
  obtain ⟨y, r, hyr⟩ : ∃ y r, two = y :: r := by
    cases two with
    | nil =>
      have : Str.ofString "q" ∈ sortS (dedup [more, Str.ofString "q", Str.ofString "b"]) := (List.mergeSort_perm _ leS).mem_iff.mpr ((dedup_mem _ _).mpr (by simp))
      rw [htw] at this
      simp at this
    | cons y r => exact ⟨y, r, rfl⟩
  simp only [ts] at e1
  simp only [List.map_cons, List.map_nil] at s3
  have k1 := cut_len (lot.map PyData.str) (some (-1)) none
  have k2 := cut_len (two.map PyData.str) (some 1) none
  have k3 := cut_len (two.map PyData.str) none (some 1)
  have k4 := stp_len (two.map PyData.str) none none (-1) (by decide)
  rw [List.length_map] at k1 k2 k3 k4
  have c1 : lot.length + (cut (lot.map PyData.str) (some (-1)) none).length ≤ 16777216 := by omega
  have c2 : lot.length + 1 ≤ 16777216 := by omega
  have c3 : 1 + lot.length ≤ 16777216 := by omega
  have c4 : two.length + 1 ≤ 16777216 := by omega
  have c5 : (cut (two.map PyData.str) (some 1) none).length + (cut (two.map PyData.str) none (some 1)).length ≤ 16777216 := by
    omega
  have st1 := step_t (xs := two.map PyData.str) (lo := none) (hi := none) (k := -1) (by decide) (by decide) (by simp; omega)
  refine ⟨t4, ?ds, p4, ?P, ?Q⟩
  case Q =>
    rw [call_fin f__law_lots rfl rfl rfl]
    have y0 : two[0]? = some y := by rw [hyr]; rfl
    simp [f__law_lots, e1, e2, s3, cut_t, c1, c2, c3, c4, c5, st1, kept, e3, i2, e4, y0]
    rw [show (10 : Int) = ((10 : Nat) : Int) from rfl, pick_ev (i := 4) (j := 6) (k := 5) (m := 10) (w := w)]
    case hi => rfl
    case hk => rfl
    case hn => exact List.cons_ne_nil _ _
    case hj => rfl
    case hl => simp
    case hij => decide
    case hkj => decide
    case hm => decide
    case hc => decide
    simp [pick_len]
    rfl
  case P =>
    intro d hd
    simp only [List.mem_cons] at hd
    rcases hd with rfl | rfl | rfl | rfl | hd
    · simp [short]; omega
    · simp [short]; omega
    · simp [short]
    · simp [short]
    · have := pick_mem _ _ _ (List.cons_ne_nil _ _) d hd
      simp only [List.mem_cons, List.not_mem_nil, or_false] at this
      rcases this with rfl | rfl | rfl | rfl | rfl | rfl | rfl | rfl | rfl | rfl | rfl | rfl | rfl | rfl | rfl | rfl | rfl | rfl | rfl | rfl | rfl | rfl | rfl <;> first | rfl | (simp [short] <;> omega)
end MP.K00

set_option maxHeartbeats 2000000
namespace MP.K00
open PySem _root_.K00
variable {wh : Nat}
theorem jn_len (a b : List Str) : (jn a b).length ≤ a.length + b.length := by
  have := sort_len (a ++ b)
  rw [List.length_append] at this
  exact this
theorem cut_ts (a : List Str) (lo hi : Option Int) : cutD (ts a) lo hi = some (ts (cut a lo hi)) := by
  show some (PyData.tuple (cut (a.map .str) lo hi)) = _
  rw [cut_map]
  rfl
theorem step_ts (a : List Str) (lo hi : Option Int) {k : Int} (hk : k ≠ 0) (hk1 : k ≠ 1) (hl : a.length ≤ 1000) : stepD (ts a) lo hi k = some (ts (stp a lo hi k)) := by
  unfold ts
  rw [step_t hk hk1 (by simpa using hl), stp_map]
theorem depA (l : List Str) : PyData.depthAll (l.map .str) = 0 := by
  induction l with
  | nil => simp [PyData.depthAll]
  | cons x r ih =>
    rw [List.map_cons]
    simp only [PyData.depthAll, ih]
    simp [PyData.depth]
theorem dep_ts (l : List Str) : PyData.depth (ts l) ≤ 1 := by
  unfold ts
  simp only [PyData.depth, depA]
  omega
theorem flats_str : ∀ l : List Str, flats (l.map .str) = true
  | [] => rfl
  | x :: r => by
    rw [List.map_cons]
    simp [flats, flat, flats_str r]
theorem flat_ts {l : List Str} (h : l.length ≤ 1000) : flat (ts l) = true := by
  unfold ts
  simp [flat, flats_str, h]
theorem same_b (n : Nat) (b : Bool) : callN gl wh fns (n+1) 11 [.d (.bool b), .d (.bool b)] = .ok (.d (.bool true)) [] := same (n + 1) _ (by rw [dep_bool]; omega) rfl
theorem same_ts (n : Nat) {l : List Str} (h : l.length ≤ 1000) : callN gl wh fns (n+2) 11 [.d (ts l), .d (ts l)] = .ok (.d (.bool true)) [] := same (n + 2) _ (by have := dep_ts l; simp only [dep]; omega) (flat_ts h)
theorem same_3 (n : Nat) {l m : List Str} (h : l.length ≤ 1000) (h2 : m.length ≤ 1000) (b : Bool) : callN gl wh fns (n+4) 11 [.d (.tuple [ts l, ts m, .bool b]), .d (.tuple [ts l, ts m, .bool b])] = .ok (.d (.bool true)) [] :=
  same (n + 4) _ (by
    have h1 := dep_ts l
    have h2 := dep_ts m
    simp only [dep, PyData.depth, PyData.depthAll]
    omega) (by simp [flat, flats, flat_ts h, flat_ts h2])
theorem any_filter (a b : List Str) : decide (0 < (a.filter fun s => decide (s ∈ b)).length) = a.any fun s => decide (s ∈ b) := by
  rw [Bool.eq_iff_iff, decide_eq_true_eq, List.length_pos_iff, List.any_eq_true]
  constructor
  · intro h
    obtain ⟨x, hx⟩ := List.exists_mem_of_ne_nil _ h
    exact ⟨x, (List.mem_filter.mp hx).1, (List.mem_filter.mp hx).2⟩
  · rintro ⟨x, h1, h2⟩
    exact List.ne_nil_of_mem (List.mem_filter.mpr ⟨h1, h2⟩)
theorem ix0 (a b : D) : L2.atI [a, b] 0 = some a := rfl
theorem sets_asked (n : Nat) {t : T} (ht : Pan t) : ∃ t', Pan t' ∧ callN gl wh fns (n+6) 22 [.o t] = .ok (.d (.bool true)) [t'] := by
  obtain ⟨t1, one, p1, hl1, hl2, e1⟩ := law_set (wh := wh) (n + 2) ht 5 (by omega)
  obtain ⟨t2, other, p2, hm1, hm2, e2⟩ := law_set (wh := wh) (n + 2) p1 4 (by omega)
  refine ⟨t2, p2, ?_⟩
  rw [call_fin f__law_sets_asked rfl rfl rfl]
  simp [f__law_sets_asked, e1, e2, cut_ts, step_ts one _ _ (k := 2) (by decide) (by decide) (by omega)]
  obtain ⟨s', ⟨v3, v4, v5, rfl⟩, h2⟩ := lookL (body := turnS (callN gl wh fns (n + 5)) gl wh [3] [(.asg 4 (.comp [6] .any [(.ix (.var 3) (.con (.int 0)))] [(.cmp (.var 6) .isin (.ix (.var 3) (.con (.int 1))))] (.var 6))), (.asg 5 (.tup [(.call 2 [(.ix (.var 3) (.con (.int 0))), (.ix (.var 3) (.con (.int 1)))]), (.call 3 [(.ix (.var 3) (.con (.int 0))), (.ix (.var 3) (.con (.int 1)))]), (.call 4 [(.ix (.var 3) (.con (.int 0))), (.ix (.var 3) (.con (.int 1)))])])), (.ifs (.not (.call 11 [(.var 5), (.tup [(.call 19 [(.ix (.var 3) (.con (.int 0))), (.ix (.var 3) (.con (.int 1)))]), (.call 20 [(.ix (.var 3) (.con (.int 0))), (.ix (.var 3) (.con (.int 1)))]), (.cmp (.b1 .len (.var 4)) .gt (.con (.int 0)))])])) [(.ret (.con (.bool false)))] [])])
      (fun e => ∃ v3 v4 v5, e = [Slot.own t2, .val (ts one), .val (ts other), v3, v4, v5, .no]) (fun _ => true) (.d (.bool false)) (xs := [PyData.tuple [ts one, ts other], .tuple [ts other, ts one], .tuple [ts one, ts one], .tuple [ts one, .tuple []], .tuple [.tuple [], ts one], .tuple [ts one, ts (cut one none (some 1))], .tuple [ts (stp one none none 2), ts (stp one (some 1) none 2)]]) (s := [Slot.own t2, .val (ts one), .val (ts other), .no, .no, .no, .no]) ⟨.no, .no, .no, rfl⟩ (by
        rintro z hz _ ⟨v3, v4, v5, rfl⟩
        obtain ⟨x, y, rfl, hx, hy⟩ : ∃ x y, z = .tuple [ts x, ts y] ∧ x.length ≤ 100 ∧ y.length ≤ 100 := by
          have k1 := cut_len one none (some 1)
          have k2 := stp_len one none none 2 (by decide)
          have k3 := stp_len one (some 1) none 2 (by decide)
          simp only [List.mem_cons, List.not_mem_nil, or_false] at hz
          rcases hz with rfl | rfl | rfl | rfl | rfl | rfl | rfl
          · exact ⟨_, _, rfl, by omega, by omega⟩
          · exact ⟨_, _, rfl, by omega, by omega⟩
          · exact ⟨_, _, rfl, by omega, by omega⟩
          · exact ⟨_, [], rfl, by omega, by simp⟩
          · exact ⟨[], _, rfl, by simp, by omega⟩
          · exact ⟨_, _, rfl, by omega, by omega⟩
          · exact ⟨_, _, rfl, by omega, by omega⟩
        have j1 := jn_len x y
        have j2 := wo_len x y
        have hc : evComp [6] (evI (callN gl wh fns (n + 5)) gl .any [(.ix (.var 3) (.con (.int 0)))]) (evCs (callN gl wh fns (n + 5)) gl [(.cmp (.var 6) .isin (.ix (.var 3) (.con (.int 1))))]) (evE (callN gl wh fns (n + 5)) gl (.var 6)) [Slot.own t2, .val (ts one), .val (ts other), .val (.tuple [ts x, ts y]), v4, v5, .no] = .ok ((x.filter fun s => decide (s ∈ y)).map .str) [Slot.own t2, .val (ts one), .val (ts other), .val (.tuple [ts x, ts y]), v4, v5, .no] := by
          rw [filt (i := 0) (b := y) (j := 6) (a := x) (p := fun s => decide (s ∈ y)) (by omega) (by simp [ts]) rfl (by simp) (by intro s _; simp [ts, inD_str])]
        refine ⟨[Slot.own t2, .val (ts one), .val (ts other), .val (.tuple [ts x, ts y]), .val (.list ((x.filter fun s => decide (s ∈ y)).map .str)), .val (.tuple [ts (jn x y), ts (wo x y), .bool (x.any fun s => decide (s ∈ y))]), .no], ⟨_, _, _, rfl⟩, ?_⟩
        have hany : decide (∃ s, s ∈ x ∧ s ∈ y) = x.any fun s => decide (s ∈ y) := by
          rw [Bool.eq_iff_iff]
          simp
        simp [turnS, hc, hany, joined (wh := wh) (n + 4) (a := x) (b := y) (by omega), cut_set (wh := wh) (n + 4) (a := x) (b := y) (by omega), shares (wh := wh) (n + 4) (a := x) (b := y) (by omega),
          law_joined (wh := wh) (n + 4) (a := x) (b := y) (by omega), law_without (wh := wh) (n + 4) (a := x) (b := y) (by omega), cmp_gt, same_3 (wh := wh) (n + 1) (l := jn x y) (m := wo x y) (by omega) (by omega)])
  rw [h2]
  simp
end MP.K00

set_option maxHeartbeats 2000000
namespace MP.K00
open PySem _root_.K00
variable {wh : Nat}
theorem ts_app (a : List Str) : PyData.tuple (a.map .str) = ts a := rfl
theorem ts_1 (s : Str) : PyData.tuple [.str s] = ts [s] := rfl
theorem ts_0 : PyData.tuple [] = ts [] := rfl
theorem ix_ts (a : List Str) (i : Int) : ixD (ts a) (.int i) = (L2.atI a i).map .str := by
  show L2.atI (a.map PyData.str) i = _
  rw [atI_map]
theorem len_ts (a : List Str) : b1D .len (ts a) = some (.int a.length) := by
  show some (PyData.int ((a.map PyData.str).length : Int)) = _
  rw [List.length_map]
theorem walk_ts (a : List Str) : walked (ts a) = some (a.map .str) := rfl
/-- a loop in which nothing is found wrong -/
theorem passL {body : D → Env → R Env Flow} (I : Env → Prop) {xs : List D} {s : Env} (h : I s) (k : ∀ x ∈ xs, ∀ s, I s → ∃ s', I s' ∧ body x s = .ok .nx s') : ∃ s', I s' ∧ loopL body xs s = .ok .nx s' := by
  obtain ⟨s', h1, h2⟩ := lookL (body := body) I (fun _ => true) (.d .none) h (xs := xs) (by
    intro x hx s hs
    obtain ⟨s', a, b⟩ := k x hx s hs
    exact ⟨s', a, by rw [b]; rfl⟩)
  exact ⟨s', h1, by rw [h2]; simp⟩
theorem parts_asked (n : Nat) {t : T} (ht : Pan t) : ∃ t', Pan t' ∧ callN gl wh fns (n+6) 23 [.o t] = .ok (.d (.bool true)) [t'] := by
  obtain ⟨t1, A, p1, _, hA, e1⟩ := law_set (wh := wh) (n + 2) ht 3 (by omega)
  obtain ⟨t2, nm, p2, _, e2⟩ := law_name (wh := wh) (n + 3) p1
  obtain ⟨t3, H, p3, _, hH, e3⟩ := law_set (wh := wh) (n + 2) p2 2 (by omega)
  obtain ⟨t4, B, p4, _, hB, e4⟩ := law_set (wh := wh) (n + 2) p3 2 (by omega)
  obtain ⟨t5, C, p5, _, hC, e5⟩ := law_set (wh := wh) (n + 2) p4 3 (by omega)
  obtain ⟨t6, rank, p6, _, e6⟩ := law_name (wh := wh) (n + 3) p5
  obtain ⟨t7, P, p7, _, hP, e7⟩ := law_set (wh := wh) (n + 2) p6 3 (by omega)
  obtain ⟨t8, U, p8, _, hU, e8⟩ := law_set (wh := wh) (n + 2) p7 3 (by omega)
  obtain ⟨t9, v, p9, v1, v2, e9⟩ := scr (wh := wh) (n + 4) p8 (place := 5) (many := 2) (by omega) (by omega)
  refine ⟨t9, p9, ?_⟩
  have hR : nm ∈ jn A [nm] := (List.mergeSort_perm _ leS).mem_iff.mpr ((dedup_mem _ _).mpr (by simp))
  have lR := jn_len A [nm]
  generalize hRR : jn A [nm] = Rk at hR lR
  simp only [List.length_cons, List.length_nil] at lR
  have f1 := law_joined (wh := wh) (n + 4) (a := A) (b := [nm]) (by simp; omega)
  rw [hRR] at f1
  have f2 := law_without (wh := wh) (n + 4) (a := B) (b := H) (by omega)
  have lN := wo_len B H
  generalize wo B H = N at f2 lN
  have f3 := law_joined (wh := wh) (n + 4) (a := H) (b := N) (by omega)
  have lJ := jn_len H N
  generalize hJ : jn H N = J at f3 lJ
  have f4 := law_without (wh := wh) (n + 4) (a := C) (b := J) (by omega)
  have lF := wo_len C J
  generalize wo C J = F at f4 lF
  have f5 := law_joined (wh := wh) (n + 4) (a := H) (b := F) (by omega)
  have f6 := law_joined (wh := wh) (n + 4) (a := H) (b := cut N none (some 1)) (by have := cut_len N none (some 1); omega)
  have f7 := law_joined (wh := wh) (n + 4) (a := H) (b := cut N (some (-1)) none) (by have := cut_len N (some (-1)) none; omega)
  obtain ⟨r0, rr, hr0⟩ : ∃ y r, Rk = y :: r := by
    cases Rk with
    | nil => simp at hR
    | cons y r => exact ⟨y, r, rfl⟩
  obtain ⟨rz, hrz⟩ : ∃ z, Rk.getLast? = some z := by
    rw [hr0]
    exact ⟨_, List.getLast?_eq_some_getLast (List.cons_ne_nil _ _)⟩
  have hz : L2.atI Rk (-1) = some rz := by rw [atI_neg (by rw [hr0]; simp)]; exact hrz
  have hy : Rk[0]? = some r0 := by rw [hr0]; rfl
  rw [call_fin f__law_parts_asked rfl rfl rfl]
  simp [f__law_parts_asked, e1, e2, ts_1, f1, e3, e4, f2, e5, f3, f4, e6, f5, cut_ts, f6, f7]
  obtain ⟨s1, ⟨v7, v11, rfl⟩, h1⟩ := passL (body := turnS (callN gl wh fns (n + 5)) gl wh [7] [(.loop [11] .any [(.tup [(.var 6), (.ix (.var 1) (.con (.int 0))), (.ix (.var 1) (.neg (.con (.int 1))))])] [(.ifs (.not (.call 11 [(.call 5 [(.var 4), (.var 11), (.var 7)]), (.call 21 [(.var 4), (.var 11), (.var 7)])])) [(.ret (.con (.bool false)))] [])])])
    (fun e => ∃ v7 v11, e = [Slot.own t6, .val (ts Rk), .val (ts H), .val (ts N), .val (.tuple [ts Rk, ts H, ts N]), .val (ts F), .val (.str rank), v7, .no, .no, .no, v11, .no])
    (xs := [ts H, ts (jn H F), ts J, ts (cut H (some 1) none), ts F, .tuple [], ts N, ts (jn H (cut N none (some 1))), ts (jn H (cut N (some (-1)) none))]) (s := [Slot.own t6, .val (ts Rk), .val (ts H), .val (ts N), .val (.tuple [ts Rk, ts H, ts N]), .val (ts F), .val (.str rank), .no, .no, .no, .no, .no, .no]) ⟨.no, .no, rfl⟩ (by
      rintro z hz' _ ⟨v7, v11, rfl⟩
      obtain ⟨m, rfl⟩ : ∃ m, z = ts m := by
        simp only [List.mem_cons, List.not_mem_nil, or_false] at hz'
        rcases hz' with rfl | rfl | rfl | rfl | rfl | rfl | rfl | rfl | rfl
        all_goals first | exact ⟨_, rfl⟩ | exact ⟨[], rfl⟩
      obtain ⟨s2, ⟨v11', rfl⟩, h2⟩ := passL (body := turnS (callN gl wh fns (n + 5)) gl wh [11] [(.ifs (.not (.call 11 [(.call 5 [(.var 4), (.var 11), (.var 7)]), (.call 21 [(.var 4), (.var 11), (.var 7)])])) [(.ret (.con (.bool false)))] [])])
        (fun e => ∃ v11, e = [Slot.own t6, .val (ts Rk), .val (ts H), .val (ts N), .val (.tuple [ts Rk, ts H, ts N]), .val (ts F), .val (.str rank), .val (ts m), .no, .no, .no, v11, .no])
        (xs := [PyData.str rank, .str r0, .str rz]) (s := [Slot.own t6, .val (ts Rk), .val (ts H), .val (ts N), .val (.tuple [ts Rk, ts H, ts N]), .val (ts F), .val (.str rank), .val (ts m), .no, .no, .no, v11, .no]) ⟨v11, rfl⟩ (by
          rintro q hq _ ⟨v11, rfl⟩
          obtain ⟨s, rfl⟩ : ∃ s, q = .str s := by
            simp only [List.mem_cons, List.not_mem_nil, or_false] at hq
            rcases hq with rfl | rfl | rfl <;> exact ⟨_, rfl⟩
          refine ⟨_, ⟨.val (.str s), rfl⟩, ?_⟩
          simp [turnS, fits_part (wh := wh) (n + 4) (r := Rk) (h := H) (hn := N) (m := m) s (by omega) (by omega), law_fits (wh := wh) (n + 4) (r := Rk) (h := H) (hn := N) (m := m) s, same_b])
      refine ⟨_, ⟨.val (ts m), v11', rfl⟩, ?_⟩
      simp [turnS, ix_ts, hy, hz]
      rw [h2]
      simp)
  rw [h1]
  have g1 := law_without (wh := wh) (n + 4) (a := U) (b := P) (by omega)
  have lT := wo_len U P
  generalize wo U P = T' at g1 lT
  obtain ⟨ac, _, hac⟩ := atI_in (xs := [PyData.str (Str.ofString "actor"), .str (Str.ofString "other")]) (i := v) ⟨v1, by simpa using v2⟩
  -- the marks' changes
  have fin : ∀ (P' : List Str), P'.length ≤ 10 → ∃ s', loopL (turnS (callN gl wh fns (n + 5)) gl wh [7] [(.asg 12 (.call 19 [(.call 20 [(.var 7), (.var 9)]), (.var 8)])), (.ifs (.not (.call 11 [(.call 6 [(.var 10), (.var 7)]), (.var 12)])) [(.ret (.con (.bool false)))] [])])
      [ts P', ts T', .tuple [], ts F, ts (jn P' T'), ts (jn F (cut T' none (some 1)))]
      [Slot.own t9, .val (ts Rk), .val (ts H), .val (ts N), .val (.tuple [ts Rk, ts H, ts N]), .val (ts F), .val (.str rank), v7, .val (ts P'), .val (ts T'), .val (.tuple [.str (Str.ofString "marks"), ac, ts P', ts T']), v11, .no] = .ok .nx s' ∧ s'.own 0 = some t9 := by
    intro P' hP'
    have c1 := cut_len T' none (some 1)
    have c2 := jn_len F (cut T' none (some 1))
    have c3 := jn_len P' T'
    obtain ⟨s2, ⟨v7', v12, rfl⟩, h2⟩ := passL (body := turnS (callN gl wh fns (n + 5)) gl wh [7] [(.asg 12 (.call 19 [(.call 20 [(.var 7), (.var 9)]), (.var 8)])), (.ifs (.not (.call 11 [(.call 6 [(.var 10), (.var 7)]), (.var 12)])) [(.ret (.con (.bool false)))] [])])
      (fun e => ∃ v7 v12, e = [Slot.own t9, .val (ts Rk), .val (ts H), .val (ts N), .val (.tuple [ts Rk, ts H, ts N]), .val (ts F), .val (.str rank), v7, .val (ts P'), .val (ts T'), .val (.tuple [.str (Str.ofString "marks"), ac, ts P', ts T']), v11, v12])
      (xs := [ts P', ts T', .tuple [], ts F, ts (jn P' T'), ts (jn F (cut T' none (some 1)))]) (s := [Slot.own t9, .val (ts Rk), .val (ts H), .val (ts N), .val (.tuple [ts Rk, ts H, ts N]), .val (ts F), .val (.str rank), v7, .val (ts P'), .val (ts T'), .val (.tuple [.str (Str.ofString "marks"), ac, ts P', ts T']), v11, .no]) ⟨v7, .no, rfl⟩ (by
        rintro z hz' _ ⟨v7, v12, rfl⟩
        obtain ⟨m, rfl, hm⟩ : ∃ m, z = ts m ∧ m.length ≤ 100 := by
          simp only [List.mem_cons, List.not_mem_nil, or_false] at hz'
          rcases hz' with rfl | rfl | rfl | rfl | rfl | rfl
          · exact ⟨_, rfl, by omega⟩
          · exact ⟨_, rfl, by omega⟩
          · exact ⟨[], rfl, by simp⟩
          · exact ⟨_, rfl, by omega⟩
          · exact ⟨_, rfl, by omega⟩
          · exact ⟨_, rfl, by omega⟩
        have k1 := wo_len m T'
        have k2 := jn_len (wo m T') P'
        refine ⟨_, ⟨.val (ts m), .val (ts (jn (wo m T') P')), rfl⟩, ?_⟩
        simp [turnS, law_without (wh := wh) (n + 4) (a := m) (b := T') (by omega), law_joined (wh := wh) (n + 4) (a := wo m T') (b := P') (by omega), changed (wh := wh) (n + 4) (put := P') (take := T') (m := m) (.str (Str.ofString "marks")) ac (by omega), same_ts (wh := wh) (n + 3) (l := jn (wo m T') P') (by omega)])
    exact ⟨_, h2, rfl⟩
  have j1 : ∀ P' : List Str, P'.length ≤ 10 → callN gl wh fns (n + 5) 19 [.d (ts P'), .d (ts T')] = .ok (.d (ts (jn P' T'))) [] := fun P' h => law_joined (wh := wh) (n + 4) (a := P') (b := T') (by omega)
  have j2 := law_joined (wh := wh) (n + 4) (a := F) (b := cut T' none (some 1)) (by have := cut_len T' none (some 1); omega)
  by_cases hem : P.length + T'.length = 0
  · obtain ⟨s', h3, h4⟩ := fin [Str.ofString "m"] (by simp)
    have hem' : ((P.length : Int) + (T'.length : Int) = 0) := by omega
    simp [e7, e8, g1, len_ts, cmp_eqI, hem', e9, hac, ts_1, j1 [Str.ofString "m"] (by simp), cut_ts, j2]
    rw [h3]
    simp [h4]
  · obtain ⟨s', h3, h4⟩ := fin P (by omega)
    have hem' : ¬ ((P.length : Int) + (T'.length : Int) = 0) := by omega
    simp [e7, e8, g1, len_ts, cmp_eqI, hem', e9, hac, ts_1, j1 P (by omega), cut_ts, j2]
    rw [h3]
    simp [h4]
end MP.K00

set_option maxHeartbeats 2000000
namespace MP.K00
open PySem _root_.K00
variable {wh : Nat}
theorem cut_take {α : Type} (xs : List α) (k : Nat) : cut xs none (some (k : Int)) = xs.take k := by
  unfold cut
  rw [HT.sIx_none, HT.sIx_nat, List.drop_zero, Nat.sub_zero]
  rcases Nat.le_total k xs.length with h | h
  · rw [Nat.min_eq_left h]
  · rw [Nat.min_eq_right h, List.take_of_length_le h, List.take_of_length_le (Nat.le_refl _)]
theorem cut_drop {α : Type} (xs : List α) (k : Nat) : cut xs (some (k : Int)) none = xs.drop k := by
  unfold cut
  rw [HT.sIx_none, HT.sIx_nat]
  rcases Nat.le_total k xs.length with h | h
  · rw [Nat.min_eq_left h, List.take_of_length_le (by simp)]
  · rw [Nat.min_eq_right h]
    simp [List.drop_eq_nil_of_le h]
def lst0 (ns : List Str) : T := .lst (ns.map fun s => .d (.str s))
theorem ways_asked (n : Nat) {t : T} (ht : Pan t) : ∃ t', Pan t' ∧ callN gl wh fns (n+6) 24 [.o t] = .ok (.d (.bool true)) [t'] := by
  obtain ⟨t1, c, p1, c1, c2, e1⟩ := scr (wh := wh) (n + 4) ht (place := 6) (many := 6) (by omega) (by omega)
  have hr : rangeD [.int (1 + c)] = some ((List.range (1 + c).toNat).map fun (k : Nat) => .int k) := by
    have := range_nat (1 + c).toNat (by omega)
    rwa [Int.toNat_of_nonneg (by omega)] at this
  rw [call_fin f__law_ways_asked rfl rfl rfl]
  simp [f__law_ways_asked, e1, hr]
  have k1 := loopL_pre (body := turnS (callN gl wh fns (n + 5)) gl wh [2] [(.asg 4 (.call 15 [(.hand 0)])), (.ifs (.cmp (.var 4) .notin (.view 1 [])) [(.app 1 [] (.var 4))] [])])
    (fun l e => ∃ t' ns v2 v4, e = [Slot.own t', .own (lst0 ns), v2, .no, v4, .no, .no] ∧ Pan t' ∧ ns.Nodup ∧ ns.length ≤ l.length)
    (fun f e => f = .nx ∧ ∃ t' ns v2 v4, e = [Slot.own t', .own (lst0 ns), v2, .no, v4, .no, .no] ∧ Pan t' ∧ ns.Nodup ∧ ns.length ≤ 10)
    ((List.range (1 + c).toNat).map fun (k : Nat) => PyData.int k) [] [Slot.own t1, .own (lst0 []), .no, .no, .no, .no, .no] ⟨t1, [], .no, .no, rfl, p1, List.nodup_nil, Nat.le_refl _⟩ (by
      rintro l x r e s ⟨t', ns, v2, v4, rfl, hp, hn, hl⟩
      rw [List.nil_append] at e
      obtain ⟨_, hk⟩ := range_split e
      obtain ⟨t2, nm, p2, _, e2⟩ := law_name (wh := wh) (n + 3) hp
      have hl2 : ns.length < 16777216 := by omega
      by_cases hm : nm ∈ ns
      · simp [turnS, e2, lst0, inD_str, hm]
        exact ⟨t2, ns, ⟨rfl, rfl⟩, p2, hn, by omega⟩
      · simp [turnS, e2, lst0, inD_str, hm, lstAt, hl2]
        exact ⟨t2, ns ++ [nm], ⟨rfl, by simp⟩, p2, by
          rw [List.nodup_append]
          exact ⟨hn, by simp, by simp; intro a ha e; exact hm (e ▸ ha)⟩, by simp; omega⟩) (by
      rintro s ⟨t', ns, v2, v4, rfl, hp, hn, hl⟩
      refine ⟨rfl, t', ns, v2, v4, rfl, hp, hn, ?_⟩
      simp at hl
      omega)
  obtain ⟨f, s1, h1, rfl, t2, ns, v2, v4, rfl, p2, hnd, hlen⟩ := k1.ex
  have h1' := h1
  simp only [lst0, List.map_nil] at h1'
  rw [h1']
  simp
  rw [ts_app]
  simp [len_ts, range_nat ns.length (by omega)]
  have k2 := loopL_inv (body := turnS (callN gl wh fns (n + 5)) gl wh [3] [(.asg 5 (.sl (.sl (.var 1) none (some (.bin .add (.var 3) (.con (.int 1))))) (some (.call 10 [(.hand 0), (.con (.int 5)), (.bin .add (.var 3) (.con (.int 1)))])) none)), (.loop [6] .rng [(.b1 .len (.var 1))] [(.ifs (.not (.call 11 [(.call 7 [(.var 1), (.ix (.var 1) (.var 3)), (.ix (.var 1) (.var 6))]), (.cmp (.var 3) .gt (.var 6))])) [(.ret (.con (.bool false)))] []), (.ifs (.not (.call 11 [(.call 8 [(.var 1), (.var 5), (.ix (.var 1) (.var 6))]), (.cmp (.var 6) .gt (.var 3))])) [(.ret (.con (.bool false)))] [])])])
    (fun e => ∃ t' v3 v5 v6, e = [Slot.own t', .val (ts ns), v2, v3, v4, v5, v6] ∧ Pan t') (fun f e => f = .nx ∧ ∃ t' v3 v5 v6, e = [Slot.own t', .val (ts ns), v2, v3, v4, v5, v6] ∧ Pan t')
    ((List.range ns.length).map fun (k : Nat) => PyData.int k) [Slot.own t2, .val (ts ns), v2, .no, v4, .no, .no] ⟨t2, .no, .no, .no, rfl, p2⟩ (by
      rintro x hx s ⟨t', v3, v5, v6, rfl, hp⟩
      obtain ⟨k, hk, rfl⟩ := List.mem_map.mp hx
      rw [List.mem_range] at hk
      obtain ⟨t3, d, p3, d1, d2, e3⟩ := scr (wh := wh) (n + 4) hp (place := 5) (many := (k : Int) + 1) (by omega) (by omega)
      obtain ⟨dn, rfl⟩ := Int.eq_ofNat_of_zero_le d1
      have hk1 : cut ns none (some ((k : Int) + 1)) = ns.take (k + 1) := cut_take ns (k + 1)
      have hw : ((ns.take (k + 1)).drop dn).getLast? = some ns[k] := by
        rw [List.getLast?_drop, if_neg (by simp; omega), List.getLast?_take]
        simp [hk]
      generalize hway : (ns.take (k + 1)).drop dn = way at hw
      obtain ⟨s2, ⟨v6', rfl⟩, h2⟩ := passL (body := turnS (callN gl wh fns (n + 5)) gl wh [6] [(.ifs (.not (.call 11 [(.call 7 [(.var 1), (.ix (.var 1) (.var 3)), (.ix (.var 1) (.var 6))]), (.cmp (.var 3) .gt (.var 6))])) [(.ret (.con (.bool false)))] []), (.ifs (.not (.call 11 [(.call 8 [(.var 1), (.var 5), (.ix (.var 1) (.var 6))]), (.cmp (.var 6) .gt (.var 3))])) [(.ret (.con (.bool false)))] [])])
        (fun e => ∃ v6, e = [Slot.own t3, .val (ts ns), v2, .val (.int k), v4, .val (ts way), v6]) (xs := (List.range ns.length).map fun (k : Nat) => PyData.int k) (s := [Slot.own t3, .val (ts ns), v2, .val (.int k), v4, .val (ts way), v6]) ⟨v6, rfl⟩ (by
          rintro z hz _ ⟨v6, rfl⟩
          obtain ⟨j, hj, rfl⟩ := List.mem_map.mp hz
          rw [List.mem_range] at hj
          have a1 : L2.atI ns (k : Int) = some ns[k] := by rw [atI_of (by omega)]; exact List.getElem?_eq_getElem hk
          have a2 : L2.atI ns (j : Int) = some ns[j] := by rw [atI_of (by omega)]; exact List.getElem?_eq_getElem hj
          have b1 := is_later (wh := wh) (n + 4) (ns := ns) (a := ns[k]) (b := ns[j]) (List.getElem_mem hk) (List.getElem_mem hj)
          have b2 := way_follows (wh := wh) (n + 3) (ns := ns) (way := way) (a := ns[j]) (b := ns[k]) (List.getElem_mem hj) (List.getElem_mem hk) hw
          rw [hnd.idxOf_getElem k hk, hnd.idxOf_getElem j hj] at b1 b2
          refine ⟨_, ⟨.val (.int j), rfl⟩, ?_⟩
          simp [turnS, ix_ts, a1, a2, b1, b2, cmp_gt, same_b])
      simp [turnS, cut_ts, hk1, e3, cut_drop, hway, len_ts, range_nat ns.length (by omega)]
      rw [h2]
      simp
      exact p3) (by
      rintro s ⟨t', v3, v5, v6, rfl, hp⟩
      exact ⟨rfl, t', v3, v5, v6, rfl, hp⟩)
  obtain ⟨f, s1, h2, rfl, t3, v3, v5, v6, rfl, p3⟩ := k2.ex
  rw [h2]
  simp
  exact p3
end MP.K00

set_option maxHeartbeats 4000000
namespace MP.K00
open PySem _root_.K00
variable {wh : Nat}
/-! the wide set -/
def wideL : List Str := (List.range 40).map fun (k : Nat) => Str.ofString "n" ++ (toString (k : Int) : Str)
def wide : List Str := (["n0", "n1", "n10", "n11", "n12", "n13", "n14", "n15", "n16", "n17", "n18", "n19", "n2", "n20", "n21", "n22", "n23", "n24", "n25", "n26"] : List String).map Str.ofString ++ (["n27", "n28", "n29", "n3", "n30", "n31", "n32", "n33", "n34", "n35", "n36", "n37", "n38", "n39", "n4", "n5", "n6", "n7", "n8", "n9"] : List String).map Str.ofString
def ascB : List Str → Bool
  | a :: b :: r => leS a b && ascB (b :: r)
  | _ => true
theorem leS_trans {a b c : Str} (h1 : leS a b = true) (h2 : leS b c = true) : leS a c = true := by
  have h1 := of_decide_eq_true h1
  have h2 := of_decide_eq_true h2
  exact decide_eq_true (List.le_trans h1 h2)
theorem ascB_pw : ∀ l : List Str, ascB l = true → l.Pairwise fun a b => leS a b = true
  | [], _ => List.Pairwise.nil
  | [x], _ => List.pairwise_singleton _ _
  | x :: y :: r, h => by
    simp only [ascB, Bool.and_eq_true] at h
    have ih := ascB_pw (y :: r) h.2
    refine List.pairwise_cons.mpr ⟨fun z hz => ?_, ih⟩
    rcases List.mem_cons.mp hz with e | e
    · rw [e]; exact h.1
    · exact leS_trans h.1 ((List.pairwise_cons.mp ih).1 z e)
theorem sort_is {l W : List Str} (p : l.isPerm W = true) (h : ascB W = true) : sortS l = W := by
  unfold sortS
  rw [sort_perm (List.isPerm_iff.mp p), List.mergeSort_of_pairwise (ascB_pw W h)]
theorem wide_sort : sortS wideL = wide := sort_is (by decide +kernel) (by decide +kernel)
theorem wide_jn : jn (stp wide none none 2) (stp wide (some 1) none 2) = wide := sort_is (by decide +kernel) (by decide +kernel)
theorem wide_len : wide.length = 40 := by decide +kernel
theorem wide_st : st (ts wide) = true := by decide +kernel
theorem wide_st2 : st (ts (cut wide none (some 20) ++ cut wide (some 21) none ++ [Str.ofString "n0"])) = false := by decide +kernel
theorem wide_sh : (wide.any fun s => decide (s ∈ cut wide (some 39) none)) = true := by decide +kernel
theorem sorted_ss (a : List Str) : b1D .sorted (.list (a.map .str)) = some (.list ((sortS a).map .str)) := by
  show (sortD (a.map .str)).map PyData.list = _
  unfold sortD
  rw [strs_str]
  rfl
theorem str_k : ∀ k < 40, b1D .str (.int (k : Nat)) = some (.str (toString ((k : Nat) : Int))) ∧ (Str.ofString "n").length + (toString ((k : Nat) : Int) : Str).length ≤ 16777216 := by
  have h : ∀ k < 40, (decide (((k : Nat) : Int).natAbs.log2 < 1920) && okS (toString ((k : Nat) : Int)) && decide ((Str.ofString "n").length + (toString ((k : Nat) : Int) : Str).length ≤ 16777216)) = true := by decide +kernel
  intro k hk
  have := h k hk
  simp only [Bool.and_eq_true] at this
  refine ⟨?_, of_decide_eq_true this.2⟩
  show (if _ then _ else _) = _
  rw [if_pos ⟨this.1.1, this.1.2⟩]
theorem wide_ev {cl : Call} {env : Env} (hn : noOwn [6] env = true) (hl : 6 < env.length) : evComp [6] (evI cl gl .rng [.con (.int 40)]) (evCs cl gl []) (evE cl gl (.bin .add (.con (.str (Str.ofString "n"))) (.b1 .str (.var 6)))) env = .ok (wideL.map .str) env := by
  let g : D → D := fun x => match x with
    | .int q => .str (Str.ofString "n" ++ (toString q : Str))
    | _ => .none
  rw [evComp1m (g := g) (xs := (List.range 40).map fun (q : Nat) => PyData.int q) (by simp [range_lit]) hn]
  · rw [if_pos (by simp), List.map_map]
    unfold wideL
    rw [List.map_map]
    rfl
  · intro x hx
    obtain ⟨q, hq, rfl⟩ := List.mem_map.mp hx
    rw [List.mem_range] at hq
    obtain ⟨s1, s2⟩ := str_k q hq
    have vj : Env.val (env.set 6 (.val (.int (q : Nat)))) 6 = some (.int (q : Nat)) := by
      unfold Env.val
      rw [List.getElem?_set_self hl]
    have s2' := s2
    simp at s2'
    simp [vj, s1, s2', g]
theorem bin_ts (a b : List Str) (h : a.length + b.length ≤ 16777216) : binD .add (ts a) (ts b) = some (ts (a ++ b)) := by
  unfold ts
  rw [bin_addT, if_pos (by simpa using h), List.map_append]
theorem whole (n : Nat) (ns : List Int) (hns : ns.length ≤ 63) : callN gl wh fns (n+8) 25 [.d (.list (ns.map .int))] = .ok (.d (.bool true)) [] := by
  obtain ⟨t0, p0, e0⟩ := pan (wh := wh) (n + 6) ns hns
  obtain ⟨t1, ds, p1, e1⟩ := law_things (wh := wh) (n + 4) p0
  obtain ⟨t2, ls, p2, hls, e2⟩ := law_lots (wh := wh) (n + 3) p1
  obtain ⟨t3, p3, e3⟩ := sets_asked (wh := wh) (n + 1) p2
  obtain ⟨t4, p4, e4⟩ := parts_asked (wh := wh) (n + 1) p3
  obtain ⟨t5, p5, e5⟩ := ways_asked (wh := wh) (n + 1) p4
  rw [call_fin f__law_whole rfl rfl rfl]
  simp [f__law_whole, e0, e1]
  obtain ⟨s1, ⟨v2, rfl⟩, h1⟩ := passL (body := turnS (callN gl wh fns (n + 7)) gl wh [2] [(.ifs (.not (.call 11 [(.call 0 [(.var 2)]), (.call 13 [(.var 2)])])) [(.ret (.con (.bool false)))] [])])
    (fun e => ∃ v2, e = [Slot.val (.list (ns.map .int)), .own t1, v2, .no, .no, .no, .no]) (xs := ds) (s := [Slot.val (.list (ns.map .int)), .own t1, .no, .no, .no, .no, .no]) ⟨.no, rfl⟩ (by
      rintro z _ _ ⟨v2, rfl⟩
      refine ⟨_, ⟨.val z, rfl⟩, ?_⟩
      simp [turnS, is_name, law_is_name, same_b])
  rw [h1]
  simp [e2]
  obtain ⟨s2, ⟨v2', rfl⟩, h2⟩ := passL (body := turnS (callN gl wh fns (n + 7)) gl wh [2] [(.ifs (.not (.call 11 [(.call 1 [(.var 2)]), (.call 14 [(.var 2)])])) [(.ret (.con (.bool false)))] [])])
    (fun e => ∃ v2, e = [Slot.val (.list (ns.map .int)), .own t2, v2, .no, .no, .no, .no]) (xs := ls) (s := [Slot.val (.list (ns.map .int)), .own t2, v2, .no, .no, .no, .no]) ⟨v2, rfl⟩ (by
      rintro z hz _ ⟨v2, rfl⟩
      refine ⟨_, ⟨.val z, rfl⟩, ?_⟩
      have hs := short_t (hls z hz)
      simp [turnS, is_set (wh := wh) (n + 5) z hs, law_is_set (wh := wh) (n + 4) z hs, same_b])
  rw [h2]
  simp [e3, e4, e5]
  rw [wide_ev rfl (by simp)]
  have q1 := is_set (wh := wh) (n + 5) (ts wide) (fun xs e => by unfold ts at e; cases e; simp [wide_len])
  rw [wide_st] at q1
  have hcl1 := cut_len wide none (some 20)
  have hcl2 := cut_len wide (some 21) none
  have hcl3 := cut_len wide (some 39) none
  have hst1 := stp_len wide none none 2 (by decide)
  have hst2 := stp_len wide (some 1) none 2 (by decide)
  rw [wide_len] at hcl1 hcl2 hcl3 hst1 hst2
  have q2 := is_set (wh := wh) (n + 5) (ts (cut wide none (some 20) ++ cut wide (some 21) none ++ [Str.ofString "n0"])) (fun xs e => by unfold ts at e; cases e; simp; omega)
  rw [wide_st2, List.append_assoc] at q2
  have q3 := joined (wh := wh) (n + 6) (a := stp wide none none 2) (b := stp wide (some 1) none 2) (by omega)
  rw [wide_jn] at q3
  have q4 := shares (wh := wh) (n + 6) (a := wide) (b := cut wide (some 39) none) (by rw [wide_len]; omega)
  rw [wide_sh] at q4
  have q5 := same (wh := wh) (n + 7) (.tuple [.bool true, .bool false, ts wide, .bool true]) (by
    have h1 := dep_ts wide
    simp only [dep, PyData.depth, PyData.depthAll]
    omega) (by simp [flat, flats, flat_ts (l := wide) (by rw [wide_len]; omega)])
  have q6 := same (wh := wh) (n + 7) (.tuple [.bool true, .bool false, .bool true, .bool false, .bool true]) (by
    simp only [dep, PyData.depth, PyData.depthAll]
    omega) rfl
  have b1 := bin_ts (cut wide none (some 20)) (cut wide (some 21) none) (by omega)
  have b2 := bin_ts (cut wide none (some 20) ++ cut wide (some 21) none) [Str.ofString "n0"] (by simp; omega)
  have i1 : nm (.str (Str.ofString "a1")) = true := by decide +kernel
  have i2 : nm (.str (Str.ofString "then")) = false := by decide +kernel
  have u1 := fits_part (wh := wh) (n + 6) (r := [Str.ofString "clerk"]) (h := []) (hn := [Str.ofString "made"]) (m := []) (Str.ofString "clerk") (by simp) (by simp)
  have u2 := fits_part (wh := wh) (n + 6) (r := [Str.ofString "clerk"]) (h := []) (hn := [Str.ofString "made"]) (m := [Str.ofString "made"]) (Str.ofString "clerk") (by simp) (by simp)
  rw [show fits3 [Str.ofString "clerk"] [] [Str.ofString "made"] (Str.ofString "clerk") [] = true by decide +kernel] at u1
  rw [show fits3 [Str.ofString "clerk"] [] [Str.ofString "made"] (Str.ofString "clerk") [Str.ofString "made"] = false by decide +kernel] at u2
  have u3 := is_later (wh := wh) (n + 6) (ns := [Str.ofString "r", Str.ofString "q"]) (a := Str.ofString "q") (b := Str.ofString "r") (by simp) (by simp)
  rw [show decide (List.idxOf (Str.ofString "r") [Str.ofString "r", Str.ofString "q"] < List.idxOf (Str.ofString "q") [Str.ofString "r", Str.ofString "q"]) = true by decide +kernel] at u3
  have e12 : ts [Str.ofString "r", Str.ofString "q"] = PyData.tuple [.str (Str.ofString "r"), .str (Str.ofString "q")] := rfl
  rw [e12] at u3
  simp [sorted_ss, wide_sort, ts_app, cut_ts, step_ts wide _ _ (k := 2) (by decide) (by decide) (by rw [wide_len]; omega), ts_1, b1, b2, q1, q2, q3, q4, q5, is_name, i1, i2, ts_0, u1, u2, u3, q6]
theorem plain (ns : List Int) (h : ns.length ≤ 63) : callN gl 0 fns 40 26 [.d (.list (ns.map .int))] = .ok (.d (.bool true)) [] := by
  have e := whole (wh := 0) 31 ns h
  rw [call_fin f_law rfl rfl rfl]
  simp [f_law, e]
end MP.K00

set_option maxHeartbeats 0
namespace K00J
open PySem PySem.Spec PyProof.Rows L2 MP
def prog : Program := PySem.Challenge.pw_paperways_k00_sets_and_parts
def top (i : Nat) : Stmt := prog.main.body.getD i (.Pass ⟨0, 0, 0, 0⟩)
def nameOf : Stmt → Str
  | .FunctionDef n _ _ _ _ _ _ _ _ _ => n
  | _ => ""
def pd (i : Nat) (N ps : List Str) : PDef := ⟨nameOf (top i), N, ps, defArgs (top i), defBody (top i), defScope (top i)⟩
def dd (i : Nat) : He.DefD := ⟨(nameOf (top i), none), nameOf (top i), nameOf (top i), defArgs (top i), defBody (top i), defScope (top i), [], []⟩
def p_is_name : PDef := pd 4 (["thing", "sign"] : List Str) (["thing"] : List Str)
def p_is_set : PDef := pd 5 (["thing", "one", "other", "name"] : List Str) (["thing"] : List Str)
def p_joined_sets : PDef := pd 6 (["one", "other"] : List Str) (["one", "other"] : List Str)
def p_cut_set : PDef := pd 7 (["one", "other", "name"] : List Str) (["one", "other"] : List Str)
def p_shares : PDef := pd 8 (["one", "other", "name"] : List Str) (["one", "other"] : List Str)
def p_fits_part : PDef := pd 12 (["part", "rank", "marks", "ranks", "has", "hasnt", "mark"] : List Str) (["part", "rank", "marks"] : List Str)
def p_changed_marks : PDef := pd 13 (["change", "marks", "mark"] : List Str) (["change", "marks"] : List Str)
def p_is_later : PDef := pd 14 (["names", "one", "other"] : List Str) (["names", "one", "other"] : List Str)
def p_way_follows : PDef := pd 15 (["names", "way", "name"] : List Str) (["names", "way", "name"] : List Str)
def p__law_pan : PDef := pd 17 (["script", "pan", "cell", "rest", "k"] : List Str) (["script"] : List Str)
def p__law_scrape : PDef := pd 18 (["pan", "place", "many", "cell"] : List Str) (["pan", "place", "many"] : List Str)
def p__law_same : PDef := pd 19 (["told", "due", "k"] : List Str) (["told", "due"] : List Str)
def p__law_kept : PDef := pd 20 (["first"] : List Str) ([] : List Str)
def p__law_is_name : PDef := pd 21 (["thing", "sign"] : List Str) (["thing"] : List Str)
def p__law_is_set : PDef := pd 22 (["thing", "k"] : List Str) (["thing"] : List Str)
def p__law_name : PDef := pd 23 (["pan", "names"] : List Str) (["pan"] : List Str)
def p__law_set : PDef := pd 24 (["pan", "most", "k"] : List Str) (["pan", "most"] : List Str)
def p__law_things : PDef := pd 25 (["pan", "name", "kept", "one", "near", "start", "k"] : List Str) (["pan"] : List Str)
def p__law_lots : PDef := pd 26 (["pan", "lot", "more", "two", "wrong", "start", "k"] : List Str) (["pan"] : List Str)
def p__law_joined : PDef := pd 27 (["one", "other"] : List Str) (["one", "other"] : List Str)
def p__law_without : PDef := pd 28 (["one", "other", "name"] : List Str) (["one", "other"] : List Str)
def p__law_fits : PDef := pd 29 (["part", "rank", "marks", "mark"] : List Str) (["part", "rank", "marks"] : List Str)
def p__law_sets_asked : PDef := pd 30 (["pan", "one", "other", "pair", "both", "told", "name"] : List Str) (["pan"] : List Str)
def p__law_parts_asked : PDef := pd 31 (["pan", "ranks", "has", "hasnt", "part", "free", "rank", "marks", "put", "take", "change", "some", "due"] : List Str) (["pan"] : List Str)
def p__law_ways_asked : PDef := pd 32 (["pan", "names", "k", "one", "name", "way", "other"] : List Str) (["pan"] : List Str)
def p__law_whole : PDef := pd 33 (["script", "pan", "thing", "wide", "told", "part", "k"] : List Str) (["script"] : List Str)
def p_law : PDef := pd 34 (["script"] : List Str) (["script"] : List Str)
def tab : List (Fn × PDef) := [(K00.f_is_name, p_is_name), (K00.f_is_set, p_is_set), (K00.f_joined_sets, p_joined_sets), (K00.f_cut_set, p_cut_set), (K00.f_shares, p_shares), (K00.f_fits_part, p_fits_part), (K00.f_changed_marks, p_changed_marks), (K00.f_is_later, p_is_later), (K00.f_way_follows, p_way_follows), (K00.f__law_pan, p__law_pan), (K00.f__law_scrape, p__law_scrape), (K00.f__law_same, p__law_same), (K00.f__law_kept, p__law_kept), (K00.f__law_is_name, p__law_is_name), (K00.f__law_is_set, p__law_is_set), (K00.f__law_name, p__law_name), (K00.f__law_set, p__law_set), (K00.f__law_things, p__law_things), (K00.f__law_lots, p__law_lots), (K00.f__law_joined, p__law_joined), (K00.f__law_without, p__law_without), (K00.f__law_fits, p__law_fits), (K00.f__law_sets_asked, p__law_sets_asked), (K00.f__law_parts_asked, p__law_parts_asked), (K00.f__law_ways_asked, p__law_ways_asked), (K00.f__law_whole, p__law_whole), (K00.f_law, p_law)]
def gls : List Str := (["SMALL", "FIGURES", "KEPT"] : List Str)
def blts : List Str := (["all", "any", "bool", "int", "isinstance", "len", "list", "range", "set", "sorted", "str", "tuple", "zip"] : List Str)
def fns : List (Str × List Str) := tab.map fun p => (p.2.name, p.2.ps)
def dt : List (Str × D) := gls.zip K00.gl
def fn : List He.DefD := [dd 4, dd 5, dd 6, dd 7, dd 8, dd 12, dd 13, dd 14, dd 15, dd 17, dd 18, dd 19, dd 20, dd 21, dd 22, dd 23, dd 24, dd 25, dd 26, dd 27, dd 28, dd 29, dd 30, dd 31, dd 32, dd 33, dd 34]
def fa : List He.Fa := [.glo (nameOf (top 4)), .glo (nameOf (top 5)), .glo (nameOf (top 6)), .glo (nameOf (top 7)), .glo (nameOf (top 8)), .glo (nameOf (top 12)), .glo (nameOf (top 13)), .glo (nameOf (top 14)), .glo (nameOf (top 15)), .glo (nameOf (top 17)), .glo (nameOf (top 18)), .glo (nameOf (top 19)), .glo (nameOf (top 20)), .glo (nameOf (top 21)), .glo (nameOf (top 22)), .glo (nameOf (top 23)), .glo (nameOf (top 24)), .glo (nameOf (top 25)), .glo (nameOf (top 26)), .glo (nameOf (top 27)), .glo (nameOf (top 28)), .glo (nameOf (top 29)), .glo (nameOf (top 30)), .glo (nameOf (top 31)), .glo (nameOf (top 32)), .glo (nameOf (top 33)), .glo (nameOf (top 34))] ++ blts.map He.Fa.free
def n0 : List Str := ["SMALL", "FIGURES", "KEPT", "__name__", "is_name", "is_set", "joined_sets", "cut_set", "shares", "WayError", "fits_part", "changed_marks", "is_later", "way_follows", "_law_pan", "_law_scrape", "_law_same", "_law_kept", "_law_is_name", "_law_is_set", "_law_name", "_law_set", "_law_things", "_law_lots", "_law_joined", "_law_without", "_law_fits", "_law_sets_asked", "_law_parts_asked", "_law_ways_asked", "_law_whole"]
def loose : List Str := n0
theorem chk : tab.all (chkP1 fns gls blts 400) = true := by decide +kernel
theorem tab_fst : tab.map Prod.fst = K00.fns := rfl
abbrev R : PySem.W.OpenRow := PySem.W.OpenLaw.row PySem.Challenge.rw_paperways_k00_sets_and_parts
abbrev hk : PySem.W.Hook := hookP 4 fa fn dt
def ob (s : PySem.W.SharedT) : He.AlD := obsPG 4 fa fn dt (HandSHeadRun.getT s)
theorem ob_eq (s : PySem.W.SharedT) : ob s = hk.obs s.abs := obsPG_eq (HandSHeadRun.getT_eq s)
theorem run (w : World) : HandSHeadRun.RunEq R (PySem.W.view R.prog [34]) hk ob 3000 loose w := by
  intro os
  kernel_rfl
section
variable {K : PySem.W.Frag} {h : Heap} {mg : Str → Option Value}
theorem dk_is_name (X : K.In h) (G : h.Ns mainGlobals mg) (c : He.SaysD fa fn K) : DefOk K mg p_is_name := by
  obtain ⟨fd, F⟩ := c.def_ 0 (d := dd 4) rfl
  exact ⟨_, fd, F, He.glo_ok X G (c.fact 0 (f := .glo (nameOf (top 4))) rfl), F.bindsN (ps := (["thing"] : List Str)) fun _ _ _ _ _ _ us hl => match us, hl with | [_], _ => rfl, kbn_of (ps := (["thing"] : List Str)) F fun _ _ _ _ _ _ ws hl => match ws, hl with | [_], _ => rfl⟩
theorem dk_is_set (X : K.In h) (G : h.Ns mainGlobals mg) (c : He.SaysD fa fn K) : DefOk K mg p_is_set := by
  obtain ⟨fd, F⟩ := c.def_ 1 (d := dd 5) rfl
  exact ⟨_, fd, F, He.glo_ok X G (c.fact 1 (f := .glo (nameOf (top 5))) rfl), F.bindsN (ps := (["thing"] : List Str)) fun _ _ _ _ _ _ us hl => match us, hl with | [_], _ => rfl, kbn_of (ps := (["thing"] : List Str)) F fun _ _ _ _ _ _ ws hl => match ws, hl with | [_], _ => rfl⟩
theorem dk_joined_sets (X : K.In h) (G : h.Ns mainGlobals mg) (c : He.SaysD fa fn K) : DefOk K mg p_joined_sets := by
  obtain ⟨fd, F⟩ := c.def_ 2 (d := dd 6) rfl
  exact ⟨_, fd, F, He.glo_ok X G (c.fact 2 (f := .glo (nameOf (top 6))) rfl), F.bindsN (ps := (["one", "other"] : List Str)) fun _ _ _ _ _ _ us hl => match us, hl with | [_, _], _ => rfl, kbn_of (ps := (["one", "other"] : List Str)) F fun _ _ _ _ _ _ ws hl => match ws, hl with | [_, _], _ => rfl⟩
theorem dk_cut_set (X : K.In h) (G : h.Ns mainGlobals mg) (c : He.SaysD fa fn K) : DefOk K mg p_cut_set := by
  obtain ⟨fd, F⟩ := c.def_ 3 (d := dd 7) rfl
  exact ⟨_, fd, F, He.glo_ok X G (c.fact 3 (f := .glo (nameOf (top 7))) rfl), F.bindsN (ps := (["one", "other"] : List Str)) fun _ _ _ _ _ _ us hl => match us, hl with | [_, _], _ => rfl, kbn_of (ps := (["one", "other"] : List Str)) F fun _ _ _ _ _ _ ws hl => match ws, hl with | [_, _], _ => rfl⟩
theorem dk_shares (X : K.In h) (G : h.Ns mainGlobals mg) (c : He.SaysD fa fn K) : DefOk K mg p_shares := by
  obtain ⟨fd, F⟩ := c.def_ 4 (d := dd 8) rfl
  exact ⟨_, fd, F, He.glo_ok X G (c.fact 4 (f := .glo (nameOf (top 8))) rfl), F.bindsN (ps := (["one", "other"] : List Str)) fun _ _ _ _ _ _ us hl => match us, hl with | [_, _], _ => rfl, kbn_of (ps := (["one", "other"] : List Str)) F fun _ _ _ _ _ _ ws hl => match ws, hl with | [_, _], _ => rfl⟩
theorem dk_fits_part (X : K.In h) (G : h.Ns mainGlobals mg) (c : He.SaysD fa fn K) : DefOk K mg p_fits_part := by
  obtain ⟨fd, F⟩ := c.def_ 5 (d := dd 12) rfl
  exact ⟨_, fd, F, He.glo_ok X G (c.fact 5 (f := .glo (nameOf (top 12))) rfl), F.bindsN (ps := (["part", "rank", "marks"] : List Str)) fun _ _ _ _ _ _ us hl => match us, hl with | [_, _, _], _ => rfl, kbn_of (ps := (["part", "rank", "marks"] : List Str)) F fun _ _ _ _ _ _ ws hl => match ws, hl with | [_, _, _], _ => rfl⟩
theorem dk_changed_marks (X : K.In h) (G : h.Ns mainGlobals mg) (c : He.SaysD fa fn K) : DefOk K mg p_changed_marks := by
  obtain ⟨fd, F⟩ := c.def_ 6 (d := dd 13) rfl
  exact ⟨_, fd, F, He.glo_ok X G (c.fact 6 (f := .glo (nameOf (top 13))) rfl), F.bindsN (ps := (["change", "marks"] : List Str)) fun _ _ _ _ _ _ us hl => match us, hl with | [_, _], _ => rfl, kbn_of (ps := (["change", "marks"] : List Str)) F fun _ _ _ _ _ _ ws hl => match ws, hl with | [_, _], _ => rfl⟩
theorem dk_is_later (X : K.In h) (G : h.Ns mainGlobals mg) (c : He.SaysD fa fn K) : DefOk K mg p_is_later := by
  obtain ⟨fd, F⟩ := c.def_ 7 (d := dd 14) rfl
  exact ⟨_, fd, F, He.glo_ok X G (c.fact 7 (f := .glo (nameOf (top 14))) rfl), F.bindsN (ps := (["names", "one", "other"] : List Str)) fun _ _ _ _ _ _ us hl => match us, hl with | [_, _, _], _ => rfl, kbn_of (ps := (["names", "one", "other"] : List Str)) F fun _ _ _ _ _ _ ws hl => match ws, hl with | [_, _, _], _ => rfl⟩
theorem dk_way_follows (X : K.In h) (G : h.Ns mainGlobals mg) (c : He.SaysD fa fn K) : DefOk K mg p_way_follows := by
  obtain ⟨fd, F⟩ := c.def_ 8 (d := dd 15) rfl
  exact ⟨_, fd, F, He.glo_ok X G (c.fact 8 (f := .glo (nameOf (top 15))) rfl), F.bindsN (ps := (["names", "way", "name"] : List Str)) fun _ _ _ _ _ _ us hl => match us, hl with | [_, _, _], _ => rfl, kbn_of (ps := (["names", "way", "name"] : List Str)) F fun _ _ _ _ _ _ ws hl => match ws, hl with | [_, _, _], _ => rfl⟩
theorem dk__law_pan (X : K.In h) (G : h.Ns mainGlobals mg) (c : He.SaysD fa fn K) : DefOk K mg p__law_pan := by
  obtain ⟨fd, F⟩ := c.def_ 9 (d := dd 17) rfl
  exact ⟨_, fd, F, He.glo_ok X G (c.fact 9 (f := .glo (nameOf (top 17))) rfl), F.bindsN (ps := (["script"] : List Str)) fun _ _ _ _ _ _ us hl => match us, hl with | [_], _ => rfl, kbn_of (ps := (["script"] : List Str)) F fun _ _ _ _ _ _ ws hl => match ws, hl with | [_], _ => rfl⟩
theorem dk__law_scrape (X : K.In h) (G : h.Ns mainGlobals mg) (c : He.SaysD fa fn K) : DefOk K mg p__law_scrape := by
  obtain ⟨fd, F⟩ := c.def_ 10 (d := dd 18) rfl
  exact ⟨_, fd, F, He.glo_ok X G (c.fact 10 (f := .glo (nameOf (top 18))) rfl), F.bindsN (ps := (["pan", "place", "many"] : List Str)) fun _ _ _ _ _ _ us hl => match us, hl with | [_, _, _], _ => rfl, kbn_of (ps := (["pan", "place", "many"] : List Str)) F fun _ _ _ _ _ _ ws hl => match ws, hl with | [_, _, _], _ => rfl⟩
theorem dk__law_same (X : K.In h) (G : h.Ns mainGlobals mg) (c : He.SaysD fa fn K) : DefOk K mg p__law_same := by
  obtain ⟨fd, F⟩ := c.def_ 11 (d := dd 19) rfl
  exact ⟨_, fd, F, He.glo_ok X G (c.fact 11 (f := .glo (nameOf (top 19))) rfl), F.bindsN (ps := (["told", "due"] : List Str)) fun _ _ _ _ _ _ us hl => match us, hl with | [_, _], _ => rfl, kbn_of (ps := (["told", "due"] : List Str)) F fun _ _ _ _ _ _ ws hl => match ws, hl with | [_, _], _ => rfl⟩
theorem dk__law_kept (X : K.In h) (G : h.Ns mainGlobals mg) (c : He.SaysD fa fn K) : DefOk K mg p__law_kept := by
  obtain ⟨fd, F⟩ := c.def_ 12 (d := dd 20) rfl
  exact ⟨_, fd, F, He.glo_ok X G (c.fact 12 (f := .glo (nameOf (top 20))) rfl), F.bindsN (ps := ([] : List Str)) fun _ _ _ _ _ _ us hl => match us, hl with | [], _ => rfl, kbn_of (ps := ([] : List Str)) F fun _ _ _ _ _ _ ws hl => match ws, hl with | [], _ => rfl⟩
theorem dk__law_is_name (X : K.In h) (G : h.Ns mainGlobals mg) (c : He.SaysD fa fn K) : DefOk K mg p__law_is_name := by
  obtain ⟨fd, F⟩ := c.def_ 13 (d := dd 21) rfl
  exact ⟨_, fd, F, He.glo_ok X G (c.fact 13 (f := .glo (nameOf (top 21))) rfl), F.bindsN (ps := (["thing"] : List Str)) fun _ _ _ _ _ _ us hl => match us, hl with | [_], _ => rfl, kbn_of (ps := (["thing"] : List Str)) F fun _ _ _ _ _ _ ws hl => match ws, hl with | [_], _ => rfl⟩
theorem dk__law_is_set (X : K.In h) (G : h.Ns mainGlobals mg) (c : He.SaysD fa fn K) : DefOk K mg p__law_is_set := by
  obtain ⟨fd, F⟩ := c.def_ 14 (d := dd 22) rfl
  exact ⟨_, fd, F, He.glo_ok X G (c.fact 14 (f := .glo (nameOf (top 22))) rfl), F.bindsN (ps := (["thing"] : List Str)) fun _ _ _ _ _ _ us hl => match us, hl with | [_], _ => rfl, kbn_of (ps := (["thing"] : List Str)) F fun _ _ _ _ _ _ ws hl => match ws, hl with | [_], _ => rfl⟩
theorem dk__law_name (X : K.In h) (G : h.Ns mainGlobals mg) (c : He.SaysD fa fn K) : DefOk K mg p__law_name := by
  obtain ⟨fd, F⟩ := c.def_ 15 (d := dd 23) rfl
  exact ⟨_, fd, F, He.glo_ok X G (c.fact 15 (f := .glo (nameOf (top 23))) rfl), F.bindsN (ps := (["pan"] : List Str)) fun _ _ _ _ _ _ us hl => match us, hl with | [_], _ => rfl, kbn_of (ps := (["pan"] : List Str)) F fun _ _ _ _ _ _ ws hl => match ws, hl with | [_], _ => rfl⟩
theorem dk__law_set (X : K.In h) (G : h.Ns mainGlobals mg) (c : He.SaysD fa fn K) : DefOk K mg p__law_set := by
  obtain ⟨fd, F⟩ := c.def_ 16 (d := dd 24) rfl
  exact ⟨_, fd, F, He.glo_ok X G (c.fact 16 (f := .glo (nameOf (top 24))) rfl), F.bindsN (ps := (["pan", "most"] : List Str)) fun _ _ _ _ _ _ us hl => match us, hl with | [_, _], _ => rfl, kbn_of (ps := (["pan", "most"] : List Str)) F fun _ _ _ _ _ _ ws hl => match ws, hl with | [_, _], _ => rfl⟩
theorem dk__law_things (X : K.In h) (G : h.Ns mainGlobals mg) (c : He.SaysD fa fn K) : DefOk K mg p__law_things := by
  obtain ⟨fd, F⟩ := c.def_ 17 (d := dd 25) rfl
  exact ⟨_, fd, F, He.glo_ok X G (c.fact 17 (f := .glo (nameOf (top 25))) rfl), F.bindsN (ps := (["pan"] : List Str)) fun _ _ _ _ _ _ us hl => match us, hl with | [_], _ => rfl, kbn_of (ps := (["pan"] : List Str)) F fun _ _ _ _ _ _ ws hl => match ws, hl with | [_], _ => rfl⟩
theorem dk__law_lots (X : K.In h) (G : h.Ns mainGlobals mg) (c : He.SaysD fa fn K) : DefOk K mg p__law_lots := by
  obtain ⟨fd, F⟩ := c.def_ 18 (d := dd 26) rfl
  exact ⟨_, fd, F, He.glo_ok X G (c.fact 18 (f := .glo (nameOf (top 26))) rfl), F.bindsN (ps := (["pan"] : List Str)) fun _ _ _ _ _ _ us hl => match us, hl with | [_], _ => rfl, kbn_of (ps := (["pan"] : List Str)) F fun _ _ _ _ _ _ ws hl => match ws, hl with | [_], _ => rfl⟩
theorem dk__law_joined (X : K.In h) (G : h.Ns mainGlobals mg) (c : He.SaysD fa fn K) : DefOk K mg p__law_joined := by
  obtain ⟨fd, F⟩ := c.def_ 19 (d := dd 27) rfl
  exact ⟨_, fd, F, He.glo_ok X G (c.fact 19 (f := .glo (nameOf (top 27))) rfl), F.bindsN (ps := (["one", "other"] : List Str)) fun _ _ _ _ _ _ us hl => match us, hl with | [_, _], _ => rfl, kbn_of (ps := (["one", "other"] : List Str)) F fun _ _ _ _ _ _ ws hl => match ws, hl with | [_, _], _ => rfl⟩
theorem dk__law_without (X : K.In h) (G : h.Ns mainGlobals mg) (c : He.SaysD fa fn K) : DefOk K mg p__law_without := by
  obtain ⟨fd, F⟩ := c.def_ 20 (d := dd 28) rfl
  exact ⟨_, fd, F, He.glo_ok X G (c.fact 20 (f := .glo (nameOf (top 28))) rfl), F.bindsN (ps := (["one", "other"] : List Str)) fun _ _ _ _ _ _ us hl => match us, hl with | [_, _], _ => rfl, kbn_of (ps := (["one", "other"] : List Str)) F fun _ _ _ _ _ _ ws hl => match ws, hl with | [_, _], _ => rfl⟩
theorem dk__law_fits (X : K.In h) (G : h.Ns mainGlobals mg) (c : He.SaysD fa fn K) : DefOk K mg p__law_fits := by
  obtain ⟨fd, F⟩ := c.def_ 21 (d := dd 29) rfl
  exact ⟨_, fd, F, He.glo_ok X G (c.fact 21 (f := .glo (nameOf (top 29))) rfl), F.bindsN (ps := (["part", "rank", "marks"] : List Str)) fun _ _ _ _ _ _ us hl => match us, hl with | [_, _, _], _ => rfl, kbn_of (ps := (["part", "rank", "marks"] : List Str)) F fun _ _ _ _ _ _ ws hl => match ws, hl with | [_, _, _], _ => rfl⟩
theorem dk__law_sets_asked (X : K.In h) (G : h.Ns mainGlobals mg) (c : He.SaysD fa fn K) : DefOk K mg p__law_sets_asked := by
  obtain ⟨fd, F⟩ := c.def_ 22 (d := dd 30) rfl
  exact ⟨_, fd, F, He.glo_ok X G (c.fact 22 (f := .glo (nameOf (top 30))) rfl), F.bindsN (ps := (["pan"] : List Str)) fun _ _ _ _ _ _ us hl => match us, hl with | [_], _ => rfl, kbn_of (ps := (["pan"] : List Str)) F fun _ _ _ _ _ _ ws hl => match ws, hl with | [_], _ => rfl⟩
theorem dk__law_parts_asked (X : K.In h) (G : h.Ns mainGlobals mg) (c : He.SaysD fa fn K) : DefOk K mg p__law_parts_asked := by
  obtain ⟨fd, F⟩ := c.def_ 23 (d := dd 31) rfl
  exact ⟨_, fd, F, He.glo_ok X G (c.fact 23 (f := .glo (nameOf (top 31))) rfl), F.bindsN (ps := (["pan"] : List Str)) fun _ _ _ _ _ _ us hl => match us, hl with | [_], _ => rfl, kbn_of (ps := (["pan"] : List Str)) F fun _ _ _ _ _ _ ws hl => match ws, hl with | [_], _ => rfl⟩
theorem dk__law_ways_asked (X : K.In h) (G : h.Ns mainGlobals mg) (c : He.SaysD fa fn K) : DefOk K mg p__law_ways_asked := by
  obtain ⟨fd, F⟩ := c.def_ 24 (d := dd 32) rfl
  exact ⟨_, fd, F, He.glo_ok X G (c.fact 24 (f := .glo (nameOf (top 32))) rfl), F.bindsN (ps := (["pan"] : List Str)) fun _ _ _ _ _ _ us hl => match us, hl with | [_], _ => rfl, kbn_of (ps := (["pan"] : List Str)) F fun _ _ _ _ _ _ ws hl => match ws, hl with | [_], _ => rfl⟩
theorem dk__law_whole (X : K.In h) (G : h.Ns mainGlobals mg) (c : He.SaysD fa fn K) : DefOk K mg p__law_whole := by
  obtain ⟨fd, F⟩ := c.def_ 25 (d := dd 33) rfl
  exact ⟨_, fd, F, He.glo_ok X G (c.fact 25 (f := .glo (nameOf (top 33))) rfl), F.bindsN (ps := (["script"] : List Str)) fun _ _ _ _ _ _ us hl => match us, hl with | [_], _ => rfl, kbn_of (ps := (["script"] : List Str)) F fun _ _ _ _ _ _ ws hl => match ws, hl with | [_], _ => rfl⟩
theorem dk_law (X : K.In h) (G : h.Ns mainGlobals mg) (c : He.SaysD fa fn K) : DefOk K mg p_law := by
  obtain ⟨fd, F⟩ := c.def_ 26 (d := dd 34) rfl
  exact ⟨_, fd, F, He.glo_ok X G (c.fact 26 (f := .glo (nameOf (top 34))) rfl), F.bindsN (ps := (["script"] : List Str)) fun _ _ _ _ _ _ us hl => match us, hl with | [_], _ => rfl, kbn_of (ps := (["script"] : List Str)) F fun _ _ _ _ _ _ ws hl => match ws, hl with | [_], _ => rfl⟩
theorem dk (X : K.In h) (G : h.Ns mainGlobals mg) (c : He.SaysD fa fn K) : ∀ p ∈ tab, DefOk K mg p.2 :=
  List.forall_mem_cons.mpr ⟨dk_is_name X G c, List.forall_mem_cons.mpr ⟨dk_is_set X G c, List.forall_mem_cons.mpr ⟨dk_joined_sets X G c, List.forall_mem_cons.mpr ⟨dk_cut_set X G c, List.forall_mem_cons.mpr ⟨dk_shares X G c, List.forall_mem_cons.mpr ⟨dk_fits_part X G c, List.forall_mem_cons.mpr ⟨dk_changed_marks X G c, List.forall_mem_cons.mpr ⟨dk_is_later X G c, List.forall_mem_cons.mpr ⟨dk_way_follows X G c, List.forall_mem_cons.mpr ⟨dk__law_pan X G c, List.forall_mem_cons.mpr ⟨dk__law_scrape X G c, List.forall_mem_cons.mpr ⟨dk__law_same X G c, List.forall_mem_cons.mpr ⟨dk__law_kept X G c, List.forall_mem_cons.mpr ⟨dk__law_is_name X G c, List.forall_mem_cons.mpr ⟨dk__law_is_set X G c, List.forall_mem_cons.mpr ⟨dk__law_name X G c, List.forall_mem_cons.mpr ⟨dk__law_set X G c, List.forall_mem_cons.mpr ⟨dk__law_things X G c, List.forall_mem_cons.mpr ⟨dk__law_lots X G c, List.forall_mem_cons.mpr ⟨dk__law_joined X G c, List.forall_mem_cons.mpr ⟨dk__law_without X G c, List.forall_mem_cons.mpr ⟨dk__law_fits X G c, List.forall_mem_cons.mpr ⟨dk__law_sets_asked X G c, List.forall_mem_cons.mpr ⟨dk__law_parts_asked X G c, List.forall_mem_cons.mpr ⟨dk__law_ways_asked X G c, List.forall_mem_cons.mpr ⟨dk__law_whole X G c, List.forall_mem_cons.mpr ⟨dk_law X G c, fun _ h => nomatch h⟩⟩⟩⟩⟩⟩⟩⟩⟩⟩⟩⟩⟩⟩⟩⟩⟩⟩⟩⟩⟩⟩⟩⟩⟩⟩⟩
end
theorem facts {P : Program} {w : World} {K : PySem.W.Frag} {h : Heap} {mg : Str → Option Value} {f : Addr} (X : K.In h) (G : h.Ns mainGlobals mg) (hfa : mg ("law" : Str) = some (.ref f)) (c : SaysP fa fn dt K) :
    ∃ fd : FuncData, (∀ (s : Shared) (v : Value), BindsTo s fd ⟨[v], []⟩ [("script", v)]) ∧ ∀ base : Heap, K.In base → base.Ns mainGlobals mg → FnOk P w K mg base C8.CX0 40 f fd ["script"] (spF K (callN K00.gl 0 K00.fns 40 26)) := by
  obtain ⟨fd, F⟩ := c.d.def_ 26 (d := dd 34) rfl
  have e := hfa.symm.trans (He.glo_ok X G (c.d.fact 26 (f := .glo (nameOf (top 34))) rfl))
  cases e
  have b := FunD.bindsA (ps := ["script"]) F fun _ _ _ _ _ _ us hl => match us, hl with | [_], _ => rfl
  refine ⟨fd, fun s v => b s [v] rfl, fun base _ _ => ?_⟩
  have hgl := gls_ok (K := K) (gls := gls) (gl := K00.gl) X G c.t (by decide +kernel) rfl
  have hb := blts_ok (blts := blts) X G c.d fun y hy => List.mem_append_right _ (List.mem_map.mpr ⟨y, hy, rfl⟩)
  have hc := chk_all chk
  have hs := fun j y qs h' => all_snd (P := P) (w := w) (base := base) (wh := 0) tab hc (dk X G c.d) hgl hb 39 j y qs h'
  have hm : (K00.f_law, p_law) ∈ tab := List.mem_of_getElem? (i := 26) rfl
  have := fn_snd (P := P) (w := w) (base := base) (wh := 0) (n := 39) (hc _ hm) F hs hgl hb
  rw [tab_fst] at this
  exact this
end K00J
open PySem PySem.W PySem.Calls PyProof.Rows
theorem PySem.Challenge.cw_paperways_k00_sets_and_parts_holds : PySem.Challenge.rw_paperways_k00_sets_and_parts.Holds := by
  w_on; o_law
  refine HandSHeadRun.head_any (r := OpenLaw.row PySem.Challenge.rw_paperways_k00_sets_and_parts) (q := view (OpenLaw.row PySem.Challenge.rw_paperways_k00_sets_and_parts).prog [34]) (H := K00J.hk) (ob := K00J.ob) (M := 3000) (loose := K00J.loose) (d := HandSHeadRun.topDef (OpenLaw.row PySem.Challenge.rw_paperways_k00_sets_and_parts).prog 34) (kwd := []) K00J.ob_eq
    (by kernel_rfl) (fun s => by kernel_rfl) K00J.run (by kernel_rfl) (by kernel_rfl) (by kernel_rfl) (by rfl) (by first | assumption | decide +kernel) (by decide +kernel) ⟨rfl, rfl, rfl, rfl, rfl, by decide +kernel⟩ ?hw ?hc
  case hw => w_witness2
  case hc =>
    refine L2.walk_ofE (l := PySem.Challenge.rw_paperways_k00_sets_and_parts) (n := 63) (k := 40) (x := "script") (CX := C8.CX0) rfl (by decide) (by kernel_rfl) ⟨rfl, by decide, by decide⟩ ?F (fun _ _ _ _ z => z)
    intro w mg fa h Y G hmg0
    obtain ⟨K, KX, c⟩ := Y
    have hmg : mg ("law" : PySem.Str) = some (.ref fa) := by
      have e : (HandSHeadRun.topDef (OpenLaw.row PySem.Challenge.rw_paperways_k00_sets_and_parts).prog 34).name = ("law" : PySem.Str) := by kernel_rfl
      rw [← e]
      exact hmg0
    obtain ⟨fd, hb, hF⟩ := K00J.facts (P := (PySem.Challenge.rw_paperways_k00_sets_and_parts).prog) (w := w) KX G hmg c
    exact ⟨K, fd, _, KX, hb, fun H a ns hl _ hS => MP.law_sp hS (MP.K00.plain ns hl), hF⟩

