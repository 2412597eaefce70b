import PyProof.Rows.All
import Wide.All
import OpenK.AllK
import Wide.FinOn
import KE.KStateDown
import HandS.Base
import HandS.Call
import HandS.Comp
import HandS.Words
import HandS.ForMost
import HandS.Exc
import HandS.Lambda
import HandS.Walk
import HandS.List
import HandS.TupAny
import HandS.TupMul
import HandS.TupLe
import HandS.Style
import HandS.Deep
import HandS.IsInst
import HandS.Wide
import HandS.Dict
import HandS.Flow
import HandS.Conv
import HandS.ExcOwn
import HandS.CallLocal
import HandS.Small
import HandS.Defaults
import HandS.SetFor
import HandS.ExcIs
import HandS.HeadHook4
import HandS.HeadWalk
import HandS.Head0
import HandS.Head1
import HandS.Head2
import HandS.HeadEnd
import PySem.Challenge.RW_washhouse_k77_whole_lengths_behind_washe
set_option Elab.async false
set_option linter.all false
set_option maxRecDepth 100000
set_option maxHeartbeats 0
/-! Pf, part 1: the values, the small syntax tree and what it computes. Plain Lean: no heap, no machine. -/
namespace Pf
open PySem

/-- data; `fn` a def of the text, `hnd` the one list that a law draws from, `scr` the script -/
inductive D where
  | non | bl (b : Bool) | int (i : Int) | str (s : Str)
  | tup (ds : List D) | lst (ds : List D) | dic (ks vs : List D)
  | fn (f : Nat) | hnd | scr (ds : List D)
deriving Repr, Inhabited

inductive Bop | add | sub | mul | fdiv | mod | pow | shl
deriving Repr, DecidableEq
inductive Cop | eq | ne | lt | le | gt | ge | is | isN | mem | memN
deriving Repr, DecidableEq
/-- built-ins of one or two values -/
inductive Blt | len | abs | int | min2 | max2 | repr
deriving Repr, DecidableEq
/-- built-ins of one thing that is walked -/
inductive Bli | all | any | sum | min | max | tup | lst | srt | srtset | dic
deriving Repr, DecidableEq
inductive Mth | cnt | idx | get
deriving Repr, DecidableEq
inductive Ty | int | bool | str | tup | lst | dic
deriving Repr, DecidableEq

/-- targets -/
inductive Tg where
  | nm (i : Nat) | nil | cons (t ts : Tg) | tp (ts : Tg)
deriving Repr

/-- expressions; `nil`, `cons` are lists of them; `tv e`: e as a test, a part of a slice, a thing that is walked -/
inductive E where
  | c (d : D) | v (i : Nat) | p (i : Nat) | q (i : Nat)
  | nil | cons (a b : E)
  | tup (a : E) | lst (a : E) | dct (a : E)
  | bin (o : Bop) (a b : E) | neg (a : E) | not (a : E) | and (a b : E) | or (a b : E)
  | cmp (o : Cop) (a b : E) | cmp2 (o o' : Cop) (a b c : E)
  | ite (c a b : E)
  | idx (a i : E) | slc (a lo hi : E) | rev (a : E)
  | call (f : Nat) (a : E) | callv (i : Nat) (a : E)
  | blt (b : Blt) (a : E) | bli (b : Bli) (a : E) | blr (b : Bli) (a : E)
  | mth (m : Mth) (o a : E)
  | isi (a : E) (ts : List Ty)
  | comp (tg : Tg) (it c e : E) | dcomp (tg : Tg) (it c k e : E)
  | rng (a : E) | zip (a : E) | enm (a : E) | itm (a : E)
  | lam (s : Nat) (e : E)
  | tv (e : E)
deriving Repr

/-- one target of a parallel store: a name, or a place of a slot's thing -/
inductive Tx | nm (i : Nat) | ix (i : Nat) (k : E)
deriving Repr

inductive S where
  | skip | seq (a b : S)
  | set (i : Nat) (e : E) | unp (t : Tg) (e : E) | par (ts : List Tx) (es : E)
  | six (i : Nat) (k e : E) | aug (i : Nat) (o : Bop) (e : E) | augx (i : Nat) (k : E) (o : Bop) (e : E)
  | app (i : Nat) (e : E) | ext (i : Nat) (e : E) | upd (i : Nat) (e : E)
  | popu (t : Tg) (i : Nat) | appop (i j : Nat) (e : E)
  | ex (e : E) | ret (e : E)
  | ife (c : E) (a b : S) | fo (tg : Tg) (it : E) (b : S) | wh (c : E) (b : S)
  | rse (x : Nat) (e : E)
  | mkh (i : Nat) (e : E)
deriving Repr

structure Fn where
  np : Nat
  ns : Nat
  body : S
deriving Repr

/-! ### values -/
/-- what is computed: a value that may be shared, a thing of its own (new), a look at a slot's own thing -/
inductive TV where
  | val (d : D) | own (d : D) | brw (d : D)
deriving Repr
def TV.d : TV → D
  | .val d => d | .own d => d | .brw d => d
inductive Slot where
  | un | val (d : D) | own (d : D)
deriving Repr
structure Sta where
  env : List Slot
  hd : Option (List D)
deriving Repr
def Sta.set (s : Sta) (i : Nat) (x : Slot) : Sta := ⟨s.env.set i x, s.hd⟩
/-- an error: its class, what it bears -/
structure Xc where
  c : Nat
  d : Option D
deriving Repr
inductive R (α : Type) where
  | ok (a : α) (s : Sta) | exc (x : Xc) (s : Sta) | bad
deriving Repr
def R.bind {α β : Type} (r : R α) (f : α → Sta → R β) : R β :=
  match r with
  | .ok a s => f a s
  | .exc x s => .exc x s
  | .bad => .bad
def R.of {α : Type} (o : Option α) (s : Sta) : R α :=
  match o with
  | some a => .ok a s
  | none => .bad
inductive SR where
  | nx (s : Sta) | rt (v : TV) (s : Sta) | exc (x : Xc) (s : Sta) | bad
deriving Repr
inductive CR where
  | ok (v : TV) (hd : Option (List D)) | exc (x : Xc) (hd : Option (List D)) | bad
deriving Repr
/-- what is around: the defs; what a catcher gives where the call ends well (none: the call's value); its word for an error's class -/
structure Cn where
  call : Nat → List D → Option (List D) → CR
  ret : Nat → Option Str
  word : Nat → Nat → Option Str

def big : Nat := 16777216

/-! ### data -/
mutual
def D.depth : D → Nat
  | .tup ds | .lst ds => depths ds + 1
  | _ => 0
def depths : List D → Nat
  | [] => 0
  | d :: ds => max d.depth (depths ds)
end
mutual
/-- data that == looks into: no dict, no def -/
def D.plain : D → Bool
  | .tup ds | .lst ds => plains ds
  | .str s => PyData.strOk s
  | .non | .bl _ | .int _ => true
  | _ => false
def plains : List D → Bool
  | [] => true
  | d :: ds => d.plain && plains ds
end
mutual
def D.eqv : D → D → Bool
  | .non, .non => true
  | .bl a, .bl b => a == b
  | .bl a, .int j => (if a then 1 else 0) == j
  | .int i, .bl b => i == (if b then 1 else 0)
  | .int i, .int j => i == j
  | .str x, .str y => x == y
  | .lst xs, .lst ys => eqvs xs ys
  | .tup xs, .tup ys => eqvs xs ys
  | _, _ => false
def eqvs : List D → List D → Bool
  | [], [] => true
  | x :: xs, y :: ys => x.eqv y && eqvs xs ys
  | _, _ => false
end
def okE (d : D) : Bool := d.plain && decide (d.depth ≤ 60)
def eqD (a b : D) : Option Bool := if okE a && okE b then some (a.eqv b) else none
def truth : D → Option Bool
  | .non => some false
  | .bl b => some b
  | .int i => some (i != 0)
  | .str s => if s.length ≤ big then some (s.length != 0) else none
  | .tup ds => some (!ds.isEmpty)
  | .lst ds => some (!ds.isEmpty)
  | _ => none
/-- the place of a list that an index names -/
def place (n : Nat) (i : Int) : Option Nat := if 0 ≤ i then (if i < n then some i.toNat else none) else if -(n : Int) ≤ i then some (i + n).toNat else none
def atD (ds : List D) (i : Int) : Option D := (place ds.length i).bind fun j => ds[j]?
/-- keys: ints, texts -/
def D.key : D → Bool
  | .int _ | .str _ => true
  | _ => false
/-- the first place of a thing that is the key -/
def find (k : D) : List D → Option Nat
  | [] => none
  | d :: ds => if d.eqv k then some 0 else (find k ds).map (· + 1)
def dget (ks vs : List D) (k : D) : Option D := (find k ks).bind fun j => vs[j]?
def dset (k v : D) : List D → List D → List D
  | a :: ks, b :: vs => (if a.eqv k then v else b) :: dset k v ks vs
  | _, vs => vs
def dput (ks vs : List D) (k v : D) : List D × List D :=
  match find k ks with
  | some _ => (ks, dset k v ks vs)
  | none => (ks ++ [k], vs ++ [v])
def dputs (ks vs : List D) : List D → List D → List D × List D
  | k :: ms, v :: ws => let q := dput ks vs k v; dputs q.1 q.2 ms ws
  | _, _ => (ks, vs)
def idxD (hd : Option (List D)) : D → D → Option D
  | .tup ds, .int i => atD ds i
  | .lst ds, .int i => atD ds i
  | .hnd, .int i => hd.bind fun ds => atD ds i
  | .dic ks vs, k => if k.key then dget ks vs k else none
  | _, _ => none
def lenD : D → Option Nat
  | .tup ds => some ds.length
  | .lst ds => some ds.length
  | .str s => if s.length ≤ big then some s.length else none
  | _ => none
def clip (n d : Nat) : Option Int → Nat
  | none => d
  | some u => if u < 0 then (u + (n : Int)).toNat else min u.toNat n
def cut (xs : List D) (lo hi : Option Int) : List D := (xs.drop (clip xs.length 0 lo)).take (clip xs.length xs.length hi - clip xs.length 0 lo)
/-- what a for walks over a value: its items -/
def items : D → Option (List D)
  | .tup ds => some ds
  | .lst ds => some ds
  | .dic ks _ => some ks
  | _ => none

/-! ### order -/
mutual
def D.lt : D → D → Option Bool
  | .int i, .int j => some (decide (i < j))
  | .str x, .str y => some (decide (x.cps.toList < y.cps.toList))
  | .tup xs, .tup ys => lts xs ys
  | _, _ => none
def lts : List D → List D → Option Bool
  | [], [] => some false
  | [], _ :: _ => some true
  | _ :: _, [] => some false
  | x :: xs, y :: ys => if x.eqv y then lts xs ys else x.lt y
end
/-- data that can be set in order: ints, texts, tuples of such -/
def ltD (a b : D) : Option Bool := if okE a && okE b then a.lt b else none
/-- all of one kind: any two can be compared -/
def ins (x : D) : List D → Option (List D)
  | [] => some [x]
  | y :: ys => (ltD y x).bind fun b => if b then (ins x ys).map (y :: ·) else some (x :: y :: ys)
def sortD : List D → Option (List D)
  | [] => some []
  | x :: xs => (sortD xs).bind (ins x)
def minFrom (m : D) : List D → Option D
  | [] => some m
  | y :: ys => (ltD y m).bind fun b => minFrom (if b then y else m) ys
def maxFrom (m : D) : List D → Option D
  | [] => some m
  | y :: ys => (ltD m y).bind fun b => maxFrom (if b then y else m) ys
def minD : List D → Option D
  | [] => none
  | x :: xs => minFrom x xs
def maxD : List D → Option D
  | [] => none
  | x :: xs => maxFrom x xs
def sumD : List D → Option Int
  | [] => some 0
  | .int i :: ds => (sumD ds).map (i + ·)
  | _ => none
def bools : List D → Option (List Bool)
  | [] => some []
  | .bl b :: ds => (bools ds).map (b :: ·)
  | _ => none

/-! ### operators -/
def mulOk (i j : Int) : Bool := (decide (-(2 ^ 64) < i) && decide (i < 2 ^ 64)) || (decide (-(2 ^ 64) < j) && decide (j < 2 ^ 64))
def rep (n : Nat) (ds : List D) : List D := (List.replicate n ds).flatten
def addD : D → D → Option TV
  | .int i, .int j => some (.val (.int (i + j)))
  | .tup xs, .tup ys => if xs.length + ys.length ≤ big then some (.val (.tup (xs ++ ys))) else none
  | .lst xs, .lst ys => if xs.length + ys.length ≤ big then some (.own (.lst (xs ++ ys))) else none
  | _, _ => none
def subD : D → D → Option TV
  | .int i, .int j => some (.val (.int (i - j)))
  | _, _ => none
def mulD : D → D → Option TV
  | .int i, .int j => if mulOk i j then some (.val (.int (i * j))) else none
  | .tup xs, .int k => if xs.length ≤ 1000 ∧ xs.isEmpty = false ∧ 2 ≤ k ∧ k ≤ 1000 then some (.val (.tup (rep k.toNat xs))) else none
  | .lst xs, .int k => if xs.length ≤ 1000 ∧ -1000 ≤ k ∧ k ≤ 1000 then some (.own (.lst (rep k.toNat xs))) else none
  | _, _ => none
def fdivD : D → D → Option TV
  | .int i, .int j => if 0 < j ∧ j < 1073741824 then some (.val (.int (i / j))) else none
  | _, _ => none
def modD : D → D → Option TV
  | .int i, .int j => if 0 < j then some (.val (.int (i % j))) else none
  | _, _ => none
def powD : D → D → Option TV
  | .int i, .int j => if 0 ≤ j ∧ j ≤ 1000 ∧ i.natAbs < 2 ^ 64 then some (.val (.int (i ^ j.toNat))) else none
  | _, _ => none
def shlD : D → D → Option TV
  | .int i, .int j => if 0 ≤ j ∧ j ≤ 1000 ∧ i.natAbs < 2 ^ 64 then some (.val (.int (i * 2 ^ j.toNat))) else none
  | _, _ => none
def binD (o : Bop) (a b : D) : Option TV :=
  match o with
  | .add => addD a b | .sub => subD a b | .mul => mulD a b | .fdiv => fdivD a b | .mod => modD a b | .pow => powD a b | .shl => shlD a b
def memD (x : D) (ds : List D) : Option Bool := if okE x && okE (.lst ds) then some (ds.any fun y => y.eqv x) else none
def ltC : D → D → Option Bool
  | .int i, .int j => some (decide (i < j))
  | _, _ => none
def leC : D → D → Option Bool
  | .int i, .int j => some (decide (i ≤ j))
  | _, _ => none
def isC : D → D → Option Bool
  | .non, .non => some true
  | .bl a, .bl b => some (decide (a = b))
  | a, .non => some false
  | _, _ => none
def memC (x : D) : D → Option Bool
  | .lst ds => memD x ds
  | _ => none
def cmpD (o : Cop) (a b : D) : Option Bool :=
  match o with
  | .eq => eqD a b | .ne => (eqD a b).map (!·)
  | .lt => ltC a b | .le => leC a b | .gt => ltC b a | .ge => leC b a
  | .is => isC a b | .isN => (isC a b).map (!·)
  | .mem => memC a b | .memN => (memC a b).map (!·)
def isTy : D → Ty → Bool
  | .int _, .int => true
  | .bl _, .int => true
  | .bl _, .bool => true
  | .str _, .str => true
  | .tup _, .tup => true
  | .lst _, .lst => true
  | .dic _ _, .dic => true
  | _, _ => false
def typed : D → Bool
  | .fn _ | .hnd | .scr _ => false
  | _ => true
/-- the first place where y stands -/
def firstAt (y : D) : List D → Option Nat
  | [] => none
  | d :: ds => if d.eqv y then some 0 else (firstAt y ds).map (· + 1)
def cntD : D → List D → Option D
  | .lst ds, [y] => if okE (.lst ds) && okE y then some (.int (ds.countP fun d => d.eqv y)) else none
  | .tup ds, [y] => if okE (.lst ds) && okE y then some (.int (ds.countP fun d => d.eqv y)) else none
  | _, _ => none
def indexD : D → List D → Option D
  | .lst ds, [y] => if okE (.lst ds) && okE y then (firstAt y ds).map fun (j : Nat) => .int j else none
  | .tup ds, [y] => if okE (.lst ds) && okE y then (firstAt y ds).map fun (j : Nat) => .int j else none
  | _, _ => none
def getD' : D → List D → Option D
  | .dic ks vs, [k, x] => if k.key then some ((dget ks vs k).getD x) else none
  | _, _ => none
def mthD (m : Mth) (o : D) (as : List D) : Option D :=
  match m with
  | .cnt => cntD o as | .idx => indexD o as | .get => getD' o as
def absD : List D → Option D
  | [.int i] => some (.int (if i < 0 then -i else i))
  | _ => none
def intD : List D → Option D
  | [.int i] => some (.int i)
  | [.bl b] => some (.int (if b then 1 else 0))
  | _ => none
def len1 : List D → Option D
  | [d] => (lenD d).map fun (n : Nat) => .int n
  | _ => none
def min2D : List D → Option D
  | [.int i, .int j] => some (.int (if j < i then j else i))
  | _ => none
def max2D : List D → Option D
  | [.int i, .int j] => some (.int (if j > i then j else i))
  | _ => none
def bltD (b : Blt) (as : List D) : Option D :=
  match b with
  | .len => len1 as | .abs => absD as | .int => intD as | .min2 => min2D as | .max2 => max2D as | .repr => none
/-- pairs (k, v) for dict(..) -/
def pairsD : List D → Option (List D × List D)
  | [] => some ([], [])
  | .tup [k, v] :: ds => if k.key then (pairsD ds).map fun q => (k :: q.1, v :: q.2) else none
  | _ => none
def dedup : List D → List D
  | [] => []
  | d :: ds => if ds.any (fun x => x.eqv d) then dedup ds else d :: dedup ds
/-- k1, v1, k2, v2, .. of a display -/
def dpairs : List D → Option (List D × List D)
  | [] => some ([], [])
  | k :: v :: ds => if k.key then (dpairs ds).map fun q => (k :: q.1, v :: q.2) else none
  | _ => none
def lstOf : D → Option (List D)
  | .lst ds => some ds
  | _ => none
/-- a tuple's or a list's items: no dict -/
def seqOf : D → Option (List D)
  | .tup ds => some ds
  | .lst ds => some ds
  | _ => none
def bliD (b : Bli) (d : D) : Option TV :=
  match b with
  | .all => (lstOf d).bind fun ds => (bools ds).map fun bs => .val (.bl (bs.all id))
  | .any => (lstOf d).bind fun ds => (bools ds).map fun bs => .val (.bl (bs.any id))
  | .sum => (lstOf d).bind fun ds => (sumD ds).map fun i => .val (.int i)
  | .min => (seqOf d).bind fun ds => (minD ds).map .val
  | .max => (seqOf d).bind fun ds => (maxD ds).map .val
  | .tup => (seqOf d).map fun ds => .val (.tup ds)
  | .lst => (items d).map fun ds => .own (.lst ds)
  | .srt => (items d).bind fun ds => (sortD ds).map fun r => .own (.lst r)
  | .srtset => (lstOf d).bind fun ds => (sortD (dedup ds)).map fun r => .own (.lst r)
  | .dic => (lstOf d).bind fun ds => (pairsD ds).map fun q => let r := dputs [] [] q.1 q.2; .own (.dic r.1 r.2)

/-- range(..) -/
def rngN (lo : Int) (c : Int) : Nat → List D
  | 0 => []
  | n + 1 => .int lo :: rngN (lo + c) c n
def small (i : Int) : Bool := decide (-(2 ^ 62) ≤ i) && decide (i < 2 ^ 62)
def rngD : List D → Option (List D)
  | [.int n] => if small n && decide (n.toNat ≤ big) then some (rngN 0 1 n.toNat) else none
  | [.int a, .int b] => if small a && small b && decide ((b - a).toNat ≤ big) then some (rngN a 1 (b - a).toNat) else none
  | [.int a, .int b, .int c] => if small a && small b && decide (c = -1) && decide ((a - b).toNat ≤ big) then some (rngN a (-1) (a - b).toNat) else none
  | _ => none
def zip2 : List D → List D → List D
  | a :: as, b :: bs => .tup [a, b] :: zip2 as bs
  | _, _ => []
def zip3 : List D → List D → List D → List D
  | a :: as, b :: bs, c :: cs => .tup [a, b, c] :: zip3 as bs cs
  | _, _, _ => []
def enm (i : Int) : List D → List D
  | [] => []
  | d :: ds => .tup [.int i, d] :: enm (i + 1) ds
def zipD : List D → Option (List D)
  | [a, b] => (seqOf a).bind fun xs => (seqOf b).map fun ys => zip2 xs ys
  | [a, b, c] => (seqOf a).bind fun xs => (seqOf b).bind fun ys => (seqOf c).map fun zs => zip3 xs ys zs
  | _ => none

/-! ### targets -/
mutual
def bindT : Tg → D → List Slot → Option (List Slot)
  | .nm i, d, env => some (env.set i (.val d))
  | .tp ts, .tup ds, env => bindTs ts ds env
  | _, _, _ => none
def bindTs : Tg → List D → List Slot → Option (List Slot)
  | .nil, [], env => some env
  | .cons t ts, d :: ds, env => (bindT t d env).bind fun env => bindTs ts ds env
  | _, _, _ => none
end
def Tg.slots : Tg → List Nat
  | .nm i => [i]
  | .nil => []
  | .cons t ts => t.slots ++ ts.slots
  | .tp ts => ts.slots
def wipe (own : List Nat) (env : List Slot) : List Slot := own.foldl (fun env i => env.set i .un) env
def restore (own : List Nat) (env0 env : List Slot) : List Slot := own.foldl (fun env i => env.set i (env0.getD i .un)) env
def noOwn (own : List Nat) (env : List Slot) : Bool := own.all fun i => match env.getD i .un with | .own _ => false | _ => true

/-! ### expressions -/
def readV (i : Nat) (s : Sta) : R TV :=
  match s.env.getD i .un with
  | .val d => .ok (.val d) s
  | .own d => .ok (.val d) (s.set i (.val d))
  | .un => .bad
def readP (i : Nat) (s : Sta) : R TV :=
  match s.env.getD i .un with
  | .val d => .ok (.val d) s
  | .own d => .ok (.brw d) s
  | .un => .bad
/-- a slot whose thing is walked: a list is looked at, a dict is shared -/
def readQ (i : Nat) (s : Sta) : R TV :=
  match s.env.getD i .un with
  | .val d => .ok (.val d) s
  | .own (.dic ks vs) => .ok (.val (.dic ks vs)) (s.set i (.val (.dic ks vs)))
  | .own d => .ok (.brw d) s
  | .un => .bad
/-- a thing that is given on: shared from now on -/
def share : TV → Option D
  | .val d => some d
  | .own d => some d
  | .brw _ => none
/-- a comprehension's turns -/
def compL (own : List Nat) (tg : Tg) (c : Sta → R Bool) (e : Sta → R D) : List D → Sta → R (List D)
  | [], s => .ok [] s
  | d :: ds, s =>
    match bindT tg d s.env with
    | none => .bad
    | some env => (c ⟨env, s.hd⟩).bind fun b s2 =>
      if b then (e s2).bind fun x s3 => (compL own tg c e ds ⟨wipe own s3.env, s3.hd⟩).bind fun r s4 => .ok (x :: r) s4
      else compL own tg c e ds ⟨wipe own s2.env, s2.hd⟩
def noExc {α : Type} : R α → R α
  | .exc _ _ => .bad
  | r => r
def callR (r : CR) (env : List Slot) : R TV :=
  match r with
  | .ok tv hd => .ok tv ⟨env, hd⟩
  | .exc x hd => .exc x ⟨env, hd⟩
  | .bad => .bad
mutual
def ev (C : Cn) : E → Sta → R TV
  | .c d, s => .ok (.val d) s
  | .v i, s => readV i s
  | .p i, s => readP i s
  | .q i, s => readQ i s
  | .tup a, s => (evs C a s).bind fun ds s => .ok (.val (.tup ds)) s
  | .lst a, s => (evs C a s).bind fun ds s => .ok (.own (.lst ds)) s
  | .dct a, s => (evs C a s).bind fun ds s => R.of ((dpairs ds).map fun q => let r := dputs [] [] q.1 q.2; .own (.dic r.1 r.2)) s
  | .bin o a b, s => (ev C a s).bind fun x s => (ev C b s).bind fun y s => R.of (binD o x.d y.d) s
  | .neg a, s => (ev C a s).bind fun x s => match x with | .val (.int i) => .ok (.val (.int (-i))) s | _ => .bad
  | .not a, s => (evT C a s).bind fun b s => .ok (.val (.bl (!b))) s
  | .and a b, s => (ev C a s).bind fun x s => match x with | .val (.bl t) => if t then ev C b s else .ok (.val (.bl false)) s | _ => .bad
  | .or a b, s => (ev C a s).bind fun x s => match x with | .val (.bl t) => if t then .ok (.val (.bl true)) s else ev C b s | _ => .bad
  | .cmp o a b, s => (ev C a s).bind fun x s => (ev C b s).bind fun y s => R.of ((cmpD o x.d y.d).map fun t => .val (.bl t)) s
  | .cmp2 o o' a b c, s => (ev C a s).bind fun x s => (ev C b s).bind fun y s => (R.of (cmpD o x.d y.d) s).bind fun t s =>
      if t then (ev C c s).bind fun z s => R.of ((cmpD o' y.d z.d).map fun t => .val (.bl t)) s else .ok (.val (.bl false)) s
  | .ite c a b, s => (evT C c s).bind fun t s => if t then ev C a s else ev C b s
  | .idx a i, s => (ev C a s).bind fun x s => (ev C i s).bind fun y s => R.of ((idxD s.hd x.d y.d).map .val) s
  | .slc a lo hi, s => (ev C a s).bind fun x s => (evO C lo s).bind fun l s => (evO C hi s).bind fun h s => match x.d with
      | .tup ds => .ok (.val (.tup (cut ds l h))) s
      | .lst ds => .ok (.own (.lst (cut ds l h))) s
      | .scr ds => .ok (.own (.lst (cut ds l h))) s
      | _ => .bad
  | .rev a, s => (ev C a s).bind fun x s => match x.d with
      | .tup ds => .ok (.val (.tup ds.reverse)) s
      | .lst ds => .ok (.own (.lst ds.reverse)) s
      | _ => .bad
  | .call f a, s => (evs C a s).bind fun ds s => callR (C.call f ds s.hd) s.env
  | .callv i a, s => match s.env.getD i .un with
      | .val (.fn f) => (evs C a s).bind fun ds s => callR (C.call f ds s.hd) s.env
      | _ => .bad
  | .blt b a, s => (evp C a s).bind fun ds s => R.of ((bltD b ds).map .val) s
  | .bli b a, s => (ev C a s).bind fun x s => match x with | .brw (.dic _ _) => .bad | x => R.of (bliD b x.d) s
  | .blr b a, s => (evs C a s).bind fun ds s => R.of ((rngD ds).bind fun ds => bliD b (.lst ds)) s
  | .mth m o a, s => (ev C o s).bind fun x s => (evs C a s).bind fun ds s => R.of ((mthD m x.d ds).map .val) s
  | .isi a ts, s => (ev C a s).bind fun x s => if typed x.d then .ok (.val (.bl (ts.any (isTy x.d)))) s else .bad
  | .comp tg it c e, s => (evI C true it s).bind fun ds s1 =>
      if noOwn tg.slots s1.env then
        match compL tg.slots tg (evT C c) (fun s => (ev C e s).bind fun tv s => R.of (share tv) s) ds ⟨wipe tg.slots s1.env, s1.hd⟩ with
        | .ok r s2 => .ok (.own (.lst r)) ⟨restore tg.slots s1.env s2.env, s2.hd⟩
        | _ => .bad
      else .bad
  | .lam k e, s => match ev C e s with
      | .ok tv s' => match C.ret k with | none => .ok tv s' | some x => .ok (.val (.str x)) s'
      | .exc x s' => match x.d with | none => R.of ((C.word k x.c).map fun x => .val (.str x)) s' | some _ => .bad
      | .bad => .bad
  | _, _ => .bad
/-- a list of things, each shared -/
def evs (C : Cn) : E → Sta → R (List D)
  | .nil, s => .ok [] s
  | .cons a b, s => (ev C a s).bind fun x s => (R.of (share x) s).bind fun d s => (evs C b s).bind fun ds s => .ok (d :: ds) s
  | _, _ => .bad
/-- a list of things, only looked at -/
def evp (C : Cn) : E → Sta → R (List D)
  | .nil, s => .ok [] s
  | .cons a b, s => (ev C a s).bind fun x s => (evp C b s).bind fun ds s => .ok (x.d :: ds) s
  | _, _ => .bad
/-- a test -/
def evT (C : Cn) : E → Sta → R Bool
  | .nil, s => .ok true s
  | .not a, s => (evT C a s).bind fun b s => .ok (!b) s
  | .and a b, s => (evT C a s).bind fun t s => if t then evT C b s else .ok false s
  | .or a b, s => (evT C a s).bind fun t s => if t then .ok true s else evT C b s
  | .tv e, s => (ev C e s).bind fun x s => R.of (truth x.d) s
  | _, _ => .bad
/-- a part of a slice -/
def evO (C : Cn) : E → Sta → R (Option Int)
  | .nil, s => .ok none s
  | .tv e, s => (ev C e s).bind fun x s => match x with | .val (.int i) => .ok (some i) s | _ => .bad
  | _, _ => .bad
/-- what is walked: its items -/
def evI (C : Cn) (pk : Bool) : E → Sta → R (List D)
  | .rng a, s => (evs C a s).bind fun ds s => R.of (rngD ds) s
  | .zip a, s => (evs C a s).bind fun ds s => R.of (zipD ds) s
  | .enm a, s => (evI C pk a s).bind fun ds s => .ok (enm 0 ds) s
  | .itm a, s => (ev C a s).bind fun x s => (R.of (share x) s).bind fun d s => match d with | .dic ks vs => .ok (zip2 ks vs) s | _ => .bad
  | .tv e, s => (ev C e s).bind fun x s => match x with | .brw (.dic _ _) => .bad | .brw d => if pk then R.of (items d) s else .bad | x => R.of (items x.d) s
  | _, _ => .bad
end

/-! ### statements -/
def SR.bind (r : SR) (f : Sta → SR) : SR :=
  match r with
  | .nx s => f s
  | .rt v s => .rt v s
  | .exc x s => .exc x s
  | .bad => .bad
def R.toS {α : Type} (r : R α) (f : α → Sta → SR) : SR :=
  match r with
  | .ok a s => f a s
  | .exc x s => .exc x s
  | .bad => .bad
def SR.of (o : Option Sta) : SR :=
  match o with
  | some s => .nx s
  | none => .bad
/-- a value into a slot -/
def putV (i : Nat) (x : TV) (s : Sta) : Option Sta :=
  match x with
  | .val d => some (s.set i (.val d))
  | .own d => some (s.set i (.own d))
  | .brw _ => none
/-- a place of a slot's own thing, or of the hand -/
def putIx (i : Nat) (k d : D) (s : Sta) : Option Sta :=
  match s.env.getD i .un, k with
  | .own (.lst ds), .int j => (place ds.length j).map fun m => s.set i (.own (.lst (ds.set m d)))
  | .own (.dic ks vs), k => if k.key && decide (ks.length < big) then let r := dput ks vs k d; some (s.set i (.own (.dic r.1 r.2))) else none
  | .val .hnd, .int j => s.hd.bind fun ds => (place ds.length j).map fun m => ⟨s.env, some (ds.set m d)⟩
  | _, _ => none
def Sta.has (s : Sta) (i : Nat) : Bool :=
  match s.env.getD i .un with
  | .un => false
  | _ => true
def getIx (i : Nat) (k : D) (s : Sta) : Option D :=
  match s.env.getD i .un with
  | .own d => idxD s.hd d k
  | .val d => idxD s.hd d k
  | .un => none
def augD : Bop → D → D → Option D
  | .add, .int i, .int j => some (.int (i + j))
  | .sub, .int i, .int j => some (.int (i - j))
  | _, _, _ => none
/-- the things of a parallel store's right side -/
def evR (C : Cn) : E → Sta → R (List TV)
  | .nil, s => .ok [] s
  | .cons a b, s => (ev C a s).bind fun x s => (evR C b s).bind fun xs s => .ok (x :: xs) s
  | _, _ => .bad
def putX (C : Cn) : List Tx → List TV → Sta → SR
  | [], [], s => .nx s
  | .nm i :: ts, x :: xs, s => (SR.of (putV i x s)).bind fun s => putX C ts xs s
  | .ix i k :: ts, x :: xs, s => (ev C k s).toS fun k s => match k, share x with
      | .val k, some d => (SR.of (putIx i k d s)).bind fun s => putX C ts xs s
      | _, _ => .bad
  | _, _, _ => .bad
def forL (tg : Tg) (b : Sta → SR) : List D → Sta → SR
  | [], s => .nx s
  | d :: ds, s =>
    match bindT tg d s.env with
    | none => .bad
    | some env => (b ⟨env, s.hd⟩).bind fun s => forL tg b ds s
def whL (c : Sta → R Bool) (b : Sta → SR) : Nat → Sta → SR
  | 0, _ => .bad
  | n + 1, s => (c s).toS fun t s => if t then (b s).bind fun s => whL c b n s else .nx s
def fuel : Nat := 1000000000
def exApp (C : Cn) (i : Nat) (e : E) (s : Sta) : SR :=
  match s.env.getD i .un with
  | .own (.lst _) => ((ev C e s).bind fun x s => R.of (share x) s).toS fun d s => match s.env.getD i .un with
    | .own (.lst ds) => if ds.length < big then .nx (s.set i (.own (.lst (ds ++ [d])))) else .bad
    | _ => .bad
  | _ => .bad
def ex (C : Cn) : S → Sta → SR
  | .skip, s => .nx s
  | .seq a b, s => (ex C a s).bind fun s => ex C b s
  | .set i e, s => (ev C e s).toS fun x s => SR.of (putV i x s)
  | .unp t e, s => ((ev C e s).bind fun x s => R.of (share x) s).toS fun d s => SR.of ((bindT t d s.env).map fun env => ⟨env, s.hd⟩)
  | .par ts es, s => (evR C es s).toS fun xs s => putX C ts xs s
  | .six i k e, s => ((ev C e s).bind fun x s => R.of (share x) s).toS fun d s => if s.has i then (ev C k s).toS fun k s => SR.of (putIx i k.d d s) else .bad
  | .aug i o e, s => match s.env.getD i .un with
      | .val a => (ev C e s).toS fun x s => SR.of ((augD o a x.d).map fun d => s.set i (.val d))
      | _ => .bad
  | .augx i k o e, s => if s.has i then (ev C k s).toS fun k s => match getIx i k.d s with
      | some a => (ev C e s).toS fun x s => match augD o a x.d with
        | some d => SR.of (putIx i k.d d s)
        | none => .bad
      | none => .bad
      else .bad
  | .app i e, s => exApp C i e s
  | .ext i e, s => (ev C e s).toS fun x s => match s.env.getD i .un, x.d with
      | .own (.lst ds), .lst es => if ds.length + es.length ≤ big then .nx (s.set i (.own (.lst (ds ++ es)))) else .bad
      | _, _ => .bad
  | .upd i e, s => (ev C e s).toS fun x s => match s.env.getD i .un, x.d with
      | .own (.dic ks vs), .dic ms ws => if ks.length + ms.length ≤ big then let r := dputs ks vs ms ws; .nx (s.set i (.own (.dic r.1 r.2))) else .bad
      | _, _ => .bad
  | .popu t i, s => match s.env.getD i .un with
      | .own (.lst ds) => match ds.getLast? with
          | some d => SR.of ((bindT t d (s.env.set i (.own (.lst ds.dropLast)))).map fun env => ⟨env, s.hd⟩)
          | none => .bad
      | _ => .bad
  | .appop i j e, s => (ev C e s).toS fun x s => match s.env.getD i .un, s.env.getD j .un, x with
      | .own (.lst as), .own (.lst bs), .val (.int k) => match place bs.length k with
          | some m => match bs[m]? with
              | some d => if as.length < big ∧ i ≠ j then .nx ((s.set j (.own (.lst (bs.eraseIdx m)))).set i (.own (.lst (as ++ [d])))) else .bad
              | none => .bad
          | none => .bad
      | _, _, _ => .bad
  | .ex e, s => (ev C e s).toS fun _ s => .nx s
  | .ret e, s => (ev C e s).toS fun x s => match x with | .brw _ => .bad | x => .rt x s
  | .ife c a b, s => (evT C c s).toS fun t s => if t then ex C a s else ex C b s
  | .fo tg it b, s => (evI C false it s).toS fun ds s => forL tg (ex C b) ds s
  | .wh c b, s => whL (evT C c) (ex C b) fuel s
  | .rse x e, s => match e with
      | .nil => .exc ⟨x, none⟩ s
      | e => ((ev C e s).bind fun x s => R.of (share x) s).toS fun d s => .exc ⟨x, some d⟩ s
  | .mkh i e, s => (ev C e s).toS fun x s => match x, s.hd with
      | .own (.lst ds), none => .nx ⟨s.env.set i (.val .hnd), some ds⟩
      | _, _ => .bad

/-! ### defs -/
def start (fn : Fn) (ds : List D) : List Slot := ds.map .val ++ List.replicate (fn.ns - fn.np) .un
def endC (r : SR) : CR :=
  match r with
  | .nx s => .ok (.val .non) s.hd
  | .rt (.brw _) _ => .bad
  | .rt v s => .ok v s.hd
  | .exc x s => .exc x s.hd
  | .bad => .bad
structure Tab where
  fns : List Fn
  ret : Nat → Option Str
  word : Nat → Nat → Option Str
def callN (T : Tab) : Nat → Nat → List D → Option (List D) → CR
  | 0, _, _, _ => .bad
  | n + 1, f, ds, hd =>
    match T.fns[f]? with
    | none => .bad
    | some fn => if ds.length = fn.np then endC (ex ⟨callN T n, T.ret, T.word⟩ fn.body ⟨start fn ds, hd⟩) else .bad
end Pf

/-! Pf, part 2: from a def's text to the small tree. -/
namespace Pf
open PySem L2

/-- what a def's text is read with: its slots' names, the scope, the text's defs, constants, error classes, catchers -/
structure Gm where
  N : List Str
  sc : Scope
  fs : List Str
  ks : List (Str × D)
  xs : List Str
  cs : List Str
  /-- how many parameters a def has -/
  ar : List Nat
  /-- a block's own scope -/
  own : Option Scope
  /-- may a lambda be made here -/
  lm : Bool

def idxOf (x : Str) : List Str → Option Nat
  | [] => none
  | y :: ys => if y == x then some 0 else (idxOf x ys).map (· + 1)
/-- the slot of a name that the scope sees -/
def Gm.slot (g : Gm) (x : Str) : Option Nat :=
  match g.sc.names.lookup x with
  | some .local => idxOf x g.N
  | some .cell => idxOf x g.N
  | some .free => idxOf x g.N
  | _ => none
/-- .. of a name that may be stored -/
def Gm.slotL (g : Gm) (x : Str) : Option Nat :=
  match g.sc.names.lookup x with
  | some .local => idxOf x g.N
  | some .cell => idxOf x g.N
  | _ => none
def Gm.gl (g : Gm) (x : Str) : Bool := g.sc.names.lookup x == some .globalImplicit
/-- the built-ins that are known -/
def btNames : List Str := ["isinstance", "int", "bool", "str", "tuple", "list", "dict", "len", "abs", "min", "max", "repr", "all", "any", "sum", "sorted", "set", "range", "zip", "enumerate"]
/-- a built-in's name -/
def Gm.btn (g : Gm) (x : Str) : Bool := btNames.contains x && !(g.fs.contains x || g.xs.contains x || g.cs.contains x || (g.ks.map (·.1)).contains x)
def Gm.bt (g : Gm) (x : Str) : Bool := g.gl x && g.btn x

def cBop : Operator → Option Bop
  | .Add => some .add | .Sub => some .sub | .Mult => some .mul | .FloorDiv => some .fdiv | .Mod => some .mod | .Pow => some .pow | .LShift => some .shl
  | _ => none
def cCop : CmpOp → Cop
  | .Eq => .eq | .NotEq => .ne | .Lt => .lt | .LtE => .le | .Gt => .gt | .GtE => .ge | .Is => .is | .IsNot => .isN | .In => .mem | .NotIn => .memN
def cTy (g : Gm) (x : Str) : Option Ty :=
  if !g.bt x then none
  else if x == "int" then some .int else if x == "bool" then some .bool else if x == "str" then some .str
  else if x == "tuple" then some .tup else if x == "list" then some .lst else if x == "dict" then some .dic else none
def cTys (g : Gm) : List Expr → Option (List Ty)
  | [] => some []
  | .Name x _ :: es => (cTy g x).bind fun t => (cTys g es).map (t :: ·)
  | _ => none
def cBlt (x : Str) (n : Nat) : Option Blt :=
  if x == "len" && n == 1 then some .len else if x == "abs" && n == 1 then some .abs else if x == "int" && n == 1 then some .int
  else if x == "min" && n == 2 then some .min2 else if x == "max" && n == 2 then some .max2 else if x == "repr" && n == 1 then some .repr else none
def cBli (x : Str) : Option Bli :=
  if x == "all" then some .all else if x == "any" then some .any else if x == "sum" then some .sum else if x == "min" then some .min
  else if x == "max" then some .max else if x == "tuple" then some .tup else if x == "list" then some .lst else if x == "sorted" then some .srt
  else if x == "dict" then some .dic else none
def cMth (x : Str) : Option Mth :=
  if x == "count" then some .cnt else if x == "index" then some .idx else if x == "get" then some .get else none
mutual
def cTg : Nat → Gm → Expr → Option Tg
  | 0, _, _ => none
  | _ + 1, g, .Name x _ => (g.slotL x).map .nm
  | n + 1, g, .Tuple es _ _ => (cTgs n g es).map .tp
  | _, _, _ => none
def cTgs : Nat → Gm → List Expr → Option Tg
  | 0, _, _ => none
  | _ + 1, _, [] => some .nil
  | n + 1, g, e :: es => (cTg n g e).bind fun t => (cTgs n g es).map (.cons t)
end
/-- the names that a target stores, with their slots -/
def tgOwn (g : Gm) : Nat → Expr → List (Str × Nat)
  | 0, _ => []
  | _ + 1, .Name x _ => match g.slotL x with | some i => [(x, i)] | none => []
  | n + 1, .Tuple es _ _ => es.flatMap fun e => tgOwn g n e
  | _, _ => []
/-- a comprehension's scope as its block sees it -/
def Gm.blk (g : Gm) (scope : Scope) : Gm := { g with sc := relS scope g.sc, own := some scope, lm := false }
/-- .. a lambda's body -/
def Gm.lam (g : Gm) (scope : Scope) : Gm := { g with sc := scope, own := some { scope with names := [] }, lm := false }
def isNone : Expr → Bool
  | .Constant .none _ _ => true
  | _ => false
mutual
/-- an expression; `pk`: only looked at -/
def cE : Nat → Gm → Bool → Expr → Option E
  | 0, _, _, _ => none
  | _ + 1, _, _, .Constant (.int i) _ _ => some (.c (.int i))
  | _ + 1, _, _, .Constant (.bool b) _ _ => some (.c (.bl b))
  | _ + 1, _, _, .Constant .none _ _ => some (.c .non)
  | _ + 1, _, _, .Constant (.str s) _ _ => some (.c (.str s))
  | _ + 1, g, pk, .Name x _ =>
    match g.slot x with
    | some i => some (if pk then .p i else .v i)
    | none => if g.gl x then (match g.ks.lookup x with
      | some d => some (.c d)
      | none => (idxOf x g.fs).map fun f => .c (.fn f)) else none
  | n + 1, g, _, .Tuple es _ _ => if es.length ≤ 1000 then (cL n g es).map .tup else none
  | n + 1, g, _, .List es _ => if es.length ≤ 1000 then (cL n g es).map .lst else none
  | n + 1, g, _, .Dict ks vs _ => if ks.length ≤ 15 then (cD n g ks vs).map .dct else none
  | n + 1, g, _, .BinOp a o b _ => (cBop o).bind fun o => (cE n g true a).bind fun a => (cE n g true b).map (.bin o a)
  | n + 1, g, _, .UnaryOp .USub a _ => (cE n g true a).map .neg
  | n + 1, g, _, .UnaryOp .Not a _ => (cE n g true a).map fun a => .not (.tv a)
  | n + 1, g, _, .BoolOp o es _ => cB n g o es
  | n + 1, g, _, .Compare a [o] [b] _ => (cE n g true a).bind fun a => (cE n g true b).map (.cmp (cCop o) a)
  | n + 1, g, _, .Compare a [o, o'] [b, c] _ => (cE n g true a).bind fun a => (cE n g true b).bind fun b => (cE n g true c).map (.cmp2 (cCop o) (cCop o') a b)
  | n + 1, g, _, .IfExp c a b _ => (cT n g c).bind fun c => (cE n g false a).bind fun a => (cE n g false b).map (.ite c a)
  | n + 1, g, _, .Subscript a (.Slice none none (some (.UnaryOp .USub (.Constant (.int 1) _ _) _)) _) _ => (cE n g true a).map .rev
  | n + 1, g, _, .Subscript a (.Slice lo hi none _) _ => (cE n g true a).bind fun a => (cO n g lo).bind fun l => (cO n g hi).map (.slc a l)
  | n + 1, g, _, .Subscript a i _ => (cE n g true a).bind fun a => (cE n g true i).map (.idx a)
  | n + 1, g, _, .Call (.Name x _) as [] _ =>
    match g.slot x with
    | some i => (cL n g as).map (.callv i)
    | none => if !g.gl x then none else
      match idxOf x g.cs, as with
      | some k, [.Lambda _ body scope _] => (cE n (g.lam scope) false body).map (.lam k)
      | some _, _ => none
      | none, _ => match idxOf x g.fs with
        | some f => (cL n g as).map (.call f)
        | none => if !g.bt x then none else if x == "isinstance" then (match as with
            | [a, .Name t _] => (cE n g true a).bind fun a => (cTy g t).map fun t => .isi a [t]
            | [a, .Tuple ts _ _] => (cE n g true a).bind fun a => (cTys g ts).map fun ts => .isi a ts
            | _ => none)
          else match cBlt x as.length with
            | some b => (cLp n g as).map (.blt b)
            | none => (cBli x).bind fun b => match as with
              | [.Call (.Name y _) bs [] _] =>
                if g.bt y && y == "range" then (if b == .lst || b == .tup then (cL n g bs).map (.blr b) else none)
                else if b == .srt && g.bt y && y == "set" then (match bs with | [a] => (cQ n g a).map (.bli .srtset) | _ => none)
                else (cLp n g as).bind fun a => match a with | .cons a .nil => some (.bli b a) | _ => none
              | [a] => (cQ n g a).map (.bli b)
              | _ => none
  | n + 1, g, _, .Call (.Attribute o m _) as [] _ => (cMth m).bind fun m => (cE n g true o).bind fun o => (cL n g as).map (.mth m o)
  | n + 1, g, _, .ListComp e [⟨tg, it, ifs, 0⟩] scope _ =>
    if blkC g.N g.sc scope (tgOwn (g.blk scope) n tg) then
      (cTg n (g.blk scope) tg).bind fun t => (cI n g true it).bind fun i => (cIf n (g.blk scope) ifs).bind fun c => (cE n (g.blk scope) false e).map (.comp t i c)
    else none
  | _, _, _, _ => none
def cL : Nat → Gm → List Expr → Option E
  | 0, _, _ => none
  | _ + 1, _, [] => some .nil
  | n + 1, g, e :: es => (cE n g false e).bind fun e => (cL n g es).map (.cons e)
def cLp : Nat → Gm → List Expr → Option E
  | 0, _, _ => none
  | _ + 1, _, [] => some .nil
  | n + 1, g, e :: es => (cE n g true e).bind fun e => (cLp n g es).map (.cons e)
def cD : Nat → Gm → List (Option Expr) → List Expr → Option E
  | 0, _, _, _ => none
  | _ + 1, _, [], [] => some .nil
  | n + 1, g, some k :: ks, v :: vs => (cE n g false k).bind fun k => (cE n g false v).bind fun v => (cD n g ks vs).map fun r => .cons k (.cons v r)
  | _, _, _, _ => none
/-- a thing that a built-in walks -/
def cQ : Nat → Gm → Expr → Option E
  | 0, _, _ => none
  | n + 1, g, .Name x p => match g.slot x with
    | some i => some (.q i)
    | none => cE n g true (.Name x p)
  | n + 1, g, e => cE n g true e
/-- a and b and ..; a or b or .. as a value -/
def cB : Nat → Gm → BoolOp → List Expr → Option E
  | 0, _, _, _ => none
  | n + 1, g, _, [a] => cE n g false a
  | n + 1, g, .And, a :: es => (cE n g false a).bind fun a => (cB n g .And es).map (.and a)
  | n + 1, g, .Or, a :: es => (cE n g false a).bind fun a => (cB n g .Or es).map (.or a)
  | _, _, _, _ => none
/-- a test -/
def cT : Nat → Gm → Expr → Option E
  | 0, _, _ => none
  | n + 1, g, .UnaryOp .Not a _ => (cT n g a).map .not
  | n + 1, g, .BoolOp o es _ => cTB n g o es
  | n + 1, g, e => (cE n g true e).map .tv
def cTB : Nat → Gm → BoolOp → List Expr → Option E
  | 0, _, _, _ => none
  | n + 1, g, _, [a] => cT n g a
  | n + 1, g, .And, a :: es => (cT n g a).bind fun a => (cTB n g .And es).map (.and a)
  | n + 1, g, .Or, a :: es => (cT n g a).bind fun a => (cTB n g .Or es).map (.or a)
  | _, _, _, _ => none
def cIf : Nat → Gm → List Expr → Option E
  | 0, _, _ => none
  | _ + 1, _, [] => some .nil
  | n + 1, g, [c] => cT n g c
  | _, _, _ => none
/-- a slice's part -/
def cO : Nat → Gm → Option Expr → Option E
  | 0, _, _ => none
  | _ + 1, _, none => some .nil
  | n + 1, g, some e => (cE n g true e).map .tv
/-- what is walked; `pk`: it stands while it is walked (a comprehension, a built-in) -/
def cI : Nat → Gm → Bool → Expr → Option E
  | 0, _, _, _ => none
  | n + 1, g, pk, .Call (.Name x p) as [] q =>
    if g.bt x && x == "range" then (cL n g as).map .rng
    else if g.bt x && x == "zip" then (cL n g as).map .zip
    else if g.bt x && x == "enumerate" then (match as with
      | [.Call (.Name y _) bs [] _] => if g.bt y && y == "zip" then (cL n g bs).map fun b => .enm (.zip b) else (match as with | [a] => (cE n g false a).map fun a => .enm (.tv a) | _ => none)
      | [a] => (cE n g false a).map fun a => .enm (.tv a)
      | _ => none)
    else (cE n g pk (.Call (.Name x p) as [] q)).map .tv
  | n + 1, g, pk, .Call (.Attribute o m p) as [] q =>
    if m == "items" && as.isEmpty then (cE n g false o).map .itm else (cE n g pk (.Call (.Attribute o m p) as [] q)).map .tv
  | n + 1, g, pk, .Name x p => match g.slot x with
    | some i => some (.tv (if pk then .q i else .v i))
    | none => (cE n g pk (.Name x p)).map .tv
  | n + 1, g, pk, e => (cE n g pk e).map .tv
end
/-- one target of a parallel store -/
def cTx (n : Nat) (g : Gm) : Expr → Option Tx
  | .Name x _ => (g.slotL x).map .nm
  | .Subscript (.Name x _) k _ => (g.slot x).bind fun i => (cE n g true k).map (.ix i)
  | _ => none
def cTxs (n : Nat) (g : Gm) : List Expr → Option (List Tx)
  | [] => some []
  | e :: es => (cTx n g e).bind fun t => (cTxs n g es).map (t :: ·)
def xIdx (g : Gm) (x : Str) : Option Nat := if g.gl x then idxOf x g.xs else none
mutual
def cS : Nat → Gm → Stmt → Option S
  | 0, _, _ => none
  | _ + 1, _, .Pass _ => some .skip
  | n + 1, g, .Assign [.Name x _] (.Call (.Name f p) as [] q) _ =>
    (g.slotL x).bind fun i => (cE n g false (.Call (.Name f p) as [] q)).map fun e => if x == "hand" && f == "_law_hand" then .mkh i e else .set i e
  | n + 1, g, .Assign [t] (.Call (.Attribute (.Name x _) m _) as [] q) _ =>
    if m == "pop" && as.isEmpty then (g.slot x).bind fun i => (cTg n g t).map fun t => .popu t i
    else match t with
      | .Name y _ => (g.slotL y).bind fun i => (cE n g false (.Call (.Attribute (.Name x q) m q) as [] q)).map (.set i)
      | _ => (cTg n g t).bind fun t => (cE n g false (.Call (.Attribute (.Name x q) m q) as [] q)).map (.unp t)
  | n + 1, g, .Assign [.Name x _] e _ => (g.slotL x).bind fun i => (cE n g false e).map (.set i)
  | n + 1, g, .Assign [.Tuple ts _ _] (.Tuple es k q) _ =>
    if (ts.length == 2 || ts.length == 3) && ts.length == es.length && ts.all (fun | .Name x _ => g.sc.names.lookup x == some .local | _ => false) then (cTxs n g ts).bind fun txs => (cL n g es).map (.par txs)
    else (cTgs n g ts).bind fun t => (cE n g false (.Tuple es k q)).map (.unp (.tp t))
  | n + 1, g, .Assign [.Tuple ts k p] e _ => (cTg n g (.Tuple ts k p)).bind fun t => (cE n g false e).map (.unp t)
  | n + 1, g, .Assign [.Subscript (.Name x _) k _] e _ => (g.slot x).bind fun i => (cE n g true k).bind fun k => (cE n g false e).map (.six i k)
  | n + 1, g, .AugAssign (.Name x _) o e _ => (g.slotL x).bind fun i => (cBop o).bind fun o => (cE n g true e).map (.aug i o)
  | n + 1, g, .AugAssign (.Subscript (.Name x _) k _) o e _ => (g.slot x).bind fun i => (cBop o).bind fun o => (cE n g true k).bind fun k => (cE n g true e).map (.augx i k o)
  | n + 1, g, .Expr (.Call (.Attribute (.Name x p) m a) as [] q) _ =>
    if m == "append" then (match as with
      | [.Call (.Attribute (.Name y _) m' _) [k] [] _] => if m' == "pop" then (g.slot x).bind fun i => (g.slot y).bind fun j => (cE n g true k).map (.appop i j)
          else (g.slot x).bind fun i => (cL n g as).bind fun e => match e with | .cons e .nil => some (.app i e) | _ => none
      | [e] => (g.slot x).bind fun i => (cE n g false e).map (.app i)
      | _ => none)
    else if m == "extend" then (match as with
      | [e] => (g.slot x).bind fun i => (cE n g true e).map (.ext i)
      | _ => none)
    else if m == "update" then (match as with
      | [e] => (g.slot x).bind fun i => (cE n g true e).map (.upd i)
      | _ => none)
    else (cE n g true (.Call (.Attribute (.Name x p) m a) as [] q)).map .ex
  | n + 1, g, .Expr e _ => (cE n g true e).map .ex
  | n + 1, g, .Return (some e) _ => (cE n g false e).map .ret
  | _ + 1, _, .Return none _ => some (.ret (.c .non))
  | n + 1, g, .If c a b _ => (cT n g c).bind fun c => (cBk n g a).bind fun a => (cBk n g b).map (.ife c a)
  | n + 1, g, .For t it b [] _ => (cTg n g t).bind fun t => (cI n g false it).bind fun it => (cBk n g b).map (.fo t it)
  | n + 1, g, .While c b [] _ => (cT n g c).bind fun c => (cBk n g b).map (.wh c)
  | _ + 1, g, .Raise (some (.Call (.Name x _) [] [] _)) none _ => (xIdx g x).map fun k => .rse k .nil
  | n + 1, g, .Raise (some (.Call (.Name x _) [e] [] _)) none _ => (xIdx g x).bind fun k => (cE n g false e).map (.rse k)
  | _, _, _ => none
def cBk : Nat → Gm → List Stmt → Option S
  | 0, _, _ => none
  | _ + 1, _, [] => some .skip
  | n + 1, g, s :: ss => (cS n g s).bind fun s => (cBk n g ss).map (.seq s)
end
/-- a def: its slots, parameters first, its body -/
def dedupN : List Str → List Str
  | [] => []
  | x :: xs => x :: (dedupN xs).filter (· != x)
mutual
/-- the scopes of the comprehensions and lambdas of an expression, as far as their own names go -/
def ownE : Nat → Expr → List Str
  | 0, _ => []
  | n + 1, .ListComp e gs sc _ => (sc.names.filterMap fun (x, k) => if k == .local || k == .cell then (if x == ".0" then none else some x) else none) ++ ownE n e ++ gs.flatMap fun | ⟨_, it, ifs, _⟩ => ownE n it ++ ifs.flatMap fun c => ownE n c
  | n + 1, .DictComp k e gs sc _ => (sc.names.filterMap fun (x, k) => if k == .local || k == .cell then (if x == ".0" then none else some x) else none) ++ ownE n e ++ ownE n k ++ gs.flatMap fun | ⟨_, it, ifs, _⟩ => ownE n it ++ ifs.flatMap fun c => ownE n c
  | n + 1, .Lambda _ b _ _ => ownE n b
  | n + 1, .BoolOp _ es _ => ownEs n es
  | n + 1, .BinOp a _ b _ => ownE n a ++ ownE n b
  | n + 1, .UnaryOp _ a _ => ownE n a
  | n + 1, .IfExp a b c _ => ownE n a ++ ownE n b ++ ownE n c
  | n + 1, .Dict ks vs _ => ownEs n (ks.filterMap id) ++ ownEs n vs
  | n + 1, .Compare a _ bs _ => ownE n a ++ ownEs n bs
  | n + 1, .Call f as _ _ => ownE n f ++ ownEs n as
  | n + 1, .Attribute a _ _ => ownE n a
  | n + 1, .Subscript a b _ => ownE n a ++ ownE n b
  | n + 1, .List es _ => ownEs n es
  | n + 1, .Tuple es _ _ => ownEs n es
  | n + 1, .Slice a b c _ => ownEs n ([a, b, c].filterMap id)
  | _, _ => []
def ownEs : Nat → List Expr → List Str
  | 0, _ => []
  | _ + 1, [] => []
  | n + 1, e :: es => ownE n e ++ ownEs n es
def ownS : Nat → Stmt → List Str
  | 0, _ => []
  | n + 1, .Assign ts e _ => ownEs n ts ++ ownE n e
  | n + 1, .AugAssign t _ e _ => ownE n t ++ ownE n e
  | n + 1, .Return (some e) _ => ownE n e
  | n + 1, .Expr e _ => ownE n e
  | n + 1, .If c a b _ => ownE n c ++ ownSs n a ++ ownSs n b
  | n + 1, .For t it b _ _ => ownE n t ++ ownE n it ++ ownSs n b
  | n + 1, .While c b _ _ => ownE n c ++ ownSs n b
  | n + 1, .Raise (some e) _ _ => ownE n e
  | _, _ => []
def ownSs : Nat → List Stmt → List Str
  | 0, _ => []
  | _ + 1, [] => []
  | n + 1, s :: ss => ownS n s ++ ownSs n ss
end
def params (s : Stmt) : List Str := (defArgs s).args.map (·.arg)
def slotsOf (s : Stmt) : List Str :=
  dedupN (params s ++ ((defScope s).names.filterMap fun (x, k) => if k == .local || k == .cell then some x else none) ++ ownSs 200 (defBody s))
def cFn (fs : List Str) (ks : List (Str × D)) (xs cs : List Str) (s : Stmt) : Option Fn :=
  let N := slotsOf s
  (cBk 200 ⟨N, defScope s, fs, ks, xs, cs, [], none, true⟩ (defBody s)).map fun b => ⟨(params s).length, N.length, b⟩
end Pf

/-! Pf, part 3: when a value of the machine is data, when a state of the machine is a state of the small tree. -/
namespace Pf
open PySem PySem.Spec PyProof.Rows L2

/-- where the text's defs and classes stand; the tables of code objects -/
structure Wd where
  K : PySem.W.Frag
  fad : Nat → Option Addr
  cad : Nat → Addr
  T : List (Addr × Str)
/-- what is known beside the heap: the hand's address, the part of the heap that is never written again -/
structure Gh where
  a : Option Addr
  F : Hp
structure Gle (g g' : Gh) : Prop where
  a : g.a = none ∨ g'.a = g.a
  F : Same g.F g'.F
theorem Gle.refl (g : Gh) : Gle g g := ⟨.inr rfl, Same.refl _⟩
theorem Gle.trans {g g1 g2 : Gh} (x : Gle g g1) (y : Gle g1 g2) : Gle g g2 := by
  refine ⟨?_, x.F.trans y.F⟩
  rcases x.a with h | h
  · exact .inl h
  · rcases y.a with k | k
    · exact .inl (h ▸ k)
    · exact .inr (k.trans h)
theorem Gle.at {g g' : Gh} (x : Gle g g') {a : Addr} (h : g.a = some a) : g'.a = some a := by
  rcases x.a with k | k
  · rw [h] at k; cases k
  · rw [k, h]

/-! ### dicts: the keys -/
def KeyR : D → Key → Prop
  | .int i, k => k = .inl i
  | .str s, k => k = .inr s
  | _, _ => False
def KeyL : List D → List Key → Prop
  | [], ks => ks = []
  | d :: ds, ks => ∃ k r, ks = k :: r ∧ KeyR d k ∧ KeyL ds r
def KeyT : D → List Key → Prop
  | .tup ds, k => ds.length ≤ big ∧ KeyL ds k
  | _, _ => False
def KeyTs : List D → List (List Key) → Prop
  | [], ks => ks = []
  | d :: ds, ks => ∃ k r, ks = k :: r ∧ KeyT d k ∧ KeyTs ds r
/-- the dict u has the keys ks and the values ws -/
def DicS (ks : List D) (ws : List V) (u : HO) : Prop :=
  (∃ kvs : List (Key × V), u = .dK kvs ∧ KeyL ks (kvs.map (·.1)) ∧ ws = kvs.map (·.2)) ∨
    ∃ kvs : List (List Key × V), u = .dT kvs ∧ KeyTs ks (kvs.map (·.1)) ∧ (ws = kvs.map (·.2) ∧ False)

/-! ### data -/
mutual
def Rep (w : Wd) (g : Gh) : D → V → Prop
  | .non, v => v = .non
  | .bl b, v => v = .bl b
  | .int i, v => v = .int i
  | .str s, v => v = .str s
  | .tup ds, v => ∃ a vs, v = .ref a ∧ SqT w.K g.F a vs ∧ ds.length ≤ big ∧ Reps w g ds vs
  | .lst ds, v => ∃ a vs, v = .ref a ∧ g.F a = some (.lst vs) ∧ ds.length ≤ big ∧ Reps w g ds vs
  | .dic ks ds, v => ∃ a od u ws, v = .ref a ∧ g.F a = some (.frz od u) ∧ DicS ks ws u ∧ ks.length ≤ big ∧ Reps w g ds ws
  | .fn f, v => ∃ a, w.fad f = some a ∧ v = .ref a
  | .hnd, v => ∃ a, g.a = some a ∧ v = .ref a
  | .scr ds, v => ∃ a vs, v = .ref a ∧ SqL w.K g.F a vs ∧ ds.length ≤ big ∧ Reps w g ds vs
def Reps (w : Wd) (g : Gh) : List D → List V → Prop
  | [], vs => vs = []
  | d :: ds, vs => ∃ v r, vs = v :: r ∧ Rep w g d v ∧ Reps w g ds r
end
theorem SqT.same {K : PySem.W.Frag} {H H' : Hp} {a : Addr} {xs : List V} (e : Same H H') (h : SqT K H a xs) : SqT K H' a xs := by
  rcases h with h | h
  · rcases h with h | ⟨o, h⟩
    · exact .inl (.inl (e _ _ h))
    · exact (.inl (.inr ⟨o, e _ _ h⟩))
  · exact .inr h
section
variable {w : Wd} {g g' : Gh} {H H' : Hp}
mutual
theorem Rep.mono (x : Gle g g') : ∀ {d : D} {v : V}, Rep w g d v → Rep w g' d v
  | .non, _, h => h
  | .bl _, _, h => h
  | .int _, _, h => h
  | .str _, _, h => h
  | .tup ds, _, ⟨a, vs, e, h, hl, r⟩ => ⟨a, vs, e, SqT.same x.F h, hl, Reps.mono x r⟩
  | .lst ds, _, ⟨a, vs, e, h, hl, r⟩ => ⟨a, vs, e, x.F _ _ h, hl, Reps.mono x r⟩
  | .scr ds, _, ⟨a, vs, e, h, hl, r⟩ => ⟨a, vs, e, x.F.seq h, hl, Reps.mono x r⟩
  | .dic ks ds, _, ⟨a, od, u, ws, e, h, k, hl, r⟩ => ⟨a, od, u, ws, e, x.F _ _ h, k, hl, Reps.mono x r⟩
  | .fn _, _, h => h
  | .hnd, _, ⟨a, e, h⟩ => ⟨a, x.at e, h⟩
theorem Reps.mono (x : Gle g g') : ∀ {ds : List D} {vs : List V}, Reps w g ds vs → Reps w g' ds vs
  | [], _, h => h
  | _ :: _, _, ⟨v, r, e, h, t⟩ => ⟨v, r, e, Rep.mono x h, Reps.mono x t⟩
end
theorem Reps.length : ∀ {ds : List D} {vs : List V}, Reps w g ds vs → ds.length = vs.length
  | [], vs, h => by rw [show vs = [] from h]; rfl
  | _ :: _, _, ⟨v, r, e, _, t⟩ => by rw [e]; exact congrArg (· + 1) (Reps.length t)
theorem Reps.get : ∀ {ds : List D} {vs : List V}, Reps w g ds vs → ∀ {i : Nat} {d : D}, ds[i]? = some d → ∃ v, vs[i]? = some v ∧ Rep w g d v
  | [], _, _, i, d, e => by simp at e
  | x :: ds, _, ⟨v, r, e, h, t⟩, 0, d, q => by
    cases e
    obtain rfl : x = d := by simpa using q
    exact ⟨v, rfl, h⟩
  | x :: ds, _, ⟨v, r, e, h, t⟩, i + 1, d, q => by
    cases e
    obtain ⟨y, h1, h2⟩ := Reps.get t (i := i) (d := d) (by simpa using q)
    exact ⟨y, by simpa using h1, h2⟩
theorem Reps.getV : ∀ {ds : List D} {vs : List V}, Reps w g ds vs → ∀ {i : Nat} {v : V}, vs[i]? = some v → ∃ d, ds[i]? = some d ∧ Rep w g d v
  | [], vs, h, i, v, e => by rw [show vs = [] from h] at e; simp at e
  | x :: ds, _, ⟨y, r, e, h, t⟩, 0, v, q => by
    cases e
    obtain rfl : y = v := by simpa using q
    exact ⟨x, rfl, h⟩
  | x :: ds, _, ⟨y, r, e, h, t⟩, i + 1, v, q => by
    cases e
    obtain ⟨z, h1, h2⟩ := Reps.getV t (i := i) (v := v) (by simpa using q)
    exact ⟨z, by simpa using h1, h2⟩
theorem Reps.append : ∀ {ds es : List D} {vs us : List V}, Reps w g ds vs → Reps w g es us → Reps w g (ds ++ es) (vs ++ us)
  | [], _, vs, _, h, k => by rw [show vs = [] from h]; exact k
  | _ :: _, _, _, _, ⟨v, r, e, h, t⟩, k => ⟨v, _, by rw [e]; rfl, h, Reps.append t k⟩
theorem Reps.one {d : D} {v : V} (h : Rep w g d v) : Reps w g [d] [v] := ⟨v, [], rfl, h, rfl⟩
theorem Reps.cons {d : D} {v : V} {ds : List D} {vs : List V} (h : Rep w g d v) (t : Reps w g ds vs) : Reps w g (d :: ds) (v :: vs) := ⟨v, vs, rfl, h, t⟩
theorem Reps.drop : ∀ (n : Nat) {ds : List D} {vs : List V}, Reps w g ds vs → Reps w g (ds.drop n) (vs.drop n)
  | 0, _, _, h => h
  | _ + 1, [], vs, h => by rw [show vs = [] from h]; rfl
  | n + 1, _ :: _, _, ⟨v, r, e, _, t⟩ => by rw [e]; exact Reps.drop n t
theorem Reps.take : ∀ (n : Nat) {ds : List D} {vs : List V}, Reps w g ds vs → Reps w g (ds.take n) (vs.take n)
  | 0, _, _, _ => rfl
  | _ + 1, [], vs, h => by rw [show vs = [] from h]; rfl
  | n + 1, _ :: _, _, ⟨v, r, e, h, t⟩ => by rw [e]; exact ⟨v, _, rfl, h, Reps.take n t⟩
theorem Reps.set : ∀ (n : Nat) {ds : List D} {vs : List V} {d : D} {v : V}, Rep w g d v → Reps w g ds vs → Reps w g (ds.set n d) (vs.set n v)
  | _, [], vs, _, _, _, h => by rw [show vs = [] from h]; rfl
  | 0, _ :: _, _, _, _, k, ⟨v, r, e, h, t⟩ => by rw [e]; exact ⟨_, r, rfl, k, t⟩
  | n + 1, _ :: _, _, _, _, k, ⟨v, r, e, h, t⟩ => by rw [e]; exact ⟨v, _, rfl, h, Reps.set n k t⟩
theorem Reps.reverse : ∀ {ds : List D} {vs : List V}, Reps w g ds vs → Reps w g ds.reverse vs.reverse
  | [], vs, h => by rw [show vs = [] from h]; rfl
  | x :: ds, _, ⟨v, r, e, h, t⟩ => by rw [e, List.reverse_cons, List.reverse_cons]; exact (Reps.reverse t).append (Reps.one h)
theorem Reps.eraseIdx : ∀ (n : Nat) {ds : List D} {vs : List V}, Reps w g ds vs → Reps w g (ds.eraseIdx n) (vs.eraseIdx n)
  | _, [], vs, h => by rw [show vs = [] from h]; rfl
  | 0, _ :: _, _, ⟨v, r, e, h, t⟩ => by rw [e]; exact t
  | n + 1, _ :: _, _, ⟨v, r, e, h, t⟩ => by rw [e]; exact ⟨v, _, rfl, h, Reps.eraseIdx n t⟩
theorem Reps.dropLast : ∀ {ds : List D} {vs : List V}, Reps w g ds vs → Reps w g ds.dropLast vs.dropLast := fun {ds vs} h => by
  rw [List.dropLast_eq_take, List.dropLast_eq_take, h.length]; exact h.take _
theorem Reps.rep {ds : List D} {vs : List V} (h : Reps w g ds vs) : ∀ n : Nat, Reps w g (List.replicate n ds).flatten (List.replicate n vs).flatten
  | 0 => rfl
  | n + 1 => by rw [List.replicate_succ, List.replicate_succ, List.flatten_cons, List.flatten_cons]; exact h.append (Reps.rep h n)

/-! ### things of a slot's own; what is only looked at -/
/-- the thing at a is d, and may be written -/
def ObR (w : Wd) (g : Gh) (H : Hp) (a : Addr) : D → Prop
  | .lst ds => ∃ vs, H a = some (.lst vs) ∧ ds.length ≤ big ∧ Reps w g ds vs
  | .dic ks ds => ∃ u ws, H a = some u ∧ DicS ks ws u ∧ ks.length ≤ big ∧ Reps w g ds ws
  | _ => False
/-- the thing at a is d, to be read -/
def ObB (w : Wd) (g : Gh) (H : Hp) (a : Addr) : D → Prop
  | .lst ds => ∃ vs, H a = some (.lst vs) ∧ ds.length ≤ big ∧ Reps w g ds vs
  | .dic ks ds => ∃ u ws, Rd H a u ∧ DicS ks ws u ∧ ks.length ≤ big ∧ Reps w g ds ws
  | _ => False
theorem ObR.b {a : Addr} : ∀ {d : D}, ObR w g H a d → ObB w g H a d
  | .lst _, h => h
  | .dic _ _, ⟨u, ws, h, k⟩ => ⟨u, ws, .inl h, k⟩
  | .non, h | .bl _, h | .int _, h | .str _, h | .tup _, h | .fn _, h | .hnd, h | .scr _, h => h.elim
def isD : HO → Prop
  | .dK _ => True
  | .dT _ => True
  | _ => False
theorem DicS.isD {ks : List D} {ws : List V} {u : HO} (h : DicS ks ws u) : isD u := by
  rcases h with ⟨_, rfl, _⟩ | ⟨_, rfl, _⟩ <;> trivial
theorem isD.mu {u : HO} (h : isD u) : Mut (some u) := by cases u <;> first | trivial | exact h.elim
/-- an object that a slot holds, behind a step of an expression: as it was, or (a dict) locked -/
def Lk (H' : Hp) (a : Addr) (o : HO) : Prop := H' a = some o ∨ ∃ od, H' a = some (.frz od o) ∧ isD o
theorem ObB.keep {a : Addr} (x : Gle g g') (k : ∀ o, H a = some o → (∀ ps, o ≠ .tbl ps) → Lk H' a o ∨ ∃ od u, o = .frz od u ∧ H' a = some o) : ∀ {d : D}, ObB w g H a d → ObB w g' H' a d
  | .lst ds, ⟨vs, h, hl, r⟩ => by
    rcases k _ h (fun _ z => nomatch z) with (k | ⟨od, _, z⟩) | ⟨od, u, e, _⟩
    · exact ⟨vs, k, hl, r.mono x⟩
    · exact z.elim
    · cases e
  | .dic ks ds, ⟨u, ws, h, dk, hl, r⟩ => by
    refine ⟨u, ws, ?_, dk, hl, r.mono x⟩
    have nt : ∀ ps, u ≠ .tbl ps := fun ps z => by have q := dk.isD; rw [z] at q; exact q
    rcases h with h | ⟨od, h⟩
    · rcases k _ h nt with (k | ⟨od, k, _⟩) | ⟨od, u', e, k⟩
      · exact .inl k
      · exact .inr ⟨od, k⟩
      · have q := dk.isD; rw [e] at q; exact q.elim
    · rcases k _ h (fun _ z => nomatch z) with (k | ⟨od, k, z⟩) | ⟨od', u', e, k⟩
      · exact .inr ⟨od, k⟩
      · exact z.elim
      · exact .inr ⟨od, k⟩
  | .non, h | .bl _, h | .int _, h | .str _, h | .tup _, h | .fn _, h | .hnd, h | .scr _, h => h.elim

/-! ### states -/
/-- nothing stands there but, perhaps, a table of code objects -/
def Fre (H : Hp) (b : Addr) : Prop := ∀ o, H b = some o → ∃ ps, o = .tbl ps
theorem Fre.of {H : Hp} {b : Addr} (h : H b = none) : Fre H b := fun o e => by rw [h] at e; cases e
theorem Fre.no {H : Hp} {b : Addr} {o : HO} {P : Prop} (q : Fre H b) (h : H b = some o) (nt : ∀ ps, o ≠ .tbl ps) : P := by
  obtain ⟨ps, e⟩ := q o h
  exact (nt ps e).elim
theorem Fre.mu {H : Hp} {b : Addr} {o : HO} {P : Prop} (q : Fre H b) (h : H b = some o) (m : Mut (some o)) : P := q.no h fun ps e => by rw [e] at m; exact m
theorem Fre.upd {H : Hp} {a b : Addr} {o : HO} (q : Fre (upd H a o) b) (h : Fre H a ∨ ∀ ps, o ≠ .tbl ps) : Fre H b := by
  by_cases hb : b = a
  · subst hb
    rcases h with h | h
    · exact h
    · exact q.no upd_same h
  · intro u hu
    exact q u (by rw [upd_ne hb]; exact hu)
def SlotR (w : Wd) (g : Gh) (H : Hp) : Slot → Option V → Prop
  | .un, _ => True
  | .val d, x => ∃ v, x = some v ∧ Rep w g d v
  | .own d, x => ∃ a, x = some (.ref a) ∧ g.F a = none ∧ ObR w g H a d
def OwnAt (σ : L2.St) (env : List Slot) (b : Addr) : Prop := ∃ i d, env.getD i .un = .own d ∧ σ.getD i none = some (.ref b)
/-- the hand -/
structure HandR (w : Wd) (g : Gh) (σ : L2.St) (S : Sta) (H : Hp) : Prop where
  at_ : ∀ ds, S.hd = some ds → ∃ a vs, g.a = some a ∧ g.F a = none ∧ H a = some (.lst vs) ∧ ds.length ≤ big ∧ Reps w g ds vs ∧ ¬ OwnAt σ S.env a
  no : S.hd = none → g.a = none
structure Sr (w : Wd) (g : Gh) (σ : L2.St) (S : Sta) (H : Hp) : Prop where
  sub : Same g.F H
  len : σ.length = S.env.length
  slots : ∀ i, SlotR w g H (S.env.getD i .un) (σ.getD i none)
  dist : ∀ i j a d d', S.env.getD i .un = .own d → S.env.getD j .un = .own d' → σ.getD i none = some (.ref a) → σ.getD j none = some (.ref a) → i = j
  hand : HandR w g σ S H
  tabs : LamX.Tabs w.T H
  nt : ∀ b ps, g.F b ≠ some (.tbl ps)
def Owned (g : Gh) (σ : L2.St) (S : Sta) (b : Addr) : Prop := g.a = some b ∨ OwnAt σ S.env b
/-- a step of the whole: from one state to a later one -/
structure Ext (g : Gh) (σ : L2.St) (S : Sta) (H : Hp) (g' : Gh) (σ' : L2.St) (S' : Sta) (H' : Hp) : Prop where
  le : Gle g g'
  keep : ∀ b o, H b = some o → ¬ Owned g σ S b → (∀ ps, o ≠ .tbl ps) → H' b = some o ∧ (Mut (some o) → g.F b = none → g'.F b = none)
  own : ∀ b, Owned g' σ' S' b → Owned g σ S b ∨ Fre H b
  grow : ∀ b, Fre H' b → Fre H b
/-- a step of an expression: what the slots hold is not written -/
structure ExtE (g : Gh) (σ : L2.St) (S : Sta) (H : Hp) (g' : Gh) (S' : Sta) (H' : Hp) : Prop extends Ext g σ S H g' σ S' H' where
  keepO : ∀ b o, H b = some o → g.a ≠ some b → (∀ ps, o ≠ .tbl ps) → Lk H' b o
  hand : ∀ b, g'.a = some b → g.a = some b ∨ Fre H b
  env : ∀ i, S'.env.getD i .un = S.env.getD i .un ∨ ∃ d, S.env.getD i .un = .own d ∧ S'.env.getD i .un = .val d
variable {σ σ1 σ2 : L2.St} {S S1 S2 : Sta} {g1 g2 : Gh} {H1 H2 : Hp}
theorem Ext.refl : Ext g σ S H g σ S H := ⟨Gle.refl _, fun _ _ h _ _ => ⟨h, fun _ z => z⟩, fun _ h => .inl h, fun _ h => h⟩
theorem ExtE.refl : ExtE g σ S H g S H := ⟨Ext.refl, fun _ _ h _ _ => .inl h, fun _ h => .inl h, fun _ => .inl rfl⟩
theorem Ext.trans (x : Ext g σ S H g1 σ1 S1 H1) (y : Ext g1 σ1 S1 H1 g2 σ2 S2 H2) : Ext g σ S H g2 σ2 S2 H2 := by
  refine ⟨x.le.trans y.le, fun b o h n nt => ?_, fun b h => ?_, fun b h => x.grow b (y.grow b h)⟩
  · obtain ⟨h1, f1⟩ := x.keep b o h n nt
    have n1 : ¬ Owned g1 σ1 S1 b := fun z => (x.own b z).elim n (fun q => q.no h nt)
    obtain ⟨h2, f2⟩ := y.keep b o h1 n1 nt
    exact ⟨h2, fun m z => f2 m (f1 m z)⟩
  · rcases y.own b h with z | z
    · exact x.own b z
    · exact .inr (x.grow b z)
theorem Lk.step {a : Addr} {o : HO} (x : Lk H1 a o) (h : ∀ o, H1 a = some o → (∀ ps, o ≠ .tbl ps) → Lk H2 a o) (nt : ∀ ps, o ≠ .tbl ps) : Lk H2 a o := by
  rcases x with x | ⟨od, x, k⟩
  · exact h _ x nt
  · rcases h _ x (fun _ z => nomatch z) with y | ⟨_, _, z⟩
    · exact .inr ⟨od, y, k⟩
    · exact z.elim
theorem ExtE.trans (x : ExtE g σ S H g1 S1 H1) (y : ExtE g1 σ S1 H1 g2 S2 H2) : ExtE g σ S H g2 S2 H2 :=
  ⟨x.toExt.trans y.toExt, fun b o h n nt => (x.keepO b o h n nt).step (fun o h1 nt1 => y.keepO b o h1 (fun z => (x.hand b z).elim n fun q => q.no h nt) nt1) nt,
    fun b h => (y.hand b h).elim (x.hand b) fun q => .inr (x.grow b q), fun i => by
      rcases y.env i with e | ⟨d, e1, e2⟩
      · rcases x.env i with f | ⟨d, f1, f2⟩
        · exact .inl (e.trans f)
        · exact .inr ⟨d, f1, e.trans f2⟩
      · rcases x.env i with f | ⟨d', f1, f2⟩
        · exact .inr ⟨d, f.symm.trans e1, e2⟩
        · rw [f2] at e1; cases e1⟩

/-- a value: shared data; a new thing of nobody's; a look at a slot's own thing. H0: the heap where the expression began -/
def TVR (w : Wd) (H0 : Hp) (g : Gh) (σ : L2.St) (S : Sta) (H : Hp) : TV → V → Prop
  | .val d, v => Rep w g d v
  | .own d, v => ∃ a, v = .ref a ∧ Fre H0 a ∧ g.F a = none ∧ ObR w g H a d ∧ ¬ Owned g σ S a
  | .brw d, v => ∃ a, v = .ref a ∧ g.a ≠ some a ∧ ObB w g H a d
/-- what is enough to look at it -/
def Pk (w : Wd) (g : Gh) (H : Hp) (d : D) (v : V) : Prop := Rep w g d v ∨ ∃ a, v = .ref a ∧ g.a ≠ some a ∧ ObB w g H a d
theorem TVR.pk {H0 : Hp} {tv : TV} {v : V} (h : TVR w H0 g σ S H tv v) : Pk w g H tv.d v := by
  cases tv with
  | val d => exact .inl h
  | own d =>
    obtain ⟨a, e, _, _, o, n⟩ := h
    exact .inr ⟨a, e, fun z => n (.inl z), o.b⟩
  | brw d => exact .inr h
theorem ObB.there {a : Addr} {d : D} (o : ObB w g H a d) : ∃ u, H a = some u ∧ ∀ ps, u ≠ .tbl ps := by
  cases d with
  | lst ds => obtain ⟨vs, h, _⟩ := o; exact ⟨_, h, fun _ z => nomatch z⟩
  | dic ks ds =>
    obtain ⟨u, ws, h, k, _⟩ := o
    rcases h with h | ⟨od, h⟩
    · exact ⟨_, h, fun ps z => by have q := k.isD; rw [z] at q; exact q⟩
    · exact ⟨_, h, fun _ z => nomatch z⟩
  | _ => exact o.elim
theorem ExtE.notHand {a : Addr} {o : HO} (x : ExtE g σ S H g1 S1 H1) (h : H a = some o) (nt : ∀ ps, o ≠ .tbl ps) (n : g.a ≠ some a) : g1.a ≠ some a := fun z => (x.hand a z).elim n fun q => q.no h nt
theorem Pk.step {d : D} {v : V} (x : ExtE g σ S H g1 S1 H1) (h : Pk w g H d v) : Pk w g1 H1 d v := by
  rcases h with h | ⟨a, e, n, o⟩
  · exact .inl (h.mono x.le)
  · obtain ⟨u, hu, hnt⟩ := o.there
    exact .inr ⟨a, e, x.notHand hu hnt n, o.keep x.le fun o h nt => .inl (x.keepO a o h n nt)⟩
theorem TVR.step {H0 : Hp} {tv : TV} {v : V} (x : ExtE g σ S H g1 S1 H1) (h : TVR w H0 g σ S H tv v) (h0 : ∀ a, tv = .own a → True := by intros; trivial) : TVR w H0 g1 σ S1 H1 tv v := by
  cases tv with
  | val d => exact Rep.mono x.le h
  | own d =>
    obtain ⟨a, e, n0, f, o, n⟩ := h
    have ha : ∃ u, H a = some u ∧ (∀ ps, u ≠ .tbl ps) ∧ Mut (some u) := by
      cases d with
      | lst ds => obtain ⟨vs, h, _⟩ := o; exact ⟨_, h, (fun _ z => nomatch z), trivial⟩
      | dic ks ds => obtain ⟨u, ws, h, k, _⟩ := o; exact ⟨_, h, (fun ps z => by have q := k.isD; rw [z] at q; exact q), k.isD.mu⟩
      | _ => exact o.elim
    obtain ⟨u, hu, nt, mu⟩ := ha
    obtain ⟨h1, f1⟩ := x.keep a u hu n nt
    refine ⟨a, e, n0, f1 mu f, ?_, fun z => (x.own a z).elim n fun q => q.no hu nt⟩
    cases d with
    | lst ds => obtain ⟨vs, h, hl, r⟩ := o; rw [hu] at h; cases h; exact ⟨vs, h1, hl, r.mono x.le⟩
    | dic ks ds => obtain ⟨u', ws, h, k, hl, r⟩ := o; rw [hu] at h; cases h; exact ⟨u, ws, h1, k, hl, r.mono x.le⟩
    | _ => exact o.elim
  | brw d =>
    obtain ⟨a, e, n, o⟩ := h
    obtain ⟨u, hu, hnt⟩ := o.there
    exact ⟨a, e, x.notHand hu hnt n, o.keep x.le fun o h nt => .inl (x.keepO a o h n nt)⟩

/-! ### ends -/
/-- an error's own dict, where it bears something -/
def XcR (w : Wd) (g : Gh) (H : Hp) (x : Xc) (dd : Option Addr) : Prop :=
  match x.d with
  | none => dd = none
  | some d => ∃ a v, dd = some a ∧ H a = some (.xd [(("most" : Str), v)]) ∧ Rep w g d v
def Out {α β : Type} (w : Wd) (W : WX) (Rl : Hp → Gh → Sta → Hp → α → β → Prop) (Q : β → Hp → Prop) (g : Gh) (σ : L2.St) (S : Sta) (H : Hp) : R α → Prop
  | .ok a S' => ∀ g' H' v, Sr w g' σ S' H' → ExtE g σ S H g' S' H' → Rl H g' S' H' a v → Q v H'
  | .exc x S' => ∀ g' H' dd, Sr w g' σ S' H' → ExtE g σ S H g' S' H' → XcR w g' H' x dd → W (.ref (w.cad x.c)) dd σ H'
  | .bad => False
/-- a relation that holds of the whole as of the part -/
def Late {α β : Type} (Rl : Hp → Gh → Sta → Hp → α → β → Prop) : Prop := ∀ H0 H1 g S H a v, (∀ b, Fre H1 b → Fre H0 b) → Rl H1 g S H a v → Rl H0 g S H a v
section
variable {α β α' β' : Type} {W : WX} {Rl : Hp → Gh → Sta → Hp → α → β → Prop} {Rm : Hp → Gh → Sta → Hp → α' → β' → Prop} {Q Q' : β → Hp → Prop} {P : β' → Hp → Prop}
theorem Out.imp {r : R α} (h : Out w W Rl Q g σ S H r) (k : ∀ v H', Q v H' → Q' v H') : Out w W Rl Q' g σ S H r := by
  cases r with
  | ok a S' => exact fun g' H' v a b c => k v H' (h g' H' v a b c)
  | exc x S' => exact h
  | bad => exact h
theorem Out.shift (L : Late Rl) {r : R α} (h : Out w W Rl Q g σ S H r) (x : ExtE g σ S H g1 S1 H1) : Out w W Rl Q g1 σ S1 H1 r := by
  cases r with
  | ok a S' => exact fun g' H' v q b c => h g' H' v q (x.trans b) (L _ _ _ _ _ _ _ x.grow c)
  | exc y S' => exact fun g' H' dd q b c => h g' H' dd q (x.trans b) c
  | bad => exact h
/-- first r, then f -/
theorem Out.bind (L : Late Rm) {r : R α} {f : α → Sta → R α'} (h : Out w W Rm P g σ S H (r.bind f)) :
    Out w W Rl (fun v H1 => ∃ g1 S1 a, r = .ok a S1 ∧ Sr w g1 σ S1 H1 ∧ ExtE g σ S H g1 S1 H1 ∧ Rl H g1 S1 H1 a v ∧ ∀ g' H', ExtE g σ S H g' S1 H' → Out w W Rm P g' σ S1 H' (f a S1)) g σ S H r := by
  cases r with
  | ok a S' => exact fun g' H' v q b c => ⟨g', S', a, rfl, q, b, c, fun g'' H'' b' => Out.shift L h b'⟩
  | exc x S' => exact h
  | bad => exact h
theorem Out.of (L : Late Rm) {o : Option α'} (h : Out w W Rm P g σ S H (R.of o S)) : ∃ a, o = some a ∧ Out w W Rm P g σ S H (.ok a S) := by
  cases o with
  | none => exact h.elim
  | some a => exact ⟨a, rfl, h⟩
end
abbrev RTV (w : Wd) (σ : L2.St) : Hp → Gh → Sta → Hp → TV → V → Prop := fun H0 g S H tv v => TVR w H0 g σ S H tv v
abbrev RB : Hp → Gh → Sta → Hp → Bool → Bool → Prop := fun _ _ _ _ a b => a = b
abbrev RO : Hp → Gh → Sta → Hp → Option Int → Option Int → Prop := fun _ _ _ _ a b => a = b
abbrev RD (w : Wd) : Hp → Gh → Sta → Hp → D → V → Prop := fun _ g _ _ d v => Rep w g d v
abbrev RDs (w : Wd) : Hp → Gh → Sta → Hp → List D → List V → Prop := fun _ g _ _ d v => Reps w g d v
def Pks (w : Wd) (g : Gh) (H : Hp) : List D → List V → Prop
  | [], vs => vs = []
  | d :: ds, vs => ∃ v r, vs = v :: r ∧ Pk w g H d v ∧ Pks w g H ds r
abbrev RPs (w : Wd) : Hp → Gh → Sta → Hp → List D → List V → Prop := fun _ g _ H d v => Pks w g H d v
theorem lateTV : Late (RTV w σ) := fun H0 H1 g S H tv v k h => by
  cases tv with
  | val d => exact h
  | own d => obtain ⟨a, e, n, q⟩ := h; exact ⟨a, e, k a n, q⟩
  | brw d => exact h
theorem lateB : Late RB := fun _ _ _ _ _ _ _ _ h => h
theorem lateO : Late RO := fun _ _ _ _ _ _ _ _ h => h
theorem lateD : Late (RD w) := fun _ _ _ _ _ _ _ _ h => h
theorem lateDs : Late (RDs w) := fun _ _ _ _ _ _ _ _ h => h
theorem latePs : Late (RPs w) := fun _ _ _ _ _ _ _ _ h => h
theorem Pks.step : ∀ {ds : List D} {vs : List V}, ExtE g σ S H g1 S1 H1 → Pks w g H ds vs → Pks w g1 H1 ds vs
  | [], _, _, h => h
  | _ :: _, _, x, ⟨v, r, e, h, t⟩ => ⟨v, r, e, h.step x, Pks.step x t⟩
end
end Pf

/-! Pf, part 4: steps of a state: a new object, a thing that is shared, a slot that is stored. -/
namespace Pf
open PySem PySem.Spec PyProof.Rows L2
def Gh.put (g : Gh) (p : Addr) (o : HO) : Gh := ⟨g.a, upd g.F p o⟩
section
variable {w : Wd} {g g' : Gh} {H H' : Hp} {σ σ' : L2.St} {S S' : Sta} {a b p : Addr} {d d' : D} {o u : HO} {i j : Nat}
theorem Gle.put (h : g.F p = none) : Gle g (g.put p o) := ⟨.inr rfl, fun b q e => by show upd g.F p o b = _; rw [upd_ne (ne_of_none e h)]; exact e⟩
theorem Gle.put' (h : g.F p = none) (x : Gle g g') : Gle g g' := x
theorem Same.fresh (h : H p = none) : Same H (upd H p o) := fun b q e => by rw [upd_ne (ne_of_none e h)]; exact e
theorem Same.put {F : Hp} (x : Same F H) : Same (upd F p o) (upd H p o) := fun b q e => by
  by_cases hb : b = p
  · subst hb; rw [upd_same] at e ⊢; exact e
  · rw [upd_ne hb] at e ⊢; exact x _ _ e
theorem ObR.congr (x : Gle g g') (e : H' a = H a) : ∀ {d : D}, ObR w g H a d → ObR w g' H' a d
  | .lst ds, ⟨vs, h, hl, r⟩ => ⟨vs, e.trans h, hl, r.mono x⟩
  | .dic ks ds, ⟨u, ws, h, dk, hl, r⟩ => ⟨u, ws, e.trans h, dk, hl, r.mono x⟩
  | .non, h | .bl _, h | .int _, h | .str _, h | .tup _, h | .fn _, h | .hnd, h | .scr _, h => h.elim
theorem ObR.there : ∀ {d : D}, ObR w g H a d → ∃ u, H a = some u ∧ (∀ ps, u ≠ .tbl ps) ∧ Mut (some u)
  | .lst _, ⟨vs, h, _⟩ => ⟨_, h, (fun _ z => nomatch z), trivial⟩
  | .dic _ _, ⟨u, ws, h, k, _⟩ => ⟨u, h, (fun ps z => by have q := k.isD; rw [z] at q; exact q), k.isD.mu⟩
  | .non, h | .bl _, h | .int _, h | .str _, h | .tup _, h | .fn _, h | .hnd, h | .scr _, h => h.elim
theorem Sr.ownR (x : Sr w g σ S H) (h : S.env.getD i .un = .own d) : ∃ a, σ.getD i none = some (.ref a) ∧ g.F a = none ∧ ObR w g H a d := by
  have q := x.slots i
  rw [h] at q
  exact q
theorem Sr.ownThere (x : Sr w g σ S H) (h : Owned g σ S b) : ∃ u, H b = some u ∧ (∀ ps, u ≠ .tbl ps) ∧ g.F b = none ∧ Mut (some u) := by
  rcases h with h | ⟨i, d, h, k⟩
  · cases e : S.hd with
    | none => rw [x.hand.no e] at h; cases h
    | some ds =>
      obtain ⟨a, vs, ea, f, hv, _⟩ := x.hand.at_ ds e
      rw [ea] at h; cases h
      exact ⟨_, hv, (fun _ z => nomatch z), f, trivial⟩
  · obtain ⟨a, k', f, r⟩ := x.ownR h
    rw [k] at k'; cases k'
    obtain ⟨u, hu, nt, mu⟩ := r.there
    exact ⟨u, hu, nt, f, mu⟩
theorem Sr.notOwned (x : Sr w g σ S H) (h : H b = none) : ¬ Owned g σ S b := fun z => by
  obtain ⟨u, hu, _⟩ := x.ownThere z
  rw [h] at hu; cases hu
theorem Sr.notOwnedF (x : Sr w g σ S H) (h : g.F b = some u) : ¬ Owned g σ S b := fun z => by
  obtain ⟨_, _, _, f, _⟩ := x.ownThere z
  rw [h] at f; cases f
/-- the state under a larger part that is known, and under a heap that leaves what is owned -/
theorem Sr.to (x : Sr w g σ S H) (l : Gle g g') (ha : g'.a = g.a) (s : Same g'.F H') (k : ∀ b, Owned g σ S b → H' b = H b ∧ g'.F b = none) (t : LamX.Tabs w.T H') (nt : ∀ b ps, g'.F b ≠ some (.tbl ps)) : Sr w g' σ S H' where
  nt := nt
  sub := s
  len := x.len
  slots := fun i => by
    have q := x.slots i
    cases e : S.env.getD i .un with
    | un => trivial
    | val d => rw [e] at q; obtain ⟨v, h, r⟩ := q; exact ⟨v, h, r.mono l⟩
    | own d =>
      rw [e] at q; obtain ⟨a, h, f, r⟩ := q
      obtain ⟨k1, k2⟩ := k a (.inr ⟨i, d, e, h⟩)
      exact ⟨a, h, k2, r.congr l k1⟩
  dist := x.dist
  hand := ⟨fun ds e => by
    obtain ⟨a, vs, ea, f, hv, hl, r, n⟩ := x.hand.at_ ds e
    obtain ⟨k1, k2⟩ := k a (.inl ea)
    exact ⟨a, vs, ha.trans ea, k2, k1.trans hv, hl, r.mono l, n⟩, fun e => ha.trans (x.hand.no e)⟩
  tabs := t
theorem put_nt {o : HO} {p : Addr} (h : ∀ b ps, g.F b ≠ some (.tbl ps)) (ho : ∀ ps, o ≠ .tbl ps) : ∀ b ps, (g.put p o).F b ≠ some (.tbl ps) := fun b ps e => by
  change upd g.F p o b = some (.tbl ps) at e
  by_cases hb : b = p
  · subst hb; rw [upd_same] at e; exact ho ps (Option.some.inj e)
  · rw [upd_ne hb] at e; exact h b ps e
/-- a new object, not to be written -/
theorem Sr.new (x : Sr w g σ S H) (h : H p = none) (o : HO) (ho : ∀ ps, o ≠ .tbl ps) : Sr w (g.put p o) σ S (upd H p o) ∧ ExtE g σ S H (g.put p o) S (upd H p o) := by
  have hf : g.F p = none := Same.free x.sub h
  have ne : ∀ b, Owned g σ S b → b ≠ p := fun b z e => x.notOwned h (e ▸ z)
  refine ⟨x.to (Gle.put hf) rfl (Same.put x.sub) (fun b z => ?_) (x.tabs.ext (Same.fresh h)) (put_nt x.nt ho), ⟨⟨Gle.put hf, fun b q e n nt => ?_, fun b z => .inl z, fun b z => ?_⟩, fun b q e n nt => .inl (Same.fresh h _ _ e), fun _ z => .inl z, fun _ => .inl rfl⟩⟩
  · obtain ⟨_, _, _, f, _⟩ := x.ownThere z
    exact ⟨upd_ne (ne b z), (by show upd g.F p o b = none; rw [upd_ne (ne b z)]; exact f)⟩
  · refine ⟨Same.fresh h _ _ e, fun _ f => ?_⟩
    show upd g.F p o b = none
    rw [upd_ne (ne_of_none e h)]; exact f
  · exact z.upd (.inl (.of h))
/-- a new object of nobody's, to be written -/
theorem Sr.newO (x : Sr w g σ S H) (h : H p = none) (o : HO) : Sr w g σ S (upd H p o) ∧ ExtE g σ S H g S (upd H p o) := by
  have ne : ∀ b, Owned g σ S b → b ≠ p := fun b z e => x.notOwned h (e ▸ z)
  refine ⟨x.to (Gle.refl _) rfl (x.sub.trans (Same.fresh h)) (fun b z => ?_) (x.tabs.ext (Same.fresh h)) x.nt, ⟨⟨Gle.refl _, fun b q e n nt => ⟨Same.fresh h _ _ e, fun _ z => z⟩, fun b z => .inl z, fun b z => ?_⟩, fun b q e n nt => .inl (Same.fresh h _ _ e), fun _ z => .inl z, fun _ => .inl rfl⟩⟩
  · obtain ⟨_, _, _, f, _⟩ := x.ownThere z
    exact ⟨upd_ne (ne b z), f⟩
  · exact z.upd (.inl (.of h))
theorem Sr.newTup (x : Sr w g σ S H) (h : H p = none) {ds : List D} {vs : List V} (r : Reps w g ds vs) (hl : ds.length ≤ big) :
    ∃ g', Sr w g' σ S (upd H p (.tup vs)) ∧ ExtE g σ S H g' S (upd H p (.tup vs)) ∧ Rep w g' (.tup ds) (.ref p) := by
  obtain ⟨a, b⟩ := x.new h (.tup vs) (fun _ z => nomatch z)
  exact ⟨_, a, b, p, vs, rfl, SqT.of (show upd g.F p _ p = _ from upd_same), hl, r.mono b.le⟩
theorem Sr.newLst (x : Sr w g σ S H) {H0 : Hp} (h0 : ∀ b, Fre H b → Fre H0 b) (h : H p = none) {ds : List D} {vs : List V} (r : Reps w g ds vs) (hl : ds.length ≤ big) :
    Sr w g σ S (upd H p (.lst vs)) ∧ ExtE g σ S H g S (upd H p (.lst vs)) ∧ TVR w H0 g σ S (upd H p (.lst vs)) (.own (.lst ds)) (.ref p) := by
  obtain ⟨a, b⟩ := x.newO h (.lst vs)
  exact ⟨a, b, p, rfl, h0 _ (.of h), Same.free x.sub h, ⟨vs, upd_same, hl, r⟩, x.notOwned h⟩
/-- what may be done beside the machine: nothing, or a dict is locked -/
def Ghost (H : Hp) (P : Hp → Prop) : Prop := P H ∨ ∃ a u, H a = some u ∧ isD u ∧ ∀ od, P (upd H a (.frz od u))
theorem Ghost.imp {P P' : Hp → Prop} (h : Ghost H P) (k : ∀ H, P H → P' H) : Ghost H P' := by
  rcases h with h | ⟨a, u, e, q, h⟩
  · exact .inl (k _ h)
  · exact .inr ⟨a, u, e, q, fun od => k _ (h od)⟩
theorem isD_nt (h : isD u) : ∀ ps, u ≠ .tbl ps := fun ps z => by rw [z] at h; exact h
/-- the thing at a is known from now on: it was nobody's, and new behind the base; or a slot's, that is let go -/
theorem Sr.known {g1 : Gh} {S1 S2 : Sta} {H1 : Hp} (e : ExtE g σ S H g1 S1 H1) (x : Sr w g1 σ S1 H1) (hH : ∀ b, Owned g1 σ S2 b → Owned g1 σ S1 b ∧ b ≠ a) (hl : S2.env.length = S1.env.length) (hh : S2.hd = S1.hd)
    (hs : ∀ i, S2.env.getD i .un = S1.env.getD i .un ∨ ∃ d, S2.env.getD i .un = .val d ∧ S1.env.getD i .un = .own d ∧ σ.getD i none = some (.ref a))
    (hb : Fre H a ∨ Owned g σ S a) (f : g1.F a = none) (n : g1.a ≠ some a) (hu : H1 a = some u) {H2 : Hp} {u2 : HO} (h2 : (H2 = H1 ∧ u2 = u) ∨ (isD u ∧ ∃ od, u2 = .frz od u ∧ H2 = upd H1 a u2)) (nt : ∀ ps, u ≠ .tbl ps)
    (r : ∀ d, Gle g1 (g1.put a u2) → (∃ i, S1.env.getD i .un = .own d ∧ σ.getD i none = some (.ref a)) → Rep w (g1.put a u2) d (.ref a)) :
    Sr w (g1.put a u2) σ S2 H2 ∧ ExtE g σ S H (g1.put a u2) S2 H2 := by
  have l : Gle g1 (g1.put a u2) := Gle.put f
  have hk : ∀ b, b ≠ a → H2 b = H1 b := fun b hb => by
    rcases h2 with ⟨rfl, _⟩ | ⟨_, od, _, rfl⟩
    · rfl
    · exact upd_ne hb
  have ha : H2 a = some u2 := by
    rcases h2 with ⟨rfl, rfl⟩ | ⟨_, od, _, rfl⟩
    · exact hu
    · exact upd_same
  have fk : ∀ b, b ≠ a → (g1.put a u2).F b = g1.F b := fun b hb => (by show upd g1.F a u2 b = _; exact upd_ne hb)
  have o1 : ∀ b, Owned (g1.put a u2) σ S2 b → Owned g1 σ S1 b ∧ b ≠ a := fun b z => hH b z
  have lk : Lk H2 a u := by
    rcases h2 with ⟨rfl, _⟩ | ⟨q, od, rfl, rfl⟩
    · exact .inl hu
    · exact .inr ⟨od, upd_same, q⟩
  refine ⟨⟨fun b q eb => ?_, x.len.trans hl.symm, fun i => ?_, ?_, ⟨fun ds eh => ?_, fun eh => x.hand.no (hh ▸ eh)⟩, ?_, put_nt x.nt (by rcases h2 with ⟨_, rfl⟩ | ⟨_, od, rfl, _⟩; exact nt; exact fun _ z => nomatch z)⟩, ⟨⟨e.le.trans l, fun b q eb nb ntq => ?_, fun b z => e.own b (o1 b z).1, fun b z => ?_⟩, fun b q eb nb ntq => ?_, e.hand, fun i => ?_⟩⟩
  · by_cases hb : b = a
    · rw [hb] at eb ⊢
      rw [show (g1.put a u2).F a = some u2 from upd_same] at eb; cases eb; exact ha
    · rw [fk b hb] at eb; rw [hk b hb]; exact x.sub _ _ eb
  · rcases hs i with es | ⟨d, es, eo, ea⟩
    · cases ec : S2.env.getD i .un with
      | un => trivial
      | val d =>
        have q := x.slots i
        rw [← es, ec] at q; obtain ⟨v, h, rr⟩ := q; exact ⟨v, h, rr.mono l⟩
      | own d =>
        have q := x.slots i
        rw [← es, ec] at q; obtain ⟨b, h, fb, rr⟩ := q
        obtain ⟨_, hne⟩ := o1 b (.inr ⟨i, d, ec, h⟩)
        exact ⟨b, h, (fk b hne).trans fb, rr.congr l (hk b hne)⟩
    · rw [es]; exact ⟨.ref a, ea, r d l ⟨i, eo, ea⟩⟩
  · intro i j b d d' hi hj h1' h2'
    have hi' : S1.env.getD i .un = .own d := by
      rcases hs i with es | ⟨d, es, _, _⟩
      · rw [← es]; exact hi
      · rw [es] at hi; cases hi
    have hj' : S1.env.getD j .un = .own d' := by
      rcases hs j with es | ⟨d, es, _, _⟩
      · rw [← es]; exact hj
      · rw [es] at hj; cases hj
    exact x.dist i j b d d' hi' hj' h1' h2'
  · obtain ⟨b, vs, eb, fb, hv, hl', rr, nn⟩ := x.hand.at_ ds (hh ▸ eh)
    have hne : b ≠ a := fun z => n (z ▸ eb)
    exact ⟨b, vs, eb, (fk b hne).trans fb, (hk b hne).trans hv, hl', rr.mono l, fun z => nn ((o1 b (.inr z)).1.elim (fun q => by
      obtain ⟨i, d, q1, q2⟩ := z
      rcases hs i with es | ⟨d', es, _, _⟩
      · exact ⟨i, d, es ▸ q1, q2⟩
      · rw [es] at q1; cases q1) id)⟩
  · refine fun p hp => ?_
    obtain ⟨ps, h, q, r'⟩ := x.tabs p hp
    have hpa : p.1 ≠ a := fun z => by rw [z] at h; rw [hu] at h; cases h; exact nt _ rfl
    refine ⟨ps, (hk _ hpa).trans h, q, fun pos cv ec => ?_⟩
    obtain ⟨c, e1, e2⟩ := r' pos cv ec
    refine ⟨c, e1, ?_⟩
    rcases h2 with ⟨rfl, _⟩ | ⟨q', od, _, rfl⟩
    · exact e2
    · have hca : c ≠ a := fun z => by rw [z] at e2; rw [hu] at e2; cases e2; exact q'
      exact (upd_ne hca).trans e2
  · have hne : b ≠ a := fun z => by
      rcases hb with hb | hb
      · exact hb.no (z ▸ eb) ntq
      · exact nb (z ▸ hb)
    obtain ⟨k1, k2⟩ := e.keep b q eb nb ntq
    exact ⟨(hk b hne).trans k1, fun m z => (fk b hne).trans (k2 m z)⟩
  · rcases h2 with ⟨rfl, _⟩ | ⟨_, od, rfl, rfl⟩
    · exact e.grow b z
    · exact e.grow b (z.upd (.inr fun _ z => nomatch z))
  · have q1 := e.keepO b q eb nb ntq
    by_cases hba : b = a
    · rw [hba] at q1 ⊢
      rcases q1 with q1 | ⟨od, q1, q2⟩
      · rw [hu] at q1; cases q1; exact lk
      · rw [hu] at q1; cases q1
        rcases h2 with ⟨rfl, _⟩ | ⟨q3, _⟩
        · exact .inr ⟨od, hu, q2⟩
        · exact q3.elim
    · rcases q1 with q1 | ⟨od, q1, q2⟩
      · exact .inl ((hk b hba).trans q1)
      · exact .inr ⟨od, (hk b hba).trans q1, q2⟩
  · rcases e.env i with q | ⟨d, q1, q2⟩
    · rcases hs i with z | ⟨d, z1, z2, _⟩
      · exact .inl (z.trans q)
      · exact .inr ⟨d, q.symm.trans z2, z1⟩
    · rcases hs i with z | ⟨d', z1, z2, _⟩
      · exact .inr ⟨d, q1, z.trans q2⟩
      · rw [q2] at z2; cases z2
/-- what is given on is shared -/
theorem share_step {g1 : Gh} {S1 : Sta} {H1 : Hp} {tv : TV} {v : V} (e : ExtE g σ S H g1 S1 H1) (x : Sr w g1 σ S1 H1) (r : TVR w H g1 σ S1 H1 tv v) (hs : share tv = some d) :
    Ghost H1 fun H2 => ∃ g2, Sr w g2 σ S1 H2 ∧ ExtE g σ S H g2 S1 H2 ∧ Rep w g2 d v := by
  cases tv with
  | val d' => cases hs; exact .inl ⟨g1, x, e, r⟩
  | brw d' => cases hs
  | own d' =>
    cases hs
    obtain ⟨a, rfl, h0, f, o, n⟩ := r
    have na : g1.a ≠ some a := fun z => n (.inl z)
    have hH : ∀ b, Owned g1 σ S1 b → Owned g1 σ S1 b ∧ b ≠ a := fun b z => ⟨z, fun q => n (q ▸ z)⟩
    cases d with
    | lst ds =>
      obtain ⟨vs, hu, hl, rr⟩ := o
      obtain ⟨p, q⟩ := Sr.known (u2 := .lst vs) (S2 := S1) e x hH rfl rfl (fun i => .inl rfl) (.inl h0) f na hu (.inl ⟨rfl, rfl⟩) (fun _ z => nomatch z)
        (fun d l ⟨i, q1, q2⟩ => (n (.inr ⟨i, d, q1, q2⟩)).elim)
      exact .inl ⟨_, p, q, a, vs, rfl, (show upd g1.F a _ a = _ from upd_same), hl, rr.mono (Gle.put f)⟩
    | dic ks ds =>
      obtain ⟨u, ws, hu, dk, hl, rr⟩ := o
      refine .inr ⟨a, u, hu, dk.isD, fun od => ?_⟩
      obtain ⟨p, q⟩ := Sr.known (u2 := .frz od u) (S2 := S1) e x hH rfl rfl (fun i => .inl rfl) (.inl h0) f na hu (.inr ⟨dk.isD, od, rfl, rfl⟩) (isD_nt dk.isD)
        (fun d l ⟨i, q1, q2⟩ => (n (.inr ⟨i, d, q1, q2⟩)).elim)
      exact ⟨_, p, q, a, od, u, ws, rfl, (show upd g1.F a _ a = _ from upd_same), dk, hl, rr.mono (Gle.put f)⟩
    | _ => exact o.elim
theorem getD_set_same {α : Type} {l : List α} {x z : α} (h : i < l.length) : (l.set i x).getD i z = x := by simp [List.getD, List.getElem?_set, h]
theorem getD_set_ne {α : Type} {l : List α} {x z : α} (h : i ≠ j) : (l.set i x).getD j z = l.getD j z := by simp [List.getD, List.getElem?_set, h]
theorem getD_lt {α : Type} {l : List α} {z : α} (h : l.getD i z ≠ z) : i < l.length := by
  rcases Nat.lt_or_ge i l.length with q | q
  · exact q
  · exact (h (by simp [List.getD, List.getElem?_eq_none q])).elim
theorem getD_some {l : List (Option V)} {x : V} (h : l.getD i none = some x) : l[i]? = some (some x) := by
  have q := getD_lt (l := l) (i := i) (z := none) (by rw [h]; exact fun z => nomatch z)
  simpa [List.getD, List.getElem?_eq_getElem q] using h
theorem some_getD {l : List (Option V)} {x : V} (h : l[i]? = some (some x)) : l.getD i none = some x := by simp [List.getD, h]
/-- a slot is read: what it holds is shared from now on -/
theorem readV_step (x : Sr w g σ S H) {tv : TV} {v : V} (hr : readV i S = .ok tv S') (hv : σ[i]? = some (some v)) :
    Ghost H fun H2 => ∃ g2, Sr w g2 σ S' H2 ∧ ExtE g σ S H g2 S' H2 ∧ TVR w H g2 σ S' H2 tv v := by
  have hv' := some_getD hv
  have q := x.slots i
  rw [hv'] at q
  unfold readV at hr
  cases ec : S.env.getD i .un with
  | un => rw [ec] at hr; cases hr
  | val d =>
    rw [ec] at hr q; cases hr
    obtain ⟨v', h, r⟩ := q; cases h
    exact .inl ⟨g, x, ExtE.refl, r⟩
  | own d =>
    rw [ec] at hr q; cases hr
    obtain ⟨a, h, f, o⟩ := q; cases h
    have hlt : i < S.env.length := getD_lt (by rw [ec]; exact fun z => nomatch z)
    have ow : Owned g σ S a := .inr ⟨i, d, ec, hv'⟩
    have na : g.a ≠ some a := fun z => by
      cases eh : S.hd with
      | none => rw [x.hand.no eh] at z; cases z
      | some ds =>
        obtain ⟨b, vs, eb, _, _, _, _, n⟩ := x.hand.at_ ds eh
        rw [eb] at z; cases z
        exact n ⟨i, d, ec, hv'⟩
    have hH : ∀ b, Owned g σ (S.set i (.val d)) b → Owned g σ S b ∧ b ≠ a := fun b z => by
      rcases z with z | ⟨j, d', z1, z2⟩
      · exact ⟨.inl z, fun q => na (q ▸ z)⟩
      · by_cases hj : i = j
        · subst hj; rw [show (S.set i (.val d)).env = S.env.set i (.val d) from rfl, getD_set_same hlt] at z1; cases z1
        · rw [show (S.set i (.val d)).env = S.env.set i (.val d) from rfl, getD_set_ne hj] at z1
          refine ⟨.inr ⟨j, d', z1, z2⟩, fun q => hj ?_⟩
          subst q
          exact x.dist i j b d d' ec z1 hv' z2
    have hs : ∀ j, (S.set i (.val d)).env.getD j .un = S.env.getD j .un ∨ ∃ d', (S.set i (.val d)).env.getD j .un = .val d' ∧ S.env.getD j .un = .own d' ∧ σ.getD j none = some (.ref a) := fun j => by
      by_cases hj : i = j
      · subst hj; exact .inr ⟨d, getD_set_same hlt, ec, hv'⟩
      · exact .inl (getD_set_ne hj)
    have hlen : (S.set i (.val d)).env.length = S.env.length := List.length_set
    cases d with
    | lst ds =>
      obtain ⟨vs, hu, hl, rr⟩ := o
      have rep : ∀ d, Gle g (g.put a (.lst vs)) → (∃ i, S.env.getD i .un = .own d ∧ σ.getD i none = some (.ref a)) → Rep w (g.put a (.lst vs)) d (.ref a) := fun d l ⟨j, q1, q2⟩ => by
        have hij := x.dist i j a _ _ ec q1 hv' q2
        subst hij
        rw [ec] at q1; cases q1
        exact ⟨a, vs, rfl, (show upd g.F a _ a = _ from upd_same), hl, rr.mono l⟩
      obtain ⟨p, q⟩ := Sr.known (u2 := .lst vs) (S2 := S.set i (.val (.lst ds))) ExtE.refl x hH hlen rfl hs (.inr ow) f na hu (.inl ⟨rfl, rfl⟩) (fun _ z => nomatch z) rep
      exact .inl ⟨_, p, q, rep _ (Gle.put f) ⟨i, ec, hv'⟩⟩
    | dic ks ds =>
      obtain ⟨u, ws, hu, dk, hl, rr⟩ := o
      refine .inr ⟨a, u, hu, dk.isD, fun od => ?_⟩
      have rep : ∀ d, Gle g (g.put a (.frz od u)) → (∃ i, S.env.getD i .un = .own d ∧ σ.getD i none = some (.ref a)) → Rep w (g.put a (.frz od u)) d (.ref a) := fun d l ⟨j, q1, q2⟩ => by
        have hij := x.dist i j a _ _ ec q1 hv' q2
        subst hij
        rw [ec] at q1; cases q1
        exact ⟨a, od, u, ws, rfl, (show upd g.F a _ a = _ from upd_same), dk, hl, rr.mono l⟩
      obtain ⟨p, q⟩ := Sr.known (u2 := .frz od u) (S2 := S.set i (.val (.dic ks ds))) ExtE.refl x hH hlen rfl hs (.inr ow) f na hu (.inr ⟨dk.isD, od, rfl, rfl⟩) (isD_nt dk.isD) rep
      exact ⟨_, p, q, rep _ (Gle.put f) ⟨i, ec, hv'⟩⟩
    | _ => exact o.elim
theorem readP_step (x : Sr w g σ S H) {tv : TV} {v : V} (hr : readP i S = .ok tv S') (hv : σ[i]? = some (some v)) : S' = S ∧ TVR w H g σ S H tv v := by
  have hv' := some_getD hv
  have q := x.slots i
  rw [hv'] at q
  unfold readP at hr
  cases ec : S.env.getD i .un with
  | un => rw [ec] at hr; cases hr
  | val d =>
    rw [ec] at hr q; cases hr
    obtain ⟨v', h, r⟩ := q; cases h
    exact ⟨rfl, r⟩
  | own d =>
    rw [ec] at hr q; cases hr
    obtain ⟨a, h, f, o⟩ := q; cases h
    refine ⟨rfl, a, rfl, fun z => ?_, o.b⟩
    cases eh : S.hd with
    | none => rw [x.hand.no eh] at z; cases z
    | some ds =>
      obtain ⟨b, vs, eb, _, _, _, _, n⟩ := x.hand.at_ ds eh
      rw [eb] at z; cases z
      exact n ⟨i, d, ec, hv'⟩
end
end Pf

/-! Pf, part 5: what is asked of an operator, a built-in; each kept by the machine. -/
namespace Pf
open PySem PySem.Spec PyProof.Rows L2
theorem big_line : big = sizeLine := by rw [sizeLine_eq]; rfl
section
variable {w : Wd} {C : Cn} {W : WX} {g : Gh} {H : Hp} {σ : L2.St} {S : Sta} {Q : VK} {X : Cx}
/-- what follows a value -/
def Fin (w : Wd) (g : Gh) (σ : L2.St) (S : Sta) (H : Hp) (tv : TV) (Q : VK) : Prop := ∀ g' H' v, Sr w g' σ S H' → ExtE g σ S H g' S H' → TVR w H g' σ S H' tv v → Q v H'
theorem Fin.rep {d : D} {v : V} (f : Fin w g σ S H (.val d) Q) (x : Sr w g σ S H) (r : Rep w g d v) : Q v H := f g H v x ExtE.refl r
theorem Fin.tup {ds : List D} {vs : List V} {p : Addr} (f : Fin w g σ S H (.val (.tup ds)) Q) (x : Sr w g σ S H) (r : Reps w g ds vs) (hl : ds.length ≤ big) (hp : H p = none) : Q (.ref p) (upd H p (.tup vs)) := by
  obtain ⟨g', a, b, c⟩ := x.newTup hp r hl
  exact f g' _ _ a b c
theorem Fin.lst {ds : List D} {vs : List V} {p : Addr} (f : Fin w g σ S H (.own (.lst ds)) Q) (x : Sr w g σ S H) (r : Reps w g ds vs) (hl : ds.length ≤ big) (hp : H p = none) : Q (.ref p) (upd H p (.lst vs)) := by
  obtain ⟨a, b, c⟩ := x.newLst (H0 := H) (fun _ z => z) hp r hl
  exact f g _ _ a b c
def rdE (w : Wd) (C : Cn) (W : WX) (a : E) : TE := fun σ H Q => ∃ g S, Sr w g σ S H ∧ Out w W (RTV w σ) Q g σ S H (ev C a S)
def rdSh (w : Wd) (C : Cn) (W : WX) (a : E) : TE := fun σ H Q => ∃ g S, Sr w g σ S H ∧ Out w W (RD w) Q g σ S H ((ev C a S).bind fun x s => R.of (share x) s)
def rdT (w : Wd) (C : Cn) (W : WX) (a : E) : TT := fun σ H Q => ∃ g S, Sr w g σ S H ∧ Out w W RB Q g σ S H (evT C a S)
def rdA (w : Wd) (C : Cn) (W : WX) (a : E) : TA := fun σ H Q => ∃ g S, Sr w g σ S H ∧ Out w W (RDs w) Q g σ S H (evs C a S)
def rdP (w : Wd) (C : Cn) (W : WX) (a : E) : TA := fun σ H Q => ∃ g S, Sr w g σ S H ∧ Out w W (RPs w) Q g σ S H (evp C a S)
def rdO (w : Wd) (C : Cn) (W : WX) (a : E) : TO := fun σ H Q => ∃ g S, Sr w g σ S H ∧ Out w W RO Q g σ S H (evO C a S)
theorem pe_to {e : Expr} {t t' : TE} (h : PE X e t) (k : ∀ σ H Q, t' σ H Q → t σ H Q) : PE X e t' := ⟨fun pins s σ H Q I q => h.run pins s σ H Q I (k σ H Q q)⟩
theorem pt_to {e : Expr} {t t' : TT} (h : PT X e t) (k : ∀ σ H Q, t' σ H Q → t σ H Q) : PT X e t' := ⟨fun pins s σ H Q I q => h.run pins s σ H Q I (k σ H Q q)⟩
theorem pa_to {e : List Expr} {t t' : TA} (h : PA X e t) (k : ∀ σ H Q, t' σ H Q → t σ H Q) : PA X e t' := ⟨fun p pins s σ H Q I q => h.run p pins s σ H Q I (k σ H Q q)⟩
theorem pe_ghost {e : Expr} {t : TE} (h : PE X e t) : PE X e (fun σ H Q => t σ H fun v H1 => Ghost H1 fun H2 => Q v H2) := by
  refine ⟨fun pins s σ H Q I q => thn (h.run pins s σ H _ I q) ?_⟩
  rintro u s1 ⟨v, H1, I1, r, q1⟩
  rcases q1 with q1 | ⟨a, o, e, d, q1⟩
  · exact ⟨v, H1, I1, r, q1⟩
  · have mu : Mut (some o) := by cases o <;> first | trivial | exact d.elim
    obtain ⟨od, I2⟩ := I1.lock e mu
    exact ⟨v, _, I2, r, q1 od⟩
/-- an operator on two things that are only looked at -/
def rOp2 (w : Wd) (f : Option (List D) → D → D → Option TV) : R2 := fun x y H Q => ∃ g σ S d e tv, Sr w g σ S H ∧ Pk w g H d x ∧ Pk w g H e y ∧ f S.hd d e = some tv ∧ Fin w g σ S H tv Q
theorem two {f : Option (List D) → D → D → Option TV} {a b : E} (hS : Sr w g σ S H)
    (h : Out w W (RTV w σ) Q g σ S H ((ev C a S).bind fun x s => (ev C b s).bind fun y s => R.of (f s.hd x.d y.d) s)) :
    rdE w C W a σ H fun x H1 => rdE w C W b σ H1 fun y H2 => rOp2 w f x y H2 Q := by
  refine ⟨g, S, hS, (Out.bind lateTV h).imp ?_⟩
  rintro x H1 ⟨g1, S1, tx, _, s1, e1, r1, k1⟩
  refine ⟨g1, S1, s1, (Out.bind lateTV (k1 _ _ e1)).imp ?_⟩
  rintro y H2 ⟨g2, S2, ty, _, s2, e2, r2, k2⟩
  obtain ⟨tv, q1, q2⟩ := Out.of lateTV (k2 _ _ e2)
  exact ⟨g2, σ, S2, _, _, tv, s2, r1.pk.step e2, r2.pk, q1, q2⟩
theorem snd_bin {o : Bop} {op : Operator} {a b : Expr} {a' b' : E} {pos : Pos} (hr : OpR X (binaryOp op) (rOp2 w fun _ => binD o)) (ha : PE X a (rdE w C W a')) (hb : PE X b (rdE w C W b')) :
    PE X (.BinOp a op b pos) (rdE w C W (.bin o a' b')) := pe_to (pe_op hr ha hb) fun σ H Q ⟨g, S, hS, h⟩ => two (f := fun _ => binD o) hS h
/-! ### what a look tells -/
theorem Pk.int {i : Int} {v : V} (h : Pk w g H (.int i) v) : v = .int i := by
  rcases h with h | ⟨_, _, _, h⟩
  · exact h
  · exact h.elim
theorem Pk.bl {i : Bool} {v : V} (h : Pk w g H (.bl i) v) : v = .bl i := by
  rcases h with h | ⟨_, _, _, h⟩
  · exact h
  · exact h.elim
theorem Pk.non {v : V} (h : Pk w g H .non v) : v = .non := by
  rcases h with h | ⟨_, _, _, h⟩
  · exact h
  · exact h.elim
theorem Pk.str {i : Str} {v : V} (h : Pk w g H (.str i) v) : v = .str i := by
  rcases h with h | ⟨_, _, _, h⟩
  · exact h
  · exact h.elim
theorem Pk.tup {ds : List D} {v : V} (h : Pk w g H (.tup ds) v) (s : Same g.F H) : ∃ a vs, v = .ref a ∧ SqT w.K H a vs ∧ SqT w.K g.F a vs ∧ ds.length ≤ big ∧ Reps w g ds vs := by
  rcases h with ⟨a, vs, e, h, q⟩ | ⟨_, _, _, h⟩
  · exact ⟨a, vs, e, SqT.same s h, h, q⟩
  · exact h.elim
theorem Pk.lst {ds : List D} {v : V} (h : Pk w g H (.lst ds) v) (s : Same g.F H) : ∃ a vs, v = .ref a ∧ H a = some (.lst vs) ∧ ds.length ≤ big ∧ Reps w g ds vs := by
  rcases h with ⟨a, vs, e, h, q⟩ | ⟨a, e, _, vs, h, q⟩
  · exact ⟨a, vs, e, s _ _ h, q⟩
  · exact ⟨a, vs, e, h, q⟩
theorem Pk.scr {ds : List D} {v : V} (h : Pk w g H (.scr ds) v) (s : Same g.F H) : ∃ a vs, v = .ref a ∧ SqL w.K H a vs ∧ ds.length ≤ big ∧ Reps w g ds vs := by
  rcases h with ⟨a, vs, e, h, q⟩ | ⟨_, _, _, h⟩
  · exact ⟨a, vs, e, s.seq h, q⟩
  · exact h.elim
theorem Pk.fn {i : Nat} {v : V} (h : Pk w g H (.fn i) v) : ∃ a, w.fad i = some a ∧ v = .ref a := by
  rcases h with h | ⟨_, _, _, h⟩
  · exact h
  · exact h.elim
theorem Pk.dic {ks ds : List D} {v : V} (h : Pk w g H (.dic ks ds) v) (s : Same g.F H) : ∃ a u ws, v = .ref a ∧ Rd H a u ∧ DicS ks ws u ∧ ks.length ≤ big ∧ Reps w g ds ws := by
  rcases h with ⟨a, od, u, ws, e, h, q⟩ | ⟨a, e, _, u, ws, h, q⟩
  · exact ⟨a, u, ws, e, .inr ⟨od, s _ _ h⟩, q⟩
  · exact ⟨a, u, ws, e, h, q⟩
/-! ### + - * // % ** << -/
theorem ob_to {F : Value → Value → Sem Value} {r r' : R2} (h : OpR X F r) (k : ∀ x y H Q, r' x y H Q → r x y H Q) : OpR X F r' := fun pins s σ H x y v u Q I rx ry q => h pins s σ H x y v u Q I rx ry (k _ _ _ _ q)
theorem nil_of {ds : List D} {vs : List V} (h : Reps w g ds vs) (e : vs = []) : ds = [] := List.eq_nil_of_length_eq_zero (by rw [h.length, e]; rfl)
theorem snd_add (hK : X.K = w.K) : OpR X (binaryOp .Add) (rOp2 w fun _ => binD .add) := by
  refine ob_to (op_add.or (op_catA.or op_cat)) ?_
  rintro x y H Q ⟨g, σ, S, d, e, tv, hS, px, py, hf, q⟩
  change addD d e = some tv at hf
  unfold addD at hf
  split at hf
  · rename_i i j
    cases hf
    exact .inl ⟨i, j, px.int, py.int, q.rep hS rfl⟩
  · rename_i xs ys
    obtain ⟨a, vs, rfl, sa, ra, la, rx⟩ := px.tup hS.sub
    obtain ⟨b, us, rfl, sb, rb, lb, ry⟩ := py.tup hS.sub
    split at hf <;> cases hf
    rename_i hl
    have hl' : (xs ++ ys).length ≤ big := by rw [List.length_append]; exact hl
    refine .inr (.inl ⟨a, b, vs, us, rfl, rfl, hK ▸ sa, hK ▸ sb, ?_, fun z => ?_, fun z z' => ?_, fun z z' p hp => ?_⟩)
    · rw [← rx.length, ← ry.length, ← big_line]; exact hl
    · rw [nil_of rx z] at q
      exact q.rep hS ⟨b, us, rfl, rb, lb, ry⟩
    · rw [nil_of ry z', List.append_nil] at q
      exact q.rep hS ⟨a, vs, rfl, ra, la, rx⟩
    · exact q.tup hS (rx.append ry) hl' hp
  · rename_i xs ys
    obtain ⟨a, vs, rfl, sa, la, rx⟩ := px.lst hS.sub
    obtain ⟨b, us, rfl, sb, lb, ry⟩ := py.lst hS.sub
    split at hf <;> cases hf
    rename_i hl
    refine .inr (.inr ⟨a, b, vs, us, rfl, rfl, sa, sb, ?_, fun p hp => ?_⟩)
    · rw [← rx.length, ← ry.length, ← big_line]; exact hl
    · exact q.lst hS (rx.append ry) (by rw [List.length_append]; exact hl) hp
  · cases hf
theorem snd_sub : OpR X (binaryOp .Sub) (rOp2 w fun _ => binD .sub) := by
  refine ob_to op_sub ?_
  rintro x y H Q ⟨g, σ, S, d, e, tv, hS, px, py, hf, q⟩
  change subD d e = some tv at hf
  unfold subD at hf
  split at hf <;> cases hf
  rename_i i j
  exact ⟨i, j, px.int, py.int, q.rep hS rfl⟩
theorem snd_fdiv : OpR X (binaryOp .FloorDiv) (rOp2 w fun _ => binD .fdiv) := by
  refine ob_to op_fdiv ?_
  rintro x y H Q ⟨g, σ, S, d, e, tv, hS, px, py, hf, q⟩
  change fdivD d e = some tv at hf
  unfold fdivD at hf
  split at hf <;> try cases hf
  rename_i i j
  split at hf <;> cases hf
  rename_i h
  exact ⟨i, j, px.int, py.int, h, q.rep hS rfl⟩
theorem snd_mod : OpR X (binaryOp .Mod) (rOp2 w fun _ => binD .mod) := by
  refine ob_to op_mod ?_
  rintro x y H Q ⟨g, σ, S, d, e, tv, hS, px, py, hf, q⟩
  change modD d e = some tv at hf
  unfold modD at hf
  split at hf <;> try cases hf
  rename_i i j
  split at hf <;> cases hf
  rename_i h
  exact ⟨i, j, px.int, py.int, h, q.rep hS rfl⟩
theorem snd_pow : OpR X (binaryOp .Pow) (rOp2 w fun _ => binD .pow) := by
  refine ob_to op_pow ?_
  rintro x y H Q ⟨g, σ, S, d, e, tv, hS, px, py, hf, q⟩
  change powD d e = some tv at hf
  unfold powD at hf
  split at hf <;> try cases hf
  rename_i i j
  split at hf <;> cases hf
  rename_i h
  exact ⟨i, j, px.int, py.int, ⟨h.1, Int.le_trans h.2.1 (by decide), h.2.2⟩, q.rep hS rfl⟩
theorem snd_shl : OpR X (binaryOp .LShift) (rOp2 w fun _ => binD .shl) := by
  refine ob_to op_shl ?_
  rintro x y H Q ⟨g, σ, S, d, e, tv, hS, px, py, hf, q⟩
  change shlD d e = some tv at hf
  unfold shlD at hf
  split at hf <;> try cases hf
  rename_i i j
  split at hf <;> cases hf
  rename_i h
  exact ⟨i, j, px.int, py.int, ⟨h.1, Int.le_trans h.2.1 (by decide), h.2.2⟩, q.rep hS rfl⟩
/-! ### == and what leans on it -/
mutual
def D.py : D → PyData
  | .non => .none
  | .bl b => .bool b
  | .int i => .int i
  | .str s => .str s
  | .tup ds => .tuple (pys ds)
  | .lst ds => .list (pys ds)
  | .dic _ _ | .fn _ | .hnd | .scr _ => .dict []
def pys : List D → List PyData
  | [] => []
  | d :: ds => d.py :: pys ds
end
theorem strOk_eq (s : Str) : PyData.strOk s = PyData.strOk s := rfl
mutual
theorem py_lay : ∀ d : D, d.plain = true → d.py.canLay0 = true
  | .non, _ | .bl _, _ | .int _, _ => rfl
  | .str s, h => h
  | .tup ds, h => by
    show PyData.canLayAll0 (pys ds) = true
    exact pys_lay ds h
  | .lst ds, h => by
    show PyData.canLayAll0 (pys ds) = true
    exact pys_lay ds h
  | .dic _ _, h | .fn _, h | .hnd, h | .scr _, h => by cases h
theorem pys_lay : ∀ ds : List D, plains ds = true → PyData.canLayAll0 (pys ds) = true
  | [], _ => rfl
  | d :: ds, h => by
    obtain ⟨h1, h2⟩ := Bool.and_eq_true_iff.mp (show (d.plain && plains ds) = true from h)
    show (d.py.canLay0 && PyData.canLayAll0 (pys ds)) = true
    rw [py_lay d h1, pys_lay ds h2]; rfl
end
mutual
theorem py_depth : ∀ d : D, d.plain = true → d.py.depth = d.depth
  | .non, _ | .bl _, _ | .int _, _ | .str _, _ => rfl
  | .tup ds, h => by
    show PyData.depthAll (pys ds) + 1 = depths ds + 1
    rw [pys_depth ds h]
  | .lst ds, h => by
    show PyData.depthAll (pys ds) + 1 = depths ds + 1
    rw [pys_depth ds h]
  | .dic _ _, h | .fn _, h | .hnd, h | .scr _, h => by cases h
theorem pys_depth : ∀ ds : List D, plains ds = true → PyData.depthAll (pys ds) = depths ds
  | [], _ => rfl
  | d :: ds, h => by
    obtain ⟨h1, h2⟩ := Bool.and_eq_true_iff.mp (show (d.plain && plains ds) = true from h)
    show max d.py.depth (PyData.depthAll (pys ds)) = max d.depth (depths ds)
    rw [py_depth d h1, pys_depth ds h2]
end
theorem shaped_of {d : D} (h : okE d = true) : SeqAt.shaped d.py = true := by
  obtain ⟨h1, h2⟩ := Bool.and_eq_true_iff.mp h
  show (d.py.canLay0 && decide (d.py.depth ≤ 64)) = true
  rw [py_lay d h1, py_depth d h1]
  exact decide_eq_true (Nat.le_trans (of_decide_eq_true h2) (by decide))
theorem plain_of {d : D} (h : okE d = true) : d.plain = true := (Bool.and_eq_true_iff.mp h).1
mutual
theorem py_eqv : ∀ a b : D, a.plain = true → b.plain = true → PyData.eqv a.py b.py = a.eqv b
  | .tup xs, .tup ys, h, k => by
    show PyData.eqvAll (pys xs) (pys ys) = eqvs xs ys
    exact pys_eqv xs ys h k
  | .lst xs, .lst ys, h, k => by
    show PyData.eqvAll (pys xs) (pys ys) = eqvs xs ys
    exact pys_eqv xs ys h k
  | .non, b, _, _ => by cases b <;> rfl
  | .bl a, b, _, _ => by cases b <;> rfl
  | .int a, b, _, _ => by cases b <;> rfl
  | .str a, b, _, _ => by cases b <;> rfl
  | .tup xs, .non, _, _ | .tup xs, .bl _, _, _ | .tup xs, .int _, _, _ | .tup xs, .str _, _, _ | .tup xs, .lst _, _, _ => rfl
  | .lst xs, .non, _, _ | .lst xs, .bl _, _, _ | .lst xs, .int _, _, _ | .lst xs, .str _, _, _ | .lst xs, .tup _, _, _ => rfl
  | .tup xs, .dic _ _, _, h | .tup xs, .fn _, _, h | .tup xs, .hnd, _, h | .tup xs, .scr _, _, h => by cases h
  | .lst xs, .dic _ _, _, h | .lst xs, .fn _, _, h | .lst xs, .hnd, _, h | .lst xs, .scr _, _, h => by cases h
  | .dic _ _, _, h, _ | .fn _, _, h, _ | .hnd, _, h, _ | .scr _, _, h, _ => by cases h
theorem pys_eqv : ∀ xs ys : List D, plains xs = true → plains ys = true → PyData.eqvAll (pys xs) (pys ys) = eqvs xs ys
  | [], [], _, _ | [], _ :: _, _, _ | _ :: _, [], _, _ => rfl
  | x :: xs, y :: ys, h, k => by
    obtain ⟨h1, h2⟩ := Bool.and_eq_true_iff.mp (show (x.plain && plains xs) = true from h)
    obtain ⟨k1, k2⟩ := Bool.and_eq_true_iff.mp (show (y.plain && plains ys) = true from k)
    show (PyData.eqv x.py y.py && PyData.eqvAll (pys xs) (pys ys)) = (x.eqv y && eqvs xs ys)
    rw [py_eqv x y h1 k1, pys_eqv xs ys h2 k2]
end
mutual
theorem Rep.dp (s : Same g.F H) : ∀ {d : D} {v : V}, Rep w g d v → d.plain = true → Dp w.K H v d.py
  | .non, _, h, _ => by rw [show _ = V.non from h]; exact .non
  | .bl b, _, h, _ => by rw [show _ = V.bl b from h]; exact .bl b
  | .int i, _, h, _ => by rw [show _ = V.int i from h]; exact .int i
  | .str x, _, h, _ => by rw [show _ = V.str x from h]; exact .str x
  | .tup ds, _, ⟨a, vs, e, h, _, r⟩, p => by rw [e]; exact .tup (SqT.same s h) (Reps.dp s r p)
  | .lst ds, _, ⟨a, vs, e, h, _, r⟩, p => by rw [e]; exact .lst (SqL.of (s _ _ h)) (Reps.dp s r p)
  | .dic _ _, _, _, h | .fn _, _, _, h | .hnd, _, _, h | .scr _, _, _, h => by cases h
theorem Reps.dp (s : Same g.F H) : ∀ {ds : List D} {vs : List V}, Reps w g ds vs → plains ds = true → DpAll w.K H vs (pys ds)
  | [], vs, h, _ => by rw [show vs = [] from h]; exact .nil
  | d :: ds, _, ⟨v, r, e, h, t⟩, p => by
    obtain ⟨h1, h2⟩ := Bool.and_eq_true_iff.mp (show (d.plain && plains ds) = true from p)
    rw [e]; exact .cons (Rep.dp s h h1) (Reps.dp s t h2)
end
theorem Pk.dp (s : Same g.F H) {d : D} {v : V} (h : Pk w g H d v) (p : d.plain = true) : Dp w.K H v d.py := by
  rcases h with h | ⟨a, rfl, _, o⟩
  · exact h.dp s p
  · cases d with
    | lst ds => obtain ⟨vs, h, _, r⟩ := o; exact .lst (SqL.of h) (r.dp s p)
    | dic _ _ => cases p
    | _ => exact o.elim
theorem eqD_some {a b : D} {t : Bool} (h : eqD a b = some t) : okE a = true ∧ okE b = true ∧ a.eqv b = t := by
  unfold eqD at h
  split at h
  · rename_i k
    obtain ⟨k1, k2⟩ := Bool.and_eq_true_iff.mp k
    cases h
    exact ⟨k1, k2, rfl⟩
  · cases h
/-- a comparison -/
def cmpT (o : Cop) : Option (List D) → D → D → Option TV := fun _ a b => (cmpD o a b).map fun t => .val (.bl t)
theorem cmpT_some {o : Cop} {hd : Option (List D)} {a b : D} {tv : TV} (h : cmpT o hd a b = some tv) : ∃ t, cmpD o a b = some t ∧ tv = .val (.bl t) := by
  obtain ⟨t, e, rfl⟩ := Option.map_eq_some_iff.mp h
  exact ⟨t, e, rfl⟩
theorem snd_eq (hK : X.K = w.K) (hu : X.A.units + 64 < cLine) : OpR X (compareOp .Eq) (rOp2 w (cmpT .eq)) := by
  refine ob_to (op_eqD hu) ?_
  rintro x y H Q ⟨g, σ, S, d, e, tv, hS, px, py, hf, q⟩
  obtain ⟨t, h1, rfl⟩ := cmpT_some hf
  obtain ⟨k1, k2, rfl⟩ := eqD_some h1
  exact ⟨d.py, e.py, hK ▸ px.dp hS.sub (plain_of k1), hK ▸ py.dp hS.sub (plain_of k2), shaped_of k1, shaped_of k2, by rw [py_eqv d e (plain_of k1) (plain_of k2)]; exact q.rep hS rfl⟩
theorem snd_ne (hK : X.K = w.K) (hu : X.A.units + 64 < cLine) : OpR X (compareOp .NotEq) (rOp2 w (cmpT .ne)) := by
  refine ob_to (op_neD hu) ?_
  rintro x y H Q ⟨g, σ, S, d, e, tv, hS, px, py, hf, q⟩
  obtain ⟨t, h1, rfl⟩ := cmpT_some hf
  obtain ⟨t, h2, rfl⟩ := Option.map_eq_some_iff.mp (show (eqD d e).map (!·) = some t from h1)
  obtain ⟨k1, k2, rfl⟩ := eqD_some h2
  exact ⟨d.py, e.py, hK ▸ px.dp hS.sub (plain_of k1), hK ▸ py.dp hS.sub (plain_of k2), shaped_of k1, shaped_of k2, by rw [py_eqv d e (plain_of k1) (plain_of k2)]; exact q.rep hS rfl⟩
theorem snd_le : OpR X (compareOp .LtE) (rOp2 w (cmpT .le)) := by
  refine ob_to op_le ?_
  rintro x y H Q ⟨g, σ, S, d, e, tv, hS, px, py, hf, q⟩
  obtain ⟨t, h1, rfl⟩ := cmpT_some hf
  change leC d e = some t at h1
  unfold leC at h1
  split at h1 <;> cases h1
  rename_i i j
  exact ⟨i, j, px.int, py.int, q.rep hS rfl⟩
theorem snd_ge : OpR X (compareOp .GtE) (rOp2 w (cmpT .ge)) := by
  refine ob_to op_ge ?_
  rintro x y H Q ⟨g, σ, S, d, e, tv, hS, px, py, hf, q⟩
  obtain ⟨t, h1, rfl⟩ := cmpT_some hf
  change leC e d = some t at h1
  unfold leC at h1
  split at h1 <;> cases h1
  rename_i i j
  exact ⟨j, i, px.int, py.int, q.rep hS rfl⟩
theorem snd_is : OpR X (compareOp .Is) (rOp2 w (cmpT .is)) := by
  refine ob_to (op_isN.or op_isBl) ?_
  rintro x y H Q ⟨g, σ, S, d, e, tv, hS, px, py, hf, q⟩
  obtain ⟨t, h1, rfl⟩ := cmpT_some hf
  change isC d e = some t at h1
  unfold isC at h1
  split at h1
  · cases h1
    refine .inl ⟨py.non, ?_⟩
    rw [px.non]; exact q.rep hS rfl
  · cases h1
    exact .inr ⟨_, _, px.bl, py.bl, q.rep hS rfl⟩
  · cases h1
    rename_i hn
    refine .inl ⟨py.non, ?_⟩
    have hx : x ≠ .non := fun z => by
      subst z
      rcases px with px | ⟨a, z, _⟩
      · cases d with
        | non => exact (hn rfl).elim
        | bl b => cases (show V.non = _ from px)
        | int b => cases (show V.non = _ from px)
        | str b => cases (show V.non = _ from px)
        | tup ds => obtain ⟨a, vs, z, _⟩ := px; cases z
        | lst ds => obtain ⟨a, vs, z, _⟩ := px; cases z
        | scr ds => obtain ⟨a, vs, z, _⟩ := px; cases z
        | dic ks ds => obtain ⟨a, od, u, ws, z, _⟩ := px; cases z
        | fn f => obtain ⟨a, _, z⟩ := px; cases z
        | hnd => obtain ⟨a, _, z⟩ := px; cases z
      · cases z
    rw [decide_eq_false hx]; exact q.rep hS rfl
  · cases h1
theorem snd_isN : OpR X (compareOp .IsNot) (rOp2 w (cmpT .isN)) := by
  refine ob_to (op_notN.or op_notBl) ?_
  rintro x y H Q ⟨g, σ, S, d, e, tv, hS, px, py, hf, q⟩
  obtain ⟨t, h1, rfl⟩ := cmpT_some hf
  obtain ⟨t, h2, rfl⟩ := Option.map_eq_some_iff.mp (show (isC d e).map (!·) = some t from h1)
  unfold isC at h2
  split at h2
  · cases h2
    refine .inl ⟨py.non, ?_⟩
    rw [px.non]; exact q.rep hS rfl
  · cases h2
    exact .inr ⟨_, _, px.bl, py.bl, q.rep hS rfl⟩
  · cases h2
    rename_i hn
    refine .inl ⟨py.non, ?_⟩
    have hx : x ≠ .non := fun z => by
      subst z
      rcases px with px | ⟨a, z, _⟩
      · cases d with
        | non => exact (hn rfl).elim
        | bl b => cases (show V.non = _ from px)
        | int b => cases (show V.non = _ from px)
        | str b => cases (show V.non = _ from px)
        | tup ds => obtain ⟨a, vs, z, _⟩ := px; cases z
        | lst ds => obtain ⟨a, vs, z, _⟩ := px; cases z
        | scr ds => obtain ⟨a, vs, z, _⟩ := px; cases z
        | dic ks ds => obtain ⟨a, od, u, ws, z, _⟩ := px; cases z
        | fn f => obtain ⟨a, _, z⟩ := px; cases z
        | hnd => obtain ⟨a, _, z⟩ := px; cases z
      · cases z
    rw [decide_eq_false hx]; exact q.rep hS rfl
  · cases h2
end
end Pf

/-! Pf: more operators. -/
namespace Pf
open PySem PySem.Spec PyProof.Rows L2
section
variable {w : Wd} {C : Cn} {W : WX} {g : Gh} {H : Hp} {σ : L2.St} {S : Sta} {Q : VK} {X : Cx}
theorem mulOk_iff {i j : Int} (h : mulOk i j = true) : CMul i j := by
  unfold mulOk at h
  simp only [Bool.or_eq_true, Bool.and_eq_true, decide_eq_true_eq] at h
  exact h
theorem rep_len (n : Nat) (ds : List D) : (rep n ds).length = n * ds.length := by
  unfold rep
  induction n with
  | zero => simp
  | succ n ih => rw [List.replicate_succ, List.flatten_cons, List.length_append, ih, Nat.add_mul, Nat.one_mul, Nat.add_comm]
theorem snd_mul (hK : X.K = w.K) : OpR X (binaryOp .Mult) (rOp2 w fun _ => binD .mul) := by
  refine ob_to (op_mul.or (op_rep.or op_repT)) ?_
  rintro x y H Q ⟨g, σ, S, d, e, tv, hS, px, py, hf, q⟩
  change mulD d e = some tv at hf
  unfold mulD at hf
  split at hf
  · rename_i i j
    split at hf
    · rename_i hc
      cases hf
      exact .inl ⟨i, j, px.int, py.int, mulOk_iff hc, q.rep hS rfl⟩
    · cases hf
  · rename_i xs k
    split at hf
    · rename_i hc
      obtain ⟨c1, c2, c3, c4⟩ := hc
      cases hf
      obtain ⟨a, vs, rfl, sa, ra, la, rx⟩ := px.tup hS.sub
      refine .inr (.inr ⟨a, k, vs, rfl, py.int, hK ▸ sa, fun z => ?_, c3, c4, by rw [← rx.length]; exact c1, fun p hp => q.tup hS (rx.rep _) ?_ hp⟩)
      · have := nil_of rx z
        subst this; cases c2
      · show (rep _ _).length ≤ _
        rw [rep_len]
        refine Nat.le_trans (Nat.mul_le_mul (show k.toNat ≤ 1000 by omega) c1) (by decide)
    · cases hf
  · rename_i xs k
    split at hf
    · rename_i hc
      obtain ⟨c1, c2, c3⟩ := hc
      cases hf
      obtain ⟨a, vs, rfl, ha, la, rx⟩ := px.lst hS.sub
      have hl : k.toNat * xs.length ≤ big := Nat.le_trans (Nat.mul_le_mul (show k.toNat ≤ 1000 by omega) c1) (by decide)
      refine .inr (.inl ⟨a, k, vs, rfl, py.int, ha, by omega, by omega, by rw [← rx.length, ← big_line, Nat.mul_comm]; exact hl, fun p hp => q.lst hS (rx.rep _) ?_ hp⟩)
      show (rep _ _).length ≤ _
      rw [rep_len]; exact hl
    · cases hf
  · cases hf
theorem snd_lt : OpR X (compareOp .Lt) (rOp2 w (cmpT .lt)) := by
  refine ob_to op_lt ?_
  rintro x y H Q ⟨g, σ, S, d, e, tv, hS, px, py, hf, q⟩
  obtain ⟨t, h1, rfl⟩ := cmpT_some hf
  change ltC d e = some t at h1
  unfold ltC at h1
  split at h1 <;> cases h1
  rename_i i j
  exact ⟨i, j, px.int, py.int, q.rep hS rfl⟩
theorem snd_gt : OpR X (compareOp .Gt) (rOp2 w (cmpT .gt)) := by
  refine ob_to op_gt ?_
  rintro x y H Q ⟨g, σ, S, d, e, tv, hS, px, py, hf, q⟩
  obtain ⟨t, h1, rfl⟩ := cmpT_some hf
  change ltC e d = some t at h1
  unfold ltC at h1
  split at h1 <;> cases h1
  rename_i i j
  exact ⟨j, i, px.int, py.int, q.rep hS rfl⟩
/-- the operators that are known -/
def okB : Bop → Bool := fun _ => true
theorem snd_binop (hK : X.K = w.K) {op : Operator} {o : Bop} (h : cBop op = some o) : OpR X (binaryOp op) (rOp2 w fun _ => binD o) := by
  cases op <;> cases h
  · exact snd_add hK
  · exact snd_sub
  · exact snd_mul hK
  · exact snd_mod
  · exact snd_pow
  · exact snd_shl
  · exact snd_fdiv
def okC : Cop → Bool
  | .mem | .memN => false
  | _ => true
theorem snd_cmpop (hK : X.K = w.K) (hu : X.A.units + 64 < cLine) {op : CmpOp} {o : Cop} (h : cCop op = o) (k : okC o = true) : OpR X (compareOp op) (rOp2 w (cmpT o)) := by
  subst h
  cases op
  · exact snd_eq hK hu
  · exact snd_ne hK hu
  · exact snd_lt
  · exact snd_le
  · exact snd_gt
  · exact snd_ge
  · exact snd_is
  · exact snd_isN
  · cases k
  · cases k
end
end Pf

/-! Pf, part 6: each expression's reading, by the hand layer's rules. -/
namespace Pf
open PySem PySem.Spec PyProof.Rows L2
section
variable {w : Wd} {C : Cn} {W : WX} {g : Gh} {H : Hp} {σ : L2.St} {S : Sta} {Q : VK} {X : Cx} {pos : Pos}
theorem pe_const {e : Expr} {d : D} {v : V} (h : PE X e (tC v)) (r : ∀ g, Rep w g d v) : PE X e (rdE w C W (.c d)) := pe_to h fun σ H Q ⟨g, S, hS, q⟩ => q g H v hS ExtE.refl (r g)
theorem snd_v {i : Nat} {x : Str} (hN : X.N[i]? = some x) (hv : Vis X.env.scope x) (hd : (x == ("__debug__" : Str)) = false) (hc : (x == ("__classdict__" : Str)) = false) : PE X (.Name x pos) (rdE w C W (.v i)) := by
  refine pe_to (pe_ghost (pe_var hN hv hd hc)) fun σ H Q ⟨g, S, hS, q⟩ => ?_
  change Out w W (RTV w σ) Q g σ S H (readV i S) at q
  cases hr : readV i S with
  | bad => rw [hr] at q; exact q.elim
  | exc x s => unfold readV at hr; split at hr <;> cases hr
  | ok tv S' =>
    rw [hr] at q
    have hx : ∃ v, σ[i]? = some (some v) := by
      have hs := hS.slots i
      unfold readV at hr
      split at hr
      · rename_i d e; rw [e] at hs; obtain ⟨v, h, _⟩ := hs; exact ⟨v, getD_some h⟩
      · rename_i d e; rw [e] at hs; obtain ⟨a, h, _⟩ := hs; exact ⟨_, getD_some h⟩
      · cases hr
    obtain ⟨v, hv⟩ := hx
    exact ⟨v, hv, (readV_step hS hr hv).imp fun H2 ⟨g2, a, b, c⟩ => q g2 H2 v a b c⟩
theorem snd_p {i : Nat} {x : Str} (hN : X.N[i]? = some x) (hv : Vis X.env.scope x) (hd : (x == ("__debug__" : Str)) = false) (hc : (x == ("__classdict__" : Str)) = false) : PE X (.Name x pos) (rdE w C W (.p i)) := by
  refine pe_to (pe_var hN hv hd hc) fun σ H Q ⟨g, S, hS, q⟩ => ?_
  change Out w W (RTV w σ) Q g σ S H (readP i S) at q
  cases hr : readP i S with
  | bad => rw [hr] at q; exact q.elim
  | exc x s => unfold readP at hr; split at hr <;> cases hr
  | ok tv S' =>
    rw [hr] at q
    have hx : ∃ v, σ[i]? = some (some v) := by
      have hs := hS.slots i
      unfold readP at hr
      split at hr
      · rename_i d e; rw [e] at hs; obtain ⟨v, h, _⟩ := hs; exact ⟨v, getD_some h⟩
      · rename_i d e; rw [e] at hs; obtain ⟨a, h, _⟩ := hs; exact ⟨_, getD_some h⟩
      · cases hr
    obtain ⟨v, hv⟩ := hx
    obtain ⟨rfl, r⟩ := readP_step hS hr hv
    exact ⟨v, hv, q g H v hS ExtE.refl r⟩
theorem readQ_eq (i : Nat) (s : Sta) : readQ i s = readV i s ∨ readQ i s = readP i s := by
  unfold readQ readV readP
  cases s.env.getD i .un with
  | un => exact .inl rfl
  | val d => exact .inl rfl
  | own d => cases d <;> first | exact .inr rfl | exact .inl rfl
theorem snd_q {i : Nat} {x : Str} (hN : X.N[i]? = some x) (hv : Vis X.env.scope x) (hd : (x == ("__debug__" : Str)) = false) (hc : (x == ("__classdict__" : Str)) = false) : PE X (.Name x pos) (rdE w C W (.q i)) := by
  refine ⟨fun pins s σ H Q I ⟨g, S, hS, q⟩ => ?_⟩
  change Out w W (RTV w σ) Q g σ S H (readQ i S) at q
  rcases readQ_eq i S with e | e
  · rw [e] at q; exact (snd_v (C := C) (W := W) hN hv hd hc).run pins s σ H Q I ⟨g, S, hS, q⟩
  · rw [e] at q; exact (snd_p (C := C) (W := W) hN hv hd hc).run pins s σ H Q I ⟨g, S, hS, q⟩
/-- shared -/
theorem pe_share {e : Expr} {a : E} (h : PE X e (rdE w C W a)) : PE X e (rdSh w C W a) := by
  refine pe_to (pe_ghost h) fun σ H Q ⟨g, S, hS, q⟩ => ⟨g, S, hS, (Out.bind lateD q).imp ?_⟩
  rintro v H1 ⟨g1, S1, tv, _, s1, e1, r1, k⟩
  cases hs : share tv with
  | none =>
    have z := k _ _ e1
    rw [hs] at z; exact z.elim
  | some d =>
    refine (share_step e1 s1 r1 hs).imp fun H2 ⟨g2, a2, b2, c2⟩ => ?_
    have z := k _ _ b2
    rw [hs] at z
    exact z g2 H2 v a2 ExtE.refl c2
theorem star_cons {e : Expr} {es : List Expr} {env : Env} (h : ∀ v p, e ≠ .Starred v p) : starEach (e :: es) env = (false, eval e env) :: starEach es env := by
  cases e <;> first | rfl | exact (h _ _ rfl).elim
/-- a list of expressions, none of them starred -/
def NoStar (es : List Expr) : Prop := ∀ e ∈ es, ∀ v p, e ≠ .Starred v p
theorem star_plain : ∀ {es : List Expr} {env : Env}, NoStar es → (starEach es env).any (·.1) = false
  | [], _, _ => rfl
  | e :: es, env, h => by
    rw [star_cons (h e List.mem_cons_self), List.any_cons, star_plain fun x hx => h x (List.mem_cons_of_mem _ hx)]; rfl
theorem back_plain {es : List Expr} {env : Env} {p : Pos} (h : NoStar es) : (backTo p (starEach es env)).any (·.1) = false := by
  have q := star_plain (env := env) h
  unfold backTo
  rw [List.any_map]
  exact q
theorem pa_shnil : PA X [] (rdA w C W .nil) := pa_to pa_nil fun σ H Q ⟨g, S, hS, q⟩ => q g H [] hS ExtE.refl rfl
theorem pa_shcons {e : Expr} {es : List Expr} {a b : E} (h : ∀ v p, e ≠ .Starred v p) (ha : PE X e (rdE w C W a)) (hb : PA X es (rdA w C W b)) : PA X (e :: es) (rdA w C W (.cons a b)) := by
  refine pa_to (pa_cons (pe_share ha) hb (star_cons h)) fun σ H Q ⟨g, S, hS, q⟩ => ⟨g, S, hS, ?_⟩
  have q' : Out w W (RDs w) Q g σ S H (((ev C a S).bind fun x s => R.of (share x) s).bind fun d s => (evs C b s).bind fun ds s => .ok (d :: ds) s) := by
    have e : ev C a S = ev C a S := rfl
    change Out w W (RDs w) Q g σ S H ((ev C a S).bind fun x s => (R.of (share x) s).bind fun d s => (evs C b s).bind fun ds s => .ok (d :: ds) s) at q
    cases hr : ev C a S with
    | bad => rw [hr] at q; exact q
    | exc x s => rw [hr] at q; exact q
    | ok tv s => rw [hr] at q; exact q
  refine (Out.bind lateDs q').imp ?_
  rintro v H1 ⟨g1, S1, d, _, s1, e1, r1, k1⟩
  refine ⟨g1, S1, s1, (Out.bind lateDs (k1 _ _ e1)).imp ?_⟩
  rintro vs H2 ⟨g2, S2, ds, _, s2, e2, r2, k2⟩
  exact k2 _ _ e2 g2 H2 (v :: vs) s2 ExtE.refl ⟨v, vs, rfl, Rep.mono e2.le r1, r2⟩
theorem pa_pknil : PA X [] (rdP w C W .nil) := pa_to pa_nil fun σ H Q ⟨g, S, hS, q⟩ => q g H [] hS ExtE.refl rfl
theorem pa_pkcons {e : Expr} {es : List Expr} {a b : E} (h : ∀ v p, e ≠ .Starred v p) (ha : PE X e (rdE w C W a)) (hb : PA X es (rdP w C W b)) : PA X (e :: es) (rdP w C W (.cons a b)) := by
  refine pa_to (pa_cons ha hb (star_cons h)) fun σ H Q ⟨g, S, hS, q⟩ => ⟨g, S, hS, ?_⟩
  refine (Out.bind latePs q).imp ?_
  rintro v H1 ⟨g1, S1, tv, _, s1, e1, r1, k1⟩
  refine ⟨g1, S1, s1, (Out.bind latePs (k1 _ _ e1)).imp ?_⟩
  rintro vs H2 ⟨g2, S2, ds, _, s2, e2, r2, k2⟩
  exact k2 _ _ e2 g2 H2 (v :: vs) s2 ExtE.refl ⟨v, vs, rfl, r1.pk.step e2, r2⟩
/-- how many things a list of expressions has -/
def E.cnt : E → Nat
  | .cons _ b => b.cnt + 1
  | _ => 0
theorem evs_len : ∀ {a : E} {s s' : Sta} {ds : List D}, evs C a s = .ok ds s' → ds.length = a.cnt
  | .nil, s, s', ds, h => by cases h; rfl
  | .cons a b, s, s', ds, h => by
    change ((ev C a s).bind fun x s => (R.of (share x) s).bind fun d s => (evs C b s).bind fun ds s => .ok (d :: ds) s) = _ at h
    cases h1 : ev C a s with
    | bad => rw [h1] at h; cases h
    | exc x s => rw [h1] at h; cases h
    | ok tv s1 =>
      rw [h1] at h
      change ((R.of (share tv) s1).bind fun d s => (evs C b s).bind fun ds s => .ok (d :: ds) s) = _ at h
      cases h2 : share tv with
      | none => rw [h2] at h; cases h
      | some d =>
        rw [h2] at h
        change ((evs C b s1).bind fun ds s => .ok (d :: ds) s) = _ at h
        cases h3 : evs C b s1 with
        | bad => rw [h3] at h; cases h
        | exc x s => rw [h3] at h; cases h
        | ok es s2 =>
          rw [h3] at h; cases h
          exact congrArg (· + 1) (evs_len h3)
  | .c _, s, s', ds, h | .v _, s, s', ds, h | .p _, s, s', ds, h | .q _, s, s', ds, h | .tup _, s, s', ds, h | .lst _, s, s', ds, h | .dct _, s, s', ds, h | .bin _ _ _, s, s', ds, h | .neg _, s, s', ds, h | .not _, s, s', ds, h
  | .and _ _, s, s', ds, h | .or _ _, s, s', ds, h | .cmp _ _ _, s, s', ds, h | .cmp2 _ _ _ _ _, s, s', ds, h | .ite _ _ _, s, s', ds, h | .idx _ _, s, s', ds, h | .slc _ _ _, s, s', ds, h | .rev _, s, s', ds, h | .call _ _, s, s', ds, h
  | .callv _ _, s, s', ds, h | .blt _ _, s, s', ds, h | .bli _ _, s, s', ds, h | .blr _ _, s, s', ds, h | .mth _ _ _, s, s', ds, h | .isi _ _, s, s', ds, h | .comp _ _ _ _, s, s', ds, h | .dcomp _ _ _ _ _, s, s', ds, h | .rng _, s, s', ds, h | .zip _, s, s', ds, h
  | .enm _, s, s', ds, h | .itm _, s, s', ds, h | .lam _ _, s, s', ds, h | .tv _, s, s', ds, h => by cases h
theorem snd_tup {es : List Expr} {a : E} {k : Nat} (ha : PA X es (rdA w C W a)) (hc : a.cnt ≤ 1000) : PE X (.Tuple es k pos) (rdE w C W (.tup a)) := by
  refine pe_to (pe_tup ha) fun σ H Q ⟨g, S, hS, q⟩ => ⟨g, S, hS, (Out.bind lateTV q).imp ?_⟩
  rintro vs H1 ⟨g1, S1, ds, hr, s1, e1, r1, k1⟩
  have hl : ds.length ≤ big := by rw [evs_len hr]; exact Nat.le_trans hc (by decide)
  refine ⟨by rw [← r1.length, ← big_line]; exact hl, fun p hp => ?_⟩
  obtain ⟨g', a, b, c⟩ := s1.newTup hp r1 hl
  exact k1 _ _ e1 g' _ _ a b c
theorem snd_lst {es : List Expr} {a : E} (ha : PA X es (rdA w C W a)) (hc : a.cnt ≤ 1000) : PE X (.List es pos) (rdE w C W (.lst a)) := by
  refine pe_to (pe_lst ha) fun σ H Q ⟨g, S, hS, q⟩ => ⟨g, S, hS, (Out.bind lateTV q).imp ?_⟩
  rintro vs H1 ⟨g1, S1, ds, hr, s1, e1, r1, k1⟩
  have hl : ds.length ≤ big := by rw [evs_len hr]; exact Nat.le_trans hc (by decide)
  refine ⟨by rw [← r1.length, ← big_line]; exact hl, fun p hp => ?_⟩
  obtain ⟨a, b, c⟩ := s1.newLst (H0 := H1) (fun _ z => z) hp r1 hl
  exact k1 _ _ e1 g1 _ _ a b c
theorem snd_dct0 : PE X (.Dict [] [] pos) (rdE w C W (.dct .nil)) := by
  refine pe_to pe_dnewK fun σ H Q ⟨g, S, hS, q⟩ => ?_
  intro p hp
  obtain ⟨a, b⟩ := hS.newO hp (.dK [])
  exact q g _ _ a b ⟨p, rfl, .of hp, Same.free hS.sub hp, ⟨_, [], upd_same, .inl ⟨[], rfl, rfl, rfl⟩, by decide, rfl⟩, hS.notOwned hp⟩
theorem snd_and {a : Expr} {b : Expr} {rest : List Expr} {a' b' : E} (ha : PE X a (rdE w C W a')) (hb : PE X (.BoolOp .And (b :: rest) pos) (rdE w C W b')) : PE X (.BoolOp .And (a :: b :: rest) pos) (rdE w C W (.and a' b')) := by
  refine pe_to (pe_and ha hb) fun σ H Q ⟨g, S, hS, q⟩ => ⟨g, S, hS, (Out.bind lateTV q).imp ?_⟩
  rintro v H1 ⟨g1, S1, tv, hr, s1, e1, r1, k1⟩
  have z := k1 _ _ e1
  split at z
  · rename_i t
    obtain rfl : v = .bl t := r1
    refine ⟨t, rfl, ?_⟩
    split at z
    · rename_i ht; rw [if_pos ht]; exact ⟨g1, S1, s1, z⟩
    · rename_i ht; rw [if_neg ht]; exact z g1 H1 _ s1 ExtE.refl rfl
  · exact z.elim
theorem snd_or {a : Expr} {b : Expr} {rest : List Expr} {a' b' : E} (ha : PE X a (rdE w C W a')) (hb : PE X (.BoolOp .Or (b :: rest) pos) (rdE w C W b')) : PE X (.BoolOp .Or (a :: b :: rest) pos) (rdE w C W (.or a' b')) := by
  refine pe_to (pe_or ha hb) fun σ H Q ⟨g, S, hS, q⟩ => ⟨g, S, hS, (Out.bind lateTV q).imp ?_⟩
  rintro v H1 ⟨g1, S1, tv, hr, s1, e1, r1, k1⟩
  have z := k1 _ _ e1
  split at z
  · rename_i t
    obtain rfl : v = .bl t := r1
    refine ⟨t, rfl, ?_⟩
    split at z
    · rename_i ht; rw [if_pos ht]; exact z g1 H1 _ s1 ExtE.refl rfl
    · rename_i ht; rw [if_neg ht]; exact ⟨g1, S1, s1, z⟩
  · exact z.elim
/-! ### truth, tests -/
theorem reps_empty {ds : List D} {vs : List V} (r : Reps w g ds vs) : (!ds.isEmpty) = !vs.isEmpty := by
  cases ds with
  | nil => rw [show vs = [] from r]; rfl
  | cons x xs => obtain ⟨_, _, rfl, _⟩ := r; rfl
theorem tru_of (hK : X.K = w.K) {d : D} {v : V} {t : Bool} (hS : Same g.F H) (p : Pk w g H d v) (h : truth d = some t) : TruV X.K v H t := by
  cases d with
  | non => cases h; rw [p.non]; rfl
  | bl b => cases h; rw [p.bl]; rfl
  | int i => cases h; rw [p.int]; rfl
  | str s =>
    change (if s.length ≤ big then some (s.length != 0) else none) = some t at h
    split at h <;> cases h
    rename_i hl
    rw [p.str]
    refine ⟨by rw [← big_line]; exact hl, ?_⟩
    cases hz : s.length with
    | zero => rfl
    | succ n =>
      show true = _
      symm
      exact (bne_iff_ne.mpr (by omega))
  | tup ds =>
    cases h
    obtain ⟨a, vs, rfl, s, _, _, r⟩ := p.tup hS
    exact .inr (.inl ⟨vs, hK ▸ s, reps_empty r⟩)
  | lst ds =>
    cases h
    obtain ⟨a, vs, rfl, s, _, r⟩ := p.lst hS
    exact .inl ⟨vs, SqL.of s, reps_empty r⟩
  | dic ks vs => cases h
  | fn f => cases h
  | hnd => cases h
  | scr ds => cases h
/-- a value as a test -/
theorem snd_tvR {e : Expr} {a : E} (hK : X.K = w.K) (ha : PE X e (rdE w C W a)) (he : ∀ whole, isTrue e X.env whole = (do let v ← whole; standAt e.pos; holding [v] (truthy v))) : PT X e (rdT w C W (.tv a)) := by
  refine pt_to (pt_truth ha he) fun σ H Q ⟨g, S, hS, q⟩ => ⟨g, S, hS, (Out.bind lateB q).imp ?_⟩
  rintro v H1 ⟨g1, S1, tv, hr, s1, e1, r1, k1⟩
  obtain ⟨t, q1, q2⟩ := Out.of lateB (k1 _ _ e1)
  exact ⟨t, tru_of hK s1.sub r1.pk q1, q2 g1 H1 t s1 ExtE.refl rfl⟩
theorem snd_notV {e : Expr} {a : E} (hK : X.K = w.K) (ha : PE X e (rdE w C W a)) : PE X (.UnaryOp .Not e pos) (rdE w C W (.not (.tv a))) := by
  refine pe_to (pe_notT ha) fun σ H Q ⟨g, S, hS, q⟩ => ⟨g, S, hS, ?_⟩
  have q' : Out w W (RTV w σ) Q g σ S H ((ev C a S).bind fun x s => (R.of (truth x.d) s).bind fun b s => .ok (.val (.bl (!b))) s) := by
    change Out w W (RTV w σ) Q g σ S H (((ev C a S).bind fun x s => R.of (truth x.d) s).bind fun b s => .ok (.val (.bl (!b))) s) at q
    cases hr : ev C a S with
    | bad => rw [hr] at q; exact q
    | exc x s => rw [hr] at q; exact q
    | ok tv s => rw [hr] at q; exact q
  refine (Out.bind lateTV q').imp ?_
  rintro v H1 ⟨g1, S1, tv, hr, s1, e1, r1, k1⟩
  have z := k1 _ _ e1
  cases ht : truth tv.d with
  | none => rw [ht] at z; exact z.elim
  | some t =>
    rw [ht] at z
    exact ⟨t, tru_of hK s1.sub r1.pk ht, z g1 H1 _ s1 ExtE.refl rfl⟩
theorem snd_cmp {o : Cop} {op : CmpOp} {a b : Expr} {a' b' : E} (hr : OpR X (compareOp op) (rOp2 w (cmpT o))) (hm : behindInMarks op b = false) (ha : PE X a (rdE w C W a')) (hb : PE X b (rdE w C W b')) :
    PE X (.Compare a [op] [b] pos) (rdE w C W (.cmp o a' b')) := pe_to (pe_cmpR hr ha hb hm) fun σ H Q ⟨g, S, hS, h⟩ => two (f := cmpT o) hS h
theorem snd_cmpT {o : Cop} {op : CmpOp} {a b : Expr} {a' b' : E} (hr : OpR X (compareOp op) (rOp2 w (cmpT o))) (hm : behindInMarks op b = false) (ha : PE X a (rdE w C W a')) (hb : PE X b (rdE w C W b')) :
    PT X (.Compare a [op] [b] pos) (rdT w C W (.tv (.cmp o a' b'))) := by
  refine pt_to (pt_cmpR hr ha hb hm) fun σ H Q ⟨g, S, hS, h⟩ => two (f := cmpT o) (W := W) (Q := fun x H' => ∃ k, x = .bl k ∧ Q k H') hS ?_
  change Out w W RB Q g σ S H (((ev C a' S).bind fun x s => (ev C b' s).bind fun y s => R.of (cmpT o s.hd x.d y.d) s).bind fun x s => R.of (truth x.d) s) at h
  cases hq : (ev C a' S).bind fun x s => (ev C b' s).bind fun y s => R.of (cmpT o s.hd x.d y.d) s with
  | bad => rw [hq] at h; exact h.elim
  | exc x s => rw [hq] at h; exact h
  | ok tv S' =>
    rw [hq] at h
    have ht : ∃ t, tv = .val (.bl t) := by
      cases h1 : ev C a' S with
      | bad => rw [h1] at hq; cases hq
      | exc x s => rw [h1] at hq; cases hq
      | ok x s =>
        rw [h1] at hq
        change (ev C b' s).bind _ = _ at hq
        cases h2 : ev C b' s with
        | bad => rw [h2] at hq; cases hq
        | exc x s => rw [h2] at hq; cases hq
        | ok y s2 =>
          rw [h2] at hq
          change R.of (cmpT o s2.hd x.d y.d) s2 = _ at hq
          cases h3 : cmpT o s2.hd x.d y.d with
          | none => rw [h3] at hq; cases hq
          | some z => rw [h3] at hq; obtain ⟨t, _, rfl⟩ := cmpT_some h3; cases hq; exact ⟨t, rfl⟩
    obtain ⟨t, rfl⟩ := ht
    exact fun g' H' v a b c => ⟨t, c, h g' H' t a b rfl⟩
theorem snd_tNot {e : Expr} {a : E} (ha : PT X e (rdT w C W a)) : PT X (.UnaryOp .Not e pos) (rdT w C W (.not a)) := by
  refine pt_to (pt_not ha) fun σ H Q ⟨g, S, hS, q⟩ => ⟨g, S, hS, (Out.bind lateB q).imp ?_⟩
  rintro t H1 ⟨g1, S1, b, hr, s1, e1, r1, k1⟩
  cases r1
  exact k1 _ _ e1 g1 H1 _ s1 ExtE.refl rfl
def rdW (w : Wd) (C : Cn) (W : WX) (a : E) : TT := rdT w C W a
theorem pw_to {e : Expr} {t t' : TT} (h : PW X e t) (k : ∀ σ H Q, t' σ H Q → t σ H Q) : PW X e t' := ⟨fun wh pins s σ H Q I q => h.run wh pins s σ H Q I (k σ H Q q)⟩
theorem snd_tAnd {a b : Expr} {rest : List Expr} {a' b' : E} (ha : PT X a (rdT w C W a')) (hb : PW X (.BoolOp .And (b :: rest) pos) (rdT w C W b')) : PW X (.BoolOp .And (a :: b :: rest) pos) (rdT w C W (.and a' b')) := by
  refine pw_to (pw_and ha hb) fun σ H Q ⟨g, S, hS, q⟩ => ⟨g, S, hS, (Out.bind lateB q).imp ?_⟩
  rintro t H1 ⟨g1, S1, b, hr, s1, e1, r1, k1⟩
  cases r1
  have z := k1 _ _ e1
  cases t with
  | true => exact ⟨g1, S1, s1, z⟩
  | false => exact z g1 H1 _ s1 ExtE.refl rfl
theorem snd_tOr {a b : Expr} {rest : List Expr} {a' b' : E} (ha : PT X a (rdT w C W a')) (hb : PW X (.BoolOp .Or (b :: rest) pos) (rdT w C W b')) : PW X (.BoolOp .Or (a :: b :: rest) pos) (rdT w C W (.or a' b')) := by
  refine pw_to (pw_or ha hb) fun σ H Q ⟨g, S, hS, q⟩ => ⟨g, S, hS, (Out.bind lateB q).imp ?_⟩
  rintro t H1 ⟨g1, S1, b, hr, s1, e1, r1, k1⟩
  cases r1
  have z := k1 _ _ e1
  cases t with
  | true => exact z g1 H1 _ s1 ExtE.refl rfl
  | false => exact ⟨g1, S1, s1, z⟩
theorem snd_ite {c a b : Expr} {c' a' b' : E} (hc : PT X c (rdT w C W c')) (ha : PE X a (rdE w C W a')) (hb : PE X b (rdE w C W b')) : PE X (.IfExp c a b pos) (rdE w C W (.ite c' a' b')) := by
  refine pe_to (pe_ifExp hc ha hb) fun σ H Q ⟨g, S, hS, q⟩ => ⟨g, S, hS, (Out.bind lateTV q).imp ?_⟩
  rintro t H1 ⟨g1, S1, b, hr, s1, e1, r1, k1⟩
  cases r1
  have z := k1 _ _ e1
  cases t with
  | true => exact ⟨g1, S1, s1, z⟩
  | false => exact ⟨g1, S1, s1, z⟩
theorem snd_neg {e : Expr} {a : E} (ha : PE X e (rdE w C W a)) : PE X (.UnaryOp .USub e pos) (rdE w C W (.neg a)) := by
  refine pe_to (pe_un un_neg ha) fun σ H Q ⟨g, S, hS, q⟩ => ⟨g, S, hS, (Out.bind lateTV q).imp ?_⟩
  rintro v H1 ⟨g1, S1, tv, hr, s1, e1, r1, k1⟩
  have z := k1 _ _ e1
  split at z
  · exact ⟨_, r1, z g1 H1 _ s1 ExtE.refl rfl⟩
  · exact z.elim
/-- a < b < c -/
theorem cmp2_run {o o' : Cop} {a' b' c' : E} (h : rdE w C W (.cmp2 o o' a' b' c') σ H Q) : tChain (rOp2 w (cmpT o)) (rOp2 w (cmpT o')) (rdE w C W a') (rdE w C W b') (rdE w C W c') σ H Q := by
  obtain ⟨g, S, hS, q⟩ := h
  refine ⟨g, S, hS, (Out.bind lateTV q).imp ?_⟩
  rintro x H1 ⟨g1, S1, tx, _, s1, e1, r1, k1⟩
  refine ⟨g1, S1, s1, (Out.bind lateTV (k1 _ _ e1)).imp ?_⟩
  rintro y H2 ⟨g2, S2, ty, _, s2, e2, r2, k2⟩
  have z := k2 _ _ e2
  cases ht : cmpD o tx.d ty.d with
  | none => rw [ht] at z; exact z.elim
  | some t =>
    rw [ht] at z
    refine ⟨g2, σ, S2, tx.d, ty.d, .val (.bl t), s2, r1.pk.step e2, r2.pk, by show (cmpD o tx.d ty.d).map _ = _; rw [ht]; rfl, fun g' H' v s3 e3 r3 => ⟨t, r3, ?_⟩⟩
    have z' := Out.shift lateTV z e3
    cases t with
    | true =>
      have z2 : Out w W (RTV w σ) Q g' σ S2 H' ((ev C c' S2).bind fun z s => R.of ((cmpD o' ty.d z.d).map fun t => .val (.bl t)) s) := z'
      refine ⟨g', S2, s3, (Out.bind lateTV z2).imp ?_⟩
      rintro u H4 ⟨g4, S4, tu, _, s4, e4, r4, k4⟩
      obtain ⟨tv, q1, q2⟩ := Out.of lateTV (k4 _ _ e4)
      exact ⟨g4, σ, S4, ty.d, tu.d, tv, s4, (r2.pk.step e3).step e4, r4.pk, q1, q2⟩
    | false => exact z' g' H' _ s3 ExtE.refl rfl
theorem snd_cmp2 {o o' : Cop} {op op' : CmpOp} {a b c : Expr} {a' b' c' : E} (hr : OpR X (compareOp op) (rOp2 w (cmpT o))) (hr' : OpR X (compareOp op') (rOp2 w (cmpT o'))) (hm : lastMarks [op, op'] [b, c] = false)
    (ha : PE X a (rdE w C W a')) (hb : PE X b (rdE w C W b')) (hc : PE X c (rdE w C W c')) : PE X (.Compare a [op, op'] [b, c] pos) (rdE w C W (.cmp2 o o' a' b' c')) :=
  pe_to (pe_chain hr hr' ha hb hc hm) fun σ H Q h => cmp2_run h
/-- a test of an expression that gives a bool -/
theorem tv_bool {e : E} (hb : ∀ s tv s', ev C e s = .ok tv s' → ∃ t, tv = .val (.bl t)) {Q : Bool → Hp → Prop} (h : rdT w C W (.tv e) σ H Q) : rdE w C W e σ H fun x H' => ∃ k, x = .bl k ∧ Q k H' := by
  obtain ⟨g, S, hS, q⟩ := h
  refine ⟨g, S, hS, ?_⟩
  change Out w W RB Q g σ S H ((ev C e S).bind fun x s => R.of (truth x.d) s) at q
  cases hq : ev C e S with
  | bad => rw [hq] at q; exact q.elim
  | exc x s => rw [hq] at q; exact q
  | ok tv S' =>
    rw [hq] at q
    obtain ⟨t, rfl⟩ := hb _ _ _ hq
    exact fun g' H' v s1 e1 r1 => ⟨t, r1, q g' H' t s1 e1 rfl⟩
theorem R.bind_ok {α β : Type} {r : R α} {f : α → Sta → R β} {b : β} {s' : Sta} (h : r.bind f = .ok b s') : ∃ a s, r = .ok a s ∧ f a s = .ok b s' := by
  cases r with
  | ok a s => exact ⟨a, s, rfl, h⟩
  | exc x s => cases h
  | bad => cases h
theorem R.of_ok {α : Type} {o : Option α} {a : α} {s s' : Sta} (h : Pf.R.of o s = .ok a s') : o = some a ∧ s' = s := by
  cases o with
  | none => cases h
  | some b => cases h; exact ⟨rfl, rfl⟩
theorem cmp2_bool {o o' : Cop} {a b c : E} : ∀ s tv s', ev C (.cmp2 o o' a b c) s = .ok tv s' → ∃ t, tv = .val (.bl t) := fun s tv s' h => by
  obtain ⟨x, s1, _, h⟩ := R.bind_ok (show (ev C a s).bind _ = _ from h)
  obtain ⟨y, s2, _, h⟩ := R.bind_ok h
  obtain ⟨t, s3, _, h⟩ := R.bind_ok h
  split at h
  · obtain ⟨z, s4, _, h⟩ := R.bind_ok h
    obtain ⟨h, _⟩ := R.of_ok h
    obtain ⟨t, _, rfl⟩ := Option.map_eq_some_iff.mp h
    exact ⟨t, rfl⟩
  · cases h; exact ⟨_, rfl⟩
theorem snd_cmp2T {o o' : Cop} {op op' : CmpOp} {a b c : Expr} {a' b' c' : E} (hr : OpR X (compareOp op) (rOp2 w (cmpT o))) (hr' : OpR X (compareOp op') (rOp2 w (cmpT o'))) (hm : lastMarks [op, op'] [b, c] = false)
    (ha : PE X a (rdE w C W a')) (hb : PE X b (rdE w C W b')) (hc : PE X c (rdE w C W c')) : PT X (.Compare a [op, op'] [b, c] pos) (rdT w C W (.tv (.cmp2 o o' a' b' c'))) :=
  pt_to (pt_chain hr hr' ha hb hc hm) fun σ H Q h => cmp2_run (tv_bool cmp2_bool h)
end
end Pf

/-! Pf, part 7: items, slices, built-ins, calls. -/
namespace Pf
open PySem PySem.Spec PyProof.Rows L2
section
variable {w : Wd} {C : Cn} {W : WX} {g : Gh} {H : Hp} {σ : L2.St} {S : Sta} {Q : VK} {X : Cx} {pos : Pos}
theorem atD_some {ds : List D} {vs : List V} {i : Int} {d : D} (r : Reps w g ds vs) (h : atD ds i = some d) : ∃ v, atI vs i = some v ∧ Rep w g d v := by
  obtain ⟨j, hj, hd⟩ := Option.bind_eq_some_iff.mp h
  obtain ⟨v, hv, rv⟩ := r.get hd
  refine ⟨v, ?_, rv⟩
  unfold atI
  rw [← r.length]
  rw [show ixN ds.length i = some j from hj]
  exact hv
theorem ix_to {r r' : R2} (h : IxR X r) (k : ∀ x y H Q, r' x y H Q → r x y H Q) : IxR X r' := fun va sl pins s σ H x y v u Q I rx ry q => h va sl pins s σ H x y v u Q I rx ry (k _ _ _ _ q)
def idxT : Option (List D) → D → D → Option TV := fun hd a b => (idxD hd a b).map .val
/-- d[k]: told apart (the dicts' module) -/
def IxDic (X : Cx) (w : Wd) : Prop := IxR X fun x y H Q => ∃ g σ S ks vs k d, Sr w g σ S H ∧ Pk w g H (.dic ks vs) x ∧ Pk w g H k y ∧ k.key = true ∧ dget ks vs k = some d ∧ Fin w g σ S H (.val d) Q
theorem snd_ix (hK : X.K = w.K) (hD : IxDic X w) : IxR X (rOp2 w idxT) := by
  refine ix_to ((ix_list.or ix_tup).or hD) ?_
  rintro x y H Q ⟨g, σ, S, d, e, tv, hS, px, py, hf, q⟩
  obtain ⟨r, h1, rfl⟩ := Option.map_eq_some_iff.mp (show (idxD S.hd d e).map TV.val = some tv from hf)
  unfold idxD at h1
  split at h1
  · obtain ⟨a, vs, rfl, sa, _, _, rr⟩ := px.tup hS.sub
    obtain ⟨v, h2, rv⟩ := atD_some rr h1
    exact .inl (.inr ⟨a, vs, _, v, rfl, py.int, hK ▸ sa, h2, q.rep hS rv⟩)
  · obtain ⟨a, vs, rfl, sa, _, rr⟩ := px.lst hS.sub
    obtain ⟨v, h2, rv⟩ := atD_some rr h1
    exact .inl (.inl ⟨a, vs, _, v, rfl, py.int, SqL.of sa, h2, q.rep hS rv⟩)
  · obtain ⟨ds, e1, h2⟩ := Option.bind_eq_some_iff.mp h1
    obtain ⟨a, vs, ea, f, hv, _, rr, _⟩ := hS.hand.at_ ds e1
    obtain ⟨v, h3, rv⟩ := atD_some rr h2
    have hx : x = .ref a := by
      rcases px with ⟨b, eb, ex⟩ | ⟨_, _, _, z⟩
      · rw [ea] at eb; cases eb; exact ex
      · exact z.elim
    exact .inl (.inl ⟨a, vs, _, v, hx, py.int, SqL.of hv, h3, q.rep hS rv⟩)
  · split at h1
    · rename_i hk
      exact .inr ⟨g, σ, S, _, _, _, _, hS, px, py, hk, h1, q⟩
    · cases h1
  · cases h1
theorem plain_ix {b : Expr} (h : ∀ l u s p, b ≠ .Slice l u s p) : PlainIx b := by
  cases b <;> first | exact fun _ _ => rfl | exact (h _ _ _ _ rfl).elim
theorem snd_idx {a b : Expr} {a' b' : E} (hK : X.K = w.K) (hD : IxDic X w) (hb' : ∀ l u s p, b ≠ .Slice l u s p) (ha : PE X a (rdE w C W a')) (hb : PE X b (rdE w C W b')) : PE X (.Subscript a b pos) (rdE w C W (.idx a' b')) :=
  pe_to (pe_ix (snd_ix hK hD) ha hb (plain_ix hb')) fun σ H Q ⟨g, S, hS, h⟩ => two (f := idxT) hS h
/-! ### slices -/
theorem po_to {e : Option Expr} {t t' : TO} (h : PO X e t) (k : ∀ σ H Q, t' σ H Q → t σ H Q) : PO X e t' := ⟨fun pins s σ H Q I q => h.run pins s σ H Q I (k σ H Q q)⟩
theorem snd_po0 : PO X none (rdO w C W .nil) := po_to po_none fun σ H Q ⟨g, S, hS, q⟩ => q g H none hS ExtE.refl rfl
theorem snd_po1 {e : Expr} {a : E} (h : PE X e (rdE w C W a)) : PO X (some e) (rdO w C W (.tv a)) := by
  refine po_to (po_some h) fun σ H Q ⟨g, S, hS, q⟩ => ⟨g, S, hS, (Out.bind lateO q).imp ?_⟩
  rintro v H1 ⟨g1, S1, tv, hr, s1, e1, r1, k1⟩
  have z := k1 _ _ e1
  split at z
  · exact ⟨_, r1, z g1 H1 _ s1 ExtE.refl rfl⟩
  · exact z.elim
theorem cut_reps {ds : List D} {vs : List V} (r : Reps w g ds vs) (lo hi : Option Int) : Reps w g (cut ds lo hi) (cutV vs lo hi) := by
  have e : ∀ n d o, clip n d o = HT.sIx n d o := fun n d o => by cases o <;> rfl
  unfold cut cutV
  rw [r.length, e, e]
  exact (r.drop _).take _
theorem cut_len (ds : List D) (lo hi : Option Int) (h : ds.length ≤ big) : (cut ds lo hi).length ≤ big := by
  unfold cut
  rw [List.length_take, List.length_drop]; omega
theorem sl_to {r r' : V → Option Int → Option Int → Hp → VK → Prop} (h : SlR X r) (k : ∀ x l u H Q, r' x l u H Q → r x l u H Q) : SlR X r' := fun pins s σ H x v vl vu lo hi sl Q I rx is pl pu q => h pins s σ H x v vl vu lo hi sl Q I rx is pl pu (k _ _ _ _ _ q)
def rSlc (w : Wd) : V → Option Int → Option Int → Hp → VK → Prop := fun x lo hi H Q => ∃ g σ S d tv, Sr w g σ S H ∧ Pk w g H d x ∧
  (match d with | .tup ds => some (TV.val (.tup (cut ds lo hi))) | .lst ds => some (.own (.lst (cut ds lo hi))) | .scr ds => some (.own (.lst (cut ds lo hi))) | _ => none) = some tv ∧ Fin w g σ S H tv Q
theorem snd_slR (hK : X.K = w.K) : SlR X (rSlc w) := by
  refine sl_to (sl_tupA.or sl_list) ?_
  rintro x lo hi H Q ⟨g, σ, S, d, tv, hS, px, hf, q⟩
  split at hf
  · rename_i ds
    cases hf
    obtain ⟨a, vs, rfl, sa, sf, hl, rr⟩ := px.tup hS.sub
    refine .inl ⟨a, vs, rfl, hK ▸ sa, fun hw => ?_, fun hw p hp => q.tup hS (cut_reps rr lo hi) (cut_len ds lo hi hl) hp⟩
    have hc : cut ds lo hi = ds := by
      have e : ∀ n d o, clip n d o = HT.sIx n d o := fun n d o => by cases o <;> rfl
      unfold cut
      rw [e, e, rr.length, hw.1, hw.2, List.drop_zero, Nat.sub_zero, ← rr.length, List.take_length]
    rw [hc] at q
    exact q.rep hS ⟨a, vs, rfl, sf, hl, rr⟩
  · rename_i ds
    cases hf
    obtain ⟨a, vs, rfl, sa, hl, rr⟩ := px.lst hS.sub
    exact .inr ⟨a, vs, rfl, SqL.of sa, fun p hp => q.lst hS (cut_reps rr lo hi) (cut_len ds lo hi hl) hp⟩
  · rename_i ds
    cases hf
    obtain ⟨a, vs, rfl, sa, hl, rr⟩ := px.scr hS.sub
    exact .inr ⟨a, vs, rfl, hK ▸ sa, fun p hp => q.lst hS (cut_reps rr lo hi) (cut_len ds lo hi hl) hp⟩
  · cases hf
theorem snd_slc {a : Expr} {lo hi : Option Expr} {p2 : Pos} {a' l' h' : E} (hK : X.K = w.K) (ha : PE X a (rdE w C W a')) (hl : PO X lo (rdO w C W l')) (hh : PO X hi (rdO w C W h')) :
    PE X (.Subscript a (.Slice lo hi none p2) pos) (rdE w C W (.slc a' l' h')) := by
  refine pe_to (pe_slice (snd_slR hK) ha hl hh) fun σ H Q ⟨g, S, hS, q⟩ => ⟨g, S, hS, (Out.bind lateTV q).imp ?_⟩
  rintro x H1 ⟨g1, S1, tx, _, s1, e1, r1, k1⟩
  refine ⟨g1, S1, s1, (Out.bind lateTV (k1 _ _ e1)).imp ?_⟩
  rintro l H2 ⟨g2, S2, l0, _, s2, e2, r2, k2⟩
  refine ⟨g2, S2, s2, (Out.bind lateTV (k2 _ _ e2)).imp ?_⟩
  rintro u H3 ⟨g3, S3, u0, _, s3, e3, r3, k3⟩
  cases r2; cases r3
  have z := k3 _ _ e3
  have px := (r1.pk.step e2).step e3
  cases hd : tx.d with
  | tup ds => rw [hd] at z px; exact ⟨g3, σ, S3, _, _, s3, px, rfl, z⟩
  | lst ds => rw [hd] at z px; exact ⟨g3, σ, S3, _, _, s3, px, rfl, z⟩
  | scr ds => rw [hd] at z px; exact ⟨g3, σ, S3, _, _, s3, px, rfl, z⟩
  | _ => rw [hd] at z; exact z.elim
/-! ### built-ins -/
theorem call_to {f : Value} {r r' : List V → Hp → VK → Prop} (h : CallR X f r) (k : ∀ xs H Q, r' xs H Q → r xs H Q) : CallR X f r' := fun pins s σ H xs us Q I rx q => h pins s σ H xs us Q I rx (k _ _ _ q)
def rBlt (w : Wd) (b : Blt) : List V → Hp → VK → Prop := fun xs H Q => ∃ g σ S ds d, Sr w g σ S H ∧ Pks w g H ds xs ∧ bltD b ds = some d ∧ Fin w g σ S H (.val d) Q
theorem Pks.one {d : D} {xs : List V} (h : Pks w g H [d] xs) : ∃ x, xs = [x] ∧ Pk w g H d x := by
  obtain ⟨v, r, rfl, p, q⟩ := h
  rw [show r = [] from q]
  exact ⟨v, rfl, p⟩
theorem Pks.two {d e : D} {xs : List V} (h : Pks w g H [d, e] xs) : ∃ x y, xs = [x, y] ∧ Pk w g H d x ∧ Pk w g H e y := by
  obtain ⟨v, r, rfl, p, q⟩ := h
  obtain ⟨y, rfl, p2⟩ := Pks.one q
  exact ⟨v, y, rfl, p, p2⟩
theorem snd_len (hK : X.K = w.K) : CallR X (.builtin "len") (rBlt w .len) := by
  refine call_to (call_len_seq.or call_len_str) ?_
  rintro xs H Q ⟨g, σ, S, ds, d, hS, p, hf, q⟩
  change len1 ds = some d at hf
  unfold len1 at hf
  split at hf
  · rename_i e
    obtain ⟨x, rfl, px⟩ := Pks.one p
    obtain ⟨n, h1, rfl⟩ := Option.map_eq_some_iff.mp hf
    unfold lenD at h1
    split at h1
    · cases h1
      obtain ⟨a, vs, rfl, sa, _, _, rr⟩ := px.tup hS.sub
      exact .inl ⟨a, vs, rfl, .inr (hK ▸ sa), by rw [← rr.length]; exact q.rep hS rfl⟩
    · cases h1
      obtain ⟨a, vs, rfl, sa, _, rr⟩ := px.lst hS.sub
      exact .inl ⟨a, vs, rfl, .inl (SqL.of sa), by rw [← rr.length]; exact q.rep hS rfl⟩
    · split at h1 <;> cases h1
      rename_i hl
      rw [px.str]
      exact .inr ⟨_, rfl, by rw [← big_line]; exact hl, q.rep hS rfl⟩
    · cases h1
  · cases hf
theorem snd_abs : CallR X (.builtin "abs") (rBlt w .abs) := by
  refine call_to call_abs ?_
  rintro xs H Q ⟨g, σ, S, ds, d, hS, p, hf, q⟩
  change absD ds = some d at hf
  unfold absD at hf
  split at hf <;> cases hf
  obtain ⟨x, rfl, px⟩ := Pks.one p
  exact ⟨_, by rw [px.int], q.rep hS rfl⟩
theorem snd_int : CallR X (.type "int") (rBlt w .int) := by
  refine call_to call_int1 ?_
  rintro xs H Q ⟨g, σ, S, ds, d, hS, p, hf, q⟩
  change intD ds = some d at hf
  unfold intD at hf
  split at hf <;> cases hf
  · obtain ⟨x, rfl, px⟩ := Pks.one p
    exact .inl ⟨_, by rw [px.int], q.rep hS rfl⟩
  · obtain ⟨x, rfl, px⟩ := Pks.one p
    exact .inr ⟨_, by rw [px.bl], q.rep hS rfl⟩
theorem snd_min2 (hc : X.calm = true) : CallR X (.builtin "min") (rBlt w .min2) := by
  refine call_to (call_min2 hc) ?_
  rintro xs H Q ⟨g, σ, S, ds, d, hS, p, hf, q⟩
  change min2D ds = some d at hf
  unfold min2D at hf
  split at hf <;> cases hf
  obtain ⟨x, y, rfl, px, py⟩ := Pks.two p
  exact ⟨_, _, by rw [px.int, py.int], q.rep hS rfl⟩
theorem snd_max2 (hc : X.calm = true) : CallR X (.builtin "max") (rBlt w .max2) := by
  refine call_to (call_max2 hc) ?_
  rintro xs H Q ⟨g, σ, S, ds, d, hS, p, hf, q⟩
  change max2D ds = some d at hf
  unfold max2D at hf
  split at hf <;> cases hf
  obtain ⟨x, y, rfl, px, py⟩ := Pks.two p
  exact ⟨_, _, by rw [px.int, py.int], q.rep hS rfl⟩
theorem blt_run {b : Blt} {t : TA} {a : E} (k : ∀ σ H Q, rdP w C W a σ H Q → t σ H Q) {σ : L2.St} {H : Hp} {Q : VK} (h : rdE w C W (.blt b a) σ H Q) : t σ H fun vs H1 => rBlt w b vs H1 Q := by
  obtain ⟨g, S, hS, q⟩ := h
  refine k _ _ _ ⟨g, S, hS, (Out.bind lateTV q).imp ?_⟩
  rintro vs H1 ⟨g1, S1, ds, hr, s1, e1, r1, k1⟩
  obtain ⟨tv, q1, q2⟩ := Out.of lateTV (k1 _ _ e1)
  obtain ⟨d, q3, rfl⟩ := Option.map_eq_some_iff.mp q1
  exact ⟨g1, σ, S1, ds, d, s1, r1, q3, q2⟩
theorem snd_bltB {b : Blt} {x : Str} {id : String} {e : Expr} {es : List Expr} {a : E} {p : Pos} (hr : CallR X (.builtin id) (rBlt w b)) (hg : Gl X x) (hm : X.mg x = none) (hv : bootBuiltins x = some (.builtin id)) (hn : x ≠ "__name__") (hd : (x == ("__debug__" : Str)) = false)
    (hs : NoStar (e :: es)) (ha : PA X (e :: es) (rdP w C W a)) : PE X (.Call (.Name x p) (e :: es) [] pos) (rdE w C W (.blt b a)) :=
  pe_to (pe_callB hr hg hm hv ha hn hd (star_cons (hs e List.mem_cons_self)) (back_plain fun y hy => hs y (List.mem_cons_of_mem _ hy))) fun σ H Q h => blt_run (fun _ _ _ z => z) h
theorem snd_bltT {b : Blt} {x : Str} {id : String} {e : Expr} {es : List Expr} {a : E} {p : Pos} (hr : CallR X (.type id) (rBlt w b)) (hg : Gl X x) (hm : X.mg x = none) (hv : bootBuiltins x = some (.type id)) (hn : x ≠ "__name__") (hd : (x == ("__debug__" : Str)) = false)
    (hs : NoStar (e :: es)) (ha : PA X (e :: es) (rdP w C W a)) : PE X (.Call (.Name x p) (e :: es) [] pos) (rdE w C W (.blt b a)) :=
  pe_to (pe_callTy hr hg hm hv ha hn hd (star_cons (hs e List.mem_cons_self)) (back_plain fun y hy => hs y (List.mem_cons_of_mem _ hy))) fun σ H Q h => blt_run (fun _ _ _ z => z) h
/-- a built-in of one thing that it walks -/
def rBli (w : Wd) (b : Bli) : List V → Hp → VK → Prop := fun xs H Q => ∃ x g σ S d tv, xs = [x] ∧ Sr w g σ S H ∧ Pk w g H d x ∧ bliD b d = some tv ∧ Fin w g σ S H tv Q
theorem bools_reps : ∀ {ds : List D} {bs : List Bool} {vs : List V}, bools ds = some bs → Reps w g ds vs → vs = bs.map V.bl
  | [], bs, vs, h, r => by cases h; exact r
  | .bl b :: ds, bs, vs, h, ⟨v, r, e, h1, t⟩ => by
    obtain ⟨cs, h2, rfl⟩ := Option.map_eq_some_iff.mp (show (bools ds).map (b :: ·) = some bs from h)
    rw [e, show v = .bl b from h1, bools_reps h2 t]; rfl
  | .non :: _, _, _, h, _ | .int _ :: _, _, _, h, _ | .str _ :: _, _, _, h, _ | .tup _ :: _, _, _, h, _ | .lst _ :: _, _, _, h, _ | .dic _ _ :: _, _, _, h, _ | .fn _ :: _, _, _, h, _ | .hnd :: _, _, _, h, _ | .scr _ :: _, _, _, h, _ => by cases h
theorem sum_reps : ∀ {ds : List D} {i : Int} {vs : List V}, sumD ds = some i → Reps w g ds vs → ∃ ns : List Int, vs = ns.map V.int ∧ i = ns.sum
  | [], i, vs, h, r => by cases h; exact ⟨[], r, rfl⟩
  | .int b :: ds, i, vs, h, ⟨v, r, e, h1, t⟩ => by
    obtain ⟨j, h2, rfl⟩ := Option.map_eq_some_iff.mp (show (sumD ds).map (b + ·) = some i from h)
    obtain ⟨ns, e2, rfl⟩ := sum_reps h2 t
    exact ⟨b :: ns, by rw [e, show v = .int b from h1, e2]; rfl, rfl⟩
  | .non :: _, _, _, h, _ | .bl _ :: _, _, _, h, _ | .str _ :: _, _, _, h, _ | .tup _ :: _, _, _, h, _ | .lst _ :: _, _, _, h, _ | .dic _ _ :: _, _, _, h, _ | .fn _ :: _, _, _, h, _ | .hnd :: _, _, _, h, _ | .scr _ :: _, _, _, h, _ => by cases h
theorem lstOf_some {d : D} {ds : List D} (h : lstOf d = some ds) : d = .lst ds := by
  cases d <;> cases h; rfl
theorem snd_all (hK : X.K = w.K) (hc : X.calm = true) : CallR X (.builtin "all") (rBli w .all) := by
  refine call_to (cr_all hc) ?_
  rintro xs H Q ⟨x, g, σ, S, d, tv, rfl, hS, p, hf, q⟩
  obtain ⟨ds, h1, h2⟩ := Option.bind_eq_some_iff.mp (show ((lstOf d).bind fun ds => (bools ds).map fun bs => TV.val (.bl (bs.all id))) = some tv from hf)
  obtain ⟨bs, h3, rfl⟩ := Option.map_eq_some_iff.mp h2
  rw [lstOf_some h1] at p
  obtain ⟨a, vs, rfl, sa, _, rr⟩ := p.lst hS.sub
  rw [bools_reps h3 rr] at sa
  exact ⟨a, bs, rfl, SqL.of sa, q.rep hS rfl⟩
theorem snd_any (hK : X.K = w.K) (hc : X.calm = true) : CallR X (.builtin "any") (rBli w .any) := by
  refine call_to (cr_any hc) ?_
  rintro xs H Q ⟨x, g, σ, S, d, tv, rfl, hS, p, hf, q⟩
  obtain ⟨ds, h1, h2⟩ := Option.bind_eq_some_iff.mp (show ((lstOf d).bind fun ds => (bools ds).map fun bs => TV.val (.bl (bs.any id))) = some tv from hf)
  obtain ⟨bs, h3, rfl⟩ := Option.map_eq_some_iff.mp h2
  rw [lstOf_some h1] at p
  obtain ⟨a, vs, rfl, sa, _, rr⟩ := p.lst hS.sub
  rw [bools_reps h3 rr] at sa
  exact ⟨a, bs, rfl, SqL.of sa, q.rep hS rfl⟩
theorem snd_sum (hK : X.K = w.K) (hc : X.calm = true) : CallR X (.builtin "sum") (rBli w .sum) := by
  refine call_to (cr_sum hc) ?_
  rintro xs H Q ⟨x, g, σ, S, d, tv, rfl, hS, p, hf, q⟩
  obtain ⟨ds, h1, h2⟩ := Option.bind_eq_some_iff.mp (show ((lstOf d).bind fun ds => (sumD ds).map fun i => TV.val (.int i)) = some tv from hf)
  obtain ⟨i, h3, rfl⟩ := Option.map_eq_some_iff.mp h2
  rw [lstOf_some h1] at p
  obtain ⟨a, vs, rfl, sa, _, rr⟩ := p.lst hS.sub
  obtain ⟨ns, e, rfl⟩ := sum_reps h3 rr
  rw [e] at sa
  exact ⟨a, ns, rfl, SqL.of sa, q.rep hS rfl⟩
theorem snd_tuple (hK : X.K = w.K) : CallR X (.type "tuple") (rBli w .tup) := by
  refine call_to call_tuple_of ?_
  rintro xs H Q ⟨x, g, σ, S, d, tv, rfl, hS, p, hf, q⟩
  obtain ⟨ds, h1, rfl⟩ := Option.map_eq_some_iff.mp (show (seqOf d).map (fun ds => TV.val (.tup ds)) = some tv from hf)
  cases d <;> cases h1
  · obtain ⟨a, vs, rfl, sa, sf, hl, rr⟩ := p.tup hS.sub
    exact ⟨a, vs, rfl, .inr ⟨hK ▸ sa, q.rep hS ⟨a, vs, rfl, sf, hl, rr⟩⟩⟩
  · obtain ⟨a, vs, rfl, sa, hl, rr⟩ := p.lst hS.sub
    exact ⟨a, vs, rfl, .inl ⟨SqL.of sa, fun l hp => q.tup hS rr hl hp⟩⟩
theorem bli_run {b : Bli} {e : Expr} {t : TE} {a : E} (hs : ∀ v p, e ≠ .Starred v p) (ha : PE X e (rdE w C W a)) : ∃ t, PA X [e] t ∧ ∀ σ H Q, rdE w C W (.bli b a) σ H Q → t σ H fun vs H1 => rBli w b vs H1 Q := by
  refine ⟨_, pa_cons ha pa_nil (star_cons hs), fun σ H Q ⟨g, S, hS, q⟩ => ⟨g, S, hS, (Out.bind lateTV q).imp ?_⟩⟩
  rintro v H1 ⟨g1, S1, tv, hr, s1, e1, r1, k1⟩
  have z := k1 _ _ e1
  have z' : Out w W (RTV w σ) Q g1 σ S1 H1 (R.of (bliD b tv.d) S1) := by
    split at z
    · exact z.elim
    · exact z
  obtain ⟨tv2, q1, q2⟩ := Out.of lateTV z'
  exact ⟨v, g1, σ, S1, tv.d, tv2, rfl, s1, r1.pk, q1, q2⟩
theorem snd_bliB {b : Bli} {x : Str} {id : String} {e : Expr} {a : E} {p : Pos} (hr : CallR X (.builtin id) (rBli w b)) (hg : Gl X x) (hm : X.mg x = none) (hv : bootBuiltins x = some (.builtin id)) (hn : x ≠ "__name__") (hd : (x == ("__debug__" : Str)) = false)
    (hs : ∀ v p, e ≠ .Starred v p) (ha : PE X e (rdE w C W a)) : PE X (.Call (.Name x p) [e] [] pos) (rdE w C W (.bli b a)) := by
  obtain ⟨t, h1, h2⟩ := bli_run (b := b) (t := fun _ _ _ => True) hs ha
  exact pe_to (pe_callB hr hg hm hv h1 hn hd (star_cons hs) (by rfl)) fun σ H Q h => h2 σ H Q h
theorem snd_bliT {b : Bli} {x : Str} {id : String} {e : Expr} {a : E} {p : Pos} (hr : CallR X (.type id) (rBli w b)) (hg : Gl X x) (hm : X.mg x = none) (hv : bootBuiltins x = some (.type id)) (hn : x ≠ "__name__") (hd : (x == ("__debug__" : Str)) = false)
    (hs : ∀ v p, e ≠ .Starred v p) (ha : PE X e (rdE w C W a)) : PE X (.Call (.Name x p) [e] [] pos) (rdE w C W (.bli b a)) := by
  obtain ⟨t, h1, h2⟩ := bli_run (b := b) (t := fun _ _ _ => True) hs ha
  exact pe_to (pe_callTy hr hg hm hv h1 hn hd (star_cons hs) (by rfl)) fun σ H Q h => h2 σ H Q h
/-! ### isinstance -/
def tyName : Ty → String
  | .int => "int" | .bool => "bool" | .str => "str" | .tup => "tuple" | .lst => "list" | .dic => "dict"
def clsName : D → String
  | .non => "NoneType" | .bl _ => "bool" | .int _ => "int" | .str _ => "str" | .tup _ => "tuple" | .lst _ => "list" | .dic _ _ => "dict" | _ => ""
theorem dict_obj {pins : List (Addr × Obj)} {s : Shared} {a : Addr} {u : HO} (I : Inv X pins σ H s) (r : Rd H a u) (hu : isD u) : ∃ o, s.heap.get? a = some o ∧ o.ExactDict := by
  have q := r.ok I.hok
  cases u with
  | dK kvs => obtain ⟨_, _, vs, _, o, es, ep, h1, h2, _⟩ := q; exact ⟨o, h1, h2⟩
  | dT kvs => obtain ⟨_, _, xs, _, o, es, ep, h1, h2, _⟩ := q; exact ⟨o, h1, h2⟩
  | _ => exact hu.elim
def rIsiD (K : PySem.W.Frag) : List V → Hp → VK → Prop := fun xs H Q => ∃ (a : Addr) (u : HO) (c : V) (cu : Value) (b : Bool), xs = [.ref a, c] ∧ Rd H a u ∧ isD u ∧ ClsV c cu ∧ PySem.W.kitOne K (.type "dict") cu = some b ∧ Q (.bl b) H
theorem call_isiD : CallR X (.builtin "isinstance") (rIsiD X.K) := by
  intro pins s σ H xs us Q I r ⟨a, u, c, cu, b, e, rd, hu, k, ek, q⟩
  subst e
  rcases vals2 r with ⟨u1, u2, rfl, r1, r2⟩
  have e2 := k.eq r2
  subst e2
  obtain rfl : u1 = Value.ref a := r1
  obtain ⟨o, h1, h2⟩ := dict_obj I rd hu
  exact PySem.W.kia_one PySem.W.kitx_dict I.kIn ⟨o, h1, h2.1⟩ ek (by intro z; cases z) fun tk => ⟨.bl b, H, I.tok tk, rfl, q⟩
theorem tyx_of (hK : X.K = w.K) {d : D} {v : V} (hS : Same g.F H) (p : Pk w g H d v) (h : typed d = true) (hd : ∀ ks vs, d ≠ .dic ks vs) : TyX X.K H v (.type (clsName d)) := by
  cases d with
  | non => rw [p.non]; exact .base .non
  | bl b => rw [p.bl]; exact .base (.bl b)
  | int i => rw [p.int]; exact .base (.int i)
  | str s => rw [p.str]; exact .base (.str s)
  | tup ds =>
    obtain ⟨a, vs, rfl, s, _, _, _⟩ := p.tup hS
    rcases s with (s | ⟨o, s⟩) | ⟨o, its, n, s, hc, _⟩
    · exact .base (.tup s)
    · exact .fTuple s
    · exact .kTuple (hK ▸ s) hc
  | lst ds => obtain ⟨a, vs, rfl, s, _⟩ := p.lst hS; exact .base (.lst s)
  | dic ks vs => exact (hd _ _ rfl).elim
  | fn f => cases h
  | hnd => cases h
  | scr ds => cases h
theorem kit_is {K : PySem.W.Frag} (d : D) (t : Ty) (h : typed d = true) : PySem.W.kitOne K (.type (clsName d)) (.type (tyName t)) = some (isTy d t) := by
  refine kit_ty ?_
  cases d with
  | non => cases t <;> decide +kernel
  | bl b => exact (by cases t <;> decide +kernel : kitB "bool" (tyName t) = some (isTy (.bl true) t)).trans (by cases t <;> rfl)
  | int i => exact (by cases t <;> decide +kernel : kitB "int" (tyName t) = some (isTy (.int 0) t)).trans (by cases t <;> rfl)
  | str i => exact (by cases t <;> decide +kernel : kitB "str" (tyName t) = some (isTy (.str Str.empty) t)).trans (by cases t <;> rfl)
  | tup i => exact (by cases t <;> decide +kernel : kitB "tuple" (tyName t) = some (isTy (.tup []) t)).trans (by cases t <;> rfl)
  | lst i => exact (by cases t <;> decide +kernel : kitB "list" (tyName t) = some (isTy (.lst []) t)).trans (by cases t <;> rfl)
  | dic i j => exact (by cases t <;> decide +kernel : kitB "dict" (tyName t) = some (isTy (.dic [] []) t)).trans (by cases t <;> rfl)
  | fn f => cases h
  | hnd => cases h
  | scr i => cases h
theorem snd_isi1 {e : Expr} {a : E} {t : Ty} {x y : Str} {p p2 : Pos} (hK : X.K = w.K) (hx : x = "isinstance") (hy : y = Str.ofString (tyName t)) (hg : Gl X x) (hm : X.mg x = none) (hgy : Gl X y) (hmy : X.mg y = none)
    (hs : ∀ v p, e ≠ .Starred v p) (ha : PE X e (rdE w C W a)) : PE X (.Call (.Name x p) [e, .Name y p2] [] pos) (rdE w C W (.isi a [t])) := by
  subst hx; subst hy
  have hb : PE X (.Name (Str.ofString (tyName t)) p2) (tC (.ty (tyName t))) := pe_bltn hgy hmy (u := .type (tyName t)) (by cases t <;> decide +kernel) rfl (by cases t <;> decide) (by cases t <;> decide)
  refine pe_to (pe_callB (call_isi.or call_isiD) hg hm (by decide +kernel) (pa_cons ha (pa_cons hb pa_nil) (star_cons hs)) (by decide) (by decide) (star_cons hs) (by rfl)) fun σ H Q ⟨g, S, hS, q⟩ => ⟨g, S, hS, (Out.bind lateTV q).imp ?_⟩
  rintro v H1 ⟨g1, S1, tv, hr, s1, e1, r1, k1⟩
  have z := k1 _ _ e1
  split at z
  · rename_i ht
    have e : [t].any (isTy tv.d) = isTy tv.d t := by simp
    rw [e] at z
    by_cases hd : ∀ ks vs, tv.d ≠ .dic ks vs
    · exact .inl ⟨v, .ty (tyName t), _, _, _, rfl, .ty _, tyx_of hK s1.sub r1.pk ht hd, kit_is tv.d t ht, z g1 H1 _ s1 ExtE.refl rfl⟩
    · cases hdd : tv.d with
      | dic ks vs =>
        have p := r1.pk
        rw [hdd] at p z
        obtain ⟨a, u, ws, rfl, rd, dk, _⟩ := p.dic s1.sub
        exact .inr ⟨a, u, .ty (tyName t), _, _, rfl, rd, dk.isD, .ty _, kit_is (.dic ks vs) t rfl, z g1 H1 _ s1 ExtE.refl rfl⟩
      | _ => exact (hd fun _ _ => by rw [hdd]; intro z; cases z).elim
  · exact z.elim
end
end Pf

/-! Pf, part 8: calls of the text's defs. -/
namespace Pf
open PySem PySem.Spec PyProof.Rows L2
/-- a call's end -/
def OutC (w : Wd) (g : Gh) (hd : Option (List D)) (H : Hp) (Q : VK) (E : XK) : CR → Prop
  | .ok tv hd' => ∀ g' H' v, Sr w g' [] ⟨[], hd'⟩ H' → Ext g [] ⟨[], hd⟩ H g' [] ⟨[], hd'⟩ H' → TVR w H g' [] ⟨[], hd'⟩ H' tv v → Q v H'
  | .exc x hd' => ∀ g' H' dd, Sr w g' [] ⟨[], hd'⟩ H' → Ext g [] ⟨[], hd⟩ H g' [] ⟨[], hd'⟩ H' → XcR w g' H' x dd → E (.ref (w.cad x.c)) dd H'
  | .bad => False
/-- the promise of def number f, n its parameters' number -/
def spC (w : Wd) (call : Nat → List D → Option (List D) → CR) (f n : Nat) : Sp := fun vs H Q E => vs.length = n ∧ ∃ g ds hd, Sr w g [] ⟨[], hd⟩ H ∧ Reps w g ds vs ∧ OutC w g hd H Q E (call f ds hd)
/-- def number f stands at a and keeps its promise -/
structure FnF (w : Wd) (C : Cn) (X : Cx) (k : Nat) (f : Nat) (a : Addr) (n : Nat) : Prop where
  ok : ∃ fd ps, FnOk X.prog X.w X.K X.mg X.base (L2.CX X.prog X.w) k a fd ps (spC w C.call f n) ∧ Binds X.K fd ps []
  kp : PySem.W.keepIn X.K (.ref a) = true
section
variable {w : Wd} {C : Cn} {W : WX} {g g' : Gh} {H H' : Hp} {σ : L2.St} {S : Sta} {Q : VK} {X : Cx} {pos : Pos} {hd' : Option (List D)}
theorem no_own {b : Addr} : ¬ OwnAt [] [] b := fun ⟨i, d, h, _⟩ => by simp [List.getD] at h
theorem to_callee (x : Sr w g σ S H) : Sr w g [] ⟨[], S.hd⟩ H where
  sub := x.sub
  len := rfl
  slots := fun i => trivial
  dist := fun i j a d d' h => by simp [List.getD] at h
  hand := ⟨fun ds e => by
    obtain ⟨a, vs, ea, f, hv, hl, r, n⟩ := x.hand.at_ ds e
    exact ⟨a, vs, ea, f, hv, hl, r, no_own⟩, x.hand.no⟩
  tabs := x.tabs
  nt := x.nt
theorem of_callee (x : Sr w g σ S H) (y : Sr w g' [] ⟨[], hd'⟩ H') (e : Ext g [] ⟨[], S.hd⟩ H g' [] ⟨[], hd'⟩ H') : Sr w g' σ ⟨S.env, hd'⟩ H' ∧ ExtE g σ S H g' ⟨S.env, hd'⟩ H' := by
  have hn : ∀ b, g'.a = some b → g.a = some b ∨ Fre H b := fun b h => (e.own b (.inl h)).elim (fun z => z.elim .inl fun q => (no_own q).elim) .inr
  have notH : ∀ b, OwnAt σ S.env b → g.a ≠ some b := fun b h z => by
    cases eh : S.hd with
    | none => rw [x.hand.no eh] at z; cases z
    | some ds =>
      obtain ⟨a, vs, ea, _, _, _, _, n⟩ := x.hand.at_ ds eh
      rw [ea] at z; cases z; exact n h
  have keepS : ∀ b, OwnAt σ S.env b → H' b = H b ∧ g'.F b = none := fun b h => by
    obtain ⟨u, hu, nt, f, mu⟩ := x.ownThere (.inr h)
    obtain ⟨k1, k2⟩ := e.keep b u hu (fun z => z.elim (notH b h) no_own) nt
    exact ⟨k1.trans hu.symm, k2 mu f⟩
  refine ⟨⟨y.sub, x.len, fun i => ?_, x.dist, ⟨fun ds eh => ?_, fun eh => y.hand.no eh⟩, y.tabs, y.nt⟩, ⟨⟨e.le, fun b o h n nt => ?_, fun b h => ?_, e.grow⟩, fun b o h n nt => ?_, hn, fun _ => .inl rfl⟩⟩
  · have q := x.slots i
    show SlotR w g' H' (S.env.getD i .un) _
    cases ec : S.env.getD i .un with
    | un => trivial
    | val d => rw [ec] at q; obtain ⟨v, h, r⟩ := q; exact ⟨v, h, r.mono e.le⟩
    | own d =>
      rw [ec] at q; obtain ⟨a, h, f, r⟩ := q
      obtain ⟨k1, k2⟩ := keepS a ⟨i, d, ec, h⟩
      exact ⟨a, h, k2, r.congr e.le k1⟩
  · obtain ⟨a, vs, ea, f, hv, hl, r, _⟩ := y.hand.at_ ds eh
    refine ⟨a, vs, ea, f, hv, hl, r, fun z => ?_⟩
    rcases hn a ea with q | q
    · exact notH a z q
    · obtain ⟨u, hu, nt, _⟩ := x.ownThere (.inr z)
      exact q.no hu nt
  · exact e.keep b o h (fun z => z.elim (fun q => n (.inl q)) no_own) nt
  · rcases h with h | h
    · exact (hn b h).elim (fun q => .inl (.inl q)) .inr
    · exact .inl (.inr h)
  · exact .inl (e.keep b o h (fun z => z.elim n no_own) nt).1
theorem tvr_caller (x : Sr w g σ S H) {tv : TV} {v : V} (r : TVR w H g' [] ⟨[], hd'⟩ H' tv v) : TVR w H g' σ ⟨S.env, hd'⟩ H' tv v := by
  cases tv with
  | val d => exact r
  | brw d => exact r
  | own d =>
    obtain ⟨a, e, n, f, o, no⟩ := r
    refine ⟨a, e, n, f, o, fun z => z.elim (fun q => no (.inl q)) fun q => ?_⟩
    obtain ⟨u, hu, nt, _⟩ := x.ownThere (.inr q)
    exact n.no hu nt
theorem out_call (x : Sr w g σ S H) {r : CR} (h : Out w W (RTV w σ) Q g σ S H (callR r S.env)) : OutC w g S.hd H Q (WE W σ) r := by
  cases r with
  | ok tv hd' =>
    intro g' H' v y e t
    obtain ⟨a, b⟩ := of_callee x y e
    exact h g' H' v a b (tvr_caller x t)
  | exc y hd' =>
    intro g' H' dd y e t
    obtain ⟨a, b⟩ := of_callee x y e
    exact h g' H' dd a b t
  | bad => exact h
theorem snd_call {f n k : Nat} {a : Addr} {x : Str} {e : Expr} {es : List Expr} {a' : E} {p : Pos} (F : FnF w C X k f a n) (hr : Room k X.A) (tk : Takes X W) (hg : Gl X x) (hm : X.mg x = some (.ref a)) (hd : (x == ("__debug__" : Str)) = false)
    (hs : NoStar (e :: es)) (hn : (e :: es).length = n) (hcnt : a'.cnt = n) (ha : PA X (e :: es) (rdA w C W a')) : PE X (.Call (.Name x p) (e :: es) [] pos) (rdE w C W (.call f a')) := by
  obtain ⟨fd, ps, ok, hb⟩ := F.ok
  refine pe_to (pe_callS ok hr hg hm F.kp hb (fun σ => passAt tk σ) ha hd (star_cons (hs e List.mem_cons_self)) (back_plain fun y hy => hs y (List.mem_cons_of_mem _ hy))) fun σ H Q ⟨g, S, hS, q⟩ => ⟨g, S, hS, (Out.bind lateTV q).imp ?_⟩
  rintro vs H1 ⟨g1, S1, ds, hr, s1, e1, r1, k1⟩
  exact ⟨by rw [← r1.length, evs_len hr, hcnt], g1, ds, S1.hd, to_callee s1, r1, out_call s1 (k1 _ _ e1)⟩
end
end Pf

/-! Pf, part 9: what is walked; comprehensions. -/
namespace Pf
open PySem PySem.Spec PyProof.Rows L2
/-- a turn may make a tuple, or tell of one -/
def NewStep (g : Gh) (H : Hp) (g' : Gh) (H' : Hp) : Prop := (g' = g ∧ H' = H) ∨ (∃ q vs, H q = some (.tup vs) ∧ g.F q = none ∧ H' = H ∧ g' = g.put q (.tup vs)) ∨ ∃ T vs, H T = none ∧ H' = upd H T (.tup vs) ∧ g' = g.put T (.tup vs)
/-- the walk J yields ds while P holds -/
def Draws (w : Wd) (P : Gh → Hp → Prop) (J : It) (ds : List D) : Prop := ∀ g H, P g H → Same g.F H → J.stop ds.length H ∧ ∀ i d, ds[i]? = some d → J.go i H ∧ ∀ x H', J.yld i H x H' → ∃ g', NewStep g H g' H' ∧ Rep w g' d x
def Lasts (pk : Bool) (P : Gh → Hp → Prop) (g : Gh) (σ : L2.St) (S : Sta) (H : Hp) : Prop :=
  ∀ g' σ' S' H', Ext g σ S H g' σ' S' H' → (pk = true → ∀ b o, H b = some o → g.a ≠ some b → (∀ ps, o ≠ .tbl ps) → Lk H' b o) → Same g'.F H' → P g' H'
abbrev RI (w : Wd) (pk : Bool) (σ : L2.St) : Hp → Gh → Sta → Hp → List D → It → Prop := fun _ g S H ds J => ds.length ≤ big ∧ ∃ P, Draws w P J ds ∧ Lasts pk P g σ S H
theorem lateI {w : Wd} {pk : Bool} {σ : L2.St} : Late (RI w pk σ) := fun _ _ _ _ _ _ _ _ h => h
def rdI (w : Wd) (C : Cn) (W : WX) (pk : Bool) (a : E) : TI := fun σ H R => ∃ g S, Sr w g σ S H ∧ Out w W (RI w pk σ) R g σ S H (evI C pk a S)
section
variable {w : Wd} {C : Cn} {W : WX} {g g' : Gh} {H H' : Hp} {σ : L2.St} {S : Sta} {Q : VK} {X : Cx} {pos : Pos} {tg : Expr}
theorem pi_to {e : Expr} {t t' : TI} (h : PI X tg e t) (k : ∀ σ H R, t' σ H R → t σ H R) : PI X tg e t' := ⟨fun pins s σ H R I q => h.run pins s σ H R I (k σ H R q)⟩
/-- a value that is walked: a list, a tuple, a dict's keys -/
def rVal (K : PySem.W.Frag) (x : V) (H : Hp) (R : It → Hp → Prop) : Prop :=
  ∃ a, x = .ref a ∧ ((∃ xs, SqL K H a xs ∧ R (Itl K a) H) ∨ (∃ xs, SqT K H a xs ∧ R (Itt K a) H) ∨ (∃ o kvs, H a = some (.frz o (.dK kvs)) ∧ R (Itk a o kvs) H) ∨ ∃ o kvs, H a = some (.frz o (.dT kvs)) ∧ R (Itkt a o kvs) H)
theorem pi_val {e : Expr} {t : TE} (he : PE X e t) : PI X tg e (fun σ H R => t σ H fun x H1 => rVal X.K x H1 R) := by
  refine ⟨fun pins s σ H R I h => thn (he.run pins s σ H _ I h) fun v s1 ⟨x, H1, I1, r1, q1⟩ => ?_⟩
  obtain ⟨a, rfl, q⟩ := q1
  rcases (show v = Value.ref a from r1) with rfl
  have one : ∀ b ∈ [s1.heap.objs.size], FpOk X pins H1 b := fun b hb => by
    obtain rfl : b = s1.heap.objs.size := by simpa using hb
    exact (I1.fpOk (Nat.le_refl _) (I1.hok.fresh (Nat.le_refl _)))
  rcases q with ⟨xs, hq, q⟩ | ⟨xs, hq, q⟩ | ⟨o, kvs, hd, q⟩ | ⟨o, kvs, hd, q⟩
  · obtain ⟨its, rv, p, hz⟩ := I1.list hq
    exact wpAny_pyIter_list p.isList ⟨_, _, _, _, H1, rfl, I1.kept (t' := s1.toks) fun b o e => Heap.get?_push_of_some _ e, turn_list a _, ⟨_, Heap.get?_push_size _ rfl, rfl, rfl⟩, one, q⟩
  · obtain ⟨its, rv, p, hz⟩ := I1.tuple hq
    exact wpAny_pyIter_tuple p ⟨_, _, _, _, H1, rfl, I1.kept (t' := s1.toks) fun b o e => Heap.get?_push_of_some _ e, turn_tuple a _, ⟨_, Heap.get?_push_size _ rfl, rfl, rfl⟩, one, q⟩
  · rcases I1.frzK hd with ⟨hs, hgd, hx, es, ep, vs, hdt, hsz, kv, hm⟩
    exact iter_keys hs hgd hx hdt (pi_one (tk := s1.toks) I1 _ (turn_keys _ hdt) ⟨_, Heap.get?_push_size _ rfl, rfl, by rw [hsz] <;> rfl⟩ q)
  · rcases I1.frzT hd with ⟨hs, hgd, hx, es, ep, hdt, hsz, ent⟩
    exact iter_keys hs hgd hx hdt (pi_one (tk := s1.toks) I1 _ (turn_keysT _ hdt) ⟨_, Heap.get?_push_size _ rfl, rfl, by rw [hsz] <;> rfl⟩ q)
theorem Reps.at {ds : List D} {vs : List V} {i : Nat} {d : D} (r : Reps w g ds vs) (h : ds[i]? = some d) : ∃ v, vs[i]? = some v ∧ Rep w g d v := r.get h
theorem draws_lst {a : Addr} {ds : List D} {vs : List V} {P : Gh → Hp → Prop} (h : ∀ g H, P g H → Same g.F H → SqL w.K H a vs ∧ Reps w g ds vs) (inj : ∀ H xs, SqL w.K H a vs → SqL w.K H a xs → xs = vs ∨ True) : Draws w P (Itl w.K a) ds := by
  intro g H p s
  obtain ⟨q, r⟩ := h g H p s
  refine ⟨⟨vs, q, by rw [← r.length]; exact Nat.le_refl _⟩, fun i d hd => ?_⟩
  obtain ⟨v, hv, rv⟩ := r.get hd
  refine ⟨⟨vs, v, q, hv⟩, fun x H' y => ?_⟩
  obtain ⟨rfl, hx⟩ := y
  have := hx vs q
  rw [hv] at this; cases this
  exact ⟨g, .inl ⟨rfl, rfl⟩, rv⟩
theorem draws_tup {a : Addr} {ds : List D} {vs : List V} {P : Gh → Hp → Prop} (h : ∀ g H, P g H → Same g.F H → SqT w.K H a vs ∧ Reps w g ds vs) : Draws w P (Itt w.K a) ds := by
  intro g H p s
  obtain ⟨q, r⟩ := h g H p s
  refine ⟨⟨vs, q, by rw [← r.length]; exact Nat.le_refl _⟩, fun i d hd => ?_⟩
  obtain ⟨v, hv, rv⟩ := r.get hd
  refine ⟨⟨vs, v, q, hv⟩, fun x H' y => ?_⟩
  obtain ⟨rfl, hx⟩ := y
  have := hx vs q
  rw [hv] at this; cases this
  exact ⟨g, .inl ⟨rfl, rfl⟩, rv⟩
theorem key_rep {d : D} {k : Key} (h : KeyR d k) : Rep w g d (kV k) := by
  cases d with
  | int i => rw [show k = .inl i from h]; rfl
  | str s => rw [show k = .inr s from h]; rfl
  | _ => exact h.elim
theorem keys_rep : ∀ {ds : List D} {ks : List Key}, KeyL ds ks → Reps w g ds (ks.map kV)
  | [], ks, h => by rw [show ks = [] from h]; rfl
  | d :: ds, ks, h => by
    obtain ⟨k, r, rfl, h1, h2⟩ := h
    exact ⟨kV k, r.map kV, rfl, key_rep h1, keys_rep h2⟩
theorem keyL_get : ∀ {ds : List D} {ks : List Key} {i : Nat} {d : D}, KeyL ds ks → ds[i]? = some d → ∃ k, ks[i]? = some k ∧ KeyR d k
  | [], _, i, d, _, e => by simp at e
  | x :: ds, ks, i, d, h, e => by
    obtain ⟨k, r, rfl, h1, h2⟩ := h
    cases i with
    | zero => obtain rfl : x = d := by simpa using e
              exact ⟨k, rfl, h1⟩
    | succ i =>
      obtain ⟨k', q1, q2⟩ := keyL_get h2 (i := i) (by simpa using e)
      exact ⟨k', by simpa using q1, q2⟩
theorem keyT_get : ∀ {ds : List D} {ks : List (List Key)} {i : Nat} {d : D}, KeyTs ds ks → ds[i]? = some d → ∃ k, ks[i]? = some k ∧ KeyT d k
  | [], _, i, d, _, e => by simp at e
  | x :: ds, ks, i, d, h, e => by
    obtain ⟨k, r, rfl, h1, h2⟩ := h
    cases i with
    | zero => obtain rfl : x = d := by simpa using e
              exact ⟨k, rfl, h1⟩
    | succ i =>
      obtain ⟨k', q1, q2⟩ := keyT_get h2 (i := i) (by simpa using e)
      exact ⟨k', by simpa using q1, q2⟩
theorem keyL_len : ∀ {ds : List D} {ks : List Key}, KeyL ds ks → ds.length = ks.length
  | [], ks, h => by rw [show ks = [] from h]; rfl
  | d :: ds, ks, h => by obtain ⟨k, r, rfl, _, h2⟩ := h; exact congrArg (· + 1) (keyL_len h2)
theorem keyT_len : ∀ {ds : List D} {ks : List (List Key)}, KeyTs ds ks → ds.length = ks.length
  | [], ks, h => by rw [show ks = [] from h]; rfl
  | d :: ds, ks, h => by obtain ⟨k, r, rfl, _, h2⟩ := h; exact congrArg (· + 1) (keyT_len h2)
theorem map_get {α β : Type} {l : List α} {f : α → β} {i : Nat} {y : β} (h : (l.map f)[i]? = some y) : ∃ x, l[i]? = some x ∧ f x = y := by
  rw [List.getElem?_map] at h
  exact Option.map_eq_some_iff.mp h
/-- the tuple at q is told of -/
theorem learn {q : Addr} {ds : List D} {vs : List V} (hq : H q = some (.tup vs)) (s : Same g.F H) (hl : ds.length ≤ big) (r : ∀ g, Reps w g ds vs) : ∃ g', NewStep g H g' H ∧ Rep w g' (.tup ds) (.ref q) := by
  cases e : g.F q with
  | none => exact ⟨g.put q (.tup vs), .inr (.inl ⟨q, vs, hq, e, rfl, rfl⟩), q, vs, rfl, SqT.of (show upd g.F q _ q = _ from upd_same), hl, r _⟩
  | some o =>
    have := s _ _ e
    rw [hq] at this; cases this
    exact ⟨g, .inl ⟨rfl, rfl⟩, q, vs, rfl, SqT.of e, hl, r g⟩
theorem rval_dic (hK : X.K = w.K) {ks vs : List D} {v : V} {pk : Bool} {R : It → Hp → Prop} (hS : Sr w g σ S H) (r : Rep w g (.dic ks vs) v) (z : Out w W (RI w pk σ) R g σ S H (.ok ks S)) : rVal X.K v H R := by
  obtain ⟨a, od, u, ws, rfl, f, dk, hl, rr⟩ := r
  have ha := hS.sub _ _ f
  rcases dk with ⟨kvs, rfl, kk, _⟩ | ⟨kvs, rfl, kk, _⟩
  · have len := keyL_len kk
    rw [List.length_map] at len
    refine ⟨a, rfl, .inr (.inr (.inl ⟨od, kvs, ha, z g H _ hS ExtE.refl ⟨hl, fun g' H' => Gle g g', fun g' H' p s => ?_, fun g' σ' S' H' x _ _ => x.le⟩⟩))⟩
    have hd := s _ _ (p.F _ _ f)
    refine ⟨⟨hd, by omega⟩, fun i d e => ?_⟩
    obtain ⟨k, hk, rk⟩ := keyL_get kk e
    obtain ⟨kv, h1, h2⟩ := map_get hk
    refine ⟨⟨hd, by have := List.getElem?_eq_some_iff.mp h1; exact this.1⟩, fun x H2 y => ?_⟩
    obtain ⟨rfl, k', v', h3, rfl⟩ := y
    rw [h1] at h3; cases h3
    cases h2
    exact ⟨g', .inl ⟨rfl, rfl⟩, key_rep rk⟩
  · have len := keyT_len kk
    rw [List.length_map] at len
    refine ⟨a, rfl, .inr (.inr (.inr ⟨od, kvs, ha, z g H _ hS ExtE.refl ⟨hl, fun g' H' => Gle g g', fun g' H' p s => ?_, fun g' σ' S' H' x _ _ => x.le⟩⟩))⟩
    have hd := s _ _ (p.F _ _ f)
    refine ⟨⟨hd, by omega⟩, fun i d e => ?_⟩
    obtain ⟨k, hk, rk⟩ := keyT_get kk e
    obtain ⟨kv, h1, h2⟩ := map_get hk
    refine ⟨⟨hd, by have := List.getElem?_eq_some_iff.mp h1; exact this.1⟩, fun x H2 y => ?_⟩
    obtain ⟨rfl, k', v', q, h3, rfl, h4⟩ := y
    rw [h1] at h3; cases h3
    cases h2
    cases d with
    | tup es => exact learn h4 s rk.1 fun g => keys_rep rk.2
    | _ => exact rk.elim
/-- a value's walk -/
theorem pi_tv {e : Expr} {a : E} {pk : Bool} (hK : X.K = w.K) (he : PE X e (rdE w C W a)) : PI X tg e (rdI w C W pk (.tv a)) := by
  refine pi_to (pi_val (pe_ghost he)) fun σ H R ⟨g, S, hS, q⟩ => ⟨g, S, hS, (Out.bind lateI q).imp ?_⟩
  rintro v H1 ⟨g1, S1, tv, hr, s1, e1, r1, k1⟩
  cases tv with
  | val d =>
    refine .inl ?_
    have z := k1 _ _ e1
    obtain ⟨ds, hds, z⟩ := Out.of lateI z
    cases d with
    | tup es =>
      rw [hK]
      cases hds
      obtain ⟨a, vs, rfl, s, hl, rr⟩ := (r1 : Rep w g1 (.tup ds) v)
      refine ⟨a, rfl, .inr (.inl ⟨vs, SqT.same s1.sub s, z g1 H1 _ s1 ExtE.refl ⟨hl, fun g' H' => Gle g1 g', draws_tup fun g' H' p s' => ⟨SqT.same s' (SqT.same p.F s), rr.mono p⟩, fun g' σ' S' H' x _ _ => x.le⟩⟩)⟩
    | lst es =>
      rw [hK]
      cases hds
      obtain ⟨a, vs, rfl, s, hl, rr⟩ := (r1 : Rep w g1 (.lst ds) v)
      refine ⟨a, rfl, .inl ⟨vs, SqL.of (s1.sub _ _ s), z g1 H1 _ s1 ExtE.refl ⟨hl, fun g' H' => Gle g1 g', draws_lst (fun g' H' p s' => ⟨SqL.of (s' _ _ (p.F _ _ s)), rr.mono p⟩) (fun _ _ _ _ => .inr trivial), fun g' σ' S' H' x _ _ => x.le⟩⟩⟩
    | dic ks vs => cases hds; exact rval_dic hK s1 r1 z
    | _ => cases hds
  | own d =>
    have z := k1 _ _ e1
    cases d with
    | lst es =>
      refine .inl ?_
      obtain ⟨ds, hds, z⟩ := Out.of lateI z
      cases hds
      obtain ⟨a, rfl, h0, f, ⟨vs, h, hl, rr⟩, n⟩ := r1
      rw [hK]
      refine ⟨a, rfl, .inl ⟨vs, SqL.of h, z g1 H1 _ s1 ExtE.refl ⟨hl, fun g' H' => Gle g1 g' ∧ H' a = some (.lst vs), draws_lst (fun g' H' p s' => ⟨SqL.of p.2, rr.mono p.1⟩) (fun _ _ _ _ => .inr trivial), fun g' σ' S' H' x _ _ => ⟨x.le, (x.keep a _ h n (fun _ z => nomatch z)).1⟩⟩⟩⟩
    | dic ks vs =>
      exact (share_step e1 s1 r1 rfl).imp fun H2 ⟨g2, a2, b2, c2⟩ => rval_dic hK a2 c2 (k1 _ _ b2)
    | _ => obtain ⟨a, _, _, _, o, _⟩ := r1; exact o.elim
  | brw d =>
    have z := k1 _ _ e1
    cases d with
    | lst es =>
      refine .inl ?_
      cases pk with
      | false => exact z.elim
      | true =>
        obtain ⟨ds, hds, z⟩ := Out.of lateI (show Out w W (RI w true σ) R g1 σ S1 H1 (Pf.R.of (items (.lst es)) S1) from z)
        cases hds
        obtain ⟨a, rfl, n, vs, h, hl, rr⟩ := r1
        rw [hK]
        refine ⟨a, rfl, .inl ⟨vs, SqL.of h, z g1 H1 _ s1 ExtE.refl ⟨hl, fun g' H' => Gle g1 g' ∧ H' a = some (.lst vs), draws_lst (fun g' H' p s' => ⟨SqL.of p.2, rr.mono p.1⟩) (fun _ _ _ _ => .inr trivial), fun g' σ' S' H' x y _ => ⟨x.le, ?_⟩⟩⟩⟩
        rcases y rfl a _ h n (fun _ z => nomatch z) with y | ⟨_, _, y⟩
        · exact y
        · exact y.elim
    | dic ks vs => exact z.elim
    | _ => obtain ⟨a, _, _, o⟩ := r1; exact o.elim
/-! ### ranges -/
theorem rngN_get : ∀ (n : Nat) (lo c : Int) (i : Nat), (rngN lo c n)[i]? = if i < n then some (.int (lo + i * c)) else none
  | 0, lo, c, i => by simp [rngN]
  | n + 1, lo, c, 0 => by simp [rngN]
  | n + 1, lo, c, i + 1 => by
    have e := rngN_get n (lo + c) c i
    show (rngN (lo + c) c n)[i]? = _
    rw [e]
    have : (lo + c + (i : Int) * c) = lo + ((i + 1 : Nat) : Int) * c := by
      have : ((i + 1 : Nat) : Int) = (i : Int) + 1 := by omega
      rw [this, Int.add_mul, Int.one_mul]; omega
    rw [this]
    by_cases h : i < n
    · rw [if_pos h]; rw [if_pos (by omega)]
    · rw [if_neg h]; rw [if_neg (by omega)]
theorem rngN_len : ∀ (n : Nat) (lo c : Int), (rngN lo c n).length = n
  | 0, _, _ => rfl
  | n + 1, lo, c => congrArg (· + 1) (rngN_len n (lo + c) c)
theorem draws_rng {lo : Int} {n : Nat} {P : Gh → Hp → Prop} : Draws w P (Itr lo n) (rngN lo 1 n) := by
  intro g H p s
  refine ⟨by show n ≤ _; rw [rngN_len]; exact Nat.le_refl _, fun i d hd => ?_⟩
  rw [rngN_get] at hd
  split at hd
  · rename_i hi
    cases hd
    refine ⟨hi, fun x H' y => ?_⟩
    obtain ⟨rfl, rfl⟩ := y
    exact ⟨g, .inl ⟨rfl, rfl⟩, by show V.int _ = V.int _; rw [Int.mul_one]⟩
  · cases hd
theorem draws_rngC {lo c : Int} {n : Nat} {P : Gh → Hp → Prop} : Draws w P (Itc lo c n) (rngN lo c n) := by
  intro g H p s
  refine ⟨by show n ≤ _; rw [rngN_len]; exact Nat.le_refl _, fun i d hd => ?_⟩
  rw [rngN_get] at hd
  split at hd
  · rename_i hi
    cases hd
    refine ⟨hi, fun x H' y => ?_⟩
    obtain ⟨rfl, rfl⟩ := y
    exact ⟨g, .inl ⟨rfl, rfl⟩, rfl⟩
  · cases hd
theorem small_iff {i : Int} (h : small i = true) : -(2 ^ 62) ≤ i ∧ i < 2 ^ 62 := by
  rcases Bool.and_eq_true_iff.mp h with ⟨a, b⟩
  exact ⟨of_decide_eq_true a, of_decide_eq_true b⟩
theorem pi_rng1 {a : Expr} {a' : E} {p : Pos} {pk : Bool} (hg : Gl X "range") (hm : X.mg "range" = none) (hs : NoStar [a]) (hc : a'.cnt = 1) (ha : PA X [a] (rdA w C W a')) : PI X tg (.Call (.Name "range" p) [a] [] pos) (rdI w C W pk (.rng a')) := by
  refine pi_to (pi_range1 hg hm ha (by rw [star_cons (hs a List.mem_cons_self)]; rfl)) fun σ H R ⟨g, S, hS, q⟩ => ⟨g, S, hS, (Out.bind lateI q).imp ?_⟩
  rintro vs H1 ⟨g1, S1, ds, hr, s1, e1, r1, k1⟩
  obtain ⟨es, hes, z⟩ := Out.of lateI (k1 _ _ e1)
  have hl := evs_len hr
  rw [hc] at hl
  unfold rngD at hes
  split at hes
  · split at hes <;> cases hes
    rename_i n h
    obtain ⟨h1, h2⟩ := Bool.and_eq_true_iff.mp h
    obtain ⟨v, r, rfl, rv, rr⟩ := r1
    rw [show r = [] from rr, show v = .int n from rv]
    exact ⟨n, rfl, (small_iff h1).1, (small_iff h1).2, z g1 H1 _ s1 ExtE.refl ⟨by rw [rngN_len]; exact of_decide_eq_true h2, fun _ _ => True, draws_rng, fun _ _ _ _ _ _ _ => trivial⟩⟩
  · cases hl
  · cases hl
  · cases hes
theorem pi_rng2 {a b : Expr} {a' : E} {p : Pos} {pk : Bool} (hg : Gl X "range") (hm : X.mg "range" = none) (hs : NoStar [a, b]) (hc : a'.cnt = 2) (ha : PA X [a, b] (rdA w C W a')) : PI X tg (.Call (.Name "range" p) [a, b] [] pos) (rdI w C W pk (.rng a')) := by
  have e2 : starEach [b] X.env = [(false, eval b X.env)] := by rw [star_cons (hs b (List.mem_cons_of_mem _ List.mem_cons_self))]; rfl
  refine pi_to (pi_range2 hg hm ha (by rw [star_cons (hs a List.mem_cons_self), e2]) e2) fun σ H R ⟨g, S, hS, q⟩ => ⟨g, S, hS, (Out.bind lateI q).imp ?_⟩
  rintro vs H1 ⟨g1, S1, ds, hr, s1, e1, r1, k1⟩
  obtain ⟨es, hes, z⟩ := Out.of lateI (k1 _ _ e1)
  have hl := evs_len hr
  rw [hc] at hl
  unfold rngD at hes
  split at hes
  · cases hl
  · split at hes <;> cases hes
    rename_i i j h
    obtain ⟨h12, h3⟩ := Bool.and_eq_true_iff.mp h
    obtain ⟨h1, h2⟩ := Bool.and_eq_true_iff.mp h12
    obtain ⟨v, r, rfl, rv, u, r', rfl, ru, rr⟩ := r1
    rw [show r' = [] from rr, show v = .int i from rv, show u = .int j from ru]
    exact ⟨i, j, rfl, ⟨(small_iff h1).1, (small_iff h1).2, (small_iff h2).1, (small_iff h2).2⟩, z g1 H1 _ s1 ExtE.refl ⟨by rw [rngN_len]; exact of_decide_eq_true h3, fun _ _ => True, draws_rng, fun _ _ _ _ _ _ _ => trivial⟩⟩
  · cases hl
  · cases hes
theorem pi_rng3 {a b c : Expr} {a' : E} {p : Pos} {pk : Bool} (hg : Gl X "range") (hm : X.mg "range" = none) (hs : NoStar [a, b, c]) (hc : a'.cnt = 3) (ha : PA X [a, b, c] (rdA w C W a')) : PI X tg (.Call (.Name "range" p) [a, b, c] [] pos) (rdI w C W pk (.rng a')) := by
  refine pi_to (pi_range3 hg hm ha (star_cons (hs a List.mem_cons_self)) (back_plain fun y hy => hs y (List.mem_cons_of_mem _ hy))) fun σ H R ⟨g, S, hS, q⟩ => ⟨g, S, hS, (Out.bind lateI q).imp ?_⟩
  rintro vs H1 ⟨g1, S1, ds, hr, s1, e1, r1, k1⟩
  obtain ⟨es, hes, z⟩ := Out.of lateI (k1 _ _ e1)
  have hl := evs_len hr
  rw [hc] at hl
  unfold rngD at hes
  split at hes
  · cases hl
  · cases hl
  · split at hes <;> cases hes
    rename_i i j k h
    obtain ⟨h123, h4⟩ := Bool.and_eq_true_iff.mp h
    obtain ⟨h12, h3⟩ := Bool.and_eq_true_iff.mp h123
    obtain ⟨h1, h2⟩ := Bool.and_eq_true_iff.mp h12
    obtain rfl := of_decide_eq_true h3
    obtain ⟨v, r, rfl, rv, u, r', rfl, ru, t, r'', rfl, rt, rr⟩ := r1
    rw [show r'' = [] from rr, show v = .int i from rv, show u = .int j from ru, show t = .int (-1) from rt]
    exact ⟨i, j, -1, _, rfl, RgC.neg (small_iff h1).1 (small_iff h1).2 (small_iff h2).1 (small_iff h2).2, z g1 H1 _ s1 ExtE.refl ⟨by rw [rngN_len]; exact of_decide_eq_true h4, fun _ _ => True, draws_rngC, fun _ _ _ _ _ _ _ => trivial⟩⟩
  · cases hes
end
end Pf

/-! Pf, part 10: targets, comprehensions. -/
namespace Pf
open PySem PySem.Spec PyProof.Rows L2
section
variable {w : Wd} {C : Cn} {W : WX} {g g' : Gh} {H H' : Hp} {σ σ' : L2.St} {S : Sta} {Q : VK} {X : Cx} {pos : Pos}
/-- a slot is stored: a shared value -/
theorem Sr.put (x : Sr w g σ S H) {i : Nat} {d : D} {v : V} (r : Rep w g d v) : Sr w g (σ.set i (some v)) (S.set i (.val d)) H ∧ ∀ b, OwnAt (σ.set i (some v)) (S.set i (.val d)).env b → OwnAt σ S.env b := by
  have ho : ∀ j d' (b : Addr), (S.set i (.val d)).env.getD j .un = .own d' → (σ.set i (some v)).getD j none = some (.ref b) → j ≠ i ∧ S.env.getD j .un = .own d' ∧ σ.getD j none = some (.ref b) := fun j d' b h1 h2 => by
    by_cases hj : i = j
    · subst hj
      have hlt : i < S.env.length := by
        have := getD_lt (l := (S.set i (.val d)).env) (i := i) (z := .un) (by rw [h1]; exact fun z => nomatch z)
        simpa [Sta.set] using this
      rw [show (S.set i (.val d)).env = S.env.set i (.val d) from rfl, getD_set_same hlt] at h1; cases h1
    · rw [show (S.set i (.val d)).env = S.env.set i (.val d) from rfl, getD_set_ne hj] at h1
      rw [getD_set_ne hj] at h2
      exact ⟨fun z => hj z.symm, h1, h2⟩
  have hsub : ∀ b, OwnAt (σ.set i (some v)) (S.set i (.val d)).env b → OwnAt σ S.env b := fun b ⟨j, d', h1, h2⟩ => by
    obtain ⟨_, a, c⟩ := ho j d' b h1 h2
    exact ⟨j, d', a, c⟩
  refine ⟨⟨x.sub, by rw [List.length_set]; exact x.len.trans (List.length_set).symm, fun j => ?_, ?_, ⟨fun ds e => ?_, x.hand.no⟩, x.tabs, x.nt⟩, hsub⟩
  · by_cases hj : i = j
    · subst hj
      rcases Nat.lt_or_ge i S.env.length with hlt | hge
      · rw [show (S.set i (.val d)).env = S.env.set i (.val d) from rfl, getD_set_same hlt, getD_set_same (by rw [x.len]; exact hlt)]
        exact ⟨v, rfl, r⟩
      · rw [show (S.set i (.val d)).env = S.env.set i (.val d) from rfl, List.set_eq_of_length_le hge]
        rw [show S.env.getD i .un = .un from by simp [List.getD, List.getElem?_eq_none hge]]; trivial
    · rw [show (S.set i (.val d)).env = S.env.set i (.val d) from rfl, getD_set_ne hj, getD_set_ne hj]
      exact x.slots j
  · intro j k b d1 d2 h1 h2 h3 h4
    obtain ⟨_, a1, c1⟩ := ho j d1 b h1 h3
    obtain ⟨_, a2, c2⟩ := ho k d2 b h2 h4
    exact x.dist j k b d1 d2 a1 a2 c1 c2
  · obtain ⟨a, vs, ea, f, hv, hl, rr, n⟩ := x.hand.at_ ds e
    exact ⟨a, vs, ea, f, hv, hl, rr, fun z => n (hsub a z)⟩
def gTg (w : Wd) (t : Tg) : TG := fun v σ H Q => ∃ g S d env', Sr w g σ S H ∧ Rep w g d v ∧ bindT t d S.env = some env' ∧
  ∀ σ', Sr w g σ' ⟨env', S.hd⟩ H → (∀ b, OwnAt σ' env' b → OwnAt σ S.env b) → (∀ i, i ∉ t.slots → σ'.getD i none = σ.getD i none ∧ env'.getD i .un = S.env.getD i .un) → Q σ' H
def gTgs (w : Wd) (t : Tg) : TGs := fun vs σ H Q => ∃ g S ds env', Sr w g σ S H ∧ Reps w g ds vs ∧ bindTs t ds S.env = some env' ∧
  ∀ σ', Sr w g σ' ⟨env', S.hd⟩ H → (∀ b, OwnAt σ' env' b → OwnAt σ S.env b) → (∀ i, i ∉ t.slots → σ'.getD i none = σ.getD i none ∧ env'.getD i .un = S.env.getD i .un) → Q σ' H
theorem pg_to {e : Expr} {t t' : TG} (h : PG X e t) (k : ∀ v σ H Q, t' v σ H Q → t v σ H Q) : PG X e t' := ⟨fun pins s σ H v u Q I r q => h.run pins s σ H v u Q I r (k v σ H Q q)⟩
theorem pgs_to {e : List Expr} {t t' : TGs} (h : PGs X e t) (k : ∀ v σ H Q, t' v σ H Q → t v σ H Q) : PGs X e t' := ⟨fun pins s σ H v u Q I r q => h.run pins s σ H v u Q I r (k v σ H Q q)⟩
theorem snd_gname {i : Nat} {x : Str} (hN : X.N.Nodup) (hi : X.N[i]? = some x) (hx : Loc X.env.scope x) (hf : X.fn x = true ∨ X.env.scope.names.lookup x = some .local) : PG X (.Name x pos) (gTg w (.nm i)) := by
  refine pg_to (pg_name hN hi hx hf) fun v σ H Q ⟨g, S, d, env', hS, r, hb, k⟩ => ?_
  cases hb
  obtain ⟨a, b⟩ := hS.put (i := i) r
  refine k _ a b fun j hj => ?_
  have hne : i ≠ j := fun z => hj (by rw [z]; exact List.mem_cons_self)
  exact ⟨getD_set_ne hne, getD_set_ne hne⟩
theorem snd_gnil : PGs X [] (gTgs w .nil) := pgs_to pgs_nil fun vs σ H Q ⟨g, S, ds, env', hS, r, hb, k⟩ => by
  cases ds with
  | nil => cases hb; exact ⟨r, k σ hS (fun _ z => z) fun _ _ => ⟨rfl, rfl⟩⟩
  | cons => cases hb
theorem snd_gcons {e : Expr} {es : List Expr} {t ts : Tg} (h1 : PG X e (gTg w t)) (h2 : PGs X es (gTgs w ts)) (hs : (assignEach (e :: es) X.env).map (·.2) = assign e X.env :: (assignEach es X.env).map (·.2)) : PGs X (e :: es) (gTgs w (.cons t ts)) :=
  pgs_to (pgs_cons h1 h2 hs) fun vs σ H Q ⟨g, S, ds, env', hS, r, hb, k⟩ => by
    cases ds with
    | nil => cases hb
    | cons d ds =>
      obtain ⟨v, us, rfl, r1, r2⟩ := r
      obtain ⟨env1, b1, b2⟩ := Option.bind_eq_some_iff.mp (show (bindT t d S.env).bind (fun env => bindTs ts ds env) = some env' from hb)
      refine ⟨v, us, rfl, g, S, d, env1, hS, r1, b1, fun σ1 s1 o1 k1 => ⟨g, ⟨env1, S.hd⟩, ds, env', s1, r2, b2, fun σ2 s2 o2 k2 => k σ2 s2 (fun b z => o1 b (o2 b z)) fun i hi => ?_⟩⟩
      have hi1 : i ∉ t.slots := fun z => hi (List.mem_append_left _ z)
      have hi2 : i ∉ ts.slots := fun z => hi (List.mem_append_right _ z)
      exact ⟨(k2 i hi2).1.trans (k1 i hi1).1, (k2 i hi2).2.trans (k1 i hi1).2⟩
theorem bindTs_len : ∀ {ts : Tg} {ds : List D} {env env' : List Slot}, bindTs ts ds env = some env' → ∀ {n : Nat}, (∀ t, ts = t → True) → True := fun _ _ _ => trivial
/-- how many targets -/
def Tg.cnt : Tg → Nat
  | .cons _ ts => ts.cnt + 1
  | _ => 0
theorem bindTs_cnt : ∀ {ts : Tg} {ds : List D} {env env' : List Slot}, bindTs ts ds env = some env' → ds.length = ts.cnt
  | .nil, [], _, _, _ => rfl
  | .nil, _ :: _, _, _, h => by cases h
  | .cons t ts, [], _, _, h => by cases h
  | .cons t ts, d :: ds, env, env', h => by
    obtain ⟨env1, b1, b2⟩ := Option.bind_eq_some_iff.mp (show (bindT t d env).bind (fun env => bindTs ts ds env) = some env' from h)
    exact congrArg (· + 1) (bindTs_cnt b2)
  | .nm _, _, _, _, h => by cases h
  | .tp _, _, _, _, h => by cases h
theorem snd_gtup {es : List Expr} {ts : Tg} {k : Nat} (hK : X.K = w.K) (hc : X.calm = true) (h : PGs X es (gTgs w ts)) (hn : (assignEach es X.env).length = ts.cnt) (hst : (assignEach es X.env).findIdx? (·.1) = none) : PG X (.Tuple es k pos) (gTg w (.tp ts)) := by
  refine pg_to (pg_tup hc h hn hst) fun v σ H Q ⟨g, S, d, env', hS, r, hb, kk⟩ => ?_
  cases d with
  | tup ds =>
    obtain ⟨a, vs, rfl, s, hl, rr⟩ := r
    exact ⟨a, vs, rfl, by rw [hK]; exact SqT.same hS.sub s, by rw [← rr.length]; exact bindTs_cnt hb, g, S, ds, env', hS, rr, hb, kk⟩
  | _ => cases hb
/-! ### the slots of a block -/
theorem wipe_getD : ∀ (own : List Nat) (env : List Slot) (j : Nat), (Pf.wipe own env).getD j .un = if j ∈ own then .un else env.getD j .un
  | [], env, j => by simp [Pf.wipe]
  | i :: own, env, j => by
    have e := wipe_getD own (env.set i .un) j
    show (Pf.wipe own (env.set i .un)).getD j .un = _
    rw [e]
    by_cases h : j ∈ own
    · rw [if_pos h, if_pos (List.mem_cons_of_mem _ h)]
    · rw [if_neg h]
      by_cases hj : i = j
      · subst hj
        rw [if_pos List.mem_cons_self]
        rcases Nat.lt_or_ge i env.length with hlt | hge
        · exact getD_set_same hlt
        · simp [List.getD, hge]
      · rw [if_neg (fun z => (List.mem_cons.mp z).elim (fun q => hj q.symm) h), getD_set_ne hj]
theorem wipe_len : ∀ (own : List Nat) (env : List Slot), (Pf.wipe own env).length = env.length
  | [], env => rfl
  | i :: own, env => (wipe_len own (env.set i .un)).trans List.length_set
theorem restore_getD : ∀ (own : List Nat) (env0 env : List Slot) (j : Nat), env0.length = env.length → (restore own env0 env).getD j .un = if j ∈ own then env0.getD j .un else env.getD j .un
  | [], env0, env, j, _ => by simp [restore]
  | i :: own, env0, env, j, hl => by
    have e := restore_getD own env0 (env.set i (env0.getD i .un)) j (by rw [List.length_set]; exact hl)
    show (restore own env0 (env.set i (env0.getD i .un))).getD j .un = _
    rw [e]
    by_cases h : j ∈ own
    · rw [if_pos h, if_pos (List.mem_cons_of_mem _ h)]
    · rw [if_neg h]
      by_cases hj : i = j
      · subst hj
        rw [if_pos List.mem_cons_self]
        rcases Nat.lt_or_ge i env.length with hlt | hge
        · exact getD_set_same hlt
        · simp [List.getD, hge, hl ▸ hge]
      · rw [if_neg (fun z => (List.mem_cons.mp z).elim (fun q => hj q.symm) h), getD_set_ne hj]
theorem restore_len : ∀ (own : List Nat) (env0 env : List Slot), (restore own env0 env).length = env.length
  | [], env0, env => rfl
  | i :: own, env0, env => (restore_len own env0 _).trans List.length_set
theorem wipeV_getD (σ : L2.St) (vs : List Nat) (j : Nat) : (L2.wipe σ vs).getD j none = if j ∈ vs then none else σ.getD j none := by
  by_cases h : j ∈ vs
  · rw [if_pos h]
    cases e : (L2.wipe σ vs).getD j none with
    | none => rfl
    | some v => exact ((wipe_some (getD_some e)).2 h).elim
  · rw [if_neg h]
    simp [List.getD, wipe_out h]
theorem wipe_eq {vs : List Nat} (hl : σ'.length = σ.length) (h : ∀ i, i ∉ vs → σ'.getD i none = σ.getD i none) : L2.wipe σ' vs = L2.wipe σ vs := by
  refine List.ext_getElem? fun i => ?_
  have e1 := wipeV_getD σ' vs i
  have e2 := wipeV_getD σ vs i
  have e : (L2.wipe σ' vs).getD i none = (L2.wipe σ vs).getD i none := by
    rw [e1, e2]
    by_cases hi : i ∈ vs
    · rw [if_pos hi, if_pos hi]
    · rw [if_neg hi, if_neg hi, h i hi]
  rcases Nat.lt_or_ge i σ.length with hlt | hge
  · have l1 : i < (L2.wipe σ' vs).length := by rw [wipe_length, hl]; exact hlt
    have l2 : i < (L2.wipe σ vs).length := by rw [wipe_length]; exact hlt
    rw [List.getElem?_eq_getElem l1, List.getElem?_eq_getElem l2]
    simpa [List.getD, List.getElem?_eq_getElem l1, List.getElem?_eq_getElem l2] using e
  · rw [List.getElem?_eq_none (by rw [wipe_length, hl]; exact hge), List.getElem?_eq_none (by rw [wipe_length]; exact hge)]
theorem wipe_idem (σ : L2.St) (vs : List Nat) : L2.wipe (L2.wipe σ vs) vs = L2.wipe σ vs :=
  wipe_eq (wipe_length σ vs) fun i hi => by rw [wipeV_getD, if_neg hi]
/-- the block's own slots hold nothing of their own -/
theorem Sr.wiped (x : Sr w g σ S H) {vs : List Nat} (h : ∀ i, i ∈ vs → ∀ d, S.env.getD i .un ≠ .own d) : Sr w g (L2.wipe σ vs) ⟨Pf.wipe vs S.env, S.hd⟩ H ∧ (∀ b, OwnAt (L2.wipe σ vs) (Pf.wipe vs S.env) b ↔ OwnAt σ S.env b) := by
  have ho : ∀ b, OwnAt (L2.wipe σ vs) (Pf.wipe vs S.env) b ↔ OwnAt σ S.env b := fun b => by
    constructor
    · rintro ⟨i, d, h1, h2⟩
      rw [wipe_getD] at h1
      rw [wipeV_getD] at h2
      split at h1
      · cases h1
      · rename_i hi
        rw [if_neg hi] at h2
        exact ⟨i, d, h1, h2⟩
    · rintro ⟨i, d, h1, h2⟩
      have hi : i ∉ vs := fun z => h i z d h1
      exact ⟨i, d, by rw [wipe_getD, if_neg hi]; exact h1, by rw [wipeV_getD, if_neg hi]; exact h2⟩
  refine ⟨⟨x.sub, by rw [wipe_length]; exact x.len.trans (wipe_len _ _).symm, fun i => ?_, ?_, ⟨fun ds e => ?_, x.hand.no⟩, x.tabs, x.nt⟩, ho⟩
  · show SlotR w g H ((Pf.wipe vs S.env).getD i .un) _
    rw [wipe_getD, wipeV_getD]
    by_cases hi : i ∈ vs
    · rw [if_pos hi]; trivial
    · rw [if_neg hi, if_neg hi]; exact x.slots i
  · intro i j b d d' h1 h2 h3 h4
    change (Pf.wipe vs S.env).getD i .un = _ at h1
    change (Pf.wipe vs S.env).getD j .un = _ at h2
    rw [wipe_getD] at h1 h2
    rw [wipeV_getD] at h3 h4
    split at h1
    · cases h1
    · split at h2
      · cases h2
      · rename_i a c
        rw [if_neg a] at h3
        rw [if_neg c] at h4
        exact x.dist i j b d d' h1 h2 h3 h4
  · obtain ⟨a, us, ea, f, hv, hl, rr, n⟩ := x.hand.at_ ds e
    exact ⟨a, us, ea, f, hv, hl, rr, fun z => n ((ho a).mp z)⟩
theorem ExtE.conv {σ1 σ2 : L2.St} {S1 S1' S2 S2' : Sta} (x : ExtE g σ1 S1 H g' S1' H') (h1 : ∀ b, OwnAt σ1 S1.env b ↔ OwnAt σ2 S2.env b) (h2 : ∀ b, OwnAt σ2 S2'.env b → OwnAt σ1 S1'.env b)
    (he : ∀ i, S2'.env.getD i .un = S2.env.getD i .un ∨ ∃ d, S2.env.getD i .un = .own d ∧ S2'.env.getD i .un = .val d) : ExtE g σ2 S2 H g' S2' H' := by
  have o1 : ∀ b, Owned g σ1 S1 b → Owned g σ2 S2 b := fun b z => z.elim .inl fun q => .inr ((h1 b).mp q)
  refine ⟨⟨x.le, fun b o h n nt => x.keep b o h (fun z => n (o1 b z)) nt, fun b z => ?_, x.grow⟩, x.keepO, x.hand, he⟩
  exact (x.own b (z.elim .inl fun q => .inr (h2 b q))).elim (fun q => .inl (o1 b q)) .inr
theorem tabs_upd {T : List (Addr × Str)} {a : Addr} {xs : List V} {o : HO} (t : LamX.Tabs T H) (h : H a = some (.lst xs)) : LamX.Tabs T (upd H a o) := fun p hp => by
  obtain ⟨ps, h1, q, r⟩ := t p hp
  have hpa : p.1 ≠ a := fun z => by rw [z, h] at h1; cases h1
  refine ⟨ps, (upd_ne hpa).trans h1, q, fun pos cv ec => ?_⟩
  obtain ⟨c, e1, e2⟩ := r pos cv ec
  exact ⟨c, e1, (upd_ne (fun z => by rw [z, h] at e2; cases e2)).trans e2⟩
/-- a list of nobody's, new behind the base, is written -/
theorem Sr.updN {g0 : Gh} {S0 : Sta} {H0 : Hp} {a : Addr} {xs : List V} (x : Sr w g σ S H) (e : ExtE g0 σ S0 H0 g S H) (h0 : Fre H0 a) (h : H a = some (.lst xs)) (f : g.F a = none) (n : ¬ Owned g σ S a) (o : HO) :
    Sr w g σ S (upd H a o) ∧ ExtE g0 σ S0 H0 g S (upd H a o) := by
  have ne : ∀ b, Owned g σ S b → b ≠ a := fun b z q => n (q ▸ z)
  refine ⟨x.to (Gle.refl _) rfl (fun b q z => ?_) (fun b z => ?_) (tabs_upd x.tabs h) x.nt, ⟨⟨e.le, fun b q z nb nt => ?_, e.own, fun b z => ?_⟩, fun b q z nb nt => ?_, e.hand, e.env⟩⟩
  · rw [upd_ne (fun w => by rw [w, f] at z; cases z)]; exact x.sub _ _ z
  · obtain ⟨_, _, _, f', _⟩ := x.ownThere z
    exact ⟨upd_ne (ne b z), f'⟩
  · rw [upd_ne (fun w => h0.no (by rw [← w]; exact z) nt)]; exact e.keep b q z nb nt
  · by_cases hb : b = a
    · rw [hb]; exact h0
    · exact e.grow b fun u hu => z u (by rw [upd_ne hb]; exact hu)
  · have hb : b ≠ a := fun w => h0.no (w ▸ z) nt
    rcases e.keepO b q z nb nt with k | ⟨od, k, d⟩
    · exact .inl ((upd_ne hb).trans k)
    · exact .inr ⟨od, (upd_ne hb).trans k, d⟩
theorem newStep_ok (x : Sr w g σ S H) (n : NewStep g H g' H') : Sr w g' σ S H' ∧ ExtE g σ S H g' S H' := by
  rcases n with ⟨rfl, rfl⟩ | ⟨q, vs, hq, f, rfl, rfl⟩ | ⟨T, vs, hT, rfl, rfl⟩
  · exact ⟨x, ExtE.refl⟩
  · have ne : ∀ b, Owned g σ S b → b ≠ q := fun b z e => by
      obtain ⟨u, hu, _, _, mu⟩ := x.ownThere z
      rw [e, hq] at hu; cases hu; exact mu
    have l : Gle g (g.put q (.tup vs)) := Gle.put f
    refine ⟨x.to l rfl (fun b o z => ?_) (fun b z => ⟨rfl, ?_⟩) x.tabs (put_nt x.nt fun _ z => nomatch z), ⟨⟨l, fun b o z nb nt => ⟨z, fun m fb => ?_⟩, fun b z => .inl z, fun b z => z⟩, fun b o z nb nt => .inl z, fun b z => .inl z, fun i => .inl rfl⟩⟩
    · by_cases hb : b = q
      · subst hb; rw [show (g.put b (.tup vs)).F b = _ from upd_same] at z; cases z; exact hq
      · rw [show (g.put q (.tup vs)).F b = g.F b from upd_ne hb] at z; exact x.sub _ _ z
    · obtain ⟨_, _, _, f', _⟩ := x.ownThere z
      show upd g.F q _ b = none
      rw [upd_ne (ne b z)]; exact f'
    · show upd g.F q _ b = none
      rw [upd_ne (fun e => by rw [e, hq] at z; cases z; exact m)]; exact fb
  · exact x.new hT _ fun _ z => nomatch z
mutual
theorem bindT_env : ∀ {t : Tg} {d : D} {env env' : List Slot}, bindT t d env = some env' → env'.length = env.length ∧ ∀ i, env'.getD i .un = env.getD i .un ∨ ∃ d, env'.getD i .un = .val d
  | .nm j, d, env, env', h => by
    cases h
    refine ⟨List.length_set, fun i => ?_⟩
    by_cases hj : j = i
    · subst hj
      rcases Nat.lt_or_ge j env.length with hlt | hge
      · exact .inr ⟨d, getD_set_same hlt⟩
      · exact .inl (by rw [List.set_eq_of_length_le hge])
    · exact .inl (getD_set_ne hj)
  | .tp ts, .tup ds, env, env', h => bindTs_env (show bindTs ts ds env = some env' from h)
  | .tp _, .non, _, _, h | .tp _, .bl _, _, _, h | .tp _, .int _, _, _, h | .tp _, .str _, _, _, h | .tp _, .lst _, _, _, h | .tp _, .dic _ _, _, _, h | .tp _, .fn _, _, _, h | .tp _, .hnd, _, _, h | .tp _, .scr _, _, _, h => by cases h
  | .nil, d, _, _, h => by cases d <;> cases h
  | .cons _ _, d, _, _, h => by cases d <;> cases h
theorem bindTs_env : ∀ {ts : Tg} {ds : List D} {env env' : List Slot}, bindTs ts ds env = some env' → env'.length = env.length ∧ ∀ i, env'.getD i .un = env.getD i .un ∨ ∃ d, env'.getD i .un = .val d
  | .nil, [], _, _, h => by cases h; exact ⟨rfl, fun i => .inl rfl⟩
  | .nil, _ :: _, _, _, h => by cases h
  | .cons t ts, [], _, _, h => by cases h
  | .cons t ts, d :: ds, env, env', h => by
    obtain ⟨env1, b1, b2⟩ := Option.bind_eq_some_iff.mp (show (bindT t d env).bind (fun env => bindTs ts ds env) = some env' from h)
    obtain ⟨l1, h1⟩ := bindT_env b1
    obtain ⟨l2, h2⟩ := bindTs_env b2
    refine ⟨l2.trans l1, fun i => ?_⟩
    rcases h2 i with q | q
    · rcases h1 i with z | ⟨d, z⟩
      · exact .inl (q.trans z)
      · exact .inr ⟨d, q.trans z⟩
    · exact .inr q
  | .nm _, ds, _, _, h => by cases ds <;> cases h
  | .tp _, ds, _, _, h => by cases ds <;> cases h
end
theorem noOwn_all {own : List Nat} {env : List Slot} (h : noOwn own env = true) : ∀ i, i ∈ own → ∀ d, env.getD i .un ≠ .own d := fun i hi d e => by
  have q := List.all_eq_true.mp h i hi
  rw [e] at q; cases q
def WF : WX := fun _ _ _ _ => False
theorem drop_get {α : Type} {l : List α} {i : Nat} {x : α} (h : l[i]? = some x) : l.drop i = x :: l.drop (i + 1) := by
  obtain ⟨hi, rfl⟩ := List.getElem?_eq_some_iff.mp h
  exact List.drop_eq_getElem_cons hi
theorem comp_run {own : List (Str × Nat)} {t : Tg} {it c e : E} (ht : own.map (·.2) = t.slots) (h : rdE w C W (.comp t it c e) σ H Q) :
    tLc (rdI w C W true it) (gTg w t) (rdT w C WF c) (rdSh w C WF e) (own.map (·.2)) σ H Q := by
  obtain ⟨g, S, hS, q⟩ := h
  refine ⟨g, S, hS, (Out.bind lateTV q).imp ?_⟩
  rintro J H1 ⟨g1, S1, ds, hr, s1, e1, ⟨hbig, P, dr, la⟩, k1⟩ D hD
  rw [ht]
  have z := k1 _ _ e1
  generalize hvs : t.slots = vs at *
  split at z
  · rename_i hno
    have hno' := noOwn_all hno
    obtain ⟨sw, ow⟩ := s1.wiped hno'
    -- the block's own state
    generalize hcl : compL vs t (evT C c) (fun s => (ev C e s).bind fun tv s => Pf.R.of (share tv) s) ds ⟨Pf.wipe vs S1.env, S1.hd⟩ = res at z
    cases res with
    | bad => exact z.elim
    | exc x s => exact z.elim
    | ok tot Se =>
      obtain ⟨sd, ed⟩ := sw.newO hD (.lst [])
      -- an inner step seen from outside
      have outer : ∀ g' S' H', ExtE g1 (L2.wipe σ vs) ⟨Pf.wipe vs S1.env, S1.hd⟩ H1 g' S' H' → (∀ j, j ∈ vs → S'.env.getD j .un = .un) → S'.env.length = S1.env.length →
          ExtE g1 σ S1 H1 g' ⟨restore vs S1.env S'.env, S'.hd⟩ H' := fun g' S' H' x hw hl => by
        refine x.conv ow (fun b ⟨j, d, h1, h2⟩ => ?_) fun j => ?_
        · change (restore vs S1.env S'.env).getD j .un = _ at h1
          rw [restore_getD _ _ _ _ hl.symm] at h1
          split at h1
          · rename_i hj; exact (hno' j hj d h1).elim
          · rename_i hj; exact ⟨j, d, h1, by rw [wipeV_getD, if_neg hj]; exact h2⟩
        · change (restore vs S1.env S'.env).getD j .un = _ ∨ ∃ d, _ ∧ (restore vs S1.env S'.env).getD j .un = _
          rw [restore_getD _ _ _ _ hl.symm]
          by_cases hj : j ∈ vs
          · rw [if_pos hj]; exact .inl rfl
          · rw [if_neg hj]
            have q := x.env j
            change S'.env.getD j .un = (Pf.wipe vs S1.env).getD j .un ∨ ∃ d, (Pf.wipe vs S1.env).getD j .un = .own d ∧ _ at q
            rw [wipe_getD, if_neg hj] at q
            exact q
      refine ⟨fun i m H => m = ds.length - i ∧ i ≤ ds.length ∧ ∃ gi Si us acc r, Sr w gi (L2.wipe σ vs) Si H ∧ (∀ j, j ∈ vs → Si.env.getD j .un = .un) ∧ Si.env.length = S1.env.length ∧
          ExtE g1 (L2.wipe σ vs) ⟨Pf.wipe vs S1.env, S1.hd⟩ H1 gi Si H ∧ H D = some (.lst us) ∧ Reps w gi acc us ∧ acc.length ≤ i ∧ gi.F D = none ∧ ¬ Owned gi (L2.wipe σ vs) Si D ∧
          compL vs t (evT C c) (fun s => (ev C e s).bind fun tv s => Pf.R.of (share tv) s) (ds.drop i) Si = .ok r Se ∧ acc ++ r = tot, ?_, ?_⟩
      · refine ⟨_, rfl, Nat.zero_le _, g1, _, [], [], tot, sd, fun j hj => ?_, wipe_len _ _, ed, upd_same, rfl, Nat.le_refl _, Same.free sw.sub hD, ?_, hcl, rfl⟩
        · show (Pf.wipe vs S1.env).getD j .un = .un
          rw [wipe_getD, if_pos hj]
        · exact sw.notOwned hD
      · rintro i m H ⟨rfl, hle, gi, Si, us, acc, r, si, wi, li, ei, hDi, rr, hal, fD, nD, hcomp, htot⟩
        have oi := outer gi Si H ei wi li
        have hP : P gi H := la gi σ _ H oi.toExt (fun _ => oi.keepO) si.sub
        obtain ⟨hstop, hgo⟩ := dr gi H hP si.sub
        by_cases hi : i = ds.length
        · subst hi
          refine .inl ⟨hstop, ?_⟩
          rw [List.drop_length] at hcomp
          cases hcomp
          rw [List.append_nil] at htot
          subst htot
          -- the end
          have hsr : Sr w gi σ ⟨restore vs S1.env Se.env, Se.hd⟩ H := by
            refine ⟨si.sub, ?_, fun j => ?_, fun j k b d d' h1 h2 h3 h4 => ?_, ⟨fun ds' eh => ?_, si.hand.no⟩, si.tabs, si.nt⟩
            · show σ.length = (restore vs S1.env Se.env).length
              rw [restore_len, li]; exact s1.len
            · show SlotR w gi H ((restore vs S1.env Se.env).getD j .un) _
              rw [restore_getD _ _ _ _ li.symm]
              by_cases hj : j ∈ vs
              · rw [if_pos hj]
                have q := s1.slots j
                cases ec : S1.env.getD j .un with
                | un => trivial
                | val d => rw [ec] at q; obtain ⟨v, h, r⟩ := q; exact ⟨v, h, r.mono ei.le⟩
                | own d => exact (hno' j hj d ec).elim
              · rw [if_neg hj]
                have q := si.slots j
                rw [wipeV_getD, if_neg hj] at q
                exact q
            · change (restore vs S1.env Se.env).getD j .un = _ at h1
              change (restore vs S1.env Se.env).getD k .un = _ at h2
              rw [restore_getD _ _ _ _ li.symm] at h1 h2
              split at h1
              · rename_i hj; exact (hno' j hj d h1).elim
              · split at h2
                · rename_i hk; exact (hno' k hk d' h2).elim
                · rename_i hj hk
                  exact si.dist j k b d d' h1 h2 (by rw [wipeV_getD, if_neg hj]; exact h3) (by rw [wipeV_getD, if_neg hk]; exact h4)
            · obtain ⟨a, us', ea, f, hv, hl, rr', n⟩ := si.hand.at_ ds' eh
              refine ⟨a, us', ea, f, hv, hl, rr', fun ⟨j, d, h1, h2⟩ => ?_⟩
              change (restore vs S1.env Se.env).getD j .un = _ at h1
              rw [restore_getD _ _ _ _ li.symm] at h1
              split at h1
              · rename_i hj; exact hno' j hj d h1
              · rename_i hj; exact n ⟨j, d, h1, by rw [wipeV_getD, if_neg hj]; exact h2⟩
          refine z gi H (.ref D) hsr oi ⟨D, rfl, .of hD, fD, ⟨us, hDi, Nat.le_trans hal hbig, rr⟩, fun zz => ?_⟩
          rcases zz with zz | ⟨j, d, h1, h2⟩
          · exact nD (.inl zz)
          · change (restore vs S1.env Se.env).getD j .un = _ at h1
            rw [restore_getD _ _ _ _ li.symm] at h1
            split at h1
            · rename_i hj; exact hno' j hj d h1
            · rename_i hj; exact nD (.inr ⟨j, d, h1, by rw [wipeV_getD, if_neg hj]; exact h2⟩)
        · have hlt : i < ds.length := by omega
          have hdi : ds[i]? = some ds[i] := List.getElem?_eq_getElem hlt
          obtain ⟨go, yl⟩ := hgo i _ hdi
          refine .inr ⟨go, fun H' => ∃ m', m' < ds.length - i ∧ (m' = ds.length - (i + 1) ∧ i + 1 ≤ ds.length ∧ ∃ gi Si us acc r, Sr w gi (L2.wipe σ vs) Si H' ∧ (∀ j, j ∈ vs → Si.env.getD j .un = .un) ∧ Si.env.length = S1.env.length ∧
            ExtE g1 (L2.wipe σ vs) ⟨Pf.wipe vs S1.env, S1.hd⟩ H1 gi Si H' ∧ H' D = some (.lst us) ∧ Reps w gi acc us ∧ acc.length ≤ i + 1 ∧ gi.F D = none ∧ ¬ Owned gi (L2.wipe σ vs) Si D ∧
            compL vs t (evT C c) (fun s => (ev C e s).bind fun tv s => Pf.R.of (share tv) s) (ds.drop (i + 1)) Si = .ok r Se ∧ acc ++ r = tot), fun H' z => z, fun x H' y => ?_⟩
          obtain ⟨g', ns, rx⟩ := yl x H' y
          obtain ⟨s', e'⟩ := newStep_ok si ns
          rw [drop_get hdi] at hcomp
          change (match bindT t ds[i] Si.env with | none => _ | some env => _) = _ at hcomp
          cases hb : bindT t ds[i] Si.env with
          | none => rw [hb] at hcomp; cases hcomp
          | some env' =>
            rw [hb] at hcomp
            refine ⟨g', Si, ds[i], env', s', rx, hb, fun σ2 s2 o2 k2 => ?_⟩
            have hl2 : σ2.length = (L2.wipe σ vs).length := by
              rw [s2.len, si.len]; exact (bindT_env hb).1
            have hw2 : L2.wipe σ2 vs = L2.wipe σ vs := by
              rw [wipe_eq hl2 fun j hj => (k2 j (by rw [hvs]; exact hj)).1]; exact wipe_idem σ vs
            refine ⟨by rw [hw2], ?_⟩
            -- the slots of the target hold shared values
            have ne2 : ∀ j, j ∈ vs → ∀ d, env'.getD j .un ≠ .own d := fun j hj d hd => by
              rcases (bindT_env hb).2 j with q | ⟨d', q⟩
              · rw [wi j hj] at q; rw [q] at hd; cases hd
              · rw [q] at hd; cases hd
            have own2 : ∀ b, OwnAt σ2 env' b ↔ OwnAt (L2.wipe σ vs) Si.env b := fun b => ⟨o2 b, fun ⟨j, d, h1, h2⟩ => by
              have hj : j ∉ vs := fun z => by rw [wi j z] at h1; cases h1
              obtain ⟨q1, q2⟩ := k2 j (by rw [hvs]; exact hj)
              exact ⟨j, d, q2.trans h1, q1.trans h2⟩⟩
            -- behind the element's, or the test's, end
            have back : ∀ g4 S4 H4, Sr w g4 σ2 S4 H4 → ExtE g' σ2 ⟨env', Si.hd⟩ H' g4 S4 H4 →
                Sr w g4 (L2.wipe σ vs) ⟨Pf.wipe vs S4.env, S4.hd⟩ H4 ∧ ExtE g1 (L2.wipe σ vs) ⟨Pf.wipe vs S1.env, S1.hd⟩ H1 g4 ⟨Pf.wipe vs S4.env, S4.hd⟩ H4 ∧ H4 D = some (.lst us) ∧ g4.F D = none ∧
                ¬ Owned g4 (L2.wipe σ vs) ⟨Pf.wipe vs S4.env, S4.hd⟩ D ∧ Gle gi g4 ∧ (Pf.wipe vs S4.env).length = S1.env.length := fun g4 S4 H4 s4 x4 => by
              have ne4 : ∀ j, j ∈ vs → ∀ d, S4.env.getD j .un ≠ .own d := fun j hj d hd => by
                rcases x4.env j with q | ⟨d', q1, q2⟩
                · rw [q] at hd; exact ne2 j hj d hd
                · exact ne2 j hj d' q1
              obtain ⟨s5, o5⟩ := s4.wiped ne4
              rw [hw2] at s5 o5
              have x5 : ExtE g' (L2.wipe σ vs) Si H' g4 ⟨Pf.wipe vs S4.env, S4.hd⟩ H4 := x4.conv own2 (fun b z => (o5 b).mp z) fun j => by
                change (Pf.wipe vs S4.env).getD j .un = _ ∨ ∃ d, _ ∧ (Pf.wipe vs S4.env).getD j .un = _
                rw [wipe_getD]
                by_cases hj : j ∈ vs
                · rw [if_pos hj, wi j hj]; exact .inl rfl
                · rw [if_neg hj]
                  have q := x4.env j
                  change S4.env.getD j .un = env'.getD j .un ∨ ∃ d, env'.getD j .un = _ ∧ _ at q
                  rw [(k2 j (by rw [hvs]; exact hj)).2] at q
                  exact q
              have x6 := e'.trans x5
              have x7 := ei.trans x6
              obtain ⟨q1, q2⟩ := x6.keep D _ hDi nD (fun _ z => nomatch z)
              refine ⟨s5, x7, q1, q2 trivial fD, fun z => (x6.own D z).elim nD (fun q => q.no hDi fun _ z => nomatch z), x6.le, ?_⟩
              rw [wipe_len]
              have := s4.len
              have h3 := s2.len
              have h4 : S4.env.length = env'.length := by rw [← this]; exact h3
              rw [h4, (bindT_env hb).1, li]
            cases hcnd : evT C c ⟨env', Si.hd⟩ with
            | bad => change (evT C c ⟨env', Si.hd⟩).bind _ = _ at hcomp; rw [hcnd] at hcomp; cases hcomp
            | exc x s => change (evT C c ⟨env', Si.hd⟩).bind _ = _ at hcomp; rw [hcnd] at hcomp; cases hcomp
            | ok bb S3 =>
              change (evT C c ⟨env', Si.hd⟩).bind _ = _ at hcomp
              rw [hcnd] at hcomp
              refine ⟨g', ⟨env', Si.hd⟩, s2, ?_⟩
              rw [hcnd]
              intro g3 H3 b3 s3 e3 r3
              cases r3
              change (if bb = true then _ else _) = _ at hcomp
              by_cases hbb : bb = true
              · rw [if_pos hbb]
                rw [if_pos hbb] at hcomp
                change ((fun s => (ev C e s).bind fun tv s => Pf.R.of (share tv) s) S3).bind _ = _ at hcomp
                cases hel : (ev C e S3).bind fun tv s => Pf.R.of (share tv) s with
                | bad => rw [show (fun s => (ev C e s).bind fun tv s => Pf.R.of (share tv) s) S3 = _ from hel] at hcomp; cases hcomp
                | exc x s => rw [show (fun s => (ev C e s).bind fun tv s => Pf.R.of (share tv) s) S3 = _ from hel] at hcomp; cases hcomp
                | ok d4 S4 =>
                  rw [show (fun s => (ev C e s).bind fun tv s => Pf.R.of (share tv) s) S3 = _ from hel] at hcomp
                  refine ⟨g3, S3, s3, ?_⟩
                  rw [hel]
                  intro g4 H4 v4 s4 e4 r4
                  obtain ⟨s5, x5, hD5, fD5, nD5, l5, len5⟩ := back g4 S4 H4 s4 (e3.trans e4)
                  change (compL vs t _ _ (ds.drop (i + 1)) ⟨Pf.wipe vs S4.env, S4.hd⟩).bind _ = _ at hcomp
                  cases hrest : compL vs t (evT C c) (fun s => (ev C e s).bind fun tv s => Pf.R.of (share tv) s) (ds.drop (i + 1)) ⟨Pf.wipe vs S4.env, S4.hd⟩ with
                  | bad => rw [hrest] at hcomp; cases hcomp
                  | exc x s => rw [hrest] at hcomp; cases hcomp
                  | ok r' S5 =>
                    rw [hrest] at hcomp; cases hcomp
                    obtain ⟨s6, x6⟩ := s5.updN x5 (.of hD) hD5 fD5 nD5 (.lst (us ++ [v4]))
                    refine ⟨us, hD5, ?_, ds.length - (i + 1), by omega, rfl, by omega, g4, _, us ++ [v4], acc ++ [d4], r', s6, fun j hj => ?_, len5, x6, upd_same, (rr.mono l5).append (Reps.one r4), ?_, fD5, nD5, hrest, ?_⟩
                    · rw [← rr.length, ← big_line]; omega
                    · show (Pf.wipe vs S4.env).getD j .un = .un
                      rw [wipe_getD, if_pos hj]
                    · rw [List.length_append]; show _ + 1 ≤ _; omega
                    · rw [← htot, List.append_assoc]; rfl
              · rw [if_neg hbb]
                rw [if_neg hbb] at hcomp
                obtain ⟨s5, x5, hD5, fD5, nD5, l5, len5⟩ := back g3 S3 H3 s3 e3
                exact ⟨ds.length - (i + 1), by omega, rfl, by omega, g3, _, us, acc, r, s5, fun j hj => by show (Pf.wipe vs S3.env).getD j .un = .un; rw [wipe_getD, if_pos hj], len5, x5, hD5, rr.mono l5, by omega, fD5, nD5, hcomp, htot⟩
  · exact z.elim
theorem snd_comp {elt tg iter : Expr} {ifs : List Expr} {scope : Scope} {own : List (Str × Nat)} {t : Tg} {it c e : E} (hK : X.K = w.K) (hc : X.calm = true) (hN : X.N.Nodup) (hi : PI X tg iter (rdI w C W true it)) (ok : BlkOk X.N X.env.scope scope own) (ht : own.map (·.2) = t.slots)
    (hg : ∀ (s : Shared) (H : Hp) (D : Addr) (cl : List (Str × Addr)) (fp : List Addr), PG (X.blk s H scope (compEnvC scope cl D X.env) fp) tg (gTg w t))
    (hif : ∀ (s : Shared) (H : Hp) (D : Addr) (cl : List (Str × Addr)) (fp : List Addr), PTs (X.blk s H scope (compEnvC scope cl D X.env) fp) ifs (rdT w C WF c))
    (he : ∀ (s : Shared) (H : Hp) (D : Addr) (cl : List (Str × Addr)) (fp : List Addr), PE (X.blk s H scope (compEnvC scope cl D X.env) fp) elt (rdE w C WF e))
    (hs : ∀ x, foldedSetIterable iter X.env x = pure x) : PE X (.ListComp elt [⟨tg, iter, ifs, 0⟩] scope pos) (rdE w C W (.comp t it c e)) :=
  pe_to (pe_lc hc hN hi ok hg hif (fun s H D cl fp => pe_share (he s H D cl fp)) hs) fun σ H Q h => comp_run ht h
end
end Pf

/-! Pf, part 11: statements. -/
namespace Pf
open PySem PySem.Spec PyProof.Rows L2
/-- a statement's end -/
def OutS (w : Wd) (W : WX) (D : Ends) (g : Gh) (σ : L2.St) (S : Sta) (H : Hp) : SR → Prop
  | .nx S' => ∀ g' σ' H', Sr w g' σ' S' H' → Ext g σ S H g' σ' S' H' → D.nx σ' H'
  | .rt tv S' => ∀ g' σ' H' v, Sr w g' σ' S' H' → Ext g σ S H g' σ' S' H' → TVR w H g' σ' S' H' tv v → (∀ d, tv ≠ .brw d) → D.rt v H'
  | .exc x S' => ∀ g' σ' H' dd, Sr w g' σ' S' H' → Ext g σ S H g' σ' S' H' → XcR w g' H' x dd → W (.ref (w.cad x.c)) dd σ' H'
  | .bad => False
def rdS (w : Wd) (C : Cn) (W : WX) (a : S) : TS := fun D σ H => ∃ g S, Sr w g σ S H ∧ OutS w W D g σ S H (ex C a S)
/-- the catch of a def's body: whatever the slots hold -/
def Any (W : WX) : Prop := ∀ c d σ σ' H, W c d σ H → W c d σ' H
section
variable {w : Wd} {C : Cn} {W : WX} {g g1 g' : Gh} {H H1 H' : Hp} {σ σ1 σ' : L2.St} {S S1 S2 : Sta} {Q : VK} {X : Cx} {pos : Pos} {Dn : Ends}
/-- first r, begun later, then f -/
theorem Out.bind2 {α β α' β' : Type} {Rl : Hp → Gh → Sta → Hp → α → β → Prop} {Rm : Hp → Gh → Sta → Hp → α' → β' → Prop} {P : β' → Hp → Prop} {r : R α} {f : α → Sta → R α'} (e : ExtE g σ S H g1 S1 H1) (h : Out w W Rm P g σ S H (r.bind f)) :
    Out w W Rl (fun v H2 => ∃ g2 S2 a, r = .ok a S2 ∧ Sr w g2 σ S2 H2 ∧ ExtE g σ S H g2 S2 H2 ∧ ExtE g1 σ S1 H1 g2 S2 H2 ∧ Rl H1 g2 S2 H2 a v ∧ Out w W Rm P g σ S H (f a S2)) g1 σ S1 H1 r := by
  cases r with
  | ok a S' => exact fun g' H' v q b c => ⟨g', S', a, rfl, q, e.trans b, b, c, h⟩
  | exc x S' => exact fun g' H' dd q b c => h g' H' dd q (e.trans b) c
  | bad => exact h
theorem OutS.shift {r : SR} (h : OutS w W Dn g σ S H r) (x : Ext g σ S H g1 σ1 S1 H1) : OutS w W Dn g1 σ1 S1 H1 r := by
  cases r with
  | nx S' => exact fun g' σ' H' q b => h g' σ' H' q (x.trans b)
  | rt tv S' => exact fun g' σ' H' v q b c n => h g' σ' H' v q (x.trans b) (lateTV _ _ _ _ _ _ _ x.grow c) n
  | exc y S' => exact fun g' σ' H' dd q b c => h g' σ' H' dd q (x.trans b) c
  | bad => exact h
theorem OutS.bind {α β : Type} {Rl : Hp → Gh → Sta → Hp → α → β → Prop} (aw : Any W) {r : R α} {f : α → Sta → SR} (h : OutS w W Dn g σ S H (r.toS f)) :
    Out w W Rl (fun v H1 => ∃ g1 S1 a, r = .ok a S1 ∧ Sr w g1 σ S1 H1 ∧ ExtE g σ S H g1 S1 H1 ∧ Rl H g1 S1 H1 a v ∧ OutS w W Dn g σ S H (f a S1)) g σ S H r := by
  cases r with
  | ok a S' => exact fun g' H' v q b c => ⟨g', S', a, rfl, q, b, c, h⟩
  | exc x S' => exact fun g' H' dd q b c => h g' σ H' dd q b.toExt c
  | bad => exact h
theorem ps_to {st : Stmt} {t t' : TS} (h : PS X st t) (k : ∀ D σ H, t' D σ H → t D σ H) : PS X st t' := ⟨fun pins s σ H D I q => h.run pins s σ H D I (k D σ H q)⟩
theorem pss_to {st : List Stmt} {t t' : TS} (h : PSs X st t) (k : ∀ D σ H, t' D σ H → t D σ H) : PSs X st t' := ⟨fun pins s σ H D I q => h.run pins s σ H D I (k D σ H q)⟩
/-! ### what is stored -/
theorem Ext.sub {S2 : Sta} {σ2 : L2.St} (e : Ext g σ S H g1 σ1 S1 H1) (h : ∀ b, OwnAt σ2 S2.env b → OwnAt σ1 S1.env b ∨ Fre H b) : Ext g σ S H g1 σ2 S2 H1 :=
  ⟨e.le, e.keep, fun b z => z.elim (fun q => e.own b (.inl q)) fun q => (h b q).elim (fun q => e.own b (.inr q)) .inr, e.grow⟩
theorem Sr.putOwn (x : Sr w g σ S H) {i : Nat} {d : D} {a : Addr} (f : g.F a = none) (o : ObR w g H a d) (n : ¬ Owned g σ S a) :
    Sr w g (σ.set i (some (.ref a))) (S.set i (.own d)) H ∧ ∀ b, OwnAt (σ.set i (some (.ref a))) (S.set i (.own d)).env b → b = a ∨ OwnAt σ S.env b := by
  have ho : ∀ j d' (b : Addr), (S.set i (.own d)).env.getD j .un = .own d' → (σ.set i (some (.ref a))).getD j none = some (.ref b) → (j = i ∧ b = a) ∨ (j ≠ i ∧ S.env.getD j .un = .own d' ∧ σ.getD j none = some (.ref b)) := fun j d' b h1 h2 => by
    by_cases hj : i = j
    · subst hj
      have hlt : i < S.env.length := by
        have := getD_lt (l := (S.set i (.own d)).env) (i := i) (z := .un) (by rw [h1]; exact fun z => nomatch z)
        simpa [Sta.set] using this
      rw [getD_set_same (by rw [x.len]; exact hlt)] at h2; cases h2
      exact .inl ⟨rfl, rfl⟩
    · rw [show (S.set i (.own d)).env = S.env.set i (.own d) from rfl, getD_set_ne hj] at h1
      rw [getD_set_ne hj] at h2
      exact .inr ⟨fun z => hj z.symm, h1, h2⟩
  have hsub : ∀ b, OwnAt (σ.set i (some (.ref a))) (S.set i (.own d)).env b → b = a ∨ OwnAt σ S.env b := fun b ⟨j, d', h1, h2⟩ => by
    rcases ho j d' b h1 h2 with ⟨_, q⟩ | ⟨_, q1, q2⟩
    · exact .inl q
    · exact .inr ⟨j, d', q1, q2⟩
  refine ⟨⟨x.sub, by rw [List.length_set]; exact x.len.trans (List.length_set).symm, fun j => ?_, ?_, ⟨fun ds e => ?_, x.hand.no⟩, x.tabs, x.nt⟩, hsub⟩
  · by_cases hj : i = j
    · subst hj
      rcases Nat.lt_or_ge i S.env.length with hlt | hge
      · rw [show (S.set i (.own d)).env = S.env.set i (.own d) from rfl, getD_set_same hlt, getD_set_same (by rw [x.len]; exact hlt)]
        exact ⟨a, rfl, f, o⟩
      · rw [show (S.set i (.own d)).env = S.env.set i (.own d) from rfl, List.set_eq_of_length_le hge]
        rw [show S.env.getD i .un = .un from by simp [List.getD, List.getElem?_eq_none hge]]; trivial
    · rw [show (S.set i (.own d)).env = S.env.set i (.own d) from rfl, getD_set_ne hj, getD_set_ne hj]
      exact x.slots j
  · intro j k b d1 d2 h1 h2 h3 h4
    rcases ho j d1 b h1 h3 with ⟨e1, q1⟩ | ⟨_, a1, c1⟩ <;> rcases ho k d2 b h2 h4 with ⟨e2, q2⟩ | ⟨_, a2, c2⟩
    · rw [e1, e2]
    · exact (n (.inr ⟨k, d2, a2, q1 ▸ c2⟩)).elim
    · exact (n (.inr ⟨j, d1, a1, q2 ▸ c1⟩)).elim
    · exact x.dist j k b d1 d2 a1 a2 c1 c2
  · obtain ⟨b, vs, ea, f', hv, hl, rr, nn⟩ := x.hand.at_ ds e
    exact ⟨b, vs, ea, f', hv, hl, rr, fun z => (hsub b z).elim (fun q => n (.inl (q ▸ ea))) nn⟩
/-- a value into a slot -/
theorem put_ok {g0 : Gh} {σ0 : L2.St} {S0 : Sta} {H0 : Hp} {tv : TV} {v : V} {i : Nat} (e : Ext g0 σ0 S0 H0 g σ S H) (x : Sr w g σ S H) (r : TVR w H0 g σ S H tv v) (hp : putV i tv S = some S2) :
    Sr w g (σ.set i (some v)) S2 H ∧ Ext g0 σ0 S0 H0 g (σ.set i (some v)) S2 H ∧ ∀ b, OwnAt (σ.set i (some v)) S2.env b → (∃ d, tv = .own d ∧ v = .ref b) ∨ OwnAt σ S.env b := by
  cases tv with
  | val d =>
    cases hp
    obtain ⟨a, b⟩ := x.put (i := i) r
    exact ⟨a, e.sub fun c z => .inl (b c z), fun c z => .inr (b c z)⟩
  | own d =>
    cases hp
    obtain ⟨a, rfl, h0, f, o, n⟩ := r
    obtain ⟨p, q⟩ := x.putOwn (i := i) f o n
    exact ⟨p, e.sub fun c z => (q c z).elim (fun k => .inr (k ▸ h0)) .inl, fun c z => (q c z).elim (fun k => .inl ⟨d, rfl, k ▸ rfl⟩) .inr⟩
  | brw d => cases hp
/-- name = value -/
theorem set_run {i : Nat} {a : E} (aw : Any W) (h : rdS w C W (.set i a) Dn σ H) : rdE w C W a σ H fun x H1 => gName i x σ H1 Dn.nx := by
  obtain ⟨g, S, hS, q⟩ := h
  refine ⟨g, S, hS, (OutS.bind aw q).imp ?_⟩
  rintro v H1 ⟨g1, S1, tv, hr, s1, e1, r1, k1⟩
  cases hp : putV i tv S1 with
  | none => rw [hp] at k1; exact k1.elim
  | some S2 =>
    rw [hp] at k1
    obtain ⟨a, b, _⟩ := put_ok e1.toExt s1 r1 hp
    exact k1 _ _ _ a b
theorem snd_set {i : Nat} {x : Str} {e : Expr} {a : E} {pos' : Pos} (aw : Any W) (hN : X.N.Nodup) (hi : X.N[i]? = some x) (hx : Loc X.env.scope x) (he : PE X e (rdE w C W a)) (hs : swapsWith e (some (.Name x pos')) pos.line X.env = pure false) (hf : X.fn x = true ∨ X.env.scope.names.lookup x = some .local) :
    PS X (.Assign [.Name x pos'] e pos) (rdS w C W (.set i a)) := ps_to (ps_set hN hi hx he hs hf) fun D σ H h => set_run aw h
theorem snd_setLc {i : Nat} {y : Str} {py : Pos} {elt tg iter : Expr} {ifs : List Expr} {scope : Scope} {own : List (Str × Nat)} {spos : Pos} {t : Tg} {it c e : E} (aw : Any W) (hc : X.calm = true) (hN : X.N.Nodup) (hy : X.N[i]? = some y) (hyl : X.env.scope.names.lookup y = some .local)
    (hsw : swapsWith (.ListComp elt [⟨tg, iter, ifs, 0⟩] scope pos) (some (.Name y py)) spos.line X.env = pure true) (hi : PI X tg iter (rdI w C W true it)) (ok : BlkOk X.N X.env.scope scope own) (ht : own.map (·.2) = t.slots)
    (hg : ∀ (s : Shared) (H : Hp) (D : Addr) (cl : List (Str × Addr)) (fp : List Addr), PG (X.blk s H scope (compEnvC scope cl D X.env) fp) tg (gTg w t))
    (hif : ∀ (s : Shared) (H : Hp) (D : Addr) (cl : List (Str × Addr)) (fp : List Addr), PTs (X.blk s H scope (compEnvC scope cl D X.env) fp) ifs (rdT w C WF c))
    (he : ∀ (s : Shared) (H : Hp) (D : Addr) (cl : List (Str × Addr)) (fp : List Addr), PE (X.blk s H scope (compEnvC scope cl D X.env) fp) elt (rdE w C WF e))
    (hs : ∀ x, foldedSetIterable iter X.env x = pure x) : PS X (.Assign [.Name y py] (.ListComp elt [⟨tg, iter, ifs, 0⟩] scope pos) spos) (rdS w C W (.set i (.comp t it c e))) :=
  ps_to (ps_setLc hc hN hy hyl hsw hi ok hg hif (fun s H D cl fp => pe_share (he s H D cl fp)) hs) fun D σ H h => comp_run ht (set_run aw h)
/-- targets = value -/
theorem snd_unp {tg e : Expr} {t : Tg} {a : E} (aw : Any W) (he : PE X e (rdE w C W a)) (hg : PG X tg (gTg w t)) (hs : swapsWithSole [tg] e pos.line X.env = pure false) (hw : swappedStores [tg] e X.env = pure none)
    (h1 : (assignEach [tg] X.env).map (·.2) = [assign tg X.env]) : PS X (.Assign [tg] e pos) (rdS w C W (.unp t a)) := by
  refine ps_to (ps_asg (pe_share he) hg hs hw h1) fun Dn σ H ⟨g, S, hS, q⟩ => ⟨g, S, hS, ?_⟩
  refine (OutS.bind aw q).imp ?_
  rintro v H1 ⟨g1, S1, d, hr, s1, e1, r1, k1⟩
  cases hb : bindT t d S1.env with
  | none => rw [hb] at k1; exact k1.elim
  | some env =>
    rw [hb] at k1
    exact ⟨g1, S1, d, env, s1, r1, hb, fun σ' s' o' _ => k1 _ _ _ s' (e1.toExt.sub fun b z => .inl (o' b z))⟩
/-! ### a, b = x, y -/
def OwnIn (a : Addr) : List TV → List V → Prop
  | .own _ :: tvs, v :: vs => v = .ref a ∨ OwnIn a tvs vs
  | .val _ :: tvs, _ :: vs => OwnIn a tvs vs
  | .brw _ :: tvs, _ :: vs => OwnIn a tvs vs
  | _, _ => False
def TVsR (w : Wd) (H0 : Hp) (g : Gh) (σ : L2.St) (S : Sta) (H : Hp) : List TV → List V → Prop
  | [], vs => vs = []
  | tv :: tvs, vs => ∃ v r, vs = v :: r ∧ TVR w H0 g σ S H tv v ∧ TVsR w H0 g σ S H tvs r ∧ ∀ a d, tv = .own d → v = .ref a → ¬ OwnIn a tvs r
abbrev RTVs (w : Wd) (σ : L2.St) : Hp → Gh → Sta → Hp → List TV → List V → Prop := fun H0 g S H tvs vs => TVsR w H0 g σ S H tvs vs
theorem TVsR.late {H0 H1 : Hp} (k : ∀ b, Fre H1 b → Fre H0 b) : ∀ {tvs : List TV} {vs : List V}, TVsR w H1 g σ S H tvs vs → TVsR w H0 g σ S H tvs vs
  | [], _, h => h
  | _ :: _, _, ⟨v, r, e, h, t, n⟩ => ⟨v, r, e, lateTV _ _ _ _ _ _ _ k h, TVsR.late k t, n⟩
theorem lateTVs : Late (RTVs w σ) := fun H0 H1 g S H tvs vs k h => h.late k
theorem OwnIn.new {H0 : Hp} {a : Addr} : ∀ {tvs : List TV} {vs : List V}, TVsR w H0 g σ S H tvs vs → OwnIn a tvs vs → Fre H0 a
  | [], _, _, h => by unfold OwnIn at h; exact h.elim
  | .own d :: tvs, _, ⟨v, r, rfl, ⟨b, e, h0, _⟩, t, _⟩, h => by
    rcases h with h | h
    · rw [e] at h; cases h; exact h0
    · exact OwnIn.new t h
  | .val d :: tvs, _, ⟨v, r, rfl, _, t, _⟩, h => OwnIn.new t h
  | .brw d :: tvs, _, ⟨v, r, rfl, _, t, _⟩, h => OwnIn.new t h
def rdR (w : Wd) (C : Cn) (W : WX) (a : E) : TA := fun σ H Q => ∃ g S, Sr w g σ S H ∧ Out w W (RTVs w σ) Q g σ S H (evR C a S)
theorem pa_rnil : PA X [] (rdR w C W .nil) := pa_to pa_nil fun σ H Q ⟨g, S, hS, q⟩ => q g H [] hS ExtE.refl rfl
theorem pa_rcons {e : Expr} {es : List Expr} {a b : E} (h : ∀ v p, e ≠ .Starred v p) (ha : PE X e (rdE w C W a)) (hb : PA X es (rdR w C W b)) : PA X (e :: es) (rdR w C W (.cons a b)) := by
  refine pa_to (pa_cons ha hb (star_cons h)) fun σ H Q ⟨g, S, hS, q⟩ => ⟨g, S, hS, (Out.bind2 ExtE.refl q).imp ?_⟩
  rintro v H1 ⟨g1, S1, tv, hr, s1, e1, _, r1, k1⟩
  refine ⟨g1, S1, s1, (Out.bind2 e1 k1).imp ?_⟩
  rintro vs H2 ⟨g2, S2, tvs, hr2, s2, e2, f2, r2, k2⟩
  refine k2 g2 H2 (v :: vs) s2 e2 ⟨v, vs, rfl, TVR.step f2 r1, r2.late fun b z => e1.grow b z, fun a d h1 h2 z => ?_⟩
  subst h1
  obtain ⟨b, e, _, _, o, _⟩ := r1
  rw [h2] at e; cases e
  have z' := OwnIn.new r2 z
  obtain ⟨u, hu, hnt⟩ := o.b.there
  exact z'.no hu hnt
theorem TVsR.put {i : Nat} {v : V} (x : Sr w g σ S H) {S2 : Sta} {H0 : Hp} {tv : TV} (ho : ∀ b, OwnAt (σ.set i (some v)) S2.env b → (∃ d, tv = .own d ∧ v = .ref b) ∨ OwnAt σ S.env b) : ∀ {tvs : List TV} {vs : List V}, TVsR w H0 g σ S H tvs vs → (∀ a d, tv = .own d → v = .ref a → ¬ OwnIn a tvs vs) → TVsR w H0 g (σ.set i (some v)) S2 H tvs vs
  | [], _, h, _ => h
  | .val d :: tvs, _, ⟨u, r, rfl, h, t, n⟩, k => ⟨u, r, rfl, h, TVsR.put x ho t (fun a d e1 e2 z => k a d e1 e2 z), n⟩
  | .brw d :: tvs, _, ⟨u, r, rfl, h, t, n⟩, k => ⟨u, r, rfl, h, TVsR.put x ho t (fun a d e1 e2 z => k a d e1 e2 z), n⟩
  | .own d :: tvs, _, ⟨u, r, rfl, ⟨a, ea, h0, f, o, nn⟩, t, n⟩, k => by
    refine ⟨u, r, rfl, ⟨a, ea, h0, f, o, fun z => ?_⟩, TVsR.put x ho t (fun a d e1 e2 z => k a d e1 e2 (.inr z)), n⟩
    rcases z with z | z
    · exact nn (.inl z)
    · rcases ho a z with ⟨d', e1, e2⟩ | z
      · exact k a d' e1 e2 (.inl ea)
      · exact nn (.inr z)
/-- one of several stores -/
theorem putX_step {g0 : Gh} {σ0 : L2.St} {S0 : Sta} {H0 : Hp} {i : Nat} {ts : List Tx} {tvs : List TV} {vs : List V} (e : Ext g0 σ0 S0 H0 g σ S H) (x : Sr w g σ S H) (r : TVsR w H0 g σ S H tvs vs) (h : OutS w W Dn g0 σ0 S0 H0 (putX C (.nm i :: ts) tvs S)) :
    ∃ v us tv tw S2, vs = v :: us ∧ tvs = tv :: tw ∧ Ext g0 σ0 S0 H0 g (σ.set i (some v)) S2 H ∧ Sr w g (σ.set i (some v)) S2 H ∧ TVsR w H0 g (σ.set i (some v)) S2 H tw us ∧ OutS w W Dn g0 σ0 S0 H0 (putX C ts tw S2) := by
  cases tvs with
  | nil => exact h.elim
  | cons tv tw =>
    obtain ⟨v, us, rfl, r1, r2, n⟩ := r
    change OutS w W Dn g0 σ0 S0 H0 ((SR.of (putV i tv S)).bind fun s => putX C ts tw s) at h
    cases hp : putV i tv S with
    | none => rw [hp] at h; exact h.elim
    | some S2 =>
      rw [hp] at h
      obtain ⟨a, b, c⟩ := put_ok e x r1 hp
      exact ⟨v, us, tv, tw, S2, rfl, rfl, b, a, TVsR.put x c r2 n, h⟩
theorem putX_end {ts tw : List TV} {us : List V} {g0 : Gh} {σ0 : L2.St} {S0 : Sta} {H0 : Hp} (r : TVsR w H0 g σ S H tw us) (h : OutS w W Dn g0 σ0 S0 H0 (putX C [] tw S)) : tw = [] ∧ us = [] ∧ OutS w W Dn g0 σ0 S0 H0 (.nx S) := by
  cases tw with
  | nil => exact ⟨rfl, r, h⟩
  | cons => exact h.elim
theorem snd_par2 {i j : Nat} {x y : Str} {a b : Expr} {e : E} {px py pt : Pos} {kt k2 pt2} (aw : Any W) (hc : X.calm = true) (hN : X.N.Nodup) (hi : X.N[i]? = some x) (hj : X.N[j]? = some y) (hij : i ≠ j)
    (hx : X.env.scope.names.lookup x = some .local) (hy : X.env.scope.names.lookup y = some .local) (ha : PA X [a, b] (rdR w C W e))
    (hw :
     swappedStores [.Tuple [.Name x px, .Name y py] kt pt] (.Tuple [a, b] k2 pt2) X.env = pure (some [x, y]))
    (hs : swapsWithSole [.Tuple [.Name x px, .Name y py] kt pt] (.Tuple [a, b] k2 pt2) pos.line X.env = pure false) :
    PS X (.Assign [.Tuple [.Name x px, .Name y py] kt pt] (.Tuple [a, b] k2 pt2) pos) (rdS w C W (.par [.nm i, .nm j] e)) := by
  refine ps_to (ps_par hc hN hi hj hij hx hy ha hw hs) fun Dn σ H ⟨g, S, hS, q⟩ => ⟨g, S, hS, (OutS.bind aw q).imp ?_⟩
  rintro vs H1 ⟨g1, S1, tvs, hr, s1, e1, r1, k1⟩
  obtain ⟨v, us, tv, tw, S2, rfl, rfl, e2, s2, r2, k2⟩ := putX_step e1.toExt s1 r1 k1
  obtain ⟨v', us, tv', tw, S3, rfl, rfl, e3, s3, r3, k3⟩ := putX_step e2 s2 r2 k2
  obtain ⟨rfl, rfl, k4⟩ := putX_end (ts := []) r3 k3
  exact ⟨v, v', rfl, k4 _ _ _ s3 e3⟩
theorem snd_par3 {i j l : Nat} {x y z : Str} {a b c : Expr} {e : E} {px py pz pt : Pos} {kt k2 pt2} (aw : Any W) (hc : X.calm = true) (hN : X.N.Nodup) (hi : X.N[i]? = some x) (hj : X.N[j]? = some y) (hl : X.N[l]? = some z) (hij : i ≠ j) (hil : i ≠ l) (hjl : j ≠ l)
    (hx : X.env.scope.names.lookup x = some .local) (hy : X.env.scope.names.lookup y = some .local) (hz : X.env.scope.names.lookup z = some .local) (ha : PA X [a, b, c] (rdR w C W e))
    (hw :
     swappedStores [.Tuple [.Name x px, .Name y py, .Name z pz] kt pt] (.Tuple [a, b, c] k2 pt2) X.env = pure (some [x, y, z]))
    (hs : swapsWithSole [.Tuple [.Name x px, .Name y py, .Name z pz] kt pt] (.Tuple [a, b, c] k2 pt2) pos.line X.env = pure false) :
    PS X (.Assign [.Tuple [.Name x px, .Name y py, .Name z pz] kt pt] (.Tuple [a, b, c] k2 pt2) pos) (rdS w C W (.par [.nm i, .nm j, .nm l] e)) := by
  refine ps_to (ps_par3 hc hN hi hj hl hij hil hjl hx hy hz ha hw hs) fun Dn σ H ⟨g, S, hS, q⟩ => ⟨g, S, hS, (OutS.bind aw q).imp ?_⟩
  rintro vs H1 ⟨g1, S1, tvs, hr, s1, e1, r1, k1⟩
  obtain ⟨v, us, tv, tw, S2, rfl, rfl, e2, s2, r2, k2⟩ := putX_step e1.toExt s1 r1 k1
  obtain ⟨v', us, tv', tw, S3, rfl, rfl, e3, s3, r3, k3⟩ := putX_step e2 s2 r2 k2
  obtain ⟨v'', us, tv'', tw, S4, rfl, rfl, e4, s4, r4, k4⟩ := putX_step e3 s3 r3 k3
  obtain ⟨rfl, rfl, k5⟩ := putX_end (ts := []) r4 k4
  exact ⟨v, v', v'', rfl, k5 _ _ _ s4 e4⟩
/-! ### flow -/
theorem snd_skip : PS X (.Pass pos) (rdS w C W .skip) := ps_to ps_pass fun D σ H ⟨g, S, hS, q⟩ => q g σ H hS Ext.refl
theorem snd_nil : PSs X [] (rdS w C W .skip) := pss_to pss_nil fun D σ H ⟨g, S, hS, q⟩ => q g σ H hS Ext.refl
theorem snd_seq {st : Stmt} {rest : List Stmt} {a b : Pf.S} (h1 : PS X st (rdS w C W a)) (h2 : PSs X rest (rdS w C W b)) : PSs X (st :: rest) (rdS w C W (.seq a b)) := by
  refine pss_to (pss_cons h1 h2) fun Dn σ H ⟨g, S, hS, q⟩ => ⟨g, S, hS, ?_⟩
  change OutS w W Dn g σ S H ((ex C a S).bind fun s => ex C b s) at q
  cases hr : ex C a S with
  | bad => rw [hr] at q; exact q
  | exc x s => rw [hr] at q; exact q
  | rt v s => rw [hr] at q; exact q
  | nx S' =>
    rw [hr] at q
    exact fun g' σ' H' s' e' => ⟨g', S', s', OutS.shift q e'⟩
theorem snd_expr {e : Expr} {a : E} (aw : Any W) (he : PE X e (rdE w C W a)) (hs : swapsWith e none pos.line X.env = pure false) : PS X (.Expr e pos) (rdS w C W (.ex a)) := by
  refine ps_to (ps_expr he hs) fun Dn σ H ⟨g, S, hS, q⟩ => ⟨g, S, hS, (OutS.bind aw q).imp ?_⟩
  rintro v H1 ⟨g1, S1, tv, hr, s1, e1, _, k1⟩
  exact k1 _ _ _ s1 e1.toExt
theorem snd_ret {e : Expr} {a : E} (aw : Any W) (he : PE X e (rdE w C W a)) : PS X (.Return (some e) pos) (rdS w C W (.ret a)) := by
  refine ps_to (ps_ret he) fun Dn σ H ⟨g, S, hS, q⟩ => ⟨g, S, hS, (OutS.bind aw q).imp ?_⟩
  rintro v H1 ⟨g1, S1, tv, hr, s1, e1, r1, k1⟩
  cases tv with
  | val d => exact k1 _ _ _ _ s1 e1.toExt r1 fun _ z => nomatch z
  | own d => exact k1 _ _ _ _ s1 e1.toExt r1 fun _ z => nomatch z
  | brw d => exact k1.elim
theorem snd_retN : PS X (.Return none pos) (rdS w C W (.ret (.c .non))) := ps_to ps_retN fun Dn σ H ⟨g, S, hS, q⟩ => by
  change OutS w W Dn g σ S H (.rt (.val .non) S) at q
  exact q g σ H _ hS Ext.refl rfl fun _ z => nomatch z
theorem snd_if {c : Expr} {p q : List Stmt} {c' : E} {a b : Pf.S} (aw : Any W) (hc : PT X c (rdT w C W c')) (ha : PSs X p (rdS w C W a)) (hb : PSs X q (rdS w C W b)) : PS X (.If c p q pos) (rdS w C W (.ife c' a b)) := by
  refine ps_to (ps_if hc ha hb) fun Dn σ H ⟨g, S, hS, q⟩ => ⟨g, S, hS, (OutS.bind aw q).imp ?_⟩
  rintro v H1 ⟨g1, S1, t, hr, s1, e1, rfl, k1⟩
  by_cases ht : t = true
  · rw [if_pos ht] at k1 ⊢; exact ⟨g1, S1, s1, k1.shift e1.toExt⟩
  · rw [if_neg ht] at k1 ⊢; exact ⟨g1, S1, s1, k1.shift e1.toExt⟩
theorem snd_while {c : Expr} {p : List Stmt} {c' : E} {a : Pf.S} (aw : Any W) (hp : PassesOwn (model X.prog X.w) X.A X.env X.xe) (hc : PT X c (rdT w C W c')) (ha : PSs X p (rdS w C W a)) : PS X (.While c p [] pos) (rdS w C W (.wh c' a)) := by
  refine ps_to (ps_while hp hc ha) fun Dn σ H ⟨g, S, hS, q⟩ => ?_
  refine ⟨fun m σ H => ∃ g S, Sr w g σ S H ∧ OutS w W Dn g σ S H (whL (evT C c') (ex C a) m S), ⟨fuel, g, S, hS, q⟩, ?_⟩
  rintro m σ H ⟨g, S, hS, q⟩
  cases m with
  | zero => exact q.elim
  | succ m =>
    refine ⟨g, S, hS, (OutS.bind aw q).imp ?_⟩
    rintro v H1 ⟨g1, S1, t, hr, s1, e1, rfl, k1⟩
    by_cases ht : t = true
    · rw [if_pos ht] at k1 ⊢
      refine ⟨fun σ' H' => ∃ g S, Sr w g σ' S H' ∧ OutS w W Dn g σ' S H' (whL (evT C c') (ex C a) m S), fun σ' H' z => ⟨m, Nat.lt_succ_self _, z⟩, g1, S1, s1, ?_⟩
      have k2 := k1.shift e1.toExt
      cases hr2 : ex C a S1 with
      | bad => rw [hr2] at k2; exact k2
      | exc x s => rw [hr2] at k2; exact k2
      | rt v s => rw [hr2] at k2; exact k2
      | nx S' =>
        rw [hr2] at k2
        exact fun g' σ' H' s' e' => ⟨g', S', s', OutS.shift k2 e'⟩
    · rw [if_neg ht] at k1 ⊢
      exact k1 _ _ _ s1 e1.toExt
theorem snd_for {tg iter : Expr} {p : List Stmt} {t : Tg} {it : E} {a : Pf.S} (aw : Any W) (hp : PassesOwn (model X.prog X.w) X.A X.env X.xe) (hc : X.calm = true) (hi : PI X tg iter (rdI w C W false it)) (hg : PG X tg (gTg w t)) (hb : PSs X p (rdS w C W a))
    (hs : ∀ x, foldedSetIterable iter X.env x = pure x) : PS X (.For tg iter p [] pos) (rdS w C W (.fo t it a)) := by
  refine ps_to (ps_for hp hc hi hg hb hs) fun Dn σ H ⟨g, S, hS, q⟩ => ⟨g, S, hS, (OutS.bind aw q).imp ?_⟩
  rintro J H1 ⟨g1, S1, ds, hr, s1, e1, ⟨hbig, P, dr, la⟩, k1⟩
  refine ⟨fun i m σ' H => m = ds.length - i ∧ i ≤ ds.length ∧ ∃ gi Si, Sr w gi σ' Si H ∧ Ext g1 σ S1 H1 gi σ' Si H ∧ OutS w W Dn gi σ' Si H (forL t (ex C a) (ds.drop i) Si), ⟨_, rfl, Nat.zero_le _, g1, S1, s1, Ext.refl, k1.shift e1.toExt⟩, ?_⟩
  rintro i m σi H ⟨rfl, hle, gi, Si, si, ei, ki⟩
  have hP : P gi H := la gi σi _ H ei (fun z => nomatch z) si.sub
  obtain ⟨hstop, hgo⟩ := dr gi H hP si.sub
  by_cases hi' : i = ds.length
  · refine .inl ⟨by rw [hi']; exact hstop, ?_⟩
    rw [hi', List.drop_length] at ki
    exact ki _ _ _ si Ext.refl
  · have hlt : i < ds.length := by omega
    have hdi : ds[i]? = some ds[i] := List.getElem?_eq_getElem hlt
    obtain ⟨go, yl⟩ := hgo i _ hdi
    refine .inr ⟨go, fun σ' H' => ∃ m', m' < ds.length - i ∧ (m' = ds.length - (i + 1) ∧ i + 1 ≤ ds.length ∧ ∃ gi Si, Sr w gi σ' Si H' ∧ Ext g1 σ S1 H1 gi σ' Si H' ∧ OutS w W Dn gi σ' Si H' (forL t (ex C a) (ds.drop (i + 1)) Si)), fun σ' H' z => z, fun x H' y => ?_⟩
    obtain ⟨g', ns, rx⟩ := yl x H' y
    obtain ⟨s', e'⟩ := newStep_ok si ns
    rw [drop_get hdi] at ki
    cases hb : bindT t ds[i] Si.env with
    | none =>
      change OutS w W Dn gi σi Si H (match bindT t ds[i] Si.env with | none => .bad | some env => (ex C a ⟨env, Si.hd⟩).bind fun s => forL t (ex C a) (ds.drop (i + 1)) s) at ki
      rw [hb] at ki; exact ki.elim
    | some env' =>
      change OutS w W Dn gi σi Si H (match bindT t ds[i] Si.env with | none => .bad | some env => (ex C a ⟨env, Si.hd⟩).bind fun s => forL t (ex C a) (ds.drop (i + 1)) s) at ki
      rw [hb] at ki
      change OutS w W Dn gi σi Si H ((ex C a ⟨env', Si.hd⟩).bind fun s => forL t (ex C a) (ds.drop (i + 1)) s) at ki
      refine ⟨g', Si, ds[i], env', s', rx, hb, fun σ2 s2 o2 k2 => ⟨g', ⟨env', Si.hd⟩, s2, ?_⟩⟩
      have x2 : Ext gi σi Si H g' σ2 ⟨env', Si.hd⟩ H' := e'.toExt.sub fun b z => .inl (o2 b z)
      have k3 := ki.shift x2
      cases hr2 : ex C a ⟨env', Si.hd⟩ with
      | bad => rw [hr2] at k3; exact k3
      | exc x s => rw [hr2] at k3; exact k3
      | rt v s => rw [hr2] at k3; exact k3
      | nx S' =>
        rw [hr2] at k3
        exact fun g'' σ'' H'' s'' e'' => ⟨_, by omega, rfl, hlt, g'', S', s'', (ei.trans x2).trans e'', OutS.shift k3 e''⟩
end
end Pf

/-! Pf, part 12: statements that write a slot's own thing, or the hand; raise. -/
namespace Pf
open PySem PySem.Spec PyProof.Rows L2
section
variable {w : Wd} {C : Cn} {W : WX} {g g1 g' : Gh} {H H1 H' : Hp} {σ σ1 σ' : L2.St} {S S1 S2 : Sta} {Q : VK} {X : Cx} {pos : Pos} {Dn : Ends}
theorem tabs_wr {T : List (Addr × Str)} {a : Addr} {u o : HO} (t : LamX.Tabs T H) (h : H a = some u) (k : (∃ xs, u = .lst xs) ∨ isD u) : LamX.Tabs T (upd H a o) := fun p hp => by
  obtain ⟨ps, h1, q, r⟩ := t p hp
  have hpa : p.1 ≠ a := fun z => by
    rw [z, h] at h1; cases h1
    rcases k with ⟨xs, e⟩ | k
    · cases e
    · exact k
  refine ⟨ps, (upd_ne hpa).trans h1, q, fun pos cv ec => ?_⟩
  obtain ⟨c, e1, e2⟩ := r pos cv ec
  refine ⟨c, e1, (upd_ne (fun z => ?_)).trans e2⟩
  rw [z, h] at e2; cases e2
  rcases k with ⟨xs, e⟩ | k
  · cases e
  · exact k
theorem obR_kind {a : Addr} {d : D} (o : ObR w g H a d) : ∃ u, H a = some u ∧ ((∃ xs, u = .lst xs) ∨ isD u) := by
  cases d with
  | lst ds => obtain ⟨vs, h, _⟩ := o; exact ⟨_, h, .inl ⟨_, rfl⟩⟩
  | dic ks ds => obtain ⟨u, ws, h, k, _⟩ := o; exact ⟨_, h, .inr k.isD⟩
  | _ => exact o.elim
/-- what a slot holds of its own is written -/
theorem Sr.wr (x : Sr w g σ S H) {i : Nat} {d d' : D} {a : Addr} {o : HO} (hi : S.env.getD i .un = .own d) (ha : σ.getD i none = some (.ref a)) (ob : ObR w g (upd H a o) a d') :
    Sr w g σ (S.set i (.own d')) (upd H a o) ∧ Ext g σ S H g σ (S.set i (.own d')) (upd H a o) := by
  have hlt : i < S.env.length := getD_lt (by rw [hi]; exact fun z => nomatch z)
  have q := x.slots i
  rw [hi, ha] at q
  obtain ⟨a', e, f, ob0⟩ := q
  cases e
  obtain ⟨u, hu, hk⟩ := obR_kind ob0
  have na : g.a ≠ some a := fun z => by
    cases eh : S.hd with
    | none => rw [x.hand.no eh] at z; cases z
    | some ds =>
      obtain ⟨b, vs, eb, _, _, _, _, n⟩ := x.hand.at_ ds eh
      rw [eb] at z; cases z
      exact n ⟨i, d, hi, ha⟩
  have eE : (S.set i (.own d')).env = S.env.set i (.own d') := rfl
  have ho : ∀ j d2 (b : Addr), (S.set i (.own d')).env.getD j .un = .own d2 → σ.getD j none = some (.ref b) → (∃ d3, S.env.getD j .un = .own d3) ∧ (j ≠ i → S.env.getD j .un = .own d2 ∧ b ≠ a) := fun j d2 b h1 h2 => by
    by_cases hj : i = j
    · subst hj; exact ⟨⟨d, hi⟩, fun z => (z rfl).elim⟩
    · rw [eE, getD_set_ne hj] at h1
      exact ⟨⟨d2, h1⟩, fun _ => ⟨h1, fun z => hj (x.dist i j a d d2 hi h1 ha (by rw [← z]; exact h2))⟩⟩
  have hsub : ∀ b, OwnAt σ (S.set i (.own d')).env b → OwnAt σ S.env b := fun b ⟨j, d2, h1, h2⟩ => by
    obtain ⟨⟨d3, h3⟩, _⟩ := ho j d2 b h1 h2
    exact ⟨j, d3, h3, h2⟩
  refine ⟨⟨fun b v hb => ?_, x.len.trans List.length_set.symm, fun j => ?_, ?_, ⟨fun ds e => ?_, x.hand.no⟩, tabs_wr x.tabs hu hk, x.nt⟩, ⟨Gle.refl _, fun b v hb n nt => ⟨?_, fun _ z => z⟩, fun b z => z.elim (fun q => .inl (.inl q)) fun q => .inl (.inr (hsub b q)), fun b z => ?_⟩⟩
  · rw [upd_ne (fun z => by rw [z, f] at hb; cases hb)]; exact x.sub _ _ hb
  · by_cases hj : i = j
    · subst hj
      rw [eE, getD_set_same hlt, ha]
      exact ⟨a, rfl, f, ob⟩
    · rw [eE, getD_set_ne hj]
      have q := x.slots j
      cases ec : S.env.getD j .un with
      | un => trivial
      | val d2 => rw [ec] at q; exact q
      | own d2 =>
        rw [ec] at q
        obtain ⟨b, hb, fb, ob2⟩ := q
        have hne : b ≠ a := fun z => hj (x.dist i j a d d2 hi ec ha (by rw [← z]; exact hb))
        exact ⟨b, hb, fb, ob2.congr (Gle.refl _) (upd_ne hne)⟩
  · intro j k b d1 d2 h1 h2 h3 h4
    obtain ⟨⟨d3, q1⟩, _⟩ := ho j d1 b h1 h3
    obtain ⟨⟨d4, q2⟩, _⟩ := ho k d2 b h2 h4
    exact x.dist j k b d3 d4 q1 q2 h3 h4
  · obtain ⟨b, vs, eb, fb, hv, hl, rr, n⟩ := x.hand.at_ ds e
    exact ⟨b, vs, eb, fb, (upd_ne (fun z => na (by rw [← z]; exact eb))).trans hv, hl, rr, fun z => n (hsub b z)⟩
  · rw [upd_ne (fun z => n (.inr ⟨i, d, hi, by rw [z]; exact ha⟩))]; exact hb
  · refine z.upd (.inr fun ps e => ?_)
    subst e
    obtain ⟨u, hu2, hk2⟩ := obR_kind ob
    rw [upd_same] at hu2; cases hu2
    rcases hk2 with ⟨xs, e⟩ | e
    · cases e
    · exact e
/-- the hand is written -/
theorem Sr.wrHand (x : Sr w g σ S H) {ds ds' : List D} {a : Addr} {vs vs' : List V} (eh : S.hd = some ds) (ea : g.a = some a) (hl : ds'.length ≤ big) (rr : Reps w g ds' vs') :
    Sr w g σ ⟨S.env, some ds'⟩ (upd H a (.lst vs')) ∧ Ext g σ S H g σ ⟨S.env, some ds'⟩ (upd H a (.lst vs')) := by
  obtain ⟨a', vs0, ea', f, hv, hl0, rr0, n⟩ := x.hand.at_ ds eh
  rw [ea] at ea'; cases ea'
  refine ⟨⟨fun b v hb => ?_, x.len, fun j => ?_, x.dist, ⟨fun ds2 e => ?_, fun e => nomatch e⟩, tabs_wr x.tabs hv (.inl ⟨_, rfl⟩), x.nt⟩, ⟨Gle.refl _, fun b v hb n nt => ⟨?_, fun _ z => z⟩, fun b z => .inl z, fun b z => ?_⟩⟩
  · rw [upd_ne (fun z => by rw [z, f] at hb; cases hb)]; exact x.sub _ _ hb
  · have q := x.slots j
    show SlotR w g _ (S.env.getD j .un) _
    cases ec : S.env.getD j .un with
    | un => trivial
    | val d2 => rw [ec] at q; exact q
    | own d2 =>
      rw [ec] at q
      obtain ⟨b, hb, fb, ob2⟩ := q
      exact ⟨b, hb, fb, ob2.congr (Gle.refl _) (upd_ne fun z => n ⟨j, d2, ec, by rw [← z]; exact hb⟩)⟩
  · cases e
    exact ⟨a, vs', ea, f, upd_same, hl, rr, n⟩
  · rw [upd_ne (fun z => n (.inl (by rw [z]; exact ea)))]; exact hb
  · exact z.upd (.inr fun _ z => nomatch z)
/-- the slot of a thing that is written -/
theorem Sr.ownAt (x : Sr w g σ S H) {i : Nat} {d : D} (hi : S.env.getD i .un = .own d) : ∃ a, σ[i]? = some (some (.ref a)) ∧ σ.getD i none = some (.ref a) ∧ g.F a = none ∧ ObR w g H a d := by
  have q := x.slots i
  rw [hi] at q
  obtain ⟨a, e, f, o⟩ := q
  exact ⟨a, getD_some e, e, f, o⟩
theorem Sr.valAt (x : Sr w g σ S H) {i : Nat} {d : D} (hi : S.env.getD i .un = .val d) : ∃ v, σ[i]? = some (some v) ∧ Rep w g d v := by
  have q := x.slots i
  rw [hi] at q
  obtain ⟨a, e, o⟩ := q
  exact ⟨a, getD_some e, o⟩
theorem Sr.has (x : Sr w g σ S H) {i : Nat} (h : S.has i = true) : ∃ v, σ[i]? = some (some v) := by
  unfold Sta.has at h
  split at h
  · cases h
  · rename_i hne
    cases ec : S.env.getD i .un with
    | un => exact (hne ec).elim
    | val d => obtain ⟨v, e, _⟩ := x.valAt ec; exact ⟨v, e⟩
    | own d => obtain ⟨v, e, _⟩ := x.ownAt ec; exact ⟨_, e⟩
/-- the environment of slots behind an expression -/
theorem ExtE.ownEnv (e : ExtE g σ S H g1 S1 H1) {i : Nat} {d : D} (h : S1.env.getD i .un = .own d) : S.env.getD i .un = .own d := by
  rcases e.env i with q | ⟨d', q1, q2⟩
  · rw [← q]; exact h
  · rw [q2] at h; cases h
/-! ### o[k] = v -/
theorem set_or {t1 t2 : TSet} (h1 : PSet X t1) (h2 : PSet X t2) : PSet X (fun o i v H Q => t1 o i v H Q ∨ t2 o i v H Q) := fun pins s σ H o i v ov iv u Q I ro ri rv h => h.elim (h1 pins s σ H o i v ov iv u Q I ro ri rv) (h2 pins s σ H o i v ov iv u Q I ro ri rv)
/-- a dict's place: told apart (the dicts' module) -/
def SetDic (X : Cx) (w : Wd) : Prop := PSet X fun o i v H Q => ∃ a g u ks ws d e ds, o = .ref a ∧ Same g.F H ∧ H a = some u ∧ DicS ks ws u ∧ ks.length < big ∧ Reps w g ds ws ∧ Pk w g H d i ∧ d.key = true ∧ Rep w g e v ∧
  ∀ u' ws', DicS (dput ks ds d e).1 ws' u' → (dput ks ds d e).1.length ≤ big → Reps w g (dput ks ds d e).2 ws' → Q (upd H a u')
def rSet (w : Wd) : TSet := fun o i v H Q => rSetL o i v H Q ∨ ∃ a g u ks ws d e ds, o = .ref a ∧ Same g.F H ∧ H a = some u ∧ DicS ks ws u ∧ ks.length < big ∧ Reps w g ds ws ∧ Pk w g H d i ∧ d.key = true ∧ Rep w g e v ∧
  ∀ u' ws', DicS (dput ks ds d e).1 ws' u' → (dput ks ds d e).1.length ≤ big → Reps w g (dput ks ds d e).2 ws' → Q (upd H a u')
theorem place_ix (n : Nat) (i : Int) : place n i = ixN n i := rfl
/-- a place is stored -/
theorem putIx_run {g0 : Gh} {σ0 : L2.St} {S0 : Sta} {H0 : Hp} {i : Nat} {k d : D} {kv v : V} {Qn : L2.St → Hp → Prop} (e : Ext g0 σ0 S0 H0 g σ S H) (x : Sr w g σ S H) (rk : Pk w g H k kv) (rv : Rep w g d v) (hp : putIx i k d S = some S2)
    (hq : ∀ g' H', Sr w g' σ S2 H' → Ext g0 σ0 S0 H0 g' σ S2 H' → Qn σ H') : ∃ o, σ[i]? = some (some o) ∧ rSet w o kv v H fun H3 => Qn σ H3 := by
  unfold putIx at hp
  split at hp
  · rename_i ds j he
    obtain ⟨m, hm, rfl⟩ := Option.map_eq_some_iff.mp hp
    obtain ⟨a, h1, h2, f, vs, hv, hl, rr⟩ := x.ownAt he
    have hl' : (ds.set m d).length ≤ big := by rw [List.length_set]; exact hl
    obtain ⟨s2, e2⟩ := x.wr (d' := .lst (ds.set m d)) (o := .lst (vs.set m v)) he h2 ⟨_, upd_same, hl', rr.set m rv⟩
    refine ⟨_, h1, .inl ⟨a, vs, j, m, rfl, rk.int, hv, ?_, hq _ _ s2 (e.trans e2)⟩⟩
    rw [← rr.length]; exact hm
  · rename_i xx2 s1 d1 ks ds he
    split at hp
    · rename_i hc
      cases hp
      obtain ⟨a, h1, h2, f, u, ws, hv, dk, hl, rr⟩ := x.ownAt he
      have hc' := hc
      rw [Bool.and_eq_true] at hc'
      refine ⟨_, h1, .inr ⟨a, g, u, ks, ws, xx2, d, ds, rfl, x.sub, hv, dk, of_decide_eq_true hc'.2, rr, rk, hc'.1, rv, fun u' ws' q1 q2 q3 => ?_⟩⟩
      obtain ⟨s2, e2⟩ := x.wr (d' := .dic (dput ks ds xx2 d).1 (dput ks ds xx2 d).2) (o := u') he h2 ⟨u', ws', upd_same, q1, q2, q3⟩
      exact hq _ _ s2 (e.trans e2)
    · cases hp
  · rename_i j he
    obtain ⟨ds, eh, h2⟩ := Option.bind_eq_some_iff.mp hp
    obtain ⟨m, hm, rfl⟩ := Option.map_eq_some_iff.mp h2
    obtain ⟨o, h1, a', ea', ho⟩ := x.valAt he
    obtain ⟨a, vs, ea, f, hv, hl, rr, n⟩ := x.hand.at_ ds eh
    obtain rfl : a = a' := Option.some.inj (ea.symm.trans ea')
    obtain ⟨s2, e2⟩ := x.wrHand (ds' := ds.set m d) (vs := vs) (vs' := vs.set m v) eh ea (by rw [List.length_set]; exact hl) (rr.set m rv)
    refine ⟨_, h1, .inl ⟨a, vs, j, m, ho, rk.int, hv, ?_, hq _ _ s2 (e.trans e2)⟩⟩
    rw [← rr.length]; exact hm
  · cases hp
theorem rSet_ok (hD : SetDic X w) : PSet X (rSet w) := set_or set_list hD
/-- name[k] = value -/
theorem snd_six {i : Nat} {x : Str} {ke ve : Expr} {k e : E} {p1 p2 : Pos} (aw : Any W) (hD : SetDic X w) (hi : X.N[i]? = some x) (hv : Vis X.env.scope x) (hd : (x == ("__debug__" : Str)) = false) (hcd : (x == ("__classdict__" : Str)) = false)
    (hk : PE X ke (rdE w C W k)) (he : PE X ve (rdE w C W e)) (hs : swapsWithSole [.Subscript (.Name x p1) ke p2] ve pos.line X.env = pure false) (hw : swappedStores [.Subscript (.Name x p1) ke p2] ve X.env = pure none)
    (ha : ∀ v, assign (.Subscript (.Name x p1) ke p2) X.env v = (do
      let ov ← holding [v] (eval (.Name x p1) X.env)
      let iv ← holding [v, ov] (eval ke X.env)
      standAt p2; holding [v, ov, iv] (setItem ov iv v)
      release [v, ov, iv] [])) (h1 : (assignEach [.Subscript (.Name x p1) ke p2] X.env).map (·.2) = [assign (.Subscript (.Name x p1) ke p2) X.env]) :
    PS X (.Assign [.Subscript (.Name x p1) ke p2] ve pos) (rdS w C W (.six i k e)) := by
  refine ps_to (ps_asg (pe_share he) (pg_sub (pe_var hi hv hd hcd) hk (rSet_ok hD) ha) hs hw h1) fun Dn σ H ⟨g, S, hS, q⟩ => ⟨g, S, hS, (OutS.bind aw q).imp ?_⟩
  rintro v H1 ⟨g1, S1, d, hr, s1, e1, r1, k1⟩
  change OutS w W Dn g σ S H (if S1.has i then (ev C k S1).toS fun k s => SR.of (putIx i k.d d s) else .bad) at k1
  split at k1
  · rename_i hh
    obtain ⟨o, ho⟩ := s1.has hh
    refine ⟨o, ho, g1, S1, s1, (OutS.bind aw (k1.shift e1.toExt)).imp ?_⟩
    rintro kv H2 ⟨g2, S2, tk, hr2, s2, e2, r2, k2⟩
    cases hp : putIx i tk.d d S2 with
    | none => rw [hp] at k2; exact k2.elim
    | some S3 =>
      rw [hp] at k2
      obtain ⟨o', ho', q'⟩ := putIx_run (Qn := fun σ H => Dn.nx σ H) e2.toExt s2 r2.pk (r1.mono e2.le) hp fun g' H' s' e' => k2 _ _ _ s' e'
      rw [ho] at ho'; cases ho'
      exact q'
  · exact k1.elim
/-! ### name op= e -/
def rAug (w : Wd) (o : Bop) : TIp := fun x y H Q => ∃ i j k, x = .int i ∧ y = .int j ∧ augD o (.int i) (.int j) = some (.int k) ∧ Q (.int k) H
theorem ip_aug {o : Bop} {op : Operator} (h : cBop op = some o) (ho : o = .add ∨ o = .sub) : PIp X op (rAug w o) := by
  have h1 : ∀ {t t' : TIp}, PIp X op t → (∀ x y H Q, t' x y H Q → t x y H Q) → PIp X op t' := fun hp k pins s σ H x y v u Q I r1 r2 q => hp pins s σ H x y v u Q I r1 r2 (k _ _ _ _ q)
  rcases ho with rfl | rfl
  · have : op = .Add := by cases op <;> cases h <;> rfl
    subst this
    refine h1 ip_add fun x y H Q ⟨i, j, k, e1, e2, e3, q⟩ => ⟨i, j, e1, e2, ?_⟩
    cases e3; exact q
  · have : op = .Sub := by cases op <;> cases h <;> rfl
    subst this
    refine h1 ip_sub fun x y H Q ⟨i, j, k, e1, e2, e3, q⟩ => ⟨i, j, e1, e2, ?_⟩
    cases e3; exact q
theorem augD_int {o : Bop} {a b d : D} (h : augD o a b = some d) : ∃ i j k, a = .int i ∧ b = .int j ∧ d = .int k ∧ (o = .add ∨ o = .sub) := by
  unfold augD at h
  split at h
  · cases h; exact ⟨_, _, _, rfl, rfl, rfl, .inl rfl⟩
  · cases h; exact ⟨_, _, _, rfl, rfl, rfl, .inr rfl⟩
  · cases h
theorem snd_aug {i : Nat} {x : Str} {e : Expr} {a : E} {op : Operator} {o : Bop} {pos' : Pos} (aw : Any W) (hN : X.N.Nodup) (hi : X.N[i]? = some x) (hx : Loc X.env.scope x) (hop : cBop op = some o) (ho : o = .add ∨ o = .sub) (he : PE X e (rdE w C W a)) (hf : X.fn x = true ∨ X.env.scope.names.lookup x = some .local) :
    PS X (.AugAssign (.Name x pos') op e pos) (rdS w C W (.aug i o a)) := by
  refine ps_to (ps_aug hN hi hx he (ip_aug (w := w) hop ho) hf) fun Dn σ H ⟨g, S, hS, q⟩ => ?_
  change OutS w W Dn g σ S H (match S.env.getD i .un with | .val b => (ev C a S).toS fun x s => SR.of ((augD o b x.d).map fun d => s.set i (.val d)) | _ => .bad) at q
  split at q
  · rename_i b hb
    obtain ⟨v, hv, rv⟩ := hS.valAt hb
    refine ⟨v, hv, g, S, hS, (OutS.bind aw q).imp ?_⟩
    rintro y H1 ⟨g1, S1, ty, hr, s1, e1, r1, k1⟩
    cases hd : augD o b ty.d with
    | none => rw [hd] at k1; exact k1.elim
    | some d =>
      rw [hd] at k1
      obtain ⟨p, q2, k, rfl, e3, rfl, _⟩ := augD_int hd
      obtain ⟨s2, o2⟩ := s1.put (i := i) (d := .int k) (v := .int k) rfl
      have ry := r1.pk
      rw [e3] at hd ry
      exact ⟨p, q2, k, rv, ry.int, hd, k1 _ _ _ s2 (e1.toExt.sub fun b z => .inl (o2 b z))⟩
  · exact q.elim
/-! ### name.append(e) -/
theorem snd_app {i : Nat} {x : Str} {e : Expr} {a : E} {p1 p2 p3 : Pos} (aw : Any W) (hi : X.N[i]? = some x) (hv : Vis X.env.scope x) (hd : (x == ("__debug__" : Str)) = false) (hcd : (x == ("__classdict__" : Str)) = false)
    (hns : ∀ v p, e ≠ .Starred v p) (he : PE X e (rdE w C W a)) (hl : (p2.endLine == p3.line) = true) :
    PS X (.Expr (.Call (.Attribute (.Name x p1) "append" p2) [e] [] p3) pos) (rdS w C W (.app i a)) := by
  have hst := star_cons (env := X.env) (e := e) (es := []) hns
  refine ps_to (ps_expr (pe_bm PySem.F.plainAttrs_list PySem.F.slot_list_append PySem.F.type_list_append mt_append (pe_var hi hv hd hcd) (pa_cons (pe_share he) pa_nil hst) rfl
    (by rw [hst]; rfl) hl hst rfl)) fun Dn σ H ⟨g, S, hS, q⟩ => ?_
  have q : OutS w W Dn g σ S H (exApp C i a S) := q
  unfold exApp at q
  split at q
  · rename_i ds0 h0
    obtain ⟨l, hl1, hl2, f, vs0, hv0, _, _⟩ := hS.ownAt h0
    refine ⟨_, hl1, .inl ⟨rfl, vs0, SqL.of hv0⟩, g, S, hS, (OutS.bind aw q).imp ?_⟩
    rintro y H1 ⟨g1, S1, d, hr, s1, e1, r1, k1⟩
    split at k1
    · rename_i ds hds
      split at k1
      · rename_i hlen
        obtain ⟨l', hl1', hl2', f', vs, hv, _, rr⟩ := s1.ownAt hds
        rw [hl1] at hl1'; cases hl1'
        have hlen' : (ds ++ [d]).length ≤ big := by rw [List.length_append]; exact hlen
        obtain ⟨s2, e2⟩ := s1.wr (d' := .lst (ds ++ [d])) (o := .lst (vs ++ [y])) hds hl2' ⟨_, upd_same, hlen', rr.append (Reps.one r1)⟩
        exact ⟨l, vs, y, rfl, rfl, hv, by rw [← rr.length, ← big_line]; exact hlen, k1 _ _ _ s2 (e1.toExt.trans e2)⟩
      · exact k1.elim
    · exact k1.elim
  · exact q.elim
/-! ### raise -/
/-- X(), X an own exception class without own __init__ -/
theorem pmk_own0 {C : Addr} {bmB : List Value} {B newId initId : String} {x : Str} {p : Pos} (F : ExcBaseFacts B newId initId bmB) (q : PySem.W.excIn X.K C bmB newId = true) (gC : X.mg x = some (.ref C))
    (kC : PySem.W.keepIn X.K (.ref C) = true) (r : Raises X (.ref C)) (hg : Gl X x) (hdb : (x == ("__debug__" : Str)) = false) : PMk X (.Call (.Name x p) [] [] pos) (fun _ H Q => Q (.ref C) none H) := by
  intro pins s σ H Q I h
  refine (wpAny_Call_Name_kw (ld_glob I hg gC ?_ hdb))
  refine PySem.W.callWith_K0 I.kIn kC ?_
  show wpAny _ _ (call (.ref C) []) _ _ _
  obtain ⟨bm, N, nm, qn, bs, hdct, sn, sub, ab, col, dd, k0, k1, k2, k3, k5, mN, hC, hN, hni, T⟩ := exc_obj I.kIn q
  refine wpAny_call_exc_subT F T hC hN hni (fun h' e hm => ?_) (Nat.zero_le _)
  exact mk_of I hm r h (I.hok.gone hm.new)
/-- class number k of the text's errors -/
structure XcF (w : Wd) (X : Cx) (x : Str) (k : Nat) : Prop where
  exc : ∃ (bmB : List Value) (B newId initId : String), ExcBaseFacts B newId initId bmB ∧ PySem.W.excIn X.K (w.cad k) bmB newId = true
  mg : X.mg x = some (.ref (w.cad k))
  kp : PySem.W.keepIn X.K (.ref (w.cad k)) = true
  rs : Raises X (.ref (w.cad k))
theorem snd_raise0 {k : Nat} {x : Str} {p pos' : Pos} (hc : X.calm = true) (tk : Takes X W) (F : XcF w X x k) (hg : Gl X x) (hdb : (x == ("__debug__" : Str)) = false) : PS X (.Raise (some (.Call (.Name x p) [] [] pos)) none pos') (rdS w C W (.rse k .nil)) := by
  obtain ⟨bmB, B, newId, initId, F1, q⟩ := F.exc
  refine ps_to (ps_raise hc tk (pmk_own0 F1 q F.mg F.kp F.rs hg hdb)) fun Dn σ H ⟨g, S, hS, q⟩ => ?_
  exact q g σ H none hS Ext.refl rfl
/-! ### the hand -/
theorem Sr.mkHand (x : Sr w g σ S H) {i : Nat} {ds : List D} {a : Addr} (no : S.hd = none) (o : ObR w g H a (.lst ds)) (f : g.F a = none) (n : ¬ Owned g σ S a) :
    Sr w ⟨some a, g.F⟩ (σ.set i (some (.ref a))) ⟨S.env.set i (.val .hnd), some ds⟩ H ∧ ∀ b, Owned ⟨some a, g.F⟩ (σ.set i (some (.ref a))) ⟨S.env.set i (.val .hnd), some ds⟩ b → b = a ∨ Owned g σ S b := by
  have ga : g.a = none := x.hand.no no
  have l : Gle g ⟨some a, g.F⟩ := ⟨.inl ga, Same.refl _⟩
  have ho : ∀ j d' (b : Addr), (S.env.set i (.val .hnd)).getD j .un = .own d' → (σ.set i (some (.ref a))).getD j none = some (.ref b) → j ≠ i ∧ S.env.getD j .un = .own d' ∧ σ.getD j none = some (.ref b) := fun j d' b h1 h2 => by
    by_cases hj : i = j
    · subst hj
      have hlt : i < S.env.length := by
        have := getD_lt (l := S.env.set i (.val .hnd)) (i := i) (z := .un) (by rw [h1]; exact fun z => nomatch z)
        simpa using this
      rw [getD_set_same hlt] at h1; cases h1
    · rw [getD_set_ne hj] at h1
      rw [getD_set_ne hj] at h2
      exact ⟨fun z => hj z.symm, h1, h2⟩
  have hsub : ∀ b, OwnAt (σ.set i (some (.ref a))) (S.env.set i (.val .hnd)) b → OwnAt σ S.env b := fun b ⟨j, d', h1, h2⟩ => by
    obtain ⟨_, p, q⟩ := ho j d' b h1 h2
    exact ⟨j, d', p, q⟩
  obtain ⟨vs, hv, hl, rr⟩ := o
  refine ⟨⟨x.sub, by rw [List.length_set]; exact x.len.trans (List.length_set).symm, fun j => ?_, ?_, ⟨fun ds2 e => ?_, fun e => nomatch e⟩, x.tabs, x.nt⟩, fun b z => ?_⟩
  · show SlotR w _ H ((S.env.set i (.val .hnd)).getD j .un) _
    by_cases hj : i = j
    · subst hj
      rcases Nat.lt_or_ge i S.env.length with hlt | hge
      · rw [getD_set_same hlt, getD_set_same (by rw [x.len]; exact hlt)]
        exact ⟨_, rfl, a, rfl, rfl⟩
      · rw [List.set_eq_of_length_le hge]
        rw [show S.env.getD i .un = .un from by simp [List.getD, List.getElem?_eq_none hge]]; trivial
    · rw [getD_set_ne hj, getD_set_ne hj]
      have q := x.slots j
      cases ec : S.env.getD j .un with
      | un => trivial
      | val d2 => rw [ec] at q; obtain ⟨v, h, r⟩ := q; exact ⟨v, h, r.mono l⟩
      | own d2 =>
        rw [ec] at q
        obtain ⟨b, hb, fb, ob2⟩ := q
        exact ⟨b, hb, fb, ob2.congr l rfl⟩
  · intro j k b d1 d2 h1 h2 h3 h4
    obtain ⟨_, a1, c1⟩ := ho j d1 b h1 h3
    obtain ⟨_, a2, c2⟩ := ho k d2 b h2 h4
    exact x.dist j k b d1 d2 a1 a2 c1 c2
  · cases e
    exact ⟨a, vs, rfl, f, hv, hl, rr.mono l, fun z => n (.inr (hsub a z))⟩
  · rcases z with z | z
    · exact .inl (Option.some.inj z).symm
    · exact .inr (.inr (hsub b z))
theorem snd_mkh {i : Nat} {x : Str} {e : Expr} {a : E} {pos' : Pos} (aw : Any W) (hN : X.N.Nodup) (hi : X.N[i]? = some x) (hx : Loc X.env.scope x) (he : PE X e (rdE w C W a)) (hs : swapsWith e (some (.Name x pos')) pos.line X.env = pure false) (hf : X.fn x = true ∨ X.env.scope.names.lookup x = some .local) :
    PS X (.Assign [.Name x pos'] e pos) (rdS w C W (.mkh i a)) := by
  refine ps_to (ps_set hN hi hx he hs hf) fun Dn σ H ⟨g, S, hS, q⟩ => ⟨g, S, hS, (OutS.bind aw q).imp ?_⟩
  rintro v H1 ⟨g1, S1, tv, hr, s1, e1, r1, k1⟩
  split at k1
  · rename_i ds no
    obtain ⟨p, rfl, h0, f, o, n⟩ := r1
    obtain ⟨s2, o2⟩ := s1.mkHand (i := i) no o f n
    refine k1 _ _ _ s2 ⟨e1.le.trans ⟨.inl (s1.hand.no no), Same.refl _⟩, e1.keep, fun b z => ?_, e1.grow⟩
    rcases o2 b z with z | z
    · exact .inr (z ▸ h0)
    · exact e1.own b z
  · exact k1.elim
end
end Pf

/-! Pf: a dict's places. -/
namespace Pf
open PySem PySem.Spec PyProof.Rows L2
theorem keyR_of {d : D} (h : d.key = true) : ∃ k : Key, KeyR d k := by
  cases d <;> first | cases h | skip
  · exact ⟨_, rfl⟩
  · exact ⟨_, rfl⟩
theorem keyR_eqv {a b : D} {k k' : Key} (h : KeyR a k) (h' : KeyR b k') : a.eqv b = decide (k = k') := by
  cases a <;> first | exact h.elim | skip
  all_goals (cases b <;> first | exact h'.elim | skip)
  all_goals (obtain rfl : k = _ := h; obtain rfl : k' = _ := h')
  · rename_i i j
    show (i == j) = _
    by_cases e : i = j
    · subst e; simp
    · rw [beq_false_of_ne e]; exact (decide_eq_false fun z => e (Sum.inl.inj z)).symm
  · exact (decide_eq_false fun z => nomatch z).symm
  · exact (decide_eq_false fun z => nomatch z).symm
  · rename_i x y
    show (x == y) = _
    by_cases e : x = y
    · subst e; simp
    · rw [beq_false_of_ne e]; exact (decide_eq_false fun z => e (Sum.inr.inj z)).symm
theorem key_pk {w : Wd} {g : Gh} {H : Hp} {d : D} {k : Key} {v : V} (p : Pk w g H d v) (h : KeyR d k) : v = kV k := by
  cases d <;> first | exact h.elim | skip
  · obtain rfl : k = _ := h; exact p.int
  · obtain rfl : k = _ := h; exact p.str
theorem dget_cons {a d : D} {ks vs : List D} {b : D} : dget (a :: ks) (b :: vs) d = if a.eqv d then some b else dget ks vs d := by
  unfold dget
  show ((if a.eqv d then some 0 else (find d ks).map (· + 1)).bind fun j => (b :: vs)[j]?) = _
  by_cases h : a.eqv d = true
  · rw [if_pos h, if_pos h]; rfl
  · rw [if_neg h, if_neg h]
    cases find d ks <;> rfl
theorem dget_val {w : Wd} {g : Gh} {d x : D} {k : Key} (hd : KeyR d k) : ∀ {ks ds : List D} {kvs : List (Key × V)}, KeyL ks (kvs.map (·.1)) → Reps w g ds (kvs.map (·.2)) → dget ks ds d = some x → ∃ v, valV kvs k = some v ∧ Rep w g x v
  | [], ds, kvs, _, _, h => by simp [dget, find] at h
  | a :: ks, [], [], h1, _, h => by obtain ⟨_, _, e, _⟩ := h1; cases e
  | a :: ks, [], kv :: kvs, _, h2, h => by cases h2
  | a :: ks, b :: ds, [], h1, _, h => by obtain ⟨_, _, e, _⟩ := h1; cases e
  | a :: ks, b :: ds, kv :: kvs, h1, h2, h => by
    obtain ⟨k1, r1, e1, ha, h1⟩ := h1
    cases e1
    obtain ⟨v1, r2, e2, hb, h2⟩ := h2
    cases e2
    rw [dget_cons, keyR_eqv ha hd] at h
    by_cases e : kv.1 = k
    · rw [if_pos (decide_eq_true e)] at h
      cases h
      exact ⟨_, valV_pos e, hb⟩
    · rw [if_neg (by rw [decide_eq_false e]; decide)] at h
      rw [valV_neg e]
      exact dget_val hd h1 h2 h
theorem find_any {d : D} {k : Key} (hd : KeyR d k) : ∀ {ks : List D} {kvs : List (Key × V)}, KeyL ks (kvs.map (·.1)) → (find d ks).isSome = kvs.any fun kv => decide (kv.1 = k)
  | [], [], _ => rfl
  | [], _ :: _, h => by cases h
  | a :: ks, [], h => by obtain ⟨_, _, e, _⟩ := h; cases e
  | a :: ks, kv :: kvs, h => by
    obtain ⟨k1, r1, e1, ha, h1⟩ := h
    cases e1
    show (if a.eqv d then some 0 else (find d ks).map (· + 1)).isSome = _
    rw [List.any_cons, keyR_eqv ha hd]
    by_cases e : kv.1 = k
    · rw [decide_eq_true e]; rfl
    · rw [decide_eq_false e, Bool.false_or, ← find_any hd h1]
      cases find d ks <;> rfl
theorem dset_ok {w : Wd} {g : Gh} {d e : D} {k : Key} {v : V} (hd : KeyR d k) (he : Rep w g e v) : ∀ {ks ds : List D} {kvs : List (Key × V)}, KeyL ks (kvs.map (·.1)) → Reps w g ds (kvs.map (·.2)) →
    KeyL ks ((kvs.map fun kv => if kv.1 = k then (kv.1, v) else kv).map (·.1)) ∧ Reps w g (dset d e ks ds) ((kvs.map fun kv => if kv.1 = k then (kv.1, v) else kv).map (·.2))
  | [], ds, [], _, h2 => ⟨rfl, by cases ds <;> exact h2⟩
  | [], _, _ :: _, h, _ => by cases h
  | a :: ks, _, [], h, _ => by obtain ⟨_, _, e, _⟩ := h; cases e
  | a :: ks, [], kv :: kvs, _, h2 => by cases h2
  | a :: ks, b :: ds, kv :: kvs, h1, h2 => by
    obtain ⟨k1, r1, e1, ha, h1⟩ := h1
    cases e1
    obtain ⟨v1, r2, e2, hb, h2⟩ := h2
    cases e2
    obtain ⟨q1, q2⟩ := dset_ok hd he h1 h2
    show KeyL (a :: ks) _ ∧ Reps w g ((if a.eqv d then e else b) :: dset d e ks ds) _
    rw [keyR_eqv ha hd]
    by_cases ek : kv.1 = k
    · simp only [List.map_cons, ek, if_true, decide_true]
      exact ⟨⟨_, _, rfl, ek ▸ ha, q1⟩, _, _, rfl, he, q2⟩
    · simp only [List.map_cons, ek, if_false, decide_false]
      exact ⟨⟨_, _, rfl, ha, q1⟩, _, _, rfl, hb, q2⟩
theorem keyL_app : ∀ {ks : List D} {qs : List Key} {d : D} {k : Key}, KeyL ks qs → KeyR d k → KeyL (ks ++ [d]) (qs ++ [k])
  | [], qs, d, k, h, r => by rw [show qs = [] from h]; exact ⟨k, [], rfl, r, rfl⟩
  | a :: ks, _, d, k, ⟨q, r, e, ha, t⟩, rk => by rw [e]; exact ⟨q, _, rfl, ha, keyL_app t rk⟩
theorem dput_ok {w : Wd} {g : Gh} {d e : D} {k : Key} {v : V} (hd : KeyR d k) (he : Rep w g e v) {ks ds : List D} {kvs : List (Key × V)} (h1 : KeyL ks (kvs.map (·.1))) (h2 : Reps w g ds (kvs.map (·.2))) :
    KeyL (dput ks ds d e).1 ((putK kvs k v).map (·.1)) ∧ Reps w g (dput ks ds d e).2 ((putK kvs k v).map (·.2)) := by
  have ha := find_any hd h1
  unfold dput putK
  cases hf : find d ks with
  | some j =>
    rw [hf] at ha
    have ha' : (kvs.any fun kv => decide (kv.1 = k)) = true := ha.symm
    rw [if_pos ha']
    exact dset_ok hd he h1 h2
  | none =>
    rw [hf] at ha
    have ha' : (kvs.any fun kv => decide (kv.1 = k)) = false := ha.symm
    rw [if_neg (by rw [ha']; exact Bool.false_ne_true)]
    simp only [List.map_append, List.map_cons, List.map_nil]
    exact ⟨keyL_app h1 hd, h2.append (Reps.one he)⟩
theorem dput_len (ks ds : List D) (d e : D) : (dput ks ds d e).1.length ≤ ks.length + 1 := by
  unfold dput
  split
  · exact Nat.le_succ _
  · simp
theorem ix_dic {X : Cx} {w : Wd} (hK : X.K = w.K) (hu : X.A.units + 64 < cLine) : IxDic X w := by
  intro value slice pins s σ H x y v u Q I rx ry ⟨g, σ', S, ks, vs, k, d, hS, px, py, hk, hg, q⟩ hs
  obtain ⟨a, o, ws, rfl, rd, dk, hl, rr⟩ := px.dic hS.sub
  obtain ⟨kk, hkk⟩ := keyR_of hk
  have ey := key_pk py hkk
  subst ey
  rcases dk with ⟨kvs, rfl, h1, rfl⟩ | ⟨_, _, _, _, z⟩
  · obtain ⟨v', hv, rv⟩ := dget_val hkk h1 rr hg
    have G : DGet H a (kV kk) (some v') := .inl ⟨kvs, kk, rd, rfl, hv.symm⟩
    rcases (show v = Value.ref a from rx) with rfl
    exact tail_any (dict_typeIs I G) PySem.F.slot_dict_getitem.lookup (d_getItem (by omega) I G ry fun w' s3 I3 rw' => ⟨v', H, I3, rw', q.rep hS rv⟩) hs
  · exact z.elim
theorem set_dic {X : Cx} {w : Wd} (hK : X.K = w.K) (hu : X.A.units + 64 < cLine) : SetDic X w := by
  intro pins s σ; intro H o i v ov iv u Q I ro ri rv h
  obtain ⟨a, g, u0, ks, ws, d, e, ds, eo, sm, hH, dk, hl, rr, pi, hk, re, q⟩ := h
  obtain ⟨kk, hkk⟩ := keyR_of hk
  have ei := key_pk pi hkk
  subst ei
  rcases dk with ⟨kvs, rfl, h1, rfl⟩ | ⟨_, _, _, _, z⟩
  · have len := rr.length
    have lk : ks.length = kvs.length := by rw [keyL_len h1, List.length_map]
    obtain ⟨p1, p2⟩ := dput_ok hkk re h1 rr
    refine set_dict (X := X) (by omega) pins s σ H _ _ v ov iv u Q I ro ri rv ⟨a, _, eo, DPut.k hH (by rw [← lk, ← big_line]; exact hl), q _ _ (.inl ⟨_, rfl, p1, rfl⟩) ?_ p2⟩
    exact Nat.le_trans (dput_len _ _ _ _) hl
  · exact z.elim
end Pf

/-! Pf, part 13: a lambda handed to a catcher. -/
namespace Pf
open PySem PySem.Spec PyProof.Rows L2
section
variable {w : Wd} {C : Cn} {W : WX} {g g' : Gh} {H H' : Hp} {σ : L2.St} {S : Sta} {Q : VK} {X : Cx} {pos : Pos}
/-- more objects, tables grown -/
theorem Sr.more (x : Sr w g σ S H) (e : LamX.ExtN H H') (t : LamX.Tabs w.T H') : Sr w g σ S H' ∧ ExtE g σ S H g S H' := by
  refine ⟨x.to (Gle.refl _) rfl (fun b o h => e b o (x.sub _ _ h) fun ps z => x.nt b ps (z ▸ h)) (fun b z => ?_) t x.nt, ⟨⟨Gle.refl _, fun b o h n nt => ⟨e b o h nt, fun _ z => z⟩, fun b z => .inl z, fun b z o h => ?_⟩, fun b o h n nt => .inl (e b o h nt), fun b z => .inl z, fun i => .inl rfl⟩⟩
  · obtain ⟨u, hu, nt, f, _⟩ := x.ownThere z
    exact ⟨(e b u hu nt).trans hu.symm, f⟩
  · by_cases hn : ∃ ps, o = .tbl ps
    · exact hn
    · exact z.no (e b o h fun ps q => hn ⟨ps, q⟩) fun ps q => hn ⟨ps, q⟩
/-- what a catcher makes of the lambda's reading -/
def TTs (w : Wd) (C : Cn) (k : Nat) : (XK → Hp → VK → Prop) → Hp → VK → Prop := fun tl H Q =>
  tl (fun cls dd H' => ∃ c s, cls = .ref (w.cad c) ∧ dd = none ∧ C.word k c = some s ∧ ∀ H'', Same H' H'' → Q (.str s) H'') H
    (fun v H' => match C.ret k with | none => Q v H' | some s => Q (.str s) H')
theorem snd_lam {k : Nat} {x : Str} {params : Arguments} {body : Expr} {scope : Scope} {p lpos : Pos} {a : E}
    (h : PE X (.Call (.Name x p) [.Lambda params body scope lpos] [] pos) (LamX.tLam w.T (TTs w C k) (fun Ex => rdE w C (fun c d _ H => Ex c d H) a))) : PE X (.Call (.Name x p) [.Lambda params body scope lpos] [] pos) (rdE w C W (.lam k a)) := by
  refine pe_to h fun σ H Q ⟨g, S, hS, q⟩ => ⟨hS.tabs, fun H1 eN T1 => ?_⟩
  obtain ⟨s1, e1⟩ := hS.more eN T1
  refine ⟨g, S, s1, ?_⟩
  change Out w W (RTV w σ) Q g σ S H (match ev C a S with
      | .ok tv s' => match C.ret k with | none => .ok tv s' | some x => .ok (.val (.str x)) s'
      | .exc x s' => match x.d with | none => Pf.R.of ((C.word k x.c).map fun x => .val (.str x)) s' | some _ => .bad
      | .bad => .bad) at q
  cases hr : ev C a S with
  | bad => rw [hr] at q; exact q
  | ok tv S' =>
    rw [hr] at q
    dsimp only at q
    intro g' H' v s2 e2 r2
    cases hk : C.ret k with
    | none => rw [hk] at q; exact Out.shift lateTV q e1 g' H' v s2 e2 r2
    | some x => rw [hk] at q; exact q g' H' _ s2 (e1.trans e2) rfl
  | exc x S' =>
    rw [hr] at q
    dsimp only at q
    intro g' H' dd s2 e2 r2
    cases hd : x.d with
    | some d => rw [hd] at q; exact q.elim
    | none =>
      rw [hd] at q
      dsimp only at q
      cases hw : C.word k x.c with
      | none => rw [hw] at q; exact q.elim
      | some s =>
        rw [hw] at q
        have hdd : dd = none := by unfold XcR at r2; rw [hd] at r2; exact r2
        refine ⟨x.c, s, rfl, hdd, hw, fun H'' sm => ?_⟩
        obtain ⟨s3, e3⟩ := s2.more (LamX.ExtN.of sm) (s2.tabs.ext sm)
        exact q g' H'' _ s3 ((e1.trans e2).trans e3) rfl
end
end Pf

/-! Pf, part 14: a tree is a text's reading: a check that the kernel works out. -/
namespace Pf
open PySem L2
mutual
def D.same : D → D → Bool
  | .non, .non => true
  | .bl a, .bl b => a == b
  | .int a, .int b => a == b
  | .str a, .str b => a == b
  | .tup a, .tup b => sames a b
  | _, _ => false
def sames : List D → List D → Bool
  | [], [] => true
  | a :: as, b :: bs => D.same a b && sames as bs
  | _, _ => false
end
mutual
theorem same_eq : ∀ {a b : D}, D.same a b = true → a = b
  | .non, b, h => by cases b <;> first | rfl | cases h
  | .bl a, b, h => by cases b <;> first | exact congrArg _ (eq_of_beq h) | cases h
  | .int a, b, h => by cases b <;> first | exact congrArg _ (eq_of_beq h) | cases h
  | .str a, b, h => by cases b <;> first | exact congrArg _ (eq_of_beq h) | cases h
  | .tup a, b, h => by cases b <;> first | exact congrArg _ (sames_eq h) | cases h
  | .lst a, b, h => by cases b <;> cases h
  | .dic a _, b, h => by cases b <;> cases h
  | .fn a, b, h => by cases b <;> cases h
  | .hnd, b, h => by cases b <;> cases h
  | .scr a, b, h => by cases b <;> cases h
theorem sames_eq : ∀ {a b : List D}, sames a b = true → a = b
  | [], [], _ => rfl
  | [], _ :: _, h => by cases h
  | _ :: _, [], h => by cases h
  | a :: as, b :: bs, h => by
    have h : (D.same a b && sames as bs) = true := h
    rw [Bool.and_eq_true] at h
    rw [same_eq h.1, sames_eq h.2]
end
def plainE : Expr → Bool
  | .Starred _ _ => false
  | _ => true
def notSlice : Expr → Bool
  | .Slice _ _ _ _ => false
  | _ => true
def notSet : Expr → Bool
  | .Set _ _ _ => false
  | _ => true
/-- a test by its value's truth -/
def truE : Expr → Bool
  | .UnaryOp _ _ _ => false
  | .BoolOp _ _ _ => false
  | .IfExp _ _ _ _ => false
  | .Compare _ _ _ _ => false
  | _ => true
def okName (x : Str) : Bool := !(x == ("__debug__" : Str)) && !(x == ("__classdict__" : Str)) && !(x == ("__name__" : Str))
/-- a cell may be stored -/
def Gm.fnc (g : Gm) (x : Str) : Bool :=
  match g.own with
  | none => true
  | some sc => sc.names.lookup x == some .cell
def kN (g : Gm) (i : Nat) : Expr → Bool
  | .Name x _ => decide (g.slot x = some i) && okName x
  | _ => false
/-- a name may be stored in slot i -/
def kSt (g : Gm) (x : Str) (i : Nat) : Bool := decide (idxOf x g.N = some i) && (decide (g.sc.names.lookup x = some .local) || (decide (g.sc.names.lookup x = some .cell) && g.fnc x)) && okName x
def kC (g : Gm) (d : D) : Expr → Bool
  | .Constant (.int i) _ _ => D.same d (.int i)
  | .Constant (.bool b) _ _ => D.same d (.bl b)
  | .Constant .none _ _ => D.same d .non
  | .Constant (.str s) _ _ => D.same d (.str s)
  | .Name x _ => g.gl x && okName x && (match g.ks.lookup x with
    | some d' => D.same d d'
    | none => match d with | .fn f => decide (idxOf x g.fs = some f) | _ => false)
  | _ => false
def isNil : E → Bool
  | .nil => true
  | _ => false
def isCmp : E → Expr → Bool
  | .cmp _ _ _, .Compare _ [_] [_] _ => true
  | .cmp2 _ _ _ _ _, .Compare _ [_, _] [_, _] _ => true
  | _, _ => false
mutual
def kG : Tg → Gm → Expr → Bool
  | .nm i, g, .Name x _ => kSt g x i
  | .tp ts, g, .Tuple es _ _ => kGs ts g es
  | _, _, _ => false
def kGs : Tg → Gm → List Expr → Bool
  | .nil, _, [] => true
  | .cons t ts, g, e :: es => plainE e && kG t g e && kGs ts g es
  | _, _, _ => false
end
def bltOk : Blt → Bool
  | .repr => false
  | _ => true
def bliOk : Bli → Bool
  | .all | .any | .sum | .tup => true
  | _ => false
/-- a lambda without parameters -/
def noArgs : Arguments → Bool
  | a => a.posonlyargs.isEmpty && a.args.isEmpty && a.vararg.isNone && a.kwonlyargs.isEmpty && a.kw_defaults.isEmpty && a.kwarg.isNone && a.defaults.isEmpty
mutual
def kE : E → Gm → Expr → Bool
  | .c d, g, e => kC g d e
  | .v i, g, e => kN g i e
  | .p i, g, e => kN g i e
  | .q i, g, e => kN g i e
  | .tup a, g, e => match e with | .Tuple es _ _ => kL a g es && decide (a.cnt ≤ 1000) | _ => false
  | .lst a, g, e => match e with | .List es _ => kL a g es && decide (a.cnt ≤ 1000) | _ => false
  | .dct a, g, e => match a, e with | .nil, .Dict [] [] _ => true | _, _ => false
  | .bin o a b, g, e => match e with | .BinOp x op y _ => decide (cBop op = some o) && kE a g x && kE b g y | _ => false
  | .neg a, g, e => match e with | .UnaryOp .USub x _ => kE a g x | _ => false
  | .not (.tv a), g, e => match e with | .UnaryOp .Not x _ => kE a g x | _ => false
  | .and a b, g, e => match e with
    | .BoolOp .And (x :: y :: es) p => kE a g x && (match es with | [] => kE b g y | _ => kE b g (.BoolOp .And (y :: es) p))
    | _ => false
  | .or a b, g, e => match e with
    | .BoolOp .Or (x :: y :: es) p => kE a g x && (match es with | [] => kE b g y | _ => kE b g (.BoolOp .Or (y :: es) p))
    | _ => false
  | .cmp o a b, g, e => match e with | .Compare x [op] [y] _ => decide (cCop op = o) && okC o && !behindInMarks op y && kE a g x && kE b g y | _ => false
  | .cmp2 o o' a b c, g, e => match e with
    | .Compare x [op, op'] [y, z] _ => decide (cCop op = o) && okC o && decide (cCop op' = o') && okC o' && !lastMarks [op, op'] [y, z] && kE a g x && kE b g y && kE c g z
    | _ => false
  | .ite c a b, g, e => match e with | .IfExp x y z _ => kT c g x && kE a g y && kE b g z | _ => false
  | .idx a i, g, e => match e with | .Subscript x y _ => notSlice y && kE a g x && kE i g y | _ => false
  | .slc a lo hi, g, e => match e with | .Subscript x (.Slice l h none _) _ => kE a g x && kO lo g l && kO hi g h | _ => false
  | .call f a, g, e => match e with
    | .Call (.Name x _) (y :: es) [] _ => g.gl x && okName x && decide (idxOf x g.fs = some f) && decide (g.ar[f]? = some (y :: es).length) && decide (a.cnt = (y :: es).length) && kL a g (y :: es)
    | _ => false
  | .blt b a, g, e => match e with
    | .Call (.Name x _) (y :: es) [] _ => g.bt x && okName x && decide (cBlt x (y :: es).length = some b) && bltOk b && kL a g (y :: es)
    | _ => false
  | .bli b a, g, e => match e with
    | .Call (.Name x _) [y] [] _ => g.bt x && okName x && decide (cBli x = some b) && bliOk b && plainE y && kE a g y
    | _ => false
  | .isi a ts, g, e => match e with
    | .Call (.Name x _) [y, .Name z _] [] _ => g.bt x && okName x && decide (x = ("isinstance" : Str)) && g.bt z && (match ts with | [t] => decide (z = Str.ofString (tyName t)) | _ => false) && plainE y && kE a g y
    | _ => false
  | .comp t it c e, g, x => match x with
    | .ListComp elt [⟨tg, iter, ifs, 0⟩] scope _ =>
      blkC g.N g.sc scope (tgOwn (g.blk scope) 100 tg) && decide ((tgOwn (g.blk scope) 100 tg).map (·.2) = t.slots) && kI it g iter && kG t (g.blk scope) tg && (match ifs with | [] => isNil c | [x] => kT c (g.blk scope) x | _ => false) && kE e (g.blk scope) elt && notSet iter
    | _ => false
  | .lam k e, g, x => match x with
    | .Call (.Name y _) [.Lambda params body scope _] [] _ => g.lm && g.gl y && okName y && decide (idxOf y g.cs = some k) && noArgs params && LamX.lamSB g.sc scope && kE e (g.lam scope) body
    | _ => false
  | _, _, _ => false
def kL : E → Gm → List Expr → Bool
  | .nil, _, es => es.isEmpty
  | .cons a b, g, es => match es with | e :: es => plainE e && kE a g e && kL b g es | _ => false
  | _, _, _ => false
def kT : E → Gm → Expr → Bool
  | .not a, g, e => match e with | .UnaryOp .Not x _ => kT a g x | _ => false
  | .and a b, g, e => match e with
    | .BoolOp .And (x :: y :: es) p => kT a g x && (match es with | [] => kT b g y | _ => kT b g (.BoolOp .And (y :: es) p))
    | _ => false
  | .or a b, g, e => match e with
    | .BoolOp .Or (x :: y :: es) p => kT a g x && (match es with | [] => kT b g y | _ => kT b g (.BoolOp .Or (y :: es) p))
    | _ => false
  | .tv a, g, e => kE a g e && (truE e || isCmp a e)
  | _, _, _ => false
def kO : E → Gm → Option Expr → Bool
  | .nil, _, e => e.isNone
  | .tv a, g, e => match e with | some e => kE a g e | none => false
  | _, _, _ => false
def kI : E → Gm → Expr → Bool
  | .rng a, g, e => match e with
    | .Call (.Name x _) es [] _ => g.bt x && decide (x = ("range" : Str)) && decide (1 ≤ es.length) && decide (es.length ≤ 3) && decide (a.cnt = es.length) && kL a g es
    | _ => false
  | .tv a, g, e => kE a g e
  | _, _, _ => false
end
end Pf

/-! Pf, part 15: the check is sound: expressions. -/
namespace Pf
open PySem PySem.Spec PyProof.Rows L2
/-- what is known of the place where an expression stands -/
structure Gx (g : Gm) (w : Wd) (C : Cn) (W : WX) (X : Cx) (kf : Nat) : Prop where
  K : X.K = w.K
  calm : X.calm = true
  nd : X.N.Nodup
  N : X.N = g.N
  sc : X.env.scope = g.sc
  fn : ∀ x, g.fnc x = true → X.fn x = true
  rm : Room kf X.A
  fs : ∀ x f, idxOf x g.fs = some f → ∃ a n, g.ar[f]? = some n ∧ X.mg x = some (.ref a) ∧ FnF w C X kf f a n ∧ w.fad f = some a
  ks : ∀ x d, g.ks.lookup x = some d → ∃ u v, X.mg x = some u ∧ RelV v u ∧ ∀ g', Rep w g' d v
  bt : ∀ x, g.btn x = true → X.mg x = none
  tk : Takes X W
  dic : ∀ X' : Cx, X'.K = w.K → X'.A.units + 64 < cLine → IxDic X' w ∧ SetDic X' w
  lm : g.lm = true → ∀ y k, idxOf y g.cs = some k → ∀ (params : Arguments) (body : Expr) (scope : Scope) (p lpos pos : Pos) (a : E), Gl X y → noArgs params = true → LamX.lamSB g.sc scope = true →
    (∀ (A : Around) (outer : List Env) (s : Shared) (H : Hp) (Ex : XK) (f c' : Addr), Room kf (A.deeper (LamX.lamEnv X scope s.heap.objs.size f c')) → PE (LamX.lamCx X A outer s H Ex scope f c') body (rdE w C (fun c d _ H => Ex c d H) a)) →
    PE X (.Call (.Name y p) [.Lambda params body scope lpos] [] pos) (LamX.tLam w.T (TTs w C k) fun Ex => rdE w C (fun c d _ H => Ex c d H) a)
section
variable {w : Wd} {C : Cn} {W : WX} {X : Cx} {g : Gm} {kf : Nat} {pos : Pos}
theorem idxOf_get {x : Str} : ∀ {l : List Str} {i : Nat}, idxOf x l = some i → l[i]? = some x
  | [], i, h => by cases h
  | y :: ys, i, h => by
    have h : (if y == x then some 0 else (idxOf x ys).map (· + 1)) = some i := h
    split at h
    · rename_i e
      cases h
      exact congrArg some (eq_of_beq e)
    · obtain ⟨j, hj, rfl⟩ := Option.map_eq_some_iff.mp h
      have q := idxOf_get (l := ys) hj
      simpa using q
theorem okName_iff {x : Str} (h : okName x = true) : (x == ("__debug__" : Str)) = false ∧ (x == ("__classdict__" : Str)) = false ∧ x ≠ ("__name__" : Str) := by
  unfold okName at h
  simp only [Bool.not_eq_true', Bool.and_eq_true] at h
  refine ⟨h.1.1, h.1.2, fun e => ?_⟩
  have := h.2
  rw [e] at this
  exact Bool.noConfusion (this.symm.trans (beq_self_eq_true _))
theorem Gx.gl (G : Gx g w C W X kf) {x : Str} (h : g.gl x = true) : Gl X x := by
  show X.env.scope.names.lookup x = _
  rw [G.sc]
  exact eq_of_beq h
theorem bt_gl {x : Str} (h : g.bt x = true) : g.gl x = true := by
  unfold Gm.bt at h
  rw [Bool.and_eq_true] at h
  exact h.1
theorem Gx.btm (G : Gx g w C W X kf) {x : Str} (h : g.bt x = true) : X.mg x = none := by
  unfold Gm.bt at h
  rw [Bool.and_eq_true] at h
  exact G.bt x h.2
theorem Gx.slot (G : Gx g w C W X kf) {x : Str} {i : Nat} (h : g.slot x = some i) : X.N[i]? = some x ∧ Vis X.env.scope x := by
  unfold Gm.slot at h
  rw [G.N, G.sc]
  split at h
  · rename_i e; exact ⟨idxOf_get h, .inl e⟩
  · rename_i e; exact ⟨idxOf_get h, .inr (.inl e)⟩
  · rename_i e; exact ⟨idxOf_get h, .inr (.inr e)⟩
  · cases h
theorem kN_name {i : Nat} {e : Expr} (G : Gx g w C W X kf) (h : kN g i e = true) : ∃ x p, e = .Name x p ∧ X.N[i]? = some x ∧ Vis X.env.scope x ∧ (x == ("__debug__" : Str)) = false ∧ (x == ("__classdict__" : Str)) = false := by
  unfold kN at h
  split at h
  · rename_i x p
    rw [Bool.and_eq_true] at h
    obtain ⟨h1, h2⟩ := G.slot (of_decide_eq_true h.1)
    obtain ⟨h3, h4, _⟩ := okName_iff h.2
    exact ⟨x, p, rfl, h1, h2, h3, h4⟩
  · cases h
theorem kSt_ok {x : Str} {i : Nat} (G : Gx g w C W X kf) (h : kSt g x i = true) : X.N[i]? = some x ∧ Loc X.env.scope x ∧ (X.fn x = true ∨ X.env.scope.names.lookup x = some .local) ∧ okName x = true := by
  unfold kSt at h
  simp only [Bool.and_eq_true, Bool.or_eq_true, decide_eq_true_eq] at h
  obtain ⟨⟨h1, h2⟩, h3⟩ := h
  refine ⟨G.N ▸ idxOf_get h1, ?_⟩
  rw [G.sc]
  rcases h2 with h2 | ⟨h2, h4⟩
  · exact ⟨.inl h2, .inr h2, h3⟩
  · exact ⟨.inr h2, .inl (G.fn _ h4), h3⟩
theorem pe_glob {x : Str} {u : Value} {v : V} (hg : Gl X x) (hm : X.mg x = some u) (r : RelV v u) (hd : (x == ("__debug__" : Str)) = false) : PE X (.Name x pos) (tC v) := ⟨fun pins s σ H Q I h => ld_glob I hg hm ⟨v, H, I, r, h⟩ hd⟩
theorem kC_ok {d : D} {e : Expr} (G : Gx g w C W X kf) (h : kC g d e = true) : PE X e (rdE w C W (.c d)) := by
  unfold kC at h
  split at h
  · rw [same_eq h]; exact pe_const pe_int fun _ => rfl
  · rw [same_eq h]; exact pe_const pe_bl fun _ => rfl
  · rw [same_eq h]; exact pe_const pe_non fun _ => rfl
  · rw [same_eq h]; exact pe_const pe_str fun _ => rfl
  · rename_i x p
    rw [Bool.and_eq_true, Bool.and_eq_true] at h
    obtain ⟨⟨h1, h2⟩, h3⟩ := h
    obtain ⟨n1, _, _⟩ := okName_iff h2
    split at h3
    · rename_i d' hk
      rw [same_eq h3]
      obtain ⟨u, v, m, r, rp⟩ := G.ks x d' hk
      exact pe_const (pe_glob (G.gl h1) m r n1) rp
    · split at h3
      · rename_i f
        obtain ⟨a, n, _, m, _, fa⟩ := G.fs x f (of_decide_eq_true h3)
        exact pe_const (pe_glob (v := .ref a) (G.gl h1) m rfl n1) fun _ => ⟨a, fa, rfl⟩
      · cases h3
  · cases h
theorem plain_ok {e : Expr} (h : plainE e = true) : ∀ v p, e ≠ .Starred v p := fun v p z => by rw [z] at h; cases h
theorem notSlice_ok {e : Expr} (h : notSlice e = true) : ∀ l u s p, e ≠ .Slice l u s p := fun _ _ _ _ z => by rw [z] at h; cases h
theorem notSet_ok {e : Expr} (h : notSet e = true) (env : Env) : ∀ x, foldedSetIterable e env x = pure x := fun x => by
  cases e <;> first | rfl | cases h
theorem truE_ok {e : Expr} (h : truE e = true) (env : Env) : ∀ whole, isTrue e env whole = (do let v ← whole; standAt e.pos; holding [v] (truthy v)) := fun whole => by
  cases e <;> first | rfl | cases h
mutual
theorem kG_ok : ∀ (t : Tg) {g : Gm} {W : WX} {X : Cx} (G : Gx g w C W X kf) {e : Expr}, kG t g e = true → PG X e (gTg w t)
  | .nm i, g, W, X, G, e, h => by
    cases e <;> first | cases h | skip
    rename_i x p
    obtain ⟨h1, h2, h3, _⟩ := kSt_ok G h
    exact snd_gname G.nd h1 h2 h3
  | .tp ts, g, W, X, G, e, h => by
    cases e <;> first | cases h | skip
    rename_i es k p
    obtain ⟨h1, h2, h3⟩ := kGs_ok ts G (es := es) h
    exact snd_gtup G.K G.calm h1 h2 h3
  | .nil, _, _, _, _, e, h => by cases e <;> cases h
  | .cons _ _, _, _, _, _, e, h => by cases e <;> cases h
theorem kGs_ok : ∀ (t : Tg) {g : Gm} {W : WX} {X : Cx} (G : Gx g w C W X kf) {es : List Expr}, kGs t g es = true → PGs X es (gTgs w t) ∧ (assignEach es X.env).length = t.cnt ∧ (assignEach es X.env).findIdx? (·.1) = none
  | .nil, g, W, X, G, es, h => by
    cases es
    · exact ⟨snd_gnil, rfl, rfl⟩
    · cases h
  | .cons t ts, g, W, X, G, es, h => by
    cases es with
    | nil => cases h
    | cons e es =>
      have h : (plainE e && kG t g e && kGs ts g es) = true := h
      rw [Bool.and_eq_true, Bool.and_eq_true] at h
      obtain ⟨⟨h1, h2⟩, h3⟩ := h
      obtain ⟨q1, q2, q3⟩ := kGs_ok ts G h3
      have ea : assignEach (e :: es) X.env = (false, assign e X.env) :: assignEach es X.env := by cases e <;> first | rfl | cases h1
      refine ⟨snd_gcons (kG_ok t G h2) q1 (by rw [ea]; rfl), by rw [ea]; exact congrArg (· + 1) q2, ?_⟩
      rw [ea, List.findIdx?_cons]
      simp [q3]
  | .nm _, _, _, _, _, es, h => by cases es <;> cases h
  | .tp _, _, _, _, _, es, h => by cases es <;> cases h
end
/-! ### blocks -/
theorem Gx.blk (G : Gx g w C W X kf) (s : Shared) (H : Hp) (scope : Scope) (D : Addr) (cl : List (Str × Addr)) (fp : List Addr) : Gx (g.blk scope) w C WF (X.blk s H scope (compEnvC scope cl D X.env) fp) kf where
  K := G.K
  calm := G.calm
  nd := G.nd
  N := G.N
  sc := by
    show relS scope X.env.scope = relS scope g.sc
    rw [G.sc]
  fn := fun x h => h
  rm := G.rm
  fs := fun x f h => by
    obtain ⟨a, n, h1, h2, h3, h4⟩ := G.fs x f h
    exact ⟨a, n, h1, h2, ⟨h3.ok, h3.kp⟩, h4⟩
  ks := G.ks
  bt := G.bt
  tk := LamX.takes0
  dic := G.dic
  lm := fun h => by cases h
theorem Gx.lam (G : Gx g w C W X kf) {A : Around} {outer : List Env} {s : Shared} {H : Hp} {Ex : XK} {scope : Scope} {f c' : Addr} (hr : Room kf (A.deeper (LamX.lamEnv X scope s.heap.objs.size f c'))) : Gx (g.lam scope) w C (fun c d _ H => Ex c d H) (LamX.lamCx X A outer s H Ex scope f c') kf where
  K := G.K
  calm := rfl
  nd := G.nd
  N := G.N
  sc := rfl
  fn := fun x h => by
    unfold Gm.fnc Gm.lam at h
    simp at h
  rm := hr
  fs := fun x f h => by
    obtain ⟨a, n, h1, h2, h3, h4⟩ := G.fs x f h
    exact ⟨a, n, h1, h2, ⟨h3.ok, h3.kp⟩, h4⟩
  ks := G.ks
  bt := G.bt
  tk := takes_of rfl rfl rfl rfl
  dic := G.dic
  lm := fun h => by cases h
theorem beq_dec {α : Type} [DecidableEq α] {a b : α} (h : decide (a = b) = true) : a = b := of_decide_eq_true h
theorem noStar_of {a : E} : ∀ {es : List Expr}, kL a g es = true → NoStar es ∧ a.cnt = es.length := fun {es} => by
  induction es generalizing a with
  | nil =>
    intro h
    cases a <;> first | exact ⟨fun e he => (by cases he), rfl⟩ | cases h
  | cons e es ih =>
    intro h
    cases a <;> first | cases h | skip
    rename_i a b
    have h : (plainE e && kE a g e && kL b g es) = true := h
    rw [Bool.and_eq_true, Bool.and_eq_true] at h
    obtain ⟨p, q⟩ := ih h.2
    refine ⟨fun x hx => ?_, congrArg (· + 1) q⟩
    obtain rfl | hx := List.mem_cons.mp hx
    · exact plain_ok h.1.1
    · exact p x hx
theorem boot_len : bootBuiltins "len" = some (.builtin "len") := by first | rfl | decide +kernel
theorem boot_abs : bootBuiltins "abs" = some (.builtin "abs") := by first | rfl | decide +kernel
theorem boot_min : bootBuiltins "min" = some (.builtin "min") := by first | rfl | decide +kernel
theorem boot_max : bootBuiltins "max" = some (.builtin "max") := by first | rfl | decide +kernel
theorem boot_int : bootBuiltins "int" = some (.type "int") := by first | rfl | decide +kernel
theorem boot_all : bootBuiltins "all" = some (.builtin "all") := by first | rfl | decide +kernel
theorem boot_any : bootBuiltins "any" = some (.builtin "any") := by first | rfl | decide +kernel
theorem boot_sum : bootBuiltins "sum" = some (.builtin "sum") := by first | rfl | decide +kernel
theorem boot_tuple : bootBuiltins "tuple" = some (.type "tuple") := by first | rfl | decide +kernel
theorem beq_str {x : Str} {s : String} (h : (x == Str.ofString s) = true) : x = Str.ofString s := eq_of_beq h
theorem blt_ok {x y : Str} {b : Blt} {e : Expr} {es : List Expr} {a : E} {p : Pos} (G : Gx g w C W X kf) (hg : g.bt x = true) (hx : okName x = true) (hb : cBlt x (e :: es).length = some b) (hk : bltOk b = true) (hs : NoStar (e :: es)) (ha : PA X (e :: es) (rdP w C W a)) :
    PE X (.Call (.Name x p) (e :: es) [] pos) (rdE w C W (.blt b a)) := by
  obtain ⟨n1, _, n3⟩ := okName_iff hx
  have gl := G.gl (bt_gl hg)
  have m := G.btm hg
  unfold cBlt at hb
  split at hb
  · rename_i c; cases hb
    rw [Bool.and_eq_true] at c
    have := eq_of_beq c.1; subst this
    exact snd_bltB (snd_len G.K) gl m boot_len n3 n1 hs ha
  split at hb
  · rename_i c; cases hb
    rw [Bool.and_eq_true] at c
    have := eq_of_beq c.1; subst this
    exact snd_bltB snd_abs gl m boot_abs n3 n1 hs ha
  split at hb
  · rename_i c; cases hb
    rw [Bool.and_eq_true] at c
    have := eq_of_beq c.1; subst this
    exact snd_bltT snd_int gl m boot_int n3 n1 hs ha
  split at hb
  · rename_i c; cases hb
    rw [Bool.and_eq_true] at c
    have := eq_of_beq c.1; subst this
    exact snd_bltB (snd_min2 G.calm) gl m boot_min n3 n1 hs ha
  split at hb
  · rename_i c; cases hb
    rw [Bool.and_eq_true] at c
    have := eq_of_beq c.1; subst this
    exact snd_bltB (snd_max2 G.calm) gl m boot_max n3 n1 hs ha
  split at hb
  · cases hb; cases hk
  · cases hb
theorem bli_ok {x : Str} {b : Bli} {e : Expr} {a : E} {p : Pos} (G : Gx g w C W X kf) (hg : g.bt x = true) (hx : okName x = true) (hb : cBli x = some b) (hk : bliOk b = true) (hs : ∀ v p, e ≠ .Starred v p) (ha : PE X e (rdE w C W a)) :
    PE X (.Call (.Name x p) [e] [] pos) (rdE w C W (.bli b a)) := by
  obtain ⟨n1, _, n3⟩ := okName_iff hx
  have gl := G.gl (bt_gl hg)
  have m := G.btm hg
  unfold cBli at hb
  split at hb
  · rename_i c; cases hb; have := eq_of_beq c; subst this
    exact snd_bliB (snd_all G.K G.calm) gl m boot_all n3 n1 hs ha
  split at hb
  · rename_i c; cases hb; have := eq_of_beq c; subst this
    exact snd_bliB (snd_any G.K G.calm) gl m boot_any n3 n1 hs ha
  split at hb
  · rename_i c; cases hb; have := eq_of_beq c; subst this
    exact snd_bliB (snd_sum G.K G.calm) gl m boot_sum n3 n1 hs ha
  split at hb
  · cases hb; cases hk
  split at hb
  · cases hb; cases hk
  split at hb
  · rename_i c; cases hb; have := eq_of_beq c; subst this
    exact snd_bliT (snd_tuple G.K) gl m boot_tuple n3 n1 hs ha
  split at hb
  · cases hb; cases hk
  split at hb
  · cases hb; cases hk
  split at hb
  · cases hb; cases hk
  · cases hb
theorem cmpT_parts {e : Expr} {a : E} (h : isCmp a e = true) : (∃ o b c x op y p, a = .cmp o b c ∧ e = .Compare x [op] [y] p) ∨ ∃ o o' b c d x op op' y z p, a = .cmp2 o o' b c d ∧ e = .Compare x [op, op'] [y, z] p := by
  unfold isCmp at h
  split at h
  · exact .inl ⟨_, _, _, _, _, _, _, rfl, rfl⟩
  · exact .inr ⟨_, _, _, _, _, _, _, _, _, _, _, rfl, rfl⟩
  · cases h
def notCmp : E → Bool
  | .cmp _ _ _ => false
  | .cmp2 _ _ _ _ _ => false
  | _ => true
theorem tv_gen {a : E} {e : Expr} (G : Gx g w C W X kf) (ha : kE a g e = true → PE X e (rdE w C W a)) (h : kT (.tv a) g e = true) (hn : notCmp a = true) : PT X e (rdT w C W (.tv a)) ∧ ∀ op es p, e = .BoolOp op es p → PW X e (rdT w C W (.tv a)) := by
  have h : (kE a g e && (truE e || isCmp a e)) = true := h
  rw [Bool.and_eq_true, Bool.or_eq_true] at h
  have ht : truE e = true := by
    rcases h.2 with q | q
    · exact q
    · rcases cmpT_parts q with ⟨o, b, c, _, _, _, _, e, _⟩ | ⟨o, o', b, c, d, _, _, _, _, _, _, e, _⟩
      · rw [e] at hn; cases hn
      · rw [e] at hn; cases hn
  exact ⟨snd_tvR G.K (ha h.1) (truE_ok ht _), fun _ _ _ z => by rw [z] at ht; cases ht⟩
mutual
theorem kE_ok : ∀ (a : E) {g : Gm} {W : WX} {X : Cx} (G : Gx g w C W X kf) {e : Expr}, kE a g e = true → PE X e (rdE w C W a)
  | .c d, g, W, X, G, e, h => kC_ok G h
  | .v i, g, W, X, G, e, h => by
    obtain ⟨x, p, rfl, h1, h2, h3, h4⟩ := kN_name G (show kN g i e = true from h)
    exact snd_v h1 h2 h3 h4
  | .p i, g, W, X, G, e, h => by
    obtain ⟨x, p, rfl, h1, h2, h3, h4⟩ := kN_name G (show kN g i e = true from h)
    exact snd_p h1 h2 h3 h4
  | .q i, g, W, X, G, e, h => by
    obtain ⟨x, p, rfl, h1, h2, h3, h4⟩ := kN_name G (show kN g i e = true from h)
    exact snd_q h1 h2 h3 h4
  | .nil, g, W, X, G, e, h => by cases h
  | .cons _ _, g, W, X, G, e, h => by cases h
  | .tup a, g, W, X, G, e, h => by
    cases e <;> first | cases h | skip
    rename_i es k p
    have h : (kL a g es && decide (a.cnt ≤ 1000)) = true := h
    rw [Bool.and_eq_true] at h
    exact snd_tup (kL_ok a G h.1).1 (of_decide_eq_true h.2)
  | .lst a, g, W, X, G, e, h => by
    cases e <;> first | cases h | skip
    rename_i es p
    have h : (kL a g es && decide (a.cnt ≤ 1000)) = true := h
    rw [Bool.and_eq_true] at h
    exact snd_lst (kL_ok a G h.1).1 (of_decide_eq_true h.2)
  | .dct a, g, W, X, G, e, h => by
    have h : (match (generalizing := false) a, e with | .nil, .Dict [] [] _ => true | _, _ => false) = true := h
    split at h
    · exact snd_dct0
    · cases h
  | .bin o a b, g, W, X, G, e, h => by
    cases e <;> first | cases h | skip
    rename_i x op y p
    have h : (decide (cBop op = some o) && kE a g x && kE b g y) = true := h
    rw [Bool.and_eq_true, Bool.and_eq_true] at h
    exact snd_bin (snd_binop G.K (of_decide_eq_true h.1.1)) (kE_ok a G h.1.2) (kE_ok b G h.2)
  | .neg a, g, W, X, G, e, h => by
    have h : (match (generalizing := false) e with | .UnaryOp .USub x _ => kE a g x | _ => false) = true := h
    split at h
    · exact snd_neg (kE_ok a G h)
    · cases h
  | .not (.tv a), g, W, X, G, e, h => by
    have h : (match (generalizing := false) e with | .UnaryOp .Not x _ => kE a g x | _ => false) = true := h
    split at h
    · exact snd_notV G.K (kE_ok a G h)
    · cases h
  | .not (.c _), _, _, _, _, _, h | .not (.v _), _, _, _, _, _, h | .not (.p _), _, _, _, _, _, h | .not (.q _), _, _, _, _, _, h | .not .nil, _, _, _, _, _, h | .not (.cons _ _), _, _, _, _, _, h | .not (.tup _), _, _, _, _, _, h
  | .not (.lst _), _, _, _, _, _, h | .not (.dct _), _, _, _, _, _, h | .not (.bin _ _ _), _, _, _, _, _, h | .not (.neg _), _, _, _, _, _, h | .not (.not _), _, _, _, _, _, h | .not (.and _ _), _, _, _, _, _, h | .not (.or _ _), _, _, _, _, _, h
  | .not (.cmp _ _ _), _, _, _, _, _, h | .not (.cmp2 _ _ _ _ _), _, _, _, _, _, h | .not (.ite _ _ _), _, _, _, _, _, h | .not (.idx _ _), _, _, _, _, _, h | .not (.slc _ _ _), _, _, _, _, _, h | .not (.rev _), _, _, _, _, _, h | .not (.call _ _), _, _, _, _, _, h
  | .not (.callv _ _), _, _, _, _, _, h | .not (.blt _ _), _, _, _, _, _, h | .not (.bli _ _), _, _, _, _, _, h | .not (.blr _ _), _, _, _, _, _, h | .not (.mth _ _ _), _, _, _, _, _, h | .not (.isi _ _), _, _, _, _, _, h | .not (.comp _ _ _ _), _, _, _, _, _, h
  | .not (.dcomp _ _ _ _ _), _, _, _, _, _, h | .not (.rng _), _, _, _, _, _, h | .not (.zip _), _, _, _, _, _, h | .not (.enm _), _, _, _, _, _, h | .not (.itm _), _, _, _, _, _, h | .not (.lam _ _), _, _, _, _, _, h => by cases h
  | .and a b, g, W, X, G, e, h => by
    have h : (match (generalizing := false) e with
      | .BoolOp .And (x :: y :: es) p => kE a g x && (match (generalizing := false) es with | [] => kE b g y | _ => kE b g (.BoolOp .And (y :: es) p))
      | _ => false) = true := h
    split at h
    · rename_i x y es p _
      rw [Bool.and_eq_true] at h
      refine snd_and (kE_ok a G h.1) ?_
      have h2 := h.2
      split at h2
      · exact pe_one (kE_ok b G h2)
      · exact kE_ok b G h2
    · cases h
  | .or a b, g, W, X, G, e, h => by
    have h : (match (generalizing := false) e with
      | .BoolOp .Or (x :: y :: es) p => kE a g x && (match (generalizing := false) es with | [] => kE b g y | _ => kE b g (.BoolOp .Or (y :: es) p))
      | _ => false) = true := h
    split at h
    · rename_i x y es p _
      rw [Bool.and_eq_true] at h
      refine snd_or (kE_ok a G h.1) ?_
      have h2 := h.2
      split at h2
      · exact pe_one (kE_ok b G h2)
      · exact kE_ok b G h2
    · cases h
  | .cmp o a b, g, W, X, G, e, h => by
    have h : (match (generalizing := false) e with | .Compare x [op] [y] _ => decide (cCop op = o) && okC o && !behindInMarks op y && kE a g x && kE b g y | _ => false) = true := h
    split at h
    · simp only [Bool.and_eq_true, Bool.not_eq_true'] at h
      obtain ⟨⟨⟨⟨h1, h2⟩, h3⟩, h4⟩, h5⟩ := h
      exact snd_cmp (snd_cmpop G.K G.rm.units (of_decide_eq_true h1) h2) h3 (kE_ok a G h4) (kE_ok b G h5)
    · cases h
  | .cmp2 o o' a b c, g, W, X, G, e, h => by
    have h : (match (generalizing := false) e with
      | .Compare x [op, op'] [y, z] _ => decide (cCop op = o) && okC o && decide (cCop op' = o') && okC o' && !lastMarks [op, op'] [y, z] && kE a g x && kE b g y && kE c g z
      | _ => false) = true := h
    split at h
    · simp only [Bool.and_eq_true, Bool.not_eq_true'] at h
      rcases h with ⟨⟨⟨⟨⟨⟨⟨h1, h2⟩, h3⟩, h4⟩, h5⟩, h6⟩, h7⟩, h8⟩
      exact snd_cmp2 (snd_cmpop G.K G.rm.units (of_decide_eq_true h1) h2) (snd_cmpop G.K G.rm.units (of_decide_eq_true h3) h4) h5 (kE_ok a G h6) (kE_ok b G h7) (kE_ok c G h8)
    · cases h
  | .ite c a b, g, W, X, G, e, h => by
    cases e <;> first | cases h | skip
    rename_i x y z p
    have h : (kT c g x && kE a g y && kE b g z) = true := h
    rw [Bool.and_eq_true, Bool.and_eq_true] at h
    exact snd_ite (kT_ok c G h.1.1).1 (kE_ok a G h.1.2) (kE_ok b G h.2)
  | .idx a i, g, W, X, G, e, h => by
    cases e <;> first | cases h | skip
    rename_i x y p
    have h : (notSlice y && kE a g x && kE i g y) = true := h
    rw [Bool.and_eq_true, Bool.and_eq_true] at h
    exact snd_idx G.K (G.dic X G.K G.rm.units).1 (notSlice_ok h.1.1) (kE_ok a G h.1.2) (kE_ok i G h.2)
  | .slc a lo hi, g, W, X, G, e, h => by
    have h : (match (generalizing := false) e with | .Subscript x (.Slice l h none _) _ => kE a g x && kO lo g l && kO hi g h | _ => false) = true := h
    split at h
    · rw [Bool.and_eq_true, Bool.and_eq_true] at h
      exact snd_slc G.K (kE_ok a G h.1.1) (kO_ok lo G h.1.2) (kO_ok hi G h.2)
    · cases h
  | .call f a, g, W, X, G, e, h => by
    have h : (match (generalizing := false) e with
      | .Call (.Name x _) (y :: es) [] _ => g.gl x && okName x && decide (idxOf x g.fs = some f) && decide (g.ar[f]? = some (y :: es).length) && decide (a.cnt = (y :: es).length) && kL a g (y :: es)
      | _ => false) = true := h
    split at h
    · rename_i x q y es p _
      simp only [decide_eq_true_eq, Bool.and_eq_true] at h
      obtain ⟨⟨⟨⟨⟨h1, h2⟩, h3⟩, h4⟩, h5⟩, h6⟩ := h
      obtain ⟨ad, n, e1, m, F, _⟩ := G.fs x f h3
      rw [e1] at h4
      have hn : n = (y :: es).length := Option.some.inj h4
      obtain ⟨n1, _, _⟩ := okName_iff h2
      exact snd_call F G.rm G.tk (G.gl h1) m n1 (noStar_of h6).1 hn.symm (h5.trans hn.symm) (kL_ok a G h6).1
    · cases h
  | .callv _ _, g, W, X, G, e, h => by cases h
  | .blt b a, g, W, X, G, e, h => by
    have h : (match (generalizing := false) e with
      | .Call (.Name x _) (y :: es) [] _ => g.bt x && okName x && decide (cBlt x (y :: es).length = some b) && bltOk b && kL a g (y :: es)
      | _ => false) = true := h
    split at h
    · rename_i x q y es p _
      simp only [decide_eq_true_eq, Bool.and_eq_true] at h
      obtain ⟨⟨⟨⟨h1, h2⟩, h3⟩, h4⟩, h5⟩ := h
      exact blt_ok (y := x) G h1 h2 h3 h4 (noStar_of h5).1 (kL_ok a G h5).2.1
    · cases h
  | .bli b a, g, W, X, G, e, h => by
    have h : (match (generalizing := false) e with
      | .Call (.Name x _) [y] [] _ => g.bt x && okName x && decide (cBli x = some b) && bliOk b && plainE y && kE a g y
      | _ => false) = true := h
    split at h
    · simp only [decide_eq_true_eq, Bool.and_eq_true] at h
      obtain ⟨⟨⟨⟨⟨h1, h2⟩, h3⟩, h4⟩, h5⟩, h6⟩ := h
      exact bli_ok G h1 h2 h3 h4 (plain_ok h5) (kE_ok a G h6)
    · cases h
  | .blr _ _, g, W, X, G, e, h => by cases h
  | .mth _ _ _, g, W, X, G, e, h => by cases h
  | .rev _, g, W, X, G, e, h => by cases h
  | .isi a ts, g, W, X, G, e, h => by
    have h : (match (generalizing := false) e with
      | .Call (.Name x _) [y, .Name z _] [] _ => g.bt x && okName x && decide (x = ("isinstance" : Str)) && g.bt z && (match (generalizing := false) ts with | [t] => decide (z = Str.ofString (tyName t)) | _ => false) && plainE y && kE a g y
      | _ => false) = true := h
    split at h
    · simp only [decide_eq_true_eq, Bool.and_eq_true] at h
      rcases h with ⟨⟨⟨⟨⟨⟨h1, h2⟩, h3⟩, h4⟩, h5⟩, h6⟩, h7⟩
      split at h5
      · exact snd_isi1 G.K h3 (of_decide_eq_true h5) (G.gl (bt_gl h1)) (G.btm h1) (G.gl (bt_gl h4)) (G.btm h4) (plain_ok h6) (kE_ok a G h7)
      · cases h5
    · cases h
  | .comp t it c x, g, W, X, G, e, h => by
    have h : (match (generalizing := false) e with
    | .ListComp elt [⟨tg, iter, ifs, 0⟩] scope _ =>
      blkC g.N g.sc scope (tgOwn (g.blk scope) 100 tg) && decide ((tgOwn (g.blk scope) 100 tg).map (·.2) = t.slots) && kI it g iter && kG t (g.blk scope) tg && (match (generalizing := false) ifs with | [] => isNil c | [x] => kT c (g.blk scope) x | _ => false) && kE x (g.blk scope) elt && notSet iter
    | _ => false) = true := h
    split at h
    · rename_i elt tg iter ifs scope p _
      simp only [Bool.and_eq_true, Bool.and_eq_true] at h
      rcases h with ⟨⟨⟨⟨⟨⟨h1, h2⟩, h3⟩, h4⟩, h5⟩, h6⟩, h7⟩
      have ok : BlkOk X.N X.env.scope scope (tgOwn (g.blk scope) 100 tg) := by rw [G.N, G.sc]; exact blkOk_by h1
      refine snd_comp G.K G.calm G.nd (kI_ok it G h3) ok (of_decide_eq_true h2) (fun s H D cl fp => kG_ok t (G.blk s H scope D cl fp) h4) (fun s H D cl fp => ?_) (fun s H D cl fp => kE_ok x (G.blk s H scope D cl fp) h6) (notSet_ok h7 _)
      split at h5
      · have : c = .nil := by cases c <;> first | rfl | cases h5
        subst this
        exact ⟨fun pins s σ H Q I ⟨g, S, hS, q⟩ => pts_nil.run pins s σ H Q I (q g H true hS ExtE.refl rfl)⟩
      · exact pts_one (kT_ok c (G.blk s H scope D cl fp) h5).1
      · cases h5
    · cases h
  | .dcomp _ _ _ _ _, g, W, X, G, e, h => by cases h
  | .rng _, g, W, X, G, e, h => by cases h
  | .zip _, g, W, X, G, e, h => by cases h
  | .enm _, g, W, X, G, e, h => by cases h
  | .itm _, g, W, X, G, e, h => by cases h
  | .tv _, g, W, X, G, e, h => by cases h
  | .lam k x, g, W, X, G, e, h => by
    have h : (match (generalizing := false) e with
    | .Call (.Name y _) [.Lambda params body scope _] [] _ => g.lm && g.gl y && okName y && decide (idxOf y g.cs = some k) && noArgs params && LamX.lamSB g.sc scope && kE x (g.lam scope) body
    | _ => false) = true := h
    split at h
    · simp only [decide_eq_true_eq, Bool.and_eq_true] at h
      rcases h with ⟨⟨⟨⟨⟨⟨h1, h2⟩, h3⟩, h4⟩, h5⟩, h6⟩, h7⟩
      exact snd_lam (G.lm h1 _ k h4 _ _ _ _ _ _ _ (G.gl h2) h5 h6 fun A outer s H Ex f c' hr => kE_ok x (G.lam hr) h7)
    · cases h
theorem kL_ok : ∀ (a : E) {g : Gm} {W : WX} {X : Cx} (G : Gx g w C W X kf) {es : List Expr}, kL a g es = true → PA X es (rdA w C W a) ∧ PA X es (rdP w C W a) ∧ PA X es (rdR w C W a)
  | .nil, g, W, X, G, es, h => by
    cases es with
    | nil => exact ⟨pa_shnil, pa_pknil, pa_rnil⟩
    | cons => cases h
  | .cons a b, g, W, X, G, es, h => by
    cases es with
    | nil => cases h
    | cons e es =>
      have h : (plainE e && kE a g e && kL b g es) = true := h
      rw [Bool.and_eq_true, Bool.and_eq_true] at h
      obtain ⟨⟨h1, h2⟩, h3⟩ := h
      obtain ⟨q1, q2, q3⟩ := kL_ok b G h3
      have he := kE_ok a G h2
      exact ⟨pa_shcons (plain_ok h1) he q1, pa_pkcons (plain_ok h1) he q2, pa_rcons (plain_ok h1) he q3⟩
  | .c _, _, _, _, _, _, h | .v _, _, _, _, _, _, h | .p _, _, _, _, _, _, h | .q _, _, _, _, _, _, h | .tup _, _, _, _, _, _, h
  | .lst _, _, _, _, _, _, h | .dct _, _, _, _, _, _, h | .bin _ _ _, _, _, _, _, _, h | .neg _, _, _, _, _, _, h | .not _, _, _, _, _, _, h | .and _ _, _, _, _, _, _, h | .or _ _, _, _, _, _, _, h
  | .cmp _ _ _, _, _, _, _, _, h | .cmp2 _ _ _ _ _, _, _, _, _, _, h | .ite _ _ _, _, _, _, _, _, h | .idx _ _, _, _, _, _, _, h | .slc _ _ _, _, _, _, _, _, h | .rev _, _, _, _, _, _, h | .call _ _, _, _, _, _, _, h
  | .callv _ _, _, _, _, _, _, h | .blt _ _, _, _, _, _, _, h | .bli _ _, _, _, _, _, _, h | .blr _ _, _, _, _, _, _, h | .mth _ _ _, _, _, _, _, _, h | .isi _ _, _, _, _, _, _, h | .comp _ _ _ _, _, _, _, _, _, h
  | .dcomp _ _ _ _ _, _, _, _, _, _, h | .rng _, _, _, _, _, _, h | .zip _, _, _, _, _, _, h | .enm _, _, _, _, _, _, h | .itm _, _, _, _, _, _, h | .lam _ _, _, _, _, _, _, h | .tv _, _, _, _, _, _, h => by cases h
theorem kT_ok : ∀ (a : E) {g : Gm} {W : WX} {X : Cx} (G : Gx g w C W X kf) {e : Expr}, kT a g e = true → PT X e (rdT w C W a) ∧ ∀ op es p, e = .BoolOp op es p → PW X e (rdT w C W a)
  | .not a, g, W, X, G, e, h => by
    have h : (match (generalizing := false) e with | .UnaryOp .Not x _ => kT a g x | _ => false) = true := h
    split at h
    · exact ⟨snd_tNot (kT_ok a G h).1, fun _ _ _ z => by cases z⟩
    · cases h
  | .and a b, g, W, X, G, e, h => by
    have h : (match (generalizing := false) e with
      | .BoolOp .And (x :: y :: es) p => kT a g x && (match (generalizing := false) es with | [] => kT b g y | _ => kT b g (.BoolOp .And (y :: es) p))
      | _ => false) = true := h
    split at h
    · rename_i x y es p _
      rw [Bool.and_eq_true] at h
      have q : PW X (.BoolOp .And (x :: y :: es) p) (rdT w C W (.and a b)) := by
        refine snd_tAnd (kT_ok a G h.1).1 ?_
        have h2 := h.2
        split at h2
        · exact pw_and1 (kT_ok b G h2).1
        · exact (kT_ok b G h2).2 _ _ _ rfl
      exact ⟨q.pt, fun _ _ _ _ => q⟩
    · cases h
  | .or a b, g, W, X, G, e, h => by
    have h : (match (generalizing := false) e with
      | .BoolOp .Or (x :: y :: es) p => kT a g x && (match (generalizing := false) es with | [] => kT b g y | _ => kT b g (.BoolOp .Or (y :: es) p))
      | _ => false) = true := h
    split at h
    · rename_i x y es p _
      rw [Bool.and_eq_true] at h
      have q : PW X (.BoolOp .Or (x :: y :: es) p) (rdT w C W (.or a b)) := by
        refine snd_tOr (kT_ok a G h.1).1 ?_
        have h2 := h.2
        split at h2
        · exact pw_or1 (kT_ok b G h2).1
        · exact (kT_ok b G h2).2 _ _ _ rfl
      exact ⟨q.pt, fun _ _ _ _ => q⟩
    · cases h
  | .tv (.cmp o a b), g, W, X, G, e, h => by
    have h : ((match (generalizing := false) e with | .Compare x [op] [y] _ => decide (cCop op = o) && okC o && !behindInMarks op y && kE a g x && kE b g y | _ => false) && (truE e || isCmp (.cmp o a b) e)) = true := h
    rw [Bool.and_eq_true] at h
    have h1 := h.1
    split at h1
    · simp only [Bool.and_eq_true, Bool.not_eq_true'] at h1
      obtain ⟨⟨⟨⟨h1, h2⟩, h3⟩, h4⟩, h5⟩ := h1
      exact ⟨snd_cmpT (snd_cmpop G.K G.rm.units (of_decide_eq_true h1) h2) h3 (kE_ok a G h4) (kE_ok b G h5), fun _ _ _ z => by cases z⟩
    · cases h1
  | .tv (.cmp2 o o' a b c), g, W, X, G, e, h => by
    have h : ((match (generalizing := false) e with
      | .Compare x [op, op'] [y, z] _ => decide (cCop op = o) && okC o && decide (cCop op' = o') && okC o' && !lastMarks [op, op'] [y, z] && kE a g x && kE b g y && kE c g z
      | _ => false) && (truE e || isCmp (.cmp2 o o' a b c) e)) = true := h
    rw [Bool.and_eq_true] at h
    have h1 := h.1
    split at h1
    · simp only [Bool.and_eq_true, Bool.not_eq_true'] at h1
      obtain ⟨⟨⟨⟨⟨⟨⟨h1, h2⟩, h3⟩, h4⟩, h5⟩, h6⟩, h7⟩, h8⟩ := h1
      exact ⟨snd_cmp2T (snd_cmpop G.K G.rm.units (of_decide_eq_true h1) h2) (snd_cmpop G.K G.rm.units (of_decide_eq_true h3) h4) h5 (kE_ok a G h6) (kE_ok b G h7) (kE_ok c G h8), fun _ _ _ z => by cases z⟩
    · cases h1
  | .tv (.c d), g, W, X, G, e, h => tv_gen G (fun q => kE_ok (.c d) G q) h rfl
  | .tv (.v i), g, W, X, G, e, h => tv_gen G (fun q => kE_ok (.v i) G q) h rfl
  | .tv (.p i), g, W, X, G, e, h => tv_gen G (fun q => kE_ok (.p i) G q) h rfl
  | .tv (.q i), g, W, X, G, e, h => tv_gen G (fun q => kE_ok (.q i) G q) h rfl
  | .tv (.nil), g, W, X, G, e, h => tv_gen G (fun q => kE_ok (.nil) G q) h rfl
  | .tv (.cons x y), g, W, X, G, e, h => tv_gen G (fun q => kE_ok (.cons x y) G q) h rfl
  | .tv (.tup x), g, W, X, G, e, h => tv_gen G (fun q => kE_ok (.tup x) G q) h rfl
  | .tv (.lst x), g, W, X, G, e, h => tv_gen G (fun q => kE_ok (.lst x) G q) h rfl
  | .tv (.dct x), g, W, X, G, e, h => tv_gen G (fun q => kE_ok (.dct x) G q) h rfl
  | .tv (.bin o x y), g, W, X, G, e, h => tv_gen G (fun q => kE_ok (.bin o x y) G q) h rfl
  | .tv (.neg x), g, W, X, G, e, h => tv_gen G (fun q => kE_ok (.neg x) G q) h rfl
  | .tv (.not x), g, W, X, G, e, h => tv_gen G (fun q => kE_ok (.not x) G q) h rfl
  | .tv (.and x y), g, W, X, G, e, h => tv_gen G (fun q => kE_ok (.and x y) G q) h rfl
  | .tv (.or x y), g, W, X, G, e, h => tv_gen G (fun q => kE_ok (.or x y) G q) h rfl
  | .tv (.ite x y z), g, W, X, G, e, h => tv_gen G (fun q => kE_ok (.ite x y z) G q) h rfl
  | .tv (.idx x y), g, W, X, G, e, h => tv_gen G (fun q => kE_ok (.idx x y) G q) h rfl
  | .tv (.slc x y z), g, W, X, G, e, h => tv_gen G (fun q => kE_ok (.slc x y z) G q) h rfl
  | .tv (.rev x), g, W, X, G, e, h => tv_gen G (fun q => kE_ok (.rev x) G q) h rfl
  | .tv (.call f x), g, W, X, G, e, h => tv_gen G (fun q => kE_ok (.call f x) G q) h rfl
  | .tv (.callv i x), g, W, X, G, e, h => tv_gen G (fun q => kE_ok (.callv i x) G q) h rfl
  | .tv (.blt b x), g, W, X, G, e, h => tv_gen G (fun q => kE_ok (.blt b x) G q) h rfl
  | .tv (.bli b x), g, W, X, G, e, h => tv_gen G (fun q => kE_ok (.bli b x) G q) h rfl
  | .tv (.blr b x), g, W, X, G, e, h => tv_gen G (fun q => kE_ok (.blr b x) G q) h rfl
  | .tv (.mth m x y), g, W, X, G, e, h => tv_gen G (fun q => kE_ok (.mth m x y) G q) h rfl
  | .tv (.isi x ts), g, W, X, G, e, h => tv_gen G (fun q => kE_ok (.isi x ts) G q) h rfl
  | .tv (.comp t x y z), g, W, X, G, e, h => tv_gen G (fun q => kE_ok (.comp t x y z) G q) h rfl
  | .tv (.dcomp t x y z u), g, W, X, G, e, h => tv_gen G (fun q => kE_ok (.dcomp t x y z u) G q) h rfl
  | .tv (.rng x), g, W, X, G, e, h => tv_gen G (fun q => kE_ok (.rng x) G q) h rfl
  | .tv (.zip x), g, W, X, G, e, h => tv_gen G (fun q => kE_ok (.zip x) G q) h rfl
  | .tv (.enm x), g, W, X, G, e, h => tv_gen G (fun q => kE_ok (.enm x) G q) h rfl
  | .tv (.itm x), g, W, X, G, e, h => tv_gen G (fun q => kE_ok (.itm x) G q) h rfl
  | .tv (.lam k x), g, W, X, G, e, h => tv_gen G (fun q => kE_ok (.lam k x) G q) h rfl
  | .tv (.tv x), g, W, X, G, e, h => tv_gen G (fun q => kE_ok (.tv x) G q) h rfl
  | .nil, _, _, _, _, _, h | .cons _ _, _, _, _, _, _, h | .c _, _, _, _, _, _, h | .v _, _, _, _, _, _, h | .p _, _, _, _, _, _, h | .q _, _, _, _, _, _, h | .tup _, _, _, _, _, _, h
  | .lst _, _, _, _, _, _, h | .dct _, _, _, _, _, _, h | .bin _ _ _, _, _, _, _, _, h | .neg _, _, _, _, _, _, h
  | .cmp _ _ _, _, _, _, _, _, h | .cmp2 _ _ _ _ _, _, _, _, _, _, h | .ite _ _ _, _, _, _, _, _, h | .idx _ _, _, _, _, _, _, h | .slc _ _ _, _, _, _, _, _, h | .rev _, _, _, _, _, _, h | .call _ _, _, _, _, _, _, h
  | .callv _ _, _, _, _, _, _, h | .blt _ _, _, _, _, _, _, h | .bli _ _, _, _, _, _, _, h | .blr _ _, _, _, _, _, _, h | .mth _ _ _, _, _, _, _, _, h | .isi _ _, _, _, _, _, _, h | .comp _ _ _ _, _, _, _, _, _, h
  | .dcomp _ _ _ _ _, _, _, _, _, _, h | .rng _, _, _, _, _, _, h | .zip _, _, _, _, _, _, h | .enm _, _, _, _, _, _, h | .itm _, _, _, _, _, _, h | .lam _ _, _, _, _, _, _, h => by cases h
theorem kO_ok : ∀ (a : E) {g : Gm} {W : WX} {X : Cx} (G : Gx g w C W X kf) {e : Option Expr}, kO a g e = true → PO X e (rdO w C W a)
  | .nil, g, W, X, G, e, h => by
    cases e with
    | none => exact snd_po0
    | some => cases h
  | .tv a, g, W, X, G, e, h => by
    cases e with
    | none => cases h
    | some e => exact snd_po1 (kE_ok a G h)
  | .cons _ _, _, _, _, _, _, h | .c _, _, _, _, _, _, h | .v _, _, _, _, _, _, h | .p _, _, _, _, _, _, h | .q _, _, _, _, _, _, h | .tup _, _, _, _, _, _, h
  | .lst _, _, _, _, _, _, h | .dct _, _, _, _, _, _, h | .bin _ _ _, _, _, _, _, _, h | .neg _, _, _, _, _, _, h | .not _, _, _, _, _, _, h | .and _ _, _, _, _, _, _, h | .or _ _, _, _, _, _, _, h
  | .cmp _ _ _, _, _, _, _, _, h | .cmp2 _ _ _ _ _, _, _, _, _, _, h | .ite _ _ _, _, _, _, _, _, h | .idx _ _, _, _, _, _, _, h | .slc _ _ _, _, _, _, _, _, h | .rev _, _, _, _, _, _, h | .call _ _, _, _, _, _, _, h
  | .callv _ _, _, _, _, _, _, h | .blt _ _, _, _, _, _, _, h | .bli _ _, _, _, _, _, _, h | .blr _ _, _, _, _, _, _, h | .mth _ _ _, _, _, _, _, _, h | .isi _ _, _, _, _, _, _, h | .comp _ _ _ _, _, _, _, _, _, h
  | .dcomp _ _ _ _ _, _, _, _, _, _, h | .rng _, _, _, _, _, _, h | .zip _, _, _, _, _, _, h | .enm _, _, _, _, _, _, h | .itm _, _, _, _, _, _, h | .lam _ _, _, _, _, _, _, h => by cases h
theorem kI_ok : ∀ (a : E) {g : Gm} {W : WX} {X : Cx} (G : Gx g w C W X kf) {e : Expr} {tg : Expr} {pk : Bool}, kI a g e = true → PI X tg e (rdI w C W pk a)
  | .rng a, g, W, X, G, e, tg, pk, h => by
    have h : (match (generalizing := false) e with
    | .Call (.Name x _) es [] _ => g.bt x && decide (x = ("range" : Str)) && decide (1 ≤ es.length) && decide (es.length ≤ 3) && decide (a.cnt = es.length) && kL a g es
    | _ => false) = true := h
    split at h
    · rename_i x q es p _
      simp only [decide_eq_true_eq, Bool.and_eq_true] at h
      obtain ⟨⟨⟨⟨⟨h1, h2⟩, h3⟩, h4⟩, h5⟩, h6⟩ := h
      subst h2
      have gl := G.gl (bt_gl h1)
      have m := G.btm h1
      have ha := (kL_ok a G h6).1
      have hs := (noStar_of h6).1
      match es, h3, h4, h5, ha, hs with
      | [x], _, _, h5, ha, hs => exact pi_rng1 gl m hs h5 ha
      | [x, y], _, _, h5, ha, hs => exact pi_rng2 gl m hs h5 ha
      | [x, y, z], _, _, h5, ha, hs => exact pi_rng3 gl m hs h5 ha
      | [], h3, _, _, _, _ => exact absurd h3 (by decide)
      | _ :: _ :: _ :: _ :: _, _, h4, _, _, _ => simp at h4
    · cases h
  | .tv a, g, W, X, G, e, tg, pk, h => pi_tv G.K (kE_ok a G h)
  | .nil, _, _, _, _, _, _, _, h | .cons _ _, _, _, _, _, _, _, _, h | .c _, _, _, _, _, _, _, _, h | .v _, _, _, _, _, _, _, _, h | .p _, _, _, _, _, _, _, _, h | .q _, _, _, _, _, _, _, _, h | .tup _, _, _, _, _, _, _, _, h
  | .lst _, _, _, _, _, _, _, _, h | .dct _, _, _, _, _, _, _, _, h | .bin _ _ _, _, _, _, _, _, _, _, h | .neg _, _, _, _, _, _, _, _, h | .not _, _, _, _, _, _, _, _, h | .and _ _, _, _, _, _, _, _, _, h | .or _ _, _, _, _, _, _, _, _, h
  | .cmp _ _ _, _, _, _, _, _, _, _, h | .cmp2 _ _ _ _ _, _, _, _, _, _, _, _, h | .ite _ _ _, _, _, _, _, _, _, _, h | .idx _ _, _, _, _, _, _, _, _, h | .slc _ _ _, _, _, _, _, _, _, _, h | .rev _, _, _, _, _, _, _, _, h | .call _ _, _, _, _, _, _, _, _, h
  | .callv _ _, _, _, _, _, _, _, _, h | .blt _ _, _, _, _, _, _, _, _, h | .bli _ _, _, _, _, _, _, _, _, h | .blr _ _, _, _, _, _, _, _, _, h | .mth _ _ _, _, _, _, _, _, _, _, h | .isi _ _, _, _, _, _, _, _, _, h | .comp _ _ _ _, _, _, _, _, _, _, _, h
  | .dcomp _ _ _ _ _, _, _, _, _, _, _, _, h | .zip _, _, _, _, _, _, _, _, h | .enm _, _, _, _, _, _, _, _, h | .itm _, _, _, _, _, _, _, _, h | .lam _ _, _, _, _, _, _, _, _, h => by cases h
end
end
end Pf

/-! Pf, part 16: the check of statements, sound. -/
namespace Pf
open PySem PySem.Spec PyProof.Rows L2
def isTup : Expr → Bool
  | .Tuple _ _ _ => true
  | _ => false
def notComp : Expr → Bool
  | .ListComp _ _ _ _ => false
  | .SetComp _ _ _ _ => false
  | .DictComp _ _ _ _ _ => false
  | _ => true
/-- the names that a parallel store stores, where each is a local name of one line -/
def swNames (g : Gm) (line : Nat) (ts : List Expr) : List Str := ts.filterMap fun
    | .Name id pos => if g.sc.names.lookup id == some .local && pos.line == line then some id else none
    | _ => none
def isStar : Expr → Bool
  | .Starred _ _ => true
  | _ => false
def lineOf (ts : List Expr) : Nat := (ts.head?.map (·.pos.line)).getD 0
/-- stored by way of a tuple -/
def swNone (g : Gm) : Expr → Expr → Bool
  | .Tuple ts _ _, .Tuple vs _ _ => !(ts.length == 2 || ts.length == 3) || vs.length != ts.length || vs.any isStar || ((swNames g (lineOf ts) ts).length != ts.length || (swNames g (lineOf ts) ts).eraseDups.length != (swNames g (lineOf ts) ts).length) || vs.all (foldedForSure 8)
  | .Tuple _ _ _, .List _ _ => true
  | .Tuple _ _ _, v => !isTup v
  | _, _ => false
/-- stored in exchange: the names -/
def swSome (g : Gm) (ts vs : List Expr) : Bool :=
  (ts.length == 2 || ts.length == 3) && vs.length == ts.length && !vs.any isStar && (swNames g (lineOf ts) ts).length == ts.length && (swNames g (lineOf ts) ts).eraseDups.length == (swNames g (lineOf ts) ts).length && !vs.all (foldedForSure 8) && !vs.all (constantsAlone 8)
/-- name = [..] that is stored in the comprehension's own way -/
def swB (g : Gm) (v : Expr) (x : Str) (p : Pos) : Bool :=
  match v with
  | .ListComp _ _ sc q => g.sc.names.lookup x == some .local && p.line == q.line && !(sc.names.any fun (n, k) => n == x && (k == .local || k == .cell))
  | .SetComp _ _ sc q => g.sc.names.lookup x == some .local && p.line == q.line && !(sc.names.any fun (n, k) => n == x && (k == .local || k == .cell))
  | .DictComp _ _ _ sc q => g.sc.names.lookup x == some .local && p.line == q.line && !(sc.names.any fun (n, k) => n == x && (k == .local || k == .cell))
  | _ => false
def isComp : E → Bool
  | .comp _ _ _ _ => true
  | _ => false
def isNon : E → Bool
  | .c .non => true
  | _ => false
mutual
def kS : Pf.S → Gm → Stmt → Bool
  | .skip, _, st => match st with | .Pass _ => true | _ => false
  | .set i e, g, st => match st with
    | .Assign [.Name x p] v _ => kSt g x i && (!swB g v x p || isComp e) && kE e g v
    | _ => false
  | .mkh i e, g, st => match st with
    | .Assign [.Name x p] v _ => kSt g x i && !swB g v x p && kE e g v
    | _ => false
  | .unp t e, g, st => match st with
    | .Assign [tg] v _ => isTup tg && swNone g tg v && kG t g tg && kE e g v
    | _ => false
  | .par [.nm i, .nm j] e, g, st => match st with
    | .Assign [.Tuple [.Name x px, .Name y py] _ _] (.Tuple [a, b] _ _) _ => kSt g x i && kSt g y j && !(i == j) && decide (g.sc.names.lookup x = some .local) && decide (g.sc.names.lookup y = some .local) && swSome g [.Name x px, .Name y py] [a, b] && kL e g [a, b]
    | _ => false
  | .par [.nm i, .nm j, .nm l] e, g, st => match st with
    | .Assign [.Tuple [.Name x px, .Name y py, .Name z pz] _ _] (.Tuple [a, b, c] _ _) _ => kSt g x i && kSt g y j && kSt g z l && !(i == j) && !(i == l) && !(j == l) && decide (g.sc.names.lookup x = some .local) && decide (g.sc.names.lookup y = some .local) && decide (g.sc.names.lookup z = some .local) &&
        swSome g [.Name x px, .Name y py, .Name z pz] [a, b, c] && kL e g [a, b, c]
    | _ => false
  | .six i k e, g, st => match st with
    | .Assign [.Subscript (.Name x p) ke _] v _ => kN g i (.Name x p) && notSlice ke && kE k g ke && kE e g v
    | _ => false
  | .aug i o e, g, st => match st with
    | .AugAssign (.Name x _) op v _ => kSt g x i && decide (cBop op = some o) && (decide (o = .add) || decide (o = .sub)) && kE e g v
    | _ => false
  | .app i e, g, st => match st with
    | .Expr (.Call (.Attribute (.Name x p) m p2) [v] [] p3) _ => kN g i (.Name x p) && decide (m = ("append" : Str)) && plainE v && (p2.endLine == p3.line) && kE e g v
    | _ => false
  | .ex e, g, st => match st with
    | .Expr v _ => notComp v && kE e g v
    | _ => false
  | .ret e, g, st => match st with
    | .Return (some v) _ => kE e g v
    | .Return none _ => isNon e
    | _ => false
  | .ife c a b, g, st => match st with
    | .If x p q _ => kT c g x && kB a g p && kB b g q
    | _ => false
  | .fo t it b, g, st => match st with
    | .For tg iter p [] _ => kG t g tg && kI it g iter && kB b g p && notSet iter
    | _ => false
  | .wh c b, g, st => match st with
    | .While x p [] _ => kT c g x && kB b g p
    | _ => false
  | .rse k e, g, st => match st with
    | .Raise (some (.Call (.Name x _) [] [] _)) none _ => isNil e && g.gl x && okName x && decide (idxOf x g.xs = some k)
    | _ => false
  | _, _, _ => false
def kB : Pf.S → Gm → List Stmt → Bool
  | .skip, _, ss => ss.isEmpty
  | .seq a b, g, ss => match ss with | s :: ss => kS a g s && kB b g ss | [] => false
  | _, _, _ => false
end
structure Gs (g : Gm) (w : Wd) (C : Cn) (W : WX) (X : Cx) (kf : Nat) : Prop extends Gx g w C W X kf where
  hp : PassesOwn (model X.prog X.w) X.A X.env X.xe
  aw : Any W
  kd : g.sc.kind = .function
  xs : ∀ x k, idxOf x g.xs = some k → XcF w X x k
section
variable {w : Wd} {C : Cn} {W : WX} {X : Cx} {g : Gm} {kf : Nat} {pos : Pos}
theorem Gs.bk (G : Gs g w C W X kf) : X.env.blockKind = .function := by
  unfold Env.blockKind
  rw [G.sc, G.kd]; rfl
theorem swB_ok (G : Gs g w C W X kf) {v : Expr} {x : Str} {p : Pos} {n : Nat} : swapsWith v (some (.Name x p)) n X.env = pure (swB g v x p) := by
  have hk : X.env.kindOf x = g.sc.names.lookup x := by unfold Env.kindOf; rw [G.sc]
  cases v <;> try rfl
  all_goals (unfold swapsWith swB; simp only [G.bk, hk]; rfl)
theorem swC_ok {v : Expr} {n : Nat} (h : notComp v = true) : swapsWith v none n X.env = pure false := by
  cases v <;> first | rfl | cases h
theorem swT_ok {v tg : Expr} {n : Nat} (h : isTup tg = true) : swapsWithSole [tg] v n X.env = pure false := by
  cases tg <;> first | cases h | skip
  cases v <;> rfl
theorem swX_ok {v a b : Expr} {p : Pos} {n : Nat} : swapsWithSole [.Subscript a b p] v n X.env = pure false := by
  cases v <;> rfl
theorem sw_eq (G : Gs g w C W X kf) {ts vs : List Expr} {k k2 : Nat} {p p2 : Pos} : swappedStores [.Tuple ts k p] (.Tuple vs k2 p2) X.env =
    (if (!(ts.length == 2 || ts.length == 3) || vs.length != ts.length) = true then pure none else if vs.any isStar = true then pure none else
      if ((swNames g (lineOf ts) ts).length != ts.length || (swNames g (lineOf ts) ts).eraseDups.length != (swNames g (lineOf ts) ts).length) = true then pure none else
      if vs.all (foldedForSure 8) = true then pure none else if vs.all (constantsAlone 8) = true then (do let _ ← (unsupported "assign.tuple-of-constant-expressions:order-of-the-stores" : Sem PUnit); pure (some (swNames g (lineOf ts) ts))) else pure (some (swNames g (lineOf ts) ts))) := by
  have hk : ∀ x, X.env.kindOf x = g.sc.names.lookup x := fun x => by unfold Env.kindOf; rw [G.sc]
  have hb : (X.env.blockKind != .function) = false := by rw [G.bk]; rfl
  unfold swappedStores
  simp only [hb, Bool.or_false, hk]
  rfl
theorem swN_ok (G : Gs g w C W X kf) {tg v : Expr} (h : swNone g tg v = true) : swappedStores [tg] v X.env = pure none := by
  unfold swNone at h
  split at h
  · rename_i ts k p vs k2 p2
    rw [sw_eq G]
    simp only [Bool.or_eq_true] at h
    split
    · rfl
    · rename_i c1
      split
      · rfl
      · rename_i c2
        split
        · rfl
        · rename_i c3
          split
          · rfl
          · rename_i c4
            rcases h with ((h | h) | h) | h
            · exact (c1 (by rw [Bool.or_eq_true]; exact h)).elim
            · exact (c2 h).elim
            · exact (c3 (by rw [Bool.or_eq_true]; exact h)).elim
            · exact (c4 h).elim
  · rfl
  · rename_i hh1 hh2 hh3 hh4 hh5
    cases v <;> first | rfl | exact absurd h (by simp [isTup])
  · cases h
theorem swS_ok (G : Gs g w C W X kf) {ts vs : List Expr} {k k2 : Nat} {p p2 : Pos} (h : swSome g ts vs = true) : swappedStores [.Tuple ts k p] (.Tuple vs k2 p2) X.env = pure (some (swNames g (lineOf ts) ts)) := by
  unfold swSome at h
  simp only [Bool.not_eq_true', Bool.and_eq_true] at h
  rcases h with ⟨⟨⟨⟨⟨⟨h1, h2⟩, h3⟩, h4⟩, h5⟩, h6⟩, h7⟩
  rw [sw_eq G, if_neg (by rw [h1, bne, h2]; decide), if_neg (by rw [h3]; decide), if_neg (by rw [bne, bne, h4, h5]; decide), if_neg (by rw [h6]; decide), if_neg (by rw [h7]; decide)]
theorem names_local {id : Str} {pos : Pos} {line : Nat} {r : List Expr} (h : (g.sc.names.lookup id == some .local && pos.line == line) = true) : swNames g line (.Name id pos :: r) = id :: swNames g line r := by
  show List.filterMap _ _ = _
  rw [List.filterMap_cons]
  simp only [h, if_true]
  rfl
theorem names_out {id : Str} {pos : Pos} {line : Nat} {r : List Expr} (h : ¬ (g.sc.names.lookup id == some .local && pos.line == line) = true) : swNames g line (.Name id pos :: r) = swNames g line r := by
  show List.filterMap _ _ = _
  rw [List.filterMap_cons]
  simp only [h, if_false]
  rfl
/-- where as many names as targets are found, each target's name is found -/
theorem names_len (line : Nat) : ∀ (ts : List Expr), (swNames g line ts).length ≤ ts.length
  | [] => Nat.le_refl _
  | t :: ts => Nat.le_trans (List.length_filterMap_le _ _) (Nat.le_refl _)
theorem names2 {x y : Str} {px py : Pos} {vs : List Expr} (h : swSome g [.Name x px, .Name y py] vs = true) : swNames g (lineOf [.Name x px, .Name y py]) [.Name x px, .Name y py] = [x, y] := by
  unfold swSome at h
  simp only [Bool.not_eq_true', Bool.and_eq_true] at h
  have h4 := eq_of_beq h.1.1.1.2
  by_cases hx : (g.sc.names.lookup x == some .local && px.line == lineOf [.Name x px, .Name y py]) = true
  · rw [names_local hx] at h4 ⊢
    by_cases hy : (g.sc.names.lookup y == some .local && py.line == lineOf [.Name x px, .Name y py]) = true
    · rw [names_local hy]; rfl
    · rw [names_out hy] at h4; exact absurd h4 (by simp [swNames])
  · rw [names_out hx] at h4
    have := names_len (g := g) (lineOf [.Name x px, .Name y py]) [.Name y py]
    rw [h4] at this
    exact absurd this (by simp)
theorem names3 {x y z : Str} {px py pz : Pos} {vs : List Expr} (h : swSome g [.Name x px, .Name y py, .Name z pz] vs = true) : swNames g (lineOf [.Name x px, .Name y py, .Name z pz]) [.Name x px, .Name y py, .Name z pz] = [x, y, z] := by
  unfold swSome at h
  simp only [Bool.not_eq_true', Bool.and_eq_true] at h
  have h4 := eq_of_beq h.1.1.1.2
  generalize hl : lineOf [.Name x px, .Name y py, .Name z pz] = l at h4 ⊢
  by_cases hx : (g.sc.names.lookup x == some .local && px.line == l) = true
  · rw [names_local hx] at h4 ⊢
    by_cases hy : (g.sc.names.lookup y == some .local && py.line == l) = true
    · rw [names_local hy] at h4 ⊢
      by_cases hz : (g.sc.names.lookup z == some .local && pz.line == l) = true
      · rw [names_local hz]; rfl
      · rw [names_out hz] at h4; exact absurd h4 (by simp [swNames])
    · rw [names_out hy] at h4
      have := names_len (g := g) l [.Name z pz]
      exact absurd h4 (by simp at this ⊢; omega)
  · rw [names_out hx] at h4
    have := names_len (g := g) l [.Name y py, .Name z pz]
    rw [h4] at this
    exact absurd this (by simp)
theorem setLc_ok (G : Gs g w C W X kf) {i : Nat} {x : Str} {p : Pos} {v : Expr} {e : E} (h1 : kSt g x i = true) (hb : swB g v x p = true) (hc : isComp e = true) (h : kE e g v = true) : PS X (.Assign [.Name x p] v pos) (rdS w C W (.set i e)) := by
  obtain ⟨n1, n2, n3, n4⟩ := kSt_ok G.toGx h1
  have hsw := swB_ok G (v := v) (x := x) (p := p) (n := pos.line)
  rw [hb] at hsw
  have hl : X.env.scope.names.lookup x = some .local := by
    rw [G.sc]
    unfold swB at hb
    split at hb
    · simp only [Bool.and_eq_true] at hb; exact eq_of_beq hb.1.1
    · simp only [Bool.and_eq_true] at hb; exact eq_of_beq hb.1.1
    · simp only [Bool.and_eq_true] at hb; exact eq_of_beq hb.1.1
    · cases hb
  cases e <;> first | cases hc | skip
  rename_i t it c x'
  have h : (match (generalizing := false) v with
    | .ListComp elt [⟨tg, iter, ifs, 0⟩] scope _ =>
      blkC g.N g.sc scope (tgOwn (g.blk scope) 100 tg) && decide ((tgOwn (g.blk scope) 100 tg).map (·.2) = t.slots) && kI it g iter && kG t (g.blk scope) tg && (match ifs with | [] => isNil c | [x] => kT c (g.blk scope) x | _ => false) && kE x' (g.blk scope) elt && notSet iter
    | _ => false) = true := h
  split at h
  · rename_i elt tg iter ifs scope q _
    simp only [Bool.and_eq_true, Bool.and_eq_true] at h
    rcases h with ⟨⟨⟨⟨⟨⟨h1, h2⟩, h3⟩, h4⟩, h5⟩, h6⟩, h7⟩
    have ok : BlkOk X.N X.env.scope scope (tgOwn (g.blk scope) 100 tg) := by rw [G.N, G.sc]; exact blkOk_by h1
    refine snd_setLc G.aw G.calm G.nd n1 hl hsw (kI_ok it G.toGx h3) ok (of_decide_eq_true h2) (fun s H D cl fp => kG_ok t (G.blk s H scope D cl fp) h4) (fun s H D cl fp => ?_) (fun s H D cl fp => kE_ok x' (G.blk s H scope D cl fp) h6) (notSet_ok h7 _)
    split at h5
    · have : c = .nil := by cases c <;> first | rfl | cases h5
      subst this
      exact ⟨fun pins s σ H Q I ⟨g, S, hS, q⟩ => pts_nil.run pins s σ H Q I (q g H true hS ExtE.refl rfl)⟩
    · exact pts_one (kT_ok c (G.blk s H scope D cl fp) h5).1
    · cases h5
  · cases h
theorem kN_vis {i : Nat} {x : Str} {p : Pos} (G : Gx g w C W X kf) (h : kN g i (.Name x p) = true) : X.N[i]? = some x ∧ Vis X.env.scope x ∧ (x == ("__debug__" : Str)) = false ∧ (x == ("__classdict__" : Str)) = false := by
  obtain ⟨y, q, e, h1, h2, h3, h4⟩ := kN_name G h
  cases e
  exact ⟨h1, h2, h3, h4⟩
theorem ne_of_beq {i j : Nat} (h : (i == j) = false) : i ≠ j := fun e => by rw [e] at h; simp at h
theorem isNon_ok {e : E} (h : isNon e = true) : e = .c .non := by
  unfold isNon at h
  split at h
  · rfl
  · cases h
mutual
theorem kS_ok : ∀ (a : Pf.S) {g : Gm} {W : WX} {X : Cx} (G : Gs g w C W X kf) {st : Stmt}, kS a g st = true → PS X st (rdS w C W a)
  | .skip, g, W, X, G, st, h => by
    have h : (match (generalizing := false) st with | .Pass _ => true | _ => false) = true := h
    split at h
    · exact snd_skip
    · cases h
  | .seq _ _, g, W, X, G, st, h => by cases h
  | .set i e, g, W, X, G, st, h => by
    have h : (match (generalizing := false) st with
    | .Assign [.Name x p] v _ => kSt g x i && (!swB g v x p || isComp e) && kE e g v
    | _ => false) = true := h
    split at h
    · rename_i x p v q _
      simp only [Bool.and_eq_true, Bool.or_eq_true, Bool.not_eq_true'] at h
      obtain ⟨⟨h1, h2⟩, h3⟩ := h
      obtain ⟨n1, n2, n3, n4⟩ := kSt_ok G.toGx h1
      by_cases hb : swB g v x p = true
      · exact setLc_ok G h1 hb (h2.resolve_left (by rw [hb]; decide)) h3
      · have hb : swB g v x p = false := by cases hq : swB g v x p <;> first | rfl | exact (hb hq).elim
        exact snd_set G.aw G.nd n1 n2 (kE_ok e G.toGx h3) (by rw [swB_ok G, hb]) n3
    · cases h
  | .mkh i e, g, W, X, G, st, h => by
    have h : (match (generalizing := false) st with
    | .Assign [.Name x p] v _ => kSt g x i && !swB g v x p && kE e g v
    | _ => false) = true := h
    split at h
    · rename_i x p v q _
      simp only [Bool.not_eq_true', Bool.and_eq_true] at h
      obtain ⟨⟨h1, h2⟩, h3⟩ := h
      obtain ⟨n1, n2, n3, n4⟩ := kSt_ok G.toGx h1
      exact snd_mkh G.aw G.nd n1 n2 (kE_ok e G.toGx h3) (by rw [swB_ok G, h2]) n3
    · cases h
  | .unp t e, g, W, X, G, st, h => by
    have h : (match (generalizing := false) st with
    | .Assign [tg] v _ => isTup tg && swNone g tg v && kG t g tg && kE e g v
    | _ => false) = true := h
    split at h
    · rename_i tg v q _
      simp only [Bool.and_eq_true, Bool.and_eq_true] at h
      rcases h with ⟨⟨⟨h1, h2⟩, h3⟩, h4⟩
      exact snd_unp G.aw (kE_ok e G.toGx h4) (kG_ok t G.toGx h3) (swT_ok h1) (swN_ok G h2) (by cases tg <;> first | rfl | cases h1)
    · cases h
  | .par ts e, g, W, X, G, st, h => by
    match ts, h with
    | [.nm i, .nm j], h =>
      have h : (match (generalizing := false) st with
    | .Assign [.Tuple [.Name x px, .Name y py] _ _] (.Tuple [a, b] _ _) _ => kSt g x i && kSt g y j && !(i == j) && decide (g.sc.names.lookup x = some .local) && decide (g.sc.names.lookup y = some .local) && swSome g [.Name x px, .Name y py] [a, b] && kL e g [a, b]
    | _ => false) = true := h
      split at h
      · simp only [Bool.and_eq_true, Bool.not_eq_true', decide_eq_true_eq] at h
        rcases h with ⟨⟨⟨⟨⟨⟨h1, h2⟩, h3⟩, h4⟩, h5⟩, h6⟩, h7⟩
        exact snd_par2 G.aw G.calm G.nd (kSt_ok G.toGx h1).1 (kSt_ok G.toGx h2).1 (ne_of_beq h3) (by rw [G.sc]; exact h4) (by rw [G.sc]; exact h5) (kL_ok e G.toGx h7).2.2 (by rw [swS_ok G h6, names2 h6]) rfl
      · cases h
    | [.nm i, .nm j, .nm l], h =>
      have h : (match (generalizing := false) st with
    | .Assign [.Tuple [.Name x px, .Name y py, .Name z pz] _ _] (.Tuple [a, b, c] _ _) _ => kSt g x i && kSt g y j && kSt g z l && !(i == j) && !(i == l) && !(j == l) && decide (g.sc.names.lookup x = some .local) && decide (g.sc.names.lookup y = some .local) && decide (g.sc.names.lookup z = some .local) &&
        swSome g [.Name x px, .Name y py, .Name z pz] [a, b, c] && kL e g [a, b, c]
    | _ => false) = true := h
      split at h
      · simp only [Bool.and_eq_true, Bool.not_eq_true', decide_eq_true_eq] at h
        obtain ⟨⟨⟨⟨⟨⟨⟨⟨⟨⟨h1, h2⟩, h3⟩, h4⟩, h5⟩, h6⟩, h7⟩, h8⟩, h9⟩, ha⟩, hb⟩ := h
        exact snd_par3 G.aw G.calm G.nd (kSt_ok G.toGx h1).1 (kSt_ok G.toGx h2).1 (kSt_ok G.toGx h3).1 (ne_of_beq h4) (ne_of_beq h5) (ne_of_beq h6) (by rw [G.sc]; exact h7) (by rw [G.sc]; exact h8) (by rw [G.sc]; exact h9) (kL_ok e G.toGx hb).2.2 (by rw [swS_ok G ha, names3 ha]) rfl
      · cases h
    | [], h => cases h
    | [.nm _], h => cases h
    | .ix _ _ :: _, h => cases h
    | .nm _ :: .ix _ _ :: _, h => cases h
    | .nm _ :: .nm _ :: .ix _ _ :: _, h => cases h
    | .nm _ :: .nm _ :: .nm _ :: _ :: _, h => cases h
  | .six i k e, g, W, X, G, st, h => by
    have h : (match (generalizing := false) st with
    | .Assign [.Subscript (.Name x p) ke _] v _ => kN g i (.Name x p) && notSlice ke && kE k g ke && kE e g v
    | _ => false) = true := h
    split at h
    · rename_i x p ke q v q2 _
      simp only [Bool.and_eq_true, Bool.and_eq_true] at h
      rcases h with ⟨⟨⟨h1, h2⟩, h3⟩, h4⟩
      obtain ⟨n1, n2, n3, n4⟩ := kN_vis G.toGx h1
      exact snd_six G.aw (G.dic X G.K G.rm.units).2 n1 n2 n3 n4 (kE_ok k G.toGx h3) (kE_ok e G.toGx h4) swX_ok (by cases v <;> rfl) (fun _ => by cases ke <;> first | rfl | cases h2) rfl
    · cases h
  | .aug i o e, g, W, X, G, st, h => by
    have h : (match (generalizing := false) st with
    | .AugAssign (.Name x _) op v _ => kSt g x i && decide (cBop op = some o) && (decide (o = .add) || decide (o = .sub)) && kE e g v
    | _ => false) = true := h
    split at h
    · simp only [Bool.and_eq_true, Bool.or_eq_true, decide_eq_true_eq] at h
      rcases h with ⟨⟨⟨h1, h2⟩, h3⟩, h4⟩
      obtain ⟨n1, n2, n3, n4⟩ := kSt_ok G.toGx h1
      exact snd_aug G.aw G.nd n1 n2 h2 h3 (kE_ok e G.toGx h4) n3
    · cases h
  | .augx _ _ _ _, g, W, X, G, st, h => by cases h
  | .app i e, g, W, X, G, st, h => by
    have h : (match (generalizing := false) st with
    | .Expr (.Call (.Attribute (.Name x p) m p2) [v] [] p3) _ => kN g i (.Name x p) && decide (m = ("append" : Str)) && plainE v && (p2.endLine == p3.line) && kE e g v
    | _ => false) = true := h
    split at h
    · rename_i x p m p2 v p3 q _
      simp only [decide_eq_true_eq, Bool.and_eq_true] at h
      obtain ⟨⟨⟨⟨h1, h2⟩, h3⟩, h4⟩, h5⟩ := h
      subst h2
      obtain ⟨n1, n2, n3, n4⟩ := kN_vis G.toGx h1
      exact snd_app G.aw n1 n2 n3 n4 (plain_ok h3) (kE_ok e G.toGx h5) h4
    · cases h
  | .ext _ _, g, W, X, G, st, h => by cases h
  | .upd _ _, g, W, X, G, st, h => by cases h
  | .popu _ _, g, W, X, G, st, h => by cases h
  | .appop _ _ _, g, W, X, G, st, h => by cases h
  | .ex e, g, W, X, G, st, h => by
    have h : (match (generalizing := false) st with
    | .Expr v _ => notComp v && kE e g v
    | _ => false) = true := h
    split at h
    · rw [Bool.and_eq_true] at h
      exact snd_expr G.aw (kE_ok e G.toGx h.2) (swC_ok h.1)
    · cases h
  | .ret e, g, W, X, G, st, h => by
    have h : (match (generalizing := false) st with
    | .Return (some v) _ => kE e g v
    | .Return none _ => isNon e
    | _ => false) = true := h
    split at h
    · exact snd_ret G.aw (kE_ok e G.toGx h)
    · rw [isNon_ok h]; exact snd_retN
    · cases h
  | .ife c a b, g, W, X, G, st, h => by
    have h : (match (generalizing := false) st with
    | .If x p q _ => kT c g x && kB a g p && kB b g q
    | _ => false) = true := h
    split at h
    · rw [Bool.and_eq_true, Bool.and_eq_true] at h
      exact snd_if G.aw (kT_ok c G.toGx h.1.1).1 (kB_ok a G h.1.2) (kB_ok b G h.2)
    · cases h
  | .fo t it b, g, W, X, G, st, h => by
    have h : (match (generalizing := false) st with
    | .For tg iter p [] _ => kG t g tg && kI it g iter && kB b g p && notSet iter
    | _ => false) = true := h
    split at h
    · simp only [Bool.and_eq_true] at h
      rcases h with ⟨⟨⟨h1, h2⟩, h3⟩, h4⟩
      exact snd_for G.aw G.hp G.calm (kI_ok it G.toGx h2) (kG_ok t G.toGx h1) (kB_ok b G h3) (notSet_ok h4 _)
    · cases h
  | .wh c b, g, W, X, G, st, h => by
    have h : (match (generalizing := false) st with
    | .While x p [] _ => kT c g x && kB b g p
    | _ => false) = true := h
    split at h
    · rw [Bool.and_eq_true] at h
      exact snd_while G.aw G.hp (kT_ok c G.toGx h.1).1 (kB_ok b G h.2)
    · cases h
  | .rse k e, g, W, X, G, st, h => by
    have h : (match (generalizing := false) st with
    | .Raise (some (.Call (.Name x _) [] [] _)) none _ => isNil e && g.gl x && okName x && decide (idxOf x g.xs = some k)
    | _ => false) = true := h
    split at h
    · simp only [decide_eq_true_eq, Bool.and_eq_true] at h
      rcases h with ⟨⟨⟨h1, h2⟩, h3⟩, h4⟩
      have : e = .nil := by cases e <;> first | rfl | cases h1
      subst this
      exact snd_raise0 G.calm G.tk (G.xs _ k h4) (G.gl h2) (okName_iff h3).1
    · cases h
theorem kB_ok : ∀ (a : Pf.S) {g : Gm} {W : WX} {X : Cx} (G : Gs g w C W X kf) {ss : List Stmt}, kB a g ss = true → PSs X ss (rdS w C W a)
  | .skip, g, W, X, G, ss, h => by
    cases ss with
    | nil => exact snd_nil
    | cons => cases h
  | .seq a b, g, W, X, G, ss, h => by
    cases ss with
    | nil => cases h
    | cons s ss =>
      have h : (kS a g s && kB b g ss) = true := h
      rw [Bool.and_eq_true] at h
      exact snd_seq (kS_ok a G h.1) (kB_ok b G h.2)
  | .set _ _, _, _, _, _, _, h | .mkh _ _, _, _, _, _, _, h | .unp _ _, _, _, _, _, _, h | .par _ _, _, _, _, _, _, h | .six _ _ _, _, _, _, _, _, h | .aug _ _ _, _, _, _, _, _, h | .augx _ _ _ _, _, _, _, _, _, h | .app _ _, _, _, _, _, _, h
  | .ext _ _, _, _, _, _, _, h | .upd _ _, _, _, _, _, _, h | .popu _ _, _, _, _, _, _, h | .appop _ _ _, _, _, _, _, _, h | .ex _, _, _, _, _, _, h | .ret _, _, _, _, _, _, h | .ife _ _ _, _, _, _, _, _, h | .fo _ _ _, _, _, _, _, _, h
  | .wh _ _, _, _, _, _, _, h | .rse _ _, _, _, _, _, _, h => by cases h
end
end
end Pf

/-! Pf, part 17: a def whose text was checked keeps the tree's promise. -/
namespace Pf
open PySem PySem.Spec PyProof.Rows L2
theorem filterMap_ext {α β : Type} {f g : α → Option β} : ∀ {l : List α}, (∀ a ∈ l, f a = g a) → l.filterMap f = l.filterMap g
  | [], _ => rfl
  | a :: l, h => by
    rw [List.filterMap_cons, List.filterMap_cons, h a List.mem_cons_self, filterMap_ext fun b hb => h b (List.mem_cons_of_mem _ hb)]
theorem lookup_zip {n : Str} : ∀ {ps : List Str} {us : List Value}, us.length = ps.length → n ∈ ps → ((ps.zip us).lookup n).isNone = false
  | [], _, _, h => by cases h
  | p :: ps, [], h, _ => by simp at h
  | p :: ps, u :: us, hl, h => by
    show (List.lookup n ((p, u) :: ps.zip us)).isNone = false
    rw [List.lookup_cons]
    cases hq : n == p with
    | true => rfl
    | false =>
      obtain e | e := List.mem_cons.mp h
      · rw [e] at hq; simp at hq
      · exact lookup_zip (by simpa using hl) e
theorem binds_zip : ∀ {ps : List Str} {us : List Value}, us.length = ps.length → ps.Nodup → ps.filterMap (fun n => ((ps.zip us).lookup n).map fun x => (n, x)) = ps.zip us
  | [], _, _, _ => rfl
  | p :: ps, [], h, _ => by simp at h
  | p :: ps, u :: us, hl, hd => by
    have hd' := List.nodup_cons.mp hd
    have e : ∀ n ∈ ps, (List.lookup n ((p, u) :: ps.zip us)).map (fun x => (n, x)) = (List.lookup n (ps.zip us)).map fun x => (n, x) := fun n hn => by
      rw [List.lookup_cons]
      have : (n == p) = false := beq_false_of_ne fun z => hd'.1 (z ▸ hn)
      rw [this]
    show List.filterMap (fun n => (List.lookup n ((p, u) :: ps.zip us)).map fun x => (n, x)) (p :: ps) = (p, u) :: ps.zip us
    rw [List.filterMap_cons]
    have e0 : List.lookup p ((p, u) :: ps.zip us) = some u := by rw [List.lookup_cons, beq_self_eq_true]
    simp only [e0, Option.map_some]
    rw [filterMap_ext e, binds_zip (by simpa using hl) hd'.2]
theorem bind_all {x qual : Str} {as : List Arg} {body : List Stmt} {scope : Scope} {kV doc pm cdv ct : Value} {an : Option Addr} {us : List Value} (hl : us.length = (as.map (·.arg)).length) (hd : (as.map (·.arg)).Nodup) :
    bindArgs (PySem.W.fnOf x qual ⟨[], as, none, [], [], none, []⟩ body scope .none kV doc pm an cdv ct) ⟨us, []⟩ = pure ((as.map (·.arg)).zip us) := by
  have h1 : ¬ as.length < us.length := by rw [List.length_map] at hl; omega
  have h2 : ∀ k, ((as.map (·.arg)).take k).filter (fun n => (((as.map (·.arg)).zip us).lookup n).isNone) = [] := fun k => by
    rw [List.filter_eq_nil_iff]
    intro n hn
    rw [lookup_zip hl (List.mem_of_mem_take hn)]; decide
  have h3 := binds_zip hl hd
  rw [List.filterMap_map] at h3
  unfold bindArgs PySem.W.fnOf
  simp only [List.map_nil, List.nil_append]
  have e3 : seqItems? Value.none = pure none := rfl
  simp only [e3]
  simp [h1, h2]
  exact congrArg pure h3

/-- only plain parameters -/
def plainArgs (a : Arguments) : Bool := a.posonlyargs.isEmpty && a.vararg.isNone && a.kwonlyargs.isEmpty && a.kw_defaults.isEmpty && a.kwarg.isNone && a.defaults.isEmpty
theorem plainArgs_eq {a : Arguments} (h : plainArgs a = true) : a = ⟨[], a.args, none, [], [], none, []⟩ := by
  obtain ⟨p, as, v, ko, kd, kw, df⟩ := a
  unfold plainArgs at h
  simp only [Bool.and_eq_true, List.isEmpty_iff, Option.isNone_iff_eq_none] at h
  obtain ⟨⟨⟨⟨⟨rfl, rfl⟩, rfl⟩, rfl⟩, rfl⟩, rfl⟩ := h
  rfl
theorem noArgs_eq {a : Arguments} (h : noArgs a = true) : a = ⟨[], [], none, [], [], none, []⟩ := by
  obtain ⟨p, as, v, ko, kd, kw, df⟩ := a
  unfold noArgs at h
  simp only [Bool.and_eq_true, List.isEmpty_iff, Option.isNone_iff_eq_none] at h
  obtain ⟨⟨⟨⟨⟨⟨rfl, rfl⟩, rfl⟩, rfl⟩, rfl⟩, rfl⟩, rfl⟩ := h
  rfl
/-! ### a def's start and end -/
section
variable {w : Wd} {C : Cn} {g g' : Gh} {H H' : Hp}
theorem start_get {vs : List V} {N : List Str} {i : Nat} {v : V} (h : vs[i]? = some v) : (L2.start N vs).getD i none = some v := by
  unfold L2.start
  have hi := (List.getElem?_eq_some_iff.mp h).1
  simp [List.getD, List.getElem?_append_left (show i < (vs.map some).length by simpa using hi), h]
theorem start_env {ds : List D} {fn : Fn} {i : Nat} : (Pf.start fn ds).getD i .un = match ds[i]? with | some d => .val d | none => .un := by
  unfold Pf.start
  rcases Nat.lt_or_ge i ds.length with h | h
  · simp [List.getD, List.getElem?_append_left (show i < (ds.map Slot.val).length by simpa using h), List.getElem?_eq_getElem h]
  · have h2 : (ds.map Slot.val).length ≤ i := by simpa using h
    simp only [List.getD, List.getElem?_append_right h2, List.getElem?_eq_none h, List.getElem?_replicate]
    split <;> rfl
theorem start_own {ds : List D} {fn : Fn} {i : Nat} {d : D} : (Pf.start fn ds).getD i .un ≠ .own d := by
  rw [start_env]
  split <;> exact fun z => nomatch z
theorem sr_start {hd : Option (List D)} {ds : List D} {vs : List V} {N : List Str} {fn : Fn} (x : Sr w g [] ⟨[], hd⟩ H) (r : Reps w g ds vs) (hl : ds.length = fn.np) (hn : fn.ns = N.length) (hp : fn.np ≤ fn.ns) : Sr w g (L2.start N vs) ⟨Pf.start fn ds, hd⟩ H := by
  have rl := r.length
  refine ⟨x.sub, ?_, fun i => ?_, fun i j a d d' h => (start_own h).elim, ⟨fun ds' e => ?_, x.hand.no⟩, x.tabs, x.nt⟩
  · unfold L2.start Pf.start
    simp only [List.length_append, List.length_map, List.length_replicate]
    omega
  · show SlotR w g H ((Pf.start fn ds).getD i .un) _
    rw [start_env]
    cases hd : ds[i]? with
    | none => trivial
    | some d =>
      obtain ⟨v, hv, rv⟩ := r.get hd
      exact ⟨v, start_get hv, rv⟩
  · obtain ⟨a, us, ea, f, hv, hl, rr, n⟩ := x.hand.at_ ds' e
    exact ⟨a, us, ea, f, hv, hl, rr, fun ⟨i, d, h, _⟩ => start_own h⟩
theorem ext_call {σ σ' : L2.St} {S S' : Sta} (e : Ext g σ S H g' σ' S' H') (hn : ∀ b, ¬ OwnAt σ S.env b) : Ext g [] ⟨[], S.hd⟩ H g' [] ⟨[], S'.hd⟩ H' := by
  refine ⟨e.le, fun b o h n nt => e.keep b o h (fun z => z.elim (fun q => n (.inl q)) (hn b)) nt, fun b z => ?_, e.grow⟩
  rcases z with z | z
  · exact (e.own b (.inl z)).elim (fun q => q.elim (fun q => .inl (.inl q)) fun q => (hn b q).elim) .inr
  · exact (no_own z).elim
theorem body_end {σ : L2.St} {S : Sta} {r : SR} {Q : VK} {E : XK} (hn : ∀ b, ¬ OwnAt σ S.env b) (h : OutC w g S.hd H Q E (endC r)) : OutS w (fun c d _ H => E c d H) { nx := fun _ H' => Q .non H', rt := Q } g σ S H r := by
  cases r with
  | bad => exact h
  | nx S' => exact fun g' σ' H' s e => h g' H' _ (to_callee s) (ext_call e hn) rfl
  | exc x S' => exact fun g' σ' H' dd s e q => h g' H' dd (to_callee s) (ext_call e hn) q
  | rt tv S' =>
    intro g' σ' H' v s e t nb
    cases tv with
    | brw d => exact (nb d rfl).elim
    | val d => exact h g' H' v (to_callee s) (ext_call e hn) t
    | own d =>
      obtain ⟨a, ea, h0, f, o, n⟩ := t
      exact h g' H' v (to_callee s) (ext_call e hn) ⟨a, ea, h0, f, o, fun z => z.elim (fun q => n (.inl q)) no_own⟩
end
/-! ### the whole text -/
/-- a def: its name, its place's row, its tree -/
structure Df where
  name : Str
  st : Stmt
  fn : Fn
  /-- it makes lambdas -/
  lm : Bool
/-- what all the defs are read with -/
structure Tx0 where
  ds : List Df
  ks : List (Str × D)
  xs : List Str
  cs : List Str
  ret : Nat → Option Str
  word : Nat → Nat → Option Str
def Tx0.gm (t : Tx0) (lm : Bool) (st : Stmt) : Gm := ⟨slotsOf st, defScope st, t.ds.map (·.name), t.ks, t.xs, t.cs, t.ds.map (·.fn.np), none, lm⟩
def Df.ok (t : Tx0) (d : Df) : Bool :=
  kB d.fn.body (t.gm d.lm d.st) (defBody d.st) && C8.scC (slotsOf d.st) (params d.st) (defScope d.st) && decide (d.fn.np = (params d.st).length) && decide (d.fn.ns = (slotsOf d.st).length) && decide (d.fn.np ≤ d.fn.ns) && plainArgs (defArgs d.st)
def Tx0.tab (t : Tx0) : Tab := ⟨t.ds.map (·.fn), t.ret, t.word⟩
/-- the name of a def's lambdas -/
def lamName (x : Str) : Str := x ++ ".<locals>." ++ "<lambda>"
/-- what is known of the text behind its top -/
structure Tw (t : Tx0) (w : Wd) (P : Program) (wo : World) (K : PySem.W.Frag) (mg : Str → Option Value) (base : Heap) (adr : Nat → Addr) : Prop where
  kk : K = w.K
  fd : ∀ f d, t.ds[f]? = some d → ∃ fd, FunD K d.name d.name (defArgs d.st) (defBody d.st) (defScope d.st) [] [] (adr f) fd
  gl : ∀ f d, t.ds[f]? = some d → mg d.name = some (.ref (adr f)) ∧ w.fad f = some (adr f)
  ks : ∀ x d, t.ks.lookup x = some d → ∃ u v, mg x = some u ∧ RelV v u ∧ ∀ g', Rep w g' d v
  bt : ∀ x, (t.gm true (.Pass ⟨0, 0, 0, 0⟩)).btn x = true → mg x = none
  xs : ∀ x k, idxOf x t.xs = some k → (∃ (bmB : List Value) (B newId initId : String), ExcBaseFacts B newId initId bmB ∧ PySem.W.excIn K (w.cad k) bmB newId = true) ∧ mg x = some (.ref (w.cad k)) ∧ PySem.W.keepIn K (.ref (w.cad k)) = true ∧
    PySem.W.subIn K (.ref (w.cad k)) (.type "BaseException") = some true ∧ PySem.W.typeIn K (.ref (w.cad k)) = some (.type "type")
  dic : ∀ X' : Cx, X'.K = w.K → X'.A.units + 64 < cLine → IxDic X' w ∧ SetDic X' w
  lam : ∀ f d fd oc od osl, t.ds[f]? = some d → d.lm = true → K.lookup (adr f) = some ⟨oc, od, .func fd, osl⟩ → ∃ c Pt, fd.code = .ref c ∧ LamX.TabB base mg c Pt ∧ (Pt, lamName d.name) ∈ w.T ∧ ∀ p ∈ w.T, p.1 = Pt → p.2 = lamName d.name
  cat : ∀ y k, idxOf y t.cs = some k → ∃ (st : Stmt) (g : Addr) (fd : FuncData) (Ng : List Str) (a : Str), FunD K y y (defArgs st) (defBody st) (defScope st) [] [] g fd ∧ mg y = some (.ref g) ∧ plainArgs (defArgs st) = true ∧ params st = [a] ∧ FnScope Ng [a] (defScope st) ∧ Ng[0]? = some a ∧ Vis (defScope st) a ∧ okName y = true ∧ okName a = true ∧
    ∀ (C : Cn) (N : List Str) (qual : Str) (scope : Scope) (f : Addr) (cdv cdg : Value) (A : Around) (outer : List Env) (s : Shared) (H : Hp) (E : XK) (q : Str), C.ret = t.ret → C.word = t.word → Room 2 (A.deeper (envOfC qual scope s.heap.objs.size f cdv)) →
      LamX.GivesTo (cxOf (L2.CX P wo) P wo K mg base N qual scope f cdv A outer s H E) Ng y (defScope st) g cdg (defBody st) a q (TTs w C k)
theorem idx_map {ds : List Df} {x : Str} {f : Nat} (h : idxOf x (ds.map (·.name)) = some f) : ∃ d, ds[f]? = some d ∧ d.name = x := by
  have q := idxOf_get h
  rw [List.getElem?_map] at q
  obtain ⟨d, hd, e⟩ := Option.map_eq_some_iff.mp q
  exact ⟨d, hd, e⟩
section
variable {t : Tx0} {w : Wd} {P : Program} {wo : World} {K : PySem.W.Frag} {mg : Str → Option Value} {base : Heap} {adr : Nat → Addr}
theorem fns_binds (tw : Tw t w P wo K mg base adr) {f : Nat} {d : Df} {fd : FuncData} (hd : t.ds[f]? = some d) (ho : d.ok t = true) (F : FunD K d.name d.name (defArgs d.st) (defBody d.st) (defScope d.st) [] [] (adr f) fd) : Binds K fd (params d.st) [] := by
  unfold Df.ok at ho
  simp only [Bool.and_eq_true, decide_eq_true_eq] at ho
  obtain ⟨⟨⟨⟨⟨h1, h2⟩, h3⟩, h4⟩, h5⟩, h6⟩ := ho
  have S := C8.fnScope_by h2
  have nd : (params d.st).Nodup := by rw [← S.pre]; exact S.nd.sublist (List.take_sublist _ _)
  refine F.bindsN fun kV doc pm an cdv ct us hl => ?_
  rw [plainArgs_eq h6]
  exact bind_all hl nd
theorem fns_ok (tw : Tw t w P wo K mg base adr) (hall : ∀ d ∈ t.ds, d.ok t = true) : ∀ (n f : Nat) (d : Df), t.ds[f]? = some d → ∀ fd, FunD K d.name d.name (defArgs d.st) (defBody d.st) (defScope d.st) [] [] (adr f) fd →
    FnOk P wo K mg base (L2.CX P wo) (3 * n) (adr f) fd (params d.st) (spC w (callN t.tab n) f (params d.st).length)
  | 0, f, d, hd, fd, F => ⟨fun vs H Q E h => h.1, fun A outer s H args us vs Q E hr e0 hb r ⟨_, g, ds, hd, _, _, z⟩ => z.elim⟩
  | n + 1, f, d, hd, fd, F => by
    have ho := hall d (List.mem_of_getElem? hd)
    have ho' := ho
    unfold Df.ok at ho
    simp only [Bool.and_eq_true, decide_eq_true_eq] at ho
    obtain ⟨⟨⟨⟨⟨h1, h2⟩, h3⟩, h4⟩, h5⟩, h6⟩ := ho
    have S := C8.fnScope_by h2
    rcases F.ex with ⟨oc, od, dV, kV, doc, pm, an, cdv, ct, osl, rfl, lk, hcd, _, _⟩
    have len : ∀ vs H Q E, spC w (callN t.tab (n + 1)) f (params d.st).length vs H Q E → vs.length = (params d.st).length := fun vs H Q E h => h.1
    refine fn_of (k := 3 * n + 2) lk hcd S len fun A outer s H vs Q E hr hsp => ?_
    have G : Gs (t.gm d.lm d.st) w ⟨callN t.tab n, t.ret, t.word⟩ (fun c d _ H => E c d H) (cxOf (L2.CX P wo) P wo K mg base (slotsOf d.st) d.name (defScope d.st) (adr f) cdv A outer s H E) (3 * n) := by
      refine ⟨⟨tw.kk, rfl, S.nd, rfl, rfl, fun _ _ => rfl, hr.mono (by omega), ?_, tw.ks, tw.bt, takes_of rfl rfl rfl rfl, tw.dic, ?_⟩, passes_of rfl, fun _ _ _ _ _ h => h, S.kind, ?_⟩
      · intro x f' hf'
        obtain ⟨d', hd', e⟩ := idx_map hf'
        obtain ⟨fd', F'⟩ := tw.fd f' d' hd'
        obtain ⟨m1, m2⟩ := tw.gl f' d' hd'
        have ok' := hall d' (List.mem_of_getElem? hd')
        have b' := fns_binds tw hd' ok' F'
        unfold Df.ok at ok'
        simp only [Bool.and_eq_true, decide_eq_true_eq] at ok'
        refine ⟨adr f', d'.fn.np, ?_, e ▸ m1, ⟨⟨fd', params d'.st, ?_, b'⟩, F'.kp⟩, m2⟩
        · show (t.ds.map (·.fn.np))[f']? = _
          rw [List.getElem?_map, hd']; rfl
        · rw [ok'.1.1.1.2]
          exact fns_ok tw hall n f' d' hd' fd' F'
      · intro hlm y k hy params' body scope p lpos pos a hg hna hls hb
        obtain ⟨c, Pt, ec, TB, hT, hu⟩ := tw.lam f d _ oc od osl hd hlm lk
        obtain ⟨st, gc, fdc, Ng, pa, Fc, mc, pc, ep, Sg, hNg, hva, hny, hna', hG⟩ := tw.cat y k hy
        obtain ⟨oc', od', dV', kV', doc', pm', an', cdv', ct', osl', rfl, lk', hcd', _, _⟩ := Fc.ex
        have ea := noArgs_eq hna
        subst ea
        have ndc : (params st).Nodup := by rw [ep]; exact List.nodup_cons.mpr ⟨fun z => (by cases z), List.nodup_nil⟩
        have hbc : Binds K (PySem.W.fnOf y y (defArgs st) (defBody st) (defScope st) dV' kV' doc' pm' an' cdv' ct') [pa] [] := by
          rw [← ep]
          refine Fc.bindsN fun kV doc pm an cdv ct us hl => ?_
          rw [plainArgs_eq pc]
          exact bind_all hl ndc
        obtain ⟨n1, _, _⟩ := okName_iff hny
        obtain ⟨n2, n3, _⟩ := okName_iff hna'
        exact LamX.pe_lamcall (k := 3 * n) (c := c) (P := Pt) hg mc Fc.kp lk' hcd' hbc Sg hNg hva (hG ⟨callN t.tab n, t.ret, t.word⟩ _ _ _ _ _ _ _ _ _ _ _ _ rfl rfl (hr.mono (by omega))) TB ec hT hu (hr.mono (by omega)) (LamX.lamS_by hls) rfl (fun _ _ _ _ _ => rfl) hb n1 n2 n3
      · intro x k hk
        obtain ⟨q1, q2, q3, q4, q5⟩ := tw.xs x k hk
        exact ⟨q1, q2, q3, raises_own q4 q5⟩
    refine ⟨_, kB_ok d.fn.body G h1, ?_⟩
    · obtain ⟨hl, g, ds, hd0, x, r, o⟩ := hsp
      have rl := r.length
      have e1 : callN t.tab (n + 1) f ds hd0 = endC (ex ⟨callN t.tab n, t.ret, t.word⟩ d.fn.body ⟨Pf.start d.fn ds, hd0⟩) := by
        show (match (t.ds.map (·.fn))[f]? with | none => CR.bad | some fn => if ds.length = fn.np then endC (ex ⟨callN t.tab n, t.ret, t.word⟩ fn.body ⟨Pf.start fn ds, hd0⟩) else .bad) = _
        rw [List.getElem?_map, hd]
        show (if ds.length = d.fn.np then _ else _) = _
        rw [if_pos (by omega)]
      rw [e1] at o
      have hs := sr_start (N := slotsOf d.st) (fn := d.fn) x r (by omega) h4 h5
      exact ⟨g, ⟨Pf.start d.fn ds, hd0⟩, hs, body_end (S := ⟨Pf.start d.fn ds, hd0⟩) (fun b ⟨i, d', z, _⟩ => start_own z) o⟩
end
end Pf

/-! Pf: list.count, list.index over data. -/
namespace Pf
open PySem PySem.Spec PyProof.Rows L2
section
variable {w : Wd} {C : Cn} {W : WX} {g : Gh} {H : Hp} {σ : L2.St} {S : Sta} {Q : VK} {X : Cx} {pos : Pos}
/-- l.count(x), any data -/
def rCntD (K : PySem.W.Frag) : V → List V → Hp → VK → Prop := fun x xs H Q => ∃ (a : Addr) (y : V) (d : PyData) (ds : List PyData), x = V.ref a ∧ xs = [y] ∧ Dp K H (V.ref a) (.list ds) ∧ Dp K H y d ∧
  SeqAt.shaped (.list ds) = true ∧ SeqAt.shaped d = true ∧ Q (.int ((ds.countP fun z => PyData.eqv z d : Nat) : Int)) H
theorem mt_countD (hu : X.A.units + 65 < cLine) : MtR X "list.count" (rCntD X.K) := by
  intro pins s σ; intro H x xs v us Q I rx rxs h
  obtain ⟨a, y, d, ds, rfl, rfl, hl, hy, sl, sd, q⟩ := h
  cases rx
  obtain ⟨uy, rfl, ry⟩ := rxs.one
  rcases Dp.reads I d y uy hy ry with ⟨bs, r1⟩
  have hxs := (SeqAt.canLay_of_shaped sl : PyData.canLayAll0 ds = true)
  have hroom := (room_in_shaped sd hu : X.A.units + 1 + min (PyData.depthAll ds) d.depth < cLine)
  cases hl with
  | lst hs ha =>
    rcases I.list hs with ⟨its, rv, ⟨⟨cls, dd, data, sls⟩, n, ho, hc, hdn, hdt⟩, hlen⟩
    simp only at hc hdt
    subst hc hdt
    rcases Dp.readsAll I ds _ its ha rv with ⟨as, h4⟩
    have hmap := (SeqAt.readsAll_map ds its as hxs h4 : its.map (SeqAt.readOf s.heap) = ds)
    refine call_meets PySem.F.slot_list_count ⟨_, ho, rfl⟩ PySem.F.entry_list_count (PySem.F.args_list_count_2 _ _) (SeqAt.list_countAt a its.toArray n dd sls uy (fun u => PyData.eqv (SeqAt.readOf s.heap u) d)) ⟨ho, SeqAt.items_eqAt (vs := its.toArray) (show ReadsAll s.heap its.toArray.toList ds as from h4) r1 hxs (SeqAt.canLay_of_shaped sd) hroom, ?_⟩
    have ec : its.toArray.toList.countP (fun u => PyData.eqv (SeqAt.readOf s.heap u) d) = ds.countP fun z => PyData.eqv z d := by
      rw [← hmap, List.countP_map]; rfl
    refine ⟨.int _, H, I.tok _, ⟨s.toks, ?_⟩, q⟩
    rw [ec]
end
end Pf

/-! Pf, part 18: catchers. -/
namespace Pf
open PySem PySem.Spec PyProof.Rows L2
/-- the text's error classes: where they stand, how they are told apart -/
structure XcK (K : PySem.W.Frag) (mg : Str → Option Value) (xs : List Str) (cad : Nat → Addr) (sub : Nat → Nat → Bool) : Prop where
  mg : ∀ k x, xs[k]? = some x → mg x = some (.ref (cad k))
  exc : ∀ k, k < xs.length → ExcC K (cad k)
  exm : ∀ k j, k < xs.length → j < xs.length → PySem.W.exmOne K (.ref (cad k)) (.ref (cad j)) = some (sub k j)
  kit : ∀ k j, k < xs.length → j < xs.length → PySem.W.kitOne K (.ref (cad k)) (.ref (cad j)) = some (sub k j)
  kitV : ∀ k, k < xs.length → PySem.W.kitOne K (.ref (cad k)) (.type "ValueError") = some true
/-- the value v, while slot i holds the error at a -/
def CoE (i : Nat) (a : Addr) (v : V) : TE := fun σ H Q => σ[i]? = some (some (.ref a)) ∧ Q v H
def CoA (i : Nat) (a : Addr) (vs : List V) : TA := fun σ H Q => σ[i]? = some (some (.ref a)) ∧ Q vs H
section
variable {X : Cx} {i : Nat} {a Dc : Addr} {oe : Obj} {pn : List (Addr × Obj)} {pos : Pos}
/-- isinstance(e, c) in the suite -/
theorem pe_isE {x e y : Str} {c : V} {cv : Value} {b : Bool} {p1 p2 p3 : Pos} (C : ExcC X.K Dc) (hz : Zc (.ref Dc) none oe) (hf : ∃ vs, oe.data = .fields vs) (hx : x = ("isinstance" : Str)) (hg : Gl X x) (hm : X.mg x = none) (hN : X.N[i]? = some e) (hv : Vis X.env.scope e)
    (n1 : (e == ("__debug__" : Str)) = false) (n2 : (e == ("__classdict__" : Str)) = false) (hy : PE (X.suite a ((a, oe) :: pn)) (.Name y p3) (tC c)) (hc : ∀ u, RelV c u → u = cv) (hb : PySem.W.kitOne X.K (.ref Dc) cv = some b) :
    PE (X.suite a ((a, oe) :: pn)) (.Call (.Name x p1) [.Name e p2, .Name y p3] [] pos) (CoE i a (.bl b)) := by
  subst hx
  refine pe_to (pe_callB (X := X.suite a ((a, oe) :: pn)) (call_isE C hz hf) hg hm PyProof.Rows.boot_isinstance (pa_cons (pe_var (X := X.suite a ((a, oe) :: pn)) hN hv n1 n2) (pa_cons hy pa_nil))) fun σ H Q ⟨h, q⟩ => ?_
  exact ⟨.ref a, h, c, cv, b, rfl, hc, hb, q⟩
inductive CoEs (X : Cx) (i : Nat) (a : Addr) : List Expr → List V → Prop
  | nil : CoEs X i a [] []
  | cons {e : Expr} {es : List Expr} {v : V} {vs : List V} : (∀ v p, e ≠ .Starred v p) → PE X e (CoE i a v) → CoEs X i a es vs → CoEs X i a (e :: es) (v :: vs)
theorem CoEs.pa {X : Cx} {es : List Expr} {vs : List V} (h : CoEs X i a es vs) : PA X es (CoA i a vs) := by
  induction h with
  | nil => exact pa_to pa_nil fun σ H Q ⟨_, q⟩ => q
  | cons hs he _ ih => exact pa_to (pa_cons he ih (star_cons hs)) fun σ H Q ⟨h, q⟩ => ⟨h, h, q⟩
theorem co_const {X : Cx} {e : Expr} {v : V} (h : PE X e (tC v)) : PE X e (CoE i a v) := pe_to h fun σ H Q ⟨_, q⟩ => q
/-- what the flags tell -/
def wordA (bs : List Bool) (ws : List Str) (oth : Str) : Str := if bs.count true = 1 then ws.getD (bs.idxOf true) oth else oth
theorem dp_bools {K : PySem.W.Frag} {H : Hp} : ∀ bs : List Bool, DpAll K H (bs.map V.bl) (bs.map PyData.bool)
  | [] => .nil
  | b :: bs => .cons (.bl b) (dp_bools bs)
theorem lay_bools : ∀ bs : List Bool, PyData.canLayAll0 (bs.map PyData.bool) = true
  | [] => rfl
  | b :: bs => by
    show (PyData.canLay0 (.bool b) && PyData.canLayAll0 (bs.map PyData.bool)) = true
    rw [lay_bools bs]; rfl
theorem depth_bools : ∀ bs : List Bool, PyData.depthAll (bs.map PyData.bool) = 0
  | [] => rfl
  | b :: bs => by
    show max (PyData.depth (.bool b)) (PyData.depthAll (bs.map PyData.bool)) = 0
    rw [depth_bools bs]; rfl
theorem shaped_bools (bs : List Bool) : SeqAt.shaped (.list (bs.map PyData.bool)) = true := by
  unfold SeqAt.shaped
  rw [Bool.and_eq_true]
  refine ⟨lay_bools bs, decide_eq_true ?_⟩
  show PyData.depthAll (bs.map PyData.bool) + 1 ≤ 64
  rw [depth_bools]; decide
theorem eqv_bool (a b : Bool) : PyData.eqv (.bool a) (.bool b) = (a == b) := by cases a <;> cases b <;> rfl
theorem count_bools (bs : List Bool) : (bs.map PyData.bool).countP (fun z => PyData.eqv z (.bool true)) = bs.count true := by
  rw [List.countP_map, List.count]
  exact List.countP_congr fun b _ => by show PyData.eqv (.bool b) (.bool true) = true ↔ _; rw [eqv_bool]
end
/-! ### try: call() except x as e: flags = [..]; if flags.count(True) == 1 and isinstance(e, ValueError): return [..][flags.index(True)]; return oth -/
def clsOf (e : Str) : List Expr → Option (List Str)
  | [] => some []
  | .Call (.Name f _) [.Name e' _, .Name c _] [] _ :: es => if f == "isinstance" && e' == e && okName c then (clsOf e es).map (c :: ·) else none
  | _ => none
def strsOf : List Expr → Option (List Str)
  | [] => some []
  | .Constant (.str s) _ _ :: es => (strsOf es).map (s :: ·)
  | _ => none
structure CatA where
  a : Str
  x : Str
  e : Str
  fl : Str
  cls : List Str
  ws : List Str
  oth : Str
  lt : Str
def catA : List Stmt → Option CatA
  | [.Try [.Expr (.Call (.Name a _) [] [] _) _]
      [.ExceptHandler (some (.Name x _)) (some e)
        [.Assign [.Name fl _] (.List es _) _,
         .If (.BoolOp .And [.Compare (.Call (.Attribute (.Name fl2 _) m1 p1) [.Constant (.bool b1) _ _] [] p2) [.Eq] [.Constant (.int one) _ _] _, .Call (.Name is _) [.Name e2 _, .Name ve _] [] _] _)
           [.Return (some (.Subscript (.List ws _) (.Call (.Attribute (.Name fl3 _) m2 p3) [.Constant (.bool b2) _ _] [] p4) _)) _] [] _,
         .Return (some (.Constant (.str oth) _ _)) _] _] [] [] _,
     .Return (some (.Constant (.str lt) _ _)) _] =>
    match clsOf e es, strsOf ws with
    | some cls, some ws => if fl2 == fl && fl3 == fl && e2 == e && m1 == "count" && m2 == "index" && is == "isinstance" && ve == "ValueError" && b1 && b2 && one == 1 && p1.endLine == p2.line && p3.endLine == p4.line && cls.length == ws.length && cls.length ≤ 1000 then
        some ⟨a, x, e, fl, cls, ws, oth, lt⟩ else none
    | _, _ => none
  | _ => none
section
variable {Y : Cx} {K : PySem.W.Frag} {i : Nat} {a : Addr} {pos : Pos}
/-- what the suite of this kind leaves -/
theorem suite_a {e fl : Str} {es wse : List Expr} {bs : List Bool} {ws : List Str} {oth : Str} {is ve : Str} {p1 p2 p3 p4 p5 p6 p7 p8 p9 p10 p11 p12 p13 p14 p15 p16 p17 p18 p19 p20 p21 p22 p23 p24 : Pos} {j1 j2 j3 j4 : Nat}
    (hN : Y.N = [i0, e, fl]) (nd : Y.N.Nodup) (hve : Vis Y.env.scope e) (hlf : Y.env.scope.names.lookup fl = some .local) (n1 : okName fl = true) (un : Y.A.units + 65 < cLine)
    (hes : CoEs Y 1 a es (bs.map V.bl)) (hws : CoEs Y 1 a wse (ws.map V.str)) (hl : bs.length = ws.length) (hle : bs.length ≤ 1000) (hV : PE Y (.Call (.Name is p10) [.Name e p11, .Name ve p12] [] p13) (CoE 1 a (.bl true)))
    (l1 : (p2.endLine == p3.line) = true) (l2 : (p17.endLine == p18.line) = true) :
    PSs Y [.Assign [.Name fl p1] (.List es p22) p23,
         .If (.BoolOp .And [.Compare (.Call (.Attribute (.Name fl p4) "count" p2) [.Constant (.bool true) j1 p5] [] p3) [.Eq] [.Constant (.int 1) j2 p6] p7, .Call (.Name is p10) [.Name e p11, .Name ve p12] [] p13] p8)
           [.Return (some (.Subscript (.List wse p9) (.Call (.Attribute (.Name fl p16) "index" p17) [.Constant (.bool true) j3 p14] [] p18) p15)) p19] [] p20,
         .Return (some (.Constant (.str oth) j4 p21)) p24]
      (fun D σ H => σ[1]? = some (some (.ref a)) ∧ σ.length = 3 ∧ ∀ H'', Same H H'' → D.rt (.str (wordA bs ws oth)) H'') := by
  obtain ⟨m1, m2, _⟩ := okName_iff n1
  have h2 : Y.N[2]? = some fl := by rw [hN]; rfl
  have pf : ∀ {p : Pos}, PE Y (.Name fl p) (tVar 2) := fun {p} => pe_var h2 (.inl hlf) m1 m2
  refine pss_to (pss_cons (ps_set nd h2 (.inl hlf) (pe_lst hes.pa) rfl (.inr hlf))
    (pss_cons (ps_if (PW.pt (pw_and (pt_cmpR op_eq (pe_bm PySem.F.plainAttrs_list PySem.F.slot_list_count PySem.F.type_list_count (mt_countD un) pf (pa_cons pe_bl pa_nil) rfl rfl l1) pe_int (nomark _))
        (pw_and1 (pt_truth hV fun _ => rfl))))
      (pss_one (ps_ret (pe_ix ix_list (pe_lst hws.pa) (pe_bm PySem.F.plainAttrs_list PySem.F.slot_list_index PySem.F.type_list_index (mt_indexD un) pf (pa_cons pe_bl pa_nil) rfl rfl l2) (fun _ _ => rfl)))) pss_nil)
      (pss_one (ps_ret pe_str)))) fun Dn σ H ⟨q1, q2, q3⟩ => ?_
  refine ⟨q1, by rw [List.length_map, sizeLine_eq]; omega, fun p hp => ?_⟩
  have s2 : (σ.set 2 (some (V.ref p)))[2]? = some (some (V.ref p)) := by rw [List.getElem?_set_self (by omega)]
  have s1 : (σ.set 2 (some (V.ref p)))[1]? = some (some (.ref a)) := by rw [List.getElem?_set_ne (by decide)]; exact q1
  have hH : upd H p (.lst (bs.map V.bl)) p = some (.lst (bs.map V.bl)) := upd_same
  have sm : Same H (upd H p (.lst (bs.map V.bl))) := Same.fresh hp
  have dl : Dp Y.K (upd H p (.lst (bs.map V.bl))) (.ref p) (.list (bs.map PyData.bool)) := .lst (SqL.of hH) (dp_bools bs)
  refine ⟨_, s2, .inl ⟨rfl, _, SqL.of hH⟩, p, .bl true, .bool true, bs.map PyData.bool, rfl, rfl, dl, .bl true, shaped_bools bs, rfl, ?_⟩
  rw [count_bools]
  refine ⟨rfl, _, rfl, ?_⟩
  by_cases hc : bs.count true = 1
  · have hd : decide (V.int ((bs.count true : Nat) : Int) = V.int 1) = true := by rw [hc]; rfl
    rw [hd]
    refine iteT ⟨s1, true, rfl, iteT ?_⟩
    have hm : true ∈ bs := List.count_pos_iff.mp (by rw [hc]; decide)
    have hlt : bs.idxOf true < bs.length := List.idxOf_lt_length_iff.mpr hm
    refine ⟨s1, by rw [List.length_map, ← hl, sizeLine_eq]; omega, fun p2 hp2 => ?_⟩
    have hH2 : upd (upd H p (.lst (bs.map V.bl))) p2 (.lst (ws.map V.str)) p = some (.lst (bs.map V.bl)) := by rw [upd_ne (ne_of_none hH hp2)]; exact hH
    refine ⟨_, s2, .inl ⟨rfl, _, SqL.of hH2⟩, p, .bl true, .bool true, bs.map PyData.bool, bs.idxOf true, .bool true, rfl, rfl, .lst (SqL.of hH2) (dp_bools bs), .bl true, shaped_bools bs, rfl, ?_, rfl, fun m z hm' hz => ?_, ?_⟩
    · rw [List.getElem?_map, List.getElem?_eq_getElem hlt, List.getElem_idxOf hlt]; rfl
    · rw [List.getElem?_map] at hz
      obtain ⟨b, hb, rfl⟩ := Option.map_eq_some_iff.mp hz
      rw [eqv_bool]
      have : b ≠ true := fun e => by
        subst e
        obtain ⟨hml, hme⟩ := List.getElem?_eq_some_iff.mp hb
        have hq : (bs[m] == true) = false := List.not_of_lt_findIdx (p := (· == true)) (xs := bs) hm'
        rw [hme] at hq; cases hq
      cases b <;> first | rfl | exact (this rfl).elim
    · refine ⟨p2, ws.map V.str, _, .str (ws.getD (bs.idxOf true) oth), rfl, rfl, SqL.of upd_same, ?_, ?_⟩
      · have hw : bs.idxOf true < ws.length := by omega
        unfold atI ixN
        rw [if_pos (by omega), if_pos (by rw [List.length_map]; omega)]
        show (ws.map V.str)[((bs.idxOf true : Nat) : Int).toNat]? = _
        rw [Int.toNat_natCast, List.getElem?_map, List.getElem?_eq_getElem hw]
        simp [List.getD, List.getElem?_eq_getElem hw]
      · have e : wordA bs ws oth = ws.getD (bs.idxOf true) oth := by unfold wordA; rw [if_pos hc]
        rw [← e]
        exact q3 _ (sm.trans (Same.fresh hp2))
  · have hd : decide (V.int ((bs.count true : Nat) : Int) = V.int 1) = false := decide_eq_false fun z => hc (by have z' := V.int.inj z; omega)
    rw [hd]
    refine iteF (iteF ?_)
    have e : wordA bs ws oth = oth := by unfold wordA; rw [if_neg hc]
    show Dn.rt (.str oth) _
    rw [← e]
    exact q3 _ sm
end
section
variable {X : Cx}
theorem clsOf_ok {Y : Cx} {i : Nat} {a : Addr} {e : Str} {f : Str → Bool} : ∀ {es : List Expr} {cls : List Str}, (∀ c ∈ cls, okName c = true → ∀ (p1 p2 p3 p4 : Pos), PE Y (.Call (.Name ("isinstance" : Str) p1) [.Name e p2, .Name c p3] [] p4) (CoE i a (.bl (f c)))) → clsOf e es = some cls → CoEs Y i a es ((cls.map f).map V.bl)
  | [], cls, _, h => by cases h; exact .nil
  | x :: es, cls, hpe, h => by
    unfold clsOf at h
    split at h
    · rename_i heq; cases heq
    · rename_i g p1 e' p2 c p3 p4 es' heq
      cases heq
      split at h
      · rename_i hc
        obtain ⟨r, hr, rfl⟩ := Option.map_eq_some_iff.mp h
        simp only [Bool.and_eq_true, Bool.and_eq_true] at hc
        obtain ⟨⟨h1, h2⟩, h3⟩ := hc
        have := eq_of_beq h1; subst this
        have := eq_of_beq h2; subst this
        exact .cons (fun _ _ z => nomatch z) (hpe c List.mem_cons_self h3 _ _ _ _) (clsOf_ok (fun d hd => hpe d (List.mem_cons_of_mem _ hd)) hr)
      · cases h
    · cases h
theorem strsOf_ok {Y : Cx} {i : Nat} {a : Addr} : ∀ {es : List Expr} {ws : List Str}, strsOf es = some ws → CoEs Y i a es (ws.map V.str)
  | [], ws, h => by cases h; exact .nil
  | x :: es, ws, h => by
    unfold strsOf at h
    split at h
    · rename_i heq; cases heq
    · rename_i heq
      cases heq
      obtain ⟨r, hr, rfl⟩ := Option.map_eq_some_iff.mp h
      exact .cons (fun _ _ z => nomatch z) (co_const pe_str) (strsOf_ok hr)
    · cases h
/-- the checks beside catA -/
def catOk (xs : List Str) (sub : Nat → Nat → Bool) (sg : Scope) (d : CatA) (word : Nat → Option Str) : Bool :=
  let gl (x : Str) : Bool := decide (sg.names.lookup x = some .globalImplicit)
  decide ([d.a, d.e, d.fl].Nodup) && decide (sg.names.lookup d.e = some .local) && decide (sg.names.lookup d.fl = some .local) && okName d.e && okName d.fl && okName d.x && okName "isinstance" && okName "ValueError" && gl d.x && gl "isinstance" && gl "ValueError" &&
    (idxOf d.x xs).isSome && d.cls.all (fun c => gl c && (idxOf c xs).isSome) &&
    (List.range xs.length).all fun k => sub k ((idxOf d.x xs).getD 0) && decide (word k = some (wordA (d.cls.map fun c => sub k ((idxOf c xs).getD 0)) d.ws d.oth))
theorem catA_gives {Ng : List Str} {y : Str} {sg : Scope} {g : Addr} {cdg : Value} {bg : List Stmt} {q : Str} {xs : List Str} {sub : Nat → Nat → Bool} {C : Cn} {w : Wd} {k : Nat} {d : CatA} (h : catA bg = some d) (hr : Room 2 X.A) (F : XcK X.K X.mg xs w.cad sub) (hN : Ng = [d.a, d.e, d.fl])
    (ho : catOk xs sub sg d (C.word k) = true) (hi : X.mg ("isinstance" : Str) = none) (hv : X.mg ("ValueError" : Str) = none) (hbv : bootBuiltins ("ValueError" : Str) = some (.type "ValueError")) (hw : ∀ c s, C.word k c = some s → c < xs.length) (hret : C.ret k = some d.lt) : LamX.GivesTo X Ng y sg g cdg bg d.a q (TTs w C k) := by
  unfold catOk at ho
  simp only [Bool.and_eq_true, decide_eq_true_eq, List.all_eq_true, List.mem_range] at ho
  obtain ⟨⟨⟨⟨⟨⟨⟨⟨⟨⟨⟨⟨⟨o1, o2⟩, o3⟩, o4⟩, o5⟩, o6⟩, o7⟩, o8⟩, o9⟩, o10⟩, o11⟩, o12⟩, o13⟩, o14⟩ := ho
  obtain ⟨j0, hj0⟩ := Option.isSome_iff_exists.mp o12
  have hj0' := idxOf_get hj0
  have hj0l : j0 < xs.length := (List.getElem?_eq_some_iff.mp hj0').1
  rw [hj0] at o14
  unfold catA at h
  split at h
  · rename_i a p1 p2 p3 x p4 e fl p5 es p6 p7 fl2 p8 m1 p9 b1 j1 p10 p11 one j2 p12 p13 is p14 e2 p15 ve p16 p17 p18 wse p19 fl3 p20 m2 p21 b2 j3 p22 p23 p24 p25 p26 oth j4 p27 p28 p29 p30 lt j5 p31 p32
    split at h
    · rename_i cls ws hcls hws
      split at h
      · rename_i hc
        cases h
        simp only [decide_eq_true_eq, Bool.and_eq_true] at hc
        obtain ⟨⟨⟨⟨⟨⟨⟨⟨⟨⟨⟨⟨⟨c1, c2⟩, c3⟩, c4⟩, c5⟩, c6⟩, c7⟩, c8⟩, c9⟩, c10⟩, c11⟩, c12⟩, c13⟩, c14⟩ := hc
        have e1 := eq_of_beq c1; have e2' := eq_of_beq c2; have e3 := eq_of_beq c3; have e4 := eq_of_beq c4; have e5 := eq_of_beq c5; have e6 := eq_of_beq c6; have e7 := eq_of_beq c7; have e10 := eq_of_beq c10
        subst fl2 fl3 e2 m1 m2 is ve b1 b2 one hN
        dsimp only at o1 o2 o3 o4 o5 o6 o9 o12 o13 o14 hret hj0
        have cl : cls.length = ws.length := eq_of_beq c13
        obtain ⟨x1, x2, _⟩ := okName_iff o6
        obtain ⟨ee1, ee2, _⟩ := okName_iff o4
        obtain ⟨ve1, _, ve3⟩ := okName_iff o8
        intro f c' s H Q tl act hcc hTT
        refine ⟨_, pss_cons (ps_try_as (X := (cxOf C8.CX0 X.prog X.w X.K X.mg X.base [a, e, fl] y sg g cdg X.A X.stack s H C8.E0).nox) (c := .ref (w.cad j0)) (i := 1) (Wout := fun _ _ _ _ => False)
            (tb := fun W D σ H => ∃ Ech : XK, (∀ cls d σ' H', Ech cls d H' → W cls d σ' H') ∧ σ[0]? = some (some (.ref f)) ∧ H c' = some (LamX.CodeO c' q) ∧ tl Ech H fun _ H' => D.nx σ H')
            (ts := fun ae cv dd D σ H => ∃ (kc : Nat) (σ0 : L2.St), cv = .ref (w.cad kc) ∧ dd = none ∧ kc < xs.length ∧ σ = σ0.set 1 (some (.ref ae)) ∧ ∀ H'', Same H H'' → D.rt (.str (wordA (cls.map fun c => sub kc ((idxOf c xs).getD 0)) ws oth)) H'')
            rfl rfl o1 rfl o2 ⟨o9, x1, .inl (F.mg _ _ hj0')⟩ LamX.takes0 (fun W pn xe tk _ => ?_) (fun ae oe cv dd pn hz hf => ?_)) (pss_one (ps_ret pe_str)), ?_⟩
        · refine PSs.mk fun pins s' σ H' D I h' => ?_
          rcases h' with ⟨Ech, hW, h1, h2, h3⟩
          exact (pss_one (ps_expr (act W pn xe Ech _ _ tk hW) rfl)).run pins s' σ H' D I ⟨h1, h2, h3⟩
        · refine PSs.mk fun pins s' σ H' D I h' => ?_
          obtain ⟨kc, σ0, rfl, rfl, hk, rfl, hq⟩ := h'
          have hlen : σ0.length = 3 := by have := I.len; rw [List.length_set] at this; exact this
          have C0 := F.exc kc hk
          have gN : ∀ {c : Str} {p : Pos} {pn' : List (Addr × Obj)} {i : Nat}, idxOf c xs = some i → okName c = true → sg.names.lookup c = some .globalImplicit →
              PE ((cxOf C8.CX0 X.prog X.w X.K X.mg X.base [a, e, fl] y sg g cdg X.A X.stack s H C8.E0).nox.suite ae ((ae, oe) :: pn')) (.Name c p) (tC (.ref (w.cad i))) := fun {c p pn' i} h1 h2 h3 =>
            pe_glob (v := .ref (w.cad i)) h3 (F.mg _ _ (idxOf_get h1)) rfl (okName_iff h2).1
          refine (suite_a (i0 := a) (e := e) (fl := fl) (a := ae) (bs := cls.map fun c => sub kc ((idxOf c xs).getD 0)) (ws := ws) rfl o1 (.inl o2) o3 o5 ?_ ?_ (strsOf_ok hws) (by rw [List.length_map]; exact cl) (by rw [List.length_map]; exact c14) ?_ c11 c12).run pins s' _ H' D I ⟨?_, by rw [List.length_set]; exact hlen, hq⟩
          · have := hr.un
            show X.A.units + 3 + 65 < cLine
            omega
          · refine clsOf_ok (fun c hc hok p1 p2 p3 p4 => ?_) hcls
            obtain ⟨g1, g2⟩ := o13 c hc
            obtain ⟨jc, hjc⟩ := Option.isSome_iff_exists.mp g2
            have hjl : jc < xs.length := (List.getElem?_eq_some_iff.mp (idxOf_get hjc)).1
            rw [hjc]
            exact pe_isE (X := (cxOf C8.CX0 X.prog X.w X.K X.mg X.base [a, e, fl] y sg g cdg X.A X.stack s H C8.E0).nox) C0 hz hf rfl o10 hi rfl (.inl o2) ee1 ee2 (gN hjc hok g1) (fun u r => r) (F.kit kc jc hk hjl)
          · exact pe_isE (X := (cxOf C8.CX0 X.prog X.w X.K X.mg X.base [a, e, fl] y sg g cdg X.A X.stack s H C8.E0).nox) C0 hz hf rfl o10 hi rfl (.inl o2) ee1 ee2 (pe_bltn (v := .ty "ValueError") o11 hv hbv rfl ve3 ve1) (fun u r => r) (F.kitV kc hk)
          · rw [List.getElem?_set_self (by omega)]
        · refine ⟨fun cls dd H' => ∃ c s, cls = .ref (w.cad c) ∧ dd = none ∧ C.word k c = some s ∧ ∀ H'', Same H' H'' → Q (.str s) H'', fun cv dd σ' H' ⟨c, s, h1, h2, h3, h4⟩ => ?_, rfl, hcc, ?_⟩
          · have hk := hw c s h3
            obtain ⟨w1, w2⟩ := o14 c hk
            rw [h3] at w2
            have w3 := Option.some.inj w2
            refine ⟨true, ?_, fun _ ae na => ⟨c, σ', h1, h2, hk, rfl, fun H'' sm => ?_⟩, fun z => nomatch z⟩
            · rw [h1]
              exact (F.exm c j0 hk hj0l).trans (congrArg some w1)
            · show Q _ _
              rw [← w3]; exact h4 _ sm
          · have e : (fun v H' => match C.ret k with | none => Q v H' | some s => Q (.str s) H') = fun (_ : V) H' => Q (.str lt) H' := by rw [hret]
            have z : tl (fun cls dd H' => ∃ c s, cls = .ref (w.cad c) ∧ dd = none ∧ C.word k c = some s ∧ ∀ H'', Same H' H'' → Q (.str s) H'') H (fun v H' => match C.ret k with | none => Q v H' | some s => Q (.str s) H') := hTT
            rw [e] at z
            exact z
      · cases h
    · cases h
  · cases h
end
end Pf

/-! Pf, part 19: the text behind its top: from the hook's facts to the law's promise. -/
namespace Pf
open PySem PySem.Spec PyProof.Rows L2
def dfD (x : Str) (st : Stmt) : He.DefD := ⟨(x, none), x, x, defArgs st, defBody st, defScope st, [], []⟩
/-- what the head is asked for -/
def Tx0.fnH (t : Tx0) (cats : List (Str × Stmt)) : List He.DefD := t.ds.map (fun d => dfD d.name d.st) ++ cats.map fun c => dfD c.1 c.2
def ksInt : List (Str × D) → List He.Fa
  | [] => []
  | (x, .int i) :: r => .int x i :: ksInt r
  | _ :: r => ksInt r
def ksOk : List (Str × D) → Bool
  | [] => true
  | (_, .int _) :: r => ksOk r
  | _ => false
def Tx0.faH (t : Tx0) (cats : List (Str × Stmt)) : List He.Fa :=
  t.ds.map (fun d => .glo d.name) ++ cats.map (fun c => .glo c.1) ++ ((("ValueError" : Str) :: btNames).map .free) ++ ksInt t.ks ++ t.xs.map .glo ++ t.xs.map .exc
def excCB (K : PySem.W.Frag) (D : Addr) : Bool :=
  He.eqO (PySem.W.findIn K (.ref D) "__getattribute__") (some (some (.builtin "BaseException.__getattribute__"))) && He.eqO (PySem.W.findIn K (.ref D) "__getattr__") (some none) && decide (PySem.W.subIn K (.ref D) (.type "BaseException") = some true) && PySem.W.hasDictIn K D &&
    He.eqO (PySem.W.findIn K (.ref D) "__class__") (some (some (.builtin "object.__class__"))) && He.eqO (PySem.W.specialIn K (.builtin "object.__class__") "__get__") (some (some (.builtin "getset_descriptor.__get__"))) && decide (PySem.W.takesIn K (.builtin "object.__class__") = some true) && decide (PySem.W.mroIn K D (.type "object") = some true)
theorem excCB_ok {K : PySem.W.Frag} {D : Addr} (h : excCB K D = true) : ExcC K D := by
  unfold excCB at h
  simp only [decide_eq_true_eq, Bool.and_eq_true] at h
  rcases h with ⟨⟨⟨⟨⟨⟨⟨h1, h2⟩, h3⟩, h4⟩, h5⟩, h6⟩, h7⟩, h8⟩
  exact ⟨He.eqO_ok h1, He.eqO_ok h2, h3, h4, He.eqO_ok h5, He.eqO_ok h6, h7, h8⟩
/-- class number k of the text's errors -/
def cadH (xs : List Str) (K : PySem.W.Frag) (k : Nat) : Addr := He.ga K (xs.getD k "")
def Tx0.exH (t : Tx0) (sub : Nat → Nat → Bool) (K : PySem.W.Frag) : Bool :=
  (List.range t.xs.length).all fun k => excCB K (cadH t.xs K k) && decide (PySem.W.kitOne K (.ref (cadH t.xs K k)) (.type "ValueError") = some true) &&
    (List.range t.xs.length).all fun j => decide (PySem.W.exmOne K (.ref (cadH t.xs K k)) (.ref (cadH t.xs K j)) = some (sub k j)) && decide (PySem.W.kitOne K (.ref (cadH t.xs K k)) (.ref (cadH t.xs K j)) = some (sub k j))
/-- the defs that make lambdas -/
def Tx0.tfH (t : Tx0) : List He.Defn := (t.ds.filter (·.lm)).map fun d => (d.name, none)
def Tx0.adr (t : Tx0) (K : PySem.W.Frag) (f : Nat) : Addr := He.ga K ((t.ds.map (·.name)).getD f "")
def Tx0.wd (t : Tx0) (K : PySem.W.Frag) : Wd where
  K := K
  fad := fun f => if f < t.ds.length then some (t.adr K f) else none
  cad := cadH t.xs K
  T := t.tfH.map fun p => ((He.cT K p).2, lamName p.1)
section
variable {t : Tx0} {cats : List (Str × Stmt)} {sub : Nat → Nat → Bool} {w : World} {h : Heap} {K : PySem.W.Frag} {mg : Str → Option Value}
theorem ks_fa : ∀ {ks : List (Str × D)} {x : Str} {d : D}, ksOk ks = true → ks.lookup x = some d → ∃ i, d = .int i ∧ He.Fa.int x i ∈ ksInt ks
  | [], x, d, _, h => by cases h
  | (y, e) :: r, x, d, hk, h => by
    cases e <;> first | cases hk | skip
    rename_i i
    rw [List.lookup_cons] at h
    split at h
    · rename_i e
      cases h
      have := eq_of_beq e; subst this
      exact ⟨i, rfl, List.mem_cons_self⟩
    · obtain ⟨j, e, m⟩ := ks_fa (show ksOk r = true from hk) h
      exact ⟨j, e, List.mem_cons_of_mem _ m⟩
theorem getD_of {l : List Str} {i : Nat} {x : Str} (h : l[i]? = some x) : l.getD i "" = x := by simp [List.getD, h]
theorem xcK_of (X : K.In h) (G : h.Ns mainGlobals mg) (c : He.SaysX (t.faH cats) (t.fnH cats) [] t.tfH (t.exH sub) w h K) : XcK K mg t.xs (cadH t.xs K) sub := by
  have fa := c.t.d
  have more := c.more
  unfold Tx0.exH at more
  simp only [List.all_eq_true, List.mem_range, Bool.and_eq_true, decide_eq_true_eq] at more
  refine ⟨fun k x hk => ?_, fun k hk => excCB_ok (more k hk).1.1, fun k j hk hj => ((more k hk).2 j hj).1, fun k j hk hj => ((more k hk).2 j hj).2, fun k hk => (more k hk).1.2⟩
  have e := He.glo_ok X G (x := x) (fa.facts (by
    unfold Tx0.faH
    exact List.mem_append_left _ (List.mem_append_right _ (List.mem_map.mpr ⟨x, List.mem_of_getElem? hk, rfl⟩))))
  rw [e]
  unfold cadH
  rw [getD_of hk]
/-- the catchers' checks: kind, names -/
def catCk (t : Tx0) (sub : Nat → Nat → Bool) (k : Nat) (c : Str × Stmt) : Bool :=
  match catA (defBody c.2) with
  | some d => catOk t.xs sub (defScope c.2) d (t.word k) && decide (t.ret k = some d.lt) && plainArgs (defArgs c.2) && decide (params c.2 = [d.a]) && C8.scC [d.a, d.e, d.fl] [d.a] (defScope c.2) && (decide ((defScope c.2).names.lookup d.a = some .local) || decide ((defScope c.2).names.lookup d.a = some .cell)) && okName c.1 && okName d.a
  | none => false
/-- all that is checked of the text -/
structure Good (t : Tx0) (cats : List (Str × Stmt)) (sub : Nat → Nat → Bool) : Prop where
  ds : ∀ d ∈ t.ds, d.ok t = true
  ks : ksOk t.ks = true
  cs : t.cs = cats.map (·.1)
  cat : ∀ k c, cats[k]? = some c → catCk t sub k c = true
  word : ∀ k c s, t.word k c = some s → c < t.xs.length
  lm1 : ∀ p ∈ t.tfH, ∀ q ∈ t.tfH, p = q
theorem tw_of {P : Program} {base : Heap} (X : K.In h) (G : h.Ns mainGlobals mg) (c : He.SaysX (t.faH cats) (t.fnH cats) [] t.tfH (t.exH sub) w h K) (gd : Good t cats sub) (kb : K.In base) (tb : ∀ p ∈ t.tfH, LamX.TabB base mg (He.cT K p).1 (He.cT K p).2)
    (dic : ∀ X' : Cx, X'.K = K → X'.A.units + 64 < cLine → IxDic X' (t.wd K) ∧ SetDic X' (t.wd K)) : Tw t (t.wd K) P w K mg base (t.adr K) := by
  have fa := c.t.d
  have xc := xcK_of X G c
  have nm : ∀ f d, t.ds[f]? = some d → (t.ds.map fun d : Df => d.name).getD f ("" : Str) = d.name := fun f d hd => getD_of (by rw [List.getElem?_map, hd]; rfl)
  have hfd : ∀ f d, t.ds[f]? = some d → ∃ fd, FunD K d.name d.name (defArgs d.st) (defBody d.st) (defScope d.st) [] [] (t.adr K f) fd := fun f d hd => by
    have := fa.defs (d := dfD d.name d.st) (by unfold Tx0.fnH; exact List.mem_append_left _ (List.mem_map.mpr ⟨d, List.mem_of_getElem? hd, rfl⟩))
    have e : t.adr K f = He.fAd K (d.name, none) := by unfold Tx0.adr; rw [nm f d hd]; rfl
    rw [e]; exact this
  have free : ∀ x ∈ ("ValueError" : Str) :: btNames, mg x = none := fun x hx => He.free_ok X G (fa.facts (by
    unfold Tx0.faH
    exact List.mem_append_left _ (List.mem_append_left _ (List.mem_append_left _ (List.mem_append_right _ (List.mem_map.mpr ⟨x, hx, rfl⟩))))))
  refine ⟨rfl, hfd, fun f d hd => ⟨?_, ?_⟩, fun x d hx => ?_, fun x hx => ?_, fun x k hk => ?_, dic, fun f d fd oc od osl hd hl lk => ?_, fun y k hk => ?_⟩
  · have e := He.glo_ok X G (x := d.name) (fa.facts (by
      unfold Tx0.faH
      exact List.mem_append_left _ (List.mem_append_left _ (List.mem_append_left _ (List.mem_append_left _ (List.mem_append_left _ (List.mem_map.mpr ⟨d, List.mem_of_getElem? hd, rfl⟩)))))))
    rw [e]; unfold Tx0.adr; rw [nm f d hd]
  · show (if f < t.ds.length then some (t.adr K f) else none) = _
    rw [if_pos (List.getElem?_eq_some_iff.mp hd).1]
  · obtain ⟨i, rfl, m⟩ := ks_fa gd.ks hx
    obtain ⟨tk, e⟩ := He.int_ok X G (fa.facts (f := .int x i) (by
      unfold Tx0.faH
      exact List.mem_append_left _ (List.mem_append_left _ (List.mem_append_right _ m))))
    exact ⟨_, .int i, e, ⟨tk, rfl⟩, fun _ => rfl⟩
  · refine free x (List.mem_cons_of_mem _ ?_)
    unfold Gm.btn at hx
    rw [Bool.and_eq_true] at hx
    exact List.contains_iff_mem.mp hx.1
  · have hx := idxOf_get hk
    obtain ⟨q1, q2, q3, q4⟩ := He.exc_ok (fa.facts (f := .exc x) (by
      unfold Tx0.faH
      exact List.mem_append_right _ (List.mem_map.mpr ⟨x, List.mem_of_getElem? hx, rfl⟩)))
    have e : cadH t.xs K k = He.ga K x := by unfold cadH; rw [getD_of hx]
    show (∃ (bmB : List Value) (B newId initId : String), ExcBaseFacts B newId initId bmB ∧ PySem.W.excIn K (cadH t.xs K k) bmB newId = true) ∧ mg x = some (Value.ref (cadH t.xs K k)) ∧ PySem.W.keepIn K (.ref (cadH t.xs K k)) = true ∧ PySem.W.subIn K (.ref (cadH t.xs K k)) (.type "BaseException") = some true ∧ PySem.W.typeIn K (.ref (cadH t.xs K k)) = some (.type "type")
    rw [e]
    exact ⟨⟨_, _, _, _, PySem.F.excBase_ValueError, q1⟩, by rw [xc.mg k x hx, e], q2, q3, q4⟩
  · have hp : (d.name, (none : Option Str)) ∈ t.tfH := List.mem_map.mpr ⟨d, List.mem_filter.mpr ⟨List.mem_of_getElem? hd, hl⟩, rfl⟩
    have e : t.adr K f = He.fAd K (d.name, none) := by unfold Tx0.adr; rw [nm f d hd]; rfl
    obtain ⟨fd', F⟩ := hfd f d hd
    obtain ⟨oc', od', dV, kV, doc, pm, an, cdv, ct, osl', rfl, lk', hcd, _, _⟩ := F.ex
    rw [lk] at lk'
    cases lk'
    obtain ⟨cc, ec⟩ := He.codeIn_ref hcd
    subst ec
    have ecode : He.codeOf K (d.name, none) = cc := He.codeOf_eq (by rw [← e]; exact lk) rfl
    have TB := tb _ hp
    refine ⟨cc, (He.cT K (d.name, none)).2, rfl, ?_, List.mem_map.mpr ⟨_, hp, rfl⟩, fun q hq _ => ?_⟩
    · have : (He.cT K (d.name, none)).1 = cc := ecode
      rw [this] at TB; exact TB
    · obtain ⟨p', hp', rfl⟩ := List.mem_map.mp hq
      rw [gd.lm1 p' hp' _ hp]
  · rw [gd.cs] at hk
    have hk' := idxOf_get hk
    rw [List.getElem?_map] at hk'
    obtain ⟨cc, hcc, rfl⟩ := Option.map_eq_some_iff.mp hk'
    have ck := gd.cat k cc hcc
    unfold catCk at ck
    split at ck
    · rename_i d hd
      simp only [Bool.and_eq_true, Bool.or_eq_true, decide_eq_true_eq] at ck
      obtain ⟨⟨⟨⟨⟨⟨⟨k1, k2⟩, k3⟩, k4⟩, k5⟩, k6⟩, k7⟩, k8⟩ := ck
      obtain ⟨fd, F⟩ := fa.defs (d := dfD cc.1 cc.2) (by unfold Tx0.fnH; exact List.mem_append_right _ (List.mem_map.mpr ⟨cc, List.mem_of_getElem? hcc, rfl⟩))
      have m := He.glo_ok X G (x := cc.1) (fa.facts (by
        unfold Tx0.faH
        exact List.mem_append_left _ (List.mem_append_left _ (List.mem_append_left _ (List.mem_append_left _ (List.mem_append_right _ (List.mem_map.mpr ⟨cc, List.mem_of_getElem? hcc, rfl⟩)))))))
      refine ⟨cc.2, _, fd, [d.a, d.e, d.fl], d.a, F, m, k3, k4, C8.fnScope_by k5, rfl, k6.elim .inl fun q => .inr (.inl q), k7, k8, fun C N qual scope f cdv cdg A outer s H E q hr hw hroom => ?_⟩
      exact catA_gives (X := cxOf (L2.CX P w) P w K mg base N qual scope f cdv A outer s H E) (xs := t.xs) (sub := sub) hd hroom xc rfl (by rw [hw]; exact k1) (free _ (List.mem_cons_of_mem _ (by decide))) (free _ List.mem_cons_self) (by first | rfl | decide +kernel) (fun c s e => gd.word k c s (by rw [← hw]; exact e)) (by rw [hr]; exact k2)
    · cases ck
theorem reps_ints {w : Wd} {g : Gh} : ∀ ns : List Int, Reps w g (ns.map D.int) (ns.map V.int)
  | [] => rfl
  | n :: ns => ⟨.int n, ns.map V.int, rfl, rfl, reps_ints ns⟩
/-- the part of a heap that is no table -/
def noTbl (H : Hp) : Hp := fun b => match H b with
  | some (.tbl _) => none
  | o => o
theorem noTbl_same (H : Hp) : Same (noTbl H) H := fun b o e => by
  unfold noTbl at e
  split at e
  · cases e
  · exact e
theorem noTbl_at {H : Hp} {b : Addr} {o : HO} (h : H b = some o) (nt : ∀ ps, o ≠ .tbl ps) : noTbl H b = some o := by
  unfold noTbl
  split
  · rename_i ps e; rw [h] at e; cases e; exact (nt ps rfl).elim
  · exact h
theorem lawAt {l : PySem.W.OpenLaw} {n n0 iL : Nat} {d0 : Df} {x : Str} {f : Addr} (X : K.In h) (G : h.Ns mainGlobals mg) (hf : mg d0.name = some (.ref f)) (c : He.SaysX (t.faH cats) (t.fnH cats) [] t.tfH (t.exH sub) w h K) (gd : Good t cats sub) (hd : t.ds[iL]? = some d0) (hp : params d0.st = [x]) (hn : n ≤ big)
    (dic : ∀ X' : Cx, X'.K = K → X'.A.units + 64 < cLine → IxDic X' (t.wd K) ∧ SetDic X' (t.wd K))
    (law : ∀ ns : List Int, ns.length ≤ n → (∀ z ∈ ns, Builtin.Int.intBits z ≤ 1048576) → ∃ hd', callN t.tab n0 iL [.scr (ns.map D.int)] none = .ok (.val (.bl true)) hd') : LamX.LawAtS l w K (L2.CX l.prog w) (3 * n0) n x mg f h := by
  have fa := c.t.d
  obtain ⟨fd, F⟩ := fa.defs (d := dfD d0.name d0.st) (by unfold Tx0.fnH; exact List.mem_append_left _ (List.mem_map.mpr ⟨d0, List.mem_of_getElem? hd, rfl⟩))
  have nm : (t.ds.map fun d : Df => d.name).getD iL ("" : Str) = d0.name := getD_of (by rw [List.getElem?_map, hd]; rfl)
  have e : t.adr K iL = He.fAd K (d0.name, none) := by unfold Tx0.adr; rw [nm]; rfl
  have em := He.glo_ok X G (x := d0.name) (fa.facts (by
    unfold Tx0.faH
    exact List.mem_append_left _ (List.mem_append_left _ (List.mem_append_left _ (List.mem_append_left _ (List.mem_append_left _ (List.mem_map.mpr ⟨d0, List.mem_of_getElem? hd, rfl⟩)))))))
  have ef : He.fAd K (d0.name, none) = f := by
    rw [em] at hf
    exact Value.ref.inj (Option.some.inj hf)
  have F' : FunD K d0.name d0.name (defArgs d0.st) (defBody d0.st) (defScope d0.st) [] [] f fd := ef ▸ F
  have ho := gd.ds d0 (List.mem_of_getElem? hd)
  have ho' := ho
  unfold Df.ok at ho'
  simp only [Bool.and_eq_true, decide_eq_true_eq] at ho'
  obtain ⟨⟨⟨⟨⟨h1, h2⟩, h3⟩, h4⟩, h5⟩, h6⟩ := ho'
  have nd : (params d0.st).Nodup := by rw [hp]; exact List.nodup_cons.mpr ⟨fun z => (by cases z), List.nodup_nil⟩
  refine ⟨fd, t.tfH.map (He.cT K), spC (t.wd K) (callN t.tab n0) iL 1, fun p hpp => ?_, fun p hpp => ?_, fun p hpp => ?_, fun s u => ?_, fun H a ns hl hb hT hS => ?_, fun base kb hns tb => ?_⟩
  · obtain ⟨q, hq, rfl⟩ := List.mem_map.mp hpp; exact c.empty q hq
  · obtain ⟨q, hq, rfl⟩ := List.mem_map.mp hpp; exact c.out q hq
  · obtain ⟨q, hq, rfl⟩ := List.mem_map.mp hpp; exact PySem.W.codeHd_of_K X (c.hd q hq)
  · have b := FunD.bindsA (ps := params d0.st) F' (fun kV doc pm an cdv ct us hl => by
      rw [plainArgs_eq h6]
      exact bind_all hl nd) s [u] (by rw [hp]; rfl)
    rw [hp] at b
    exact b
  · obtain ⟨hd', hl'⟩ := law ns hl hb
    refine ⟨rfl, ⟨none, noTbl H⟩, [.scr (ns.map D.int)], none, ⟨noTbl_same H, rfl, fun i => trivial, fun i j a d d' z => by simp [List.getD] at z, ⟨fun ds z => (nomatch z), fun _ => rfl⟩, fun p hpp => ?_, fun b ps z => ?_⟩, ⟨.ref a, [], rfl, ⟨a, ns.map V.int, rfl, ?_, by rw [List.length_map]; omega, reps_ints ns⟩, rfl⟩, ?_⟩
    · obtain ⟨q, hq, rfl⟩ := List.mem_map.mp hpp
      exact LamX.TabS.nil (hT (He.cT K q) (List.mem_map.mpr ⟨q, hq, rfl⟩))
    · change noTbl H b = _ at z
      unfold noTbl at z
      split at z
      · cases z
      · rename_i hne; exact hne ps z
    · rcases hS with hS | hS
      · rcases hS with hS | ⟨o, hS⟩
        · exact .inl (.inl (noTbl_at hS fun _ z => nomatch z))
        · exact .inl (.inr ⟨o, noTbl_at hS fun _ z => nomatch z⟩)
      · exact .inr hS
    · rw [hl']
      exact fun g' H' v _ _ r => r
  · have tw := tw_of (P := l.prog) X G c gd kb (fun p hpp => tb _ (List.mem_map.mpr ⟨p, hpp, rfl⟩)) dic
    have q := fns_ok tw gd.ds n0 iL d0 hd fd (by rw [e]; exact F)
    rw [e, ef, hp] at q
    exact q
end
end Pf

/-! Pf: running a tree: rewriting rules. Every continuation has a name, so a rewriter never looks behind what is stuck. -/
namespace Pf
open PySem
theorem call_of {T : Tab} {f n : Nat} {fn : Fn} {ds : List D} {hd : Option (List D)} (h : T.fns[f]? = some fn) (hl : ds.length = fn.np) : callN T (n + 1) f ds hd = endC (ex ⟨callN T n, T.ret, T.word⟩ fn.body ⟨start fn ds, hd⟩) := by
  show (match T.fns[f]? with | none => CR.bad | some fn => if ds.length = fn.np then endC (ex ⟨callN T n, T.ret, T.word⟩ fn.body ⟨start fn ds, hd⟩) else .bad) = _
  rw [h]
  exact if_pos hl
/-! ### continuations -/
def tvb (t : Bool) : TV := .val (.bl t)
def kTup (ds : List D) (s : Sta) : R TV := .ok (.val (.tup ds)) s
def kLst (ds : List D) (s : Sta) : R TV := .ok (.own (.lst ds)) s
def kDct (ds : List D) (s : Sta) : R TV := R.of ((dpairs ds).map fun q => let r := dputs [] [] q.1 q.2; .own (.dic r.1 r.2)) s
def kBin2 (o : Bop) (x y : TV) (s : Sta) : R TV := R.of (binD o x.d y.d) s
def kBin (C : Cn) (o : Bop) (b : E) (x : TV) (s : Sta) : R TV := (ev C b s).bind (kBin2 o x)
def kNeg (x : TV) (s : Sta) : R TV := match x with | .val (.int i) => .ok (.val (.int (-i))) s | _ => .bad
def kNot (b : Bool) (s : Sta) : R TV := .ok (tvb (!b)) s
def kAnd (C : Cn) (b : E) (x : TV) (s : Sta) : R TV := match x with | .val (.bl t) => if t then ev C b s else .ok (.val (.bl false)) s | _ => .bad
def kOr (C : Cn) (b : E) (x : TV) (s : Sta) : R TV := match x with | .val (.bl t) => if t then .ok (.val (.bl true)) s else ev C b s | _ => .bad
def kCmp2 (o : Cop) (x y : TV) (s : Sta) : R TV := R.of ((cmpD o x.d y.d).map tvb) s
def kCmp (C : Cn) (o : Cop) (b : E) (x : TV) (s : Sta) : R TV := (ev C b s).bind (kCmp2 o x)
def kChn4 (o' : Cop) (y z : TV) (s : Sta) : R TV := R.of ((cmpD o' y.d z.d).map tvb) s
def kChn3 (C : Cn) (o' : Cop) (c : E) (y : TV) (t : Bool) (s : Sta) : R TV := if t then (ev C c s).bind (kChn4 o' y) else .ok (.val (.bl false)) s
def kChn2 (C : Cn) (o o' : Cop) (c : E) (x y : TV) (s : Sta) : R TV := (R.of (cmpD o x.d y.d) s).bind (kChn3 C o' c y)
def kChn (C : Cn) (o o' : Cop) (b c : E) (x : TV) (s : Sta) : R TV := (ev C b s).bind (kChn2 C o o' c x)
def kIte (C : Cn) (a b : E) (t : Bool) (s : Sta) : R TV := if t then ev C a s else ev C b s
def kIdx2 (x y : TV) (s : Sta) : R TV := R.of ((idxD s.hd x.d y.d).map .val) s
def kIdx (C : Cn) (i : E) (x : TV) (s : Sta) : R TV := (ev C i s).bind (kIdx2 x)
def kSlc3 (x : TV) (l h : Option Int) (s : Sta) : R TV := match x.d with
      | .tup ds => .ok (.val (.tup (cut ds l h))) s
      | .lst ds => .ok (.own (.lst (cut ds l h))) s
      | .scr ds => .ok (.own (.lst (cut ds l h))) s
      | _ => .bad
def kSlc2 (C : Cn) (hi : E) (x : TV) (l : Option Int) (s : Sta) : R TV := (evO C hi s).bind (kSlc3 x l)
def kSlc (C : Cn) (lo hi : E) (x : TV) (s : Sta) : R TV := (evO C lo s).bind (kSlc2 C hi x)
def kCall (C : Cn) (f : Nat) (ds : List D) (s : Sta) : R TV := callR (C.call f ds s.hd) s.env
def kBlt (b : Blt) (ds : List D) (s : Sta) : R TV := R.of ((bltD b ds).map .val) s
def kBli (b : Bli) (x : TV) (s : Sta) : R TV := match x with | .brw (.dic _ _) => .bad | x => R.of (bliD b x.d) s
def kIsi (ts : List Ty) (x : TV) (s : Sta) : R TV := if typed x.d then .ok (.val (.bl (ts.any (isTy x.d)))) s else .bad
def evSh (C : Cn) (e : E) (s : Sta) : R D := (ev C e s).bind fun x s => R.of (share x) s
def kSh (x : TV) (s : Sta) : R D := R.of (share x) s
def kComp2 (own : List Nat) (env : List Slot) (r : R (List D)) : R TV := match r with
  | .ok r s2 => .ok (.own (.lst r)) ⟨restore own env s2.env, s2.hd⟩
  | _ => .bad
def kComp (C : Cn) (tg : Tg) (c e : E) (ds : List D) (s1 : Sta) : R TV := if noOwn tg.slots s1.env then kComp2 tg.slots s1.env (compL tg.slots tg (evT C c) (evSh C e) ds ⟨wipe tg.slots s1.env, s1.hd⟩) else .bad
def kLam (C : Cn) (k : Nat) (r : R TV) : R TV := match r with
      | .ok tv s' => match C.ret k with | none => .ok tv s' | some x => .ok (.val (.str x)) s'
      | .exc x s' => match x.d with | none => R.of ((C.word k x.c).map fun x => .val (.str x)) s' | some _ => .bad
      | .bad => .bad
def kCons3 (d : D) (ds : List D) (s : Sta) : R (List D) := .ok (d :: ds) s
def kCons2 (C : Cn) (b : E) (d : D) (s : Sta) : R (List D) := (evs C b s).bind (kCons3 d)
def kCons (C : Cn) (b : E) (x : TV) (s : Sta) : R (List D) := (R.of (share x) s).bind (kCons2 C b)
def kPons2 (x : TV) (ds : List D) (s : Sta) : R (List D) := .ok (x.d :: ds) s
def kPons (C : Cn) (b : E) (x : TV) (s : Sta) : R (List D) := (evp C b s).bind (kPons2 x)
def kRons2 (x : TV) (xs : List TV) (s : Sta) : R (List TV) := .ok (x :: xs) s
def kRons (C : Cn) (b : E) (x : TV) (s : Sta) : R (List TV) := (evR C b s).bind (kRons2 x)
def kTnot (b : Bool) (s : Sta) : R Bool := .ok (!b) s
def kTand (C : Cn) (b : E) (t : Bool) (s : Sta) : R Bool := if t then evT C b s else .ok false s
def kTor (C : Cn) (b : E) (t : Bool) (s : Sta) : R Bool := if t then .ok true s else evT C b s
def kTru (x : TV) (s : Sta) : R Bool := R.of (truth x.d) s
def kOpt (x : TV) (s : Sta) : R (Option Int) := match x with | .val (.int i) => .ok (some i) s | _ => .bad
def kRng (ds : List D) (s : Sta) : R (List D) := R.of (rngD ds) s
def kItm (pk : Bool) (x : TV) (s : Sta) : R (List D) := match x with | .brw (.dic _ _) => .bad | .brw d => if pk then R.of (items d) s else .bad | x => R.of (items x.d) s
def kSet (i : Nat) (x : TV) (s : Sta) : SR := SR.of (putV i x s)
def kUnp (t : Tg) (d : D) (s : Sta) : SR := SR.of ((bindT t d s.env).map fun env => ⟨env, s.hd⟩)
def kPar (C : Cn) (ts : List Tx) (xs : List TV) (s : Sta) : SR := putX C ts xs s
def kSix2 (i : Nat) (d : D) (k : TV) (s : Sta) : SR := SR.of (putIx i k.d d s)
def kSix (C : Cn) (i : Nat) (k : E) (d : D) (s : Sta) : SR := if s.has i then (ev C k s).toS (kSix2 i d) else .bad
def kApp (i : Nat) (d : D) (s : Sta) : SR := match s.env.getD i .un with
    | .own (.lst ds) => if ds.length < big then .nx (s.set i (.own (.lst (ds ++ [d])))) else .bad
    | _ => .bad
def kApp0 (C : Cn) (i : Nat) (e : E) (x : Slot) (s : Sta) : SR := match x with | .own (.lst _) => (evSh C e s).toS (kApp i) | _ => .bad
def kApp1 (i : Nat) (d : D) (x : Slot) (s : Sta) : SR := match x with | .own (.lst ds) => if ds.length < big then .nx (s.set i (.own (.lst (ds ++ [d])))) else .bad | _ => .bad
def kEx (x : TV) (s : Sta) : SR := .nx s
def kRet (x : TV) (s : Sta) : SR := match x with | .brw _ => .bad | x => .rt x s
def kIf (C : Cn) (a b : S) (t : Bool) (s : Sta) : SR := if t then ex C a s else ex C b s
def kFor (C : Cn) (tg : Tg) (b : S) (ds : List D) (s : Sta) : SR := forL tg (ex C b) ds s
def kMkh (i : Nat) (x : TV) (s : Sta) : SR := match x, s.hd with
      | .own (.lst ds), none => .nx ⟨s.env.set i (.val .hnd), some ds⟩
      | _, _ => .bad
def kWh2 (c : Sta → R Bool) (b : Sta → SR) (n : Nat) (s : Sta) : SR := whL c b n s
def kWh (c : Sta → R Bool) (b : Sta → SR) (n : Nat) (t : Bool) (s : Sta) : SR := if t then (b s).bind (kWh2 c b n) else .nx s
def rdSl (x : Slot) (s : Sta) : R TV := match x with | .val d => .ok (.val d) s | .own d => .ok (.brw d) s | .un => .bad
def rdSv (i : Nat) (x : Slot) (s : Sta) : R TV := match x with | .val d => .ok (.val d) s | .own d => .ok (.val d) (s.set i (.val d)) | .un => .bad
def rdSq (i : Nat) (x : Slot) (s : Sta) : R TV := match x with | .val d => .ok (.val d) s | .own (.dic ks vs) => .ok (.val (.dic ks vs)) (s.set i (.val (.dic ks vs))) | .own d => .ok (.brw d) s | .un => .bad
def kCmpL2 (x : D) (r : List D) (s : Sta) : R (List D) := .ok (x :: r) s
def kCmpL1 (own : List Nat) (tg : Tg) (c : Sta → R Bool) (e : Sta → R D) (ds : List D) (x : D) (s3 : Sta) : R (List D) := (compL own tg c e ds ⟨wipe own s3.env, s3.hd⟩).bind (kCmpL2 x)
def kCmpL (own : List Nat) (tg : Tg) (c : Sta → R Bool) (e : Sta → R D) (ds : List D) (b : Bool) (s2 : Sta) : R (List D) := if b then (e s2).bind (kCmpL1 own tg c e ds) else compL own tg c e ds ⟨wipe own s2.env, s2.hd⟩
def kForS (tg : Tg) (b : Sta → SR) (ds : List D) (s : Sta) : SR := forL tg b ds s
section
variable {C : Cn} {s : Sta} {α β : Type}
theorem rb_ok {a : α} {f : α → Sta → R β} : (R.ok a s).bind f = f a s := rfl
theorem rb_exc {x : Xc} {f : α → Sta → R β} : (R.exc x s).bind f = .exc x s := rfl
theorem rb_bad {f : α → Sta → R β} : (R.bad).bind f = .bad := rfl
theorem rt_ok {a : α} {f : α → Sta → SR} : (R.ok a s).toS f = f a s := rfl
theorem rt_exc {x : Xc} {f : α → Sta → SR} : (R.exc x s).toS f = .exc x s := rfl
theorem sb_nx {f : Sta → SR} : (SR.nx s).bind f = f s := rfl
theorem sb_rt {v : TV} {f : Sta → SR} : (SR.rt v s).bind f = .rt v s := rfl
theorem sb_exc {x : Xc} {f : Sta → SR} : (SR.exc x s).bind f = .exc x s := rfl
theorem ro_some {a : α} : R.of (some a) s = .ok a s := rfl
theorem so_some {a : Sta} : SR.of (some a) = .nx a := rfl
theorem sh_val {d : D} : share (.val d) = some d := rfl
theorem sh_own {d : D} : share (.own d) = some d := rfl
theorem tvd_val {d : D} : (TV.val d).d = d := rfl
theorem tvd_own {d : D} : (TV.own d).d = d := rfl
theorem tvd_brw {d : D} : (TV.brw d).d = d := rfl
theorem cr_ok {tv : TV} {hd : Option (List D)} {env : List Slot} : callR (.ok tv hd) env = .ok tv ⟨env, hd⟩ := rfl
theorem cr_exc {x : Xc} {hd : Option (List D)} {env : List Slot} : callR (.exc x hd) env = .exc x ⟨env, hd⟩ := rfl
theorem ec_nx : endC (.nx s) = .ok (.val .non) s.hd := rfl
theorem ec_val {d : D} : endC (.rt (.val d) s) = .ok (.val d) s.hd := rfl
theorem ec_own {d : D} : endC (.rt (.own d) s) = .ok (.own d) s.hd := rfl
theorem ec_exc {x : Xc} : endC (.exc x s) = .exc x s.hd := rfl
theorem ev_c {d : D} : ev C (.c d) s = .ok (.val d) s := rfl
theorem ev_v {i : Nat} : ev C (.v i) s = rdSv i (s.env.getD i .un) s := rfl
theorem ev_p {i : Nat} : ev C (.p i) s = rdSl (s.env.getD i .un) s := rfl
theorem ev_q {i : Nat} : ev C (.q i) s = rdSq i (s.env.getD i .un) s := rfl
theorem rdSq_val {i : Nat} {d : D} : rdSq i (.val d) s = .ok (.val d) s := rfl
theorem rdSq_lst {i : Nat} {ds : List D} : rdSq i (.own (.lst ds)) s = .ok (.brw (.lst ds)) s := rfl
theorem rdSl_val {d : D} : rdSl (.val d) s = .ok (.val d) s := rfl
theorem rdSl_own {d : D} : rdSl (.own d) s = .ok (.brw d) s := rfl
theorem rdSv_val {i : Nat} {d : D} : rdSv i (.val d) s = .ok (.val d) s := rfl
theorem rdSv_own {i : Nat} {d : D} : rdSv i (.own d) s = .ok (.val d) ⟨s.env.set i (.val d), s.hd⟩ := rfl
theorem ev_tup {a : E} : ev C (.tup a) s = (evs C a s).bind kTup := rfl
theorem ev_lst {a : E} : ev C (.lst a) s = (evs C a s).bind kLst := rfl
theorem ev_dct {a : E} : ev C (.dct a) s = (evs C a s).bind kDct := rfl
theorem ev_bin {o : Bop} {a b : E} : ev C (.bin o a b) s = (ev C a s).bind (kBin C o b) := rfl
theorem ev_neg {a : E} : ev C (.neg a) s = (ev C a s).bind kNeg := rfl
theorem ev_not {a : E} : ev C (.not a) s = (evT C a s).bind kNot := rfl
theorem ev_and {a b : E} : ev C (.and a b) s = (ev C a s).bind (kAnd C b) := rfl
theorem ev_or {a b : E} : ev C (.or a b) s = (ev C a s).bind (kOr C b) := rfl
theorem ev_cmp {o : Cop} {a b : E} : ev C (.cmp o a b) s = (ev C a s).bind (kCmp C o b) := rfl
theorem ev_cmp2 {o o' : Cop} {a b c : E} : ev C (.cmp2 o o' a b c) s = (ev C a s).bind (kChn C o o' b c) := rfl
theorem ev_ite {a b c : E} : ev C (.ite c a b) s = (evT C c s).bind (kIte C a b) := rfl
theorem ev_idx {a i : E} : ev C (.idx a i) s = (ev C a s).bind (kIdx C i) := rfl
theorem ev_slc {a lo hi : E} : ev C (.slc a lo hi) s = (ev C a s).bind (kSlc C lo hi) := rfl
theorem ev_call {f : Nat} {a : E} : ev C (.call f a) s = (evs C a s).bind (kCall C f) := rfl
theorem ev_blt {b : Blt} {a : E} : ev C (.blt b a) s = (evp C a s).bind (kBlt b) := rfl
theorem ev_bli {b : Bli} {a : E} : ev C (.bli b a) s = (ev C a s).bind (kBli b) := rfl
theorem ev_isi {a : E} {ts : List Ty} : ev C (.isi a ts) s = (ev C a s).bind (kIsi ts) := rfl
theorem ev_comp {t : Tg} {i c e : E} : ev C (.comp t i c e) s = (evI C true i s).bind (kComp C t c e) := rfl
theorem ev_lam {k : Nat} {e : E} : ev C (.lam k e) s = kLam C k (ev C e s) := rfl
theorem evs_nil : evs C .nil s = .ok [] s := rfl
theorem evs_cons {a b : E} : evs C (.cons a b) s = (ev C a s).bind (kCons C b) := rfl
theorem evp_nil : evp C .nil s = .ok [] s := rfl
theorem evp_cons {a b : E} : evp C (.cons a b) s = (ev C a s).bind (kPons C b) := rfl
theorem evR_nil : evR C .nil s = .ok [] s := rfl
theorem evR_cons {a b : E} : evR C (.cons a b) s = (ev C a s).bind (kRons C b) := rfl
theorem evT_nil : evT C .nil s = .ok true s := rfl
theorem evT_not {a : E} : evT C (.not a) s = (evT C a s).bind kTnot := rfl
theorem evT_and {a b : E} : evT C (.and a b) s = (evT C a s).bind (kTand C b) := rfl
theorem evT_or {a b : E} : evT C (.or a b) s = (evT C a s).bind (kTor C b) := rfl
theorem evT_tv {a : E} : evT C (.tv a) s = (ev C a s).bind kTru := rfl
theorem evO_nil : evO C .nil s = .ok none s := rfl
theorem evO_tv {a : E} : evO C (.tv a) s = (ev C a s).bind kOpt := rfl
theorem evI_rng {pk : Bool} {a : E} : evI C pk (.rng a) s = (evs C a s).bind kRng := rfl
theorem evI_tv {pk : Bool} {a : E} : evI C pk (.tv a) s = (ev C a s).bind (kItm pk) := rfl
theorem evSh_eq {e : E} : evSh C e s = (ev C e s).bind kSh := rfl
theorem compL_nil {own : List Nat} {tg : Tg} {c : Sta → R Bool} {e : Sta → R D} : compL own tg c e [] s = .ok [] s := rfl
theorem compL_cons {own : List Nat} {i : Nat} {c : Sta → R Bool} {e : Sta → R D} {d : D} {ds : List D} : compL own (.nm i) c e (d :: ds) s = (c ⟨s.env.set i (.val d), s.hd⟩).bind (kCmpL own (.nm i) c e ds) := rfl
theorem ex_skip : ex C .skip s = .nx s := rfl
theorem ex_seq {a b : S} : ex C (.seq a b) s = (ex C a s).bind (ex C b) := rfl
theorem ex_set {i : Nat} {e : E} : ex C (.set i e) s = (ev C e s).toS (kSet i) := rfl
theorem ex_unp {t : Tg} {e : E} : ex C (.unp t e) s = (evSh C e s).toS (kUnp t) := rfl
theorem ex_par {ts : List Tx} {e : E} : ex C (.par ts e) s = (evR C e s).toS (kPar C ts) := rfl
theorem ex_six {i : Nat} {k e : E} : ex C (.six i k e) s = (evSh C e s).toS (kSix C i k) := rfl
theorem ex_app {i : Nat} {e : E} : ex C (.app i e) s = kApp0 C i e (s.env.getD i .un) s := rfl
theorem kApp0_own {i : Nat} {e : E} {ds : List D} : kApp0 C i e (.own (.lst ds)) s = (evSh C e s).toS (kApp i) := rfl
theorem kApp_eq {i : Nat} {d : D} : kApp i d s = kApp1 i d (s.env.getD i .un) s := rfl
theorem kApp1_own {i : Nat} {d : D} {ds : List D} : kApp1 i d (.own (.lst ds)) s = if ds.length < 16777216 then .nx ⟨s.env.set i (.own (.lst (ds ++ [d]))), s.hd⟩ else .bad := rfl
theorem ex_ex {e : E} : ex C (.ex e) s = (ev C e s).toS kEx := rfl
theorem ex_ret {e : E} : ex C (.ret e) s = (ev C e s).toS kRet := rfl
theorem ex_if {c : E} {a b : S} : ex C (.ife c a b) s = (evT C c s).toS (kIf C a b) := rfl
theorem ex_for {t : Tg} {i : E} {b : S} : ex C (.fo t i b) s = (evI C false i s).toS (kFor C t b) := rfl
theorem ex_wh {c : E} {b : S} : ex C (.wh c b) s = whL (evT C c) (ex C b) fuel s := rfl
theorem ex_rse0 {k : Nat} : ex C (.rse k .nil) s = .exc ⟨k, none⟩ s := rfl
theorem ex_mkh {i : Nat} {e : E} : ex C (.mkh i e) s = (ev C e s).toS (kMkh i) := rfl
theorem whL_step {c : Sta → R Bool} {b : Sta → SR} {n : Nat} : whL c b (n + 1) s = (c s).toS (kWh c b n) := rfl
theorem forL_nil {tg : Tg} {b : Sta → SR} : forL tg b [] s = .nx s := rfl
theorem forL_cons {i : Nat} {b : Sta → SR} {d : D} {ds : List D} : forL (.nm i) b (d :: ds) s = (b ⟨s.env.set i (.val d), s.hd⟩).bind (kForS (.nm i) b ds) := rfl
theorem kRet_val {d : D} : kRet (.val d) s = .rt (.val d) s := rfl
theorem kRet_own {d : D} : kRet (.own d) s = .rt (.own d) s := rfl
theorem kAnd_bl {b : E} {t : Bool} : kAnd C b (.val (.bl t)) s = if t then ev C b s else .ok (.val (.bl false)) s := rfl
theorem kOr_bl {b : E} {t : Bool} : kOr C b (.val (.bl t)) s = if t then .ok (.val (.bl true)) s else ev C b s := rfl
theorem kNeg_int {i : Int} : kNeg (.val (.int i)) s = .ok (.val (.int (-i))) s := rfl
theorem kOpt_int {i : Int} : kOpt (.val (.int i)) s = .ok (some i) s := rfl
theorem putV_val {i : Nat} {d : D} : putV i (.val d) s = some ⟨s.env.set i (.val d), s.hd⟩ := rfl
theorem putV_own {i : Nat} {d : D} : putV i (.own d) s = some ⟨s.env.set i (.own d), s.hd⟩ := rfl
theorem putX_nil : putX C [] [] s = .nx s := rfl
theorem putX_nm {i : Nat} {ts : List Tx} {x : TV} {xs : List TV} : putX C (.nm i :: ts) (x :: xs) s = (SR.of (putV i x s)).bind (putX C ts xs) := rfl
theorem kBli_val {b : Bli} {d : D} : kBli b (.val d) s = R.of (bliD b d) s := rfl
theorem kBli_own {b : Bli} {d : D} : kBli b (.own d) s = R.of (bliD b d) s := rfl
theorem kItm_val {pk : Bool} {d : D} : kItm pk (.val d) s = R.of (items d) s := rfl
theorem kItm_own {pk : Bool} {d : D} : kItm pk (.own d) s = R.of (items d) s := rfl
theorem kComp2_ok {own : List Nat} {env : List Slot} {r : List D} : kComp2 own env (.ok r s) = .ok (.own (.lst r)) ⟨restore own env s.env, s.hd⟩ := rfl
theorem kMkh_ok {i : Nat} {ds : List D} {env : List Slot} : kMkh i (.own (.lst ds)) ⟨env, none⟩ = .nx ⟨env.set i (.val .hnd), some ds⟩ := rfl
theorem putIx_hnd {i : Nat} {j : Int} {d : D} {ds : List D} {env : List Slot} (h : env.getD i .un = .val .hnd) : putIx i (.int j) d ⟨env, some ds⟩ = (place ds.length j).map fun m => ⟨env, some (ds.set m d)⟩ := by
  unfold putIx; rw [h]; rfl
theorem gz {α : Type} {a x : α} {l : List α} : (a :: l).getD 0 x = a := rfl
theorem gs {α : Type} {a x : α} {l : List α} {n : Nat} : (a :: l).getD (n + 1) x = l.getD n x := rfl
theorem st_env {e : List Slot} {h : Option (List D)} : (Sta.mk e h).env = e := rfl
theorem st_hd {e : List Slot} {h : Option (List D)} : (Sta.mk e h).hd = h := rfl
theorem at0 {a : D} {l : List D} : atD (a :: l) 0 = some a := by
  unfold atD place; rw [if_pos (by omega), if_pos (by simp <;> omega)]; rfl
theorem at1 {a b : D} {l : List D} : atD (a :: b :: l) 1 = some b := by
  unfold atD place; rw [if_pos (by omega), if_pos (by simp <;> omega)]; rfl
theorem at2 {a b c : D} {l : List D} : atD (a :: b :: c :: l) 2 = some c := by
  unfold atD place; rw [if_pos (by omega), if_pos (by simp <;> omega)]; rfl
theorem at3 {a b c d : D} {l : List D} : atD (a :: b :: c :: d :: l) 3 = some d := by
  unfold atD place; rw [if_pos (by omega), if_pos (by simp <;> omega)]; rfl
theorem at4 {a b c d e : D} {l : List D} : atD (a :: b :: c :: d :: e :: l) 4 = some e := by
  unfold atD place; rw [if_pos (by omega), if_pos (by simp <;> omega)]; rfl
theorem pl1 : place 5 1 = some 1 := rfl
theorem pl2 : place 5 2 = some 2 := rfl
theorem pl3 : place 5 3 = some 3 := rfl
theorem pl4 : place 5 4 = some 4 := rfl
theorem eq_int {i j : Int} : eqD (.int i) (.int j) = some (decide (i = j)) := by
  show (if okE (.int i) && okE (.int j) then some (i == j) else none) = _
  rw [show (okE (.int i) && okE (.int j)) = true from rfl, if_pos rfl]
  exact congrArg some (by rw [Bool.eq_iff_iff]; simp)
theorem has0 {x : Slot} {l : List Slot} {h : Option (List D)} : Sta.has ⟨x :: l, h⟩ 0 = (match x with | .un => false | _ => true) := rfl
theorem ls0 {α : Type} {a x : α} {l : List α} : (a :: l).set 0 x = x :: l := rfl
theorem ls1 {α : Type} {a b x : α} {l : List α} : (a :: b :: l).set 1 x = a :: x :: l := rfl
theorem ls2 {α : Type} {a b c x : α} {l : List α} : (a :: b :: c :: l).set 2 x = a :: b :: x :: l := rfl
theorem ls3 {α : Type} {a b c d x : α} {l : List α} : (a :: b :: c :: d :: l).set 3 x = a :: b :: c :: x :: l := rfl
theorem ls4 {α : Type} {a b c d e x : α} {l : List α} : (a :: b :: c :: d :: e :: l).set 4 x = a :: b :: c :: d :: x :: l := rfl
theorem typed_non : typed .non = true := rfl
theorem isTy_non_int : isTy .non .int = false := rfl
theorem isTy_non_bool : isTy .non .bool = false := rfl
theorem isTy_non_str : isTy .non .str = false := rfl
theorem isTy_non_tup : isTy .non .tup = false := rfl
theorem isTy_non_lst : isTy .non .lst = false := rfl
theorem isTy_non_dic : isTy .non .dic = false := rfl
theorem typed_bl {b : Bool} : typed (.bl b) = true := rfl
theorem isTy_bl_int {b : Bool} : isTy (.bl b) .int = true := rfl
theorem isTy_bl_bool {b : Bool} : isTy (.bl b) .bool = true := rfl
theorem isTy_bl_str {b : Bool} : isTy (.bl b) .str = false := rfl
theorem isTy_bl_tup {b : Bool} : isTy (.bl b) .tup = false := rfl
theorem isTy_bl_lst {b : Bool} : isTy (.bl b) .lst = false := rfl
theorem isTy_bl_dic {b : Bool} : isTy (.bl b) .dic = false := rfl
theorem typed_int {i : Int} : typed (.int i) = true := rfl
theorem isTy_int_int {i : Int} : isTy (.int i) .int = true := rfl
theorem isTy_int_bool {i : Int} : isTy (.int i) .bool = false := rfl
theorem isTy_int_str {i : Int} : isTy (.int i) .str = false := rfl
theorem isTy_int_tup {i : Int} : isTy (.int i) .tup = false := rfl
theorem isTy_int_lst {i : Int} : isTy (.int i) .lst = false := rfl
theorem isTy_int_dic {i : Int} : isTy (.int i) .dic = false := rfl
theorem typed_str {x : Str} : typed (.str x) = true := rfl
theorem isTy_str_int {x : Str} : isTy (.str x) .int = false := rfl
theorem isTy_str_bool {x : Str} : isTy (.str x) .bool = false := rfl
theorem isTy_str_str {x : Str} : isTy (.str x) .str = true := rfl
theorem isTy_str_tup {x : Str} : isTy (.str x) .tup = false := rfl
theorem isTy_str_lst {x : Str} : isTy (.str x) .lst = false := rfl
theorem isTy_str_dic {x : Str} : isTy (.str x) .dic = false := rfl
theorem typed_tup {ds : List D} : typed (.tup ds) = true := rfl
theorem isTy_tup_int {ds : List D} : isTy (.tup ds) .int = false := rfl
theorem isTy_tup_bool {ds : List D} : isTy (.tup ds) .bool = false := rfl
theorem isTy_tup_str {ds : List D} : isTy (.tup ds) .str = false := rfl
theorem isTy_tup_tup {ds : List D} : isTy (.tup ds) .tup = true := rfl
theorem isTy_tup_lst {ds : List D} : isTy (.tup ds) .lst = false := rfl
theorem isTy_tup_dic {ds : List D} : isTy (.tup ds) .dic = false := rfl
theorem typed_lst {ds : List D} : typed (.lst ds) = true := rfl
theorem isTy_lst_int {ds : List D} : isTy (.lst ds) .int = false := rfl
theorem isTy_lst_bool {ds : List D} : isTy (.lst ds) .bool = false := rfl
theorem isTy_lst_str {ds : List D} : isTy (.lst ds) .str = false := rfl
theorem isTy_lst_tup {ds : List D} : isTy (.lst ds) .tup = false := rfl
theorem isTy_lst_lst {ds : List D} : isTy (.lst ds) .lst = true := rfl
theorem isTy_lst_dic {ds : List D} : isTy (.lst ds) .dic = false := rfl
theorem typed_dic {ks vs : List D} : typed (.dic ks vs) = true := rfl
theorem isTy_dic_int {ks vs : List D} : isTy (.dic ks vs) .int = false := rfl
theorem isTy_dic_bool {ks vs : List D} : isTy (.dic ks vs) .bool = false := rfl
theorem isTy_dic_str {ks vs : List D} : isTy (.dic ks vs) .str = false := rfl
theorem isTy_dic_tup {ks vs : List D} : isTy (.dic ks vs) .tup = false := rfl
theorem isTy_dic_lst {ks vs : List D} : isTy (.dic ks vs) .lst = false := rfl
theorem isTy_dic_dic {ks vs : List D} : isTy (.dic ks vs) .dic = true := rfl
theorem truth_non : truth .non = some false := rfl
theorem truth_bl {b : Bool} : truth (.bl b) = some b := rfl
theorem truth_int {i : Int} : truth (.int i) = some (i != 0) := rfl
theorem truth_tup {ds : List D} : truth (.tup ds) = some (!ds.isEmpty) := rfl
theorem truth_lst {ds : List D} : truth (.lst ds) = some (!ds.isEmpty) := rfl
theorem binD_add {a b : D} : binD .add a b = addD a b := rfl
theorem binD_sub {a b : D} : binD .sub a b = subD a b := rfl
theorem binD_mul {a b : D} : binD .mul a b = mulD a b := rfl
theorem binD_fdiv {a b : D} : binD .fdiv a b = fdivD a b := rfl
theorem binD_mod {a b : D} : binD .mod a b = modD a b := rfl
theorem binD_pow {a b : D} : binD .pow a b = powD a b := rfl
theorem binD_shl {a b : D} : binD .shl a b = shlD a b := rfl
theorem addD_int {i j : Int} : addD (.int i) (.int j) = some (.val (.int (i + j))) := rfl
theorem subD_int {i j : Int} : subD (.int i) (.int j) = some (.val (.int (i - j))) := rfl
theorem mulD_int {i j : Int} (h : mulOk i j = true) : mulD (.int i) (.int j) = some (.val (.int (i * j))) := if_pos h
theorem fdivD_int {i j : Int} (h : 0 < j) (h2 : j < 1073741824) : fdivD (.int i) (.int j) = some (.val (.int (i / j))) := if_pos ⟨h, h2⟩
theorem modD_int {i j : Int} (h : 0 < j) : modD (.int i) (.int j) = some (.val (.int (i % j))) := if_pos h
theorem addD_lst {xs ys : List D} (h : xs.length + ys.length ≤ big) : addD (.lst xs) (.lst ys) = some (.own (.lst (xs ++ ys))) := if_pos h
theorem addD_tup {xs ys : List D} (h : xs.length + ys.length ≤ big) : addD (.tup xs) (.tup ys) = some (.val (.tup (xs ++ ys))) := if_pos h
theorem cmpD_eq {a b : D} : cmpD .eq a b = eqD a b := rfl
theorem cmpD_ne {a b : D} : cmpD .ne a b = (eqD a b).map (!·) := rfl
theorem cmpD_lt {a b : D} : cmpD .lt a b = ltC a b := rfl
theorem cmpD_le {a b : D} : cmpD .le a b = leC a b := rfl
theorem cmpD_gt {a b : D} : cmpD .gt a b = ltC b a := rfl
theorem cmpD_ge {a b : D} : cmpD .ge a b = leC b a := rfl
theorem cmpD_is {a b : D} : cmpD .is a b = isC a b := rfl
theorem cmpD_isN {a b : D} : cmpD .isN a b = (isC a b).map (!·) := rfl
theorem cmpD_mem {a b : D} : cmpD .mem a b = memC a b := rfl
theorem cmpD_memN {a b : D} : cmpD .memN a b = (memC a b).map (!·) := rfl
theorem ltC_int {i j : Int} : ltC (.int i) (.int j) = some (decide (i < j)) := rfl
theorem leC_int {i j : Int} : leC (.int i) (.int j) = some (decide (i ≤ j)) := rfl
theorem isC_bl {a b : Bool} : isC (.bl a) (.bl b) = some (decide (a = b)) := rfl
theorem idxD_tup {hd : Option (List D)} {ds : List D} {i : Int} : idxD hd (.tup ds) (.int i) = atD ds i := rfl
theorem idxD_lst {hd : Option (List D)} {ds : List D} {i : Int} : idxD hd (.lst ds) (.int i) = atD ds i := rfl
theorem idxD_hnd {ds : List D} {i : Int} : idxD (some ds) .hnd (.int i) = atD ds i := rfl
theorem blt_len {ds : List D} : bltD .len ds = len1 ds := rfl
theorem blt_abs {ds : List D} : bltD .abs ds = absD ds := rfl
theorem blt_int {ds : List D} : bltD .int ds = intD ds := rfl
theorem blt_min2 {ds : List D} : bltD .min2 ds = min2D ds := rfl
theorem blt_max2 {ds : List D} : bltD .max2 ds = max2D ds := rfl
theorem len1_tup {ds : List D} : len1 [.tup ds] = some (.int ds.length) := rfl
theorem len1_lst {ds : List D} : len1 [.lst ds] = some (.int ds.length) := rfl
theorem absD_int {i : Int} : absD [.int i] = some (.int (if i < 0 then -i else i)) := rfl
theorem intD_int {i : Int} : intD [.int i] = some (.int i) := rfl
theorem min2D_int {i j : Int} : min2D [.int i, .int j] = some (.int (if j < i then j else i)) := rfl
theorem max2D_int {i j : Int} : max2D [.int i, .int j] = some (.int (if j > i then j else i)) := rfl
theorem items_tup {ds : List D} : items (.tup ds) = some ds := rfl
theorem items_lst {ds : List D} : items (.lst ds) = some ds := rfl
theorem bli_all {ds : List D} : bliD .all (.lst ds) = (bools ds).map fun bs => .val (.bl (bs.all id)) := rfl
theorem bli_any {ds : List D} : bliD .any (.lst ds) = (bools ds).map fun bs => .val (.bl (bs.any id)) := rfl
theorem bli_sum {ds : List D} : bliD .sum (.lst ds) = (sumD ds).map fun i => .val (.int i) := rfl
theorem bli_tupL {ds : List D} : bliD .tup (.lst ds) = some (.val (.tup ds)) := rfl
theorem bli_tupT {ds : List D} : bliD .tup (.tup ds) = some (.val (.tup ds)) := rfl
theorem bools_nil : bools [] = some [] := rfl
theorem bools_cons {b : Bool} {ds : List D} : bools (.bl b :: ds) = (bools ds).map (b :: ·) := rfl
theorem slc_scr {x : List D} {l h : Option Int} : kSlc3 (.val (.scr x)) l h s = .ok (.own (.lst (cut x l h))) s := rfl
theorem slc_tup {x : List D} {l h : Option Int} : kSlc3 (.val (.tup x)) l h s = .ok (.val (.tup (cut x l h))) s := rfl
theorem slc_lst {x : List D} {l h : Option Int} : kSlc3 (.val (.lst x)) l h s = .ok (.own (.lst (cut x l h))) s := rfl
theorem kDct_nil : kDct [] s = .ok (.own (.dic [] [])) s := rfl
theorem kLam_exc {k c : Nat} : kLam C k (.exc ⟨c, none⟩ s) = R.of ((C.word k c).map fun x => .val (.str x)) s := rfl
theorem kUnp_two {i j : Nat} {a b : D} : kUnp (.tp (.cons (.nm i) (.cons (.nm j) .nil))) (.tup [a, b]) s = .nx ⟨(s.env.set i (.val a)).set j (.val b), s.hd⟩ := rfl
theorem ls5 {α : Type} {a b c d e f x : α} {l : List α} : (a :: b :: c :: d :: e :: f :: l).set 5 x = a :: b :: c :: d :: e :: x :: l := rfl
theorem ls6 {α : Type} {a b c d e f g x : α} {l : List α} : (a :: b :: c :: d :: e :: f :: g :: l).set 6 x = a :: b :: c :: d :: e :: f :: x :: l := rfl
theorem kApp_lst {i : Nat} {d : D} {ds : List D} (h : s.env.getD i .un = .own (.lst ds)) (hl : ds.length < big) : kApp i d s = .nx ⟨s.env.set i (.own (.lst (ds ++ [d]))), s.hd⟩ := by
  unfold kApp; rw [h]; exact if_pos hl
end
end Pf
namespace L_k77
open PySem PySem.Spec PyProof.Rows L2 Pf
/-! ### the text -/
abbrev prog := PySem.Challenge.pw_washhouse_k77_whole_lengths_behind_washe
def top (i : Nat) : Stmt := prog.main.body.getD i (.Pass ⟨0, 0, 0, 0⟩)
def t_is_integer : Fn := ⟨1, 1,
 (.seq (.ret (.and (.isi (.p 0) [.int]) (.not (.tv (.isi (.p 0) [.bool])))))
 .skip)⟩
def t_is_within : Fn := ⟨3, 3,
 (.seq (.ret (.and (.call 0 (.cons (.v 0) .nil)) (.cmp2 .le .le (.p 1) (.p 0) (.p 2))))
 .skip)⟩
def t_is_sized : Fn := ⟨3, 3,
 (.seq (.ret (.and (.isi (.p 0) [.tup]) (.cmp2 .le .le (.p 1) (.blt .len (.cons (.p 0) .nil)) (.p 2))))
 .skip)⟩
def t_common : Fn := ⟨2, 2,
 (.seq (.wh (.tv (.cmp .ne (.p 1) (.c (.int 0)))) (.seq (.par [.nm 0, .nm 1] (.cons (.v 1) (.cons (.bin .mod (.p 0) (.p 1)) .nil)))
 .skip))
 (.seq (.ret (.blt .abs (.cons (.p 0) .nil)))
 .skip))⟩
def t_is_share : Fn := ⟨1, 2,
 (.seq (.ife (.or (.not (.tv (.call 2 (.cons (.v 0) (.cons (.c (.int 2)) (.cons (.c (.int 2)) .nil)))))) (.not (.tv (.bli .all (.comp (.nm 1) (.tv (.q 0)) .nil (.call 0 (.cons (.v 1) .nil))))))) (.seq (.ret (.c (.bl false)))
 .skip) .skip)
 (.seq (.ret (.and (.cmp .gt (.idx (.p 0) (.c (.int 1))) (.c (.int 0))) (.cmp .eq (.call 3 (.cons (.idx (.p 0) (.c (.int 0))) (.cons (.idx (.p 0) (.c (.int 1))) .nil))) (.c (.int 1)))))
 .skip))⟩
def t_is_keeping : Fn := ⟨1, 1,
 (.seq (.ret (.and (.call 4 (.cons (.v 0) .nil)) (.cmp2 .lt .le (.c (.int 0)) (.idx (.p 0) (.c (.int 0))) (.idx (.p 0) (.c (.int 1))))))
 .skip)⟩
def t_are_heats : Fn := ⟨1, 2,
 (.seq (.ret (.and (.call 2 (.cons (.v 0) (.cons (.c (.int 1)) (.cons (.c (.int 4)) .nil)))) (.bli .all (.comp (.nm 1) (.tv (.q 0)) .nil (.call 5 (.cons (.v 1) .nil))))))
 .skip)⟩
def t_check_heats : Fn := ⟨1, 1,
 (.seq (.ife (.not (.tv (.call 6 (.cons (.v 0) .nil)))) (.seq (.rse 1 .nil)
 .skip) .skip)
 .skip)⟩
def t_check_length : Fn := ⟨1, 1,
 (.seq (.ife (.not (.tv (.call 1 (.cons (.v 0) (.cons (.c (.int 1)) (.cons (.c (.int 60)) .nil)))))) (.seq (.rse 2 .nil)
 .skip) .skip)
 .skip)⟩
def t_check_both : Fn := ⟨2, 2,
 (.seq (.ex (.call 7 (.cons (.v 0) .nil)))
 (.seq (.ex (.call 8 (.cons (.v 1) .nil)))
 .skip))⟩
def t_washed : Fn := ⟨2, 2,
 (.seq (.ret (.blt .max2 (.cons (.c (.int 1)) (.cons (.bin .fdiv (.bin .mul (.p 0) (.idx (.p 1) (.c (.int 0)))) (.idx (.p 1) (.c (.int 1)))) .nil))))
 .skip)⟩
def t_washed_at : Fn := ⟨3, 3,
 (.seq (.ex (.call 9 (.cons (.v 0) (.cons (.v 1) .nil))))
 (.seq (.ife (.not (.tv (.call 1 (.cons (.v 2) (.cons (.c (.int 0)) (.cons (.bin .sub (.blt .len (.cons (.p 0) .nil)) (.c (.int 1))) .nil)))))) (.seq (.rse 4 .nil)
 .skip) .skip)
 (.seq (.ret (.call 10 (.cons (.v 1) (.cons (.idx (.p 0) (.p 2)) .nil))))
 .skip)))⟩
def t_check_row : Fn := ⟨2, 3,
 (.seq (.ife (.or (.not (.tv (.call 2 (.cons (.v 1) (.cons (.c (.int 0)) (.cons (.c (.int 12)) .nil)))))) (.not (.tv (.bli .all (.comp (.nm 2) (.tv (.q 1)) .nil (.call 1 (.cons (.v 2) (.cons (.c (.int 0)) (.cons (.bin .sub (.blt .len (.cons (.p 0) .nil)) (.c (.int 1))) .nil))))))))) (.seq (.rse 3 .nil)
 .skip) .skip)
 .skip)⟩
def t_led : Fn := ⟨3, 4,
 (.seq (.fo (.nm 3) (.tv (.v 2)) (.seq (.set 1 (.call 10 (.cons (.v 1) (.cons (.idx (.p 0) (.p 3)) .nil))))
 .skip))
 (.seq (.ret (.v 1))
 .skip))⟩
def t_behind_row : Fn := ⟨3, 3,
 (.seq (.ex (.call 9 (.cons (.v 0) (.cons (.v 1) .nil))))
 (.seq (.ex (.call 12 (.cons (.v 0) (.cons (.v 2) .nil))))
 (.seq (.ret (.call 13 (.cons (.v 0) (.cons (.v 1) (.cons (.v 2) .nil)))))
 .skip)))⟩
def t__law_hand : Fn := ⟨1, 3,
 (.seq (.set 1 (.comp (.nm 2) (.tv (.slc (.p 0) .nil (.tv (.c (.int 63))))) .nil (.blt .abs (.cons (.blt .int (.cons (.p 2) .nil)) .nil))))
 (.seq (.ret (.lst (.cons (.v 1) (.cons (.c (.int 0)) (.cons (.c (.int 0)) (.cons (.bin .add (.c (.int 83)) (.bin .mul (.c (.int 5)) (.blt .len (.cons (.p 1) .nil)))) (.cons (.c (.int 0)) .nil)))))))
 .skip))⟩
def t__law_draw : Fn := ⟨2, 5,
 (.seq (.ife (.and (.tv (.cmp .eq (.idx (.p 0) (.c (.int 2))) (.c (.int 0)))) (.tv (.cmp .lt (.idx (.p 0) (.c (.int 1))) (.blt .len (.cons (.idx (.p 0) (.c (.int 0))) .nil))))) (.seq (.set 2 (.idx (.idx (.p 0) (.c (.int 0))) (.idx (.p 0) (.c (.int 1)))))
 (.seq (.six 0 (.c (.int 1)) (.bin .add (.idx (.p 0) (.c (.int 1))) (.c (.int 1))))
 (.seq (.six 0 (.c (.int 3)) (.bin .mod (.blt .int (.cons (.bin .add (.bin .add (.bin .mul (.idx (.p 0) (.c (.int 3))) (.c (.int 69621))) (.bin .mul (.p 2) (.c (.int 40692)))) (.c (.int 17))) .nil)) (.c (.int 2147483629))))
 (.seq (.ife (.tv (.cmp .ge (.p 2) (.bin .pow (.c (.int 10)) (.c (.int 18))))) (.seq (.six 0 (.c (.int 2)) (.v 2))
 .skip) .skip)
 .skip)))) .skip)
 (.seq (.ife (.tv (.cmp .gt (.idx (.p 0) (.c (.int 2))) (.c (.int 0)))) (.seq (.set 3 (.bin .mod (.blt .int (.cons (.idx (.p 0) (.c (.int 2))) .nil)) (.p 1)))
 (.seq (.six 0 (.c (.int 2)) (.bin .fdiv (.idx (.p 0) (.c (.int 2))) (.p 1)))
 (.seq (.ret (.v 3))
 .skip))) .skip)
 (.seq (.six 0 (.c (.int 4)) (.bin .add (.idx (.p 0) (.c (.int 4))) (.c (.int 1))))
 (.seq (.set 4 (.bin .mod (.blt .int (.cons (.bin .mul (.blt .int (.cons (.bin .add (.idx (.p 0) (.c (.int 3))) (.bin .mul (.c (.int 7919)) (.idx (.p 0) (.c (.int 4))))) .nil)) (.c (.int 48271))) .nil)) (.c (.int 2147483647))))
 (.seq (.set 4 (.bin .mod (.blt .int (.cons (.bin .mul (.p 4) (.bin .add (.bin .fdiv (.p 4) (.c (.int 1009))) (.c (.int 69621)))) .nil)) (.c (.int 2147483647))))
 (.seq (.set 4 (.bin .mod (.blt .int (.cons (.bin .mul (.p 4) (.bin .add (.bin .fdiv (.p 4) (.c (.int 2003))) (.c (.int 40014)))) .nil)) (.c (.int 2147483563))))
 (.seq (.ret (.bin .mod (.blt .int (.cons (.bin .fdiv (.p 4) (.c (.int 16))) .nil)) (.p 1)))
 .skip)))))))⟩
def t__law_any : Fn := ⟨2, 2,
 (.seq (.ret (.idx (.p 1) (.call 16 (.cons (.v 0) (.cons (.blt .len (.cons (.p 1) .nil)) .nil)))))
 .skip)⟩
def t__law_low : Fn := ⟨2, 4,
 (.seq (.par [.nm 2, .nm 3] (.cons (.blt .abs (.cons (.p 0) .nil)) (.cons (.v 1) .nil)))
 (.seq (.wh (.tv (.cmp .gt (.p 3) (.c (.int 0)))) (.seq (.par [.nm 2, .nm 3] (.cons (.v 3) (.cons (.bin .mod (.blt .int (.cons (.p 2) .nil)) (.p 3)) .nil)))
 .skip))
 (.seq (.ret (.tup (.cons (.bin .fdiv (.p 0) (.p 2)) (.cons (.bin .fdiv (.p 1) (.p 2)) .nil))))
 .skip)))⟩
def t__law_deep : Fn := ⟨1, 3,
 (.seq (.set 1 (.call 17 (.cons (.v 0) (.cons (.lst (.cons (.c (.str ("?" : Str))) (.cons (.c (.str ("X x" : Str))) .nil))) .nil))))
 (.seq (.fo (.nm 2) (.rng (.cons (.bin .add (.c (.int 5)) (.call 16 (.cons (.v 0) (.cons (.c (.int 20)) .nil)))) .nil)) (.seq (.set 1 (.ite (.tv (.cmp .eq (.call 16 (.cons (.v 0) (.cons (.c (.int 2)) .nil))) (.c (.int 0)))) (.lst (.cons (.v 1) .nil)) (.tup (.cons (.v 1) .nil))))
 .skip))
 (.seq (.ret (.v 1))
 .skip)))⟩
def t__law_share : Fn := ⟨1, 2,
 (.seq (.set 1 (.bin .add (.c (.int 1)) (.call 16 (.cons (.v 0) (.cons (.call 17 (.cons (.v 0) (.cons (.lst (.cons (.c (.int 4)) (.cons (.c (.int 10)) (.cons (.c (.int 20)) .nil)))) .nil))) .nil)))))
 (.seq (.ret (.call 18 (.cons (.bin .add (.c (.int 1)) (.call 16 (.cons (.v 0) (.cons (.v 1) .nil)))) (.cons (.v 1) .nil))))
 .skip))⟩
def t__law_heats : Fn := ⟨1, 2,
 (.seq (.ret (.bli .tup (.comp (.nm 1) (.rng (.cons (.bin .add (.c (.int 1)) (.call 16 (.cons (.v 0) (.cons (.c (.int 4)) .nil)))) .nil)) .nil (.call 20 (.cons (.v 0) .nil)))))
 .skip)⟩
def t__law_once : Fn := ⟨2, 2,
 (.seq (.ret (.blt .max2 (.cons (.c (.int 1)) (.cons (.bin .fdiv (.bin .mul (.p 1) (.idx (.p 0) (.c (.int 0)))) (.idx (.p 0) (.c (.int 1)))) .nil))))
 .skip)⟩
def t__law_behind : Fn := ⟨3, 4,
 (.seq (.fo (.nm 3) (.tv (.v 2)) (.seq (.set 1 (.call 22 (.cons (.idx (.p 0) (.p 3)) (.cons (.v 1) .nil))))
 .skip))
 (.seq (.ret (.v 1))
 .skip))⟩
def t__law_no_heats : Fn := ⟨1, 2,
 (.seq (.set 1 (.lst (.cons (.c .non) (.cons (.tup .nil) (.cons (.lst (.cons (.tup (.cons (.c (.int 1)) (.cons (.c (.int 2)) .nil))) .nil)) (.cons (.tup (.cons (.tup (.cons (.c (.int 0)) (.cons (.c (.int 1)) .nil))) .nil)) (.cons (.tup (.cons (.tup (.cons (.c (.int 3)) (.cons (.c (.int 2)) .nil))) .nil)) (.cons (.tup (.cons (.tup (.cons (.c (.int 2)) (.cons (.c (.int 4)) .nil))) .nil)) (.cons (.tup (.cons (.tup (.cons (.neg (.c (.int 1))) (.cons (.c (.int 2)) .nil))) .nil)) (.cons (.tup (.cons (.tup (.cons (.c (.bl true)) (.cons (.c (.int 2)) .nil))) .nil)) (.cons (.bin .mul (.tup (.cons (.tup (.cons (.c (.int 1)) (.cons (.c (.int 2)) .nil))) .nil)) (.c (.int 5))) (.cons (.c (.int 0)) (.cons (.c (.str ("x" : Str))) .nil)))))))))))))
 (.seq (.ret (.call 17 (.cons (.v 0) (.cons (.bin .add (.p 1) (.lst (.cons (.tup (.cons (.c (.int 1)) (.cons (.c (.int 2)) .nil))) (.cons (.dct .nil) (.cons (.tup (.cons (.tup (.cons (.c (.int 1)) .nil)) .nil)) (.cons (.tup (.cons (.c (.int 1)) .nil)) (.cons (.call 19 (.cons (.v 0) .nil)) .nil))))))) .nil))))
 .skip))⟩
def t__law_no_length : Fn := ⟨1, 1,
 (.seq (.ret (.call 17 (.cons (.v 0) (.cons (.lst (.cons (.c (.int 0)) (.cons (.c (.int 61)) (.cons (.neg (.c (.int 1))) (.cons (.c .non) (.cons (.c (.bl true)) (.cons (.c (.str ("5" : Str))) (.cons (.tup (.cons (.c (.int 5)) .nil)) .nil)))))))) .nil))))
 .skip)⟩
def t__law_is_right : Fn := ⟨2, 7,
 (.seq (.par [.nm 2, .nm 3] (.cons (.bin .add (.c (.int 1)) (.call 16 (.cons (.v 0) (.cons (.c (.int 60)) .nil)))) (.cons (.call 16 (.cons (.v 0) (.cons (.blt .len (.cons (.p 1) .nil)) .nil))) .nil)))
 (.seq (.set 4 (.call 22 (.cons (.idx (.p 1) (.p 3)) (.cons (.v 2) .nil))))
 (.seq (.ife (.tv (.cmp .ne (.lst (.cons (.call 11 (.cons (.v 1) (.cons (.v 2) (.cons (.v 3) .nil)))) (.cons (.call 11 (.cons (.v 1) (.cons (.v 2) (.cons (.v 3) .nil)))) .nil))) (.lst (.cons (.v 4) (.cons (.v 4) .nil))))) (.seq (.ret (.c (.bl false)))
 .skip) .skip)
 (.seq (.ife (.not (.tv (.cmp2 .le .le (.c (.int 1)) (.p 4) (.p 2)))) (.seq (.ret (.c (.bl false)))
 .skip) .skip)
 (.seq (.set 5 (.bli .tup (.comp (.nm 6) (.rng (.cons (.call 16 (.cons (.v 0) (.cons (.c (.int 13)) .nil))) .nil)) .nil (.call 16 (.cons (.v 0) (.cons (.blt .len (.cons (.p 1) .nil)) .nil))))))
 (.seq (.set 4 (.call 23 (.cons (.v 1) (.cons (.v 2) (.cons (.v 5) .nil)))))
 (.seq (.ife (.tv (.cmp .ne (.lst (.cons (.call 14 (.cons (.v 1) (.cons (.v 2) (.cons (.v 5) .nil)))) (.cons (.call 14 (.cons (.v 1) (.cons (.v 2) (.cons (.v 5) .nil)))) .nil))) (.lst (.cons (.v 4) (.cons (.v 4) .nil))))) (.seq (.ret (.c (.bl false)))
 .skip) .skip)
 (.seq (.ife (.or (.tv (.cmp .ne (.call 14 (.cons (.v 1) (.cons (.v 2) (.cons (.tup .nil) .nil)))) (.p 2))) (.tv (.cmp .gt (.p 4) (.p 2)))) (.seq (.ret (.c (.bl false)))
 .skip) .skip)
 (.seq (.ret (.or (.cmp .eq (.p 2) (.c (.int 60))) (.cmp .ge (.call 14 (.cons (.v 1) (.cons (.bin .add (.p 2) (.c (.int 1))) (.cons (.v 5) .nil)))) (.p 4))))
 .skip)))))))))⟩
def t_law : Fn := ⟨1, 9,
 (.seq (.mkh 1 (.call 15 (.cons (.v 0) .nil)))
 (.seq (.ife (.or (.tv (.cmp .ne (.call 11 (.cons (.tup (.cons (.tup (.cons (.c (.int 2)) (.cons (.c (.int 3)) .nil))) .nil)) (.cons (.c (.int 10)) (.cons (.c (.int 0)) .nil)))) (.c (.int 6)))) (.tv (.cmp .ne (.call 11 (.cons (.tup (.cons (.tup (.cons (.c (.int 1)) (.cons (.c (.int 5)) .nil))) .nil)) (.cons (.c (.int 3)) (.cons (.c (.int 0)) .nil)))) (.c (.int 1))))) (.seq (.ret (.c (.bl false)))
 .skip) .skip)
 (.seq (.ife (.tv (.cmp .ne (.call 14 (.cons (.tup (.cons (.tup (.cons (.c (.int 1)) (.cons (.c (.int 2)) .nil))) (.cons (.tup (.cons (.c (.int 1)) (.cons (.c (.int 1)) .nil))) .nil))) (.cons (.c (.int 20)) (.cons (.tup (.cons (.c (.int 0)) (.cons (.c (.int 1)) (.cons (.c (.int 0)) .nil)))) .nil)))) (.c (.int 5)))) (.seq (.ret (.c (.bl false)))
 .skip) .skip)
 (.seq (.fo (.nm 2) (.rng (.cons (.c (.int 10)) .nil)) (.seq (.set 5 (.call 21 (.cons (.v 1) .nil)))
 (.seq (.ife (.or (.tv (.cmp .isN (.call 6 (.cons (.v 5) .nil)) (.c (.bl true)))) (.not (.tv (.call 26 (.cons (.v 1) (.cons (.v 5) .nil)))))) (.seq (.ret (.c (.bl false)))
 .skip) .skip)
 (.seq (.unp (.tp (.cons (.nm 6) (.cons (.nm 4) .nil))) (.tup (.cons (.call 24 (.cons (.v 1) .nil)) (.cons (.call 25 (.cons (.v 1) .nil)) .nil))))
 (.seq (.set 8 (.call 17 (.cons (.v 1) (.cons (.lst (.cons (.blt .len (.cons (.p 5) .nil)) (.cons (.neg (.c (.int 1))) (.cons (.c .non) (.cons (.c (.bl true)) (.cons (.c (.str ("0" : Str))) .nil)))))) .nil))))
 (.seq (.set 7 (.call 17 (.cons (.v 1) (.cons (.lst (.cons (.c .non) (.cons (.lst (.cons (.c (.int 0)) .nil)) (.cons (.tup (.cons (.blt .len (.cons (.p 5) .nil)) .nil)) (.cons (.tup (.cons (.neg (.c (.int 1))) .nil)) (.cons (.tup (.cons (.c (.bl true)) .nil)) (.cons (.tup (.cons (.c (.str ("0" : Str))) .nil)) (.cons (.bin .mul (.tup (.cons (.c (.int 0)) .nil)) (.c (.int 13))) (.cons (.c (.int 0)) (.cons (.c (.str ("x" : Str))) (.cons (.call 19 (.cons (.v 1) .nil)) .nil))))))))))) .nil))))
 (.seq (.set 3 (.lst (.cons (.lam 0 (.call 11 (.cons (.v 6) (.cons (.v 4) (.cons (.v 8) .nil))))) .nil)))
 (.seq (.app 3 (.lam 0 (.call 11 (.cons (.v 5) (.cons (.v 4) (.cons (.v 8) .nil))))))
 (.seq (.app 3 (.lam 0 (.call 11 (.cons (.v 5) (.cons (.c (.int 5)) (.cons (.v 8) .nil))))))
 (.seq (.app 3 (.lam 0 (.call 14 (.cons (.v 6) (.cons (.v 4) (.cons (.v 7) .nil))))))
 (.seq (.app 3 (.lam 0 (.call 14 (.cons (.v 5) (.cons (.v 4) (.cons (.v 7) .nil))))))
 (.seq (.app 3 (.lam 0 (.call 14 (.cons (.v 5) (.cons (.c (.int 5)) (.cons (.v 7) .nil))))))
 (.seq (.ife (.or (.tv (.cmp .ne (.p 3) (.lst (.cons (.c (.str ("heats" : Str))) (.cons (.c (.str ("length" : Str))) (.cons (.c (.str ("which" : Str))) (.cons (.c (.str ("heats" : Str))) (.cons (.c (.str ("length" : Str))) (.cons (.c (.str ("row" : Str))) .nil))))))))) (.tv (.cmp .isN (.call 6 (.cons (.v 6) .nil)) (.c (.bl false))))) (.seq (.ret (.c (.bl false)))
 .skip) .skip)
 .skip)))))))))))))
 (.seq (.ret (.c (.bl true)))
 .skip)))))⟩
def d_is_integer : Df := ⟨"is_integer", top 1, t_is_integer, false⟩
def d_is_within : Df := ⟨"is_within", top 2, t_is_within, false⟩
def d_is_sized : Df := ⟨"is_sized", top 3, t_is_sized, false⟩
def d_common : Df := ⟨"common", top 11, t_common, false⟩
def d_is_share : Df := ⟨"is_share", top 12, t_is_share, false⟩
def d_is_keeping : Df := ⟨"is_keeping", top 17, t_is_keeping, false⟩
def d_are_heats : Df := ⟨"are_heats", top 18, t_are_heats, false⟩
def d_check_heats : Df := ⟨"check_heats", top 19, t_check_heats, false⟩
def d_check_length : Df := ⟨"check_length", top 20, t_check_length, false⟩
def d_check_both : Df := ⟨"check_both", top 21, t_check_both, false⟩
def d_washed : Df := ⟨"washed", top 22, t_washed, false⟩
def d_washed_at : Df := ⟨"washed_at", top 23, t_washed_at, false⟩
def d_check_row : Df := ⟨"check_row", top 24, t_check_row, false⟩
def d_led : Df := ⟨"led", top 25, t_led, false⟩
def d_behind_row : Df := ⟨"behind_row", top 26, t_behind_row, false⟩
def d__law_hand : Df := ⟨"_law_hand", top 28, t__law_hand, false⟩
def d__law_draw : Df := ⟨"_law_draw", top 29, t__law_draw, false⟩
def d__law_any : Df := ⟨"_law_any", top 30, t__law_any, false⟩
def d__law_low : Df := ⟨"_law_low", top 31, t__law_low, false⟩
def d__law_deep : Df := ⟨"_law_deep", top 32, t__law_deep, false⟩
def d__law_share : Df := ⟨"_law_share", top 33, t__law_share, false⟩
def d__law_heats : Df := ⟨"_law_heats", top 34, t__law_heats, false⟩
def d__law_once : Df := ⟨"_law_once", top 35, t__law_once, false⟩
def d__law_behind : Df := ⟨"_law_behind", top 36, t__law_behind, false⟩
def d__law_no_heats : Df := ⟨"_law_no_heats", top 37, t__law_no_heats, false⟩
def d__law_no_length : Df := ⟨"_law_no_length", top 38, t__law_no_length, false⟩
def d__law_is_right : Df := ⟨"_law_is_right", top 40, t__law_is_right, false⟩
def d_law : Df := ⟨"law", top 41, t_law, true⟩
def ds : List Df := [d_is_integer, d_is_within, d_is_sized, d_common, d_is_share, d_is_keeping, d_are_heats, d_check_heats, d_check_length, d_check_both, d_washed, d_washed_at, d_check_row, d_led, d_behind_row, d__law_hand, d__law_draw, d__law_any, d__law_low, d__law_deep, d__law_share, d__law_heats, d__law_once, d__law_behind, d__law_no_heats, d__law_no_length, d__law_is_right, d_law]
def ks : List (Str × D) := [("MOST_LENGTH", .int (60)), ("MOST_HEATS", .int (4)), ("MOST_ROW", .int (12))]
def xs : List Str := ["WashError", "NoHeats", "NoLength", "NoRow", "NoWhich"]
def cs : List Str := ["_law_said"]
def ret : Nat → Option Str := fun _ => some "let"
def word : Nat → Nat → Option Str := fun _ x => match x with | 0 => some "other" | 1 => some "heats" | 2 => some "length" | 3 => some "row" | 4 => some "which" | _ => none
def tx : Tx0 := ⟨ds, ks, xs, cs, ret, word⟩
end L_k77
namespace L_k77
open PySem Pf
abbrev T : Tab := tx.tab
theorem is_int (n : Nat) (i : Int) (hd) : callN T (n + 1) 0 [.int i] hd = .ok (.val (.bl true)) hd := rfl
theorem within (n : Nat) (i a b : Int) (hd) : callN T (n + 2) 1 [.int i, .int a, .int b] hd = .ok (.val (.bl (decide (a ≤ i) && decide (i ≤ b)))) hd := by
  rw [call_of (fn := t_is_within) rfl rfl]
  simp only [rb_ok, rb_exc, rb_bad, rt_ok, rt_exc, sb_nx, sb_rt, sb_exc, ro_some, so_some, sh_val, sh_own, tvd_val, tvd_own, tvd_brw, cr_ok, cr_exc, ec_nx, ec_val, ec_own, ec_exc, ev_c, ev_v, ev_p, ev_q, rdSq_val, rdSq_lst, rdSl_val, rdSl_own, rdSv_val, rdSv_own, ev_tup, ev_lst, ev_dct, ev_bin, ev_neg, ev_not, ev_and, ev_or, ev_cmp, ev_cmp2, ev_ite, ev_idx, ev_slc, ev_call, ev_blt, ev_bli, ev_isi, ev_comp, ev_lam, evs_nil, evs_cons, evp_nil, evp_cons, evR_nil, evR_cons, evT_nil, evT_not, evT_and, evT_or, evT_tv, evO_nil, evO_tv, evI_rng, evI_tv, evSh_eq, compL_nil, compL_cons, ex_skip, ex_seq, ex_set, ex_unp, ex_par, ex_six, ex_app, kApp0_own, kApp_eq, kApp1_own, ex_ex, ex_ret, ex_if, ex_for, ex_wh, ex_rse0, ex_mkh, forL_nil, forL_cons, kRet_val, kRet_own, kAnd_bl, kOr_bl, kNeg_int, kOpt_int, putV_val, putV_own, putX_nil, putX_nm, kBli_val, kBli_own, kItm_val, kItm_own, kComp2_ok, kMkh_ok, gz, gs, st_env, st_hd, at0, at1, at2, at3, at4, pl1, pl2, pl3, pl4, eq_int, has0, ls0, ls1, ls2, ls3, ls4, typed_non, isTy_non_int, isTy_non_bool, isTy_non_str, isTy_non_tup, isTy_non_lst, isTy_non_dic, typed_bl, isTy_bl_int, isTy_bl_bool, isTy_bl_str, isTy_bl_tup, isTy_bl_lst, isTy_bl_dic, typed_int, isTy_int_int, isTy_int_bool, isTy_int_str, isTy_int_tup, isTy_int_lst, isTy_int_dic, typed_str, isTy_str_int, isTy_str_bool, isTy_str_str, isTy_str_tup, isTy_str_lst, isTy_str_dic, typed_tup, isTy_tup_int, isTy_tup_bool, isTy_tup_str, isTy_tup_tup, isTy_tup_lst, isTy_tup_dic, typed_lst, isTy_lst_int, isTy_lst_bool, isTy_lst_str, isTy_lst_tup, isTy_lst_lst, isTy_lst_dic, typed_dic, isTy_dic_int, isTy_dic_bool, isTy_dic_str, isTy_dic_tup, isTy_dic_lst, isTy_dic_dic, truth_non, truth_bl, truth_int, truth_tup, truth_lst, binD_add, binD_sub, binD_mul, binD_fdiv, binD_mod, binD_pow, binD_shl, addD_int, subD_int, mulD_int, fdivD_int, modD_int, addD_lst, addD_tup, cmpD_eq, cmpD_ne, cmpD_lt, cmpD_le, cmpD_gt, cmpD_ge, cmpD_is, cmpD_isN, cmpD_mem, cmpD_memN, ltC_int, leC_int, isC_bl, idxD_tup, idxD_lst, idxD_hnd, blt_len, blt_abs, blt_int, blt_min2, blt_max2, len1_tup, len1_lst, absD_int, intD_int, min2D_int, max2D_int, items_tup, items_lst, bli_all, bli_any, bli_sum, bli_tupL, bli_tupT, bools_nil, bools_cons, slc_scr, slc_tup, slc_lst, kDct_nil, kLam_exc, kUnp_two, ls5, ls6, tvb, kTup, kLst, kBin2, kBin, kNot, kCmp2, kCmp, kChn4, kChn3, kChn2, kChn, kIte, kIdx2, kIdx, kSlc2, kSlc, kCall, kBlt, kIsi, kSh, kComp, kCons3, kCons2, kCons, kPons2, kPons, kRons2, kRons, kTnot, kTand, kTor, kTru, kRng, kSet, kPar, kSix2, kSix, kEx, kIf, kFor, kWh2, kCmpL2, kCmpL1, kCmpL, kForS, List.set_cons_zero, List.set_cons_succ, List.any_cons, List.any_nil, Bool.or_false, Bool.or_true, Bool.not_true, Bool.not_false, Bool.true_and, Bool.false_and, Option.map_some, Option.map_none, Option.bind_some, Option.bind_none, if_true, if_false, Bool.false_eq_true, List.length_cons, List.length_nil, List.map_cons, List.map_nil, List.cons_append, List.nil_append, List.replicate_zero, List.replicate_succ, Nat.reduceSub, Nat.reduceAdd, Nat.reduceLT, Nat.reduceLeDiff, Int.reduceLT, Int.reduceLE, Int.reduceNeg, Int.reduceToNat, Int.reduceMul, Int.reduceAdd, Int.reducePow, reduceIte, List.length_map, decide_true, decide_false, Int.cast_ofNat_Int, Bool.and_true, Bool.and_false, Tg.slots, noOwn, List.all_cons, List.all_nil, Pf.wipe, Pf.restore, List.foldl_cons, List.foldl_nil, Pf.start, t_is_within, is_int]
  cases decide (a ≤ i) <;> simp only [rb_ok, rb_exc, rb_bad, rt_ok, rt_exc, sb_nx, sb_rt, sb_exc, ro_some, so_some, sh_val, sh_own, tvd_val, tvd_own, tvd_brw, cr_ok, cr_exc, ec_nx, ec_val, ec_own, ec_exc, ev_c, ev_v, ev_p, ev_q, rdSq_val, rdSq_lst, rdSl_val, rdSl_own, rdSv_val, rdSv_own, ev_tup, ev_lst, ev_dct, ev_bin, ev_neg, ev_not, ev_and, ev_or, ev_cmp, ev_cmp2, ev_ite, ev_idx, ev_slc, ev_call, ev_blt, ev_bli, ev_isi, ev_comp, ev_lam, evs_nil, evs_cons, evp_nil, evp_cons, evR_nil, evR_cons, evT_nil, evT_not, evT_and, evT_or, evT_tv, evO_nil, evO_tv, evI_rng, evI_tv, evSh_eq, compL_nil, compL_cons, ex_skip, ex_seq, ex_set, ex_unp, ex_par, ex_six, ex_app, kApp0_own, kApp_eq, kApp1_own, ex_ex, ex_ret, ex_if, ex_for, ex_wh, ex_rse0, ex_mkh, forL_nil, forL_cons, kRet_val, kRet_own, kAnd_bl, kOr_bl, kNeg_int, kOpt_int, putV_val, putV_own, putX_nil, putX_nm, kBli_val, kBli_own, kItm_val, kItm_own, kComp2_ok, kMkh_ok, gz, gs, st_env, st_hd, at0, at1, at2, at3, at4, pl1, pl2, pl3, pl4, eq_int, has0, ls0, ls1, ls2, ls3, ls4, typed_non, isTy_non_int, isTy_non_bool, isTy_non_str, isTy_non_tup, isTy_non_lst, isTy_non_dic, typed_bl, isTy_bl_int, isTy_bl_bool, isTy_bl_str, isTy_bl_tup, isTy_bl_lst, isTy_bl_dic, typed_int, isTy_int_int, isTy_int_bool, isTy_int_str, isTy_int_tup, isTy_int_lst, isTy_int_dic, typed_str, isTy_str_int, isTy_str_bool, isTy_str_str, isTy_str_tup, isTy_str_lst, isTy_str_dic, typed_tup, isTy_tup_int, isTy_tup_bool, isTy_tup_str, isTy_tup_tup, isTy_tup_lst, isTy_tup_dic, typed_lst, isTy_lst_int, isTy_lst_bool, isTy_lst_str, isTy_lst_tup, isTy_lst_lst, isTy_lst_dic, typed_dic, isTy_dic_int, isTy_dic_bool, isTy_dic_str, isTy_dic_tup, isTy_dic_lst, isTy_dic_dic, truth_non, truth_bl, truth_int, truth_tup, truth_lst, binD_add, binD_sub, binD_mul, binD_fdiv, binD_mod, binD_pow, binD_shl, addD_int, subD_int, mulD_int, fdivD_int, modD_int, addD_lst, addD_tup, cmpD_eq, cmpD_ne, cmpD_lt, cmpD_le, cmpD_gt, cmpD_ge, cmpD_is, cmpD_isN, cmpD_mem, cmpD_memN, ltC_int, leC_int, isC_bl, idxD_tup, idxD_lst, idxD_hnd, blt_len, blt_abs, blt_int, blt_min2, blt_max2, len1_tup, len1_lst, absD_int, intD_int, min2D_int, max2D_int, items_tup, items_lst, bli_all, bli_any, bli_sum, bli_tupL, bli_tupT, bools_nil, bools_cons, slc_scr, slc_tup, slc_lst, kDct_nil, kLam_exc, kUnp_two, ls5, ls6, tvb, kTup, kLst, kBin2, kBin, kNot, kCmp2, kCmp, kChn4, kChn3, kChn2, kChn, kIte, kIdx2, kIdx, kSlc2, kSlc, kCall, kBlt, kIsi, kSh, kComp, kCons3, kCons2, kCons, kPons2, kPons, kRons2, kRons, kTnot, kTand, kTor, kTru, kRng, kSet, kPar, kSix2, kSix, kEx, kIf, kFor, kWh2, kCmpL2, kCmpL1, kCmpL, kForS, List.set_cons_zero, List.set_cons_succ, List.any_cons, List.any_nil, Bool.or_false, Bool.or_true, Bool.not_true, Bool.not_false, Bool.true_and, Bool.false_and, Option.map_some, Option.map_none, Option.bind_some, Option.bind_none, if_true, if_false, Bool.false_eq_true, List.length_cons, List.length_nil, List.map_cons, List.map_nil, List.cons_append, List.nil_append, List.replicate_zero, List.replicate_succ, Nat.reduceSub, Nat.reduceAdd, Nat.reduceLT, Nat.reduceLeDiff, Int.reduceLT, Int.reduceLE, Int.reduceNeg, Int.reduceToNat, Int.reduceMul, Int.reduceAdd, Int.reducePow, reduceIte, List.length_map, decide_true, decide_false, Int.cast_ofNat_Int, Bool.and_true, Bool.and_false, Tg.slots, noOwn, List.all_cons, List.all_nil, Pf.wipe, Pf.restore, List.foldl_cons, List.foldl_nil, Pf.start]
theorem max_is (i : Int) : (if i > 1 then i else 1) = max 1 i := by omega
theorem washed_s (n : Nat) (l p q : Int) (hd) (h1 : 0 < q) (h2 : q < 1073741824) (h3 : mulOk l p = true) : callN T (n + 1) 10 [.int l, .tup [.int p, .int q]] hd = .ok (.val (.int (max 1 (l * p / q)))) hd := by
  rw [call_of (fn := t_washed) rfl rfl]
  simp only [rb_ok, rb_exc, rb_bad, rt_ok, rt_exc, sb_nx, sb_rt, sb_exc, ro_some, so_some, sh_val, sh_own, tvd_val, tvd_own, tvd_brw, cr_ok, cr_exc, ec_nx, ec_val, ec_own, ec_exc, ev_c, ev_v, ev_p, ev_q, rdSq_val, rdSq_lst, rdSl_val, rdSl_own, rdSv_val, rdSv_own, ev_tup, ev_lst, ev_dct, ev_bin, ev_neg, ev_not, ev_and, ev_or, ev_cmp, ev_cmp2, ev_ite, ev_idx, ev_slc, ev_call, ev_blt, ev_bli, ev_isi, ev_comp, ev_lam, evs_nil, evs_cons, evp_nil, evp_cons, evR_nil, evR_cons, evT_nil, evT_not, evT_and, evT_or, evT_tv, evO_nil, evO_tv, evI_rng, evI_tv, evSh_eq, compL_nil, compL_cons, ex_skip, ex_seq, ex_set, ex_unp, ex_par, ex_six, ex_app, kApp0_own, kApp_eq, kApp1_own, ex_ex, ex_ret, ex_if, ex_for, ex_wh, ex_rse0, ex_mkh, forL_nil, forL_cons, kRet_val, kRet_own, kAnd_bl, kOr_bl, kNeg_int, kOpt_int, putV_val, putV_own, putX_nil, putX_nm, kBli_val, kBli_own, kItm_val, kItm_own, kComp2_ok, kMkh_ok, gz, gs, st_env, st_hd, at0, at1, at2, at3, at4, pl1, pl2, pl3, pl4, eq_int, has0, ls0, ls1, ls2, ls3, ls4, typed_non, isTy_non_int, isTy_non_bool, isTy_non_str, isTy_non_tup, isTy_non_lst, isTy_non_dic, typed_bl, isTy_bl_int, isTy_bl_bool, isTy_bl_str, isTy_bl_tup, isTy_bl_lst, isTy_bl_dic, typed_int, isTy_int_int, isTy_int_bool, isTy_int_str, isTy_int_tup, isTy_int_lst, isTy_int_dic, typed_str, isTy_str_int, isTy_str_bool, isTy_str_str, isTy_str_tup, isTy_str_lst, isTy_str_dic, typed_tup, isTy_tup_int, isTy_tup_bool, isTy_tup_str, isTy_tup_tup, isTy_tup_lst, isTy_tup_dic, typed_lst, isTy_lst_int, isTy_lst_bool, isTy_lst_str, isTy_lst_tup, isTy_lst_lst, isTy_lst_dic, typed_dic, isTy_dic_int, isTy_dic_bool, isTy_dic_str, isTy_dic_tup, isTy_dic_lst, isTy_dic_dic, truth_non, truth_bl, truth_int, truth_tup, truth_lst, binD_add, binD_sub, binD_mul, binD_fdiv, binD_mod, binD_pow, binD_shl, addD_int, subD_int, mulD_int, fdivD_int, modD_int, addD_lst, addD_tup, cmpD_eq, cmpD_ne, cmpD_lt, cmpD_le, cmpD_gt, cmpD_ge, cmpD_is, cmpD_isN, cmpD_mem, cmpD_memN, ltC_int, leC_int, isC_bl, idxD_tup, idxD_lst, idxD_hnd, blt_len, blt_abs, blt_int, blt_min2, blt_max2, len1_tup, len1_lst, absD_int, intD_int, min2D_int, max2D_int, items_tup, items_lst, bli_all, bli_any, bli_sum, bli_tupL, bli_tupT, bools_nil, bools_cons, slc_scr, slc_tup, slc_lst, kDct_nil, kLam_exc, kUnp_two, ls5, ls6, tvb, kTup, kLst, kBin2, kBin, kNot, kCmp2, kCmp, kChn4, kChn3, kChn2, kChn, kIte, kIdx2, kIdx, kSlc2, kSlc, kCall, kBlt, kIsi, kSh, kComp, kCons3, kCons2, kCons, kPons2, kPons, kRons2, kRons, kTnot, kTand, kTor, kTru, kRng, kSet, kPar, kSix2, kSix, kEx, kIf, kFor, kWh2, kCmpL2, kCmpL1, kCmpL, kForS, List.set_cons_zero, List.set_cons_succ, List.any_cons, List.any_nil, Bool.or_false, Bool.or_true, Bool.not_true, Bool.not_false, Bool.true_and, Bool.false_and, Option.map_some, Option.map_none, Option.bind_some, Option.bind_none, if_true, if_false, Bool.false_eq_true, List.length_cons, List.length_nil, List.map_cons, List.map_nil, List.cons_append, List.nil_append, List.replicate_zero, List.replicate_succ, Nat.reduceSub, Nat.reduceAdd, Nat.reduceLT, Nat.reduceLeDiff, Int.reduceLT, Int.reduceLE, Int.reduceNeg, Int.reduceToNat, Int.reduceMul, Int.reduceAdd, Int.reducePow, reduceIte, List.length_map, decide_true, decide_false, Int.cast_ofNat_Int, Bool.and_true, Bool.and_false, Tg.slots, noOwn, List.all_cons, List.all_nil, Pf.wipe, Pf.restore, List.foldl_cons, List.foldl_nil, Pf.start, t_washed, h3, h1, h2, and_self, max_is]
/-- the law's hand -/
def HI (h : List D) : Prop := ∃ (cs : List Int) (p b s k : Int), h = [.lst (cs.map .int), .int p, .int b, .int s, .int k] ∧ 0 ≤ p ∧ 0 ≤ b ∧ 0 ≤ s ∧ 0 ≤ k ∧ ∀ c ∈ cs, 0 ≤ c
theorem mulR (i j : Int) (h1 : -(2 ^ 64) < j) (h2 : j < 2 ^ 64) : mulOk i j = true := by
  unfold mulOk; rw [decide_eq_true h1, decide_eq_true h2]; simp
theorem mulL (i j : Int) (h1 : -(2 ^ 64) < i) (h2 : i < 2 ^ 64) : mulOk i j = true := by
  unfold mulOk; rw [decide_eq_true h1, decide_eq_true h2]; simp
theorem truthT : truth (.bl true) = some true := rfl
theorem truthF : truth (.bl false) = some false := rfl
def tailOf : Pf.S → Pf.S
  | .seq _ b => b
  | s => s
theorem six_h {C : Cn} {i : Nat} {j : Int} {e : E} {d : D} {ds : List D} {env : List Slot} : (ev C (.c (.int j)) ⟨env, some ds⟩).toS (kSix2 i d) = SR.of (putIx i (.int j) d ⟨env, some ds⟩) := rfl
theorem hput {j : Int} {d : D} {ds : List D} {l : List Slot} : putIx 0 (.int j) d ⟨.val .hnd :: l, some ds⟩ = (place ds.length j).map fun m => ⟨.val .hnd :: l, some (ds.set m d)⟩ := rfl
/-- the draw's end -/
theorem draw_tail (C : Cn) (h : List D) (hi : HI h) (m : Int) (m0 : 0 < m) (m1 : m < 1073741824) (x : Slot) : ∃ r h', endC (ex C (tailOf t__law_draw.body) ⟨[.val .hnd, .val (.int m), x, .un, .un], some h⟩) = .ok (.val (.int r)) (some h') ∧ HI h' ∧ 0 ≤ r ∧ r < m := by
  obtain ⟨cs, p, b, s, k, rfl, hp, hb, hs, hk, hc⟩ := hi
  by_cases b0 : 0 < b
  · refine ⟨b % m, [.lst (cs.map .int), .int p, .int (b / m), .int s, .int k], ?_, ⟨cs, p, b / m, s, k, rfl, hp, Int.ediv_nonneg hb (by omega), hs, hk, hc⟩, Int.emod_nonneg _ (by omega), Int.emod_lt_of_pos _ m0⟩
    simp only [rb_ok, rb_exc, rb_bad, rt_ok, rt_exc, sb_nx, sb_rt, sb_exc, ro_some, so_some, sh_val, sh_own, tvd_val, tvd_own, tvd_brw, cr_ok, cr_exc, ec_nx, ec_val, ec_own, ec_exc, ev_c, ev_v, ev_p, ev_q, rdSq_val, rdSq_lst, rdSl_val, rdSl_own, rdSv_val, rdSv_own, ev_tup, ev_lst, ev_dct, ev_bin, ev_neg, ev_not, ev_and, ev_or, ev_cmp, ev_cmp2, ev_ite, ev_idx, ev_slc, ev_call, ev_blt, ev_bli, ev_isi, ev_comp, ev_lam, evs_nil, evs_cons, evp_nil, evp_cons, evR_nil, evR_cons, evT_nil, evT_not, evT_and, evT_or, evT_tv, evO_nil, evO_tv, evI_rng, evI_tv, evSh_eq, compL_nil, compL_cons, ex_skip, ex_seq, ex_set, ex_unp, ex_par, ex_six, ex_app, kApp0_own, kApp_eq, kApp1_own, ex_ex, ex_ret, ex_if, ex_for, ex_wh, ex_rse0, ex_mkh, forL_nil, forL_cons, kRet_val, kRet_own, kAnd_bl, kOr_bl, kNeg_int, kOpt_int, putV_val, putV_own, putX_nil, putX_nm, kBli_val, kBli_own, kItm_val, kItm_own, kComp2_ok, kMkh_ok, gz, gs, st_env, st_hd, at0, at1, at2, at3, at4, pl1, pl2, pl3, pl4, eq_int, has0, ls0, ls1, ls2, ls3, ls4, typed_non, isTy_non_int, isTy_non_bool, isTy_non_str, isTy_non_tup, isTy_non_lst, isTy_non_dic, typed_bl, isTy_bl_int, isTy_bl_bool, isTy_bl_str, isTy_bl_tup, isTy_bl_lst, isTy_bl_dic, typed_int, isTy_int_int, isTy_int_bool, isTy_int_str, isTy_int_tup, isTy_int_lst, isTy_int_dic, typed_str, isTy_str_int, isTy_str_bool, isTy_str_str, isTy_str_tup, isTy_str_lst, isTy_str_dic, typed_tup, isTy_tup_int, isTy_tup_bool, isTy_tup_str, isTy_tup_tup, isTy_tup_lst, isTy_tup_dic, typed_lst, isTy_lst_int, isTy_lst_bool, isTy_lst_str, isTy_lst_tup, isTy_lst_lst, isTy_lst_dic, typed_dic, isTy_dic_int, isTy_dic_bool, isTy_dic_str, isTy_dic_tup, isTy_dic_lst, isTy_dic_dic, truth_non, truth_bl, truth_int, truth_tup, truth_lst, binD_add, binD_sub, binD_mul, binD_fdiv, binD_mod, binD_pow, binD_shl, addD_int, subD_int, mulD_int, fdivD_int, modD_int, addD_lst, addD_tup, cmpD_eq, cmpD_ne, cmpD_lt, cmpD_le, cmpD_gt, cmpD_ge, cmpD_is, cmpD_isN, cmpD_mem, cmpD_memN, ltC_int, leC_int, isC_bl, idxD_tup, idxD_lst, idxD_hnd, blt_len, blt_abs, blt_int, blt_min2, blt_max2, len1_tup, len1_lst, absD_int, intD_int, min2D_int, max2D_int, items_tup, items_lst, bli_all, bli_any, bli_sum, bli_tupL, bli_tupT, bools_nil, bools_cons, slc_scr, slc_tup, slc_lst, kDct_nil, kLam_exc, kUnp_two, ls5, ls6, tvb, kTup, kLst, kBin2, kBin, kNot, kCmp2, kCmp, kChn4, kChn3, kChn2, kChn, kIte, kIdx2, kIdx, kSlc2, kSlc, kCall, kBlt, kIsi, kSh, kComp, kCons3, kCons2, kCons, kPons2, kPons, kRons2, kRons, kTnot, kTand, kTor, kTru, kRng, kSet, kPar, kSix2, kSix, kEx, kIf, kFor, kWh2, kCmpL2, kCmpL1, kCmpL, kForS, List.set_cons_zero, List.set_cons_succ, List.any_cons, List.any_nil, Bool.or_false, Bool.or_true, Bool.not_true, Bool.not_false, Bool.true_and, Bool.false_and, Option.map_some, Option.map_none, Option.bind_some, Option.bind_none, if_true, if_false, Bool.false_eq_true, List.length_cons, List.length_nil, List.map_cons, List.map_nil, List.cons_append, List.nil_append, List.replicate_zero, List.replicate_succ, Nat.reduceSub, Nat.reduceAdd, Nat.reduceLT, Nat.reduceLeDiff, Int.reduceLT, Int.reduceLE, Int.reduceNeg, Int.reduceToNat, Int.reduceMul, Int.reduceAdd, Int.reducePow, reduceIte, List.length_map, decide_true, decide_false, Int.cast_ofNat_Int, Bool.and_true, Bool.and_false, Tg.slots, noOwn, List.all_cons, List.all_nil, Pf.wipe, Pf.restore, List.foldl_cons, List.foldl_nil, Pf.start, t__law_draw, tailOf, decide_eq_true b0, m0, m1, and_self, hput]
  · have b1 : decide (0 < b) = false := decide_eq_false b0
    obtain ⟨x1, hx1⟩ : ∃ x1, x1 = (s + 7919 * (k + 1)) * 48271 % 2147483647 := ⟨_, rfl⟩
    have x1a : 0 ≤ x1 ∧ x1 < 2147483647 := by omega
    obtain ⟨x2, hx2⟩ : ∃ x2, x2 = x1 * (x1 / 1009 + 69621) % 2147483647 := ⟨_, rfl⟩
    have x2a : 0 ≤ x2 ∧ x2 < 2147483647 := by omega
    obtain ⟨x3, hx3⟩ : ∃ x3, x3 = x2 * (x2 / 2003 + 40014) % 2147483563 := ⟨_, rfl⟩
    refine ⟨x3 / 16 % m, [.lst (cs.map .int), .int p, .int b, .int s, .int (k + 1)], ?_, ⟨cs, p, b, s, k + 1, rfl, hp, hb, hs, by omega, hc⟩, Int.emod_nonneg _ (by omega), Int.emod_lt_of_pos _ m0⟩
    have q1 : mulOk 7919 (k + 1) = true := mulL _ _ (by decide) (by decide)
    have q2 : mulOk (s + 7919 * (k + 1)) 48271 = true := mulR _ _ (by decide) (by decide)
    have q3 : mulOk x1 (x1 / 1009 + 69621) = true := mulL _ _ (by omega) (by omega)
    have q4 : mulOk x2 (x2 / 2003 + 40014) = true := mulL _ _ (by omega) (by omega)
    simp only [rb_ok, rb_exc, rb_bad, rt_ok, rt_exc, sb_nx, sb_rt, sb_exc, ro_some, so_some, sh_val, sh_own, tvd_val, tvd_own, tvd_brw, cr_ok, cr_exc, ec_nx, ec_val, ec_own, ec_exc, ev_c, ev_v, ev_p, ev_q, rdSq_val, rdSq_lst, rdSl_val, rdSl_own, rdSv_val, rdSv_own, ev_tup, ev_lst, ev_dct, ev_bin, ev_neg, ev_not, ev_and, ev_or, ev_cmp, ev_cmp2, ev_ite, ev_idx, ev_slc, ev_call, ev_blt, ev_bli, ev_isi, ev_comp, ev_lam, evs_nil, evs_cons, evp_nil, evp_cons, evR_nil, evR_cons, evT_nil, evT_not, evT_and, evT_or, evT_tv, evO_nil, evO_tv, evI_rng, evI_tv, evSh_eq, compL_nil, compL_cons, ex_skip, ex_seq, ex_set, ex_unp, ex_par, ex_six, ex_app, kApp0_own, kApp_eq, kApp1_own, ex_ex, ex_ret, ex_if, ex_for, ex_wh, ex_rse0, ex_mkh, forL_nil, forL_cons, kRet_val, kRet_own, kAnd_bl, kOr_bl, kNeg_int, kOpt_int, putV_val, putV_own, putX_nil, putX_nm, kBli_val, kBli_own, kItm_val, kItm_own, kComp2_ok, kMkh_ok, gz, gs, st_env, st_hd, at0, at1, at2, at3, at4, pl1, pl2, pl3, pl4, eq_int, has0, ls0, ls1, ls2, ls3, ls4, typed_non, isTy_non_int, isTy_non_bool, isTy_non_str, isTy_non_tup, isTy_non_lst, isTy_non_dic, typed_bl, isTy_bl_int, isTy_bl_bool, isTy_bl_str, isTy_bl_tup, isTy_bl_lst, isTy_bl_dic, typed_int, isTy_int_int, isTy_int_bool, isTy_int_str, isTy_int_tup, isTy_int_lst, isTy_int_dic, typed_str, isTy_str_int, isTy_str_bool, isTy_str_str, isTy_str_tup, isTy_str_lst, isTy_str_dic, typed_tup, isTy_tup_int, isTy_tup_bool, isTy_tup_str, isTy_tup_tup, isTy_tup_lst, isTy_tup_dic, typed_lst, isTy_lst_int, isTy_lst_bool, isTy_lst_str, isTy_lst_tup, isTy_lst_lst, isTy_lst_dic, typed_dic, isTy_dic_int, isTy_dic_bool, isTy_dic_str, isTy_dic_tup, isTy_dic_lst, isTy_dic_dic, truth_non, truth_bl, truth_int, truth_tup, truth_lst, binD_add, binD_sub, binD_mul, binD_fdiv, binD_mod, binD_pow, binD_shl, addD_int, subD_int, mulD_int, fdivD_int, modD_int, addD_lst, addD_tup, cmpD_eq, cmpD_ne, cmpD_lt, cmpD_le, cmpD_gt, cmpD_ge, cmpD_is, cmpD_isN, cmpD_mem, cmpD_memN, ltC_int, leC_int, isC_bl, idxD_tup, idxD_lst, idxD_hnd, blt_len, blt_abs, blt_int, blt_min2, blt_max2, len1_tup, len1_lst, absD_int, intD_int, min2D_int, max2D_int, items_tup, items_lst, bli_all, bli_any, bli_sum, bli_tupL, bli_tupT, bools_nil, bools_cons, slc_scr, slc_tup, slc_lst, kDct_nil, kLam_exc, kUnp_two, ls5, ls6, tvb, kTup, kLst, kBin2, kBin, kNot, kCmp2, kCmp, kChn4, kChn3, kChn2, kChn, kIte, kIdx2, kIdx, kSlc2, kSlc, kCall, kBlt, kIsi, kSh, kComp, kCons3, kCons2, kCons, kPons2, kPons, kRons2, kRons, kTnot, kTand, kTor, kTru, kRng, kSet, kPar, kSix2, kSix, kEx, kIf, kFor, kWh2, kCmpL2, kCmpL1, kCmpL, kForS, List.set_cons_zero, List.set_cons_succ, List.any_cons, List.any_nil, Bool.or_false, Bool.or_true, Bool.not_true, Bool.not_false, Bool.true_and, Bool.false_and, Option.map_some, Option.map_none, Option.bind_some, Option.bind_none, if_true, if_false, Bool.false_eq_true, List.length_cons, List.length_nil, List.map_cons, List.map_nil, List.cons_append, List.nil_append, List.replicate_zero, List.replicate_succ, Nat.reduceSub, Nat.reduceAdd, Nat.reduceLT, Nat.reduceLeDiff, Int.reduceLT, Int.reduceLE, Int.reduceNeg, Int.reduceToNat, Int.reduceMul, Int.reduceAdd, Int.reducePow, reduceIte, List.length_map, decide_true, decide_false, Int.cast_ofNat_Int, Bool.and_true, Bool.and_false, Tg.slots, noOwn, List.all_cons, List.all_nil, Pf.wipe, Pf.restore, List.foldl_cons, List.foldl_nil, Pf.start, t__law_draw, tailOf, b1, m0, m1, and_self, hput, q1, q2, ← hx1, q3, ← hx2, q4, ← hx3]
def headOf : Pf.S → Pf.S
  | .seq a _ => a
  | s => s
theorem atD_ints {cs : List Int} {p : Int} (h0 : 0 ≤ p) (h1 : p < cs.length) : ∃ c ∈ cs, atD (cs.map D.int) p = some (.int c) := by
  have hp : p.toNat < cs.length := by omega
  refine ⟨cs[p.toNat], List.getElem_mem hp, ?_⟩
  unfold atD place
  rw [if_pos h0, if_pos (by rw [List.length_map]; exact h1)]
  show (cs.map D.int)[p.toNat]? = _
  rw [List.getElem?_map, List.getElem?_eq_getElem hp]; rfl
theorem pow18 : powD (.int 10) (.int 18) = some (.val (.int 1000000000000000000)) := rfl
theorem draw_head (C : Cn) (h : List D) (hi : HI h) (m : Int) : ∃ x h', ex C (headOf t__law_draw.body) ⟨[.val .hnd, .val (.int m), .un, .un, .un], some h⟩ = .nx ⟨[.val .hnd, .val (.int m), x, .un, .un], some h'⟩ ∧ HI h' := by
  obtain ⟨cs, p, b, s, k, rfl, hp, hb, hs, hk, hc⟩ := hi
  by_cases c1 : b = 0
  · by_cases c2 : p < (cs.length : Int)
    · obtain ⟨c, cm, ec⟩ := atD_ints hp c2
      have c0 := hc c cm
      have q1 : mulOk s 69621 = true := mulR _ _ (by decide) (by decide)
      have q2 : mulOk c 40692 = true := mulR _ _ (by decide) (by decide)
      by_cases c3 : 1000000000000000000 ≤ c
      · refine ⟨.val (.int c), [.lst (cs.map .int), .int (p + 1), .int c, .int ((s * 69621 + c * 40692 + 17) % 2147483629), .int k], ?_, ⟨cs, _, c, _, k, rfl, by omega, c0, by omega, hk, hc⟩⟩
        simp only [rb_ok, rb_exc, rb_bad, rt_ok, rt_exc, sb_nx, sb_rt, sb_exc, ro_some, so_some, sh_val, sh_own, tvd_val, tvd_own, tvd_brw, cr_ok, cr_exc, ec_nx, ec_val, ec_own, ec_exc, ev_c, ev_v, ev_p, ev_q, rdSq_val, rdSq_lst, rdSl_val, rdSl_own, rdSv_val, rdSv_own, ev_tup, ev_lst, ev_dct, ev_bin, ev_neg, ev_not, ev_and, ev_or, ev_cmp, ev_cmp2, ev_ite, ev_idx, ev_slc, ev_call, ev_blt, ev_bli, ev_isi, ev_comp, ev_lam, evs_nil, evs_cons, evp_nil, evp_cons, evR_nil, evR_cons, evT_nil, evT_not, evT_and, evT_or, evT_tv, evO_nil, evO_tv, evI_rng, evI_tv, evSh_eq, compL_nil, compL_cons, ex_skip, ex_seq, ex_set, ex_unp, ex_par, ex_six, ex_app, kApp0_own, kApp_eq, kApp1_own, ex_ex, ex_ret, ex_if, ex_for, ex_wh, ex_rse0, ex_mkh, forL_nil, forL_cons, kRet_val, kRet_own, kAnd_bl, kOr_bl, kNeg_int, kOpt_int, putV_val, putV_own, putX_nil, putX_nm, kBli_val, kBli_own, kItm_val, kItm_own, kComp2_ok, kMkh_ok, gz, gs, st_env, st_hd, at0, at1, at2, at3, at4, pl1, pl2, pl3, pl4, eq_int, has0, ls0, ls1, ls2, ls3, ls4, typed_non, isTy_non_int, isTy_non_bool, isTy_non_str, isTy_non_tup, isTy_non_lst, isTy_non_dic, typed_bl, isTy_bl_int, isTy_bl_bool, isTy_bl_str, isTy_bl_tup, isTy_bl_lst, isTy_bl_dic, typed_int, isTy_int_int, isTy_int_bool, isTy_int_str, isTy_int_tup, isTy_int_lst, isTy_int_dic, typed_str, isTy_str_int, isTy_str_bool, isTy_str_str, isTy_str_tup, isTy_str_lst, isTy_str_dic, typed_tup, isTy_tup_int, isTy_tup_bool, isTy_tup_str, isTy_tup_tup, isTy_tup_lst, isTy_tup_dic, typed_lst, isTy_lst_int, isTy_lst_bool, isTy_lst_str, isTy_lst_tup, isTy_lst_lst, isTy_lst_dic, typed_dic, isTy_dic_int, isTy_dic_bool, isTy_dic_str, isTy_dic_tup, isTy_dic_lst, isTy_dic_dic, truth_non, truth_bl, truth_int, truth_tup, truth_lst, binD_add, binD_sub, binD_mul, binD_fdiv, binD_mod, binD_pow, binD_shl, addD_int, subD_int, mulD_int, fdivD_int, modD_int, addD_lst, addD_tup, cmpD_eq, cmpD_ne, cmpD_lt, cmpD_le, cmpD_gt, cmpD_ge, cmpD_is, cmpD_isN, cmpD_mem, cmpD_memN, ltC_int, leC_int, isC_bl, idxD_tup, idxD_lst, idxD_hnd, blt_len, blt_abs, blt_int, blt_min2, blt_max2, len1_tup, len1_lst, absD_int, intD_int, min2D_int, max2D_int, items_tup, items_lst, bli_all, bli_any, bli_sum, bli_tupL, bli_tupT, bools_nil, bools_cons, slc_scr, slc_tup, slc_lst, kDct_nil, kLam_exc, kUnp_two, ls5, ls6, tvb, kTup, kLst, kBin2, kBin, kNot, kCmp2, kCmp, kChn4, kChn3, kChn2, kChn, kIte, kIdx2, kIdx, kSlc2, kSlc, kCall, kBlt, kIsi, kSh, kComp, kCons3, kCons2, kCons, kPons2, kPons, kRons2, kRons, kTnot, kTand, kTor, kTru, kRng, kSet, kPar, kSix2, kSix, kEx, kIf, kFor, kWh2, kCmpL2, kCmpL1, kCmpL, kForS, List.set_cons_zero, List.set_cons_succ, List.any_cons, List.any_nil, Bool.or_false, Bool.or_true, Bool.not_true, Bool.not_false, Bool.true_and, Bool.false_and, Option.map_some, Option.map_none, Option.bind_some, Option.bind_none, if_true, if_false, Bool.false_eq_true, List.length_cons, List.length_nil, List.map_cons, List.map_nil, List.cons_append, List.nil_append, List.replicate_zero, List.replicate_succ, Nat.reduceSub, Nat.reduceAdd, Nat.reduceLT, Nat.reduceLeDiff, Int.reduceLT, Int.reduceLE, Int.reduceNeg, Int.reduceToNat, Int.reduceMul, Int.reduceAdd, Int.reducePow, reduceIte, List.length_map, decide_true, decide_false, Int.cast_ofNat_Int, Bool.and_true, Bool.and_false, Tg.slots, noOwn, List.all_cons, List.all_nil, Pf.wipe, Pf.restore, List.foldl_cons, List.foldl_nil, Pf.start, t__law_draw, headOf, eq_int, decide_eq_true c1, decide_eq_true c2, ec, q1, q2, hput, pow18, decide_eq_true c3]
      · refine ⟨.val (.int c), [.lst (cs.map .int), .int (p + 1), .int b, .int ((s * 69621 + c * 40692 + 17) % 2147483629), .int k], ?_, ⟨cs, _, b, _, k, rfl, by omega, hb, by omega, hk, hc⟩⟩
        simp only [rb_ok, rb_exc, rb_bad, rt_ok, rt_exc, sb_nx, sb_rt, sb_exc, ro_some, so_some, sh_val, sh_own, tvd_val, tvd_own, tvd_brw, cr_ok, cr_exc, ec_nx, ec_val, ec_own, ec_exc, ev_c, ev_v, ev_p, ev_q, rdSq_val, rdSq_lst, rdSl_val, rdSl_own, rdSv_val, rdSv_own, ev_tup, ev_lst, ev_dct, ev_bin, ev_neg, ev_not, ev_and, ev_or, ev_cmp, ev_cmp2, ev_ite, ev_idx, ev_slc, ev_call, ev_blt, ev_bli, ev_isi, ev_comp, ev_lam, evs_nil, evs_cons, evp_nil, evp_cons, evR_nil, evR_cons, evT_nil, evT_not, evT_and, evT_or, evT_tv, evO_nil, evO_tv, evI_rng, evI_tv, evSh_eq, compL_nil, compL_cons, ex_skip, ex_seq, ex_set, ex_unp, ex_par, ex_six, ex_app, kApp0_own, kApp_eq, kApp1_own, ex_ex, ex_ret, ex_if, ex_for, ex_wh, ex_rse0, ex_mkh, forL_nil, forL_cons, kRet_val, kRet_own, kAnd_bl, kOr_bl, kNeg_int, kOpt_int, putV_val, putV_own, putX_nil, putX_nm, kBli_val, kBli_own, kItm_val, kItm_own, kComp2_ok, kMkh_ok, gz, gs, st_env, st_hd, at0, at1, at2, at3, at4, pl1, pl2, pl3, pl4, eq_int, has0, ls0, ls1, ls2, ls3, ls4, typed_non, isTy_non_int, isTy_non_bool, isTy_non_str, isTy_non_tup, isTy_non_lst, isTy_non_dic, typed_bl, isTy_bl_int, isTy_bl_bool, isTy_bl_str, isTy_bl_tup, isTy_bl_lst, isTy_bl_dic, typed_int, isTy_int_int, isTy_int_bool, isTy_int_str, isTy_int_tup, isTy_int_lst, isTy_int_dic, typed_str, isTy_str_int, isTy_str_bool, isTy_str_str, isTy_str_tup, isTy_str_lst, isTy_str_dic, typed_tup, isTy_tup_int, isTy_tup_bool, isTy_tup_str, isTy_tup_tup, isTy_tup_lst, isTy_tup_dic, typed_lst, isTy_lst_int, isTy_lst_bool, isTy_lst_str, isTy_lst_tup, isTy_lst_lst, isTy_lst_dic, typed_dic, isTy_dic_int, isTy_dic_bool, isTy_dic_str, isTy_dic_tup, isTy_dic_lst, isTy_dic_dic, truth_non, truth_bl, truth_int, truth_tup, truth_lst, binD_add, binD_sub, binD_mul, binD_fdiv, binD_mod, binD_pow, binD_shl, addD_int, subD_int, mulD_int, fdivD_int, modD_int, addD_lst, addD_tup, cmpD_eq, cmpD_ne, cmpD_lt, cmpD_le, cmpD_gt, cmpD_ge, cmpD_is, cmpD_isN, cmpD_mem, cmpD_memN, ltC_int, leC_int, isC_bl, idxD_tup, idxD_lst, idxD_hnd, blt_len, blt_abs, blt_int, blt_min2, blt_max2, len1_tup, len1_lst, absD_int, intD_int, min2D_int, max2D_int, items_tup, items_lst, bli_all, bli_any, bli_sum, bli_tupL, bli_tupT, bools_nil, bools_cons, slc_scr, slc_tup, slc_lst, kDct_nil, kLam_exc, kUnp_two, ls5, ls6, tvb, kTup, kLst, kBin2, kBin, kNot, kCmp2, kCmp, kChn4, kChn3, kChn2, kChn, kIte, kIdx2, kIdx, kSlc2, kSlc, kCall, kBlt, kIsi, kSh, kComp, kCons3, kCons2, kCons, kPons2, kPons, kRons2, kRons, kTnot, kTand, kTor, kTru, kRng, kSet, kPar, kSix2, kSix, kEx, kIf, kFor, kWh2, kCmpL2, kCmpL1, kCmpL, kForS, List.set_cons_zero, List.set_cons_succ, List.any_cons, List.any_nil, Bool.or_false, Bool.or_true, Bool.not_true, Bool.not_false, Bool.true_and, Bool.false_and, Option.map_some, Option.map_none, Option.bind_some, Option.bind_none, if_true, if_false, Bool.false_eq_true, List.length_cons, List.length_nil, List.map_cons, List.map_nil, List.cons_append, List.nil_append, List.replicate_zero, List.replicate_succ, Nat.reduceSub, Nat.reduceAdd, Nat.reduceLT, Nat.reduceLeDiff, Int.reduceLT, Int.reduceLE, Int.reduceNeg, Int.reduceToNat, Int.reduceMul, Int.reduceAdd, Int.reducePow, reduceIte, List.length_map, decide_true, decide_false, Int.cast_ofNat_Int, Bool.and_true, Bool.and_false, Tg.slots, noOwn, List.all_cons, List.all_nil, Pf.wipe, Pf.restore, List.foldl_cons, List.foldl_nil, Pf.start, t__law_draw, headOf, eq_int, decide_eq_true c1, decide_eq_true c2, ec, q1, q2, hput, pow18, decide_eq_false c3]
    · refine ⟨.un, _, ?_, ⟨cs, p, b, s, k, rfl, hp, hb, hs, hk, hc⟩⟩
      simp only [rb_ok, rb_exc, rb_bad, rt_ok, rt_exc, sb_nx, sb_rt, sb_exc, ro_some, so_some, sh_val, sh_own, tvd_val, tvd_own, tvd_brw, cr_ok, cr_exc, ec_nx, ec_val, ec_own, ec_exc, ev_c, ev_v, ev_p, ev_q, rdSq_val, rdSq_lst, rdSl_val, rdSl_own, rdSv_val, rdSv_own, ev_tup, ev_lst, ev_dct, ev_bin, ev_neg, ev_not, ev_and, ev_or, ev_cmp, ev_cmp2, ev_ite, ev_idx, ev_slc, ev_call, ev_blt, ev_bli, ev_isi, ev_comp, ev_lam, evs_nil, evs_cons, evp_nil, evp_cons, evR_nil, evR_cons, evT_nil, evT_not, evT_and, evT_or, evT_tv, evO_nil, evO_tv, evI_rng, evI_tv, evSh_eq, compL_nil, compL_cons, ex_skip, ex_seq, ex_set, ex_unp, ex_par, ex_six, ex_app, kApp0_own, kApp_eq, kApp1_own, ex_ex, ex_ret, ex_if, ex_for, ex_wh, ex_rse0, ex_mkh, forL_nil, forL_cons, kRet_val, kRet_own, kAnd_bl, kOr_bl, kNeg_int, kOpt_int, putV_val, putV_own, putX_nil, putX_nm, kBli_val, kBli_own, kItm_val, kItm_own, kComp2_ok, kMkh_ok, gz, gs, st_env, st_hd, at0, at1, at2, at3, at4, pl1, pl2, pl3, pl4, eq_int, has0, ls0, ls1, ls2, ls3, ls4, typed_non, isTy_non_int, isTy_non_bool, isTy_non_str, isTy_non_tup, isTy_non_lst, isTy_non_dic, typed_bl, isTy_bl_int, isTy_bl_bool, isTy_bl_str, isTy_bl_tup, isTy_bl_lst, isTy_bl_dic, typed_int, isTy_int_int, isTy_int_bool, isTy_int_str, isTy_int_tup, isTy_int_lst, isTy_int_dic, typed_str, isTy_str_int, isTy_str_bool, isTy_str_str, isTy_str_tup, isTy_str_lst, isTy_str_dic, typed_tup, isTy_tup_int, isTy_tup_bool, isTy_tup_str, isTy_tup_tup, isTy_tup_lst, isTy_tup_dic, typed_lst, isTy_lst_int, isTy_lst_bool, isTy_lst_str, isTy_lst_tup, isTy_lst_lst, isTy_lst_dic, typed_dic, isTy_dic_int, isTy_dic_bool, isTy_dic_str, isTy_dic_tup, isTy_dic_lst, isTy_dic_dic, truth_non, truth_bl, truth_int, truth_tup, truth_lst, binD_add, binD_sub, binD_mul, binD_fdiv, binD_mod, binD_pow, binD_shl, addD_int, subD_int, mulD_int, fdivD_int, modD_int, addD_lst, addD_tup, cmpD_eq, cmpD_ne, cmpD_lt, cmpD_le, cmpD_gt, cmpD_ge, cmpD_is, cmpD_isN, cmpD_mem, cmpD_memN, ltC_int, leC_int, isC_bl, idxD_tup, idxD_lst, idxD_hnd, blt_len, blt_abs, blt_int, blt_min2, blt_max2, len1_tup, len1_lst, absD_int, intD_int, min2D_int, max2D_int, items_tup, items_lst, bli_all, bli_any, bli_sum, bli_tupL, bli_tupT, bools_nil, bools_cons, slc_scr, slc_tup, slc_lst, kDct_nil, kLam_exc, kUnp_two, ls5, ls6, tvb, kTup, kLst, kBin2, kBin, kNot, kCmp2, kCmp, kChn4, kChn3, kChn2, kChn, kIte, kIdx2, kIdx, kSlc2, kSlc, kCall, kBlt, kIsi, kSh, kComp, kCons3, kCons2, kCons, kPons2, kPons, kRons2, kRons, kTnot, kTand, kTor, kTru, kRng, kSet, kPar, kSix2, kSix, kEx, kIf, kFor, kWh2, kCmpL2, kCmpL1, kCmpL, kForS, List.set_cons_zero, List.set_cons_succ, List.any_cons, List.any_nil, Bool.or_false, Bool.or_true, Bool.not_true, Bool.not_false, Bool.true_and, Bool.false_and, Option.map_some, Option.map_none, Option.bind_some, Option.bind_none, if_true, if_false, Bool.false_eq_true, List.length_cons, List.length_nil, List.map_cons, List.map_nil, List.cons_append, List.nil_append, List.replicate_zero, List.replicate_succ, Nat.reduceSub, Nat.reduceAdd, Nat.reduceLT, Nat.reduceLeDiff, Int.reduceLT, Int.reduceLE, Int.reduceNeg, Int.reduceToNat, Int.reduceMul, Int.reduceAdd, Int.reducePow, reduceIte, List.length_map, decide_true, decide_false, Int.cast_ofNat_Int, Bool.and_true, Bool.and_false, Tg.slots, noOwn, List.all_cons, List.all_nil, Pf.wipe, Pf.restore, List.foldl_cons, List.foldl_nil, Pf.start, t__law_draw, headOf, eq_int, decide_eq_true c1, decide_eq_false c2]
  · refine ⟨.un, _, ?_, ⟨cs, p, b, s, k, rfl, hp, hb, hs, hk, hc⟩⟩
    simp only [rb_ok, rb_exc, rb_bad, rt_ok, rt_exc, sb_nx, sb_rt, sb_exc, ro_some, so_some, sh_val, sh_own, tvd_val, tvd_own, tvd_brw, cr_ok, cr_exc, ec_nx, ec_val, ec_own, ec_exc, ev_c, ev_v, ev_p, ev_q, rdSq_val, rdSq_lst, rdSl_val, rdSl_own, rdSv_val, rdSv_own, ev_tup, ev_lst, ev_dct, ev_bin, ev_neg, ev_not, ev_and, ev_or, ev_cmp, ev_cmp2, ev_ite, ev_idx, ev_slc, ev_call, ev_blt, ev_bli, ev_isi, ev_comp, ev_lam, evs_nil, evs_cons, evp_nil, evp_cons, evR_nil, evR_cons, evT_nil, evT_not, evT_and, evT_or, evT_tv, evO_nil, evO_tv, evI_rng, evI_tv, evSh_eq, compL_nil, compL_cons, ex_skip, ex_seq, ex_set, ex_unp, ex_par, ex_six, ex_app, kApp0_own, kApp_eq, kApp1_own, ex_ex, ex_ret, ex_if, ex_for, ex_wh, ex_rse0, ex_mkh, forL_nil, forL_cons, kRet_val, kRet_own, kAnd_bl, kOr_bl, kNeg_int, kOpt_int, putV_val, putV_own, putX_nil, putX_nm, kBli_val, kBli_own, kItm_val, kItm_own, kComp2_ok, kMkh_ok, gz, gs, st_env, st_hd, at0, at1, at2, at3, at4, pl1, pl2, pl3, pl4, eq_int, has0, ls0, ls1, ls2, ls3, ls4, typed_non, isTy_non_int, isTy_non_bool, isTy_non_str, isTy_non_tup, isTy_non_lst, isTy_non_dic, typed_bl, isTy_bl_int, isTy_bl_bool, isTy_bl_str, isTy_bl_tup, isTy_bl_lst, isTy_bl_dic, typed_int, isTy_int_int, isTy_int_bool, isTy_int_str, isTy_int_tup, isTy_int_lst, isTy_int_dic, typed_str, isTy_str_int, isTy_str_bool, isTy_str_str, isTy_str_tup, isTy_str_lst, isTy_str_dic, typed_tup, isTy_tup_int, isTy_tup_bool, isTy_tup_str, isTy_tup_tup, isTy_tup_lst, isTy_tup_dic, typed_lst, isTy_lst_int, isTy_lst_bool, isTy_lst_str, isTy_lst_tup, isTy_lst_lst, isTy_lst_dic, typed_dic, isTy_dic_int, isTy_dic_bool, isTy_dic_str, isTy_dic_tup, isTy_dic_lst, isTy_dic_dic, truth_non, truth_bl, truth_int, truth_tup, truth_lst, binD_add, binD_sub, binD_mul, binD_fdiv, binD_mod, binD_pow, binD_shl, addD_int, subD_int, mulD_int, fdivD_int, modD_int, addD_lst, addD_tup, cmpD_eq, cmpD_ne, cmpD_lt, cmpD_le, cmpD_gt, cmpD_ge, cmpD_is, cmpD_isN, cmpD_mem, cmpD_memN, ltC_int, leC_int, isC_bl, idxD_tup, idxD_lst, idxD_hnd, blt_len, blt_abs, blt_int, blt_min2, blt_max2, len1_tup, len1_lst, absD_int, intD_int, min2D_int, max2D_int, items_tup, items_lst, bli_all, bli_any, bli_sum, bli_tupL, bli_tupT, bools_nil, bools_cons, slc_scr, slc_tup, slc_lst, kDct_nil, kLam_exc, kUnp_two, ls5, ls6, tvb, kTup, kLst, kBin2, kBin, kNot, kCmp2, kCmp, kChn4, kChn3, kChn2, kChn, kIte, kIdx2, kIdx, kSlc2, kSlc, kCall, kBlt, kIsi, kSh, kComp, kCons3, kCons2, kCons, kPons2, kPons, kRons2, kRons, kTnot, kTand, kTor, kTru, kRng, kSet, kPar, kSix2, kSix, kEx, kIf, kFor, kWh2, kCmpL2, kCmpL1, kCmpL, kForS, List.set_cons_zero, List.set_cons_succ, List.any_cons, List.any_nil, Bool.or_false, Bool.or_true, Bool.not_true, Bool.not_false, Bool.true_and, Bool.false_and, Option.map_some, Option.map_none, Option.bind_some, Option.bind_none, if_true, if_false, Bool.false_eq_true, List.length_cons, List.length_nil, List.map_cons, List.map_nil, List.cons_append, List.nil_append, List.replicate_zero, List.replicate_succ, Nat.reduceSub, Nat.reduceAdd, Nat.reduceLT, Nat.reduceLeDiff, Int.reduceLT, Int.reduceLE, Int.reduceNeg, Int.reduceToNat, Int.reduceMul, Int.reduceAdd, Int.reducePow, reduceIte, List.length_map, decide_true, decide_false, Int.cast_ofNat_Int, Bool.and_true, Bool.and_false, Tg.slots, noOwn, List.all_cons, List.all_nil, Pf.wipe, Pf.restore, List.foldl_cons, List.foldl_nil, Pf.start, t__law_draw, headOf, eq_int, decide_eq_false c1]
theorem draw_s (n : Nat) (h : List D) (hi : HI h) (m : Int) (m0 : 0 < m) (m1 : m < 1073741824) : ∃ r h', callN T (n + 1) 16 [.hnd, .int m] (some h) = .ok (.val (.int r)) (some h') ∧ HI h' ∧ 0 ≤ r ∧ r < m := by
  obtain ⟨x, h1, e1, hi1⟩ := draw_head ⟨callN T n, T.ret, T.word⟩ h hi m
  obtain ⟨r, h', e2, q⟩ := draw_tail ⟨callN T n, T.ret, T.word⟩ h1 hi1 m m0 m1 x
  refine ⟨r, h', ?_, q⟩
  rw [call_of (fn := t__law_draw) rfl rfl, ← e2]
  show endC ((ex _ (headOf t__law_draw.body) ⟨[.val .hnd, .val (.int m), .un, .un, .un], some h⟩).bind _) = _
  rw [e1]; rfl
theorem any_s (n : Nat) (h : List D) (hi : HI h) (ds : List D) (d0 : 0 < ds.length) (d1 : ds.length < 1073741824) : ∃ d h', d ∈ ds ∧ callN T (n + 2) 17 [.hnd, .lst ds] (some h) = .ok (.val d) (some h') ∧ HI h' := by
  obtain ⟨r, h', e, hi', r0, r1⟩ := draw_s n h hi ds.length (by omega) (by omega)
  have hr : r.toNat < ds.length := by omega
  refine ⟨ds[r.toNat], h', List.getElem_mem hr, ?_, hi'⟩
  have ea : atD ds r = some ds[r.toNat] := by
    unfold atD place
    rw [if_pos r0, if_pos r1]
    exact List.getElem?_eq_getElem hr
  rw [call_of (fn := t__law_any) rfl rfl]
  simp only [rb_ok, rb_exc, rb_bad, rt_ok, rt_exc, sb_nx, sb_rt, sb_exc, ro_some, so_some, sh_val, sh_own, tvd_val, tvd_own, tvd_brw, cr_ok, cr_exc, ec_nx, ec_val, ec_own, ec_exc, ev_c, ev_v, ev_p, ev_q, rdSq_val, rdSq_lst, rdSl_val, rdSl_own, rdSv_val, rdSv_own, ev_tup, ev_lst, ev_dct, ev_bin, ev_neg, ev_not, ev_and, ev_or, ev_cmp, ev_cmp2, ev_ite, ev_idx, ev_slc, ev_call, ev_blt, ev_bli, ev_isi, ev_comp, ev_lam, evs_nil, evs_cons, evp_nil, evp_cons, evR_nil, evR_cons, evT_nil, evT_not, evT_and, evT_or, evT_tv, evO_nil, evO_tv, evI_rng, evI_tv, evSh_eq, compL_nil, compL_cons, ex_skip, ex_seq, ex_set, ex_unp, ex_par, ex_six, ex_app, kApp0_own, kApp_eq, kApp1_own, ex_ex, ex_ret, ex_if, ex_for, ex_wh, ex_rse0, ex_mkh, forL_nil, forL_cons, kRet_val, kRet_own, kAnd_bl, kOr_bl, kNeg_int, kOpt_int, putV_val, putV_own, putX_nil, putX_nm, kBli_val, kBli_own, kItm_val, kItm_own, kComp2_ok, kMkh_ok, gz, gs, st_env, st_hd, at0, at1, at2, at3, at4, pl1, pl2, pl3, pl4, eq_int, has0, ls0, ls1, ls2, ls3, ls4, typed_non, isTy_non_int, isTy_non_bool, isTy_non_str, isTy_non_tup, isTy_non_lst, isTy_non_dic, typed_bl, isTy_bl_int, isTy_bl_bool, isTy_bl_str, isTy_bl_tup, isTy_bl_lst, isTy_bl_dic, typed_int, isTy_int_int, isTy_int_bool, isTy_int_str, isTy_int_tup, isTy_int_lst, isTy_int_dic, typed_str, isTy_str_int, isTy_str_bool, isTy_str_str, isTy_str_tup, isTy_str_lst, isTy_str_dic, typed_tup, isTy_tup_int, isTy_tup_bool, isTy_tup_str, isTy_tup_tup, isTy_tup_lst, isTy_tup_dic, typed_lst, isTy_lst_int, isTy_lst_bool, isTy_lst_str, isTy_lst_tup, isTy_lst_lst, isTy_lst_dic, typed_dic, isTy_dic_int, isTy_dic_bool, isTy_dic_str, isTy_dic_tup, isTy_dic_lst, isTy_dic_dic, truth_non, truth_bl, truth_int, truth_tup, truth_lst, binD_add, binD_sub, binD_mul, binD_fdiv, binD_mod, binD_pow, binD_shl, addD_int, subD_int, mulD_int, fdivD_int, modD_int, addD_lst, addD_tup, cmpD_eq, cmpD_ne, cmpD_lt, cmpD_le, cmpD_gt, cmpD_ge, cmpD_is, cmpD_isN, cmpD_mem, cmpD_memN, ltC_int, leC_int, isC_bl, idxD_tup, idxD_lst, idxD_hnd, blt_len, blt_abs, blt_int, blt_min2, blt_max2, len1_tup, len1_lst, absD_int, intD_int, min2D_int, max2D_int, items_tup, items_lst, bli_all, bli_any, bli_sum, bli_tupL, bli_tupT, bools_nil, bools_cons, slc_scr, slc_tup, slc_lst, kDct_nil, kLam_exc, kUnp_two, ls5, ls6, tvb, kTup, kLst, kBin2, kBin, kNot, kCmp2, kCmp, kChn4, kChn3, kChn2, kChn, kIte, kIdx2, kIdx, kSlc2, kSlc, kCall, kBlt, kIsi, kSh, kComp, kCons3, kCons2, kCons, kPons2, kPons, kRons2, kRons, kTnot, kTand, kTor, kTru, kRng, kSet, kPar, kSix2, kSix, kEx, kIf, kFor, kWh2, kCmpL2, kCmpL1, kCmpL, kForS, List.set_cons_zero, List.set_cons_succ, List.any_cons, List.any_nil, Bool.or_false, Bool.or_true, Bool.not_true, Bool.not_false, Bool.true_and, Bool.false_and, Option.map_some, Option.map_none, Option.bind_some, Option.bind_none, if_true, if_false, Bool.false_eq_true, List.length_cons, List.length_nil, List.map_cons, List.map_nil, List.cons_append, List.nil_append, List.replicate_zero, List.replicate_succ, Nat.reduceSub, Nat.reduceAdd, Nat.reduceLT, Nat.reduceLeDiff, Int.reduceLT, Int.reduceLE, Int.reduceNeg, Int.reduceToNat, Int.reduceMul, Int.reduceAdd, Int.reducePow, reduceIte, List.length_map, decide_true, decide_false, Int.cast_ofNat_Int, Bool.and_true, Bool.and_false, Tg.slots, noOwn, List.all_cons, List.all_nil, Pf.wipe, Pf.restore, List.foldl_cons, List.foldl_nil, Pf.start, t__law_any, e, ea]
theorem gcd_loop (C : Cn) (hd : Option (List D)) : ∀ (k b a : Nat), b < k → whL (evT C (.tv (.cmp .ne (.p 1) (.c (.int 0))))) (ex C (.seq (.par [.nm 0, .nm 1] (.cons (.v 1) (.cons (.bin .mod (.p 0) (.p 1)) .nil))) .skip)) k ⟨[.val (.int a), .val (.int b)], hd⟩ = .nx ⟨[.val (.int (Nat.gcd a b)), .val (.int 0)], hd⟩
  | 0, b, a, h => by omega
  | k + 1, b, a, h => by
    rw [whL_step]
    by_cases b0 : b = 0
    · subst b0
      have e : decide (((0 : Nat) : Int) = 0) = true := rfl
      simp only [rb_ok, rb_exc, rb_bad, rt_ok, rt_exc, sb_nx, sb_rt, sb_exc, ro_some, so_some, sh_val, sh_own, tvd_val, tvd_own, tvd_brw, cr_ok, cr_exc, ec_nx, ec_val, ec_own, ec_exc, ev_c, ev_v, ev_p, ev_q, rdSq_val, rdSq_lst, rdSl_val, rdSl_own, rdSv_val, rdSv_own, ev_tup, ev_lst, ev_dct, ev_bin, ev_neg, ev_not, ev_and, ev_or, ev_cmp, ev_cmp2, ev_ite, ev_idx, ev_slc, ev_call, ev_blt, ev_bli, ev_isi, ev_comp, ev_lam, evs_nil, evs_cons, evp_nil, evp_cons, evR_nil, evR_cons, evT_nil, evT_not, evT_and, evT_or, evT_tv, evO_nil, evO_tv, evI_rng, evI_tv, evSh_eq, compL_nil, compL_cons, ex_skip, ex_seq, ex_set, ex_unp, ex_par, ex_six, ex_app, kApp0_own, kApp_eq, kApp1_own, ex_ex, ex_ret, ex_if, ex_for, ex_wh, ex_rse0, ex_mkh, forL_nil, forL_cons, kRet_val, kRet_own, kAnd_bl, kOr_bl, kNeg_int, kOpt_int, putV_val, putV_own, putX_nil, putX_nm, kBli_val, kBli_own, kItm_val, kItm_own, kComp2_ok, kMkh_ok, gz, gs, st_env, st_hd, at0, at1, at2, at3, at4, pl1, pl2, pl3, pl4, eq_int, has0, ls0, ls1, ls2, ls3, ls4, typed_non, isTy_non_int, isTy_non_bool, isTy_non_str, isTy_non_tup, isTy_non_lst, isTy_non_dic, typed_bl, isTy_bl_int, isTy_bl_bool, isTy_bl_str, isTy_bl_tup, isTy_bl_lst, isTy_bl_dic, typed_int, isTy_int_int, isTy_int_bool, isTy_int_str, isTy_int_tup, isTy_int_lst, isTy_int_dic, typed_str, isTy_str_int, isTy_str_bool, isTy_str_str, isTy_str_tup, isTy_str_lst, isTy_str_dic, typed_tup, isTy_tup_int, isTy_tup_bool, isTy_tup_str, isTy_tup_tup, isTy_tup_lst, isTy_tup_dic, typed_lst, isTy_lst_int, isTy_lst_bool, isTy_lst_str, isTy_lst_tup, isTy_lst_lst, isTy_lst_dic, typed_dic, isTy_dic_int, isTy_dic_bool, isTy_dic_str, isTy_dic_tup, isTy_dic_lst, isTy_dic_dic, truth_non, truth_bl, truth_int, truth_tup, truth_lst, binD_add, binD_sub, binD_mul, binD_fdiv, binD_mod, binD_pow, binD_shl, addD_int, subD_int, mulD_int, fdivD_int, modD_int, addD_lst, addD_tup, cmpD_eq, cmpD_ne, cmpD_lt, cmpD_le, cmpD_gt, cmpD_ge, cmpD_is, cmpD_isN, cmpD_mem, cmpD_memN, ltC_int, leC_int, isC_bl, idxD_tup, idxD_lst, idxD_hnd, blt_len, blt_abs, blt_int, blt_min2, blt_max2, len1_tup, len1_lst, absD_int, intD_int, min2D_int, max2D_int, items_tup, items_lst, bli_all, bli_any, bli_sum, bli_tupL, bli_tupT, bools_nil, bools_cons, slc_scr, slc_tup, slc_lst, kDct_nil, kLam_exc, kUnp_two, ls5, ls6, tvb, kTup, kLst, kBin2, kBin, kNot, kCmp2, kCmp, kChn4, kChn3, kChn2, kChn, kIte, kIdx2, kIdx, kSlc2, kSlc, kCall, kBlt, kIsi, kSh, kComp, kCons3, kCons2, kCons, kPons2, kPons, kRons2, kRons, kTnot, kTand, kTor, kTru, kRng, kSet, kPar, kSix2, kSix, kEx, kIf, kFor, kWh2, kCmpL2, kCmpL1, kCmpL, kForS, List.set_cons_zero, List.set_cons_succ, List.any_cons, List.any_nil, Bool.or_false, Bool.or_true, Bool.not_true, Bool.not_false, Bool.true_and, Bool.false_and, Option.map_some, Option.map_none, Option.bind_some, Option.bind_none, if_true, if_false, Bool.false_eq_true, List.length_cons, List.length_nil, List.map_cons, List.map_nil, List.cons_append, List.nil_append, List.replicate_zero, List.replicate_succ, Nat.reduceSub, Nat.reduceAdd, Nat.reduceLT, Nat.reduceLeDiff, Int.reduceLT, Int.reduceLE, Int.reduceNeg, Int.reduceToNat, Int.reduceMul, Int.reduceAdd, Int.reducePow, reduceIte, List.length_map, decide_true, decide_false, Int.cast_ofNat_Int, Bool.and_true, Bool.and_false, Tg.slots, noOwn, List.all_cons, List.all_nil, Pf.wipe, Pf.restore, List.foldl_cons, List.foldl_nil, Pf.start, eq_int, e, kWh, Nat.gcd_zero_right]
    · have e : decide ((b : Int) = 0) = false := decide_eq_false (by omega)
      have p0 : (0 : Int) < b := by omega
      have hlt : a % b < b := Nat.mod_lt _ (by omega)
      simp only [rb_ok, rb_exc, rb_bad, rt_ok, rt_exc, sb_nx, sb_rt, sb_exc, ro_some, so_some, sh_val, sh_own, tvd_val, tvd_own, tvd_brw, cr_ok, cr_exc, ec_nx, ec_val, ec_own, ec_exc, ev_c, ev_v, ev_p, ev_q, rdSq_val, rdSq_lst, rdSl_val, rdSl_own, rdSv_val, rdSv_own, ev_tup, ev_lst, ev_dct, ev_bin, ev_neg, ev_not, ev_and, ev_or, ev_cmp, ev_cmp2, ev_ite, ev_idx, ev_slc, ev_call, ev_blt, ev_bli, ev_isi, ev_comp, ev_lam, evs_nil, evs_cons, evp_nil, evp_cons, evR_nil, evR_cons, evT_nil, evT_not, evT_and, evT_or, evT_tv, evO_nil, evO_tv, evI_rng, evI_tv, evSh_eq, compL_nil, compL_cons, ex_skip, ex_seq, ex_set, ex_unp, ex_par, ex_six, ex_app, kApp0_own, kApp_eq, kApp1_own, ex_ex, ex_ret, ex_if, ex_for, ex_wh, ex_rse0, ex_mkh, forL_nil, forL_cons, kRet_val, kRet_own, kAnd_bl, kOr_bl, kNeg_int, kOpt_int, putV_val, putV_own, putX_nil, putX_nm, kBli_val, kBli_own, kItm_val, kItm_own, kComp2_ok, kMkh_ok, gz, gs, st_env, st_hd, at0, at1, at2, at3, at4, pl1, pl2, pl3, pl4, eq_int, has0, ls0, ls1, ls2, ls3, ls4, typed_non, isTy_non_int, isTy_non_bool, isTy_non_str, isTy_non_tup, isTy_non_lst, isTy_non_dic, typed_bl, isTy_bl_int, isTy_bl_bool, isTy_bl_str, isTy_bl_tup, isTy_bl_lst, isTy_bl_dic, typed_int, isTy_int_int, isTy_int_bool, isTy_int_str, isTy_int_tup, isTy_int_lst, isTy_int_dic, typed_str, isTy_str_int, isTy_str_bool, isTy_str_str, isTy_str_tup, isTy_str_lst, isTy_str_dic, typed_tup, isTy_tup_int, isTy_tup_bool, isTy_tup_str, isTy_tup_tup, isTy_tup_lst, isTy_tup_dic, typed_lst, isTy_lst_int, isTy_lst_bool, isTy_lst_str, isTy_lst_tup, isTy_lst_lst, isTy_lst_dic, typed_dic, isTy_dic_int, isTy_dic_bool, isTy_dic_str, isTy_dic_tup, isTy_dic_lst, isTy_dic_dic, truth_non, truth_bl, truth_int, truth_tup, truth_lst, binD_add, binD_sub, binD_mul, binD_fdiv, binD_mod, binD_pow, binD_shl, addD_int, subD_int, mulD_int, fdivD_int, modD_int, addD_lst, addD_tup, cmpD_eq, cmpD_ne, cmpD_lt, cmpD_le, cmpD_gt, cmpD_ge, cmpD_is, cmpD_isN, cmpD_mem, cmpD_memN, ltC_int, leC_int, isC_bl, idxD_tup, idxD_lst, idxD_hnd, blt_len, blt_abs, blt_int, blt_min2, blt_max2, len1_tup, len1_lst, absD_int, intD_int, min2D_int, max2D_int, items_tup, items_lst, bli_all, bli_any, bli_sum, bli_tupL, bli_tupT, bools_nil, bools_cons, slc_scr, slc_tup, slc_lst, kDct_nil, kLam_exc, kUnp_two, ls5, ls6, tvb, kTup, kLst, kBin2, kBin, kNot, kCmp2, kCmp, kChn4, kChn3, kChn2, kChn, kIte, kIdx2, kIdx, kSlc2, kSlc, kCall, kBlt, kIsi, kSh, kComp, kCons3, kCons2, kCons, kPons2, kPons, kRons2, kRons, kTnot, kTand, kTor, kTru, kRng, kSet, kPar, kSix2, kSix, kEx, kIf, kFor, kWh2, kCmpL2, kCmpL1, kCmpL, kForS, List.set_cons_zero, List.set_cons_succ, List.any_cons, List.any_nil, Bool.or_false, Bool.or_true, Bool.not_true, Bool.not_false, Bool.true_and, Bool.false_and, Option.map_some, Option.map_none, Option.bind_some, Option.bind_none, if_true, if_false, Bool.false_eq_true, List.length_cons, List.length_nil, List.map_cons, List.map_nil, List.cons_append, List.nil_append, List.replicate_zero, List.replicate_succ, Nat.reduceSub, Nat.reduceAdd, Nat.reduceLT, Nat.reduceLeDiff, Int.reduceLT, Int.reduceLE, Int.reduceNeg, Int.reduceToNat, Int.reduceMul, Int.reduceAdd, Int.reducePow, reduceIte, List.length_map, decide_true, decide_false, Int.cast_ofNat_Int, Bool.and_true, Bool.and_false, Tg.slots, noOwn, List.all_cons, List.all_nil, Pf.wipe, Pf.restore, List.foldl_cons, List.foldl_nil, Pf.start, eq_int, e, kWh, p0]
      rw [show ((a : Int) % (b : Int)) = ((a % b : Nat) : Int) from rfl, gcd_loop C hd k (a % b) b (by omega)]
      rw [show Nat.gcd b (a % b) = Nat.gcd a b from by rw [Nat.gcd_comm a b, Nat.gcd_rec b a, Nat.gcd_comm]]
theorem common_s (n a b : Nat) (hd) (h : b < 1000000000) : callN T (n + 1) 3 [.int a, .int b] hd = .ok (.val (.int (Nat.gcd a b))) hd := by
  have e : ¬ ((Nat.gcd a b : Nat) : Int) < 0 := by omega
  rw [call_of (fn := t_common) rfl rfl]
  simp only [rb_ok, rb_exc, rb_bad, rt_ok, rt_exc, sb_nx, sb_rt, sb_exc, ro_some, so_some, sh_val, sh_own, tvd_val, tvd_own, tvd_brw, cr_ok, cr_exc, ec_nx, ec_val, ec_own, ec_exc, ev_c, ev_v, ev_p, ev_q, rdSq_val, rdSq_lst, rdSl_val, rdSl_own, rdSv_val, rdSv_own, ev_tup, ev_lst, ev_dct, ev_bin, ev_neg, ev_not, ev_and, ev_or, ev_cmp, ev_cmp2, ev_ite, ev_idx, ev_slc, ev_call, ev_blt, ev_bli, ev_isi, ev_comp, ev_lam, evs_nil, evs_cons, evp_nil, evp_cons, evR_nil, evR_cons, evT_nil, evT_not, evT_and, evT_or, evT_tv, evO_nil, evO_tv, evI_rng, evI_tv, evSh_eq, compL_nil, compL_cons, ex_skip, ex_seq, ex_set, ex_unp, ex_par, ex_six, ex_app, kApp0_own, kApp_eq, kApp1_own, ex_ex, ex_ret, ex_if, ex_for, ex_wh, ex_rse0, ex_mkh, forL_nil, forL_cons, kRet_val, kRet_own, kAnd_bl, kOr_bl, kNeg_int, kOpt_int, putV_val, putV_own, putX_nil, putX_nm, kBli_val, kBli_own, kItm_val, kItm_own, kComp2_ok, kMkh_ok, gz, gs, st_env, st_hd, at0, at1, at2, at3, at4, pl1, pl2, pl3, pl4, eq_int, has0, ls0, ls1, ls2, ls3, ls4, typed_non, isTy_non_int, isTy_non_bool, isTy_non_str, isTy_non_tup, isTy_non_lst, isTy_non_dic, typed_bl, isTy_bl_int, isTy_bl_bool, isTy_bl_str, isTy_bl_tup, isTy_bl_lst, isTy_bl_dic, typed_int, isTy_int_int, isTy_int_bool, isTy_int_str, isTy_int_tup, isTy_int_lst, isTy_int_dic, typed_str, isTy_str_int, isTy_str_bool, isTy_str_str, isTy_str_tup, isTy_str_lst, isTy_str_dic, typed_tup, isTy_tup_int, isTy_tup_bool, isTy_tup_str, isTy_tup_tup, isTy_tup_lst, isTy_tup_dic, typed_lst, isTy_lst_int, isTy_lst_bool, isTy_lst_str, isTy_lst_tup, isTy_lst_lst, isTy_lst_dic, typed_dic, isTy_dic_int, isTy_dic_bool, isTy_dic_str, isTy_dic_tup, isTy_dic_lst, isTy_dic_dic, truth_non, truth_bl, truth_int, truth_tup, truth_lst, binD_add, binD_sub, binD_mul, binD_fdiv, binD_mod, binD_pow, binD_shl, addD_int, subD_int, mulD_int, fdivD_int, modD_int, addD_lst, addD_tup, cmpD_eq, cmpD_ne, cmpD_lt, cmpD_le, cmpD_gt, cmpD_ge, cmpD_is, cmpD_isN, cmpD_mem, cmpD_memN, ltC_int, leC_int, isC_bl, idxD_tup, idxD_lst, idxD_hnd, blt_len, blt_abs, blt_int, blt_min2, blt_max2, len1_tup, len1_lst, absD_int, intD_int, min2D_int, max2D_int, items_tup, items_lst, bli_all, bli_any, bli_sum, bli_tupL, bli_tupT, bools_nil, bools_cons, slc_scr, slc_tup, slc_lst, kDct_nil, kLam_exc, kUnp_two, ls5, ls6, tvb, kTup, kLst, kBin2, kBin, kNot, kCmp2, kCmp, kChn4, kChn3, kChn2, kChn, kIte, kIdx2, kIdx, kSlc2, kSlc, kCall, kBlt, kIsi, kSh, kComp, kCons3, kCons2, kCons, kPons2, kPons, kRons2, kRons, kTnot, kTand, kTor, kTru, kRng, kSet, kPar, kSix2, kSix, kEx, kIf, kFor, kWh2, kCmpL2, kCmpL1, kCmpL, kForS, List.set_cons_zero, List.set_cons_succ, List.any_cons, List.any_nil, Bool.or_false, Bool.or_true, Bool.not_true, Bool.not_false, Bool.true_and, Bool.false_and, Option.map_some, Option.map_none, Option.bind_some, Option.bind_none, if_true, if_false, Bool.false_eq_true, List.length_cons, List.length_nil, List.map_cons, List.map_nil, List.cons_append, List.nil_append, List.replicate_zero, List.replicate_succ, Nat.reduceSub, Nat.reduceAdd, Nat.reduceLT, Nat.reduceLeDiff, Int.reduceLT, Int.reduceLE, Int.reduceNeg, Int.reduceToNat, Int.reduceMul, Int.reduceAdd, Int.reducePow, reduceIte, List.length_map, decide_true, decide_false, Int.cast_ofNat_Int, Bool.and_true, Bool.and_false, Tg.slots, noOwn, List.all_cons, List.all_nil, Pf.wipe, Pf.restore, List.foldl_cons, List.foldl_nil, Pf.start, t_common, fuel]
  rw [gcd_loop _ _ _ _ _ h]
  simp only [rb_ok, rb_exc, rb_bad, rt_ok, rt_exc, sb_nx, sb_rt, sb_exc, ro_some, so_some, sh_val, sh_own, tvd_val, tvd_own, tvd_brw, cr_ok, cr_exc, ec_nx, ec_val, ec_own, ec_exc, ev_c, ev_v, ev_p, ev_q, rdSq_val, rdSq_lst, rdSl_val, rdSl_own, rdSv_val, rdSv_own, ev_tup, ev_lst, ev_dct, ev_bin, ev_neg, ev_not, ev_and, ev_or, ev_cmp, ev_cmp2, ev_ite, ev_idx, ev_slc, ev_call, ev_blt, ev_bli, ev_isi, ev_comp, ev_lam, evs_nil, evs_cons, evp_nil, evp_cons, evR_nil, evR_cons, evT_nil, evT_not, evT_and, evT_or, evT_tv, evO_nil, evO_tv, evI_rng, evI_tv, evSh_eq, compL_nil, compL_cons, ex_skip, ex_seq, ex_set, ex_unp, ex_par, ex_six, ex_app, kApp0_own, kApp_eq, kApp1_own, ex_ex, ex_ret, ex_if, ex_for, ex_wh, ex_rse0, ex_mkh, forL_nil, forL_cons, kRet_val, kRet_own, kAnd_bl, kOr_bl, kNeg_int, kOpt_int, putV_val, putV_own, putX_nil, putX_nm, kBli_val, kBli_own, kItm_val, kItm_own, kComp2_ok, kMkh_ok, gz, gs, st_env, st_hd, at0, at1, at2, at3, at4, pl1, pl2, pl3, pl4, eq_int, has0, ls0, ls1, ls2, ls3, ls4, typed_non, isTy_non_int, isTy_non_bool, isTy_non_str, isTy_non_tup, isTy_non_lst, isTy_non_dic, typed_bl, isTy_bl_int, isTy_bl_bool, isTy_bl_str, isTy_bl_tup, isTy_bl_lst, isTy_bl_dic, typed_int, isTy_int_int, isTy_int_bool, isTy_int_str, isTy_int_tup, isTy_int_lst, isTy_int_dic, typed_str, isTy_str_int, isTy_str_bool, isTy_str_str, isTy_str_tup, isTy_str_lst, isTy_str_dic, typed_tup, isTy_tup_int, isTy_tup_bool, isTy_tup_str, isTy_tup_tup, isTy_tup_lst, isTy_tup_dic, typed_lst, isTy_lst_int, isTy_lst_bool, isTy_lst_str, isTy_lst_tup, isTy_lst_lst, isTy_lst_dic, typed_dic, isTy_dic_int, isTy_dic_bool, isTy_dic_str, isTy_dic_tup, isTy_dic_lst, isTy_dic_dic, truth_non, truth_bl, truth_int, truth_tup, truth_lst, binD_add, binD_sub, binD_mul, binD_fdiv, binD_mod, binD_pow, binD_shl, addD_int, subD_int, mulD_int, fdivD_int, modD_int, addD_lst, addD_tup, cmpD_eq, cmpD_ne, cmpD_lt, cmpD_le, cmpD_gt, cmpD_ge, cmpD_is, cmpD_isN, cmpD_mem, cmpD_memN, ltC_int, leC_int, isC_bl, idxD_tup, idxD_lst, idxD_hnd, blt_len, blt_abs, blt_int, blt_min2, blt_max2, len1_tup, len1_lst, absD_int, intD_int, min2D_int, max2D_int, items_tup, items_lst, bli_all, bli_any, bli_sum, bli_tupL, bli_tupT, bools_nil, bools_cons, slc_scr, slc_tup, slc_lst, kDct_nil, kLam_exc, kUnp_two, ls5, ls6, tvb, kTup, kLst, kBin2, kBin, kNot, kCmp2, kCmp, kChn4, kChn3, kChn2, kChn, kIte, kIdx2, kIdx, kSlc2, kSlc, kCall, kBlt, kIsi, kSh, kComp, kCons3, kCons2, kCons, kPons2, kPons, kRons2, kRons, kTnot, kTand, kTor, kTru, kRng, kSet, kPar, kSix2, kSix, kEx, kIf, kFor, kWh2, kCmpL2, kCmpL1, kCmpL, kForS, List.set_cons_zero, List.set_cons_succ, List.any_cons, List.any_nil, Bool.or_false, Bool.or_true, Bool.not_true, Bool.not_false, Bool.true_and, Bool.false_and, Option.map_some, Option.map_none, Option.bind_some, Option.bind_none, if_true, if_false, Bool.false_eq_true, List.length_cons, List.length_nil, List.map_cons, List.map_nil, List.cons_append, List.nil_append, List.replicate_zero, List.replicate_succ, Nat.reduceSub, Nat.reduceAdd, Nat.reduceLT, Nat.reduceLeDiff, Int.reduceLT, Int.reduceLE, Int.reduceNeg, Int.reduceToNat, Int.reduceMul, Int.reduceAdd, Int.reducePow, reduceIte, List.length_map, decide_true, decide_false, Int.cast_ofNat_Int, Bool.and_true, Bool.and_false, Tg.slots, noOwn, List.all_cons, List.all_nil, Pf.wipe, Pf.restore, List.foldl_cons, List.foldl_nil, Pf.start, e]
theorem low_loop (C : Cn) (hd : Option (List D)) (x y : Slot) : ∀ (k b a : Nat), b < k → whL (evT C (.tv (.cmp .gt (.p 3) (.c (.int 0))))) (ex C (.seq (.par [.nm 2, .nm 3] (.cons (.v 3) (.cons (.bin .mod (.blt .int (.cons (.p 2) .nil)) (.p 3)) .nil))) .skip)) k ⟨[x, y, .val (.int a), .val (.int b)], hd⟩ = .nx ⟨[x, y, .val (.int (Nat.gcd a b)), .val (.int 0)], hd⟩
  | 0, b, a, h => by omega
  | k + 1, b, a, h => by
    rw [whL_step]
    by_cases b0 : b = 0
    · subst b0
      have e : decide ((0 : Int) < ((0 : Nat) : Int)) = false := rfl
      simp only [rb_ok, rb_exc, rb_bad, rt_ok, rt_exc, sb_nx, sb_rt, sb_exc, ro_some, so_some, sh_val, sh_own, tvd_val, tvd_own, tvd_brw, cr_ok, cr_exc, ec_nx, ec_val, ec_own, ec_exc, ev_c, ev_v, ev_p, ev_q, rdSq_val, rdSq_lst, rdSl_val, rdSl_own, rdSv_val, rdSv_own, ev_tup, ev_lst, ev_dct, ev_bin, ev_neg, ev_not, ev_and, ev_or, ev_cmp, ev_cmp2, ev_ite, ev_idx, ev_slc, ev_call, ev_blt, ev_bli, ev_isi, ev_comp, ev_lam, evs_nil, evs_cons, evp_nil, evp_cons, evR_nil, evR_cons, evT_nil, evT_not, evT_and, evT_or, evT_tv, evO_nil, evO_tv, evI_rng, evI_tv, evSh_eq, compL_nil, compL_cons, ex_skip, ex_seq, ex_set, ex_unp, ex_par, ex_six, ex_app, kApp0_own, kApp_eq, kApp1_own, ex_ex, ex_ret, ex_if, ex_for, ex_wh, ex_rse0, ex_mkh, forL_nil, forL_cons, kRet_val, kRet_own, kAnd_bl, kOr_bl, kNeg_int, kOpt_int, putV_val, putV_own, putX_nil, putX_nm, kBli_val, kBli_own, kItm_val, kItm_own, kComp2_ok, kMkh_ok, gz, gs, st_env, st_hd, at0, at1, at2, at3, at4, pl1, pl2, pl3, pl4, eq_int, has0, ls0, ls1, ls2, ls3, ls4, typed_non, isTy_non_int, isTy_non_bool, isTy_non_str, isTy_non_tup, isTy_non_lst, isTy_non_dic, typed_bl, isTy_bl_int, isTy_bl_bool, isTy_bl_str, isTy_bl_tup, isTy_bl_lst, isTy_bl_dic, typed_int, isTy_int_int, isTy_int_bool, isTy_int_str, isTy_int_tup, isTy_int_lst, isTy_int_dic, typed_str, isTy_str_int, isTy_str_bool, isTy_str_str, isTy_str_tup, isTy_str_lst, isTy_str_dic, typed_tup, isTy_tup_int, isTy_tup_bool, isTy_tup_str, isTy_tup_tup, isTy_tup_lst, isTy_tup_dic, typed_lst, isTy_lst_int, isTy_lst_bool, isTy_lst_str, isTy_lst_tup, isTy_lst_lst, isTy_lst_dic, typed_dic, isTy_dic_int, isTy_dic_bool, isTy_dic_str, isTy_dic_tup, isTy_dic_lst, isTy_dic_dic, truth_non, truth_bl, truth_int, truth_tup, truth_lst, binD_add, binD_sub, binD_mul, binD_fdiv, binD_mod, binD_pow, binD_shl, addD_int, subD_int, mulD_int, fdivD_int, modD_int, addD_lst, addD_tup, cmpD_eq, cmpD_ne, cmpD_lt, cmpD_le, cmpD_gt, cmpD_ge, cmpD_is, cmpD_isN, cmpD_mem, cmpD_memN, ltC_int, leC_int, isC_bl, idxD_tup, idxD_lst, idxD_hnd, blt_len, blt_abs, blt_int, blt_min2, blt_max2, len1_tup, len1_lst, absD_int, intD_int, min2D_int, max2D_int, items_tup, items_lst, bli_all, bli_any, bli_sum, bli_tupL, bli_tupT, bools_nil, bools_cons, slc_scr, slc_tup, slc_lst, kDct_nil, kLam_exc, kUnp_two, ls5, ls6, tvb, kTup, kLst, kBin2, kBin, kNot, kCmp2, kCmp, kChn4, kChn3, kChn2, kChn, kIte, kIdx2, kIdx, kSlc2, kSlc, kCall, kBlt, kIsi, kSh, kComp, kCons3, kCons2, kCons, kPons2, kPons, kRons2, kRons, kTnot, kTand, kTor, kTru, kRng, kSet, kPar, kSix2, kSix, kEx, kIf, kFor, kWh2, kCmpL2, kCmpL1, kCmpL, kForS, List.set_cons_zero, List.set_cons_succ, List.any_cons, List.any_nil, Bool.or_false, Bool.or_true, Bool.not_true, Bool.not_false, Bool.true_and, Bool.false_and, Option.map_some, Option.map_none, Option.bind_some, Option.bind_none, if_true, if_false, Bool.false_eq_true, List.length_cons, List.length_nil, List.map_cons, List.map_nil, List.cons_append, List.nil_append, List.replicate_zero, List.replicate_succ, Nat.reduceSub, Nat.reduceAdd, Nat.reduceLT, Nat.reduceLeDiff, Int.reduceLT, Int.reduceLE, Int.reduceNeg, Int.reduceToNat, Int.reduceMul, Int.reduceAdd, Int.reducePow, reduceIte, List.length_map, decide_true, decide_false, Int.cast_ofNat_Int, Bool.and_true, Bool.and_false, Tg.slots, noOwn, List.all_cons, List.all_nil, Pf.wipe, Pf.restore, List.foldl_cons, List.foldl_nil, Pf.start, e, kWh, Nat.gcd_zero_right]
    · have p0 : (0 : Int) < b := by omega
      have e : decide ((0 : Int) < (b : Int)) = true := decide_eq_true p0
      have hlt : a % b < b := Nat.mod_lt _ (by omega)
      simp only [rb_ok, rb_exc, rb_bad, rt_ok, rt_exc, sb_nx, sb_rt, sb_exc, ro_some, so_some, sh_val, sh_own, tvd_val, tvd_own, tvd_brw, cr_ok, cr_exc, ec_nx, ec_val, ec_own, ec_exc, ev_c, ev_v, ev_p, ev_q, rdSq_val, rdSq_lst, rdSl_val, rdSl_own, rdSv_val, rdSv_own, ev_tup, ev_lst, ev_dct, ev_bin, ev_neg, ev_not, ev_and, ev_or, ev_cmp, ev_cmp2, ev_ite, ev_idx, ev_slc, ev_call, ev_blt, ev_bli, ev_isi, ev_comp, ev_lam, evs_nil, evs_cons, evp_nil, evp_cons, evR_nil, evR_cons, evT_nil, evT_not, evT_and, evT_or, evT_tv, evO_nil, evO_tv, evI_rng, evI_tv, evSh_eq, compL_nil, compL_cons, ex_skip, ex_seq, ex_set, ex_unp, ex_par, ex_six, ex_app, kApp0_own, kApp_eq, kApp1_own, ex_ex, ex_ret, ex_if, ex_for, ex_wh, ex_rse0, ex_mkh, forL_nil, forL_cons, kRet_val, kRet_own, kAnd_bl, kOr_bl, kNeg_int, kOpt_int, putV_val, putV_own, putX_nil, putX_nm, kBli_val, kBli_own, kItm_val, kItm_own, kComp2_ok, kMkh_ok, gz, gs, st_env, st_hd, at0, at1, at2, at3, at4, pl1, pl2, pl3, pl4, eq_int, has0, ls0, ls1, ls2, ls3, ls4, typed_non, isTy_non_int, isTy_non_bool, isTy_non_str, isTy_non_tup, isTy_non_lst, isTy_non_dic, typed_bl, isTy_bl_int, isTy_bl_bool, isTy_bl_str, isTy_bl_tup, isTy_bl_lst, isTy_bl_dic, typed_int, isTy_int_int, isTy_int_bool, isTy_int_str, isTy_int_tup, isTy_int_lst, isTy_int_dic, typed_str, isTy_str_int, isTy_str_bool, isTy_str_str, isTy_str_tup, isTy_str_lst, isTy_str_dic, typed_tup, isTy_tup_int, isTy_tup_bool, isTy_tup_str, isTy_tup_tup, isTy_tup_lst, isTy_tup_dic, typed_lst, isTy_lst_int, isTy_lst_bool, isTy_lst_str, isTy_lst_tup, isTy_lst_lst, isTy_lst_dic, typed_dic, isTy_dic_int, isTy_dic_bool, isTy_dic_str, isTy_dic_tup, isTy_dic_lst, isTy_dic_dic, truth_non, truth_bl, truth_int, truth_tup, truth_lst, binD_add, binD_sub, binD_mul, binD_fdiv, binD_mod, binD_pow, binD_shl, addD_int, subD_int, mulD_int, fdivD_int, modD_int, addD_lst, addD_tup, cmpD_eq, cmpD_ne, cmpD_lt, cmpD_le, cmpD_gt, cmpD_ge, cmpD_is, cmpD_isN, cmpD_mem, cmpD_memN, ltC_int, leC_int, isC_bl, idxD_tup, idxD_lst, idxD_hnd, blt_len, blt_abs, blt_int, blt_min2, blt_max2, len1_tup, len1_lst, absD_int, intD_int, min2D_int, max2D_int, items_tup, items_lst, bli_all, bli_any, bli_sum, bli_tupL, bli_tupT, bools_nil, bools_cons, slc_scr, slc_tup, slc_lst, kDct_nil, kLam_exc, kUnp_two, ls5, ls6, tvb, kTup, kLst, kBin2, kBin, kNot, kCmp2, kCmp, kChn4, kChn3, kChn2, kChn, kIte, kIdx2, kIdx, kSlc2, kSlc, kCall, kBlt, kIsi, kSh, kComp, kCons3, kCons2, kCons, kPons2, kPons, kRons2, kRons, kTnot, kTand, kTor, kTru, kRng, kSet, kPar, kSix2, kSix, kEx, kIf, kFor, kWh2, kCmpL2, kCmpL1, kCmpL, kForS, List.set_cons_zero, List.set_cons_succ, List.any_cons, List.any_nil, Bool.or_false, Bool.or_true, Bool.not_true, Bool.not_false, Bool.true_and, Bool.false_and, Option.map_some, Option.map_none, Option.bind_some, Option.bind_none, if_true, if_false, Bool.false_eq_true, List.length_cons, List.length_nil, List.map_cons, List.map_nil, List.cons_append, List.nil_append, List.replicate_zero, List.replicate_succ, Nat.reduceSub, Nat.reduceAdd, Nat.reduceLT, Nat.reduceLeDiff, Int.reduceLT, Int.reduceLE, Int.reduceNeg, Int.reduceToNat, Int.reduceMul, Int.reduceAdd, Int.reducePow, reduceIte, List.length_map, decide_true, decide_false, Int.cast_ofNat_Int, Bool.and_true, Bool.and_false, Tg.slots, noOwn, List.all_cons, List.all_nil, Pf.wipe, Pf.restore, List.foldl_cons, List.foldl_nil, Pf.start, e, kWh, p0]
      rw [show ((a : Int) % (b : Int)) = ((a % b : Nat) : Int) from rfl, low_loop C hd x y k (a % b) b (by omega)]
      rw [show Nat.gcd b (a % b) = Nat.gcd a b from by rw [Nat.gcd_comm a b, Nat.gcd_rec b a, Nat.gcd_comm]]
/-- a share in lowest terms -/
def Sh (p q : Nat) : Prop := 0 < p ∧ p ≤ q ∧ q ≤ 20 ∧ Nat.gcd p q = 1
theorem low_s (n a b : Nat) (hd) (ha : 0 < a) (hab : a ≤ b) (hb : b ≤ 20) : ∃ p q, callN T (n + 1) 18 [.int a, .int b] hd = .ok (.val (.tup [.int (p : Nat), .int (q : Nat)])) hd ∧ Sh p q := by
  have g0 : 0 < Nat.gcd a b := Nat.gcd_pos_of_pos_left _ ha
  have gl : Nat.gcd a b ≤ a := Nat.le_of_dvd ha (Nat.gcd_dvd_left a b)
  refine ⟨a / Nat.gcd a b, b / Nat.gcd a b, ?_, Nat.div_pos gl g0, Nat.div_le_div_right hab, Nat.le_trans (Nat.div_le_self _ _) hb, Nat.gcd_div_gcd_div_gcd_of_pos_left ha⟩
  have e : ¬ (a : Int) < 0 := by omega
  have g1 : (0 : Int) < (Nat.gcd a b : Nat) := by omega
  have g2 : ((Nat.gcd a b : Nat) : Int) < 1073741824 := by omega
  rw [call_of (fn := t__law_low) rfl rfl]
  simp only [rb_ok, rb_exc, rb_bad, rt_ok, rt_exc, sb_nx, sb_rt, sb_exc, ro_some, so_some, sh_val, sh_own, tvd_val, tvd_own, tvd_brw, cr_ok, cr_exc, ec_nx, ec_val, ec_own, ec_exc, ev_c, ev_v, ev_p, ev_q, rdSq_val, rdSq_lst, rdSl_val, rdSl_own, rdSv_val, rdSv_own, ev_tup, ev_lst, ev_dct, ev_bin, ev_neg, ev_not, ev_and, ev_or, ev_cmp, ev_cmp2, ev_ite, ev_idx, ev_slc, ev_call, ev_blt, ev_bli, ev_isi, ev_comp, ev_lam, evs_nil, evs_cons, evp_nil, evp_cons, evR_nil, evR_cons, evT_nil, evT_not, evT_and, evT_or, evT_tv, evO_nil, evO_tv, evI_rng, evI_tv, evSh_eq, compL_nil, compL_cons, ex_skip, ex_seq, ex_set, ex_unp, ex_par, ex_six, ex_app, kApp0_own, kApp_eq, kApp1_own, ex_ex, ex_ret, ex_if, ex_for, ex_wh, ex_rse0, ex_mkh, forL_nil, forL_cons, kRet_val, kRet_own, kAnd_bl, kOr_bl, kNeg_int, kOpt_int, putV_val, putV_own, putX_nil, putX_nm, kBli_val, kBli_own, kItm_val, kItm_own, kComp2_ok, kMkh_ok, gz, gs, st_env, st_hd, at0, at1, at2, at3, at4, pl1, pl2, pl3, pl4, eq_int, has0, ls0, ls1, ls2, ls3, ls4, typed_non, isTy_non_int, isTy_non_bool, isTy_non_str, isTy_non_tup, isTy_non_lst, isTy_non_dic, typed_bl, isTy_bl_int, isTy_bl_bool, isTy_bl_str, isTy_bl_tup, isTy_bl_lst, isTy_bl_dic, typed_int, isTy_int_int, isTy_int_bool, isTy_int_str, isTy_int_tup, isTy_int_lst, isTy_int_dic, typed_str, isTy_str_int, isTy_str_bool, isTy_str_str, isTy_str_tup, isTy_str_lst, isTy_str_dic, typed_tup, isTy_tup_int, isTy_tup_bool, isTy_tup_str, isTy_tup_tup, isTy_tup_lst, isTy_tup_dic, typed_lst, isTy_lst_int, isTy_lst_bool, isTy_lst_str, isTy_lst_tup, isTy_lst_lst, isTy_lst_dic, typed_dic, isTy_dic_int, isTy_dic_bool, isTy_dic_str, isTy_dic_tup, isTy_dic_lst, isTy_dic_dic, truth_non, truth_bl, truth_int, truth_tup, truth_lst, binD_add, binD_sub, binD_mul, binD_fdiv, binD_mod, binD_pow, binD_shl, addD_int, subD_int, mulD_int, fdivD_int, modD_int, addD_lst, addD_tup, cmpD_eq, cmpD_ne, cmpD_lt, cmpD_le, cmpD_gt, cmpD_ge, cmpD_is, cmpD_isN, cmpD_mem, cmpD_memN, ltC_int, leC_int, isC_bl, idxD_tup, idxD_lst, idxD_hnd, blt_len, blt_abs, blt_int, blt_min2, blt_max2, len1_tup, len1_lst, absD_int, intD_int, min2D_int, max2D_int, items_tup, items_lst, bli_all, bli_any, bli_sum, bli_tupL, bli_tupT, bools_nil, bools_cons, slc_scr, slc_tup, slc_lst, kDct_nil, kLam_exc, kUnp_two, ls5, ls6, tvb, kTup, kLst, kBin2, kBin, kNot, kCmp2, kCmp, kChn4, kChn3, kChn2, kChn, kIte, kIdx2, kIdx, kSlc2, kSlc, kCall, kBlt, kIsi, kSh, kComp, kCons3, kCons2, kCons, kPons2, kPons, kRons2, kRons, kTnot, kTand, kTor, kTru, kRng, kSet, kPar, kSix2, kSix, kEx, kIf, kFor, kWh2, kCmpL2, kCmpL1, kCmpL, kForS, List.set_cons_zero, List.set_cons_succ, List.any_cons, List.any_nil, Bool.or_false, Bool.or_true, Bool.not_true, Bool.not_false, Bool.true_and, Bool.false_and, Option.map_some, Option.map_none, Option.bind_some, Option.bind_none, if_true, if_false, Bool.false_eq_true, List.length_cons, List.length_nil, List.map_cons, List.map_nil, List.cons_append, List.nil_append, List.replicate_zero, List.replicate_succ, Nat.reduceSub, Nat.reduceAdd, Nat.reduceLT, Nat.reduceLeDiff, Int.reduceLT, Int.reduceLE, Int.reduceNeg, Int.reduceToNat, Int.reduceMul, Int.reduceAdd, Int.reducePow, reduceIte, List.length_map, decide_true, decide_false, Int.cast_ofNat_Int, Bool.and_true, Bool.and_false, Tg.slots, noOwn, List.all_cons, List.all_nil, Pf.wipe, Pf.restore, List.foldl_cons, List.foldl_nil, Pf.start, t__law_low, fuel, e]
  rw [low_loop _ _ _ _ _ _ _ (by omega)]
  simp only [rb_ok, rb_exc, rb_bad, rt_ok, rt_exc, sb_nx, sb_rt, sb_exc, ro_some, so_some, sh_val, sh_own, tvd_val, tvd_own, tvd_brw, cr_ok, cr_exc, ec_nx, ec_val, ec_own, ec_exc, ev_c, ev_v, ev_p, ev_q, rdSq_val, rdSq_lst, rdSl_val, rdSl_own, rdSv_val, rdSv_own, ev_tup, ev_lst, ev_dct, ev_bin, ev_neg, ev_not, ev_and, ev_or, ev_cmp, ev_cmp2, ev_ite, ev_idx, ev_slc, ev_call, ev_blt, ev_bli, ev_isi, ev_comp, ev_lam, evs_nil, evs_cons, evp_nil, evp_cons, evR_nil, evR_cons, evT_nil, evT_not, evT_and, evT_or, evT_tv, evO_nil, evO_tv, evI_rng, evI_tv, evSh_eq, compL_nil, compL_cons, ex_skip, ex_seq, ex_set, ex_unp, ex_par, ex_six, ex_app, kApp0_own, kApp_eq, kApp1_own, ex_ex, ex_ret, ex_if, ex_for, ex_wh, ex_rse0, ex_mkh, forL_nil, forL_cons, kRet_val, kRet_own, kAnd_bl, kOr_bl, kNeg_int, kOpt_int, putV_val, putV_own, putX_nil, putX_nm, kBli_val, kBli_own, kItm_val, kItm_own, kComp2_ok, kMkh_ok, gz, gs, st_env, st_hd, at0, at1, at2, at3, at4, pl1, pl2, pl3, pl4, eq_int, has0, ls0, ls1, ls2, ls3, ls4, typed_non, isTy_non_int, isTy_non_bool, isTy_non_str, isTy_non_tup, isTy_non_lst, isTy_non_dic, typed_bl, isTy_bl_int, isTy_bl_bool, isTy_bl_str, isTy_bl_tup, isTy_bl_lst, isTy_bl_dic, typed_int, isTy_int_int, isTy_int_bool, isTy_int_str, isTy_int_tup, isTy_int_lst, isTy_int_dic, typed_str, isTy_str_int, isTy_str_bool, isTy_str_str, isTy_str_tup, isTy_str_lst, isTy_str_dic, typed_tup, isTy_tup_int, isTy_tup_bool, isTy_tup_str, isTy_tup_tup, isTy_tup_lst, isTy_tup_dic, typed_lst, isTy_lst_int, isTy_lst_bool, isTy_lst_str, isTy_lst_tup, isTy_lst_lst, isTy_lst_dic, typed_dic, isTy_dic_int, isTy_dic_bool, isTy_dic_str, isTy_dic_tup, isTy_dic_lst, isTy_dic_dic, truth_non, truth_bl, truth_int, truth_tup, truth_lst, binD_add, binD_sub, binD_mul, binD_fdiv, binD_mod, binD_pow, binD_shl, addD_int, subD_int, mulD_int, fdivD_int, modD_int, addD_lst, addD_tup, cmpD_eq, cmpD_ne, cmpD_lt, cmpD_le, cmpD_gt, cmpD_ge, cmpD_is, cmpD_isN, cmpD_mem, cmpD_memN, ltC_int, leC_int, isC_bl, idxD_tup, idxD_lst, idxD_hnd, blt_len, blt_abs, blt_int, blt_min2, blt_max2, len1_tup, len1_lst, absD_int, intD_int, min2D_int, max2D_int, items_tup, items_lst, bli_all, bli_any, bli_sum, bli_tupL, bli_tupT, bools_nil, bools_cons, slc_scr, slc_tup, slc_lst, kDct_nil, kLam_exc, kUnp_two, ls5, ls6, tvb, kTup, kLst, kBin2, kBin, kNot, kCmp2, kCmp, kChn4, kChn3, kChn2, kChn, kIte, kIdx2, kIdx, kSlc2, kSlc, kCall, kBlt, kIsi, kSh, kComp, kCons3, kCons2, kCons, kPons2, kPons, kRons2, kRons, kTnot, kTand, kTor, kTru, kRng, kSet, kPar, kSix2, kSix, kEx, kIf, kFor, kWh2, kCmpL2, kCmpL1, kCmpL, kForS, List.set_cons_zero, List.set_cons_succ, List.any_cons, List.any_nil, Bool.or_false, Bool.or_true, Bool.not_true, Bool.not_false, Bool.true_and, Bool.false_and, Option.map_some, Option.map_none, Option.bind_some, Option.bind_none, if_true, if_false, Bool.false_eq_true, List.length_cons, List.length_nil, List.map_cons, List.map_nil, List.cons_append, List.nil_append, List.replicate_zero, List.replicate_succ, Nat.reduceSub, Nat.reduceAdd, Nat.reduceLT, Nat.reduceLeDiff, Int.reduceLT, Int.reduceLE, Int.reduceNeg, Int.reduceToNat, Int.reduceMul, Int.reduceAdd, Int.reducePow, reduceIte, List.length_map, decide_true, decide_false, Int.cast_ofNat_Int, Bool.and_true, Bool.and_false, Tg.slots, noOwn, List.all_cons, List.all_nil, Pf.wipe, Pf.restore, List.foldl_cons, List.foldl_nil, Pf.start, g1, g2, and_self]
  rfl
def shD (x : Nat × Nat) : D := .tup [.int x.1, .int x.2]
theorem share_s (n : Nat) (h : List D) (hi : HI h) : ∃ x h', callN T (n + 3) 20 [.hnd] (some h) = .ok (.val (shD x)) (some h') ∧ Sh x.1 x.2 ∧ HI h' := by
  obtain ⟨d, h1, dm, e1, i1⟩ := any_s n h hi [.int 4, .int 10, .int 20] (by decide) (by decide)
  obtain ⟨k, hk, k0, k1⟩ : ∃ k : Int, d = .int k ∧ 0 < k ∧ k ≤ 20 := by
    simp only [List.mem_cons, List.not_mem_nil, or_false] at dm
    rcases dm with rfl | rfl | rfl
    · exact ⟨4, rfl, by decide, by decide⟩
    · exact ⟨10, rfl, by decide, by decide⟩
    · exact ⟨20, rfl, by decide, by decide⟩
  subst hk
  obtain ⟨r, h2, e2, i2, r0, r1⟩ := draw_s (n + 1) h1 i1 k k0 (by omega)
  obtain ⟨b, hb⟩ : ∃ b : Nat, (b : Int) = 1 + r := ⟨(1 + r).toNat, by omega⟩
  obtain ⟨r', h3, e3, i3, r0', r1'⟩ := draw_s (n + 1) h2 i2 (1 + r) (by omega) (by omega)
  obtain ⟨a, ha⟩ : ∃ a : Nat, (a : Int) = 1 + r' := ⟨(1 + r').toNat, by omega⟩
  obtain ⟨p, q, e4, hs⟩ := low_s (n + 1) a b (some h3) (by omega) (by omega) (by omega)
  refine ⟨(p, q), h3, ?_, hs, i3⟩
  rw [ha, hb] at e4
  rw [call_of (fn := t__law_share) rfl rfl]
  simp only [rb_ok, rb_exc, rb_bad, rt_ok, rt_exc, sb_nx, sb_rt, sb_exc, ro_some, so_some, sh_val, sh_own, tvd_val, tvd_own, tvd_brw, cr_ok, cr_exc, ec_nx, ec_val, ec_own, ec_exc, ev_c, ev_v, ev_p, ev_q, rdSq_val, rdSq_lst, rdSl_val, rdSl_own, rdSv_val, rdSv_own, ev_tup, ev_lst, ev_dct, ev_bin, ev_neg, ev_not, ev_and, ev_or, ev_cmp, ev_cmp2, ev_ite, ev_idx, ev_slc, ev_call, ev_blt, ev_bli, ev_isi, ev_comp, ev_lam, evs_nil, evs_cons, evp_nil, evp_cons, evR_nil, evR_cons, evT_nil, evT_not, evT_and, evT_or, evT_tv, evO_nil, evO_tv, evI_rng, evI_tv, evSh_eq, compL_nil, compL_cons, ex_skip, ex_seq, ex_set, ex_unp, ex_par, ex_six, ex_app, kApp0_own, kApp_eq, kApp1_own, ex_ex, ex_ret, ex_if, ex_for, ex_wh, ex_rse0, ex_mkh, forL_nil, forL_cons, kRet_val, kRet_own, kAnd_bl, kOr_bl, kNeg_int, kOpt_int, putV_val, putV_own, putX_nil, putX_nm, kBli_val, kBli_own, kItm_val, kItm_own, kComp2_ok, kMkh_ok, gz, gs, st_env, st_hd, at0, at1, at2, at3, at4, pl1, pl2, pl3, pl4, eq_int, has0, ls0, ls1, ls2, ls3, ls4, typed_non, isTy_non_int, isTy_non_bool, isTy_non_str, isTy_non_tup, isTy_non_lst, isTy_non_dic, typed_bl, isTy_bl_int, isTy_bl_bool, isTy_bl_str, isTy_bl_tup, isTy_bl_lst, isTy_bl_dic, typed_int, isTy_int_int, isTy_int_bool, isTy_int_str, isTy_int_tup, isTy_int_lst, isTy_int_dic, typed_str, isTy_str_int, isTy_str_bool, isTy_str_str, isTy_str_tup, isTy_str_lst, isTy_str_dic, typed_tup, isTy_tup_int, isTy_tup_bool, isTy_tup_str, isTy_tup_tup, isTy_tup_lst, isTy_tup_dic, typed_lst, isTy_lst_int, isTy_lst_bool, isTy_lst_str, isTy_lst_tup, isTy_lst_lst, isTy_lst_dic, typed_dic, isTy_dic_int, isTy_dic_bool, isTy_dic_str, isTy_dic_tup, isTy_dic_lst, isTy_dic_dic, truth_non, truth_bl, truth_int, truth_tup, truth_lst, binD_add, binD_sub, binD_mul, binD_fdiv, binD_mod, binD_pow, binD_shl, addD_int, subD_int, mulD_int, fdivD_int, modD_int, addD_lst, addD_tup, cmpD_eq, cmpD_ne, cmpD_lt, cmpD_le, cmpD_gt, cmpD_ge, cmpD_is, cmpD_isN, cmpD_mem, cmpD_memN, ltC_int, leC_int, isC_bl, idxD_tup, idxD_lst, idxD_hnd, blt_len, blt_abs, blt_int, blt_min2, blt_max2, len1_tup, len1_lst, absD_int, intD_int, min2D_int, max2D_int, items_tup, items_lst, bli_all, bli_any, bli_sum, bli_tupL, bli_tupT, bools_nil, bools_cons, slc_scr, slc_tup, slc_lst, kDct_nil, kLam_exc, kUnp_two, ls5, ls6, tvb, kTup, kLst, kBin2, kBin, kNot, kCmp2, kCmp, kChn4, kChn3, kChn2, kChn, kIte, kIdx2, kIdx, kSlc2, kSlc, kCall, kBlt, kIsi, kSh, kComp, kCons3, kCons2, kCons, kPons2, kPons, kRons2, kRons, kTnot, kTand, kTor, kTru, kRng, kSet, kPar, kSix2, kSix, kEx, kIf, kFor, kWh2, kCmpL2, kCmpL1, kCmpL, kForS, List.set_cons_zero, List.set_cons_succ, List.any_cons, List.any_nil, Bool.or_false, Bool.or_true, Bool.not_true, Bool.not_false, Bool.true_and, Bool.false_and, Option.map_some, Option.map_none, Option.bind_some, Option.bind_none, if_true, if_false, Bool.false_eq_true, List.length_cons, List.length_nil, List.map_cons, List.map_nil, List.cons_append, List.nil_append, List.replicate_zero, List.replicate_succ, Nat.reduceSub, Nat.reduceAdd, Nat.reduceLT, Nat.reduceLeDiff, Int.reduceLT, Int.reduceLE, Int.reduceNeg, Int.reduceToNat, Int.reduceMul, Int.reduceAdd, Int.reducePow, reduceIte, List.length_map, decide_true, decide_false, Int.cast_ofNat_Int, Bool.and_true, Bool.and_false, Tg.slots, noOwn, List.all_cons, List.all_nil, Pf.wipe, Pf.restore, List.foldl_cons, List.foldl_nil, Pf.start, t__law_share, e1, e2, e3, e4]
  rfl
theorem rng_s {i : Int} (h0 : 0 ≤ i) (h1 : i ≤ 1000) : rngD [.int i] = some (rngN 0 1 i.toNat) := by
  show (if small i && decide (i.toNat ≤ big) then _ else _) = _
  have e1 : small i = true := by unfold small; rw [decide_eq_true (by omega), decide_eq_true (by omega)]; rfl
  have e2 : decide (i.toNat ≤ big) = true := decide_eq_true (by unfold big; omega)
  rw [e1, e2]; rfl
theorem heats_loop (n : Nat) : ∀ (ds : List D) (h : List D), HI h → ∃ (hs : List (Nat × Nat)) (h' : List D), compL [1] (.nm 1) (evT ⟨callN T (n + 3), T.ret, T.word⟩ .nil) (evSh ⟨callN T (n + 3), T.ret, T.word⟩ (.call 20 (.cons (.v 0) .nil))) ds ⟨[.val .hnd, .un], some h⟩ = .ok (hs.map shD) ⟨[.val .hnd, .un], some h'⟩ ∧ (∀ x ∈ hs, Sh x.1 x.2) ∧ hs.length = ds.length ∧ HI h'
  | [], h, hi => ⟨[], h, rfl, fun _ z => (by cases z), rfl, hi⟩
  | d :: ds, h, hi => by
    obtain ⟨x, h1, e1, s1, i1⟩ := share_s n h hi
    obtain ⟨hs, h2, e2, s2, l2, i2⟩ := heats_loop n ds h1 i1
    refine ⟨x :: hs, h2, ?_, fun y hy => ?_, congrArg (· + 1) l2, i2⟩
    · simp only [rb_ok, rb_exc, rb_bad, rt_ok, rt_exc, sb_nx, sb_rt, sb_exc, ro_some, so_some, sh_val, sh_own, tvd_val, tvd_own, tvd_brw, cr_ok, cr_exc, ec_nx, ec_val, ec_own, ec_exc, ev_c, ev_v, ev_p, ev_q, rdSq_val, rdSq_lst, rdSl_val, rdSl_own, rdSv_val, rdSv_own, ev_tup, ev_lst, ev_dct, ev_bin, ev_neg, ev_not, ev_and, ev_or, ev_cmp, ev_cmp2, ev_ite, ev_idx, ev_slc, ev_call, ev_blt, ev_bli, ev_isi, ev_comp, ev_lam, evs_nil, evs_cons, evp_nil, evp_cons, evR_nil, evR_cons, evT_nil, evT_not, evT_and, evT_or, evT_tv, evO_nil, evO_tv, evI_rng, evI_tv, evSh_eq, compL_nil, compL_cons, ex_skip, ex_seq, ex_set, ex_unp, ex_par, ex_six, ex_app, kApp0_own, kApp_eq, kApp1_own, ex_ex, ex_ret, ex_if, ex_for, ex_wh, ex_rse0, ex_mkh, forL_nil, forL_cons, kRet_val, kRet_own, kAnd_bl, kOr_bl, kNeg_int, kOpt_int, putV_val, putV_own, putX_nil, putX_nm, kBli_val, kBli_own, kItm_val, kItm_own, kComp2_ok, kMkh_ok, gz, gs, st_env, st_hd, at0, at1, at2, at3, at4, pl1, pl2, pl3, pl4, eq_int, has0, ls0, ls1, ls2, ls3, ls4, typed_non, isTy_non_int, isTy_non_bool, isTy_non_str, isTy_non_tup, isTy_non_lst, isTy_non_dic, typed_bl, isTy_bl_int, isTy_bl_bool, isTy_bl_str, isTy_bl_tup, isTy_bl_lst, isTy_bl_dic, typed_int, isTy_int_int, isTy_int_bool, isTy_int_str, isTy_int_tup, isTy_int_lst, isTy_int_dic, typed_str, isTy_str_int, isTy_str_bool, isTy_str_str, isTy_str_tup, isTy_str_lst, isTy_str_dic, typed_tup, isTy_tup_int, isTy_tup_bool, isTy_tup_str, isTy_tup_tup, isTy_tup_lst, isTy_tup_dic, typed_lst, isTy_lst_int, isTy_lst_bool, isTy_lst_str, isTy_lst_tup, isTy_lst_lst, isTy_lst_dic, typed_dic, isTy_dic_int, isTy_dic_bool, isTy_dic_str, isTy_dic_tup, isTy_dic_lst, isTy_dic_dic, truth_non, truth_bl, truth_int, truth_tup, truth_lst, binD_add, binD_sub, binD_mul, binD_fdiv, binD_mod, binD_pow, binD_shl, addD_int, subD_int, mulD_int, fdivD_int, modD_int, addD_lst, addD_tup, cmpD_eq, cmpD_ne, cmpD_lt, cmpD_le, cmpD_gt, cmpD_ge, cmpD_is, cmpD_isN, cmpD_mem, cmpD_memN, ltC_int, leC_int, isC_bl, idxD_tup, idxD_lst, idxD_hnd, blt_len, blt_abs, blt_int, blt_min2, blt_max2, len1_tup, len1_lst, absD_int, intD_int, min2D_int, max2D_int, items_tup, items_lst, bli_all, bli_any, bli_sum, bli_tupL, bli_tupT, bools_nil, bools_cons, slc_scr, slc_tup, slc_lst, kDct_nil, kLam_exc, kUnp_two, ls5, ls6, tvb, kTup, kLst, kBin2, kBin, kNot, kCmp2, kCmp, kChn4, kChn3, kChn2, kChn, kIte, kIdx2, kIdx, kSlc2, kSlc, kCall, kBlt, kIsi, kSh, kComp, kCons3, kCons2, kCons, kPons2, kPons, kRons2, kRons, kTnot, kTand, kTor, kTru, kRng, kSet, kPar, kSix2, kSix, kEx, kIf, kFor, kWh2, kCmpL2, kCmpL1, kCmpL, kForS, List.set_cons_zero, List.set_cons_succ, List.any_cons, List.any_nil, Bool.or_false, Bool.or_true, Bool.not_true, Bool.not_false, Bool.true_and, Bool.false_and, Option.map_some, Option.map_none, Option.bind_some, Option.bind_none, if_true, if_false, Bool.false_eq_true, List.length_cons, List.length_nil, List.map_cons, List.map_nil, List.cons_append, List.nil_append, List.replicate_zero, List.replicate_succ, Nat.reduceSub, Nat.reduceAdd, Nat.reduceLT, Nat.reduceLeDiff, Int.reduceLT, Int.reduceLE, Int.reduceNeg, Int.reduceToNat, Int.reduceMul, Int.reduceAdd, Int.reducePow, reduceIte, List.length_map, decide_true, decide_false, Int.cast_ofNat_Int, Bool.and_true, Bool.and_false, Tg.slots, noOwn, List.all_cons, List.all_nil, Pf.wipe, Pf.restore, List.foldl_cons, List.foldl_nil, Pf.start, e1]
      rw [e2]
      simp only [rb_ok, rb_exc, rb_bad, rt_ok, rt_exc, sb_nx, sb_rt, sb_exc, ro_some, so_some, sh_val, sh_own, tvd_val, tvd_own, tvd_brw, cr_ok, cr_exc, ec_nx, ec_val, ec_own, ec_exc, ev_c, ev_v, ev_p, ev_q, rdSq_val, rdSq_lst, rdSl_val, rdSl_own, rdSv_val, rdSv_own, ev_tup, ev_lst, ev_dct, ev_bin, ev_neg, ev_not, ev_and, ev_or, ev_cmp, ev_cmp2, ev_ite, ev_idx, ev_slc, ev_call, ev_blt, ev_bli, ev_isi, ev_comp, ev_lam, evs_nil, evs_cons, evp_nil, evp_cons, evR_nil, evR_cons, evT_nil, evT_not, evT_and, evT_or, evT_tv, evO_nil, evO_tv, evI_rng, evI_tv, evSh_eq, compL_nil, compL_cons, ex_skip, ex_seq, ex_set, ex_unp, ex_par, ex_six, ex_app, kApp0_own, kApp_eq, kApp1_own, ex_ex, ex_ret, ex_if, ex_for, ex_wh, ex_rse0, ex_mkh, forL_nil, forL_cons, kRet_val, kRet_own, kAnd_bl, kOr_bl, kNeg_int, kOpt_int, putV_val, putV_own, putX_nil, putX_nm, kBli_val, kBli_own, kItm_val, kItm_own, kComp2_ok, kMkh_ok, gz, gs, st_env, st_hd, at0, at1, at2, at3, at4, pl1, pl2, pl3, pl4, eq_int, has0, ls0, ls1, ls2, ls3, ls4, typed_non, isTy_non_int, isTy_non_bool, isTy_non_str, isTy_non_tup, isTy_non_lst, isTy_non_dic, typed_bl, isTy_bl_int, isTy_bl_bool, isTy_bl_str, isTy_bl_tup, isTy_bl_lst, isTy_bl_dic, typed_int, isTy_int_int, isTy_int_bool, isTy_int_str, isTy_int_tup, isTy_int_lst, isTy_int_dic, typed_str, isTy_str_int, isTy_str_bool, isTy_str_str, isTy_str_tup, isTy_str_lst, isTy_str_dic, typed_tup, isTy_tup_int, isTy_tup_bool, isTy_tup_str, isTy_tup_tup, isTy_tup_lst, isTy_tup_dic, typed_lst, isTy_lst_int, isTy_lst_bool, isTy_lst_str, isTy_lst_tup, isTy_lst_lst, isTy_lst_dic, typed_dic, isTy_dic_int, isTy_dic_bool, isTy_dic_str, isTy_dic_tup, isTy_dic_lst, isTy_dic_dic, truth_non, truth_bl, truth_int, truth_tup, truth_lst, binD_add, binD_sub, binD_mul, binD_fdiv, binD_mod, binD_pow, binD_shl, addD_int, subD_int, mulD_int, fdivD_int, modD_int, addD_lst, addD_tup, cmpD_eq, cmpD_ne, cmpD_lt, cmpD_le, cmpD_gt, cmpD_ge, cmpD_is, cmpD_isN, cmpD_mem, cmpD_memN, ltC_int, leC_int, isC_bl, idxD_tup, idxD_lst, idxD_hnd, blt_len, blt_abs, blt_int, blt_min2, blt_max2, len1_tup, len1_lst, absD_int, intD_int, min2D_int, max2D_int, items_tup, items_lst, bli_all, bli_any, bli_sum, bli_tupL, bli_tupT, bools_nil, bools_cons, slc_scr, slc_tup, slc_lst, kDct_nil, kLam_exc, kUnp_two, ls5, ls6, tvb, kTup, kLst, kBin2, kBin, kNot, kCmp2, kCmp, kChn4, kChn3, kChn2, kChn, kIte, kIdx2, kIdx, kSlc2, kSlc, kCall, kBlt, kIsi, kSh, kComp, kCons3, kCons2, kCons, kPons2, kPons, kRons2, kRons, kTnot, kTand, kTor, kTru, kRng, kSet, kPar, kSix2, kSix, kEx, kIf, kFor, kWh2, kCmpL2, kCmpL1, kCmpL, kForS, List.set_cons_zero, List.set_cons_succ, List.any_cons, List.any_nil, Bool.or_false, Bool.or_true, Bool.not_true, Bool.not_false, Bool.true_and, Bool.false_and, Option.map_some, Option.map_none, Option.bind_some, Option.bind_none, if_true, if_false, Bool.false_eq_true, List.length_cons, List.length_nil, List.map_cons, List.map_nil, List.cons_append, List.nil_append, List.replicate_zero, List.replicate_succ, Nat.reduceSub, Nat.reduceAdd, Nat.reduceLT, Nat.reduceLeDiff, Int.reduceLT, Int.reduceLE, Int.reduceNeg, Int.reduceToNat, Int.reduceMul, Int.reduceAdd, Int.reducePow, reduceIte, List.length_map, decide_true, decide_false, Int.cast_ofNat_Int, Bool.and_true, Bool.and_false, Tg.slots, noOwn, List.all_cons, List.all_nil, Pf.wipe, Pf.restore, List.foldl_cons, List.foldl_nil, Pf.start]
    · obtain rfl | hy := List.mem_cons.mp hy
      · exact s1
      · exact s2 y hy
def hsD (hs : List (Nat × Nat)) : D := .tup (hs.map shD)
def Hs (hs : List (Nat × Nat)) : Prop := 1 ≤ hs.length ∧ hs.length ≤ 4 ∧ ∀ x ∈ hs, Sh x.1 x.2
theorem heats_s (n : Nat) (h : List D) (hi : HI h) : ∃ (hs : List (Nat × Nat)) (h' : List D), callN T (n + 4) 21 [.hnd] (some h) = .ok (.val (hsD hs)) (some h') ∧ Hs hs ∧ HI h' := by
  obtain ⟨r, h1, e1, i1, r0, r1⟩ := draw_s (n + 2) h hi 4 (by decide) (by decide)
  obtain ⟨hs, h2, e2, s2, l2, i2⟩ := heats_loop n (rngN 0 1 (1 + r).toNat) h1 i1
  rw [rngN_len] at l2
  refine ⟨hs, h2, ?_, ⟨by omega, by omega, s2⟩, i2⟩
  have er : rngD [.int (1 + r)] = some (rngN 0 1 (1 + r).toNat) := rng_s (by omega) (by omega)
  rw [call_of (fn := t__law_heats) rfl rfl]
  simp only [rb_ok, rb_exc, rb_bad, rt_ok, rt_exc, sb_nx, sb_rt, sb_exc, ro_some, so_some, sh_val, sh_own, tvd_val, tvd_own, tvd_brw, cr_ok, cr_exc, ec_nx, ec_val, ec_own, ec_exc, ev_c, ev_v, ev_p, ev_q, rdSq_val, rdSq_lst, rdSl_val, rdSl_own, rdSv_val, rdSv_own, ev_tup, ev_lst, ev_dct, ev_bin, ev_neg, ev_not, ev_and, ev_or, ev_cmp, ev_cmp2, ev_ite, ev_idx, ev_slc, ev_call, ev_blt, ev_bli, ev_isi, ev_comp, ev_lam, evs_nil, evs_cons, evp_nil, evp_cons, evR_nil, evR_cons, evT_nil, evT_not, evT_and, evT_or, evT_tv, evO_nil, evO_tv, evI_rng, evI_tv, evSh_eq, compL_nil, compL_cons, ex_skip, ex_seq, ex_set, ex_unp, ex_par, ex_six, ex_app, kApp0_own, kApp_eq, kApp1_own, ex_ex, ex_ret, ex_if, ex_for, ex_wh, ex_rse0, ex_mkh, forL_nil, forL_cons, kRet_val, kRet_own, kAnd_bl, kOr_bl, kNeg_int, kOpt_int, putV_val, putV_own, putX_nil, putX_nm, kBli_val, kBli_own, kItm_val, kItm_own, kComp2_ok, kMkh_ok, gz, gs, st_env, st_hd, at0, at1, at2, at3, at4, pl1, pl2, pl3, pl4, eq_int, has0, ls0, ls1, ls2, ls3, ls4, typed_non, isTy_non_int, isTy_non_bool, isTy_non_str, isTy_non_tup, isTy_non_lst, isTy_non_dic, typed_bl, isTy_bl_int, isTy_bl_bool, isTy_bl_str, isTy_bl_tup, isTy_bl_lst, isTy_bl_dic, typed_int, isTy_int_int, isTy_int_bool, isTy_int_str, isTy_int_tup, isTy_int_lst, isTy_int_dic, typed_str, isTy_str_int, isTy_str_bool, isTy_str_str, isTy_str_tup, isTy_str_lst, isTy_str_dic, typed_tup, isTy_tup_int, isTy_tup_bool, isTy_tup_str, isTy_tup_tup, isTy_tup_lst, isTy_tup_dic, typed_lst, isTy_lst_int, isTy_lst_bool, isTy_lst_str, isTy_lst_tup, isTy_lst_lst, isTy_lst_dic, typed_dic, isTy_dic_int, isTy_dic_bool, isTy_dic_str, isTy_dic_tup, isTy_dic_lst, isTy_dic_dic, truth_non, truth_bl, truth_int, truth_tup, truth_lst, binD_add, binD_sub, binD_mul, binD_fdiv, binD_mod, binD_pow, binD_shl, addD_int, subD_int, mulD_int, fdivD_int, modD_int, addD_lst, addD_tup, cmpD_eq, cmpD_ne, cmpD_lt, cmpD_le, cmpD_gt, cmpD_ge, cmpD_is, cmpD_isN, cmpD_mem, cmpD_memN, ltC_int, leC_int, isC_bl, idxD_tup, idxD_lst, idxD_hnd, blt_len, blt_abs, blt_int, blt_min2, blt_max2, len1_tup, len1_lst, absD_int, intD_int, min2D_int, max2D_int, items_tup, items_lst, bli_all, bli_any, bli_sum, bli_tupL, bli_tupT, bools_nil, bools_cons, slc_scr, slc_tup, slc_lst, kDct_nil, kLam_exc, kUnp_two, ls5, ls6, tvb, kTup, kLst, kBin2, kBin, kNot, kCmp2, kCmp, kChn4, kChn3, kChn2, kChn, kIte, kIdx2, kIdx, kSlc2, kSlc, kCall, kBlt, kIsi, kSh, kComp, kCons3, kCons2, kCons, kPons2, kPons, kRons2, kRons, kTnot, kTand, kTor, kTru, kRng, kSet, kPar, kSix2, kSix, kEx, kIf, kFor, kWh2, kCmpL2, kCmpL1, kCmpL, kForS, List.set_cons_zero, List.set_cons_succ, List.any_cons, List.any_nil, Bool.or_false, Bool.or_true, Bool.not_true, Bool.not_false, Bool.true_and, Bool.false_and, Option.map_some, Option.map_none, Option.bind_some, Option.bind_none, if_true, if_false, Bool.false_eq_true, List.length_cons, List.length_nil, List.map_cons, List.map_nil, List.cons_append, List.nil_append, List.replicate_zero, List.replicate_succ, Nat.reduceSub, Nat.reduceAdd, Nat.reduceLT, Nat.reduceLeDiff, Int.reduceLT, Int.reduceLE, Int.reduceNeg, Int.reduceToNat, Int.reduceMul, Int.reduceAdd, Int.reducePow, reduceIte, List.length_map, decide_true, decide_false, Int.cast_ofNat_Int, Bool.and_true, Bool.and_false, Tg.slots, noOwn, List.all_cons, List.all_nil, Pf.wipe, Pf.restore, List.foldl_cons, List.foldl_nil, Pf.start, t__law_heats, e1, er]
  rw [e2]
  simp only [rb_ok, rb_exc, rb_bad, rt_ok, rt_exc, sb_nx, sb_rt, sb_exc, ro_some, so_some, sh_val, sh_own, tvd_val, tvd_own, tvd_brw, cr_ok, cr_exc, ec_nx, ec_val, ec_own, ec_exc, ev_c, ev_v, ev_p, ev_q, rdSq_val, rdSq_lst, rdSl_val, rdSl_own, rdSv_val, rdSv_own, ev_tup, ev_lst, ev_dct, ev_bin, ev_neg, ev_not, ev_and, ev_or, ev_cmp, ev_cmp2, ev_ite, ev_idx, ev_slc, ev_call, ev_blt, ev_bli, ev_isi, ev_comp, ev_lam, evs_nil, evs_cons, evp_nil, evp_cons, evR_nil, evR_cons, evT_nil, evT_not, evT_and, evT_or, evT_tv, evO_nil, evO_tv, evI_rng, evI_tv, evSh_eq, compL_nil, compL_cons, ex_skip, ex_seq, ex_set, ex_unp, ex_par, ex_six, ex_app, kApp0_own, kApp_eq, kApp1_own, ex_ex, ex_ret, ex_if, ex_for, ex_wh, ex_rse0, ex_mkh, forL_nil, forL_cons, kRet_val, kRet_own, kAnd_bl, kOr_bl, kNeg_int, kOpt_int, putV_val, putV_own, putX_nil, putX_nm, kBli_val, kBli_own, kItm_val, kItm_own, kComp2_ok, kMkh_ok, gz, gs, st_env, st_hd, at0, at1, at2, at3, at4, pl1, pl2, pl3, pl4, eq_int, has0, ls0, ls1, ls2, ls3, ls4, typed_non, isTy_non_int, isTy_non_bool, isTy_non_str, isTy_non_tup, isTy_non_lst, isTy_non_dic, typed_bl, isTy_bl_int, isTy_bl_bool, isTy_bl_str, isTy_bl_tup, isTy_bl_lst, isTy_bl_dic, typed_int, isTy_int_int, isTy_int_bool, isTy_int_str, isTy_int_tup, isTy_int_lst, isTy_int_dic, typed_str, isTy_str_int, isTy_str_bool, isTy_str_str, isTy_str_tup, isTy_str_lst, isTy_str_dic, typed_tup, isTy_tup_int, isTy_tup_bool, isTy_tup_str, isTy_tup_tup, isTy_tup_lst, isTy_tup_dic, typed_lst, isTy_lst_int, isTy_lst_bool, isTy_lst_str, isTy_lst_tup, isTy_lst_lst, isTy_lst_dic, typed_dic, isTy_dic_int, isTy_dic_bool, isTy_dic_str, isTy_dic_tup, isTy_dic_lst, isTy_dic_dic, truth_non, truth_bl, truth_int, truth_tup, truth_lst, binD_add, binD_sub, binD_mul, binD_fdiv, binD_mod, binD_pow, binD_shl, addD_int, subD_int, mulD_int, fdivD_int, modD_int, addD_lst, addD_tup, cmpD_eq, cmpD_ne, cmpD_lt, cmpD_le, cmpD_gt, cmpD_ge, cmpD_is, cmpD_isN, cmpD_mem, cmpD_memN, ltC_int, leC_int, isC_bl, idxD_tup, idxD_lst, idxD_hnd, blt_len, blt_abs, blt_int, blt_min2, blt_max2, len1_tup, len1_lst, absD_int, intD_int, min2D_int, max2D_int, items_tup, items_lst, bli_all, bli_any, bli_sum, bli_tupL, bli_tupT, bools_nil, bools_cons, slc_scr, slc_tup, slc_lst, kDct_nil, kLam_exc, kUnp_two, ls5, ls6, tvb, kTup, kLst, kBin2, kBin, kNot, kCmp2, kCmp, kChn4, kChn3, kChn2, kChn, kIte, kIdx2, kIdx, kSlc2, kSlc, kCall, kBlt, kIsi, kSh, kComp, kCons3, kCons2, kCons, kPons2, kPons, kRons2, kRons, kTnot, kTand, kTor, kTru, kRng, kSet, kPar, kSix2, kSix, kEx, kIf, kFor, kWh2, kCmpL2, kCmpL1, kCmpL, kForS, List.set_cons_zero, List.set_cons_succ, List.any_cons, List.any_nil, Bool.or_false, Bool.or_true, Bool.not_true, Bool.not_false, Bool.true_and, Bool.false_and, Option.map_some, Option.map_none, Option.bind_some, Option.bind_none, if_true, if_false, Bool.false_eq_true, List.length_cons, List.length_nil, List.map_cons, List.map_nil, List.cons_append, List.nil_append, List.replicate_zero, List.replicate_succ, Nat.reduceSub, Nat.reduceAdd, Nat.reduceLT, Nat.reduceLeDiff, Int.reduceLT, Int.reduceLE, Int.reduceNeg, Int.reduceToNat, Int.reduceMul, Int.reduceAdd, Int.reducePow, reduceIte, List.length_map, decide_true, decide_false, Int.cast_ofNat_Int, Bool.and_true, Bool.and_false, Tg.slots, noOwn, List.all_cons, List.all_nil, Pf.wipe, Pf.restore, List.foldl_cons, List.foldl_nil, Pf.start]
  rfl
theorem sized_s (n : Nat) (ds : List D) (a b : Int) (hd) : callN T (n + 1) 2 [.tup ds, .int a, .int b] hd = .ok (.val (.bl (decide (a ≤ ds.length) && decide ((ds.length : Int) ≤ b)))) hd := by
  rw [call_of (fn := t_is_sized) rfl rfl]
  simp only [rb_ok, rb_exc, rb_bad, rt_ok, rt_exc, sb_nx, sb_rt, sb_exc, ro_some, so_some, sh_val, sh_own, tvd_val, tvd_own, tvd_brw, cr_ok, cr_exc, ec_nx, ec_val, ec_own, ec_exc, ev_c, ev_v, ev_p, ev_q, rdSq_val, rdSq_lst, rdSl_val, rdSl_own, rdSv_val, rdSv_own, ev_tup, ev_lst, ev_dct, ev_bin, ev_neg, ev_not, ev_and, ev_or, ev_cmp, ev_cmp2, ev_ite, ev_idx, ev_slc, ev_call, ev_blt, ev_bli, ev_isi, ev_comp, ev_lam, evs_nil, evs_cons, evp_nil, evp_cons, evR_nil, evR_cons, evT_nil, evT_not, evT_and, evT_or, evT_tv, evO_nil, evO_tv, evI_rng, evI_tv, evSh_eq, compL_nil, compL_cons, ex_skip, ex_seq, ex_set, ex_unp, ex_par, ex_six, ex_app, kApp0_own, kApp_eq, kApp1_own, ex_ex, ex_ret, ex_if, ex_for, ex_wh, ex_rse0, ex_mkh, forL_nil, forL_cons, kRet_val, kRet_own, kAnd_bl, kOr_bl, kNeg_int, kOpt_int, putV_val, putV_own, putX_nil, putX_nm, kBli_val, kBli_own, kItm_val, kItm_own, kComp2_ok, kMkh_ok, gz, gs, st_env, st_hd, at0, at1, at2, at3, at4, pl1, pl2, pl3, pl4, eq_int, has0, ls0, ls1, ls2, ls3, ls4, typed_non, isTy_non_int, isTy_non_bool, isTy_non_str, isTy_non_tup, isTy_non_lst, isTy_non_dic, typed_bl, isTy_bl_int, isTy_bl_bool, isTy_bl_str, isTy_bl_tup, isTy_bl_lst, isTy_bl_dic, typed_int, isTy_int_int, isTy_int_bool, isTy_int_str, isTy_int_tup, isTy_int_lst, isTy_int_dic, typed_str, isTy_str_int, isTy_str_bool, isTy_str_str, isTy_str_tup, isTy_str_lst, isTy_str_dic, typed_tup, isTy_tup_int, isTy_tup_bool, isTy_tup_str, isTy_tup_tup, isTy_tup_lst, isTy_tup_dic, typed_lst, isTy_lst_int, isTy_lst_bool, isTy_lst_str, isTy_lst_tup, isTy_lst_lst, isTy_lst_dic, typed_dic, isTy_dic_int, isTy_dic_bool, isTy_dic_str, isTy_dic_tup, isTy_dic_lst, isTy_dic_dic, truth_non, truth_bl, truth_int, truth_tup, truth_lst, binD_add, binD_sub, binD_mul, binD_fdiv, binD_mod, binD_pow, binD_shl, addD_int, subD_int, mulD_int, fdivD_int, modD_int, addD_lst, addD_tup, cmpD_eq, cmpD_ne, cmpD_lt, cmpD_le, cmpD_gt, cmpD_ge, cmpD_is, cmpD_isN, cmpD_mem, cmpD_memN, ltC_int, leC_int, isC_bl, idxD_tup, idxD_lst, idxD_hnd, blt_len, blt_abs, blt_int, blt_min2, blt_max2, len1_tup, len1_lst, absD_int, intD_int, min2D_int, max2D_int, items_tup, items_lst, bli_all, bli_any, bli_sum, bli_tupL, bli_tupT, bools_nil, bools_cons, slc_scr, slc_tup, slc_lst, kDct_nil, kLam_exc, kUnp_two, ls5, ls6, tvb, kTup, kLst, kBin2, kBin, kNot, kCmp2, kCmp, kChn4, kChn3, kChn2, kChn, kIte, kIdx2, kIdx, kSlc2, kSlc, kCall, kBlt, kIsi, kSh, kComp, kCons3, kCons2, kCons, kPons2, kPons, kRons2, kRons, kTnot, kTand, kTor, kTru, kRng, kSet, kPar, kSix2, kSix, kEx, kIf, kFor, kWh2, kCmpL2, kCmpL1, kCmpL, kForS, List.set_cons_zero, List.set_cons_succ, List.any_cons, List.any_nil, Bool.or_false, Bool.or_true, Bool.not_true, Bool.not_false, Bool.true_and, Bool.false_and, Option.map_some, Option.map_none, Option.bind_some, Option.bind_none, if_true, if_false, Bool.false_eq_true, List.length_cons, List.length_nil, List.map_cons, List.map_nil, List.cons_append, List.nil_append, List.replicate_zero, List.replicate_succ, Nat.reduceSub, Nat.reduceAdd, Nat.reduceLT, Nat.reduceLeDiff, Int.reduceLT, Int.reduceLE, Int.reduceNeg, Int.reduceToNat, Int.reduceMul, Int.reduceAdd, Int.reducePow, reduceIte, List.length_map, decide_true, decide_false, Int.cast_ofNat_Int, Bool.and_true, Bool.and_false, Tg.slots, noOwn, List.all_cons, List.all_nil, Pf.wipe, Pf.restore, List.foldl_cons, List.foldl_nil, Pf.start, t_is_sized]
  cases decide (a ≤ (ds.length : Int)) <;> simp only [rb_ok, rb_exc, rb_bad, rt_ok, rt_exc, sb_nx, sb_rt, sb_exc, ro_some, so_some, sh_val, sh_own, tvd_val, tvd_own, tvd_brw, cr_ok, cr_exc, ec_nx, ec_val, ec_own, ec_exc, ev_c, ev_v, ev_p, ev_q, rdSq_val, rdSq_lst, rdSl_val, rdSl_own, rdSv_val, rdSv_own, ev_tup, ev_lst, ev_dct, ev_bin, ev_neg, ev_not, ev_and, ev_or, ev_cmp, ev_cmp2, ev_ite, ev_idx, ev_slc, ev_call, ev_blt, ev_bli, ev_isi, ev_comp, ev_lam, evs_nil, evs_cons, evp_nil, evp_cons, evR_nil, evR_cons, evT_nil, evT_not, evT_and, evT_or, evT_tv, evO_nil, evO_tv, evI_rng, evI_tv, evSh_eq, compL_nil, compL_cons, ex_skip, ex_seq, ex_set, ex_unp, ex_par, ex_six, ex_app, kApp0_own, kApp_eq, kApp1_own, ex_ex, ex_ret, ex_if, ex_for, ex_wh, ex_rse0, ex_mkh, forL_nil, forL_cons, kRet_val, kRet_own, kAnd_bl, kOr_bl, kNeg_int, kOpt_int, putV_val, putV_own, putX_nil, putX_nm, kBli_val, kBli_own, kItm_val, kItm_own, kComp2_ok, kMkh_ok, gz, gs, st_env, st_hd, at0, at1, at2, at3, at4, pl1, pl2, pl3, pl4, eq_int, has0, ls0, ls1, ls2, ls3, ls4, typed_non, isTy_non_int, isTy_non_bool, isTy_non_str, isTy_non_tup, isTy_non_lst, isTy_non_dic, typed_bl, isTy_bl_int, isTy_bl_bool, isTy_bl_str, isTy_bl_tup, isTy_bl_lst, isTy_bl_dic, typed_int, isTy_int_int, isTy_int_bool, isTy_int_str, isTy_int_tup, isTy_int_lst, isTy_int_dic, typed_str, isTy_str_int, isTy_str_bool, isTy_str_str, isTy_str_tup, isTy_str_lst, isTy_str_dic, typed_tup, isTy_tup_int, isTy_tup_bool, isTy_tup_str, isTy_tup_tup, isTy_tup_lst, isTy_tup_dic, typed_lst, isTy_lst_int, isTy_lst_bool, isTy_lst_str, isTy_lst_tup, isTy_lst_lst, isTy_lst_dic, typed_dic, isTy_dic_int, isTy_dic_bool, isTy_dic_str, isTy_dic_tup, isTy_dic_lst, isTy_dic_dic, truth_non, truth_bl, truth_int, truth_tup, truth_lst, binD_add, binD_sub, binD_mul, binD_fdiv, binD_mod, binD_pow, binD_shl, addD_int, subD_int, mulD_int, fdivD_int, modD_int, addD_lst, addD_tup, cmpD_eq, cmpD_ne, cmpD_lt, cmpD_le, cmpD_gt, cmpD_ge, cmpD_is, cmpD_isN, cmpD_mem, cmpD_memN, ltC_int, leC_int, isC_bl, idxD_tup, idxD_lst, idxD_hnd, blt_len, blt_abs, blt_int, blt_min2, blt_max2, len1_tup, len1_lst, absD_int, intD_int, min2D_int, max2D_int, items_tup, items_lst, bli_all, bli_any, bli_sum, bli_tupL, bli_tupT, bools_nil, bools_cons, slc_scr, slc_tup, slc_lst, kDct_nil, kLam_exc, kUnp_two, ls5, ls6, tvb, kTup, kLst, kBin2, kBin, kNot, kCmp2, kCmp, kChn4, kChn3, kChn2, kChn, kIte, kIdx2, kIdx, kSlc2, kSlc, kCall, kBlt, kIsi, kSh, kComp, kCons3, kCons2, kCons, kPons2, kPons, kRons2, kRons, kTnot, kTand, kTor, kTru, kRng, kSet, kPar, kSix2, kSix, kEx, kIf, kFor, kWh2, kCmpL2, kCmpL1, kCmpL, kForS, List.set_cons_zero, List.set_cons_succ, List.any_cons, List.any_nil, Bool.or_false, Bool.or_true, Bool.not_true, Bool.not_false, Bool.true_and, Bool.false_and, Option.map_some, Option.map_none, Option.bind_some, Option.bind_none, if_true, if_false, Bool.false_eq_true, List.length_cons, List.length_nil, List.map_cons, List.map_nil, List.cons_append, List.nil_append, List.replicate_zero, List.replicate_succ, Nat.reduceSub, Nat.reduceAdd, Nat.reduceLT, Nat.reduceLeDiff, Int.reduceLT, Int.reduceLE, Int.reduceNeg, Int.reduceToNat, Int.reduceMul, Int.reduceAdd, Int.reducePow, reduceIte, List.length_map, decide_true, decide_false, Int.cast_ofNat_Int, Bool.and_true, Bool.and_false, Tg.slots, noOwn, List.all_cons, List.all_nil, Pf.wipe, Pf.restore, List.foldl_cons, List.foldl_nil, Pf.start]
theorem sized_no (n : Nat) (d : D) (a b : Int) (hd) (ht : typed d = true) (hn : isTy d .tup = false) : callN T (n + 1) 2 [d, .int a, .int b] hd = .ok (.val (.bl false)) hd := by
  rw [call_of (fn := t_is_sized) rfl rfl]
  simp only [rb_ok, rb_exc, rb_bad, rt_ok, rt_exc, sb_nx, sb_rt, sb_exc, ro_some, so_some, sh_val, sh_own, tvd_val, tvd_own, tvd_brw, cr_ok, cr_exc, ec_nx, ec_val, ec_own, ec_exc, ev_c, ev_v, ev_p, ev_q, rdSq_val, rdSq_lst, rdSl_val, rdSl_own, rdSv_val, rdSv_own, ev_tup, ev_lst, ev_dct, ev_bin, ev_neg, ev_not, ev_and, ev_or, ev_cmp, ev_cmp2, ev_ite, ev_idx, ev_slc, ev_call, ev_blt, ev_bli, ev_isi, ev_comp, ev_lam, evs_nil, evs_cons, evp_nil, evp_cons, evR_nil, evR_cons, evT_nil, evT_not, evT_and, evT_or, evT_tv, evO_nil, evO_tv, evI_rng, evI_tv, evSh_eq, compL_nil, compL_cons, ex_skip, ex_seq, ex_set, ex_unp, ex_par, ex_six, ex_app, kApp0_own, kApp_eq, kApp1_own, ex_ex, ex_ret, ex_if, ex_for, ex_wh, ex_rse0, ex_mkh, forL_nil, forL_cons, kRet_val, kRet_own, kAnd_bl, kOr_bl, kNeg_int, kOpt_int, putV_val, putV_own, putX_nil, putX_nm, kBli_val, kBli_own, kItm_val, kItm_own, kComp2_ok, kMkh_ok, gz, gs, st_env, st_hd, at0, at1, at2, at3, at4, pl1, pl2, pl3, pl4, eq_int, has0, ls0, ls1, ls2, ls3, ls4, typed_non, isTy_non_int, isTy_non_bool, isTy_non_str, isTy_non_tup, isTy_non_lst, isTy_non_dic, typed_bl, isTy_bl_int, isTy_bl_bool, isTy_bl_str, isTy_bl_tup, isTy_bl_lst, isTy_bl_dic, typed_int, isTy_int_int, isTy_int_bool, isTy_int_str, isTy_int_tup, isTy_int_lst, isTy_int_dic, typed_str, isTy_str_int, isTy_str_bool, isTy_str_str, isTy_str_tup, isTy_str_lst, isTy_str_dic, typed_tup, isTy_tup_int, isTy_tup_bool, isTy_tup_str, isTy_tup_tup, isTy_tup_lst, isTy_tup_dic, typed_lst, isTy_lst_int, isTy_lst_bool, isTy_lst_str, isTy_lst_tup, isTy_lst_lst, isTy_lst_dic, typed_dic, isTy_dic_int, isTy_dic_bool, isTy_dic_str, isTy_dic_tup, isTy_dic_lst, isTy_dic_dic, truth_non, truth_bl, truth_int, truth_tup, truth_lst, binD_add, binD_sub, binD_mul, binD_fdiv, binD_mod, binD_pow, binD_shl, addD_int, subD_int, mulD_int, fdivD_int, modD_int, addD_lst, addD_tup, cmpD_eq, cmpD_ne, cmpD_lt, cmpD_le, cmpD_gt, cmpD_ge, cmpD_is, cmpD_isN, cmpD_mem, cmpD_memN, ltC_int, leC_int, isC_bl, idxD_tup, idxD_lst, idxD_hnd, blt_len, blt_abs, blt_int, blt_min2, blt_max2, len1_tup, len1_lst, absD_int, intD_int, min2D_int, max2D_int, items_tup, items_lst, bli_all, bli_any, bli_sum, bli_tupL, bli_tupT, bools_nil, bools_cons, slc_scr, slc_tup, slc_lst, kDct_nil, kLam_exc, kUnp_two, ls5, ls6, tvb, kTup, kLst, kBin2, kBin, kNot, kCmp2, kCmp, kChn4, kChn3, kChn2, kChn, kIte, kIdx2, kIdx, kSlc2, kSlc, kCall, kBlt, kIsi, kSh, kComp, kCons3, kCons2, kCons, kPons2, kPons, kRons2, kRons, kTnot, kTand, kTor, kTru, kRng, kSet, kPar, kSix2, kSix, kEx, kIf, kFor, kWh2, kCmpL2, kCmpL1, kCmpL, kForS, List.set_cons_zero, List.set_cons_succ, List.any_cons, List.any_nil, Bool.or_false, Bool.or_true, Bool.not_true, Bool.not_false, Bool.true_and, Bool.false_and, Option.map_some, Option.map_none, Option.bind_some, Option.bind_none, if_true, if_false, Bool.false_eq_true, List.length_cons, List.length_nil, List.map_cons, List.map_nil, List.cons_append, List.nil_append, List.replicate_zero, List.replicate_succ, Nat.reduceSub, Nat.reduceAdd, Nat.reduceLT, Nat.reduceLeDiff, Int.reduceLT, Int.reduceLE, Int.reduceNeg, Int.reduceToNat, Int.reduceMul, Int.reduceAdd, Int.reducePow, reduceIte, List.length_map, decide_true, decide_false, Int.cast_ofNat_Int, Bool.and_true, Bool.and_false, Tg.slots, noOwn, List.all_cons, List.all_nil, Pf.wipe, Pf.restore, List.foldl_cons, List.foldl_nil, Pf.start, t_is_sized, ht, hn]
theorem integer_s (n : Nat) (d : D) (hd) (ht : typed d = true) : callN T (n + 1) 0 [d] hd = .ok (.val (.bl (isTy d .int && !isTy d .bool))) hd := by
  rw [call_of (fn := t_is_integer) rfl rfl]
  simp only [rb_ok, rb_exc, rb_bad, rt_ok, rt_exc, sb_nx, sb_rt, sb_exc, ro_some, so_some, sh_val, sh_own, tvd_val, tvd_own, tvd_brw, cr_ok, cr_exc, ec_nx, ec_val, ec_own, ec_exc, ev_c, ev_v, ev_p, ev_q, rdSq_val, rdSq_lst, rdSl_val, rdSl_own, rdSv_val, rdSv_own, ev_tup, ev_lst, ev_dct, ev_bin, ev_neg, ev_not, ev_and, ev_or, ev_cmp, ev_cmp2, ev_ite, ev_idx, ev_slc, ev_call, ev_blt, ev_bli, ev_isi, ev_comp, ev_lam, evs_nil, evs_cons, evp_nil, evp_cons, evR_nil, evR_cons, evT_nil, evT_not, evT_and, evT_or, evT_tv, evO_nil, evO_tv, evI_rng, evI_tv, evSh_eq, compL_nil, compL_cons, ex_skip, ex_seq, ex_set, ex_unp, ex_par, ex_six, ex_app, kApp0_own, kApp_eq, kApp1_own, ex_ex, ex_ret, ex_if, ex_for, ex_wh, ex_rse0, ex_mkh, forL_nil, forL_cons, kRet_val, kRet_own, kAnd_bl, kOr_bl, kNeg_int, kOpt_int, putV_val, putV_own, putX_nil, putX_nm, kBli_val, kBli_own, kItm_val, kItm_own, kComp2_ok, kMkh_ok, gz, gs, st_env, st_hd, at0, at1, at2, at3, at4, pl1, pl2, pl3, pl4, eq_int, has0, ls0, ls1, ls2, ls3, ls4, typed_non, isTy_non_int, isTy_non_bool, isTy_non_str, isTy_non_tup, isTy_non_lst, isTy_non_dic, typed_bl, isTy_bl_int, isTy_bl_bool, isTy_bl_str, isTy_bl_tup, isTy_bl_lst, isTy_bl_dic, typed_int, isTy_int_int, isTy_int_bool, isTy_int_str, isTy_int_tup, isTy_int_lst, isTy_int_dic, typed_str, isTy_str_int, isTy_str_bool, isTy_str_str, isTy_str_tup, isTy_str_lst, isTy_str_dic, typed_tup, isTy_tup_int, isTy_tup_bool, isTy_tup_str, isTy_tup_tup, isTy_tup_lst, isTy_tup_dic, typed_lst, isTy_lst_int, isTy_lst_bool, isTy_lst_str, isTy_lst_tup, isTy_lst_lst, isTy_lst_dic, typed_dic, isTy_dic_int, isTy_dic_bool, isTy_dic_str, isTy_dic_tup, isTy_dic_lst, isTy_dic_dic, truth_non, truth_bl, truth_int, truth_tup, truth_lst, binD_add, binD_sub, binD_mul, binD_fdiv, binD_mod, binD_pow, binD_shl, addD_int, subD_int, mulD_int, fdivD_int, modD_int, addD_lst, addD_tup, cmpD_eq, cmpD_ne, cmpD_lt, cmpD_le, cmpD_gt, cmpD_ge, cmpD_is, cmpD_isN, cmpD_mem, cmpD_memN, ltC_int, leC_int, isC_bl, idxD_tup, idxD_lst, idxD_hnd, blt_len, blt_abs, blt_int, blt_min2, blt_max2, len1_tup, len1_lst, absD_int, intD_int, min2D_int, max2D_int, items_tup, items_lst, bli_all, bli_any, bli_sum, bli_tupL, bli_tupT, bools_nil, bools_cons, slc_scr, slc_tup, slc_lst, kDct_nil, kLam_exc, kUnp_two, ls5, ls6, tvb, kTup, kLst, kBin2, kBin, kNot, kCmp2, kCmp, kChn4, kChn3, kChn2, kChn, kIte, kIdx2, kIdx, kSlc2, kSlc, kCall, kBlt, kIsi, kSh, kComp, kCons3, kCons2, kCons, kPons2, kPons, kRons2, kRons, kTnot, kTand, kTor, kTru, kRng, kSet, kPar, kSix2, kSix, kEx, kIf, kFor, kWh2, kCmpL2, kCmpL1, kCmpL, kForS, List.set_cons_zero, List.set_cons_succ, List.any_cons, List.any_nil, Bool.or_false, Bool.or_true, Bool.not_true, Bool.not_false, Bool.true_and, Bool.false_and, Option.map_some, Option.map_none, Option.bind_some, Option.bind_none, if_true, if_false, Bool.false_eq_true, List.length_cons, List.length_nil, List.map_cons, List.map_nil, List.cons_append, List.nil_append, List.replicate_zero, List.replicate_succ, Nat.reduceSub, Nat.reduceAdd, Nat.reduceLT, Nat.reduceLeDiff, Int.reduceLT, Int.reduceLE, Int.reduceNeg, Int.reduceToNat, Int.reduceMul, Int.reduceAdd, Int.reducePow, reduceIte, List.length_map, decide_true, decide_false, Int.cast_ofNat_Int, Bool.and_true, Bool.and_false, Tg.slots, noOwn, List.all_cons, List.all_nil, Pf.wipe, Pf.restore, List.foldl_cons, List.foldl_nil, Pf.start, t_is_integer, ht]
  cases isTy d .int <;> simp only [rb_ok, rb_exc, rb_bad, rt_ok, rt_exc, sb_nx, sb_rt, sb_exc, ro_some, so_some, sh_val, sh_own, tvd_val, tvd_own, tvd_brw, cr_ok, cr_exc, ec_nx, ec_val, ec_own, ec_exc, ev_c, ev_v, ev_p, ev_q, rdSq_val, rdSq_lst, rdSl_val, rdSl_own, rdSv_val, rdSv_own, ev_tup, ev_lst, ev_dct, ev_bin, ev_neg, ev_not, ev_and, ev_or, ev_cmp, ev_cmp2, ev_ite, ev_idx, ev_slc, ev_call, ev_blt, ev_bli, ev_isi, ev_comp, ev_lam, evs_nil, evs_cons, evp_nil, evp_cons, evR_nil, evR_cons, evT_nil, evT_not, evT_and, evT_or, evT_tv, evO_nil, evO_tv, evI_rng, evI_tv, evSh_eq, compL_nil, compL_cons, ex_skip, ex_seq, ex_set, ex_unp, ex_par, ex_six, ex_app, kApp0_own, kApp_eq, kApp1_own, ex_ex, ex_ret, ex_if, ex_for, ex_wh, ex_rse0, ex_mkh, forL_nil, forL_cons, kRet_val, kRet_own, kAnd_bl, kOr_bl, kNeg_int, kOpt_int, putV_val, putV_own, putX_nil, putX_nm, kBli_val, kBli_own, kItm_val, kItm_own, kComp2_ok, kMkh_ok, gz, gs, st_env, st_hd, at0, at1, at2, at3, at4, pl1, pl2, pl3, pl4, eq_int, has0, ls0, ls1, ls2, ls3, ls4, typed_non, isTy_non_int, isTy_non_bool, isTy_non_str, isTy_non_tup, isTy_non_lst, isTy_non_dic, typed_bl, isTy_bl_int, isTy_bl_bool, isTy_bl_str, isTy_bl_tup, isTy_bl_lst, isTy_bl_dic, typed_int, isTy_int_int, isTy_int_bool, isTy_int_str, isTy_int_tup, isTy_int_lst, isTy_int_dic, typed_str, isTy_str_int, isTy_str_bool, isTy_str_str, isTy_str_tup, isTy_str_lst, isTy_str_dic, typed_tup, isTy_tup_int, isTy_tup_bool, isTy_tup_str, isTy_tup_tup, isTy_tup_lst, isTy_tup_dic, typed_lst, isTy_lst_int, isTy_lst_bool, isTy_lst_str, isTy_lst_tup, isTy_lst_lst, isTy_lst_dic, typed_dic, isTy_dic_int, isTy_dic_bool, isTy_dic_str, isTy_dic_tup, isTy_dic_lst, isTy_dic_dic, truth_non, truth_bl, truth_int, truth_tup, truth_lst, binD_add, binD_sub, binD_mul, binD_fdiv, binD_mod, binD_pow, binD_shl, addD_int, subD_int, mulD_int, fdivD_int, modD_int, addD_lst, addD_tup, cmpD_eq, cmpD_ne, cmpD_lt, cmpD_le, cmpD_gt, cmpD_ge, cmpD_is, cmpD_isN, cmpD_mem, cmpD_memN, ltC_int, leC_int, isC_bl, idxD_tup, idxD_lst, idxD_hnd, blt_len, blt_abs, blt_int, blt_min2, blt_max2, len1_tup, len1_lst, absD_int, intD_int, min2D_int, max2D_int, items_tup, items_lst, bli_all, bli_any, bli_sum, bli_tupL, bli_tupT, bools_nil, bools_cons, slc_scr, slc_tup, slc_lst, kDct_nil, kLam_exc, kUnp_two, ls5, ls6, tvb, kTup, kLst, kBin2, kBin, kNot, kCmp2, kCmp, kChn4, kChn3, kChn2, kChn, kIte, kIdx2, kIdx, kSlc2, kSlc, kCall, kBlt, kIsi, kSh, kComp, kCons3, kCons2, kCons, kPons2, kPons, kRons2, kRons, kTnot, kTand, kTor, kTru, kRng, kSet, kPar, kSix2, kSix, kEx, kIf, kFor, kWh2, kCmpL2, kCmpL1, kCmpL, kForS, List.set_cons_zero, List.set_cons_succ, List.any_cons, List.any_nil, Bool.or_false, Bool.or_true, Bool.not_true, Bool.not_false, Bool.true_and, Bool.false_and, Option.map_some, Option.map_none, Option.bind_some, Option.bind_none, if_true, if_false, Bool.false_eq_true, List.length_cons, List.length_nil, List.map_cons, List.map_nil, List.cons_append, List.nil_append, List.replicate_zero, List.replicate_succ, Nat.reduceSub, Nat.reduceAdd, Nat.reduceLT, Nat.reduceLeDiff, Int.reduceLT, Int.reduceLE, Int.reduceNeg, Int.reduceToNat, Int.reduceMul, Int.reduceAdd, Int.reducePow, reduceIte, List.length_map, decide_true, decide_false, Int.cast_ofNat_Int, Bool.and_true, Bool.and_false, Tg.slots, noOwn, List.all_cons, List.all_nil, Pf.wipe, Pf.restore, List.foldl_cons, List.foldl_nil, Pf.start]
theorem within_no (n : Nat) (d : D) (a b : Int) (hd) (ht : typed d = true) (hn : (isTy d .int && !isTy d .bool) = false) : callN T (n + 2) 1 [d, .int a, .int b] hd = .ok (.val (.bl false)) hd := by
  rw [call_of (fn := t_is_within) rfl rfl]
  simp only [rb_ok, rb_exc, rb_bad, rt_ok, rt_exc, sb_nx, sb_rt, sb_exc, ro_some, so_some, sh_val, sh_own, tvd_val, tvd_own, tvd_brw, cr_ok, cr_exc, ec_nx, ec_val, ec_own, ec_exc, ev_c, ev_v, ev_p, ev_q, rdSq_val, rdSq_lst, rdSl_val, rdSl_own, rdSv_val, rdSv_own, ev_tup, ev_lst, ev_dct, ev_bin, ev_neg, ev_not, ev_and, ev_or, ev_cmp, ev_cmp2, ev_ite, ev_idx, ev_slc, ev_call, ev_blt, ev_bli, ev_isi, ev_comp, ev_lam, evs_nil, evs_cons, evp_nil, evp_cons, evR_nil, evR_cons, evT_nil, evT_not, evT_and, evT_or, evT_tv, evO_nil, evO_tv, evI_rng, evI_tv, evSh_eq, compL_nil, compL_cons, ex_skip, ex_seq, ex_set, ex_unp, ex_par, ex_six, ex_app, kApp0_own, kApp_eq, kApp1_own, ex_ex, ex_ret, ex_if, ex_for, ex_wh, ex_rse0, ex_mkh, forL_nil, forL_cons, kRet_val, kRet_own, kAnd_bl, kOr_bl, kNeg_int, kOpt_int, putV_val, putV_own, putX_nil, putX_nm, kBli_val, kBli_own, kItm_val, kItm_own, kComp2_ok, kMkh_ok, gz, gs, st_env, st_hd, at0, at1, at2, at3, at4, pl1, pl2, pl3, pl4, eq_int, has0, ls0, ls1, ls2, ls3, ls4, typed_non, isTy_non_int, isTy_non_bool, isTy_non_str, isTy_non_tup, isTy_non_lst, isTy_non_dic, typed_bl, isTy_bl_int, isTy_bl_bool, isTy_bl_str, isTy_bl_tup, isTy_bl_lst, isTy_bl_dic, typed_int, isTy_int_int, isTy_int_bool, isTy_int_str, isTy_int_tup, isTy_int_lst, isTy_int_dic, typed_str, isTy_str_int, isTy_str_bool, isTy_str_str, isTy_str_tup, isTy_str_lst, isTy_str_dic, typed_tup, isTy_tup_int, isTy_tup_bool, isTy_tup_str, isTy_tup_tup, isTy_tup_lst, isTy_tup_dic, typed_lst, isTy_lst_int, isTy_lst_bool, isTy_lst_str, isTy_lst_tup, isTy_lst_lst, isTy_lst_dic, typed_dic, isTy_dic_int, isTy_dic_bool, isTy_dic_str, isTy_dic_tup, isTy_dic_lst, isTy_dic_dic, truth_non, truth_bl, truth_int, truth_tup, truth_lst, binD_add, binD_sub, binD_mul, binD_fdiv, binD_mod, binD_pow, binD_shl, addD_int, subD_int, mulD_int, fdivD_int, modD_int, addD_lst, addD_tup, cmpD_eq, cmpD_ne, cmpD_lt, cmpD_le, cmpD_gt, cmpD_ge, cmpD_is, cmpD_isN, cmpD_mem, cmpD_memN, ltC_int, leC_int, isC_bl, idxD_tup, idxD_lst, idxD_hnd, blt_len, blt_abs, blt_int, blt_min2, blt_max2, len1_tup, len1_lst, absD_int, intD_int, min2D_int, max2D_int, items_tup, items_lst, bli_all, bli_any, bli_sum, bli_tupL, bli_tupT, bools_nil, bools_cons, slc_scr, slc_tup, slc_lst, kDct_nil, kLam_exc, kUnp_two, ls5, ls6, tvb, kTup, kLst, kBin2, kBin, kNot, kCmp2, kCmp, kChn4, kChn3, kChn2, kChn, kIte, kIdx2, kIdx, kSlc2, kSlc, kCall, kBlt, kIsi, kSh, kComp, kCons3, kCons2, kCons, kPons2, kPons, kRons2, kRons, kTnot, kTand, kTor, kTru, kRng, kSet, kPar, kSix2, kSix, kEx, kIf, kFor, kWh2, kCmpL2, kCmpL1, kCmpL, kForS, List.set_cons_zero, List.set_cons_succ, List.any_cons, List.any_nil, Bool.or_false, Bool.or_true, Bool.not_true, Bool.not_false, Bool.true_and, Bool.false_and, Option.map_some, Option.map_none, Option.bind_some, Option.bind_none, if_true, if_false, Bool.false_eq_true, List.length_cons, List.length_nil, List.map_cons, List.map_nil, List.cons_append, List.nil_append, List.replicate_zero, List.replicate_succ, Nat.reduceSub, Nat.reduceAdd, Nat.reduceLT, Nat.reduceLeDiff, Int.reduceLT, Int.reduceLE, Int.reduceNeg, Int.reduceToNat, Int.reduceMul, Int.reduceAdd, Int.reducePow, reduceIte, List.length_map, decide_true, decide_false, Int.cast_ofNat_Int, Bool.and_true, Bool.and_false, Tg.slots, noOwn, List.all_cons, List.all_nil, Pf.wipe, Pf.restore, List.foldl_cons, List.foldl_nil, Pf.start, t_is_within, integer_s n d hd ht, hn]
theorem is_share_s (n : Nat) (p q : Nat) (hd) (hq : q < 1000000000) : callN T (n + 2) 4 [.tup [.int p, .int q]] hd = .ok (.val (.bl (decide (0 < q) && decide (Nat.gcd p q = 1)))) hd := by
  have e0 : (decide ((2 : Int) ≤ (([D.int p, D.int q].length : Nat) : Int)) && decide ((([D.int p, D.int q].length : Nat) : Int) ≤ 2)) = true := rfl
  have eq1 : decide (((Nat.gcd p q : Nat) : Int) = 1) = decide (Nat.gcd p q = 1) := by rw [decide_eq_decide]; omega
  have eq2 : decide ((0 : Int) < (q : Int)) = decide (0 < q) := by rw [decide_eq_decide]; omega
  rw [call_of (fn := t_is_share) rfl rfl]
  simp only [rb_ok, rb_exc, rb_bad, rt_ok, rt_exc, sb_nx, sb_rt, sb_exc, ro_some, so_some, sh_val, sh_own, tvd_val, tvd_own, tvd_brw, cr_ok, cr_exc, ec_nx, ec_val, ec_own, ec_exc, ev_c, ev_v, ev_p, ev_q, rdSq_val, rdSq_lst, rdSl_val, rdSl_own, rdSv_val, rdSv_own, ev_tup, ev_lst, ev_dct, ev_bin, ev_neg, ev_not, ev_and, ev_or, ev_cmp, ev_cmp2, ev_ite, ev_idx, ev_slc, ev_call, ev_blt, ev_bli, ev_isi, ev_comp, ev_lam, evs_nil, evs_cons, evp_nil, evp_cons, evR_nil, evR_cons, evT_nil, evT_not, evT_and, evT_or, evT_tv, evO_nil, evO_tv, evI_rng, evI_tv, evSh_eq, compL_nil, compL_cons, ex_skip, ex_seq, ex_set, ex_unp, ex_par, ex_six, ex_app, kApp0_own, kApp_eq, kApp1_own, ex_ex, ex_ret, ex_if, ex_for, ex_wh, ex_rse0, ex_mkh, forL_nil, forL_cons, kRet_val, kRet_own, kAnd_bl, kOr_bl, kNeg_int, kOpt_int, putV_val, putV_own, putX_nil, putX_nm, kBli_val, kBli_own, kItm_val, kItm_own, kComp2_ok, kMkh_ok, gz, gs, st_env, st_hd, at0, at1, at2, at3, at4, pl1, pl2, pl3, pl4, eq_int, has0, ls0, ls1, ls2, ls3, ls4, typed_non, isTy_non_int, isTy_non_bool, isTy_non_str, isTy_non_tup, isTy_non_lst, isTy_non_dic, typed_bl, isTy_bl_int, isTy_bl_bool, isTy_bl_str, isTy_bl_tup, isTy_bl_lst, isTy_bl_dic, typed_int, isTy_int_int, isTy_int_bool, isTy_int_str, isTy_int_tup, isTy_int_lst, isTy_int_dic, typed_str, isTy_str_int, isTy_str_bool, isTy_str_str, isTy_str_tup, isTy_str_lst, isTy_str_dic, typed_tup, isTy_tup_int, isTy_tup_bool, isTy_tup_str, isTy_tup_tup, isTy_tup_lst, isTy_tup_dic, typed_lst, isTy_lst_int, isTy_lst_bool, isTy_lst_str, isTy_lst_tup, isTy_lst_lst, isTy_lst_dic, typed_dic, isTy_dic_int, isTy_dic_bool, isTy_dic_str, isTy_dic_tup, isTy_dic_lst, isTy_dic_dic, truth_non, truth_bl, truth_int, truth_tup, truth_lst, binD_add, binD_sub, binD_mul, binD_fdiv, binD_mod, binD_pow, binD_shl, addD_int, subD_int, mulD_int, fdivD_int, modD_int, addD_lst, addD_tup, cmpD_eq, cmpD_ne, cmpD_lt, cmpD_le, cmpD_gt, cmpD_ge, cmpD_is, cmpD_isN, cmpD_mem, cmpD_memN, ltC_int, leC_int, isC_bl, idxD_tup, idxD_lst, idxD_hnd, blt_len, blt_abs, blt_int, blt_min2, blt_max2, len1_tup, len1_lst, absD_int, intD_int, min2D_int, max2D_int, items_tup, items_lst, bli_all, bli_any, bli_sum, bli_tupL, bli_tupT, bools_nil, bools_cons, slc_scr, slc_tup, slc_lst, kDct_nil, kLam_exc, kUnp_two, ls5, ls6, tvb, kTup, kLst, kBin2, kBin, kNot, kCmp2, kCmp, kChn4, kChn3, kChn2, kChn, kIte, kIdx2, kIdx, kSlc2, kSlc, kCall, kBlt, kIsi, kSh, kComp, kCons3, kCons2, kCons, kPons2, kPons, kRons2, kRons, kTnot, kTand, kTor, kTru, kRng, kSet, kPar, kSix2, kSix, kEx, kIf, kFor, kWh2, kCmpL2, kCmpL1, kCmpL, kForS, List.set_cons_zero, List.set_cons_succ, List.any_cons, List.any_nil, Bool.or_false, Bool.or_true, Bool.not_true, Bool.not_false, Bool.true_and, Bool.false_and, Option.map_some, Option.map_none, Option.bind_some, Option.bind_none, if_true, if_false, Bool.false_eq_true, List.length_cons, List.length_nil, List.map_cons, List.map_nil, List.cons_append, List.nil_append, List.replicate_zero, List.replicate_succ, Nat.reduceSub, Nat.reduceAdd, Nat.reduceLT, Nat.reduceLeDiff, Int.reduceLT, Int.reduceLE, Int.reduceNeg, Int.reduceToNat, Int.reduceMul, Int.reduceAdd, Int.reducePow, reduceIte, List.length_map, decide_true, decide_false, Int.cast_ofNat_Int, Bool.and_true, Bool.and_false, Tg.slots, noOwn, List.all_cons, List.all_nil, Pf.wipe, Pf.restore, List.foldl_cons, List.foldl_nil, Pf.start, t_is_share, sized_s, is_int, Bool.and_true, Bool.true_and, id, common_s n p q hd hq, eq_int, eq1, eq2]
  cases decide (0 < q) <;> simp only [rb_ok, rb_exc, rb_bad, rt_ok, rt_exc, sb_nx, sb_rt, sb_exc, ro_some, so_some, sh_val, sh_own, tvd_val, tvd_own, tvd_brw, cr_ok, cr_exc, ec_nx, ec_val, ec_own, ec_exc, ev_c, ev_v, ev_p, ev_q, rdSq_val, rdSq_lst, rdSl_val, rdSl_own, rdSv_val, rdSv_own, ev_tup, ev_lst, ev_dct, ev_bin, ev_neg, ev_not, ev_and, ev_or, ev_cmp, ev_cmp2, ev_ite, ev_idx, ev_slc, ev_call, ev_blt, ev_bli, ev_isi, ev_comp, ev_lam, evs_nil, evs_cons, evp_nil, evp_cons, evR_nil, evR_cons, evT_nil, evT_not, evT_and, evT_or, evT_tv, evO_nil, evO_tv, evI_rng, evI_tv, evSh_eq, compL_nil, compL_cons, ex_skip, ex_seq, ex_set, ex_unp, ex_par, ex_six, ex_app, kApp0_own, kApp_eq, kApp1_own, ex_ex, ex_ret, ex_if, ex_for, ex_wh, ex_rse0, ex_mkh, forL_nil, forL_cons, kRet_val, kRet_own, kAnd_bl, kOr_bl, kNeg_int, kOpt_int, putV_val, putV_own, putX_nil, putX_nm, kBli_val, kBli_own, kItm_val, kItm_own, kComp2_ok, kMkh_ok, gz, gs, st_env, st_hd, at0, at1, at2, at3, at4, pl1, pl2, pl3, pl4, eq_int, has0, ls0, ls1, ls2, ls3, ls4, typed_non, isTy_non_int, isTy_non_bool, isTy_non_str, isTy_non_tup, isTy_non_lst, isTy_non_dic, typed_bl, isTy_bl_int, isTy_bl_bool, isTy_bl_str, isTy_bl_tup, isTy_bl_lst, isTy_bl_dic, typed_int, isTy_int_int, isTy_int_bool, isTy_int_str, isTy_int_tup, isTy_int_lst, isTy_int_dic, typed_str, isTy_str_int, isTy_str_bool, isTy_str_str, isTy_str_tup, isTy_str_lst, isTy_str_dic, typed_tup, isTy_tup_int, isTy_tup_bool, isTy_tup_str, isTy_tup_tup, isTy_tup_lst, isTy_tup_dic, typed_lst, isTy_lst_int, isTy_lst_bool, isTy_lst_str, isTy_lst_tup, isTy_lst_lst, isTy_lst_dic, typed_dic, isTy_dic_int, isTy_dic_bool, isTy_dic_str, isTy_dic_tup, isTy_dic_lst, isTy_dic_dic, truth_non, truth_bl, truth_int, truth_tup, truth_lst, binD_add, binD_sub, binD_mul, binD_fdiv, binD_mod, binD_pow, binD_shl, addD_int, subD_int, mulD_int, fdivD_int, modD_int, addD_lst, addD_tup, cmpD_eq, cmpD_ne, cmpD_lt, cmpD_le, cmpD_gt, cmpD_ge, cmpD_is, cmpD_isN, cmpD_mem, cmpD_memN, ltC_int, leC_int, isC_bl, idxD_tup, idxD_lst, idxD_hnd, blt_len, blt_abs, blt_int, blt_min2, blt_max2, len1_tup, len1_lst, absD_int, intD_int, min2D_int, max2D_int, items_tup, items_lst, bli_all, bli_any, bli_sum, bli_tupL, bli_tupT, bools_nil, bools_cons, slc_scr, slc_tup, slc_lst, kDct_nil, kLam_exc, kUnp_two, ls5, ls6, tvb, kTup, kLst, kBin2, kBin, kNot, kCmp2, kCmp, kChn4, kChn3, kChn2, kChn, kIte, kIdx2, kIdx, kSlc2, kSlc, kCall, kBlt, kIsi, kSh, kComp, kCons3, kCons2, kCons, kPons2, kPons, kRons2, kRons, kTnot, kTand, kTor, kTru, kRng, kSet, kPar, kSix2, kSix, kEx, kIf, kFor, kWh2, kCmpL2, kCmpL1, kCmpL, kForS, List.set_cons_zero, List.set_cons_succ, List.any_cons, List.any_nil, Bool.or_false, Bool.or_true, Bool.not_true, Bool.not_false, Bool.true_and, Bool.false_and, Option.map_some, Option.map_none, Option.bind_some, Option.bind_none, if_true, if_false, Bool.false_eq_true, List.length_cons, List.length_nil, List.map_cons, List.map_nil, List.cons_append, List.nil_append, List.replicate_zero, List.replicate_succ, Nat.reduceSub, Nat.reduceAdd, Nat.reduceLT, Nat.reduceLeDiff, Int.reduceLT, Int.reduceLE, Int.reduceNeg, Int.reduceToNat, Int.reduceMul, Int.reduceAdd, Int.reducePow, reduceIte, List.length_map, decide_true, decide_false, Int.cast_ofNat_Int, Bool.and_true, Bool.and_false, Tg.slots, noOwn, List.all_cons, List.all_nil, Pf.wipe, Pf.restore, List.foldl_cons, List.foldl_nil, Pf.start, common_s n p q hd hq, eq_int, eq1]
theorem keeping_s (n : Nat) (x : Nat × Nat) (hd) (h : Sh x.1 x.2) : callN T (n + 3) 5 [shD x] hd = .ok (.val (.bl true)) hd := by
  obtain ⟨p, q⟩ := x
  obtain ⟨h1, h2, h3, h4⟩ := h
  dsimp only at h1 h2 h3 h4
  have e1 : decide (0 < q) = true := decide_eq_true (by omega)
  have e2 : decide (Nat.gcd p q = 1) = true := decide_eq_true h4
  have e3 : decide ((0 : Int) < (p : Int)) = true := decide_eq_true (by omega)
  have e4 : decide ((p : Int) ≤ (q : Int)) = true := decide_eq_true (by omega)
  rw [call_of (fn := t_is_keeping) rfl rfl]
  simp only [rb_ok, rb_exc, rb_bad, rt_ok, rt_exc, sb_nx, sb_rt, sb_exc, ro_some, so_some, sh_val, sh_own, tvd_val, tvd_own, tvd_brw, cr_ok, cr_exc, ec_nx, ec_val, ec_own, ec_exc, ev_c, ev_v, ev_p, ev_q, rdSq_val, rdSq_lst, rdSl_val, rdSl_own, rdSv_val, rdSv_own, ev_tup, ev_lst, ev_dct, ev_bin, ev_neg, ev_not, ev_and, ev_or, ev_cmp, ev_cmp2, ev_ite, ev_idx, ev_slc, ev_call, ev_blt, ev_bli, ev_isi, ev_comp, ev_lam, evs_nil, evs_cons, evp_nil, evp_cons, evR_nil, evR_cons, evT_nil, evT_not, evT_and, evT_or, evT_tv, evO_nil, evO_tv, evI_rng, evI_tv, evSh_eq, compL_nil, compL_cons, ex_skip, ex_seq, ex_set, ex_unp, ex_par, ex_six, ex_app, kApp0_own, kApp_eq, kApp1_own, ex_ex, ex_ret, ex_if, ex_for, ex_wh, ex_rse0, ex_mkh, forL_nil, forL_cons, kRet_val, kRet_own, kAnd_bl, kOr_bl, kNeg_int, kOpt_int, putV_val, putV_own, putX_nil, putX_nm, kBli_val, kBli_own, kItm_val, kItm_own, kComp2_ok, kMkh_ok, gz, gs, st_env, st_hd, at0, at1, at2, at3, at4, pl1, pl2, pl3, pl4, eq_int, has0, ls0, ls1, ls2, ls3, ls4, typed_non, isTy_non_int, isTy_non_bool, isTy_non_str, isTy_non_tup, isTy_non_lst, isTy_non_dic, typed_bl, isTy_bl_int, isTy_bl_bool, isTy_bl_str, isTy_bl_tup, isTy_bl_lst, isTy_bl_dic, typed_int, isTy_int_int, isTy_int_bool, isTy_int_str, isTy_int_tup, isTy_int_lst, isTy_int_dic, typed_str, isTy_str_int, isTy_str_bool, isTy_str_str, isTy_str_tup, isTy_str_lst, isTy_str_dic, typed_tup, isTy_tup_int, isTy_tup_bool, isTy_tup_str, isTy_tup_tup, isTy_tup_lst, isTy_tup_dic, typed_lst, isTy_lst_int, isTy_lst_bool, isTy_lst_str, isTy_lst_tup, isTy_lst_lst, isTy_lst_dic, typed_dic, isTy_dic_int, isTy_dic_bool, isTy_dic_str, isTy_dic_tup, isTy_dic_lst, isTy_dic_dic, truth_non, truth_bl, truth_int, truth_tup, truth_lst, binD_add, binD_sub, binD_mul, binD_fdiv, binD_mod, binD_pow, binD_shl, addD_int, subD_int, mulD_int, fdivD_int, modD_int, addD_lst, addD_tup, cmpD_eq, cmpD_ne, cmpD_lt, cmpD_le, cmpD_gt, cmpD_ge, cmpD_is, cmpD_isN, cmpD_mem, cmpD_memN, ltC_int, leC_int, isC_bl, idxD_tup, idxD_lst, idxD_hnd, blt_len, blt_abs, blt_int, blt_min2, blt_max2, len1_tup, len1_lst, absD_int, intD_int, min2D_int, max2D_int, items_tup, items_lst, bli_all, bli_any, bli_sum, bli_tupL, bli_tupT, bools_nil, bools_cons, slc_scr, slc_tup, slc_lst, kDct_nil, kLam_exc, kUnp_two, ls5, ls6, tvb, kTup, kLst, kBin2, kBin, kNot, kCmp2, kCmp, kChn4, kChn3, kChn2, kChn, kIte, kIdx2, kIdx, kSlc2, kSlc, kCall, kBlt, kIsi, kSh, kComp, kCons3, kCons2, kCons, kPons2, kPons, kRons2, kRons, kTnot, kTand, kTor, kTru, kRng, kSet, kPar, kSix2, kSix, kEx, kIf, kFor, kWh2, kCmpL2, kCmpL1, kCmpL, kForS, List.set_cons_zero, List.set_cons_succ, List.any_cons, List.any_nil, Bool.or_false, Bool.or_true, Bool.not_true, Bool.not_false, Bool.true_and, Bool.false_and, Option.map_some, Option.map_none, Option.bind_some, Option.bind_none, if_true, if_false, Bool.false_eq_true, List.length_cons, List.length_nil, List.map_cons, List.map_nil, List.cons_append, List.nil_append, List.replicate_zero, List.replicate_succ, Nat.reduceSub, Nat.reduceAdd, Nat.reduceLT, Nat.reduceLeDiff, Int.reduceLT, Int.reduceLE, Int.reduceNeg, Int.reduceToNat, Int.reduceMul, Int.reduceAdd, Int.reducePow, reduceIte, List.length_map, decide_true, decide_false, Int.cast_ofNat_Int, Bool.and_true, Bool.and_false, Tg.slots, noOwn, List.all_cons, List.all_nil, Pf.wipe, Pf.restore, List.foldl_cons, List.foldl_nil, Pf.start, t_is_keeping, shD, is_share_s n p q hd (by omega), e1, e2, e3, e4]
theorem all_loop (n : Nat) (v : Pf.Slot) (hd) : ∀ (hs : List (Nat × Nat)), (∀ x ∈ hs, Sh x.1 x.2) → compL [1] (.nm 1) (evT ⟨callN T (n + 3), T.ret, T.word⟩ .nil) (evSh ⟨callN T (n + 3), T.ret, T.word⟩ (.call 5 (.cons (.v 1) .nil))) (hs.map shD) ⟨[v, .un], hd⟩ = .ok (hs.map fun _ => .bl true) ⟨[v, .un], hd⟩
  | [], _ => rfl
  | x :: hs, h => by
    simp only [rb_ok, rb_exc, rb_bad, rt_ok, rt_exc, sb_nx, sb_rt, sb_exc, ro_some, so_some, sh_val, sh_own, tvd_val, tvd_own, tvd_brw, cr_ok, cr_exc, ec_nx, ec_val, ec_own, ec_exc, ev_c, ev_v, ev_p, ev_q, rdSq_val, rdSq_lst, rdSl_val, rdSl_own, rdSv_val, rdSv_own, ev_tup, ev_lst, ev_dct, ev_bin, ev_neg, ev_not, ev_and, ev_or, ev_cmp, ev_cmp2, ev_ite, ev_idx, ev_slc, ev_call, ev_blt, ev_bli, ev_isi, ev_comp, ev_lam, evs_nil, evs_cons, evp_nil, evp_cons, evR_nil, evR_cons, evT_nil, evT_not, evT_and, evT_or, evT_tv, evO_nil, evO_tv, evI_rng, evI_tv, evSh_eq, compL_nil, compL_cons, ex_skip, ex_seq, ex_set, ex_unp, ex_par, ex_six, ex_app, kApp0_own, kApp_eq, kApp1_own, ex_ex, ex_ret, ex_if, ex_for, ex_wh, ex_rse0, ex_mkh, forL_nil, forL_cons, kRet_val, kRet_own, kAnd_bl, kOr_bl, kNeg_int, kOpt_int, putV_val, putV_own, putX_nil, putX_nm, kBli_val, kBli_own, kItm_val, kItm_own, kComp2_ok, kMkh_ok, gz, gs, st_env, st_hd, at0, at1, at2, at3, at4, pl1, pl2, pl3, pl4, eq_int, has0, ls0, ls1, ls2, ls3, ls4, typed_non, isTy_non_int, isTy_non_bool, isTy_non_str, isTy_non_tup, isTy_non_lst, isTy_non_dic, typed_bl, isTy_bl_int, isTy_bl_bool, isTy_bl_str, isTy_bl_tup, isTy_bl_lst, isTy_bl_dic, typed_int, isTy_int_int, isTy_int_bool, isTy_int_str, isTy_int_tup, isTy_int_lst, isTy_int_dic, typed_str, isTy_str_int, isTy_str_bool, isTy_str_str, isTy_str_tup, isTy_str_lst, isTy_str_dic, typed_tup, isTy_tup_int, isTy_tup_bool, isTy_tup_str, isTy_tup_tup, isTy_tup_lst, isTy_tup_dic, typed_lst, isTy_lst_int, isTy_lst_bool, isTy_lst_str, isTy_lst_tup, isTy_lst_lst, isTy_lst_dic, typed_dic, isTy_dic_int, isTy_dic_bool, isTy_dic_str, isTy_dic_tup, isTy_dic_lst, isTy_dic_dic, truth_non, truth_bl, truth_int, truth_tup, truth_lst, binD_add, binD_sub, binD_mul, binD_fdiv, binD_mod, binD_pow, binD_shl, addD_int, subD_int, mulD_int, fdivD_int, modD_int, addD_lst, addD_tup, cmpD_eq, cmpD_ne, cmpD_lt, cmpD_le, cmpD_gt, cmpD_ge, cmpD_is, cmpD_isN, cmpD_mem, cmpD_memN, ltC_int, leC_int, isC_bl, idxD_tup, idxD_lst, idxD_hnd, blt_len, blt_abs, blt_int, blt_min2, blt_max2, len1_tup, len1_lst, absD_int, intD_int, min2D_int, max2D_int, items_tup, items_lst, bli_all, bli_any, bli_sum, bli_tupL, bli_tupT, bools_nil, bools_cons, slc_scr, slc_tup, slc_lst, kDct_nil, kLam_exc, kUnp_two, ls5, ls6, tvb, kTup, kLst, kBin2, kBin, kNot, kCmp2, kCmp, kChn4, kChn3, kChn2, kChn, kIte, kIdx2, kIdx, kSlc2, kSlc, kCall, kBlt, kIsi, kSh, kComp, kCons3, kCons2, kCons, kPons2, kPons, kRons2, kRons, kTnot, kTand, kTor, kTru, kRng, kSet, kPar, kSix2, kSix, kEx, kIf, kFor, kWh2, kCmpL2, kCmpL1, kCmpL, kForS, List.set_cons_zero, List.set_cons_succ, List.any_cons, List.any_nil, Bool.or_false, Bool.or_true, Bool.not_true, Bool.not_false, Bool.true_and, Bool.false_and, Option.map_some, Option.map_none, Option.bind_some, Option.bind_none, if_true, if_false, Bool.false_eq_true, List.length_cons, List.length_nil, List.map_cons, List.map_nil, List.cons_append, List.nil_append, List.replicate_zero, List.replicate_succ, Nat.reduceSub, Nat.reduceAdd, Nat.reduceLT, Nat.reduceLeDiff, Int.reduceLT, Int.reduceLE, Int.reduceNeg, Int.reduceToNat, Int.reduceMul, Int.reduceAdd, Int.reducePow, reduceIte, List.length_map, decide_true, decide_false, Int.cast_ofNat_Int, Bool.and_true, Bool.and_false, Tg.slots, noOwn, List.all_cons, List.all_nil, Pf.wipe, Pf.restore, List.foldl_cons, List.foldl_nil, Pf.start, keeping_s n x hd (h x List.mem_cons_self)]
    rw [all_loop n v hd hs fun y hy => h y (List.mem_cons_of_mem _ hy)]
    simp only [rb_ok, rb_exc, rb_bad, rt_ok, rt_exc, sb_nx, sb_rt, sb_exc, ro_some, so_some, sh_val, sh_own, tvd_val, tvd_own, tvd_brw, cr_ok, cr_exc, ec_nx, ec_val, ec_own, ec_exc, ev_c, ev_v, ev_p, ev_q, rdSq_val, rdSq_lst, rdSl_val, rdSl_own, rdSv_val, rdSv_own, ev_tup, ev_lst, ev_dct, ev_bin, ev_neg, ev_not, ev_and, ev_or, ev_cmp, ev_cmp2, ev_ite, ev_idx, ev_slc, ev_call, ev_blt, ev_bli, ev_isi, ev_comp, ev_lam, evs_nil, evs_cons, evp_nil, evp_cons, evR_nil, evR_cons, evT_nil, evT_not, evT_and, evT_or, evT_tv, evO_nil, evO_tv, evI_rng, evI_tv, evSh_eq, compL_nil, compL_cons, ex_skip, ex_seq, ex_set, ex_unp, ex_par, ex_six, ex_app, kApp0_own, kApp_eq, kApp1_own, ex_ex, ex_ret, ex_if, ex_for, ex_wh, ex_rse0, ex_mkh, forL_nil, forL_cons, kRet_val, kRet_own, kAnd_bl, kOr_bl, kNeg_int, kOpt_int, putV_val, putV_own, putX_nil, putX_nm, kBli_val, kBli_own, kItm_val, kItm_own, kComp2_ok, kMkh_ok, gz, gs, st_env, st_hd, at0, at1, at2, at3, at4, pl1, pl2, pl3, pl4, eq_int, has0, ls0, ls1, ls2, ls3, ls4, typed_non, isTy_non_int, isTy_non_bool, isTy_non_str, isTy_non_tup, isTy_non_lst, isTy_non_dic, typed_bl, isTy_bl_int, isTy_bl_bool, isTy_bl_str, isTy_bl_tup, isTy_bl_lst, isTy_bl_dic, typed_int, isTy_int_int, isTy_int_bool, isTy_int_str, isTy_int_tup, isTy_int_lst, isTy_int_dic, typed_str, isTy_str_int, isTy_str_bool, isTy_str_str, isTy_str_tup, isTy_str_lst, isTy_str_dic, typed_tup, isTy_tup_int, isTy_tup_bool, isTy_tup_str, isTy_tup_tup, isTy_tup_lst, isTy_tup_dic, typed_lst, isTy_lst_int, isTy_lst_bool, isTy_lst_str, isTy_lst_tup, isTy_lst_lst, isTy_lst_dic, typed_dic, isTy_dic_int, isTy_dic_bool, isTy_dic_str, isTy_dic_tup, isTy_dic_lst, isTy_dic_dic, truth_non, truth_bl, truth_int, truth_tup, truth_lst, binD_add, binD_sub, binD_mul, binD_fdiv, binD_mod, binD_pow, binD_shl, addD_int, subD_int, mulD_int, fdivD_int, modD_int, addD_lst, addD_tup, cmpD_eq, cmpD_ne, cmpD_lt, cmpD_le, cmpD_gt, cmpD_ge, cmpD_is, cmpD_isN, cmpD_mem, cmpD_memN, ltC_int, leC_int, isC_bl, idxD_tup, idxD_lst, idxD_hnd, blt_len, blt_abs, blt_int, blt_min2, blt_max2, len1_tup, len1_lst, absD_int, intD_int, min2D_int, max2D_int, items_tup, items_lst, bli_all, bli_any, bli_sum, bli_tupL, bli_tupT, bools_nil, bools_cons, slc_scr, slc_tup, slc_lst, kDct_nil, kLam_exc, kUnp_two, ls5, ls6, tvb, kTup, kLst, kBin2, kBin, kNot, kCmp2, kCmp, kChn4, kChn3, kChn2, kChn, kIte, kIdx2, kIdx, kSlc2, kSlc, kCall, kBlt, kIsi, kSh, kComp, kCons3, kCons2, kCons, kPons2, kPons, kRons2, kRons, kTnot, kTand, kTor, kTru, kRng, kSet, kPar, kSix2, kSix, kEx, kIf, kFor, kWh2, kCmpL2, kCmpL1, kCmpL, kForS, List.set_cons_zero, List.set_cons_succ, List.any_cons, List.any_nil, Bool.or_false, Bool.or_true, Bool.not_true, Bool.not_false, Bool.true_and, Bool.false_and, Option.map_some, Option.map_none, Option.bind_some, Option.bind_none, if_true, if_false, Bool.false_eq_true, List.length_cons, List.length_nil, List.map_cons, List.map_nil, List.cons_append, List.nil_append, List.replicate_zero, List.replicate_succ, Nat.reduceSub, Nat.reduceAdd, Nat.reduceLT, Nat.reduceLeDiff, Int.reduceLT, Int.reduceLE, Int.reduceNeg, Int.reduceToNat, Int.reduceMul, Int.reduceAdd, Int.reducePow, reduceIte, List.length_map, decide_true, decide_false, Int.cast_ofNat_Int, Bool.and_true, Bool.and_false, Tg.slots, noOwn, List.all_cons, List.all_nil, Pf.wipe, Pf.restore, List.foldl_cons, List.foldl_nil, Pf.start]
theorem bools_true {α : Type} : ∀ l : List α, ∃ bs, bools (l.map fun _ => D.bl true) = some bs ∧ bs.all id = true
  | [] => ⟨[], rfl, rfl⟩
  | _ :: l => by
    obtain ⟨bs, h1, h2⟩ := bools_true l
    exact ⟨true :: bs, by simp only [List.map_cons, bools_cons, h1, Option.map_some], by simp [h2]⟩
theorem are_heats_s (n : Nat) (hs : List (Nat × Nat)) (hd) (h : Hs hs) : callN T (n + 4) 6 [hsD hs] hd = .ok (.val (.bl true)) hd := by
  obtain ⟨h1, h2, h3⟩ := h
  have e1 : decide ((1 : Int) ≤ (hs.length : Int)) = true := decide_eq_true (by omega)
  have e2 : decide ((hs.length : Int) ≤ 4) = true := decide_eq_true (by omega)
  obtain ⟨bs, b1, b2⟩ := bools_true hs
  rw [call_of (fn := t_are_heats) rfl rfl]
  simp only [rb_ok, rb_exc, rb_bad, rt_ok, rt_exc, sb_nx, sb_rt, sb_exc, ro_some, so_some, sh_val, sh_own, tvd_val, tvd_own, tvd_brw, cr_ok, cr_exc, ec_nx, ec_val, ec_own, ec_exc, ev_c, ev_v, ev_p, ev_q, rdSq_val, rdSq_lst, rdSl_val, rdSl_own, rdSv_val, rdSv_own, ev_tup, ev_lst, ev_dct, ev_bin, ev_neg, ev_not, ev_and, ev_or, ev_cmp, ev_cmp2, ev_ite, ev_idx, ev_slc, ev_call, ev_blt, ev_bli, ev_isi, ev_comp, ev_lam, evs_nil, evs_cons, evp_nil, evp_cons, evR_nil, evR_cons, evT_nil, evT_not, evT_and, evT_or, evT_tv, evO_nil, evO_tv, evI_rng, evI_tv, evSh_eq, compL_nil, compL_cons, ex_skip, ex_seq, ex_set, ex_unp, ex_par, ex_six, ex_app, kApp0_own, kApp_eq, kApp1_own, ex_ex, ex_ret, ex_if, ex_for, ex_wh, ex_rse0, ex_mkh, forL_nil, forL_cons, kRet_val, kRet_own, kAnd_bl, kOr_bl, kNeg_int, kOpt_int, putV_val, putV_own, putX_nil, putX_nm, kBli_val, kBli_own, kItm_val, kItm_own, kComp2_ok, kMkh_ok, gz, gs, st_env, st_hd, at0, at1, at2, at3, at4, pl1, pl2, pl3, pl4, eq_int, has0, ls0, ls1, ls2, ls3, ls4, typed_non, isTy_non_int, isTy_non_bool, isTy_non_str, isTy_non_tup, isTy_non_lst, isTy_non_dic, typed_bl, isTy_bl_int, isTy_bl_bool, isTy_bl_str, isTy_bl_tup, isTy_bl_lst, isTy_bl_dic, typed_int, isTy_int_int, isTy_int_bool, isTy_int_str, isTy_int_tup, isTy_int_lst, isTy_int_dic, typed_str, isTy_str_int, isTy_str_bool, isTy_str_str, isTy_str_tup, isTy_str_lst, isTy_str_dic, typed_tup, isTy_tup_int, isTy_tup_bool, isTy_tup_str, isTy_tup_tup, isTy_tup_lst, isTy_tup_dic, typed_lst, isTy_lst_int, isTy_lst_bool, isTy_lst_str, isTy_lst_tup, isTy_lst_lst, isTy_lst_dic, typed_dic, isTy_dic_int, isTy_dic_bool, isTy_dic_str, isTy_dic_tup, isTy_dic_lst, isTy_dic_dic, truth_non, truth_bl, truth_int, truth_tup, truth_lst, binD_add, binD_sub, binD_mul, binD_fdiv, binD_mod, binD_pow, binD_shl, addD_int, subD_int, mulD_int, fdivD_int, modD_int, addD_lst, addD_tup, cmpD_eq, cmpD_ne, cmpD_lt, cmpD_le, cmpD_gt, cmpD_ge, cmpD_is, cmpD_isN, cmpD_mem, cmpD_memN, ltC_int, leC_int, isC_bl, idxD_tup, idxD_lst, idxD_hnd, blt_len, blt_abs, blt_int, blt_min2, blt_max2, len1_tup, len1_lst, absD_int, intD_int, min2D_int, max2D_int, items_tup, items_lst, bli_all, bli_any, bli_sum, bli_tupL, bli_tupT, bools_nil, bools_cons, slc_scr, slc_tup, slc_lst, kDct_nil, kLam_exc, kUnp_two, ls5, ls6, tvb, kTup, kLst, kBin2, kBin, kNot, kCmp2, kCmp, kChn4, kChn3, kChn2, kChn, kIte, kIdx2, kIdx, kSlc2, kSlc, kCall, kBlt, kIsi, kSh, kComp, kCons3, kCons2, kCons, kPons2, kPons, kRons2, kRons, kTnot, kTand, kTor, kTru, kRng, kSet, kPar, kSix2, kSix, kEx, kIf, kFor, kWh2, kCmpL2, kCmpL1, kCmpL, kForS, List.set_cons_zero, List.set_cons_succ, List.any_cons, List.any_nil, Bool.or_false, Bool.or_true, Bool.not_true, Bool.not_false, Bool.true_and, Bool.false_and, Option.map_some, Option.map_none, Option.bind_some, Option.bind_none, if_true, if_false, Bool.false_eq_true, List.length_cons, List.length_nil, List.map_cons, List.map_nil, List.cons_append, List.nil_append, List.replicate_zero, List.replicate_succ, Nat.reduceSub, Nat.reduceAdd, Nat.reduceLT, Nat.reduceLeDiff, Int.reduceLT, Int.reduceLE, Int.reduceNeg, Int.reduceToNat, Int.reduceMul, Int.reduceAdd, Int.reducePow, reduceIte, List.length_map, decide_true, decide_false, Int.cast_ofNat_Int, Bool.and_true, Bool.and_false, Tg.slots, noOwn, List.all_cons, List.all_nil, Pf.wipe, Pf.restore, List.foldl_cons, List.foldl_nil, Pf.start, t_are_heats, hsD, sized_s, e1, e2]
  rw [all_loop n _ hd hs h3]
  simp only [rb_ok, rb_exc, rb_bad, rt_ok, rt_exc, sb_nx, sb_rt, sb_exc, ro_some, so_some, sh_val, sh_own, tvd_val, tvd_own, tvd_brw, cr_ok, cr_exc, ec_nx, ec_val, ec_own, ec_exc, ev_c, ev_v, ev_p, ev_q, rdSq_val, rdSq_lst, rdSl_val, rdSl_own, rdSv_val, rdSv_own, ev_tup, ev_lst, ev_dct, ev_bin, ev_neg, ev_not, ev_and, ev_or, ev_cmp, ev_cmp2, ev_ite, ev_idx, ev_slc, ev_call, ev_blt, ev_bli, ev_isi, ev_comp, ev_lam, evs_nil, evs_cons, evp_nil, evp_cons, evR_nil, evR_cons, evT_nil, evT_not, evT_and, evT_or, evT_tv, evO_nil, evO_tv, evI_rng, evI_tv, evSh_eq, compL_nil, compL_cons, ex_skip, ex_seq, ex_set, ex_unp, ex_par, ex_six, ex_app, kApp0_own, kApp_eq, kApp1_own, ex_ex, ex_ret, ex_if, ex_for, ex_wh, ex_rse0, ex_mkh, forL_nil, forL_cons, kRet_val, kRet_own, kAnd_bl, kOr_bl, kNeg_int, kOpt_int, putV_val, putV_own, putX_nil, putX_nm, kBli_val, kBli_own, kItm_val, kItm_own, kComp2_ok, kMkh_ok, gz, gs, st_env, st_hd, at0, at1, at2, at3, at4, pl1, pl2, pl3, pl4, eq_int, has0, ls0, ls1, ls2, ls3, ls4, typed_non, isTy_non_int, isTy_non_bool, isTy_non_str, isTy_non_tup, isTy_non_lst, isTy_non_dic, typed_bl, isTy_bl_int, isTy_bl_bool, isTy_bl_str, isTy_bl_tup, isTy_bl_lst, isTy_bl_dic, typed_int, isTy_int_int, isTy_int_bool, isTy_int_str, isTy_int_tup, isTy_int_lst, isTy_int_dic, typed_str, isTy_str_int, isTy_str_bool, isTy_str_str, isTy_str_tup, isTy_str_lst, isTy_str_dic, typed_tup, isTy_tup_int, isTy_tup_bool, isTy_tup_str, isTy_tup_tup, isTy_tup_lst, isTy_tup_dic, typed_lst, isTy_lst_int, isTy_lst_bool, isTy_lst_str, isTy_lst_tup, isTy_lst_lst, isTy_lst_dic, typed_dic, isTy_dic_int, isTy_dic_bool, isTy_dic_str, isTy_dic_tup, isTy_dic_lst, isTy_dic_dic, truth_non, truth_bl, truth_int, truth_tup, truth_lst, binD_add, binD_sub, binD_mul, binD_fdiv, binD_mod, binD_pow, binD_shl, addD_int, subD_int, mulD_int, fdivD_int, modD_int, addD_lst, addD_tup, cmpD_eq, cmpD_ne, cmpD_lt, cmpD_le, cmpD_gt, cmpD_ge, cmpD_is, cmpD_isN, cmpD_mem, cmpD_memN, ltC_int, leC_int, isC_bl, idxD_tup, idxD_lst, idxD_hnd, blt_len, blt_abs, blt_int, blt_min2, blt_max2, len1_tup, len1_lst, absD_int, intD_int, min2D_int, max2D_int, items_tup, items_lst, bli_all, bli_any, bli_sum, bli_tupL, bli_tupT, bools_nil, bools_cons, slc_scr, slc_tup, slc_lst, kDct_nil, kLam_exc, kUnp_two, ls5, ls6, tvb, kTup, kLst, kBin2, kBin, kNot, kCmp2, kCmp, kChn4, kChn3, kChn2, kChn, kIte, kIdx2, kIdx, kSlc2, kSlc, kCall, kBlt, kIsi, kSh, kComp, kCons3, kCons2, kCons, kPons2, kPons, kRons2, kRons, kTnot, kTand, kTor, kTru, kRng, kSet, kPar, kSix2, kSix, kEx, kIf, kFor, kWh2, kCmpL2, kCmpL1, kCmpL, kForS, List.set_cons_zero, List.set_cons_succ, List.any_cons, List.any_nil, Bool.or_false, Bool.or_true, Bool.not_true, Bool.not_false, Bool.true_and, Bool.false_and, Option.map_some, Option.map_none, Option.bind_some, Option.bind_none, if_true, if_false, Bool.false_eq_true, List.length_cons, List.length_nil, List.map_cons, List.map_nil, List.cons_append, List.nil_append, List.replicate_zero, List.replicate_succ, Nat.reduceSub, Nat.reduceAdd, Nat.reduceLT, Nat.reduceLeDiff, Int.reduceLT, Int.reduceLE, Int.reduceNeg, Int.reduceToNat, Int.reduceMul, Int.reduceAdd, Int.reducePow, reduceIte, List.length_map, decide_true, decide_false, Int.cast_ofNat_Int, Bool.and_true, Bool.and_false, Tg.slots, noOwn, List.all_cons, List.all_nil, Pf.wipe, Pf.restore, List.foldl_cons, List.foldl_nil, Pf.start, b1, b2]
inductive Deep : D → Prop
  | str (x : Str) : Deep (.str x)
  | lst {d : D} : Deep d → Deep (.lst [d])
  | tup {d : D} : Deep d → Deep (.tup [d])
theorem deep_loop (n : Nat) : ∀ (ds : List D) (h : List D) (x y : Pf.Slot) (d : D), HI h → Deep d → (x = .val d ∨ x = .own d) → ∃ (x' y' : Pf.Slot) (d' : D) (h' : List D),
    forL (.nm 2) (ex ⟨callN T (n + 2), T.ret, T.word⟩ (.seq (.set 1 (.ite (.tv (.cmp .eq (.call 16 (.cons (.v 0) (.cons (.c (.int 2)) .nil))) (.c (.int 0)))) (.lst (.cons (.v 1) .nil)) (.tup (.cons (.v 1) .nil)))) .skip)) ds ⟨[.val .hnd, x, y], some h⟩ = .nx ⟨[.val .hnd, x', y'], some h'⟩ ∧ Deep d' ∧ (x' = .val d' ∨ x' = .own d') ∧ HI h'
  | [], h, x, y, d, hi, dd, hx => ⟨x, y, d, h, rfl, dd, hx, hi⟩
  | e :: ds, h, x, y, d, hi, dd, hx => by
    obtain ⟨r, h1, e1, i1, r0, r1⟩ := draw_s (n + 1) h hi 2 (by decide) (by decide)
    by_cases c : r = 0
    · obtain ⟨x', y', d', h', q1, q2⟩ := deep_loop n ds h1 (.own (.lst [d])) (.val e) (.lst [d]) i1 (.lst dd) (.inr rfl)
      refine ⟨x', y', d', h', ?_, q2⟩
      rw [← q1]
      rcases hx with rfl | rfl
      · simp only [rb_ok, rb_exc, rb_bad, rt_ok, rt_exc, sb_nx, sb_rt, sb_exc, ro_some, so_some, sh_val, sh_own, tvd_val, tvd_own, tvd_brw, cr_ok, cr_exc, ec_nx, ec_val, ec_own, ec_exc, ev_c, ev_v, ev_p, ev_q, rdSq_val, rdSq_lst, rdSl_val, rdSl_own, rdSv_val, rdSv_own, ev_tup, ev_lst, ev_dct, ev_bin, ev_neg, ev_not, ev_and, ev_or, ev_cmp, ev_cmp2, ev_ite, ev_idx, ev_slc, ev_call, ev_blt, ev_bli, ev_isi, ev_comp, ev_lam, evs_nil, evs_cons, evp_nil, evp_cons, evR_nil, evR_cons, evT_nil, evT_not, evT_and, evT_or, evT_tv, evO_nil, evO_tv, evI_rng, evI_tv, evSh_eq, compL_nil, compL_cons, ex_skip, ex_seq, ex_set, ex_unp, ex_par, ex_six, ex_app, kApp0_own, kApp_eq, kApp1_own, ex_ex, ex_ret, ex_if, ex_for, ex_wh, ex_rse0, ex_mkh, forL_nil, forL_cons, kRet_val, kRet_own, kAnd_bl, kOr_bl, kNeg_int, kOpt_int, putV_val, putV_own, putX_nil, putX_nm, kBli_val, kBli_own, kItm_val, kItm_own, kComp2_ok, kMkh_ok, gz, gs, st_env, st_hd, at0, at1, at2, at3, at4, pl1, pl2, pl3, pl4, eq_int, has0, ls0, ls1, ls2, ls3, ls4, typed_non, isTy_non_int, isTy_non_bool, isTy_non_str, isTy_non_tup, isTy_non_lst, isTy_non_dic, typed_bl, isTy_bl_int, isTy_bl_bool, isTy_bl_str, isTy_bl_tup, isTy_bl_lst, isTy_bl_dic, typed_int, isTy_int_int, isTy_int_bool, isTy_int_str, isTy_int_tup, isTy_int_lst, isTy_int_dic, typed_str, isTy_str_int, isTy_str_bool, isTy_str_str, isTy_str_tup, isTy_str_lst, isTy_str_dic, typed_tup, isTy_tup_int, isTy_tup_bool, isTy_tup_str, isTy_tup_tup, isTy_tup_lst, isTy_tup_dic, typed_lst, isTy_lst_int, isTy_lst_bool, isTy_lst_str, isTy_lst_tup, isTy_lst_lst, isTy_lst_dic, typed_dic, isTy_dic_int, isTy_dic_bool, isTy_dic_str, isTy_dic_tup, isTy_dic_lst, isTy_dic_dic, truth_non, truth_bl, truth_int, truth_tup, truth_lst, binD_add, binD_sub, binD_mul, binD_fdiv, binD_mod, binD_pow, binD_shl, addD_int, subD_int, mulD_int, fdivD_int, modD_int, addD_lst, addD_tup, cmpD_eq, cmpD_ne, cmpD_lt, cmpD_le, cmpD_gt, cmpD_ge, cmpD_is, cmpD_isN, cmpD_mem, cmpD_memN, ltC_int, leC_int, isC_bl, idxD_tup, idxD_lst, idxD_hnd, blt_len, blt_abs, blt_int, blt_min2, blt_max2, len1_tup, len1_lst, absD_int, intD_int, min2D_int, max2D_int, items_tup, items_lst, bli_all, bli_any, bli_sum, bli_tupL, bli_tupT, bools_nil, bools_cons, slc_scr, slc_tup, slc_lst, kDct_nil, kLam_exc, kUnp_two, ls5, ls6, tvb, kTup, kLst, kBin2, kBin, kNot, kCmp2, kCmp, kChn4, kChn3, kChn2, kChn, kIte, kIdx2, kIdx, kSlc2, kSlc, kCall, kBlt, kIsi, kSh, kComp, kCons3, kCons2, kCons, kPons2, kPons, kRons2, kRons, kTnot, kTand, kTor, kTru, kRng, kSet, kPar, kSix2, kSix, kEx, kIf, kFor, kWh2, kCmpL2, kCmpL1, kCmpL, kForS, List.set_cons_zero, List.set_cons_succ, List.any_cons, List.any_nil, Bool.or_false, Bool.or_true, Bool.not_true, Bool.not_false, Bool.true_and, Bool.false_and, Option.map_some, Option.map_none, Option.bind_some, Option.bind_none, if_true, if_false, Bool.false_eq_true, List.length_cons, List.length_nil, List.map_cons, List.map_nil, List.cons_append, List.nil_append, List.replicate_zero, List.replicate_succ, Nat.reduceSub, Nat.reduceAdd, Nat.reduceLT, Nat.reduceLeDiff, Int.reduceLT, Int.reduceLE, Int.reduceNeg, Int.reduceToNat, Int.reduceMul, Int.reduceAdd, Int.reducePow, reduceIte, List.length_map, decide_true, decide_false, Int.cast_ofNat_Int, Bool.and_true, Bool.and_false, Tg.slots, noOwn, List.all_cons, List.all_nil, Pf.wipe, Pf.restore, List.foldl_cons, List.foldl_nil, Pf.start, e1, eq_int, c]
      · simp only [rb_ok, rb_exc, rb_bad, rt_ok, rt_exc, sb_nx, sb_rt, sb_exc, ro_some, so_some, sh_val, sh_own, tvd_val, tvd_own, tvd_brw, cr_ok, cr_exc, ec_nx, ec_val, ec_own, ec_exc, ev_c, ev_v, ev_p, ev_q, rdSq_val, rdSq_lst, rdSl_val, rdSl_own, rdSv_val, rdSv_own, ev_tup, ev_lst, ev_dct, ev_bin, ev_neg, ev_not, ev_and, ev_or, ev_cmp, ev_cmp2, ev_ite, ev_idx, ev_slc, ev_call, ev_blt, ev_bli, ev_isi, ev_comp, ev_lam, evs_nil, evs_cons, evp_nil, evp_cons, evR_nil, evR_cons, evT_nil, evT_not, evT_and, evT_or, evT_tv, evO_nil, evO_tv, evI_rng, evI_tv, evSh_eq, compL_nil, compL_cons, ex_skip, ex_seq, ex_set, ex_unp, ex_par, ex_six, ex_app, kApp0_own, kApp_eq, kApp1_own, ex_ex, ex_ret, ex_if, ex_for, ex_wh, ex_rse0, ex_mkh, forL_nil, forL_cons, kRet_val, kRet_own, kAnd_bl, kOr_bl, kNeg_int, kOpt_int, putV_val, putV_own, putX_nil, putX_nm, kBli_val, kBli_own, kItm_val, kItm_own, kComp2_ok, kMkh_ok, gz, gs, st_env, st_hd, at0, at1, at2, at3, at4, pl1, pl2, pl3, pl4, eq_int, has0, ls0, ls1, ls2, ls3, ls4, typed_non, isTy_non_int, isTy_non_bool, isTy_non_str, isTy_non_tup, isTy_non_lst, isTy_non_dic, typed_bl, isTy_bl_int, isTy_bl_bool, isTy_bl_str, isTy_bl_tup, isTy_bl_lst, isTy_bl_dic, typed_int, isTy_int_int, isTy_int_bool, isTy_int_str, isTy_int_tup, isTy_int_lst, isTy_int_dic, typed_str, isTy_str_int, isTy_str_bool, isTy_str_str, isTy_str_tup, isTy_str_lst, isTy_str_dic, typed_tup, isTy_tup_int, isTy_tup_bool, isTy_tup_str, isTy_tup_tup, isTy_tup_lst, isTy_tup_dic, typed_lst, isTy_lst_int, isTy_lst_bool, isTy_lst_str, isTy_lst_tup, isTy_lst_lst, isTy_lst_dic, typed_dic, isTy_dic_int, isTy_dic_bool, isTy_dic_str, isTy_dic_tup, isTy_dic_lst, isTy_dic_dic, truth_non, truth_bl, truth_int, truth_tup, truth_lst, binD_add, binD_sub, binD_mul, binD_fdiv, binD_mod, binD_pow, binD_shl, addD_int, subD_int, mulD_int, fdivD_int, modD_int, addD_lst, addD_tup, cmpD_eq, cmpD_ne, cmpD_lt, cmpD_le, cmpD_gt, cmpD_ge, cmpD_is, cmpD_isN, cmpD_mem, cmpD_memN, ltC_int, leC_int, isC_bl, idxD_tup, idxD_lst, idxD_hnd, blt_len, blt_abs, blt_int, blt_min2, blt_max2, len1_tup, len1_lst, absD_int, intD_int, min2D_int, max2D_int, items_tup, items_lst, bli_all, bli_any, bli_sum, bli_tupL, bli_tupT, bools_nil, bools_cons, slc_scr, slc_tup, slc_lst, kDct_nil, kLam_exc, kUnp_two, ls5, ls6, tvb, kTup, kLst, kBin2, kBin, kNot, kCmp2, kCmp, kChn4, kChn3, kChn2, kChn, kIte, kIdx2, kIdx, kSlc2, kSlc, kCall, kBlt, kIsi, kSh, kComp, kCons3, kCons2, kCons, kPons2, kPons, kRons2, kRons, kTnot, kTand, kTor, kTru, kRng, kSet, kPar, kSix2, kSix, kEx, kIf, kFor, kWh2, kCmpL2, kCmpL1, kCmpL, kForS, List.set_cons_zero, List.set_cons_succ, List.any_cons, List.any_nil, Bool.or_false, Bool.or_true, Bool.not_true, Bool.not_false, Bool.true_and, Bool.false_and, Option.map_some, Option.map_none, Option.bind_some, Option.bind_none, if_true, if_false, Bool.false_eq_true, List.length_cons, List.length_nil, List.map_cons, List.map_nil, List.cons_append, List.nil_append, List.replicate_zero, List.replicate_succ, Nat.reduceSub, Nat.reduceAdd, Nat.reduceLT, Nat.reduceLeDiff, Int.reduceLT, Int.reduceLE, Int.reduceNeg, Int.reduceToNat, Int.reduceMul, Int.reduceAdd, Int.reducePow, reduceIte, List.length_map, decide_true, decide_false, Int.cast_ofNat_Int, Bool.and_true, Bool.and_false, Tg.slots, noOwn, List.all_cons, List.all_nil, Pf.wipe, Pf.restore, List.foldl_cons, List.foldl_nil, Pf.start, e1, eq_int, c]
    · obtain ⟨x', y', d', h', q1, q2⟩ := deep_loop n ds h1 (.val (.tup [d])) (.val e) (.tup [d]) i1 (.tup dd) (.inl rfl)
      refine ⟨x', y', d', h', ?_, q2⟩
      rw [← q1]
      rcases hx with rfl | rfl
      · simp only [rb_ok, rb_exc, rb_bad, rt_ok, rt_exc, sb_nx, sb_rt, sb_exc, ro_some, so_some, sh_val, sh_own, tvd_val, tvd_own, tvd_brw, cr_ok, cr_exc, ec_nx, ec_val, ec_own, ec_exc, ev_c, ev_v, ev_p, ev_q, rdSq_val, rdSq_lst, rdSl_val, rdSl_own, rdSv_val, rdSv_own, ev_tup, ev_lst, ev_dct, ev_bin, ev_neg, ev_not, ev_and, ev_or, ev_cmp, ev_cmp2, ev_ite, ev_idx, ev_slc, ev_call, ev_blt, ev_bli, ev_isi, ev_comp, ev_lam, evs_nil, evs_cons, evp_nil, evp_cons, evR_nil, evR_cons, evT_nil, evT_not, evT_and, evT_or, evT_tv, evO_nil, evO_tv, evI_rng, evI_tv, evSh_eq, compL_nil, compL_cons, ex_skip, ex_seq, ex_set, ex_unp, ex_par, ex_six, ex_app, kApp0_own, kApp_eq, kApp1_own, ex_ex, ex_ret, ex_if, ex_for, ex_wh, ex_rse0, ex_mkh, forL_nil, forL_cons, kRet_val, kRet_own, kAnd_bl, kOr_bl, kNeg_int, kOpt_int, putV_val, putV_own, putX_nil, putX_nm, kBli_val, kBli_own, kItm_val, kItm_own, kComp2_ok, kMkh_ok, gz, gs, st_env, st_hd, at0, at1, at2, at3, at4, pl1, pl2, pl3, pl4, eq_int, has0, ls0, ls1, ls2, ls3, ls4, typed_non, isTy_non_int, isTy_non_bool, isTy_non_str, isTy_non_tup, isTy_non_lst, isTy_non_dic, typed_bl, isTy_bl_int, isTy_bl_bool, isTy_bl_str, isTy_bl_tup, isTy_bl_lst, isTy_bl_dic, typed_int, isTy_int_int, isTy_int_bool, isTy_int_str, isTy_int_tup, isTy_int_lst, isTy_int_dic, typed_str, isTy_str_int, isTy_str_bool, isTy_str_str, isTy_str_tup, isTy_str_lst, isTy_str_dic, typed_tup, isTy_tup_int, isTy_tup_bool, isTy_tup_str, isTy_tup_tup, isTy_tup_lst, isTy_tup_dic, typed_lst, isTy_lst_int, isTy_lst_bool, isTy_lst_str, isTy_lst_tup, isTy_lst_lst, isTy_lst_dic, typed_dic, isTy_dic_int, isTy_dic_bool, isTy_dic_str, isTy_dic_tup, isTy_dic_lst, isTy_dic_dic, truth_non, truth_bl, truth_int, truth_tup, truth_lst, binD_add, binD_sub, binD_mul, binD_fdiv, binD_mod, binD_pow, binD_shl, addD_int, subD_int, mulD_int, fdivD_int, modD_int, addD_lst, addD_tup, cmpD_eq, cmpD_ne, cmpD_lt, cmpD_le, cmpD_gt, cmpD_ge, cmpD_is, cmpD_isN, cmpD_mem, cmpD_memN, ltC_int, leC_int, isC_bl, idxD_tup, idxD_lst, idxD_hnd, blt_len, blt_abs, blt_int, blt_min2, blt_max2, len1_tup, len1_lst, absD_int, intD_int, min2D_int, max2D_int, items_tup, items_lst, bli_all, bli_any, bli_sum, bli_tupL, bli_tupT, bools_nil, bools_cons, slc_scr, slc_tup, slc_lst, kDct_nil, kLam_exc, kUnp_two, ls5, ls6, tvb, kTup, kLst, kBin2, kBin, kNot, kCmp2, kCmp, kChn4, kChn3, kChn2, kChn, kIte, kIdx2, kIdx, kSlc2, kSlc, kCall, kBlt, kIsi, kSh, kComp, kCons3, kCons2, kCons, kPons2, kPons, kRons2, kRons, kTnot, kTand, kTor, kTru, kRng, kSet, kPar, kSix2, kSix, kEx, kIf, kFor, kWh2, kCmpL2, kCmpL1, kCmpL, kForS, List.set_cons_zero, List.set_cons_succ, List.any_cons, List.any_nil, Bool.or_false, Bool.or_true, Bool.not_true, Bool.not_false, Bool.true_and, Bool.false_and, Option.map_some, Option.map_none, Option.bind_some, Option.bind_none, if_true, if_false, Bool.false_eq_true, List.length_cons, List.length_nil, List.map_cons, List.map_nil, List.cons_append, List.nil_append, List.replicate_zero, List.replicate_succ, Nat.reduceSub, Nat.reduceAdd, Nat.reduceLT, Nat.reduceLeDiff, Int.reduceLT, Int.reduceLE, Int.reduceNeg, Int.reduceToNat, Int.reduceMul, Int.reduceAdd, Int.reducePow, reduceIte, List.length_map, decide_true, decide_false, Int.cast_ofNat_Int, Bool.and_true, Bool.and_false, Tg.slots, noOwn, List.all_cons, List.all_nil, Pf.wipe, Pf.restore, List.foldl_cons, List.foldl_nil, Pf.start, e1, eq_int, c]
      · simp only [rb_ok, rb_exc, rb_bad, rt_ok, rt_exc, sb_nx, sb_rt, sb_exc, ro_some, so_some, sh_val, sh_own, tvd_val, tvd_own, tvd_brw, cr_ok, cr_exc, ec_nx, ec_val, ec_own, ec_exc, ev_c, ev_v, ev_p, ev_q, rdSq_val, rdSq_lst, rdSl_val, rdSl_own, rdSv_val, rdSv_own, ev_tup, ev_lst, ev_dct, ev_bin, ev_neg, ev_not, ev_and, ev_or, ev_cmp, ev_cmp2, ev_ite, ev_idx, ev_slc, ev_call, ev_blt, ev_bli, ev_isi, ev_comp, ev_lam, evs_nil, evs_cons, evp_nil, evp_cons, evR_nil, evR_cons, evT_nil, evT_not, evT_and, evT_or, evT_tv, evO_nil, evO_tv, evI_rng, evI_tv, evSh_eq, compL_nil, compL_cons, ex_skip, ex_seq, ex_set, ex_unp, ex_par, ex_six, ex_app, kApp0_own, kApp_eq, kApp1_own, ex_ex, ex_ret, ex_if, ex_for, ex_wh, ex_rse0, ex_mkh, forL_nil, forL_cons, kRet_val, kRet_own, kAnd_bl, kOr_bl, kNeg_int, kOpt_int, putV_val, putV_own, putX_nil, putX_nm, kBli_val, kBli_own, kItm_val, kItm_own, kComp2_ok, kMkh_ok, gz, gs, st_env, st_hd, at0, at1, at2, at3, at4, pl1, pl2, pl3, pl4, eq_int, has0, ls0, ls1, ls2, ls3, ls4, typed_non, isTy_non_int, isTy_non_bool, isTy_non_str, isTy_non_tup, isTy_non_lst, isTy_non_dic, typed_bl, isTy_bl_int, isTy_bl_bool, isTy_bl_str, isTy_bl_tup, isTy_bl_lst, isTy_bl_dic, typed_int, isTy_int_int, isTy_int_bool, isTy_int_str, isTy_int_tup, isTy_int_lst, isTy_int_dic, typed_str, isTy_str_int, isTy_str_bool, isTy_str_str, isTy_str_tup, isTy_str_lst, isTy_str_dic, typed_tup, isTy_tup_int, isTy_tup_bool, isTy_tup_str, isTy_tup_tup, isTy_tup_lst, isTy_tup_dic, typed_lst, isTy_lst_int, isTy_lst_bool, isTy_lst_str, isTy_lst_tup, isTy_lst_lst, isTy_lst_dic, typed_dic, isTy_dic_int, isTy_dic_bool, isTy_dic_str, isTy_dic_tup, isTy_dic_lst, isTy_dic_dic, truth_non, truth_bl, truth_int, truth_tup, truth_lst, binD_add, binD_sub, binD_mul, binD_fdiv, binD_mod, binD_pow, binD_shl, addD_int, subD_int, mulD_int, fdivD_int, modD_int, addD_lst, addD_tup, cmpD_eq, cmpD_ne, cmpD_lt, cmpD_le, cmpD_gt, cmpD_ge, cmpD_is, cmpD_isN, cmpD_mem, cmpD_memN, ltC_int, leC_int, isC_bl, idxD_tup, idxD_lst, idxD_hnd, blt_len, blt_abs, blt_int, blt_min2, blt_max2, len1_tup, len1_lst, absD_int, intD_int, min2D_int, max2D_int, items_tup, items_lst, bli_all, bli_any, bli_sum, bli_tupL, bli_tupT, bools_nil, bools_cons, slc_scr, slc_tup, slc_lst, kDct_nil, kLam_exc, kUnp_two, ls5, ls6, tvb, kTup, kLst, kBin2, kBin, kNot, kCmp2, kCmp, kChn4, kChn3, kChn2, kChn, kIte, kIdx2, kIdx, kSlc2, kSlc, kCall, kBlt, kIsi, kSh, kComp, kCons3, kCons2, kCons, kPons2, kPons, kRons2, kRons, kTnot, kTand, kTor, kTru, kRng, kSet, kPar, kSix2, kSix, kEx, kIf, kFor, kWh2, kCmpL2, kCmpL1, kCmpL, kForS, List.set_cons_zero, List.set_cons_succ, List.any_cons, List.any_nil, Bool.or_false, Bool.or_true, Bool.not_true, Bool.not_false, Bool.true_and, Bool.false_and, Option.map_some, Option.map_none, Option.bind_some, Option.bind_none, if_true, if_false, Bool.false_eq_true, List.length_cons, List.length_nil, List.map_cons, List.map_nil, List.cons_append, List.nil_append, List.replicate_zero, List.replicate_succ, Nat.reduceSub, Nat.reduceAdd, Nat.reduceLT, Nat.reduceLeDiff, Int.reduceLT, Int.reduceLE, Int.reduceNeg, Int.reduceToNat, Int.reduceMul, Int.reduceAdd, Int.reducePow, reduceIte, List.length_map, decide_true, decide_false, Int.cast_ofNat_Int, Bool.and_true, Bool.and_false, Tg.slots, noOwn, List.all_cons, List.all_nil, Pf.wipe, Pf.restore, List.foldl_cons, List.foldl_nil, Pf.start, e1, eq_int, c]
theorem deep_s (n : Nat) (h : List D) (hi : HI h) : ∃ d h', callN T (n + 3) 19 [.hnd] (some h) = .ok (.val d) (some h') ∧ Deep d ∧ HI h' := by
  obtain ⟨d, h1, dm, e1, i1⟩ := any_s n h hi [.str "?", .str "X x"] (by decide) (by decide)
  obtain ⟨r, h2, e2, i2, r0, r1⟩ := draw_s (n + 1) h1 i1 20 (by decide) (by decide)
  have dd : Deep d := by
    simp only [List.mem_cons, List.not_mem_nil, or_false] at dm
    rcases dm with rfl | rfl
    · exact .str _
    · exact .str _
  obtain ⟨x', y', d', h', q1, q2, q3, q4⟩ := deep_loop n (rngN 0 1 (5 + r).toNat) h2 (.val d) .un d i2 dd (.inl rfl)
  have er : rngD [.int (5 + r)] = some (rngN 0 1 (5 + r).toNat) := rng_s (by omega) (by omega)
  refine ⟨d', h', ?_, q2, q4⟩
  rw [call_of (fn := t__law_deep) rfl rfl]
  simp only [rb_ok, rb_exc, rb_bad, rt_ok, rt_exc, sb_nx, sb_rt, sb_exc, ro_some, so_some, sh_val, sh_own, tvd_val, tvd_own, tvd_brw, cr_ok, cr_exc, ec_nx, ec_val, ec_own, ec_exc, ev_c, ev_v, ev_p, ev_q, rdSq_val, rdSq_lst, rdSl_val, rdSl_own, rdSv_val, rdSv_own, ev_tup, ev_lst, ev_dct, ev_bin, ev_neg, ev_not, ev_and, ev_or, ev_cmp, ev_cmp2, ev_ite, ev_idx, ev_slc, ev_call, ev_blt, ev_bli, ev_isi, ev_comp, ev_lam, evs_nil, evs_cons, evp_nil, evp_cons, evR_nil, evR_cons, evT_nil, evT_not, evT_and, evT_or, evT_tv, evO_nil, evO_tv, evI_rng, evI_tv, evSh_eq, compL_nil, compL_cons, ex_skip, ex_seq, ex_set, ex_unp, ex_par, ex_six, ex_app, kApp0_own, kApp_eq, kApp1_own, ex_ex, ex_ret, ex_if, ex_for, ex_wh, ex_rse0, ex_mkh, forL_nil, forL_cons, kRet_val, kRet_own, kAnd_bl, kOr_bl, kNeg_int, kOpt_int, putV_val, putV_own, putX_nil, putX_nm, kBli_val, kBli_own, kItm_val, kItm_own, kComp2_ok, kMkh_ok, gz, gs, st_env, st_hd, at0, at1, at2, at3, at4, pl1, pl2, pl3, pl4, eq_int, has0, ls0, ls1, ls2, ls3, ls4, typed_non, isTy_non_int, isTy_non_bool, isTy_non_str, isTy_non_tup, isTy_non_lst, isTy_non_dic, typed_bl, isTy_bl_int, isTy_bl_bool, isTy_bl_str, isTy_bl_tup, isTy_bl_lst, isTy_bl_dic, typed_int, isTy_int_int, isTy_int_bool, isTy_int_str, isTy_int_tup, isTy_int_lst, isTy_int_dic, typed_str, isTy_str_int, isTy_str_bool, isTy_str_str, isTy_str_tup, isTy_str_lst, isTy_str_dic, typed_tup, isTy_tup_int, isTy_tup_bool, isTy_tup_str, isTy_tup_tup, isTy_tup_lst, isTy_tup_dic, typed_lst, isTy_lst_int, isTy_lst_bool, isTy_lst_str, isTy_lst_tup, isTy_lst_lst, isTy_lst_dic, typed_dic, isTy_dic_int, isTy_dic_bool, isTy_dic_str, isTy_dic_tup, isTy_dic_lst, isTy_dic_dic, truth_non, truth_bl, truth_int, truth_tup, truth_lst, binD_add, binD_sub, binD_mul, binD_fdiv, binD_mod, binD_pow, binD_shl, addD_int, subD_int, mulD_int, fdivD_int, modD_int, addD_lst, addD_tup, cmpD_eq, cmpD_ne, cmpD_lt, cmpD_le, cmpD_gt, cmpD_ge, cmpD_is, cmpD_isN, cmpD_mem, cmpD_memN, ltC_int, leC_int, isC_bl, idxD_tup, idxD_lst, idxD_hnd, blt_len, blt_abs, blt_int, blt_min2, blt_max2, len1_tup, len1_lst, absD_int, intD_int, min2D_int, max2D_int, items_tup, items_lst, bli_all, bli_any, bli_sum, bli_tupL, bli_tupT, bools_nil, bools_cons, slc_scr, slc_tup, slc_lst, kDct_nil, kLam_exc, kUnp_two, ls5, ls6, tvb, kTup, kLst, kBin2, kBin, kNot, kCmp2, kCmp, kChn4, kChn3, kChn2, kChn, kIte, kIdx2, kIdx, kSlc2, kSlc, kCall, kBlt, kIsi, kSh, kComp, kCons3, kCons2, kCons, kPons2, kPons, kRons2, kRons, kTnot, kTand, kTor, kTru, kRng, kSet, kPar, kSix2, kSix, kEx, kIf, kFor, kWh2, kCmpL2, kCmpL1, kCmpL, kForS, List.set_cons_zero, List.set_cons_succ, List.any_cons, List.any_nil, Bool.or_false, Bool.or_true, Bool.not_true, Bool.not_false, Bool.true_and, Bool.false_and, Option.map_some, Option.map_none, Option.bind_some, Option.bind_none, if_true, if_false, Bool.false_eq_true, List.length_cons, List.length_nil, List.map_cons, List.map_nil, List.cons_append, List.nil_append, List.replicate_zero, List.replicate_succ, Nat.reduceSub, Nat.reduceAdd, Nat.reduceLT, Nat.reduceLeDiff, Int.reduceLT, Int.reduceLE, Int.reduceNeg, Int.reduceToNat, Int.reduceMul, Int.reduceAdd, Int.reducePow, reduceIte, List.length_map, decide_true, decide_false, Int.cast_ofNat_Int, Bool.and_true, Bool.and_false, Tg.slots, noOwn, List.all_cons, List.all_nil, Pf.wipe, Pf.restore, List.foldl_cons, List.foldl_nil, Pf.start, t__law_deep, e1, e2, er]
  rw [q1]
  rcases q3 with rfl | rfl
  · simp only [rb_ok, rb_exc, rb_bad, rt_ok, rt_exc, sb_nx, sb_rt, sb_exc, ro_some, so_some, sh_val, sh_own, tvd_val, tvd_own, tvd_brw, cr_ok, cr_exc, ec_nx, ec_val, ec_own, ec_exc, ev_c, ev_v, ev_p, ev_q, rdSq_val, rdSq_lst, rdSl_val, rdSl_own, rdSv_val, rdSv_own, ev_tup, ev_lst, ev_dct, ev_bin, ev_neg, ev_not, ev_and, ev_or, ev_cmp, ev_cmp2, ev_ite, ev_idx, ev_slc, ev_call, ev_blt, ev_bli, ev_isi, ev_comp, ev_lam, evs_nil, evs_cons, evp_nil, evp_cons, evR_nil, evR_cons, evT_nil, evT_not, evT_and, evT_or, evT_tv, evO_nil, evO_tv, evI_rng, evI_tv, evSh_eq, compL_nil, compL_cons, ex_skip, ex_seq, ex_set, ex_unp, ex_par, ex_six, ex_app, kApp0_own, kApp_eq, kApp1_own, ex_ex, ex_ret, ex_if, ex_for, ex_wh, ex_rse0, ex_mkh, forL_nil, forL_cons, kRet_val, kRet_own, kAnd_bl, kOr_bl, kNeg_int, kOpt_int, putV_val, putV_own, putX_nil, putX_nm, kBli_val, kBli_own, kItm_val, kItm_own, kComp2_ok, kMkh_ok, gz, gs, st_env, st_hd, at0, at1, at2, at3, at4, pl1, pl2, pl3, pl4, eq_int, has0, ls0, ls1, ls2, ls3, ls4, typed_non, isTy_non_int, isTy_non_bool, isTy_non_str, isTy_non_tup, isTy_non_lst, isTy_non_dic, typed_bl, isTy_bl_int, isTy_bl_bool, isTy_bl_str, isTy_bl_tup, isTy_bl_lst, isTy_bl_dic, typed_int, isTy_int_int, isTy_int_bool, isTy_int_str, isTy_int_tup, isTy_int_lst, isTy_int_dic, typed_str, isTy_str_int, isTy_str_bool, isTy_str_str, isTy_str_tup, isTy_str_lst, isTy_str_dic, typed_tup, isTy_tup_int, isTy_tup_bool, isTy_tup_str, isTy_tup_tup, isTy_tup_lst, isTy_tup_dic, typed_lst, isTy_lst_int, isTy_lst_bool, isTy_lst_str, isTy_lst_tup, isTy_lst_lst, isTy_lst_dic, typed_dic, isTy_dic_int, isTy_dic_bool, isTy_dic_str, isTy_dic_tup, isTy_dic_lst, isTy_dic_dic, truth_non, truth_bl, truth_int, truth_tup, truth_lst, binD_add, binD_sub, binD_mul, binD_fdiv, binD_mod, binD_pow, binD_shl, addD_int, subD_int, mulD_int, fdivD_int, modD_int, addD_lst, addD_tup, cmpD_eq, cmpD_ne, cmpD_lt, cmpD_le, cmpD_gt, cmpD_ge, cmpD_is, cmpD_isN, cmpD_mem, cmpD_memN, ltC_int, leC_int, isC_bl, idxD_tup, idxD_lst, idxD_hnd, blt_len, blt_abs, blt_int, blt_min2, blt_max2, len1_tup, len1_lst, absD_int, intD_int, min2D_int, max2D_int, items_tup, items_lst, bli_all, bli_any, bli_sum, bli_tupL, bli_tupT, bools_nil, bools_cons, slc_scr, slc_tup, slc_lst, kDct_nil, kLam_exc, kUnp_two, ls5, ls6, tvb, kTup, kLst, kBin2, kBin, kNot, kCmp2, kCmp, kChn4, kChn3, kChn2, kChn, kIte, kIdx2, kIdx, kSlc2, kSlc, kCall, kBlt, kIsi, kSh, kComp, kCons3, kCons2, kCons, kPons2, kPons, kRons2, kRons, kTnot, kTand, kTor, kTru, kRng, kSet, kPar, kSix2, kSix, kEx, kIf, kFor, kWh2, kCmpL2, kCmpL1, kCmpL, kForS, List.set_cons_zero, List.set_cons_succ, List.any_cons, List.any_nil, Bool.or_false, Bool.or_true, Bool.not_true, Bool.not_false, Bool.true_and, Bool.false_and, Option.map_some, Option.map_none, Option.bind_some, Option.bind_none, if_true, if_false, Bool.false_eq_true, List.length_cons, List.length_nil, List.map_cons, List.map_nil, List.cons_append, List.nil_append, List.replicate_zero, List.replicate_succ, Nat.reduceSub, Nat.reduceAdd, Nat.reduceLT, Nat.reduceLeDiff, Int.reduceLT, Int.reduceLE, Int.reduceNeg, Int.reduceToNat, Int.reduceMul, Int.reduceAdd, Int.reducePow, reduceIte, List.length_map, decide_true, decide_false, Int.cast_ofNat_Int, Bool.and_true, Bool.and_false, Tg.slots, noOwn, List.all_cons, List.all_nil, Pf.wipe, Pf.restore, List.foldl_cons, List.foldl_nil, Pf.start]
  · simp only [rb_ok, rb_exc, rb_bad, rt_ok, rt_exc, sb_nx, sb_rt, sb_exc, ro_some, so_some, sh_val, sh_own, tvd_val, tvd_own, tvd_brw, cr_ok, cr_exc, ec_nx, ec_val, ec_own, ec_exc, ev_c, ev_v, ev_p, ev_q, rdSq_val, rdSq_lst, rdSl_val, rdSl_own, rdSv_val, rdSv_own, ev_tup, ev_lst, ev_dct, ev_bin, ev_neg, ev_not, ev_and, ev_or, ev_cmp, ev_cmp2, ev_ite, ev_idx, ev_slc, ev_call, ev_blt, ev_bli, ev_isi, ev_comp, ev_lam, evs_nil, evs_cons, evp_nil, evp_cons, evR_nil, evR_cons, evT_nil, evT_not, evT_and, evT_or, evT_tv, evO_nil, evO_tv, evI_rng, evI_tv, evSh_eq, compL_nil, compL_cons, ex_skip, ex_seq, ex_set, ex_unp, ex_par, ex_six, ex_app, kApp0_own, kApp_eq, kApp1_own, ex_ex, ex_ret, ex_if, ex_for, ex_wh, ex_rse0, ex_mkh, forL_nil, forL_cons, kRet_val, kRet_own, kAnd_bl, kOr_bl, kNeg_int, kOpt_int, putV_val, putV_own, putX_nil, putX_nm, kBli_val, kBli_own, kItm_val, kItm_own, kComp2_ok, kMkh_ok, gz, gs, st_env, st_hd, at0, at1, at2, at3, at4, pl1, pl2, pl3, pl4, eq_int, has0, ls0, ls1, ls2, ls3, ls4, typed_non, isTy_non_int, isTy_non_bool, isTy_non_str, isTy_non_tup, isTy_non_lst, isTy_non_dic, typed_bl, isTy_bl_int, isTy_bl_bool, isTy_bl_str, isTy_bl_tup, isTy_bl_lst, isTy_bl_dic, typed_int, isTy_int_int, isTy_int_bool, isTy_int_str, isTy_int_tup, isTy_int_lst, isTy_int_dic, typed_str, isTy_str_int, isTy_str_bool, isTy_str_str, isTy_str_tup, isTy_str_lst, isTy_str_dic, typed_tup, isTy_tup_int, isTy_tup_bool, isTy_tup_str, isTy_tup_tup, isTy_tup_lst, isTy_tup_dic, typed_lst, isTy_lst_int, isTy_lst_bool, isTy_lst_str, isTy_lst_tup, isTy_lst_lst, isTy_lst_dic, typed_dic, isTy_dic_int, isTy_dic_bool, isTy_dic_str, isTy_dic_tup, isTy_dic_lst, isTy_dic_dic, truth_non, truth_bl, truth_int, truth_tup, truth_lst, binD_add, binD_sub, binD_mul, binD_fdiv, binD_mod, binD_pow, binD_shl, addD_int, subD_int, mulD_int, fdivD_int, modD_int, addD_lst, addD_tup, cmpD_eq, cmpD_ne, cmpD_lt, cmpD_le, cmpD_gt, cmpD_ge, cmpD_is, cmpD_isN, cmpD_mem, cmpD_memN, ltC_int, leC_int, isC_bl, idxD_tup, idxD_lst, idxD_hnd, blt_len, blt_abs, blt_int, blt_min2, blt_max2, len1_tup, len1_lst, absD_int, intD_int, min2D_int, max2D_int, items_tup, items_lst, bli_all, bli_any, bli_sum, bli_tupL, bli_tupT, bools_nil, bools_cons, slc_scr, slc_tup, slc_lst, kDct_nil, kLam_exc, kUnp_two, ls5, ls6, tvb, kTup, kLst, kBin2, kBin, kNot, kCmp2, kCmp, kChn4, kChn3, kChn2, kChn, kIte, kIdx2, kIdx, kSlc2, kSlc, kCall, kBlt, kIsi, kSh, kComp, kCons3, kCons2, kCons, kPons2, kPons, kRons2, kRons, kTnot, kTand, kTor, kTru, kRng, kSet, kPar, kSix2, kSix, kEx, kIf, kFor, kWh2, kCmpL2, kCmpL1, kCmpL, kForS, List.set_cons_zero, List.set_cons_succ, List.any_cons, List.any_nil, Bool.or_false, Bool.or_true, Bool.not_true, Bool.not_false, Bool.true_and, Bool.false_and, Option.map_some, Option.map_none, Option.bind_some, Option.bind_none, if_true, if_false, Bool.false_eq_true, List.length_cons, List.length_nil, List.map_cons, List.map_nil, List.cons_append, List.nil_append, List.replicate_zero, List.replicate_succ, Nat.reduceSub, Nat.reduceAdd, Nat.reduceLT, Nat.reduceLeDiff, Int.reduceLT, Int.reduceLE, Int.reduceNeg, Int.reduceToNat, Int.reduceMul, Int.reduceAdd, Int.reducePow, reduceIte, List.length_map, decide_true, decide_false, Int.cast_ofNat_Int, Bool.and_true, Bool.and_false, Tg.slots, noOwn, List.all_cons, List.all_nil, Pf.wipe, Pf.restore, List.foldl_cons, List.foldl_nil, Pf.start]
/-- not heats -/
def BadH (d : D) : Prop := ∀ n hd, callN T (n + 6) 6 [d] hd = .ok (.val (.bl false)) hd
theorem bad_notup {d : D} (h1 : typed d = true) (h2 : isTy d .tup = false) : BadH d := fun n hd => by
  rw [call_of (fn := t_are_heats) rfl rfl]
  simp only [rb_ok, rb_exc, rb_bad, rt_ok, rt_exc, sb_nx, sb_rt, sb_exc, ro_some, so_some, sh_val, sh_own, tvd_val, tvd_own, tvd_brw, cr_ok, cr_exc, ec_nx, ec_val, ec_own, ec_exc, ev_c, ev_v, ev_p, ev_q, rdSq_val, rdSq_lst, rdSl_val, rdSl_own, rdSv_val, rdSv_own, ev_tup, ev_lst, ev_dct, ev_bin, ev_neg, ev_not, ev_and, ev_or, ev_cmp, ev_cmp2, ev_ite, ev_idx, ev_slc, ev_call, ev_blt, ev_bli, ev_isi, ev_comp, ev_lam, evs_nil, evs_cons, evp_nil, evp_cons, evR_nil, evR_cons, evT_nil, evT_not, evT_and, evT_or, evT_tv, evO_nil, evO_tv, evI_rng, evI_tv, evSh_eq, compL_nil, compL_cons, ex_skip, ex_seq, ex_set, ex_unp, ex_par, ex_six, ex_app, kApp0_own, kApp_eq, kApp1_own, ex_ex, ex_ret, ex_if, ex_for, ex_wh, ex_rse0, ex_mkh, forL_nil, forL_cons, kRet_val, kRet_own, kAnd_bl, kOr_bl, kNeg_int, kOpt_int, putV_val, putV_own, putX_nil, putX_nm, kBli_val, kBli_own, kItm_val, kItm_own, kComp2_ok, kMkh_ok, gz, gs, st_env, st_hd, at0, at1, at2, at3, at4, pl1, pl2, pl3, pl4, eq_int, has0, ls0, ls1, ls2, ls3, ls4, typed_non, isTy_non_int, isTy_non_bool, isTy_non_str, isTy_non_tup, isTy_non_lst, isTy_non_dic, typed_bl, isTy_bl_int, isTy_bl_bool, isTy_bl_str, isTy_bl_tup, isTy_bl_lst, isTy_bl_dic, typed_int, isTy_int_int, isTy_int_bool, isTy_int_str, isTy_int_tup, isTy_int_lst, isTy_int_dic, typed_str, isTy_str_int, isTy_str_bool, isTy_str_str, isTy_str_tup, isTy_str_lst, isTy_str_dic, typed_tup, isTy_tup_int, isTy_tup_bool, isTy_tup_str, isTy_tup_tup, isTy_tup_lst, isTy_tup_dic, typed_lst, isTy_lst_int, isTy_lst_bool, isTy_lst_str, isTy_lst_tup, isTy_lst_lst, isTy_lst_dic, typed_dic, isTy_dic_int, isTy_dic_bool, isTy_dic_str, isTy_dic_tup, isTy_dic_lst, isTy_dic_dic, truth_non, truth_bl, truth_int, truth_tup, truth_lst, binD_add, binD_sub, binD_mul, binD_fdiv, binD_mod, binD_pow, binD_shl, addD_int, subD_int, mulD_int, fdivD_int, modD_int, addD_lst, addD_tup, cmpD_eq, cmpD_ne, cmpD_lt, cmpD_le, cmpD_gt, cmpD_ge, cmpD_is, cmpD_isN, cmpD_mem, cmpD_memN, ltC_int, leC_int, isC_bl, idxD_tup, idxD_lst, idxD_hnd, blt_len, blt_abs, blt_int, blt_min2, blt_max2, len1_tup, len1_lst, absD_int, intD_int, min2D_int, max2D_int, items_tup, items_lst, bli_all, bli_any, bli_sum, bli_tupL, bli_tupT, bools_nil, bools_cons, slc_scr, slc_tup, slc_lst, kDct_nil, kLam_exc, kUnp_two, ls5, ls6, tvb, kTup, kLst, kBin2, kBin, kNot, kCmp2, kCmp, kChn4, kChn3, kChn2, kChn, kIte, kIdx2, kIdx, kSlc2, kSlc, kCall, kBlt, kIsi, kSh, kComp, kCons3, kCons2, kCons, kPons2, kPons, kRons2, kRons, kTnot, kTand, kTor, kTru, kRng, kSet, kPar, kSix2, kSix, kEx, kIf, kFor, kWh2, kCmpL2, kCmpL1, kCmpL, kForS, List.set_cons_zero, List.set_cons_succ, List.any_cons, List.any_nil, Bool.or_false, Bool.or_true, Bool.not_true, Bool.not_false, Bool.true_and, Bool.false_and, Option.map_some, Option.map_none, Option.bind_some, Option.bind_none, if_true, if_false, Bool.false_eq_true, List.length_cons, List.length_nil, List.map_cons, List.map_nil, List.cons_append, List.nil_append, List.replicate_zero, List.replicate_succ, Nat.reduceSub, Nat.reduceAdd, Nat.reduceLT, Nat.reduceLeDiff, Int.reduceLT, Int.reduceLE, Int.reduceNeg, Int.reduceToNat, Int.reduceMul, Int.reduceAdd, Int.reducePow, reduceIte, List.length_map, decide_true, decide_false, Int.cast_ofNat_Int, Bool.and_true, Bool.and_false, Tg.slots, noOwn, List.all_cons, List.all_nil, Pf.wipe, Pf.restore, List.foldl_cons, List.foldl_nil, Pf.start, t_are_heats, sized_no _ _ _ _ _ h1 h2]
theorem keeping_no (n : Nat) (d : D) (hd) (h : Deep d) : callN T (n + 3) 5 [d] hd = .ok (.val (.bl false)) hd := by
  have hs : callN T (n + 2) 4 [d] hd = .ok (.val (.bl false)) hd := by
    rw [call_of (fn := t_is_share) rfl rfl]
    cases h with
    | str x => simp only [rb_ok, rb_exc, rb_bad, rt_ok, rt_exc, sb_nx, sb_rt, sb_exc, ro_some, so_some, sh_val, sh_own, tvd_val, tvd_own, tvd_brw, cr_ok, cr_exc, ec_nx, ec_val, ec_own, ec_exc, ev_c, ev_v, ev_p, ev_q, rdSq_val, rdSq_lst, rdSl_val, rdSl_own, rdSv_val, rdSv_own, ev_tup, ev_lst, ev_dct, ev_bin, ev_neg, ev_not, ev_and, ev_or, ev_cmp, ev_cmp2, ev_ite, ev_idx, ev_slc, ev_call, ev_blt, ev_bli, ev_isi, ev_comp, ev_lam, evs_nil, evs_cons, evp_nil, evp_cons, evR_nil, evR_cons, evT_nil, evT_not, evT_and, evT_or, evT_tv, evO_nil, evO_tv, evI_rng, evI_tv, evSh_eq, compL_nil, compL_cons, ex_skip, ex_seq, ex_set, ex_unp, ex_par, ex_six, ex_app, kApp0_own, kApp_eq, kApp1_own, ex_ex, ex_ret, ex_if, ex_for, ex_wh, ex_rse0, ex_mkh, forL_nil, forL_cons, kRet_val, kRet_own, kAnd_bl, kOr_bl, kNeg_int, kOpt_int, putV_val, putV_own, putX_nil, putX_nm, kBli_val, kBli_own, kItm_val, kItm_own, kComp2_ok, kMkh_ok, gz, gs, st_env, st_hd, at0, at1, at2, at3, at4, pl1, pl2, pl3, pl4, eq_int, has0, ls0, ls1, ls2, ls3, ls4, typed_non, isTy_non_int, isTy_non_bool, isTy_non_str, isTy_non_tup, isTy_non_lst, isTy_non_dic, typed_bl, isTy_bl_int, isTy_bl_bool, isTy_bl_str, isTy_bl_tup, isTy_bl_lst, isTy_bl_dic, typed_int, isTy_int_int, isTy_int_bool, isTy_int_str, isTy_int_tup, isTy_int_lst, isTy_int_dic, typed_str, isTy_str_int, isTy_str_bool, isTy_str_str, isTy_str_tup, isTy_str_lst, isTy_str_dic, typed_tup, isTy_tup_int, isTy_tup_bool, isTy_tup_str, isTy_tup_tup, isTy_tup_lst, isTy_tup_dic, typed_lst, isTy_lst_int, isTy_lst_bool, isTy_lst_str, isTy_lst_tup, isTy_lst_lst, isTy_lst_dic, typed_dic, isTy_dic_int, isTy_dic_bool, isTy_dic_str, isTy_dic_tup, isTy_dic_lst, isTy_dic_dic, truth_non, truth_bl, truth_int, truth_tup, truth_lst, binD_add, binD_sub, binD_mul, binD_fdiv, binD_mod, binD_pow, binD_shl, addD_int, subD_int, mulD_int, fdivD_int, modD_int, addD_lst, addD_tup, cmpD_eq, cmpD_ne, cmpD_lt, cmpD_le, cmpD_gt, cmpD_ge, cmpD_is, cmpD_isN, cmpD_mem, cmpD_memN, ltC_int, leC_int, isC_bl, idxD_tup, idxD_lst, idxD_hnd, blt_len, blt_abs, blt_int, blt_min2, blt_max2, len1_tup, len1_lst, absD_int, intD_int, min2D_int, max2D_int, items_tup, items_lst, bli_all, bli_any, bli_sum, bli_tupL, bli_tupT, bools_nil, bools_cons, slc_scr, slc_tup, slc_lst, kDct_nil, kLam_exc, kUnp_two, ls5, ls6, tvb, kTup, kLst, kBin2, kBin, kNot, kCmp2, kCmp, kChn4, kChn3, kChn2, kChn, kIte, kIdx2, kIdx, kSlc2, kSlc, kCall, kBlt, kIsi, kSh, kComp, kCons3, kCons2, kCons, kPons2, kPons, kRons2, kRons, kTnot, kTand, kTor, kTru, kRng, kSet, kPar, kSix2, kSix, kEx, kIf, kFor, kWh2, kCmpL2, kCmpL1, kCmpL, kForS, List.set_cons_zero, List.set_cons_succ, List.any_cons, List.any_nil, Bool.or_false, Bool.or_true, Bool.not_true, Bool.not_false, Bool.true_and, Bool.false_and, Option.map_some, Option.map_none, Option.bind_some, Option.bind_none, if_true, if_false, Bool.false_eq_true, List.length_cons, List.length_nil, List.map_cons, List.map_nil, List.cons_append, List.nil_append, List.replicate_zero, List.replicate_succ, Nat.reduceSub, Nat.reduceAdd, Nat.reduceLT, Nat.reduceLeDiff, Int.reduceLT, Int.reduceLE, Int.reduceNeg, Int.reduceToNat, Int.reduceMul, Int.reduceAdd, Int.reducePow, reduceIte, List.length_map, decide_true, decide_false, Int.cast_ofNat_Int, Bool.and_true, Bool.and_false, Tg.slots, noOwn, List.all_cons, List.all_nil, Pf.wipe, Pf.restore, List.foldl_cons, List.foldl_nil, Pf.start, t_is_share, sized_no n (.str x) 2 2 hd rfl rfl]
    | lst h => simp only [rb_ok, rb_exc, rb_bad, rt_ok, rt_exc, sb_nx, sb_rt, sb_exc, ro_some, so_some, sh_val, sh_own, tvd_val, tvd_own, tvd_brw, cr_ok, cr_exc, ec_nx, ec_val, ec_own, ec_exc, ev_c, ev_v, ev_p, ev_q, rdSq_val, rdSq_lst, rdSl_val, rdSl_own, rdSv_val, rdSv_own, ev_tup, ev_lst, ev_dct, ev_bin, ev_neg, ev_not, ev_and, ev_or, ev_cmp, ev_cmp2, ev_ite, ev_idx, ev_slc, ev_call, ev_blt, ev_bli, ev_isi, ev_comp, ev_lam, evs_nil, evs_cons, evp_nil, evp_cons, evR_nil, evR_cons, evT_nil, evT_not, evT_and, evT_or, evT_tv, evO_nil, evO_tv, evI_rng, evI_tv, evSh_eq, compL_nil, compL_cons, ex_skip, ex_seq, ex_set, ex_unp, ex_par, ex_six, ex_app, kApp0_own, kApp_eq, kApp1_own, ex_ex, ex_ret, ex_if, ex_for, ex_wh, ex_rse0, ex_mkh, forL_nil, forL_cons, kRet_val, kRet_own, kAnd_bl, kOr_bl, kNeg_int, kOpt_int, putV_val, putV_own, putX_nil, putX_nm, kBli_val, kBli_own, kItm_val, kItm_own, kComp2_ok, kMkh_ok, gz, gs, st_env, st_hd, at0, at1, at2, at3, at4, pl1, pl2, pl3, pl4, eq_int, has0, ls0, ls1, ls2, ls3, ls4, typed_non, isTy_non_int, isTy_non_bool, isTy_non_str, isTy_non_tup, isTy_non_lst, isTy_non_dic, typed_bl, isTy_bl_int, isTy_bl_bool, isTy_bl_str, isTy_bl_tup, isTy_bl_lst, isTy_bl_dic, typed_int, isTy_int_int, isTy_int_bool, isTy_int_str, isTy_int_tup, isTy_int_lst, isTy_int_dic, typed_str, isTy_str_int, isTy_str_bool, isTy_str_str, isTy_str_tup, isTy_str_lst, isTy_str_dic, typed_tup, isTy_tup_int, isTy_tup_bool, isTy_tup_str, isTy_tup_tup, isTy_tup_lst, isTy_tup_dic, typed_lst, isTy_lst_int, isTy_lst_bool, isTy_lst_str, isTy_lst_tup, isTy_lst_lst, isTy_lst_dic, typed_dic, isTy_dic_int, isTy_dic_bool, isTy_dic_str, isTy_dic_tup, isTy_dic_lst, isTy_dic_dic, truth_non, truth_bl, truth_int, truth_tup, truth_lst, binD_add, binD_sub, binD_mul, binD_fdiv, binD_mod, binD_pow, binD_shl, addD_int, subD_int, mulD_int, fdivD_int, modD_int, addD_lst, addD_tup, cmpD_eq, cmpD_ne, cmpD_lt, cmpD_le, cmpD_gt, cmpD_ge, cmpD_is, cmpD_isN, cmpD_mem, cmpD_memN, ltC_int, leC_int, isC_bl, idxD_tup, idxD_lst, idxD_hnd, blt_len, blt_abs, blt_int, blt_min2, blt_max2, len1_tup, len1_lst, absD_int, intD_int, min2D_int, max2D_int, items_tup, items_lst, bli_all, bli_any, bli_sum, bli_tupL, bli_tupT, bools_nil, bools_cons, slc_scr, slc_tup, slc_lst, kDct_nil, kLam_exc, kUnp_two, ls5, ls6, tvb, kTup, kLst, kBin2, kBin, kNot, kCmp2, kCmp, kChn4, kChn3, kChn2, kChn, kIte, kIdx2, kIdx, kSlc2, kSlc, kCall, kBlt, kIsi, kSh, kComp, kCons3, kCons2, kCons, kPons2, kPons, kRons2, kRons, kTnot, kTand, kTor, kTru, kRng, kSet, kPar, kSix2, kSix, kEx, kIf, kFor, kWh2, kCmpL2, kCmpL1, kCmpL, kForS, List.set_cons_zero, List.set_cons_succ, List.any_cons, List.any_nil, Bool.or_false, Bool.or_true, Bool.not_true, Bool.not_false, Bool.true_and, Bool.false_and, Option.map_some, Option.map_none, Option.bind_some, Option.bind_none, if_true, if_false, Bool.false_eq_true, List.length_cons, List.length_nil, List.map_cons, List.map_nil, List.cons_append, List.nil_append, List.replicate_zero, List.replicate_succ, Nat.reduceSub, Nat.reduceAdd, Nat.reduceLT, Nat.reduceLeDiff, Int.reduceLT, Int.reduceLE, Int.reduceNeg, Int.reduceToNat, Int.reduceMul, Int.reduceAdd, Int.reducePow, reduceIte, List.length_map, decide_true, decide_false, Int.cast_ofNat_Int, Bool.and_true, Bool.and_false, Tg.slots, noOwn, List.all_cons, List.all_nil, Pf.wipe, Pf.restore, List.foldl_cons, List.foldl_nil, Pf.start, t_is_share, sized_no n (.lst _) 2 2 hd rfl rfl]
    | tup h => simp only [rb_ok, rb_exc, rb_bad, rt_ok, rt_exc, sb_nx, sb_rt, sb_exc, ro_some, so_some, sh_val, sh_own, tvd_val, tvd_own, tvd_brw, cr_ok, cr_exc, ec_nx, ec_val, ec_own, ec_exc, ev_c, ev_v, ev_p, ev_q, rdSq_val, rdSq_lst, rdSl_val, rdSl_own, rdSv_val, rdSv_own, ev_tup, ev_lst, ev_dct, ev_bin, ev_neg, ev_not, ev_and, ev_or, ev_cmp, ev_cmp2, ev_ite, ev_idx, ev_slc, ev_call, ev_blt, ev_bli, ev_isi, ev_comp, ev_lam, evs_nil, evs_cons, evp_nil, evp_cons, evR_nil, evR_cons, evT_nil, evT_not, evT_and, evT_or, evT_tv, evO_nil, evO_tv, evI_rng, evI_tv, evSh_eq, compL_nil, compL_cons, ex_skip, ex_seq, ex_set, ex_unp, ex_par, ex_six, ex_app, kApp0_own, kApp_eq, kApp1_own, ex_ex, ex_ret, ex_if, ex_for, ex_wh, ex_rse0, ex_mkh, forL_nil, forL_cons, kRet_val, kRet_own, kAnd_bl, kOr_bl, kNeg_int, kOpt_int, putV_val, putV_own, putX_nil, putX_nm, kBli_val, kBli_own, kItm_val, kItm_own, kComp2_ok, kMkh_ok, gz, gs, st_env, st_hd, at0, at1, at2, at3, at4, pl1, pl2, pl3, pl4, eq_int, has0, ls0, ls1, ls2, ls3, ls4, typed_non, isTy_non_int, isTy_non_bool, isTy_non_str, isTy_non_tup, isTy_non_lst, isTy_non_dic, typed_bl, isTy_bl_int, isTy_bl_bool, isTy_bl_str, isTy_bl_tup, isTy_bl_lst, isTy_bl_dic, typed_int, isTy_int_int, isTy_int_bool, isTy_int_str, isTy_int_tup, isTy_int_lst, isTy_int_dic, typed_str, isTy_str_int, isTy_str_bool, isTy_str_str, isTy_str_tup, isTy_str_lst, isTy_str_dic, typed_tup, isTy_tup_int, isTy_tup_bool, isTy_tup_str, isTy_tup_tup, isTy_tup_lst, isTy_tup_dic, typed_lst, isTy_lst_int, isTy_lst_bool, isTy_lst_str, isTy_lst_tup, isTy_lst_lst, isTy_lst_dic, typed_dic, isTy_dic_int, isTy_dic_bool, isTy_dic_str, isTy_dic_tup, isTy_dic_lst, isTy_dic_dic, truth_non, truth_bl, truth_int, truth_tup, truth_lst, binD_add, binD_sub, binD_mul, binD_fdiv, binD_mod, binD_pow, binD_shl, addD_int, subD_int, mulD_int, fdivD_int, modD_int, addD_lst, addD_tup, cmpD_eq, cmpD_ne, cmpD_lt, cmpD_le, cmpD_gt, cmpD_ge, cmpD_is, cmpD_isN, cmpD_mem, cmpD_memN, ltC_int, leC_int, isC_bl, idxD_tup, idxD_lst, idxD_hnd, blt_len, blt_abs, blt_int, blt_min2, blt_max2, len1_tup, len1_lst, absD_int, intD_int, min2D_int, max2D_int, items_tup, items_lst, bli_all, bli_any, bli_sum, bli_tupL, bli_tupT, bools_nil, bools_cons, slc_scr, slc_tup, slc_lst, kDct_nil, kLam_exc, kUnp_two, ls5, ls6, tvb, kTup, kLst, kBin2, kBin, kNot, kCmp2, kCmp, kChn4, kChn3, kChn2, kChn, kIte, kIdx2, kIdx, kSlc2, kSlc, kCall, kBlt, kIsi, kSh, kComp, kCons3, kCons2, kCons, kPons2, kPons, kRons2, kRons, kTnot, kTand, kTor, kTru, kRng, kSet, kPar, kSix2, kSix, kEx, kIf, kFor, kWh2, kCmpL2, kCmpL1, kCmpL, kForS, List.set_cons_zero, List.set_cons_succ, List.any_cons, List.any_nil, Bool.or_false, Bool.or_true, Bool.not_true, Bool.not_false, Bool.true_and, Bool.false_and, Option.map_some, Option.map_none, Option.bind_some, Option.bind_none, if_true, if_false, Bool.false_eq_true, List.length_cons, List.length_nil, List.map_cons, List.map_nil, List.cons_append, List.nil_append, List.replicate_zero, List.replicate_succ, Nat.reduceSub, Nat.reduceAdd, Nat.reduceLT, Nat.reduceLeDiff, Int.reduceLT, Int.reduceLE, Int.reduceNeg, Int.reduceToNat, Int.reduceMul, Int.reduceAdd, Int.reducePow, reduceIte, List.length_map, decide_true, decide_false, Int.cast_ofNat_Int, Bool.and_true, Bool.and_false, Tg.slots, noOwn, List.all_cons, List.all_nil, Pf.wipe, Pf.restore, List.foldl_cons, List.foldl_nil, Pf.start, t_is_share, sized_s]
  rw [call_of (fn := t_is_keeping) rfl rfl]
  simp only [rb_ok, rb_exc, rb_bad, rt_ok, rt_exc, sb_nx, sb_rt, sb_exc, ro_some, so_some, sh_val, sh_own, tvd_val, tvd_own, tvd_brw, cr_ok, cr_exc, ec_nx, ec_val, ec_own, ec_exc, ev_c, ev_v, ev_p, ev_q, rdSq_val, rdSq_lst, rdSl_val, rdSl_own, rdSv_val, rdSv_own, ev_tup, ev_lst, ev_dct, ev_bin, ev_neg, ev_not, ev_and, ev_or, ev_cmp, ev_cmp2, ev_ite, ev_idx, ev_slc, ev_call, ev_blt, ev_bli, ev_isi, ev_comp, ev_lam, evs_nil, evs_cons, evp_nil, evp_cons, evR_nil, evR_cons, evT_nil, evT_not, evT_and, evT_or, evT_tv, evO_nil, evO_tv, evI_rng, evI_tv, evSh_eq, compL_nil, compL_cons, ex_skip, ex_seq, ex_set, ex_unp, ex_par, ex_six, ex_app, kApp0_own, kApp_eq, kApp1_own, ex_ex, ex_ret, ex_if, ex_for, ex_wh, ex_rse0, ex_mkh, forL_nil, forL_cons, kRet_val, kRet_own, kAnd_bl, kOr_bl, kNeg_int, kOpt_int, putV_val, putV_own, putX_nil, putX_nm, kBli_val, kBli_own, kItm_val, kItm_own, kComp2_ok, kMkh_ok, gz, gs, st_env, st_hd, at0, at1, at2, at3, at4, pl1, pl2, pl3, pl4, eq_int, has0, ls0, ls1, ls2, ls3, ls4, typed_non, isTy_non_int, isTy_non_bool, isTy_non_str, isTy_non_tup, isTy_non_lst, isTy_non_dic, typed_bl, isTy_bl_int, isTy_bl_bool, isTy_bl_str, isTy_bl_tup, isTy_bl_lst, isTy_bl_dic, typed_int, isTy_int_int, isTy_int_bool, isTy_int_str, isTy_int_tup, isTy_int_lst, isTy_int_dic, typed_str, isTy_str_int, isTy_str_bool, isTy_str_str, isTy_str_tup, isTy_str_lst, isTy_str_dic, typed_tup, isTy_tup_int, isTy_tup_bool, isTy_tup_str, isTy_tup_tup, isTy_tup_lst, isTy_tup_dic, typed_lst, isTy_lst_int, isTy_lst_bool, isTy_lst_str, isTy_lst_tup, isTy_lst_lst, isTy_lst_dic, typed_dic, isTy_dic_int, isTy_dic_bool, isTy_dic_str, isTy_dic_tup, isTy_dic_lst, isTy_dic_dic, truth_non, truth_bl, truth_int, truth_tup, truth_lst, binD_add, binD_sub, binD_mul, binD_fdiv, binD_mod, binD_pow, binD_shl, addD_int, subD_int, mulD_int, fdivD_int, modD_int, addD_lst, addD_tup, cmpD_eq, cmpD_ne, cmpD_lt, cmpD_le, cmpD_gt, cmpD_ge, cmpD_is, cmpD_isN, cmpD_mem, cmpD_memN, ltC_int, leC_int, isC_bl, idxD_tup, idxD_lst, idxD_hnd, blt_len, blt_abs, blt_int, blt_min2, blt_max2, len1_tup, len1_lst, absD_int, intD_int, min2D_int, max2D_int, items_tup, items_lst, bli_all, bli_any, bli_sum, bli_tupL, bli_tupT, bools_nil, bools_cons, slc_scr, slc_tup, slc_lst, kDct_nil, kLam_exc, kUnp_two, ls5, ls6, tvb, kTup, kLst, kBin2, kBin, kNot, kCmp2, kCmp, kChn4, kChn3, kChn2, kChn, kIte, kIdx2, kIdx, kSlc2, kSlc, kCall, kBlt, kIsi, kSh, kComp, kCons3, kCons2, kCons, kPons2, kPons, kRons2, kRons, kTnot, kTand, kTor, kTru, kRng, kSet, kPar, kSix2, kSix, kEx, kIf, kFor, kWh2, kCmpL2, kCmpL1, kCmpL, kForS, List.set_cons_zero, List.set_cons_succ, List.any_cons, List.any_nil, Bool.or_false, Bool.or_true, Bool.not_true, Bool.not_false, Bool.true_and, Bool.false_and, Option.map_some, Option.map_none, Option.bind_some, Option.bind_none, if_true, if_false, Bool.false_eq_true, List.length_cons, List.length_nil, List.map_cons, List.map_nil, List.cons_append, List.nil_append, List.replicate_zero, List.replicate_succ, Nat.reduceSub, Nat.reduceAdd, Nat.reduceLT, Nat.reduceLeDiff, Int.reduceLT, Int.reduceLE, Int.reduceNeg, Int.reduceToNat, Int.reduceMul, Int.reduceAdd, Int.reducePow, reduceIte, List.length_map, decide_true, decide_false, Int.cast_ofNat_Int, Bool.and_true, Bool.and_false, Tg.slots, noOwn, List.all_cons, List.all_nil, Pf.wipe, Pf.restore, List.foldl_cons, List.foldl_nil, Pf.start, t_is_keeping, hs]
theorem bad_deep {d : D} (h : Deep d) : BadH d := by
  cases h with
  | str x => exact bad_notup rfl rfl
  | lst h => exact bad_notup rfl rfl
  | tup h =>
    intro n hd
    rw [call_of (fn := t_are_heats) rfl rfl]
    simp only [rb_ok, rb_exc, rb_bad, rt_ok, rt_exc, sb_nx, sb_rt, sb_exc, ro_some, so_some, sh_val, sh_own, tvd_val, tvd_own, tvd_brw, cr_ok, cr_exc, ec_nx, ec_val, ec_own, ec_exc, ev_c, ev_v, ev_p, ev_q, rdSq_val, rdSq_lst, rdSl_val, rdSl_own, rdSv_val, rdSv_own, ev_tup, ev_lst, ev_dct, ev_bin, ev_neg, ev_not, ev_and, ev_or, ev_cmp, ev_cmp2, ev_ite, ev_idx, ev_slc, ev_call, ev_blt, ev_bli, ev_isi, ev_comp, ev_lam, evs_nil, evs_cons, evp_nil, evp_cons, evR_nil, evR_cons, evT_nil, evT_not, evT_and, evT_or, evT_tv, evO_nil, evO_tv, evI_rng, evI_tv, evSh_eq, compL_nil, compL_cons, ex_skip, ex_seq, ex_set, ex_unp, ex_par, ex_six, ex_app, kApp0_own, kApp_eq, kApp1_own, ex_ex, ex_ret, ex_if, ex_for, ex_wh, ex_rse0, ex_mkh, forL_nil, forL_cons, kRet_val, kRet_own, kAnd_bl, kOr_bl, kNeg_int, kOpt_int, putV_val, putV_own, putX_nil, putX_nm, kBli_val, kBli_own, kItm_val, kItm_own, kComp2_ok, kMkh_ok, gz, gs, st_env, st_hd, at0, at1, at2, at3, at4, pl1, pl2, pl3, pl4, eq_int, has0, ls0, ls1, ls2, ls3, ls4, typed_non, isTy_non_int, isTy_non_bool, isTy_non_str, isTy_non_tup, isTy_non_lst, isTy_non_dic, typed_bl, isTy_bl_int, isTy_bl_bool, isTy_bl_str, isTy_bl_tup, isTy_bl_lst, isTy_bl_dic, typed_int, isTy_int_int, isTy_int_bool, isTy_int_str, isTy_int_tup, isTy_int_lst, isTy_int_dic, typed_str, isTy_str_int, isTy_str_bool, isTy_str_str, isTy_str_tup, isTy_str_lst, isTy_str_dic, typed_tup, isTy_tup_int, isTy_tup_bool, isTy_tup_str, isTy_tup_tup, isTy_tup_lst, isTy_tup_dic, typed_lst, isTy_lst_int, isTy_lst_bool, isTy_lst_str, isTy_lst_tup, isTy_lst_lst, isTy_lst_dic, typed_dic, isTy_dic_int, isTy_dic_bool, isTy_dic_str, isTy_dic_tup, isTy_dic_lst, isTy_dic_dic, truth_non, truth_bl, truth_int, truth_tup, truth_lst, binD_add, binD_sub, binD_mul, binD_fdiv, binD_mod, binD_pow, binD_shl, addD_int, subD_int, mulD_int, fdivD_int, modD_int, addD_lst, addD_tup, cmpD_eq, cmpD_ne, cmpD_lt, cmpD_le, cmpD_gt, cmpD_ge, cmpD_is, cmpD_isN, cmpD_mem, cmpD_memN, ltC_int, leC_int, isC_bl, idxD_tup, idxD_lst, idxD_hnd, blt_len, blt_abs, blt_int, blt_min2, blt_max2, len1_tup, len1_lst, absD_int, intD_int, min2D_int, max2D_int, items_tup, items_lst, bli_all, bli_any, bli_sum, bli_tupL, bli_tupT, bools_nil, bools_cons, slc_scr, slc_tup, slc_lst, kDct_nil, kLam_exc, kUnp_two, ls5, ls6, tvb, kTup, kLst, kBin2, kBin, kNot, kCmp2, kCmp, kChn4, kChn3, kChn2, kChn, kIte, kIdx2, kIdx, kSlc2, kSlc, kCall, kBlt, kIsi, kSh, kComp, kCons3, kCons2, kCons, kPons2, kPons, kRons2, kRons, kTnot, kTand, kTor, kTru, kRng, kSet, kPar, kSix2, kSix, kEx, kIf, kFor, kWh2, kCmpL2, kCmpL1, kCmpL, kForS, List.set_cons_zero, List.set_cons_succ, List.any_cons, List.any_nil, Bool.or_false, Bool.or_true, Bool.not_true, Bool.not_false, Bool.true_and, Bool.false_and, Option.map_some, Option.map_none, Option.bind_some, Option.bind_none, if_true, if_false, Bool.false_eq_true, List.length_cons, List.length_nil, List.map_cons, List.map_nil, List.cons_append, List.nil_append, List.replicate_zero, List.replicate_succ, Nat.reduceSub, Nat.reduceAdd, Nat.reduceLT, Nat.reduceLeDiff, Int.reduceLT, Int.reduceLE, Int.reduceNeg, Int.reduceToNat, Int.reduceMul, Int.reduceAdd, Int.reducePow, reduceIte, List.length_map, decide_true, decide_false, Int.cast_ofNat_Int, Bool.and_true, Bool.and_false, Tg.slots, noOwn, List.all_cons, List.all_nil, Pf.wipe, Pf.restore, List.foldl_cons, List.foldl_nil, Pf.start, t_are_heats, sized_s, keeping_no (n + 2) _ _ h, id]
theorem mul5 : mulD (.tup [.tup [.int 1, .int 2]]) (.int 5) = some (.val (.tup [.tup [.int 1, .int 2], .tup [.int 1, .int 2], .tup [.int 1, .int 2], .tup [.int 1, .int 2], .tup [.int 1, .int 2]])) := rfl
theorem no_heats_s (n : Nat) (h : List D) (hi : HI h) : ∃ d h', callN T (n + 4) 24 [.hnd] (some h) = .ok (.val d) (some h') ∧ BadH d ∧ HI h' := by
  obtain ⟨d, h1, e1, dd, i1⟩ := deep_s n h hi
  obtain ⟨x, h2, xm, e2, i2⟩ := any_s (n + 1) h1 i1 [.non, .tup [], .lst [.tup [.int 1, .int 2]], .tup [.tup [.int 0, .int 1]], .tup [.tup [.int 3, .int 2]], .tup [.tup [.int 2, .int 4]], .tup [.tup [.int (-1), .int 2]], .tup [.tup [.bl true, .int 2]],
    .tup [.tup [.int 1, .int 2], .tup [.int 1, .int 2], .tup [.int 1, .int 2], .tup [.int 1, .int 2], .tup [.int 1, .int 2]], .int 0, .str "x", .tup [.int 1, .int 2], .dic [] [], .tup [.tup [.int 1]], .tup [.int 1], d] (by simp) (by simp)
  refine ⟨x, h2, ?_, ?_, i2⟩
  · rw [call_of (fn := t__law_no_heats) rfl rfl]
    simp only [rb_ok, rb_exc, rb_bad, rt_ok, rt_exc, sb_nx, sb_rt, sb_exc, ro_some, so_some, sh_val, sh_own, tvd_val, tvd_own, tvd_brw, cr_ok, cr_exc, ec_nx, ec_val, ec_own, ec_exc, ev_c, ev_v, ev_p, ev_q, rdSq_val, rdSq_lst, rdSl_val, rdSl_own, rdSv_val, rdSv_own, ev_tup, ev_lst, ev_dct, ev_bin, ev_neg, ev_not, ev_and, ev_or, ev_cmp, ev_cmp2, ev_ite, ev_idx, ev_slc, ev_call, ev_blt, ev_bli, ev_isi, ev_comp, ev_lam, evs_nil, evs_cons, evp_nil, evp_cons, evR_nil, evR_cons, evT_nil, evT_not, evT_and, evT_or, evT_tv, evO_nil, evO_tv, evI_rng, evI_tv, evSh_eq, compL_nil, compL_cons, ex_skip, ex_seq, ex_set, ex_unp, ex_par, ex_six, ex_app, kApp0_own, kApp_eq, kApp1_own, ex_ex, ex_ret, ex_if, ex_for, ex_wh, ex_rse0, ex_mkh, forL_nil, forL_cons, kRet_val, kRet_own, kAnd_bl, kOr_bl, kNeg_int, kOpt_int, putV_val, putV_own, putX_nil, putX_nm, kBli_val, kBli_own, kItm_val, kItm_own, kComp2_ok, kMkh_ok, gz, gs, st_env, st_hd, at0, at1, at2, at3, at4, pl1, pl2, pl3, pl4, eq_int, has0, ls0, ls1, ls2, ls3, ls4, typed_non, isTy_non_int, isTy_non_bool, isTy_non_str, isTy_non_tup, isTy_non_lst, isTy_non_dic, typed_bl, isTy_bl_int, isTy_bl_bool, isTy_bl_str, isTy_bl_tup, isTy_bl_lst, isTy_bl_dic, typed_int, isTy_int_int, isTy_int_bool, isTy_int_str, isTy_int_tup, isTy_int_lst, isTy_int_dic, typed_str, isTy_str_int, isTy_str_bool, isTy_str_str, isTy_str_tup, isTy_str_lst, isTy_str_dic, typed_tup, isTy_tup_int, isTy_tup_bool, isTy_tup_str, isTy_tup_tup, isTy_tup_lst, isTy_tup_dic, typed_lst, isTy_lst_int, isTy_lst_bool, isTy_lst_str, isTy_lst_tup, isTy_lst_lst, isTy_lst_dic, typed_dic, isTy_dic_int, isTy_dic_bool, isTy_dic_str, isTy_dic_tup, isTy_dic_lst, isTy_dic_dic, truth_non, truth_bl, truth_int, truth_tup, truth_lst, binD_add, binD_sub, binD_mul, binD_fdiv, binD_mod, binD_pow, binD_shl, addD_int, subD_int, mulD_int, fdivD_int, modD_int, addD_lst, addD_tup, cmpD_eq, cmpD_ne, cmpD_lt, cmpD_le, cmpD_gt, cmpD_ge, cmpD_is, cmpD_isN, cmpD_mem, cmpD_memN, ltC_int, leC_int, isC_bl, idxD_tup, idxD_lst, idxD_hnd, blt_len, blt_abs, blt_int, blt_min2, blt_max2, len1_tup, len1_lst, absD_int, intD_int, min2D_int, max2D_int, items_tup, items_lst, bli_all, bli_any, bli_sum, bli_tupL, bli_tupT, bools_nil, bools_cons, slc_scr, slc_tup, slc_lst, kDct_nil, kLam_exc, kUnp_two, ls5, ls6, tvb, kTup, kLst, kBin2, kBin, kNot, kCmp2, kCmp, kChn4, kChn3, kChn2, kChn, kIte, kIdx2, kIdx, kSlc2, kSlc, kCall, kBlt, kIsi, kSh, kComp, kCons3, kCons2, kCons, kPons2, kPons, kRons2, kRons, kTnot, kTand, kTor, kTru, kRng, kSet, kPar, kSix2, kSix, kEx, kIf, kFor, kWh2, kCmpL2, kCmpL1, kCmpL, kForS, List.set_cons_zero, List.set_cons_succ, List.any_cons, List.any_nil, Bool.or_false, Bool.or_true, Bool.not_true, Bool.not_false, Bool.true_and, Bool.false_and, Option.map_some, Option.map_none, Option.bind_some, Option.bind_none, if_true, if_false, Bool.false_eq_true, List.length_cons, List.length_nil, List.map_cons, List.map_nil, List.cons_append, List.nil_append, List.replicate_zero, List.replicate_succ, Nat.reduceSub, Nat.reduceAdd, Nat.reduceLT, Nat.reduceLeDiff, Int.reduceLT, Int.reduceLE, Int.reduceNeg, Int.reduceToNat, Int.reduceMul, Int.reduceAdd, Int.reducePow, reduceIte, List.length_map, decide_true, decide_false, Int.cast_ofNat_Int, Bool.and_true, Bool.and_false, Tg.slots, noOwn, List.all_cons, List.all_nil, Pf.wipe, Pf.restore, List.foldl_cons, List.foldl_nil, Pf.start, t__law_no_heats, mul5, e1]
    rw [addD_lst (by simp [big])]
    simp only [rb_ok, rb_exc, rb_bad, rt_ok, rt_exc, sb_nx, sb_rt, sb_exc, ro_some, so_some, sh_val, sh_own, tvd_val, tvd_own, tvd_brw, cr_ok, cr_exc, ec_nx, ec_val, ec_own, ec_exc, ev_c, ev_v, ev_p, ev_q, rdSq_val, rdSq_lst, rdSl_val, rdSl_own, rdSv_val, rdSv_own, ev_tup, ev_lst, ev_dct, ev_bin, ev_neg, ev_not, ev_and, ev_or, ev_cmp, ev_cmp2, ev_ite, ev_idx, ev_slc, ev_call, ev_blt, ev_bli, ev_isi, ev_comp, ev_lam, evs_nil, evs_cons, evp_nil, evp_cons, evR_nil, evR_cons, evT_nil, evT_not, evT_and, evT_or, evT_tv, evO_nil, evO_tv, evI_rng, evI_tv, evSh_eq, compL_nil, compL_cons, ex_skip, ex_seq, ex_set, ex_unp, ex_par, ex_six, ex_app, kApp0_own, kApp_eq, kApp1_own, ex_ex, ex_ret, ex_if, ex_for, ex_wh, ex_rse0, ex_mkh, forL_nil, forL_cons, kRet_val, kRet_own, kAnd_bl, kOr_bl, kNeg_int, kOpt_int, putV_val, putV_own, putX_nil, putX_nm, kBli_val, kBli_own, kItm_val, kItm_own, kComp2_ok, kMkh_ok, gz, gs, st_env, st_hd, at0, at1, at2, at3, at4, pl1, pl2, pl3, pl4, eq_int, has0, ls0, ls1, ls2, ls3, ls4, typed_non, isTy_non_int, isTy_non_bool, isTy_non_str, isTy_non_tup, isTy_non_lst, isTy_non_dic, typed_bl, isTy_bl_int, isTy_bl_bool, isTy_bl_str, isTy_bl_tup, isTy_bl_lst, isTy_bl_dic, typed_int, isTy_int_int, isTy_int_bool, isTy_int_str, isTy_int_tup, isTy_int_lst, isTy_int_dic, typed_str, isTy_str_int, isTy_str_bool, isTy_str_str, isTy_str_tup, isTy_str_lst, isTy_str_dic, typed_tup, isTy_tup_int, isTy_tup_bool, isTy_tup_str, isTy_tup_tup, isTy_tup_lst, isTy_tup_dic, typed_lst, isTy_lst_int, isTy_lst_bool, isTy_lst_str, isTy_lst_tup, isTy_lst_lst, isTy_lst_dic, typed_dic, isTy_dic_int, isTy_dic_bool, isTy_dic_str, isTy_dic_tup, isTy_dic_lst, isTy_dic_dic, truth_non, truth_bl, truth_int, truth_tup, truth_lst, binD_add, binD_sub, binD_mul, binD_fdiv, binD_mod, binD_pow, binD_shl, addD_int, subD_int, mulD_int, fdivD_int, modD_int, addD_lst, addD_tup, cmpD_eq, cmpD_ne, cmpD_lt, cmpD_le, cmpD_gt, cmpD_ge, cmpD_is, cmpD_isN, cmpD_mem, cmpD_memN, ltC_int, leC_int, isC_bl, idxD_tup, idxD_lst, idxD_hnd, blt_len, blt_abs, blt_int, blt_min2, blt_max2, len1_tup, len1_lst, absD_int, intD_int, min2D_int, max2D_int, items_tup, items_lst, bli_all, bli_any, bli_sum, bli_tupL, bli_tupT, bools_nil, bools_cons, slc_scr, slc_tup, slc_lst, kDct_nil, kLam_exc, kUnp_two, ls5, ls6, tvb, kTup, kLst, kBin2, kBin, kNot, kCmp2, kCmp, kChn4, kChn3, kChn2, kChn, kIte, kIdx2, kIdx, kSlc2, kSlc, kCall, kBlt, kIsi, kSh, kComp, kCons3, kCons2, kCons, kPons2, kPons, kRons2, kRons, kTnot, kTand, kTor, kTru, kRng, kSet, kPar, kSix2, kSix, kEx, kIf, kFor, kWh2, kCmpL2, kCmpL1, kCmpL, kForS, List.set_cons_zero, List.set_cons_succ, List.any_cons, List.any_nil, Bool.or_false, Bool.or_true, Bool.not_true, Bool.not_false, Bool.true_and, Bool.false_and, Option.map_some, Option.map_none, Option.bind_some, Option.bind_none, if_true, if_false, Bool.false_eq_true, List.length_cons, List.length_nil, List.map_cons, List.map_nil, List.cons_append, List.nil_append, List.replicate_zero, List.replicate_succ, Nat.reduceSub, Nat.reduceAdd, Nat.reduceLT, Nat.reduceLeDiff, Int.reduceLT, Int.reduceLE, Int.reduceNeg, Int.reduceToNat, Int.reduceMul, Int.reduceAdd, Int.reducePow, reduceIte, List.length_map, decide_true, decide_false, Int.cast_ofNat_Int, Bool.and_true, Bool.and_false, Tg.slots, noOwn, List.all_cons, List.all_nil, Pf.wipe, Pf.restore, List.foldl_cons, List.foldl_nil, Pf.start, e2]
  · simp only [List.mem_cons, List.not_mem_nil, or_false] at xm
    rcases xm with rfl | rfl | rfl | rfl | rfl | rfl | rfl | rfl | rfl | rfl | rfl | rfl | rfl | rfl | rfl | rfl
    · exact bad_notup rfl rfl
    · exact fun n hd => by rfl
    · exact bad_notup rfl rfl
    · exact fun n hd => by rfl
    · exact fun n hd => by rfl
    · exact fun n hd => by rfl
    · exact fun n hd => by rfl
    · exact fun n hd => by rfl
    · exact fun n hd => by rfl
    · exact bad_notup rfl rfl
    · exact bad_notup rfl rfl
    · exact fun n hd => by rfl
    · exact bad_notup rfl rfl
    · exact fun n hd => by rfl
    · exact fun n hd => by rfl
    · exact bad_deep dd
/-- not a length -/
def BadL (d : D) : Prop := ∀ n hd, callN T (n + 2) 1 [d, .int 1, .int 60] hd = .ok (.val (.bl false)) hd
theorem no_length_s (n : Nat) (h : List D) (hi : HI h) : ∃ d h', callN T (n + 3) 25 [.hnd] (some h) = .ok (.val d) (some h') ∧ BadL d ∧ HI h' := by
  obtain ⟨x, h2, xm, e2, i2⟩ := any_s n h hi [.int 0, .int 61, .int (-1), .non, .bl true, .str "5", .tup [.int 5]] (by decide) (by decide)
  refine ⟨x, h2, ?_, ?_, i2⟩
  · rw [call_of (fn := t__law_no_length) rfl rfl]
    simp only [rb_ok, rb_exc, rb_bad, rt_ok, rt_exc, sb_nx, sb_rt, sb_exc, ro_some, so_some, sh_val, sh_own, tvd_val, tvd_own, tvd_brw, cr_ok, cr_exc, ec_nx, ec_val, ec_own, ec_exc, ev_c, ev_v, ev_p, ev_q, rdSq_val, rdSq_lst, rdSl_val, rdSl_own, rdSv_val, rdSv_own, ev_tup, ev_lst, ev_dct, ev_bin, ev_neg, ev_not, ev_and, ev_or, ev_cmp, ev_cmp2, ev_ite, ev_idx, ev_slc, ev_call, ev_blt, ev_bli, ev_isi, ev_comp, ev_lam, evs_nil, evs_cons, evp_nil, evp_cons, evR_nil, evR_cons, evT_nil, evT_not, evT_and, evT_or, evT_tv, evO_nil, evO_tv, evI_rng, evI_tv, evSh_eq, compL_nil, compL_cons, ex_skip, ex_seq, ex_set, ex_unp, ex_par, ex_six, ex_app, kApp0_own, kApp_eq, kApp1_own, ex_ex, ex_ret, ex_if, ex_for, ex_wh, ex_rse0, ex_mkh, forL_nil, forL_cons, kRet_val, kRet_own, kAnd_bl, kOr_bl, kNeg_int, kOpt_int, putV_val, putV_own, putX_nil, putX_nm, kBli_val, kBli_own, kItm_val, kItm_own, kComp2_ok, kMkh_ok, gz, gs, st_env, st_hd, at0, at1, at2, at3, at4, pl1, pl2, pl3, pl4, eq_int, has0, ls0, ls1, ls2, ls3, ls4, typed_non, isTy_non_int, isTy_non_bool, isTy_non_str, isTy_non_tup, isTy_non_lst, isTy_non_dic, typed_bl, isTy_bl_int, isTy_bl_bool, isTy_bl_str, isTy_bl_tup, isTy_bl_lst, isTy_bl_dic, typed_int, isTy_int_int, isTy_int_bool, isTy_int_str, isTy_int_tup, isTy_int_lst, isTy_int_dic, typed_str, isTy_str_int, isTy_str_bool, isTy_str_str, isTy_str_tup, isTy_str_lst, isTy_str_dic, typed_tup, isTy_tup_int, isTy_tup_bool, isTy_tup_str, isTy_tup_tup, isTy_tup_lst, isTy_tup_dic, typed_lst, isTy_lst_int, isTy_lst_bool, isTy_lst_str, isTy_lst_tup, isTy_lst_lst, isTy_lst_dic, typed_dic, isTy_dic_int, isTy_dic_bool, isTy_dic_str, isTy_dic_tup, isTy_dic_lst, isTy_dic_dic, truth_non, truth_bl, truth_int, truth_tup, truth_lst, binD_add, binD_sub, binD_mul, binD_fdiv, binD_mod, binD_pow, binD_shl, addD_int, subD_int, mulD_int, fdivD_int, modD_int, addD_lst, addD_tup, cmpD_eq, cmpD_ne, cmpD_lt, cmpD_le, cmpD_gt, cmpD_ge, cmpD_is, cmpD_isN, cmpD_mem, cmpD_memN, ltC_int, leC_int, isC_bl, idxD_tup, idxD_lst, idxD_hnd, blt_len, blt_abs, blt_int, blt_min2, blt_max2, len1_tup, len1_lst, absD_int, intD_int, min2D_int, max2D_int, items_tup, items_lst, bli_all, bli_any, bli_sum, bli_tupL, bli_tupT, bools_nil, bools_cons, slc_scr, slc_tup, slc_lst, kDct_nil, kLam_exc, kUnp_two, ls5, ls6, tvb, kTup, kLst, kBin2, kBin, kNot, kCmp2, kCmp, kChn4, kChn3, kChn2, kChn, kIte, kIdx2, kIdx, kSlc2, kSlc, kCall, kBlt, kIsi, kSh, kComp, kCons3, kCons2, kCons, kPons2, kPons, kRons2, kRons, kTnot, kTand, kTor, kTru, kRng, kSet, kPar, kSix2, kSix, kEx, kIf, kFor, kWh2, kCmpL2, kCmpL1, kCmpL, kForS, List.set_cons_zero, List.set_cons_succ, List.any_cons, List.any_nil, Bool.or_false, Bool.or_true, Bool.not_true, Bool.not_false, Bool.true_and, Bool.false_and, Option.map_some, Option.map_none, Option.bind_some, Option.bind_none, if_true, if_false, Bool.false_eq_true, List.length_cons, List.length_nil, List.map_cons, List.map_nil, List.cons_append, List.nil_append, List.replicate_zero, List.replicate_succ, Nat.reduceSub, Nat.reduceAdd, Nat.reduceLT, Nat.reduceLeDiff, Int.reduceLT, Int.reduceLE, Int.reduceNeg, Int.reduceToNat, Int.reduceMul, Int.reduceAdd, Int.reducePow, reduceIte, List.length_map, decide_true, decide_false, Int.cast_ofNat_Int, Bool.and_true, Bool.and_false, Tg.slots, noOwn, List.all_cons, List.all_nil, Pf.wipe, Pf.restore, List.foldl_cons, List.foldl_nil, Pf.start, t__law_no_length, e2]
  · simp only [List.mem_cons, List.not_mem_nil, or_false] at xm
    rcases xm with rfl | rfl | rfl | rfl | rfl | rfl | rfl
    · exact fun n hd => by rfl
    · exact fun n hd => by rfl
    · exact fun n hd => by rfl
    · exact fun n hd => within_no n _ _ _ hd rfl rfl
    · exact fun n hd => within_no n _ _ _ hd rfl rfl
    · exact fun n hd => within_no n _ _ _ hd rfl rfl
    · exact fun n hd => within_no n _ _ _ hd rfl rfl
theorem ch_heats (n : Nat) (hs : List (Nat × Nat)) (hd) (h : Hs hs) : callN T (n + 5) 7 [hsD hs] hd = .ok (.val .non) hd := by
  rw [call_of (fn := t_check_heats) rfl rfl]
  simp only [rb_ok, rb_exc, rb_bad, rt_ok, rt_exc, sb_nx, sb_rt, sb_exc, ro_some, so_some, sh_val, sh_own, tvd_val, tvd_own, tvd_brw, cr_ok, cr_exc, ec_nx, ec_val, ec_own, ec_exc, ev_c, ev_v, ev_p, ev_q, rdSq_val, rdSq_lst, rdSl_val, rdSl_own, rdSv_val, rdSv_own, ev_tup, ev_lst, ev_dct, ev_bin, ev_neg, ev_not, ev_and, ev_or, ev_cmp, ev_cmp2, ev_ite, ev_idx, ev_slc, ev_call, ev_blt, ev_bli, ev_isi, ev_comp, ev_lam, evs_nil, evs_cons, evp_nil, evp_cons, evR_nil, evR_cons, evT_nil, evT_not, evT_and, evT_or, evT_tv, evO_nil, evO_tv, evI_rng, evI_tv, evSh_eq, compL_nil, compL_cons, ex_skip, ex_seq, ex_set, ex_unp, ex_par, ex_six, ex_app, kApp0_own, kApp_eq, kApp1_own, ex_ex, ex_ret, ex_if, ex_for, ex_wh, ex_rse0, ex_mkh, forL_nil, forL_cons, kRet_val, kRet_own, kAnd_bl, kOr_bl, kNeg_int, kOpt_int, putV_val, putV_own, putX_nil, putX_nm, kBli_val, kBli_own, kItm_val, kItm_own, kComp2_ok, kMkh_ok, gz, gs, st_env, st_hd, at0, at1, at2, at3, at4, pl1, pl2, pl3, pl4, eq_int, has0, ls0, ls1, ls2, ls3, ls4, typed_non, isTy_non_int, isTy_non_bool, isTy_non_str, isTy_non_tup, isTy_non_lst, isTy_non_dic, typed_bl, isTy_bl_int, isTy_bl_bool, isTy_bl_str, isTy_bl_tup, isTy_bl_lst, isTy_bl_dic, typed_int, isTy_int_int, isTy_int_bool, isTy_int_str, isTy_int_tup, isTy_int_lst, isTy_int_dic, typed_str, isTy_str_int, isTy_str_bool, isTy_str_str, isTy_str_tup, isTy_str_lst, isTy_str_dic, typed_tup, isTy_tup_int, isTy_tup_bool, isTy_tup_str, isTy_tup_tup, isTy_tup_lst, isTy_tup_dic, typed_lst, isTy_lst_int, isTy_lst_bool, isTy_lst_str, isTy_lst_tup, isTy_lst_lst, isTy_lst_dic, typed_dic, isTy_dic_int, isTy_dic_bool, isTy_dic_str, isTy_dic_tup, isTy_dic_lst, isTy_dic_dic, truth_non, truth_bl, truth_int, truth_tup, truth_lst, binD_add, binD_sub, binD_mul, binD_fdiv, binD_mod, binD_pow, binD_shl, addD_int, subD_int, mulD_int, fdivD_int, modD_int, addD_lst, addD_tup, cmpD_eq, cmpD_ne, cmpD_lt, cmpD_le, cmpD_gt, cmpD_ge, cmpD_is, cmpD_isN, cmpD_mem, cmpD_memN, ltC_int, leC_int, isC_bl, idxD_tup, idxD_lst, idxD_hnd, blt_len, blt_abs, blt_int, blt_min2, blt_max2, len1_tup, len1_lst, absD_int, intD_int, min2D_int, max2D_int, items_tup, items_lst, bli_all, bli_any, bli_sum, bli_tupL, bli_tupT, bools_nil, bools_cons, slc_scr, slc_tup, slc_lst, kDct_nil, kLam_exc, kUnp_two, ls5, ls6, tvb, kTup, kLst, kBin2, kBin, kNot, kCmp2, kCmp, kChn4, kChn3, kChn2, kChn, kIte, kIdx2, kIdx, kSlc2, kSlc, kCall, kBlt, kIsi, kSh, kComp, kCons3, kCons2, kCons, kPons2, kPons, kRons2, kRons, kTnot, kTand, kTor, kTru, kRng, kSet, kPar, kSix2, kSix, kEx, kIf, kFor, kWh2, kCmpL2, kCmpL1, kCmpL, kForS, List.set_cons_zero, List.set_cons_succ, List.any_cons, List.any_nil, Bool.or_false, Bool.or_true, Bool.not_true, Bool.not_false, Bool.true_and, Bool.false_and, Option.map_some, Option.map_none, Option.bind_some, Option.bind_none, if_true, if_false, Bool.false_eq_true, List.length_cons, List.length_nil, List.map_cons, List.map_nil, List.cons_append, List.nil_append, List.replicate_zero, List.replicate_succ, Nat.reduceSub, Nat.reduceAdd, Nat.reduceLT, Nat.reduceLeDiff, Int.reduceLT, Int.reduceLE, Int.reduceNeg, Int.reduceToNat, Int.reduceMul, Int.reduceAdd, Int.reducePow, reduceIte, List.length_map, decide_true, decide_false, Int.cast_ofNat_Int, Bool.and_true, Bool.and_false, Tg.slots, noOwn, List.all_cons, List.all_nil, Pf.wipe, Pf.restore, List.foldl_cons, List.foldl_nil, Pf.start, t_check_heats, are_heats_s n hs hd h]
theorem ch_heats_no (n : Nat) (d : D) (hd) (h : BadH d) : callN T (n + 7) 7 [d] hd = .exc ⟨1, none⟩ hd := by
  rw [call_of (fn := t_check_heats) rfl rfl]
  simp only [rb_ok, rb_exc, rb_bad, rt_ok, rt_exc, sb_nx, sb_rt, sb_exc, ro_some, so_some, sh_val, sh_own, tvd_val, tvd_own, tvd_brw, cr_ok, cr_exc, ec_nx, ec_val, ec_own, ec_exc, ev_c, ev_v, ev_p, ev_q, rdSq_val, rdSq_lst, rdSl_val, rdSl_own, rdSv_val, rdSv_own, ev_tup, ev_lst, ev_dct, ev_bin, ev_neg, ev_not, ev_and, ev_or, ev_cmp, ev_cmp2, ev_ite, ev_idx, ev_slc, ev_call, ev_blt, ev_bli, ev_isi, ev_comp, ev_lam, evs_nil, evs_cons, evp_nil, evp_cons, evR_nil, evR_cons, evT_nil, evT_not, evT_and, evT_or, evT_tv, evO_nil, evO_tv, evI_rng, evI_tv, evSh_eq, compL_nil, compL_cons, ex_skip, ex_seq, ex_set, ex_unp, ex_par, ex_six, ex_app, kApp0_own, kApp_eq, kApp1_own, ex_ex, ex_ret, ex_if, ex_for, ex_wh, ex_rse0, ex_mkh, forL_nil, forL_cons, kRet_val, kRet_own, kAnd_bl, kOr_bl, kNeg_int, kOpt_int, putV_val, putV_own, putX_nil, putX_nm, kBli_val, kBli_own, kItm_val, kItm_own, kComp2_ok, kMkh_ok, gz, gs, st_env, st_hd, at0, at1, at2, at3, at4, pl1, pl2, pl3, pl4, eq_int, has0, ls0, ls1, ls2, ls3, ls4, typed_non, isTy_non_int, isTy_non_bool, isTy_non_str, isTy_non_tup, isTy_non_lst, isTy_non_dic, typed_bl, isTy_bl_int, isTy_bl_bool, isTy_bl_str, isTy_bl_tup, isTy_bl_lst, isTy_bl_dic, typed_int, isTy_int_int, isTy_int_bool, isTy_int_str, isTy_int_tup, isTy_int_lst, isTy_int_dic, typed_str, isTy_str_int, isTy_str_bool, isTy_str_str, isTy_str_tup, isTy_str_lst, isTy_str_dic, typed_tup, isTy_tup_int, isTy_tup_bool, isTy_tup_str, isTy_tup_tup, isTy_tup_lst, isTy_tup_dic, typed_lst, isTy_lst_int, isTy_lst_bool, isTy_lst_str, isTy_lst_tup, isTy_lst_lst, isTy_lst_dic, typed_dic, isTy_dic_int, isTy_dic_bool, isTy_dic_str, isTy_dic_tup, isTy_dic_lst, isTy_dic_dic, truth_non, truth_bl, truth_int, truth_tup, truth_lst, binD_add, binD_sub, binD_mul, binD_fdiv, binD_mod, binD_pow, binD_shl, addD_int, subD_int, mulD_int, fdivD_int, modD_int, addD_lst, addD_tup, cmpD_eq, cmpD_ne, cmpD_lt, cmpD_le, cmpD_gt, cmpD_ge, cmpD_is, cmpD_isN, cmpD_mem, cmpD_memN, ltC_int, leC_int, isC_bl, idxD_tup, idxD_lst, idxD_hnd, blt_len, blt_abs, blt_int, blt_min2, blt_max2, len1_tup, len1_lst, absD_int, intD_int, min2D_int, max2D_int, items_tup, items_lst, bli_all, bli_any, bli_sum, bli_tupL, bli_tupT, bools_nil, bools_cons, slc_scr, slc_tup, slc_lst, kDct_nil, kLam_exc, kUnp_two, ls5, ls6, tvb, kTup, kLst, kBin2, kBin, kNot, kCmp2, kCmp, kChn4, kChn3, kChn2, kChn, kIte, kIdx2, kIdx, kSlc2, kSlc, kCall, kBlt, kIsi, kSh, kComp, kCons3, kCons2, kCons, kPons2, kPons, kRons2, kRons, kTnot, kTand, kTor, kTru, kRng, kSet, kPar, kSix2, kSix, kEx, kIf, kFor, kWh2, kCmpL2, kCmpL1, kCmpL, kForS, List.set_cons_zero, List.set_cons_succ, List.any_cons, List.any_nil, Bool.or_false, Bool.or_true, Bool.not_true, Bool.not_false, Bool.true_and, Bool.false_and, Option.map_some, Option.map_none, Option.bind_some, Option.bind_none, if_true, if_false, Bool.false_eq_true, List.length_cons, List.length_nil, List.map_cons, List.map_nil, List.cons_append, List.nil_append, List.replicate_zero, List.replicate_succ, Nat.reduceSub, Nat.reduceAdd, Nat.reduceLT, Nat.reduceLeDiff, Int.reduceLT, Int.reduceLE, Int.reduceNeg, Int.reduceToNat, Int.reduceMul, Int.reduceAdd, Int.reducePow, reduceIte, List.length_map, decide_true, decide_false, Int.cast_ofNat_Int, Bool.and_true, Bool.and_false, Tg.slots, noOwn, List.all_cons, List.all_nil, Pf.wipe, Pf.restore, List.foldl_cons, List.foldl_nil, Pf.start, t_check_heats, h n hd]
theorem ch_len (n : Nat) (l : Int) (hd) (h1 : 1 ≤ l) (h2 : l ≤ 60) : callN T (n + 3) 8 [.int l] hd = .ok (.val .non) hd := by
  rw [call_of (fn := t_check_length) rfl rfl]
  simp only [rb_ok, rb_exc, rb_bad, rt_ok, rt_exc, sb_nx, sb_rt, sb_exc, ro_some, so_some, sh_val, sh_own, tvd_val, tvd_own, tvd_brw, cr_ok, cr_exc, ec_nx, ec_val, ec_own, ec_exc, ev_c, ev_v, ev_p, ev_q, rdSq_val, rdSq_lst, rdSl_val, rdSl_own, rdSv_val, rdSv_own, ev_tup, ev_lst, ev_dct, ev_bin, ev_neg, ev_not, ev_and, ev_or, ev_cmp, ev_cmp2, ev_ite, ev_idx, ev_slc, ev_call, ev_blt, ev_bli, ev_isi, ev_comp, ev_lam, evs_nil, evs_cons, evp_nil, evp_cons, evR_nil, evR_cons, evT_nil, evT_not, evT_and, evT_or, evT_tv, evO_nil, evO_tv, evI_rng, evI_tv, evSh_eq, compL_nil, compL_cons, ex_skip, ex_seq, ex_set, ex_unp, ex_par, ex_six, ex_app, kApp0_own, kApp_eq, kApp1_own, ex_ex, ex_ret, ex_if, ex_for, ex_wh, ex_rse0, ex_mkh, forL_nil, forL_cons, kRet_val, kRet_own, kAnd_bl, kOr_bl, kNeg_int, kOpt_int, putV_val, putV_own, putX_nil, putX_nm, kBli_val, kBli_own, kItm_val, kItm_own, kComp2_ok, kMkh_ok, gz, gs, st_env, st_hd, at0, at1, at2, at3, at4, pl1, pl2, pl3, pl4, eq_int, has0, ls0, ls1, ls2, ls3, ls4, typed_non, isTy_non_int, isTy_non_bool, isTy_non_str, isTy_non_tup, isTy_non_lst, isTy_non_dic, typed_bl, isTy_bl_int, isTy_bl_bool, isTy_bl_str, isTy_bl_tup, isTy_bl_lst, isTy_bl_dic, typed_int, isTy_int_int, isTy_int_bool, isTy_int_str, isTy_int_tup, isTy_int_lst, isTy_int_dic, typed_str, isTy_str_int, isTy_str_bool, isTy_str_str, isTy_str_tup, isTy_str_lst, isTy_str_dic, typed_tup, isTy_tup_int, isTy_tup_bool, isTy_tup_str, isTy_tup_tup, isTy_tup_lst, isTy_tup_dic, typed_lst, isTy_lst_int, isTy_lst_bool, isTy_lst_str, isTy_lst_tup, isTy_lst_lst, isTy_lst_dic, typed_dic, isTy_dic_int, isTy_dic_bool, isTy_dic_str, isTy_dic_tup, isTy_dic_lst, isTy_dic_dic, truth_non, truth_bl, truth_int, truth_tup, truth_lst, binD_add, binD_sub, binD_mul, binD_fdiv, binD_mod, binD_pow, binD_shl, addD_int, subD_int, mulD_int, fdivD_int, modD_int, addD_lst, addD_tup, cmpD_eq, cmpD_ne, cmpD_lt, cmpD_le, cmpD_gt, cmpD_ge, cmpD_is, cmpD_isN, cmpD_mem, cmpD_memN, ltC_int, leC_int, isC_bl, idxD_tup, idxD_lst, idxD_hnd, blt_len, blt_abs, blt_int, blt_min2, blt_max2, len1_tup, len1_lst, absD_int, intD_int, min2D_int, max2D_int, items_tup, items_lst, bli_all, bli_any, bli_sum, bli_tupL, bli_tupT, bools_nil, bools_cons, slc_scr, slc_tup, slc_lst, kDct_nil, kLam_exc, kUnp_two, ls5, ls6, tvb, kTup, kLst, kBin2, kBin, kNot, kCmp2, kCmp, kChn4, kChn3, kChn2, kChn, kIte, kIdx2, kIdx, kSlc2, kSlc, kCall, kBlt, kIsi, kSh, kComp, kCons3, kCons2, kCons, kPons2, kPons, kRons2, kRons, kTnot, kTand, kTor, kTru, kRng, kSet, kPar, kSix2, kSix, kEx, kIf, kFor, kWh2, kCmpL2, kCmpL1, kCmpL, kForS, List.set_cons_zero, List.set_cons_succ, List.any_cons, List.any_nil, Bool.or_false, Bool.or_true, Bool.not_true, Bool.not_false, Bool.true_and, Bool.false_and, Option.map_some, Option.map_none, Option.bind_some, Option.bind_none, if_true, if_false, Bool.false_eq_true, List.length_cons, List.length_nil, List.map_cons, List.map_nil, List.cons_append, List.nil_append, List.replicate_zero, List.replicate_succ, Nat.reduceSub, Nat.reduceAdd, Nat.reduceLT, Nat.reduceLeDiff, Int.reduceLT, Int.reduceLE, Int.reduceNeg, Int.reduceToNat, Int.reduceMul, Int.reduceAdd, Int.reducePow, reduceIte, List.length_map, decide_true, decide_false, Int.cast_ofNat_Int, Bool.and_true, Bool.and_false, Tg.slots, noOwn, List.all_cons, List.all_nil, Pf.wipe, Pf.restore, List.foldl_cons, List.foldl_nil, Pf.start, t_check_length, within, decide_eq_true h1, decide_eq_true h2]
theorem ch_len_no (n : Nat) (d : D) (hd) (h : BadL d) : callN T (n + 3) 8 [d] hd = .exc ⟨2, none⟩ hd := by
  rw [call_of (fn := t_check_length) rfl rfl]
  simp only [rb_ok, rb_exc, rb_bad, rt_ok, rt_exc, sb_nx, sb_rt, sb_exc, ro_some, so_some, sh_val, sh_own, tvd_val, tvd_own, tvd_brw, cr_ok, cr_exc, ec_nx, ec_val, ec_own, ec_exc, ev_c, ev_v, ev_p, ev_q, rdSq_val, rdSq_lst, rdSl_val, rdSl_own, rdSv_val, rdSv_own, ev_tup, ev_lst, ev_dct, ev_bin, ev_neg, ev_not, ev_and, ev_or, ev_cmp, ev_cmp2, ev_ite, ev_idx, ev_slc, ev_call, ev_blt, ev_bli, ev_isi, ev_comp, ev_lam, evs_nil, evs_cons, evp_nil, evp_cons, evR_nil, evR_cons, evT_nil, evT_not, evT_and, evT_or, evT_tv, evO_nil, evO_tv, evI_rng, evI_tv, evSh_eq, compL_nil, compL_cons, ex_skip, ex_seq, ex_set, ex_unp, ex_par, ex_six, ex_app, kApp0_own, kApp_eq, kApp1_own, ex_ex, ex_ret, ex_if, ex_for, ex_wh, ex_rse0, ex_mkh, forL_nil, forL_cons, kRet_val, kRet_own, kAnd_bl, kOr_bl, kNeg_int, kOpt_int, putV_val, putV_own, putX_nil, putX_nm, kBli_val, kBli_own, kItm_val, kItm_own, kComp2_ok, kMkh_ok, gz, gs, st_env, st_hd, at0, at1, at2, at3, at4, pl1, pl2, pl3, pl4, eq_int, has0, ls0, ls1, ls2, ls3, ls4, typed_non, isTy_non_int, isTy_non_bool, isTy_non_str, isTy_non_tup, isTy_non_lst, isTy_non_dic, typed_bl, isTy_bl_int, isTy_bl_bool, isTy_bl_str, isTy_bl_tup, isTy_bl_lst, isTy_bl_dic, typed_int, isTy_int_int, isTy_int_bool, isTy_int_str, isTy_int_tup, isTy_int_lst, isTy_int_dic, typed_str, isTy_str_int, isTy_str_bool, isTy_str_str, isTy_str_tup, isTy_str_lst, isTy_str_dic, typed_tup, isTy_tup_int, isTy_tup_bool, isTy_tup_str, isTy_tup_tup, isTy_tup_lst, isTy_tup_dic, typed_lst, isTy_lst_int, isTy_lst_bool, isTy_lst_str, isTy_lst_tup, isTy_lst_lst, isTy_lst_dic, typed_dic, isTy_dic_int, isTy_dic_bool, isTy_dic_str, isTy_dic_tup, isTy_dic_lst, isTy_dic_dic, truth_non, truth_bl, truth_int, truth_tup, truth_lst, binD_add, binD_sub, binD_mul, binD_fdiv, binD_mod, binD_pow, binD_shl, addD_int, subD_int, mulD_int, fdivD_int, modD_int, addD_lst, addD_tup, cmpD_eq, cmpD_ne, cmpD_lt, cmpD_le, cmpD_gt, cmpD_ge, cmpD_is, cmpD_isN, cmpD_mem, cmpD_memN, ltC_int, leC_int, isC_bl, idxD_tup, idxD_lst, idxD_hnd, blt_len, blt_abs, blt_int, blt_min2, blt_max2, len1_tup, len1_lst, absD_int, intD_int, min2D_int, max2D_int, items_tup, items_lst, bli_all, bli_any, bli_sum, bli_tupL, bli_tupT, bools_nil, bools_cons, slc_scr, slc_tup, slc_lst, kDct_nil, kLam_exc, kUnp_two, ls5, ls6, tvb, kTup, kLst, kBin2, kBin, kNot, kCmp2, kCmp, kChn4, kChn3, kChn2, kChn, kIte, kIdx2, kIdx, kSlc2, kSlc, kCall, kBlt, kIsi, kSh, kComp, kCons3, kCons2, kCons, kPons2, kPons, kRons2, kRons, kTnot, kTand, kTor, kTru, kRng, kSet, kPar, kSix2, kSix, kEx, kIf, kFor, kWh2, kCmpL2, kCmpL1, kCmpL, kForS, List.set_cons_zero, List.set_cons_succ, List.any_cons, List.any_nil, Bool.or_false, Bool.or_true, Bool.not_true, Bool.not_false, Bool.true_and, Bool.false_and, Option.map_some, Option.map_none, Option.bind_some, Option.bind_none, if_true, if_false, Bool.false_eq_true, List.length_cons, List.length_nil, List.map_cons, List.map_nil, List.cons_append, List.nil_append, List.replicate_zero, List.replicate_succ, Nat.reduceSub, Nat.reduceAdd, Nat.reduceLT, Nat.reduceLeDiff, Int.reduceLT, Int.reduceLE, Int.reduceNeg, Int.reduceToNat, Int.reduceMul, Int.reduceAdd, Int.reducePow, reduceIte, List.length_map, decide_true, decide_false, Int.cast_ofNat_Int, Bool.and_true, Bool.and_false, Tg.slots, noOwn, List.all_cons, List.all_nil, Pf.wipe, Pf.restore, List.foldl_cons, List.foldl_nil, Pf.start, t_check_length, h n hd]
theorem both_s (n : Nat) (hs : List (Nat × Nat)) (l : Int) (hd) (h : Hs hs) (h1 : 1 ≤ l) (h2 : l ≤ 60) : callN T (n + 6) 9 [hsD hs, .int l] hd = .ok (.val .non) hd := by
  rw [call_of (fn := t_check_both) rfl rfl]
  simp only [rb_ok, rb_exc, rb_bad, rt_ok, rt_exc, sb_nx, sb_rt, sb_exc, ro_some, so_some, sh_val, sh_own, tvd_val, tvd_own, tvd_brw, cr_ok, cr_exc, ec_nx, ec_val, ec_own, ec_exc, ev_c, ev_v, ev_p, ev_q, rdSq_val, rdSq_lst, rdSl_val, rdSl_own, rdSv_val, rdSv_own, ev_tup, ev_lst, ev_dct, ev_bin, ev_neg, ev_not, ev_and, ev_or, ev_cmp, ev_cmp2, ev_ite, ev_idx, ev_slc, ev_call, ev_blt, ev_bli, ev_isi, ev_comp, ev_lam, evs_nil, evs_cons, evp_nil, evp_cons, evR_nil, evR_cons, evT_nil, evT_not, evT_and, evT_or, evT_tv, evO_nil, evO_tv, evI_rng, evI_tv, evSh_eq, compL_nil, compL_cons, ex_skip, ex_seq, ex_set, ex_unp, ex_par, ex_six, ex_app, kApp0_own, kApp_eq, kApp1_own, ex_ex, ex_ret, ex_if, ex_for, ex_wh, ex_rse0, ex_mkh, forL_nil, forL_cons, kRet_val, kRet_own, kAnd_bl, kOr_bl, kNeg_int, kOpt_int, putV_val, putV_own, putX_nil, putX_nm, kBli_val, kBli_own, kItm_val, kItm_own, kComp2_ok, kMkh_ok, gz, gs, st_env, st_hd, at0, at1, at2, at3, at4, pl1, pl2, pl3, pl4, eq_int, has0, ls0, ls1, ls2, ls3, ls4, typed_non, isTy_non_int, isTy_non_bool, isTy_non_str, isTy_non_tup, isTy_non_lst, isTy_non_dic, typed_bl, isTy_bl_int, isTy_bl_bool, isTy_bl_str, isTy_bl_tup, isTy_bl_lst, isTy_bl_dic, typed_int, isTy_int_int, isTy_int_bool, isTy_int_str, isTy_int_tup, isTy_int_lst, isTy_int_dic, typed_str, isTy_str_int, isTy_str_bool, isTy_str_str, isTy_str_tup, isTy_str_lst, isTy_str_dic, typed_tup, isTy_tup_int, isTy_tup_bool, isTy_tup_str, isTy_tup_tup, isTy_tup_lst, isTy_tup_dic, typed_lst, isTy_lst_int, isTy_lst_bool, isTy_lst_str, isTy_lst_tup, isTy_lst_lst, isTy_lst_dic, typed_dic, isTy_dic_int, isTy_dic_bool, isTy_dic_str, isTy_dic_tup, isTy_dic_lst, isTy_dic_dic, truth_non, truth_bl, truth_int, truth_tup, truth_lst, binD_add, binD_sub, binD_mul, binD_fdiv, binD_mod, binD_pow, binD_shl, addD_int, subD_int, mulD_int, fdivD_int, modD_int, addD_lst, addD_tup, cmpD_eq, cmpD_ne, cmpD_lt, cmpD_le, cmpD_gt, cmpD_ge, cmpD_is, cmpD_isN, cmpD_mem, cmpD_memN, ltC_int, leC_int, isC_bl, idxD_tup, idxD_lst, idxD_hnd, blt_len, blt_abs, blt_int, blt_min2, blt_max2, len1_tup, len1_lst, absD_int, intD_int, min2D_int, max2D_int, items_tup, items_lst, bli_all, bli_any, bli_sum, bli_tupL, bli_tupT, bools_nil, bools_cons, slc_scr, slc_tup, slc_lst, kDct_nil, kLam_exc, kUnp_two, ls5, ls6, tvb, kTup, kLst, kBin2, kBin, kNot, kCmp2, kCmp, kChn4, kChn3, kChn2, kChn, kIte, kIdx2, kIdx, kSlc2, kSlc, kCall, kBlt, kIsi, kSh, kComp, kCons3, kCons2, kCons, kPons2, kPons, kRons2, kRons, kTnot, kTand, kTor, kTru, kRng, kSet, kPar, kSix2, kSix, kEx, kIf, kFor, kWh2, kCmpL2, kCmpL1, kCmpL, kForS, List.set_cons_zero, List.set_cons_succ, List.any_cons, List.any_nil, Bool.or_false, Bool.or_true, Bool.not_true, Bool.not_false, Bool.true_and, Bool.false_and, Option.map_some, Option.map_none, Option.bind_some, Option.bind_none, if_true, if_false, Bool.false_eq_true, List.length_cons, List.length_nil, List.map_cons, List.map_nil, List.cons_append, List.nil_append, List.replicate_zero, List.replicate_succ, Nat.reduceSub, Nat.reduceAdd, Nat.reduceLT, Nat.reduceLeDiff, Int.reduceLT, Int.reduceLE, Int.reduceNeg, Int.reduceToNat, Int.reduceMul, Int.reduceAdd, Int.reducePow, reduceIte, List.length_map, decide_true, decide_false, Int.cast_ofNat_Int, Bool.and_true, Bool.and_false, Tg.slots, noOwn, List.all_cons, List.all_nil, Pf.wipe, Pf.restore, List.foldl_cons, List.foldl_nil, Pf.start, t_check_both, ch_heats n hs hd h, ch_len (n + 2) l hd h1 h2]
theorem both_noH (n : Nat) (d l : D) (hd) (h : BadH d) : callN T (n + 8) 9 [d, l] hd = .exc ⟨1, none⟩ hd := by
  rw [call_of (fn := t_check_both) rfl rfl]
  simp only [rb_ok, rb_exc, rb_bad, rt_ok, rt_exc, sb_nx, sb_rt, sb_exc, ro_some, so_some, sh_val, sh_own, tvd_val, tvd_own, tvd_brw, cr_ok, cr_exc, ec_nx, ec_val, ec_own, ec_exc, ev_c, ev_v, ev_p, ev_q, rdSq_val, rdSq_lst, rdSl_val, rdSl_own, rdSv_val, rdSv_own, ev_tup, ev_lst, ev_dct, ev_bin, ev_neg, ev_not, ev_and, ev_or, ev_cmp, ev_cmp2, ev_ite, ev_idx, ev_slc, ev_call, ev_blt, ev_bli, ev_isi, ev_comp, ev_lam, evs_nil, evs_cons, evp_nil, evp_cons, evR_nil, evR_cons, evT_nil, evT_not, evT_and, evT_or, evT_tv, evO_nil, evO_tv, evI_rng, evI_tv, evSh_eq, compL_nil, compL_cons, ex_skip, ex_seq, ex_set, ex_unp, ex_par, ex_six, ex_app, kApp0_own, kApp_eq, kApp1_own, ex_ex, ex_ret, ex_if, ex_for, ex_wh, ex_rse0, ex_mkh, forL_nil, forL_cons, kRet_val, kRet_own, kAnd_bl, kOr_bl, kNeg_int, kOpt_int, putV_val, putV_own, putX_nil, putX_nm, kBli_val, kBli_own, kItm_val, kItm_own, kComp2_ok, kMkh_ok, gz, gs, st_env, st_hd, at0, at1, at2, at3, at4, pl1, pl2, pl3, pl4, eq_int, has0, ls0, ls1, ls2, ls3, ls4, typed_non, isTy_non_int, isTy_non_bool, isTy_non_str, isTy_non_tup, isTy_non_lst, isTy_non_dic, typed_bl, isTy_bl_int, isTy_bl_bool, isTy_bl_str, isTy_bl_tup, isTy_bl_lst, isTy_bl_dic, typed_int, isTy_int_int, isTy_int_bool, isTy_int_str, isTy_int_tup, isTy_int_lst, isTy_int_dic, typed_str, isTy_str_int, isTy_str_bool, isTy_str_str, isTy_str_tup, isTy_str_lst, isTy_str_dic, typed_tup, isTy_tup_int, isTy_tup_bool, isTy_tup_str, isTy_tup_tup, isTy_tup_lst, isTy_tup_dic, typed_lst, isTy_lst_int, isTy_lst_bool, isTy_lst_str, isTy_lst_tup, isTy_lst_lst, isTy_lst_dic, typed_dic, isTy_dic_int, isTy_dic_bool, isTy_dic_str, isTy_dic_tup, isTy_dic_lst, isTy_dic_dic, truth_non, truth_bl, truth_int, truth_tup, truth_lst, binD_add, binD_sub, binD_mul, binD_fdiv, binD_mod, binD_pow, binD_shl, addD_int, subD_int, mulD_int, fdivD_int, modD_int, addD_lst, addD_tup, cmpD_eq, cmpD_ne, cmpD_lt, cmpD_le, cmpD_gt, cmpD_ge, cmpD_is, cmpD_isN, cmpD_mem, cmpD_memN, ltC_int, leC_int, isC_bl, idxD_tup, idxD_lst, idxD_hnd, blt_len, blt_abs, blt_int, blt_min2, blt_max2, len1_tup, len1_lst, absD_int, intD_int, min2D_int, max2D_int, items_tup, items_lst, bli_all, bli_any, bli_sum, bli_tupL, bli_tupT, bools_nil, bools_cons, slc_scr, slc_tup, slc_lst, kDct_nil, kLam_exc, kUnp_two, ls5, ls6, tvb, kTup, kLst, kBin2, kBin, kNot, kCmp2, kCmp, kChn4, kChn3, kChn2, kChn, kIte, kIdx2, kIdx, kSlc2, kSlc, kCall, kBlt, kIsi, kSh, kComp, kCons3, kCons2, kCons, kPons2, kPons, kRons2, kRons, kTnot, kTand, kTor, kTru, kRng, kSet, kPar, kSix2, kSix, kEx, kIf, kFor, kWh2, kCmpL2, kCmpL1, kCmpL, kForS, List.set_cons_zero, List.set_cons_succ, List.any_cons, List.any_nil, Bool.or_false, Bool.or_true, Bool.not_true, Bool.not_false, Bool.true_and, Bool.false_and, Option.map_some, Option.map_none, Option.bind_some, Option.bind_none, if_true, if_false, Bool.false_eq_true, List.length_cons, List.length_nil, List.map_cons, List.map_nil, List.cons_append, List.nil_append, List.replicate_zero, List.replicate_succ, Nat.reduceSub, Nat.reduceAdd, Nat.reduceLT, Nat.reduceLeDiff, Int.reduceLT, Int.reduceLE, Int.reduceNeg, Int.reduceToNat, Int.reduceMul, Int.reduceAdd, Int.reducePow, reduceIte, List.length_map, decide_true, decide_false, Int.cast_ofNat_Int, Bool.and_true, Bool.and_false, Tg.slots, noOwn, List.all_cons, List.all_nil, Pf.wipe, Pf.restore, List.foldl_cons, List.foldl_nil, Pf.start, t_check_both, ch_heats_no n d hd h]
theorem both_noL (n : Nat) (hs : List (Nat × Nat)) (l : D) (hd) (h : Hs hs) (hl : BadL l) : callN T (n + 6) 9 [hsD hs, l] hd = .exc ⟨2, none⟩ hd := by
  rw [call_of (fn := t_check_both) rfl rfl]
  simp only [rb_ok, rb_exc, rb_bad, rt_ok, rt_exc, sb_nx, sb_rt, sb_exc, ro_some, so_some, sh_val, sh_own, tvd_val, tvd_own, tvd_brw, cr_ok, cr_exc, ec_nx, ec_val, ec_own, ec_exc, ev_c, ev_v, ev_p, ev_q, rdSq_val, rdSq_lst, rdSl_val, rdSl_own, rdSv_val, rdSv_own, ev_tup, ev_lst, ev_dct, ev_bin, ev_neg, ev_not, ev_and, ev_or, ev_cmp, ev_cmp2, ev_ite, ev_idx, ev_slc, ev_call, ev_blt, ev_bli, ev_isi, ev_comp, ev_lam, evs_nil, evs_cons, evp_nil, evp_cons, evR_nil, evR_cons, evT_nil, evT_not, evT_and, evT_or, evT_tv, evO_nil, evO_tv, evI_rng, evI_tv, evSh_eq, compL_nil, compL_cons, ex_skip, ex_seq, ex_set, ex_unp, ex_par, ex_six, ex_app, kApp0_own, kApp_eq, kApp1_own, ex_ex, ex_ret, ex_if, ex_for, ex_wh, ex_rse0, ex_mkh, forL_nil, forL_cons, kRet_val, kRet_own, kAnd_bl, kOr_bl, kNeg_int, kOpt_int, putV_val, putV_own, putX_nil, putX_nm, kBli_val, kBli_own, kItm_val, kItm_own, kComp2_ok, kMkh_ok, gz, gs, st_env, st_hd, at0, at1, at2, at3, at4, pl1, pl2, pl3, pl4, eq_int, has0, ls0, ls1, ls2, ls3, ls4, typed_non, isTy_non_int, isTy_non_bool, isTy_non_str, isTy_non_tup, isTy_non_lst, isTy_non_dic, typed_bl, isTy_bl_int, isTy_bl_bool, isTy_bl_str, isTy_bl_tup, isTy_bl_lst, isTy_bl_dic, typed_int, isTy_int_int, isTy_int_bool, isTy_int_str, isTy_int_tup, isTy_int_lst, isTy_int_dic, typed_str, isTy_str_int, isTy_str_bool, isTy_str_str, isTy_str_tup, isTy_str_lst, isTy_str_dic, typed_tup, isTy_tup_int, isTy_tup_bool, isTy_tup_str, isTy_tup_tup, isTy_tup_lst, isTy_tup_dic, typed_lst, isTy_lst_int, isTy_lst_bool, isTy_lst_str, isTy_lst_tup, isTy_lst_lst, isTy_lst_dic, typed_dic, isTy_dic_int, isTy_dic_bool, isTy_dic_str, isTy_dic_tup, isTy_dic_lst, isTy_dic_dic, truth_non, truth_bl, truth_int, truth_tup, truth_lst, binD_add, binD_sub, binD_mul, binD_fdiv, binD_mod, binD_pow, binD_shl, addD_int, subD_int, mulD_int, fdivD_int, modD_int, addD_lst, addD_tup, cmpD_eq, cmpD_ne, cmpD_lt, cmpD_le, cmpD_gt, cmpD_ge, cmpD_is, cmpD_isN, cmpD_mem, cmpD_memN, ltC_int, leC_int, isC_bl, idxD_tup, idxD_lst, idxD_hnd, blt_len, blt_abs, blt_int, blt_min2, blt_max2, len1_tup, len1_lst, absD_int, intD_int, min2D_int, max2D_int, items_tup, items_lst, bli_all, bli_any, bli_sum, bli_tupL, bli_tupT, bools_nil, bools_cons, slc_scr, slc_tup, slc_lst, kDct_nil, kLam_exc, kUnp_two, ls5, ls6, tvb, kTup, kLst, kBin2, kBin, kNot, kCmp2, kCmp, kChn4, kChn3, kChn2, kChn, kIte, kIdx2, kIdx, kSlc2, kSlc, kCall, kBlt, kIsi, kSh, kComp, kCons3, kCons2, kCons, kPons2, kPons, kRons2, kRons, kTnot, kTand, kTor, kTru, kRng, kSet, kPar, kSix2, kSix, kEx, kIf, kFor, kWh2, kCmpL2, kCmpL1, kCmpL, kForS, List.set_cons_zero, List.set_cons_succ, List.any_cons, List.any_nil, Bool.or_false, Bool.or_true, Bool.not_true, Bool.not_false, Bool.true_and, Bool.false_and, Option.map_some, Option.map_none, Option.bind_some, Option.bind_none, if_true, if_false, Bool.false_eq_true, List.length_cons, List.length_nil, List.map_cons, List.map_nil, List.cons_append, List.nil_append, List.replicate_zero, List.replicate_succ, Nat.reduceSub, Nat.reduceAdd, Nat.reduceLT, Nat.reduceLeDiff, Int.reduceLT, Int.reduceLE, Int.reduceNeg, Int.reduceToNat, Int.reduceMul, Int.reduceAdd, Int.reducePow, reduceIte, List.length_map, decide_true, decide_false, Int.cast_ofNat_Int, Bool.and_true, Bool.and_false, Tg.slots, noOwn, List.all_cons, List.all_nil, Pf.wipe, Pf.restore, List.foldl_cons, List.foldl_nil, Pf.start, t_check_both, ch_heats n hs hd h, ch_len_no (n + 2) l hd hl]
/-- one wash -/
def wsh (l : Int) (x : Nat × Nat) : Int := max 1 (l * x.1 / x.2)
theorem wsh_s (n : Nat) (l : Int) (x : Nat × Nat) (hd) (h : Sh x.1 x.2) : callN T (n + 1) 10 [.int l, shD x] hd = .ok (.val (.int (wsh l x))) hd := by
  obtain ⟨h1, h2, h3, _⟩ := h
  exact washed_s n l x.1 x.2 hd (by omega) (by omega) (mulR _ _ (by omega) (by omega))
theorem once_s (n : Nat) (l : Int) (x : Nat × Nat) (hd) (h : Sh x.1 x.2) : callN T (n + 1) 22 [shD x, .int l] hd = .ok (.val (.int (wsh l x))) hd := by
  obtain ⟨p, q⟩ := x
  obtain ⟨h1, h2, h3, _⟩ := h
  dsimp only at h1 h2 h3
  have m : mulOk l (p : Int) = true := mulR _ _ (by omega) (by omega)
  have q1 : (0 : Int) < (q : Int) := by omega
  have q2 : (q : Int) < 1073741824 := by omega
  rw [call_of (fn := t__law_once) rfl rfl]
  simp only [rb_ok, rb_exc, rb_bad, rt_ok, rt_exc, sb_nx, sb_rt, sb_exc, ro_some, so_some, sh_val, sh_own, tvd_val, tvd_own, tvd_brw, cr_ok, cr_exc, ec_nx, ec_val, ec_own, ec_exc, ev_c, ev_v, ev_p, ev_q, rdSq_val, rdSq_lst, rdSl_val, rdSl_own, rdSv_val, rdSv_own, ev_tup, ev_lst, ev_dct, ev_bin, ev_neg, ev_not, ev_and, ev_or, ev_cmp, ev_cmp2, ev_ite, ev_idx, ev_slc, ev_call, ev_blt, ev_bli, ev_isi, ev_comp, ev_lam, evs_nil, evs_cons, evp_nil, evp_cons, evR_nil, evR_cons, evT_nil, evT_not, evT_and, evT_or, evT_tv, evO_nil, evO_tv, evI_rng, evI_tv, evSh_eq, compL_nil, compL_cons, ex_skip, ex_seq, ex_set, ex_unp, ex_par, ex_six, ex_app, kApp0_own, kApp_eq, kApp1_own, ex_ex, ex_ret, ex_if, ex_for, ex_wh, ex_rse0, ex_mkh, forL_nil, forL_cons, kRet_val, kRet_own, kAnd_bl, kOr_bl, kNeg_int, kOpt_int, putV_val, putV_own, putX_nil, putX_nm, kBli_val, kBli_own, kItm_val, kItm_own, kComp2_ok, kMkh_ok, gz, gs, st_env, st_hd, at0, at1, at2, at3, at4, pl1, pl2, pl3, pl4, eq_int, has0, ls0, ls1, ls2, ls3, ls4, typed_non, isTy_non_int, isTy_non_bool, isTy_non_str, isTy_non_tup, isTy_non_lst, isTy_non_dic, typed_bl, isTy_bl_int, isTy_bl_bool, isTy_bl_str, isTy_bl_tup, isTy_bl_lst, isTy_bl_dic, typed_int, isTy_int_int, isTy_int_bool, isTy_int_str, isTy_int_tup, isTy_int_lst, isTy_int_dic, typed_str, isTy_str_int, isTy_str_bool, isTy_str_str, isTy_str_tup, isTy_str_lst, isTy_str_dic, typed_tup, isTy_tup_int, isTy_tup_bool, isTy_tup_str, isTy_tup_tup, isTy_tup_lst, isTy_tup_dic, typed_lst, isTy_lst_int, isTy_lst_bool, isTy_lst_str, isTy_lst_tup, isTy_lst_lst, isTy_lst_dic, typed_dic, isTy_dic_int, isTy_dic_bool, isTy_dic_str, isTy_dic_tup, isTy_dic_lst, isTy_dic_dic, truth_non, truth_bl, truth_int, truth_tup, truth_lst, binD_add, binD_sub, binD_mul, binD_fdiv, binD_mod, binD_pow, binD_shl, addD_int, subD_int, mulD_int, fdivD_int, modD_int, addD_lst, addD_tup, cmpD_eq, cmpD_ne, cmpD_lt, cmpD_le, cmpD_gt, cmpD_ge, cmpD_is, cmpD_isN, cmpD_mem, cmpD_memN, ltC_int, leC_int, isC_bl, idxD_tup, idxD_lst, idxD_hnd, blt_len, blt_abs, blt_int, blt_min2, blt_max2, len1_tup, len1_lst, absD_int, intD_int, min2D_int, max2D_int, items_tup, items_lst, bli_all, bli_any, bli_sum, bli_tupL, bli_tupT, bools_nil, bools_cons, slc_scr, slc_tup, slc_lst, kDct_nil, kLam_exc, kUnp_two, ls5, ls6, tvb, kTup, kLst, kBin2, kBin, kNot, kCmp2, kCmp, kChn4, kChn3, kChn2, kChn, kIte, kIdx2, kIdx, kSlc2, kSlc, kCall, kBlt, kIsi, kSh, kComp, kCons3, kCons2, kCons, kPons2, kPons, kRons2, kRons, kTnot, kTand, kTor, kTru, kRng, kSet, kPar, kSix2, kSix, kEx, kIf, kFor, kWh2, kCmpL2, kCmpL1, kCmpL, kForS, List.set_cons_zero, List.set_cons_succ, List.any_cons, List.any_nil, Bool.or_false, Bool.or_true, Bool.not_true, Bool.not_false, Bool.true_and, Bool.false_and, Option.map_some, Option.map_none, Option.bind_some, Option.bind_none, if_true, if_false, Bool.false_eq_true, List.length_cons, List.length_nil, List.map_cons, List.map_nil, List.cons_append, List.nil_append, List.replicate_zero, List.replicate_succ, Nat.reduceSub, Nat.reduceAdd, Nat.reduceLT, Nat.reduceLeDiff, Int.reduceLT, Int.reduceLE, Int.reduceNeg, Int.reduceToNat, Int.reduceMul, Int.reduceAdd, Int.reducePow, reduceIte, List.length_map, decide_true, decide_false, Int.cast_ofNat_Int, Bool.and_true, Bool.and_false, Tg.slots, noOwn, List.all_cons, List.all_nil, Pf.wipe, Pf.restore, List.foldl_cons, List.foldl_nil, Pf.start, t__law_once, shD, m, q1, q2, max_is, wsh]
theorem hs_at {hs : List (Nat × Nat)} {w : Int} (h0 : 0 ≤ w) (h1 : w < hs.length) : ∃ x ∈ hs, hs[w.toNat]? = some x ∧ atD (hs.map shD) w = some (shD x) := by
  have hp : w.toNat < hs.length := by omega
  refine ⟨hs[w.toNat], List.getElem_mem hp, List.getElem?_eq_getElem hp, ?_⟩
  unfold atD place
  rw [if_pos h0, if_pos (by rw [List.length_map]; exact h1)]
  show (hs.map shD)[w.toNat]? = _
  rw [List.getElem?_map, List.getElem?_eq_getElem hp]; rfl
theorem at_s (n : Nat) (hs : List (Nat × Nat)) (l w : Int) (x : Nat × Nat) (hd) (h : Hs hs) (h1 : 1 ≤ l) (h2 : l ≤ 60) (w0 : 0 ≤ w) (w1 : w < hs.length) (ex : atD (hs.map shD) w = some (shD x)) (sx : Sh x.1 x.2) : callN T (n + 7) 11 [hsD hs, .int l, .int w] hd = .ok (.val (.int (wsh l x))) hd := by
  have e1 : decide (w ≤ (hs.length : Int) - 1) = true := decide_eq_true (by omega)
  have hb : callN T (n + 6) 9 [.tup (hs.map shD), .int l] hd = _ := both_s n hs l hd h h1 h2
  rw [call_of (fn := t_washed_at) rfl rfl]
  simp only [rb_ok, rb_exc, rb_bad, rt_ok, rt_exc, sb_nx, sb_rt, sb_exc, ro_some, so_some, sh_val, sh_own, tvd_val, tvd_own, tvd_brw, cr_ok, cr_exc, ec_nx, ec_val, ec_own, ec_exc, ev_c, ev_v, ev_p, ev_q, rdSq_val, rdSq_lst, rdSl_val, rdSl_own, rdSv_val, rdSv_own, ev_tup, ev_lst, ev_dct, ev_bin, ev_neg, ev_not, ev_and, ev_or, ev_cmp, ev_cmp2, ev_ite, ev_idx, ev_slc, ev_call, ev_blt, ev_bli, ev_isi, ev_comp, ev_lam, evs_nil, evs_cons, evp_nil, evp_cons, evR_nil, evR_cons, evT_nil, evT_not, evT_and, evT_or, evT_tv, evO_nil, evO_tv, evI_rng, evI_tv, evSh_eq, compL_nil, compL_cons, ex_skip, ex_seq, ex_set, ex_unp, ex_par, ex_six, ex_app, kApp0_own, kApp_eq, kApp1_own, ex_ex, ex_ret, ex_if, ex_for, ex_wh, ex_rse0, ex_mkh, forL_nil, forL_cons, kRet_val, kRet_own, kAnd_bl, kOr_bl, kNeg_int, kOpt_int, putV_val, putV_own, putX_nil, putX_nm, kBli_val, kBli_own, kItm_val, kItm_own, kComp2_ok, kMkh_ok, gz, gs, st_env, st_hd, at0, at1, at2, at3, at4, pl1, pl2, pl3, pl4, eq_int, has0, ls0, ls1, ls2, ls3, ls4, typed_non, isTy_non_int, isTy_non_bool, isTy_non_str, isTy_non_tup, isTy_non_lst, isTy_non_dic, typed_bl, isTy_bl_int, isTy_bl_bool, isTy_bl_str, isTy_bl_tup, isTy_bl_lst, isTy_bl_dic, typed_int, isTy_int_int, isTy_int_bool, isTy_int_str, isTy_int_tup, isTy_int_lst, isTy_int_dic, typed_str, isTy_str_int, isTy_str_bool, isTy_str_str, isTy_str_tup, isTy_str_lst, isTy_str_dic, typed_tup, isTy_tup_int, isTy_tup_bool, isTy_tup_str, isTy_tup_tup, isTy_tup_lst, isTy_tup_dic, typed_lst, isTy_lst_int, isTy_lst_bool, isTy_lst_str, isTy_lst_tup, isTy_lst_lst, isTy_lst_dic, typed_dic, isTy_dic_int, isTy_dic_bool, isTy_dic_str, isTy_dic_tup, isTy_dic_lst, isTy_dic_dic, truth_non, truth_bl, truth_int, truth_tup, truth_lst, binD_add, binD_sub, binD_mul, binD_fdiv, binD_mod, binD_pow, binD_shl, addD_int, subD_int, mulD_int, fdivD_int, modD_int, addD_lst, addD_tup, cmpD_eq, cmpD_ne, cmpD_lt, cmpD_le, cmpD_gt, cmpD_ge, cmpD_is, cmpD_isN, cmpD_mem, cmpD_memN, ltC_int, leC_int, isC_bl, idxD_tup, idxD_lst, idxD_hnd, blt_len, blt_abs, blt_int, blt_min2, blt_max2, len1_tup, len1_lst, absD_int, intD_int, min2D_int, max2D_int, items_tup, items_lst, bli_all, bli_any, bli_sum, bli_tupL, bli_tupT, bools_nil, bools_cons, slc_scr, slc_tup, slc_lst, kDct_nil, kLam_exc, kUnp_two, ls5, ls6, tvb, kTup, kLst, kBin2, kBin, kNot, kCmp2, kCmp, kChn4, kChn3, kChn2, kChn, kIte, kIdx2, kIdx, kSlc2, kSlc, kCall, kBlt, kIsi, kSh, kComp, kCons3, kCons2, kCons, kPons2, kPons, kRons2, kRons, kTnot, kTand, kTor, kTru, kRng, kSet, kPar, kSix2, kSix, kEx, kIf, kFor, kWh2, kCmpL2, kCmpL1, kCmpL, kForS, List.set_cons_zero, List.set_cons_succ, List.any_cons, List.any_nil, Bool.or_false, Bool.or_true, Bool.not_true, Bool.not_false, Bool.true_and, Bool.false_and, Option.map_some, Option.map_none, Option.bind_some, Option.bind_none, if_true, if_false, Bool.false_eq_true, List.length_cons, List.length_nil, List.map_cons, List.map_nil, List.cons_append, List.nil_append, List.replicate_zero, List.replicate_succ, Nat.reduceSub, Nat.reduceAdd, Nat.reduceLT, Nat.reduceLeDiff, Int.reduceLT, Int.reduceLE, Int.reduceNeg, Int.reduceToNat, Int.reduceMul, Int.reduceAdd, Int.reducePow, reduceIte, List.length_map, decide_true, decide_false, Int.cast_ofNat_Int, Bool.and_true, Bool.and_false, Tg.slots, noOwn, List.all_cons, List.all_nil, Pf.wipe, Pf.restore, List.foldl_cons, List.foldl_nil, Pf.start, t_washed_at, hsD, hb, within, decide_eq_true w0, e1, ex, wsh_s _ l x _ sx]
theorem at_noH (n : Nat) (d l w : D) (hd) (h : BadH d) : callN T (n + 9) 11 [d, l, w] hd = .exc ⟨1, none⟩ hd := by
  rw [call_of (fn := t_washed_at) rfl rfl]
  simp only [rb_ok, rb_exc, rb_bad, rt_ok, rt_exc, sb_nx, sb_rt, sb_exc, ro_some, so_some, sh_val, sh_own, tvd_val, tvd_own, tvd_brw, cr_ok, cr_exc, ec_nx, ec_val, ec_own, ec_exc, ev_c, ev_v, ev_p, ev_q, rdSq_val, rdSq_lst, rdSl_val, rdSl_own, rdSv_val, rdSv_own, ev_tup, ev_lst, ev_dct, ev_bin, ev_neg, ev_not, ev_and, ev_or, ev_cmp, ev_cmp2, ev_ite, ev_idx, ev_slc, ev_call, ev_blt, ev_bli, ev_isi, ev_comp, ev_lam, evs_nil, evs_cons, evp_nil, evp_cons, evR_nil, evR_cons, evT_nil, evT_not, evT_and, evT_or, evT_tv, evO_nil, evO_tv, evI_rng, evI_tv, evSh_eq, compL_nil, compL_cons, ex_skip, ex_seq, ex_set, ex_unp, ex_par, ex_six, ex_app, kApp0_own, kApp_eq, kApp1_own, ex_ex, ex_ret, ex_if, ex_for, ex_wh, ex_rse0, ex_mkh, forL_nil, forL_cons, kRet_val, kRet_own, kAnd_bl, kOr_bl, kNeg_int, kOpt_int, putV_val, putV_own, putX_nil, putX_nm, kBli_val, kBli_own, kItm_val, kItm_own, kComp2_ok, kMkh_ok, gz, gs, st_env, st_hd, at0, at1, at2, at3, at4, pl1, pl2, pl3, pl4, eq_int, has0, ls0, ls1, ls2, ls3, ls4, typed_non, isTy_non_int, isTy_non_bool, isTy_non_str, isTy_non_tup, isTy_non_lst, isTy_non_dic, typed_bl, isTy_bl_int, isTy_bl_bool, isTy_bl_str, isTy_bl_tup, isTy_bl_lst, isTy_bl_dic, typed_int, isTy_int_int, isTy_int_bool, isTy_int_str, isTy_int_tup, isTy_int_lst, isTy_int_dic, typed_str, isTy_str_int, isTy_str_bool, isTy_str_str, isTy_str_tup, isTy_str_lst, isTy_str_dic, typed_tup, isTy_tup_int, isTy_tup_bool, isTy_tup_str, isTy_tup_tup, isTy_tup_lst, isTy_tup_dic, typed_lst, isTy_lst_int, isTy_lst_bool, isTy_lst_str, isTy_lst_tup, isTy_lst_lst, isTy_lst_dic, typed_dic, isTy_dic_int, isTy_dic_bool, isTy_dic_str, isTy_dic_tup, isTy_dic_lst, isTy_dic_dic, truth_non, truth_bl, truth_int, truth_tup, truth_lst, binD_add, binD_sub, binD_mul, binD_fdiv, binD_mod, binD_pow, binD_shl, addD_int, subD_int, mulD_int, fdivD_int, modD_int, addD_lst, addD_tup, cmpD_eq, cmpD_ne, cmpD_lt, cmpD_le, cmpD_gt, cmpD_ge, cmpD_is, cmpD_isN, cmpD_mem, cmpD_memN, ltC_int, leC_int, isC_bl, idxD_tup, idxD_lst, idxD_hnd, blt_len, blt_abs, blt_int, blt_min2, blt_max2, len1_tup, len1_lst, absD_int, intD_int, min2D_int, max2D_int, items_tup, items_lst, bli_all, bli_any, bli_sum, bli_tupL, bli_tupT, bools_nil, bools_cons, slc_scr, slc_tup, slc_lst, kDct_nil, kLam_exc, kUnp_two, ls5, ls6, tvb, kTup, kLst, kBin2, kBin, kNot, kCmp2, kCmp, kChn4, kChn3, kChn2, kChn, kIte, kIdx2, kIdx, kSlc2, kSlc, kCall, kBlt, kIsi, kSh, kComp, kCons3, kCons2, kCons, kPons2, kPons, kRons2, kRons, kTnot, kTand, kTor, kTru, kRng, kSet, kPar, kSix2, kSix, kEx, kIf, kFor, kWh2, kCmpL2, kCmpL1, kCmpL, kForS, List.set_cons_zero, List.set_cons_succ, List.any_cons, List.any_nil, Bool.or_false, Bool.or_true, Bool.not_true, Bool.not_false, Bool.true_and, Bool.false_and, Option.map_some, Option.map_none, Option.bind_some, Option.bind_none, if_true, if_false, Bool.false_eq_true, List.length_cons, List.length_nil, List.map_cons, List.map_nil, List.cons_append, List.nil_append, List.replicate_zero, List.replicate_succ, Nat.reduceSub, Nat.reduceAdd, Nat.reduceLT, Nat.reduceLeDiff, Int.reduceLT, Int.reduceLE, Int.reduceNeg, Int.reduceToNat, Int.reduceMul, Int.reduceAdd, Int.reducePow, reduceIte, List.length_map, decide_true, decide_false, Int.cast_ofNat_Int, Bool.and_true, Bool.and_false, Tg.slots, noOwn, List.all_cons, List.all_nil, Pf.wipe, Pf.restore, List.foldl_cons, List.foldl_nil, Pf.start, t_washed_at, both_noH n d l hd h]
theorem at_noL (n : Nat) (hs : List (Nat × Nat)) (l w : D) (hd) (h : Hs hs) (hl : BadL l) : callN T (n + 7) 11 [hsD hs, l, w] hd = .exc ⟨2, none⟩ hd := by
  rw [call_of (fn := t_washed_at) rfl rfl]
  simp only [rb_ok, rb_exc, rb_bad, rt_ok, rt_exc, sb_nx, sb_rt, sb_exc, ro_some, so_some, sh_val, sh_own, tvd_val, tvd_own, tvd_brw, cr_ok, cr_exc, ec_nx, ec_val, ec_own, ec_exc, ev_c, ev_v, ev_p, ev_q, rdSq_val, rdSq_lst, rdSl_val, rdSl_own, rdSv_val, rdSv_own, ev_tup, ev_lst, ev_dct, ev_bin, ev_neg, ev_not, ev_and, ev_or, ev_cmp, ev_cmp2, ev_ite, ev_idx, ev_slc, ev_call, ev_blt, ev_bli, ev_isi, ev_comp, ev_lam, evs_nil, evs_cons, evp_nil, evp_cons, evR_nil, evR_cons, evT_nil, evT_not, evT_and, evT_or, evT_tv, evO_nil, evO_tv, evI_rng, evI_tv, evSh_eq, compL_nil, compL_cons, ex_skip, ex_seq, ex_set, ex_unp, ex_par, ex_six, ex_app, kApp0_own, kApp_eq, kApp1_own, ex_ex, ex_ret, ex_if, ex_for, ex_wh, ex_rse0, ex_mkh, forL_nil, forL_cons, kRet_val, kRet_own, kAnd_bl, kOr_bl, kNeg_int, kOpt_int, putV_val, putV_own, putX_nil, putX_nm, kBli_val, kBli_own, kItm_val, kItm_own, kComp2_ok, kMkh_ok, gz, gs, st_env, st_hd, at0, at1, at2, at3, at4, pl1, pl2, pl3, pl4, eq_int, has0, ls0, ls1, ls2, ls3, ls4, typed_non, isTy_non_int, isTy_non_bool, isTy_non_str, isTy_non_tup, isTy_non_lst, isTy_non_dic, typed_bl, isTy_bl_int, isTy_bl_bool, isTy_bl_str, isTy_bl_tup, isTy_bl_lst, isTy_bl_dic, typed_int, isTy_int_int, isTy_int_bool, isTy_int_str, isTy_int_tup, isTy_int_lst, isTy_int_dic, typed_str, isTy_str_int, isTy_str_bool, isTy_str_str, isTy_str_tup, isTy_str_lst, isTy_str_dic, typed_tup, isTy_tup_int, isTy_tup_bool, isTy_tup_str, isTy_tup_tup, isTy_tup_lst, isTy_tup_dic, typed_lst, isTy_lst_int, isTy_lst_bool, isTy_lst_str, isTy_lst_tup, isTy_lst_lst, isTy_lst_dic, typed_dic, isTy_dic_int, isTy_dic_bool, isTy_dic_str, isTy_dic_tup, isTy_dic_lst, isTy_dic_dic, truth_non, truth_bl, truth_int, truth_tup, truth_lst, binD_add, binD_sub, binD_mul, binD_fdiv, binD_mod, binD_pow, binD_shl, addD_int, subD_int, mulD_int, fdivD_int, modD_int, addD_lst, addD_tup, cmpD_eq, cmpD_ne, cmpD_lt, cmpD_le, cmpD_gt, cmpD_ge, cmpD_is, cmpD_isN, cmpD_mem, cmpD_memN, ltC_int, leC_int, isC_bl, idxD_tup, idxD_lst, idxD_hnd, blt_len, blt_abs, blt_int, blt_min2, blt_max2, len1_tup, len1_lst, absD_int, intD_int, min2D_int, max2D_int, items_tup, items_lst, bli_all, bli_any, bli_sum, bli_tupL, bli_tupT, bools_nil, bools_cons, slc_scr, slc_tup, slc_lst, kDct_nil, kLam_exc, kUnp_two, ls5, ls6, tvb, kTup, kLst, kBin2, kBin, kNot, kCmp2, kCmp, kChn4, kChn3, kChn2, kChn, kIte, kIdx2, kIdx, kSlc2, kSlc, kCall, kBlt, kIsi, kSh, kComp, kCons3, kCons2, kCons, kPons2, kPons, kRons2, kRons, kTnot, kTand, kTor, kTru, kRng, kSet, kPar, kSix2, kSix, kEx, kIf, kFor, kWh2, kCmpL2, kCmpL1, kCmpL, kForS, List.set_cons_zero, List.set_cons_succ, List.any_cons, List.any_nil, Bool.or_false, Bool.or_true, Bool.not_true, Bool.not_false, Bool.true_and, Bool.false_and, Option.map_some, Option.map_none, Option.bind_some, Option.bind_none, if_true, if_false, Bool.false_eq_true, List.length_cons, List.length_nil, List.map_cons, List.map_nil, List.cons_append, List.nil_append, List.replicate_zero, List.replicate_succ, Nat.reduceSub, Nat.reduceAdd, Nat.reduceLT, Nat.reduceLeDiff, Int.reduceLT, Int.reduceLE, Int.reduceNeg, Int.reduceToNat, Int.reduceMul, Int.reduceAdd, Int.reducePow, reduceIte, List.length_map, decide_true, decide_false, Int.cast_ofNat_Int, Bool.and_true, Bool.and_false, Tg.slots, noOwn, List.all_cons, List.all_nil, Pf.wipe, Pf.restore, List.foldl_cons, List.foldl_nil, Pf.start, t_washed_at, both_noL n hs l hd h hl]
/-- no place of a list of m -/
def BadW (m : Nat) (d : D) : Prop := ∀ n hd, callN T (n + 2) 1 [d, .int 0, .int ((m : Int) - 1)] hd = .ok (.val (.bl false)) hd
theorem at_noW (n : Nat) (hs : List (Nat × Nat)) (l : Int) (w : D) (hd) (h : Hs hs) (h1 : 1 ≤ l) (h2 : l ≤ 60) (hw : BadW hs.length w) : callN T (n + 7) 11 [hsD hs, .int l, w] hd = .exc ⟨4, none⟩ hd := by
  have hb : callN T (n + 6) 9 [.tup (hs.map shD), .int l] hd = _ := both_s n hs l hd h h1 h2
  have hw' : callN T (n + 6) 1 [w, .int 0, .int ((hs.length : Int) - 1)] hd = _ := hw (n + 4) hd
  rw [call_of (fn := t_washed_at) rfl rfl]
  simp only [rb_ok, rb_exc, rb_bad, rt_ok, rt_exc, sb_nx, sb_rt, sb_exc, ro_some, so_some, sh_val, sh_own, tvd_val, tvd_own, tvd_brw, cr_ok, cr_exc, ec_nx, ec_val, ec_own, ec_exc, ev_c, ev_v, ev_p, ev_q, rdSq_val, rdSq_lst, rdSl_val, rdSl_own, rdSv_val, rdSv_own, ev_tup, ev_lst, ev_dct, ev_bin, ev_neg, ev_not, ev_and, ev_or, ev_cmp, ev_cmp2, ev_ite, ev_idx, ev_slc, ev_call, ev_blt, ev_bli, ev_isi, ev_comp, ev_lam, evs_nil, evs_cons, evp_nil, evp_cons, evR_nil, evR_cons, evT_nil, evT_not, evT_and, evT_or, evT_tv, evO_nil, evO_tv, evI_rng, evI_tv, evSh_eq, compL_nil, compL_cons, ex_skip, ex_seq, ex_set, ex_unp, ex_par, ex_six, ex_app, kApp0_own, kApp_eq, kApp1_own, ex_ex, ex_ret, ex_if, ex_for, ex_wh, ex_rse0, ex_mkh, forL_nil, forL_cons, kRet_val, kRet_own, kAnd_bl, kOr_bl, kNeg_int, kOpt_int, putV_val, putV_own, putX_nil, putX_nm, kBli_val, kBli_own, kItm_val, kItm_own, kComp2_ok, kMkh_ok, gz, gs, st_env, st_hd, at0, at1, at2, at3, at4, pl1, pl2, pl3, pl4, eq_int, has0, ls0, ls1, ls2, ls3, ls4, typed_non, isTy_non_int, isTy_non_bool, isTy_non_str, isTy_non_tup, isTy_non_lst, isTy_non_dic, typed_bl, isTy_bl_int, isTy_bl_bool, isTy_bl_str, isTy_bl_tup, isTy_bl_lst, isTy_bl_dic, typed_int, isTy_int_int, isTy_int_bool, isTy_int_str, isTy_int_tup, isTy_int_lst, isTy_int_dic, typed_str, isTy_str_int, isTy_str_bool, isTy_str_str, isTy_str_tup, isTy_str_lst, isTy_str_dic, typed_tup, isTy_tup_int, isTy_tup_bool, isTy_tup_str, isTy_tup_tup, isTy_tup_lst, isTy_tup_dic, typed_lst, isTy_lst_int, isTy_lst_bool, isTy_lst_str, isTy_lst_tup, isTy_lst_lst, isTy_lst_dic, typed_dic, isTy_dic_int, isTy_dic_bool, isTy_dic_str, isTy_dic_tup, isTy_dic_lst, isTy_dic_dic, truth_non, truth_bl, truth_int, truth_tup, truth_lst, binD_add, binD_sub, binD_mul, binD_fdiv, binD_mod, binD_pow, binD_shl, addD_int, subD_int, mulD_int, fdivD_int, modD_int, addD_lst, addD_tup, cmpD_eq, cmpD_ne, cmpD_lt, cmpD_le, cmpD_gt, cmpD_ge, cmpD_is, cmpD_isN, cmpD_mem, cmpD_memN, ltC_int, leC_int, isC_bl, idxD_tup, idxD_lst, idxD_hnd, blt_len, blt_abs, blt_int, blt_min2, blt_max2, len1_tup, len1_lst, absD_int, intD_int, min2D_int, max2D_int, items_tup, items_lst, bli_all, bli_any, bli_sum, bli_tupL, bli_tupT, bools_nil, bools_cons, slc_scr, slc_tup, slc_lst, kDct_nil, kLam_exc, kUnp_two, ls5, ls6, tvb, kTup, kLst, kBin2, kBin, kNot, kCmp2, kCmp, kChn4, kChn3, kChn2, kChn, kIte, kIdx2, kIdx, kSlc2, kSlc, kCall, kBlt, kIsi, kSh, kComp, kCons3, kCons2, kCons, kPons2, kPons, kRons2, kRons, kTnot, kTand, kTor, kTru, kRng, kSet, kPar, kSix2, kSix, kEx, kIf, kFor, kWh2, kCmpL2, kCmpL1, kCmpL, kForS, List.set_cons_zero, List.set_cons_succ, List.any_cons, List.any_nil, Bool.or_false, Bool.or_true, Bool.not_true, Bool.not_false, Bool.true_and, Bool.false_and, Option.map_some, Option.map_none, Option.bind_some, Option.bind_none, if_true, if_false, Bool.false_eq_true, List.length_cons, List.length_nil, List.map_cons, List.map_nil, List.cons_append, List.nil_append, List.replicate_zero, List.replicate_succ, Nat.reduceSub, Nat.reduceAdd, Nat.reduceLT, Nat.reduceLeDiff, Int.reduceLT, Int.reduceLE, Int.reduceNeg, Int.reduceToNat, Int.reduceMul, Int.reduceAdd, Int.reducePow, reduceIte, List.length_map, decide_true, decide_false, Int.cast_ofNat_Int, Bool.and_true, Bool.and_false, Tg.slots, noOwn, List.all_cons, List.all_nil, Pf.wipe, Pf.restore, List.foldl_cons, List.foldl_nil, Pf.start, t_washed_at, hsD, hb, hw']
def rowD (ws : List Int) : D := .tup (ws.map .int)
def Row (hs : List (Nat × Nat)) (ws : List Int) : Prop := ws.length ≤ 12 ∧ ∀ w ∈ ws, 0 ≤ w ∧ w < hs.length
theorem row_loop (n : Nat) (hs : List (Nat × Nat)) (y : Pf.Slot) (hd) : ∀ (ws : List Int), (∀ w ∈ ws, 0 ≤ w ∧ w < hs.length) → compL [2] (.nm 2) (evT ⟨callN T (n + 2), T.ret, T.word⟩ .nil) (evSh ⟨callN T (n + 2), T.ret, T.word⟩ (.call 1 (.cons (.v 2) (.cons (.c (.int 0)) (.cons (.bin .sub (.blt .len (.cons (.p 0) .nil)) (.c (.int 1))) .nil))))) (ws.map .int) ⟨[.val (.tup (hs.map shD)), y, .un], hd⟩ = .ok (ws.map fun _ => .bl true) ⟨[.val (.tup (hs.map shD)), y, .un], hd⟩
  | [], _ => rfl
  | w :: ws, h => by
    obtain ⟨h0, h1⟩ := h w List.mem_cons_self
    have e1 : decide (w ≤ (hs.length : Int) - 1) = true := decide_eq_true (by omega)
    simp only [rb_ok, rb_exc, rb_bad, rt_ok, rt_exc, sb_nx, sb_rt, sb_exc, ro_some, so_some, sh_val, sh_own, tvd_val, tvd_own, tvd_brw, cr_ok, cr_exc, ec_nx, ec_val, ec_own, ec_exc, ev_c, ev_v, ev_p, ev_q, rdSq_val, rdSq_lst, rdSl_val, rdSl_own, rdSv_val, rdSv_own, ev_tup, ev_lst, ev_dct, ev_bin, ev_neg, ev_not, ev_and, ev_or, ev_cmp, ev_cmp2, ev_ite, ev_idx, ev_slc, ev_call, ev_blt, ev_bli, ev_isi, ev_comp, ev_lam, evs_nil, evs_cons, evp_nil, evp_cons, evR_nil, evR_cons, evT_nil, evT_not, evT_and, evT_or, evT_tv, evO_nil, evO_tv, evI_rng, evI_tv, evSh_eq, compL_nil, compL_cons, ex_skip, ex_seq, ex_set, ex_unp, ex_par, ex_six, ex_app, kApp0_own, kApp_eq, kApp1_own, ex_ex, ex_ret, ex_if, ex_for, ex_wh, ex_rse0, ex_mkh, forL_nil, forL_cons, kRet_val, kRet_own, kAnd_bl, kOr_bl, kNeg_int, kOpt_int, putV_val, putV_own, putX_nil, putX_nm, kBli_val, kBli_own, kItm_val, kItm_own, kComp2_ok, kMkh_ok, gz, gs, st_env, st_hd, at0, at1, at2, at3, at4, pl1, pl2, pl3, pl4, eq_int, has0, ls0, ls1, ls2, ls3, ls4, typed_non, isTy_non_int, isTy_non_bool, isTy_non_str, isTy_non_tup, isTy_non_lst, isTy_non_dic, typed_bl, isTy_bl_int, isTy_bl_bool, isTy_bl_str, isTy_bl_tup, isTy_bl_lst, isTy_bl_dic, typed_int, isTy_int_int, isTy_int_bool, isTy_int_str, isTy_int_tup, isTy_int_lst, isTy_int_dic, typed_str, isTy_str_int, isTy_str_bool, isTy_str_str, isTy_str_tup, isTy_str_lst, isTy_str_dic, typed_tup, isTy_tup_int, isTy_tup_bool, isTy_tup_str, isTy_tup_tup, isTy_tup_lst, isTy_tup_dic, typed_lst, isTy_lst_int, isTy_lst_bool, isTy_lst_str, isTy_lst_tup, isTy_lst_lst, isTy_lst_dic, typed_dic, isTy_dic_int, isTy_dic_bool, isTy_dic_str, isTy_dic_tup, isTy_dic_lst, isTy_dic_dic, truth_non, truth_bl, truth_int, truth_tup, truth_lst, binD_add, binD_sub, binD_mul, binD_fdiv, binD_mod, binD_pow, binD_shl, addD_int, subD_int, mulD_int, fdivD_int, modD_int, addD_lst, addD_tup, cmpD_eq, cmpD_ne, cmpD_lt, cmpD_le, cmpD_gt, cmpD_ge, cmpD_is, cmpD_isN, cmpD_mem, cmpD_memN, ltC_int, leC_int, isC_bl, idxD_tup, idxD_lst, idxD_hnd, blt_len, blt_abs, blt_int, blt_min2, blt_max2, len1_tup, len1_lst, absD_int, intD_int, min2D_int, max2D_int, items_tup, items_lst, bli_all, bli_any, bli_sum, bli_tupL, bli_tupT, bools_nil, bools_cons, slc_scr, slc_tup, slc_lst, kDct_nil, kLam_exc, kUnp_two, ls5, ls6, tvb, kTup, kLst, kBin2, kBin, kNot, kCmp2, kCmp, kChn4, kChn3, kChn2, kChn, kIte, kIdx2, kIdx, kSlc2, kSlc, kCall, kBlt, kIsi, kSh, kComp, kCons3, kCons2, kCons, kPons2, kPons, kRons2, kRons, kTnot, kTand, kTor, kTru, kRng, kSet, kPar, kSix2, kSix, kEx, kIf, kFor, kWh2, kCmpL2, kCmpL1, kCmpL, kForS, List.set_cons_zero, List.set_cons_succ, List.any_cons, List.any_nil, Bool.or_false, Bool.or_true, Bool.not_true, Bool.not_false, Bool.true_and, Bool.false_and, Option.map_some, Option.map_none, Option.bind_some, Option.bind_none, if_true, if_false, Bool.false_eq_true, List.length_cons, List.length_nil, List.map_cons, List.map_nil, List.cons_append, List.nil_append, List.replicate_zero, List.replicate_succ, Nat.reduceSub, Nat.reduceAdd, Nat.reduceLT, Nat.reduceLeDiff, Int.reduceLT, Int.reduceLE, Int.reduceNeg, Int.reduceToNat, Int.reduceMul, Int.reduceAdd, Int.reducePow, reduceIte, List.length_map, decide_true, decide_false, Int.cast_ofNat_Int, Bool.and_true, Bool.and_false, Tg.slots, noOwn, List.all_cons, List.all_nil, Pf.wipe, Pf.restore, List.foldl_cons, List.foldl_nil, Pf.start, within, decide_eq_true h0, e1]
    rw [row_loop n hs y hd ws fun v hv => h v (List.mem_cons_of_mem _ hv)]
    simp only [rb_ok, rb_exc, rb_bad, rt_ok, rt_exc, sb_nx, sb_rt, sb_exc, ro_some, so_some, sh_val, sh_own, tvd_val, tvd_own, tvd_brw, cr_ok, cr_exc, ec_nx, ec_val, ec_own, ec_exc, ev_c, ev_v, ev_p, ev_q, rdSq_val, rdSq_lst, rdSl_val, rdSl_own, rdSv_val, rdSv_own, ev_tup, ev_lst, ev_dct, ev_bin, ev_neg, ev_not, ev_and, ev_or, ev_cmp, ev_cmp2, ev_ite, ev_idx, ev_slc, ev_call, ev_blt, ev_bli, ev_isi, ev_comp, ev_lam, evs_nil, evs_cons, evp_nil, evp_cons, evR_nil, evR_cons, evT_nil, evT_not, evT_and, evT_or, evT_tv, evO_nil, evO_tv, evI_rng, evI_tv, evSh_eq, compL_nil, compL_cons, ex_skip, ex_seq, ex_set, ex_unp, ex_par, ex_six, ex_app, kApp0_own, kApp_eq, kApp1_own, ex_ex, ex_ret, ex_if, ex_for, ex_wh, ex_rse0, ex_mkh, forL_nil, forL_cons, kRet_val, kRet_own, kAnd_bl, kOr_bl, kNeg_int, kOpt_int, putV_val, putV_own, putX_nil, putX_nm, kBli_val, kBli_own, kItm_val, kItm_own, kComp2_ok, kMkh_ok, gz, gs, st_env, st_hd, at0, at1, at2, at3, at4, pl1, pl2, pl3, pl4, eq_int, has0, ls0, ls1, ls2, ls3, ls4, typed_non, isTy_non_int, isTy_non_bool, isTy_non_str, isTy_non_tup, isTy_non_lst, isTy_non_dic, typed_bl, isTy_bl_int, isTy_bl_bool, isTy_bl_str, isTy_bl_tup, isTy_bl_lst, isTy_bl_dic, typed_int, isTy_int_int, isTy_int_bool, isTy_int_str, isTy_int_tup, isTy_int_lst, isTy_int_dic, typed_str, isTy_str_int, isTy_str_bool, isTy_str_str, isTy_str_tup, isTy_str_lst, isTy_str_dic, typed_tup, isTy_tup_int, isTy_tup_bool, isTy_tup_str, isTy_tup_tup, isTy_tup_lst, isTy_tup_dic, typed_lst, isTy_lst_int, isTy_lst_bool, isTy_lst_str, isTy_lst_tup, isTy_lst_lst, isTy_lst_dic, typed_dic, isTy_dic_int, isTy_dic_bool, isTy_dic_str, isTy_dic_tup, isTy_dic_lst, isTy_dic_dic, truth_non, truth_bl, truth_int, truth_tup, truth_lst, binD_add, binD_sub, binD_mul, binD_fdiv, binD_mod, binD_pow, binD_shl, addD_int, subD_int, mulD_int, fdivD_int, modD_int, addD_lst, addD_tup, cmpD_eq, cmpD_ne, cmpD_lt, cmpD_le, cmpD_gt, cmpD_ge, cmpD_is, cmpD_isN, cmpD_mem, cmpD_memN, ltC_int, leC_int, isC_bl, idxD_tup, idxD_lst, idxD_hnd, blt_len, blt_abs, blt_int, blt_min2, blt_max2, len1_tup, len1_lst, absD_int, intD_int, min2D_int, max2D_int, items_tup, items_lst, bli_all, bli_any, bli_sum, bli_tupL, bli_tupT, bools_nil, bools_cons, slc_scr, slc_tup, slc_lst, kDct_nil, kLam_exc, kUnp_two, ls5, ls6, tvb, kTup, kLst, kBin2, kBin, kNot, kCmp2, kCmp, kChn4, kChn3, kChn2, kChn, kIte, kIdx2, kIdx, kSlc2, kSlc, kCall, kBlt, kIsi, kSh, kComp, kCons3, kCons2, kCons, kPons2, kPons, kRons2, kRons, kTnot, kTand, kTor, kTru, kRng, kSet, kPar, kSix2, kSix, kEx, kIf, kFor, kWh2, kCmpL2, kCmpL1, kCmpL, kForS, List.set_cons_zero, List.set_cons_succ, List.any_cons, List.any_nil, Bool.or_false, Bool.or_true, Bool.not_true, Bool.not_false, Bool.true_and, Bool.false_and, Option.map_some, Option.map_none, Option.bind_some, Option.bind_none, if_true, if_false, Bool.false_eq_true, List.length_cons, List.length_nil, List.map_cons, List.map_nil, List.cons_append, List.nil_append, List.replicate_zero, List.replicate_succ, Nat.reduceSub, Nat.reduceAdd, Nat.reduceLT, Nat.reduceLeDiff, Int.reduceLT, Int.reduceLE, Int.reduceNeg, Int.reduceToNat, Int.reduceMul, Int.reduceAdd, Int.reducePow, reduceIte, List.length_map, decide_true, decide_false, Int.cast_ofNat_Int, Bool.and_true, Bool.and_false, Tg.slots, noOwn, List.all_cons, List.all_nil, Pf.wipe, Pf.restore, List.foldl_cons, List.foldl_nil, Pf.start]
theorem ch_row (n : Nat) (hs : List (Nat × Nat)) (ws : List Int) (hd) (h : Row hs ws) : callN T (n + 3) 12 [hsD hs, rowD ws] hd = .ok (.val .non) hd := by
  obtain ⟨h1, h2⟩ := h
  have e1 : decide ((0 : Int) ≤ (ws.length : Int)) = true := decide_eq_true (by omega)
  have e2 : decide ((ws.length : Int) ≤ 12) = true := decide_eq_true (by omega)
  obtain ⟨bs, b1, b2⟩ := bools_true ws
  rw [call_of (fn := t_check_row) rfl rfl]
  simp only [rb_ok, rb_exc, rb_bad, rt_ok, rt_exc, sb_nx, sb_rt, sb_exc, ro_some, so_some, sh_val, sh_own, tvd_val, tvd_own, tvd_brw, cr_ok, cr_exc, ec_nx, ec_val, ec_own, ec_exc, ev_c, ev_v, ev_p, ev_q, rdSq_val, rdSq_lst, rdSl_val, rdSl_own, rdSv_val, rdSv_own, ev_tup, ev_lst, ev_dct, ev_bin, ev_neg, ev_not, ev_and, ev_or, ev_cmp, ev_cmp2, ev_ite, ev_idx, ev_slc, ev_call, ev_blt, ev_bli, ev_isi, ev_comp, ev_lam, evs_nil, evs_cons, evp_nil, evp_cons, evR_nil, evR_cons, evT_nil, evT_not, evT_and, evT_or, evT_tv, evO_nil, evO_tv, evI_rng, evI_tv, evSh_eq, compL_nil, compL_cons, ex_skip, ex_seq, ex_set, ex_unp, ex_par, ex_six, ex_app, kApp0_own, kApp_eq, kApp1_own, ex_ex, ex_ret, ex_if, ex_for, ex_wh, ex_rse0, ex_mkh, forL_nil, forL_cons, kRet_val, kRet_own, kAnd_bl, kOr_bl, kNeg_int, kOpt_int, putV_val, putV_own, putX_nil, putX_nm, kBli_val, kBli_own, kItm_val, kItm_own, kComp2_ok, kMkh_ok, gz, gs, st_env, st_hd, at0, at1, at2, at3, at4, pl1, pl2, pl3, pl4, eq_int, has0, ls0, ls1, ls2, ls3, ls4, typed_non, isTy_non_int, isTy_non_bool, isTy_non_str, isTy_non_tup, isTy_non_lst, isTy_non_dic, typed_bl, isTy_bl_int, isTy_bl_bool, isTy_bl_str, isTy_bl_tup, isTy_bl_lst, isTy_bl_dic, typed_int, isTy_int_int, isTy_int_bool, isTy_int_str, isTy_int_tup, isTy_int_lst, isTy_int_dic, typed_str, isTy_str_int, isTy_str_bool, isTy_str_str, isTy_str_tup, isTy_str_lst, isTy_str_dic, typed_tup, isTy_tup_int, isTy_tup_bool, isTy_tup_str, isTy_tup_tup, isTy_tup_lst, isTy_tup_dic, typed_lst, isTy_lst_int, isTy_lst_bool, isTy_lst_str, isTy_lst_tup, isTy_lst_lst, isTy_lst_dic, typed_dic, isTy_dic_int, isTy_dic_bool, isTy_dic_str, isTy_dic_tup, isTy_dic_lst, isTy_dic_dic, truth_non, truth_bl, truth_int, truth_tup, truth_lst, binD_add, binD_sub, binD_mul, binD_fdiv, binD_mod, binD_pow, binD_shl, addD_int, subD_int, mulD_int, fdivD_int, modD_int, addD_lst, addD_tup, cmpD_eq, cmpD_ne, cmpD_lt, cmpD_le, cmpD_gt, cmpD_ge, cmpD_is, cmpD_isN, cmpD_mem, cmpD_memN, ltC_int, leC_int, isC_bl, idxD_tup, idxD_lst, idxD_hnd, blt_len, blt_abs, blt_int, blt_min2, blt_max2, len1_tup, len1_lst, absD_int, intD_int, min2D_int, max2D_int, items_tup, items_lst, bli_all, bli_any, bli_sum, bli_tupL, bli_tupT, bools_nil, bools_cons, slc_scr, slc_tup, slc_lst, kDct_nil, kLam_exc, kUnp_two, ls5, ls6, tvb, kTup, kLst, kBin2, kBin, kNot, kCmp2, kCmp, kChn4, kChn3, kChn2, kChn, kIte, kIdx2, kIdx, kSlc2, kSlc, kCall, kBlt, kIsi, kSh, kComp, kCons3, kCons2, kCons, kPons2, kPons, kRons2, kRons, kTnot, kTand, kTor, kTru, kRng, kSet, kPar, kSix2, kSix, kEx, kIf, kFor, kWh2, kCmpL2, kCmpL1, kCmpL, kForS, List.set_cons_zero, List.set_cons_succ, List.any_cons, List.any_nil, Bool.or_false, Bool.or_true, Bool.not_true, Bool.not_false, Bool.true_and, Bool.false_and, Option.map_some, Option.map_none, Option.bind_some, Option.bind_none, if_true, if_false, Bool.false_eq_true, List.length_cons, List.length_nil, List.map_cons, List.map_nil, List.cons_append, List.nil_append, List.replicate_zero, List.replicate_succ, Nat.reduceSub, Nat.reduceAdd, Nat.reduceLT, Nat.reduceLeDiff, Int.reduceLT, Int.reduceLE, Int.reduceNeg, Int.reduceToNat, Int.reduceMul, Int.reduceAdd, Int.reducePow, reduceIte, List.length_map, decide_true, decide_false, Int.cast_ofNat_Int, Bool.and_true, Bool.and_false, Tg.slots, noOwn, List.all_cons, List.all_nil, Pf.wipe, Pf.restore, List.foldl_cons, List.foldl_nil, Pf.start, t_check_row, hsD, rowD, sized_s, e1, e2]
  rw [row_loop n hs _ hd ws h2]
  simp only [rb_ok, rb_exc, rb_bad, rt_ok, rt_exc, sb_nx, sb_rt, sb_exc, ro_some, so_some, sh_val, sh_own, tvd_val, tvd_own, tvd_brw, cr_ok, cr_exc, ec_nx, ec_val, ec_own, ec_exc, ev_c, ev_v, ev_p, ev_q, rdSq_val, rdSq_lst, rdSl_val, rdSl_own, rdSv_val, rdSv_own, ev_tup, ev_lst, ev_dct, ev_bin, ev_neg, ev_not, ev_and, ev_or, ev_cmp, ev_cmp2, ev_ite, ev_idx, ev_slc, ev_call, ev_blt, ev_bli, ev_isi, ev_comp, ev_lam, evs_nil, evs_cons, evp_nil, evp_cons, evR_nil, evR_cons, evT_nil, evT_not, evT_and, evT_or, evT_tv, evO_nil, evO_tv, evI_rng, evI_tv, evSh_eq, compL_nil, compL_cons, ex_skip, ex_seq, ex_set, ex_unp, ex_par, ex_six, ex_app, kApp0_own, kApp_eq, kApp1_own, ex_ex, ex_ret, ex_if, ex_for, ex_wh, ex_rse0, ex_mkh, forL_nil, forL_cons, kRet_val, kRet_own, kAnd_bl, kOr_bl, kNeg_int, kOpt_int, putV_val, putV_own, putX_nil, putX_nm, kBli_val, kBli_own, kItm_val, kItm_own, kComp2_ok, kMkh_ok, gz, gs, st_env, st_hd, at0, at1, at2, at3, at4, pl1, pl2, pl3, pl4, eq_int, has0, ls0, ls1, ls2, ls3, ls4, typed_non, isTy_non_int, isTy_non_bool, isTy_non_str, isTy_non_tup, isTy_non_lst, isTy_non_dic, typed_bl, isTy_bl_int, isTy_bl_bool, isTy_bl_str, isTy_bl_tup, isTy_bl_lst, isTy_bl_dic, typed_int, isTy_int_int, isTy_int_bool, isTy_int_str, isTy_int_tup, isTy_int_lst, isTy_int_dic, typed_str, isTy_str_int, isTy_str_bool, isTy_str_str, isTy_str_tup, isTy_str_lst, isTy_str_dic, typed_tup, isTy_tup_int, isTy_tup_bool, isTy_tup_str, isTy_tup_tup, isTy_tup_lst, isTy_tup_dic, typed_lst, isTy_lst_int, isTy_lst_bool, isTy_lst_str, isTy_lst_tup, isTy_lst_lst, isTy_lst_dic, typed_dic, isTy_dic_int, isTy_dic_bool, isTy_dic_str, isTy_dic_tup, isTy_dic_lst, isTy_dic_dic, truth_non, truth_bl, truth_int, truth_tup, truth_lst, binD_add, binD_sub, binD_mul, binD_fdiv, binD_mod, binD_pow, binD_shl, addD_int, subD_int, mulD_int, fdivD_int, modD_int, addD_lst, addD_tup, cmpD_eq, cmpD_ne, cmpD_lt, cmpD_le, cmpD_gt, cmpD_ge, cmpD_is, cmpD_isN, cmpD_mem, cmpD_memN, ltC_int, leC_int, isC_bl, idxD_tup, idxD_lst, idxD_hnd, blt_len, blt_abs, blt_int, blt_min2, blt_max2, len1_tup, len1_lst, absD_int, intD_int, min2D_int, max2D_int, items_tup, items_lst, bli_all, bli_any, bli_sum, bli_tupL, bli_tupT, bools_nil, bools_cons, slc_scr, slc_tup, slc_lst, kDct_nil, kLam_exc, kUnp_two, ls5, ls6, tvb, kTup, kLst, kBin2, kBin, kNot, kCmp2, kCmp, kChn4, kChn3, kChn2, kChn, kIte, kIdx2, kIdx, kSlc2, kSlc, kCall, kBlt, kIsi, kSh, kComp, kCons3, kCons2, kCons, kPons2, kPons, kRons2, kRons, kTnot, kTand, kTor, kTru, kRng, kSet, kPar, kSix2, kSix, kEx, kIf, kFor, kWh2, kCmpL2, kCmpL1, kCmpL, kForS, List.set_cons_zero, List.set_cons_succ, List.any_cons, List.any_nil, Bool.or_false, Bool.or_true, Bool.not_true, Bool.not_false, Bool.true_and, Bool.false_and, Option.map_some, Option.map_none, Option.bind_some, Option.bind_none, if_true, if_false, Bool.false_eq_true, List.length_cons, List.length_nil, List.map_cons, List.map_nil, List.cons_append, List.nil_append, List.replicate_zero, List.replicate_succ, Nat.reduceSub, Nat.reduceAdd, Nat.reduceLT, Nat.reduceLeDiff, Int.reduceLT, Int.reduceLE, Int.reduceNeg, Int.reduceToNat, Int.reduceMul, Int.reduceAdd, Int.reducePow, reduceIte, List.length_map, decide_true, decide_false, Int.cast_ofNat_Int, Bool.and_true, Bool.and_false, Tg.slots, noOwn, List.all_cons, List.all_nil, Pf.wipe, Pf.restore, List.foldl_cons, List.foldl_nil, Pf.start, b1, b2]
def BadR (hs : List (Nat × Nat)) (d : D) : Prop := ∀ n hd, callN T (n + 3) 12 [hsD hs, d] hd = .exc ⟨3, none⟩ hd
theorem bad_row0 {hs : List (Nat × Nat)} {d : D} (h1 : typed d = true) (h2 : isTy d .tup = false) : BadR hs d := fun n hd => by
  rw [call_of (fn := t_check_row) rfl rfl]
  simp only [rb_ok, rb_exc, rb_bad, rt_ok, rt_exc, sb_nx, sb_rt, sb_exc, ro_some, so_some, sh_val, sh_own, tvd_val, tvd_own, tvd_brw, cr_ok, cr_exc, ec_nx, ec_val, ec_own, ec_exc, ev_c, ev_v, ev_p, ev_q, rdSq_val, rdSq_lst, rdSl_val, rdSl_own, rdSv_val, rdSv_own, ev_tup, ev_lst, ev_dct, ev_bin, ev_neg, ev_not, ev_and, ev_or, ev_cmp, ev_cmp2, ev_ite, ev_idx, ev_slc, ev_call, ev_blt, ev_bli, ev_isi, ev_comp, ev_lam, evs_nil, evs_cons, evp_nil, evp_cons, evR_nil, evR_cons, evT_nil, evT_not, evT_and, evT_or, evT_tv, evO_nil, evO_tv, evI_rng, evI_tv, evSh_eq, compL_nil, compL_cons, ex_skip, ex_seq, ex_set, ex_unp, ex_par, ex_six, ex_app, kApp0_own, kApp_eq, kApp1_own, ex_ex, ex_ret, ex_if, ex_for, ex_wh, ex_rse0, ex_mkh, forL_nil, forL_cons, kRet_val, kRet_own, kAnd_bl, kOr_bl, kNeg_int, kOpt_int, putV_val, putV_own, putX_nil, putX_nm, kBli_val, kBli_own, kItm_val, kItm_own, kComp2_ok, kMkh_ok, gz, gs, st_env, st_hd, at0, at1, at2, at3, at4, pl1, pl2, pl3, pl4, eq_int, has0, ls0, ls1, ls2, ls3, ls4, typed_non, isTy_non_int, isTy_non_bool, isTy_non_str, isTy_non_tup, isTy_non_lst, isTy_non_dic, typed_bl, isTy_bl_int, isTy_bl_bool, isTy_bl_str, isTy_bl_tup, isTy_bl_lst, isTy_bl_dic, typed_int, isTy_int_int, isTy_int_bool, isTy_int_str, isTy_int_tup, isTy_int_lst, isTy_int_dic, typed_str, isTy_str_int, isTy_str_bool, isTy_str_str, isTy_str_tup, isTy_str_lst, isTy_str_dic, typed_tup, isTy_tup_int, isTy_tup_bool, isTy_tup_str, isTy_tup_tup, isTy_tup_lst, isTy_tup_dic, typed_lst, isTy_lst_int, isTy_lst_bool, isTy_lst_str, isTy_lst_tup, isTy_lst_lst, isTy_lst_dic, typed_dic, isTy_dic_int, isTy_dic_bool, isTy_dic_str, isTy_dic_tup, isTy_dic_lst, isTy_dic_dic, truth_non, truth_bl, truth_int, truth_tup, truth_lst, binD_add, binD_sub, binD_mul, binD_fdiv, binD_mod, binD_pow, binD_shl, addD_int, subD_int, mulD_int, fdivD_int, modD_int, addD_lst, addD_tup, cmpD_eq, cmpD_ne, cmpD_lt, cmpD_le, cmpD_gt, cmpD_ge, cmpD_is, cmpD_isN, cmpD_mem, cmpD_memN, ltC_int, leC_int, isC_bl, idxD_tup, idxD_lst, idxD_hnd, blt_len, blt_abs, blt_int, blt_min2, blt_max2, len1_tup, len1_lst, absD_int, intD_int, min2D_int, max2D_int, items_tup, items_lst, bli_all, bli_any, bli_sum, bli_tupL, bli_tupT, bools_nil, bools_cons, slc_scr, slc_tup, slc_lst, kDct_nil, kLam_exc, kUnp_two, ls5, ls6, tvb, kTup, kLst, kBin2, kBin, kNot, kCmp2, kCmp, kChn4, kChn3, kChn2, kChn, kIte, kIdx2, kIdx, kSlc2, kSlc, kCall, kBlt, kIsi, kSh, kComp, kCons3, kCons2, kCons, kPons2, kPons, kRons2, kRons, kTnot, kTand, kTor, kTru, kRng, kSet, kPar, kSix2, kSix, kEx, kIf, kFor, kWh2, kCmpL2, kCmpL1, kCmpL, kForS, List.set_cons_zero, List.set_cons_succ, List.any_cons, List.any_nil, Bool.or_false, Bool.or_true, Bool.not_true, Bool.not_false, Bool.true_and, Bool.false_and, Option.map_some, Option.map_none, Option.bind_some, Option.bind_none, if_true, if_false, Bool.false_eq_true, List.length_cons, List.length_nil, List.map_cons, List.map_nil, List.cons_append, List.nil_append, List.replicate_zero, List.replicate_succ, Nat.reduceSub, Nat.reduceAdd, Nat.reduceLT, Nat.reduceLeDiff, Int.reduceLT, Int.reduceLE, Int.reduceNeg, Int.reduceToNat, Int.reduceMul, Int.reduceAdd, Int.reducePow, reduceIte, List.length_map, decide_true, decide_false, Int.cast_ofNat_Int, Bool.and_true, Bool.and_false, Tg.slots, noOwn, List.all_cons, List.all_nil, Pf.wipe, Pf.restore, List.foldl_cons, List.foldl_nil, Pf.start, t_check_row, hsD, sized_no _ _ _ _ _ h1 h2]
theorem bad_row1 {hs : List (Nat × Nat)} {d : D} (h : BadW hs.length d) : BadR hs (.tup [d]) := fun n hd => by
  have hw : callN T (n + 2) 1 [d, .int 0, .int ((hs.length : Int) - 1)] hd = _ := h n hd
  rw [call_of (fn := t_check_row) rfl rfl]
  simp only [rb_ok, rb_exc, rb_bad, rt_ok, rt_exc, sb_nx, sb_rt, sb_exc, ro_some, so_some, sh_val, sh_own, tvd_val, tvd_own, tvd_brw, cr_ok, cr_exc, ec_nx, ec_val, ec_own, ec_exc, ev_c, ev_v, ev_p, ev_q, rdSq_val, rdSq_lst, rdSl_val, rdSl_own, rdSv_val, rdSv_own, ev_tup, ev_lst, ev_dct, ev_bin, ev_neg, ev_not, ev_and, ev_or, ev_cmp, ev_cmp2, ev_ite, ev_idx, ev_slc, ev_call, ev_blt, ev_bli, ev_isi, ev_comp, ev_lam, evs_nil, evs_cons, evp_nil, evp_cons, evR_nil, evR_cons, evT_nil, evT_not, evT_and, evT_or, evT_tv, evO_nil, evO_tv, evI_rng, evI_tv, evSh_eq, compL_nil, compL_cons, ex_skip, ex_seq, ex_set, ex_unp, ex_par, ex_six, ex_app, kApp0_own, kApp_eq, kApp1_own, ex_ex, ex_ret, ex_if, ex_for, ex_wh, ex_rse0, ex_mkh, forL_nil, forL_cons, kRet_val, kRet_own, kAnd_bl, kOr_bl, kNeg_int, kOpt_int, putV_val, putV_own, putX_nil, putX_nm, kBli_val, kBli_own, kItm_val, kItm_own, kComp2_ok, kMkh_ok, gz, gs, st_env, st_hd, at0, at1, at2, at3, at4, pl1, pl2, pl3, pl4, eq_int, has0, ls0, ls1, ls2, ls3, ls4, typed_non, isTy_non_int, isTy_non_bool, isTy_non_str, isTy_non_tup, isTy_non_lst, isTy_non_dic, typed_bl, isTy_bl_int, isTy_bl_bool, isTy_bl_str, isTy_bl_tup, isTy_bl_lst, isTy_bl_dic, typed_int, isTy_int_int, isTy_int_bool, isTy_int_str, isTy_int_tup, isTy_int_lst, isTy_int_dic, typed_str, isTy_str_int, isTy_str_bool, isTy_str_str, isTy_str_tup, isTy_str_lst, isTy_str_dic, typed_tup, isTy_tup_int, isTy_tup_bool, isTy_tup_str, isTy_tup_tup, isTy_tup_lst, isTy_tup_dic, typed_lst, isTy_lst_int, isTy_lst_bool, isTy_lst_str, isTy_lst_tup, isTy_lst_lst, isTy_lst_dic, typed_dic, isTy_dic_int, isTy_dic_bool, isTy_dic_str, isTy_dic_tup, isTy_dic_lst, isTy_dic_dic, truth_non, truth_bl, truth_int, truth_tup, truth_lst, binD_add, binD_sub, binD_mul, binD_fdiv, binD_mod, binD_pow, binD_shl, addD_int, subD_int, mulD_int, fdivD_int, modD_int, addD_lst, addD_tup, cmpD_eq, cmpD_ne, cmpD_lt, cmpD_le, cmpD_gt, cmpD_ge, cmpD_is, cmpD_isN, cmpD_mem, cmpD_memN, ltC_int, leC_int, isC_bl, idxD_tup, idxD_lst, idxD_hnd, blt_len, blt_abs, blt_int, blt_min2, blt_max2, len1_tup, len1_lst, absD_int, intD_int, min2D_int, max2D_int, items_tup, items_lst, bli_all, bli_any, bli_sum, bli_tupL, bli_tupT, bools_nil, bools_cons, slc_scr, slc_tup, slc_lst, kDct_nil, kLam_exc, kUnp_two, ls5, ls6, tvb, kTup, kLst, kBin2, kBin, kNot, kCmp2, kCmp, kChn4, kChn3, kChn2, kChn, kIte, kIdx2, kIdx, kSlc2, kSlc, kCall, kBlt, kIsi, kSh, kComp, kCons3, kCons2, kCons, kPons2, kPons, kRons2, kRons, kTnot, kTand, kTor, kTru, kRng, kSet, kPar, kSix2, kSix, kEx, kIf, kFor, kWh2, kCmpL2, kCmpL1, kCmpL, kForS, List.set_cons_zero, List.set_cons_succ, List.any_cons, List.any_nil, Bool.or_false, Bool.or_true, Bool.not_true, Bool.not_false, Bool.true_and, Bool.false_and, Option.map_some, Option.map_none, Option.bind_some, Option.bind_none, if_true, if_false, Bool.false_eq_true, List.length_cons, List.length_nil, List.map_cons, List.map_nil, List.cons_append, List.nil_append, List.replicate_zero, List.replicate_succ, Nat.reduceSub, Nat.reduceAdd, Nat.reduceLT, Nat.reduceLeDiff, Int.reduceLT, Int.reduceLE, Int.reduceNeg, Int.reduceToNat, Int.reduceMul, Int.reduceAdd, Int.reducePow, reduceIte, List.length_map, decide_true, decide_false, Int.cast_ofNat_Int, Bool.and_true, Bool.and_false, Tg.slots, noOwn, List.all_cons, List.all_nil, Pf.wipe, Pf.restore, List.foldl_cons, List.foldl_nil, Pf.start, t_check_row, hsD, sized_s, hw, id]
theorem bad_row13 {hs : List (Nat × Nat)} : BadR hs (.tup (List.replicate 13 (.int 0))) := fun n hd => by
  rw [call_of (fn := t_check_row) rfl rfl]
  simp only [rb_ok, rb_exc, rb_bad, rt_ok, rt_exc, sb_nx, sb_rt, sb_exc, ro_some, so_some, sh_val, sh_own, tvd_val, tvd_own, tvd_brw, cr_ok, cr_exc, ec_nx, ec_val, ec_own, ec_exc, ev_c, ev_v, ev_p, ev_q, rdSq_val, rdSq_lst, rdSl_val, rdSl_own, rdSv_val, rdSv_own, ev_tup, ev_lst, ev_dct, ev_bin, ev_neg, ev_not, ev_and, ev_or, ev_cmp, ev_cmp2, ev_ite, ev_idx, ev_slc, ev_call, ev_blt, ev_bli, ev_isi, ev_comp, ev_lam, evs_nil, evs_cons, evp_nil, evp_cons, evR_nil, evR_cons, evT_nil, evT_not, evT_and, evT_or, evT_tv, evO_nil, evO_tv, evI_rng, evI_tv, evSh_eq, compL_nil, compL_cons, ex_skip, ex_seq, ex_set, ex_unp, ex_par, ex_six, ex_app, kApp0_own, kApp_eq, kApp1_own, ex_ex, ex_ret, ex_if, ex_for, ex_wh, ex_rse0, ex_mkh, forL_nil, forL_cons, kRet_val, kRet_own, kAnd_bl, kOr_bl, kNeg_int, kOpt_int, putV_val, putV_own, putX_nil, putX_nm, kBli_val, kBli_own, kItm_val, kItm_own, kComp2_ok, kMkh_ok, gz, gs, st_env, st_hd, at0, at1, at2, at3, at4, pl1, pl2, pl3, pl4, eq_int, has0, ls0, ls1, ls2, ls3, ls4, typed_non, isTy_non_int, isTy_non_bool, isTy_non_str, isTy_non_tup, isTy_non_lst, isTy_non_dic, typed_bl, isTy_bl_int, isTy_bl_bool, isTy_bl_str, isTy_bl_tup, isTy_bl_lst, isTy_bl_dic, typed_int, isTy_int_int, isTy_int_bool, isTy_int_str, isTy_int_tup, isTy_int_lst, isTy_int_dic, typed_str, isTy_str_int, isTy_str_bool, isTy_str_str, isTy_str_tup, isTy_str_lst, isTy_str_dic, typed_tup, isTy_tup_int, isTy_tup_bool, isTy_tup_str, isTy_tup_tup, isTy_tup_lst, isTy_tup_dic, typed_lst, isTy_lst_int, isTy_lst_bool, isTy_lst_str, isTy_lst_tup, isTy_lst_lst, isTy_lst_dic, typed_dic, isTy_dic_int, isTy_dic_bool, isTy_dic_str, isTy_dic_tup, isTy_dic_lst, isTy_dic_dic, truth_non, truth_bl, truth_int, truth_tup, truth_lst, binD_add, binD_sub, binD_mul, binD_fdiv, binD_mod, binD_pow, binD_shl, addD_int, subD_int, mulD_int, fdivD_int, modD_int, addD_lst, addD_tup, cmpD_eq, cmpD_ne, cmpD_lt, cmpD_le, cmpD_gt, cmpD_ge, cmpD_is, cmpD_isN, cmpD_mem, cmpD_memN, ltC_int, leC_int, isC_bl, idxD_tup, idxD_lst, idxD_hnd, blt_len, blt_abs, blt_int, blt_min2, blt_max2, len1_tup, len1_lst, absD_int, intD_int, min2D_int, max2D_int, items_tup, items_lst, bli_all, bli_any, bli_sum, bli_tupL, bli_tupT, bools_nil, bools_cons, slc_scr, slc_tup, slc_lst, kDct_nil, kLam_exc, kUnp_two, ls5, ls6, tvb, kTup, kLst, kBin2, kBin, kNot, kCmp2, kCmp, kChn4, kChn3, kChn2, kChn, kIte, kIdx2, kIdx, kSlc2, kSlc, kCall, kBlt, kIsi, kSh, kComp, kCons3, kCons2, kCons, kPons2, kPons, kRons2, kRons, kTnot, kTand, kTor, kTru, kRng, kSet, kPar, kSix2, kSix, kEx, kIf, kFor, kWh2, kCmpL2, kCmpL1, kCmpL, kForS, List.set_cons_zero, List.set_cons_succ, List.any_cons, List.any_nil, Bool.or_false, Bool.or_true, Bool.not_true, Bool.not_false, Bool.true_and, Bool.false_and, Option.map_some, Option.map_none, Option.bind_some, Option.bind_none, if_true, if_false, Bool.false_eq_true, List.length_cons, List.length_nil, List.map_cons, List.map_nil, List.cons_append, List.nil_append, List.replicate_zero, List.replicate_succ, Nat.reduceSub, Nat.reduceAdd, Nat.reduceLT, Nat.reduceLeDiff, Int.reduceLT, Int.reduceLE, Int.reduceNeg, Int.reduceToNat, Int.reduceMul, Int.reduceAdd, Int.reducePow, reduceIte, List.length_map, decide_true, decide_false, Int.cast_ofNat_Int, Bool.and_true, Bool.and_false, Tg.slots, noOwn, List.all_cons, List.all_nil, Pf.wipe, Pf.restore, List.foldl_cons, List.foldl_nil, Pf.start, t_check_row, hsD, sized_s, List.length_replicate]
def led (hs : List (Nat × Nat)) : Int → List Int → Int
  | l, [] => l
  | l, w :: ws => led hs (wsh l (hs.getD w.toNat (0, 1))) ws
theorem hs_get {hs : List (Nat × Nat)} (h : Hs hs) {w : Int} (h0 : 0 ≤ w) (h1 : w < hs.length) : atD (hs.map shD) w = some (shD (hs.getD w.toNat (0, 1))) ∧ Sh (hs.getD w.toNat (0, 1)).1 (hs.getD w.toNat (0, 1)).2 := by
  obtain ⟨x, xm, e1, e2⟩ := hs_at h0 h1
  have : hs.getD w.toNat (0, 1) = x := by simp [List.getD, e1]
  rw [this]
  exact ⟨e2, h.2.2 x xm⟩
theorem led_loop (n : Nat) (hs : List (Nat × Nat)) (h : Hs hs) (z : Pf.Slot) (hd) : ∀ (ws : List Int) (l : Int) (y : Pf.Slot), (∀ w ∈ ws, 0 ≤ w ∧ w < hs.length) → ∃ y', forL (.nm 3) (ex ⟨callN T (n + 1), T.ret, T.word⟩ (.seq (.set 1 (.call 10 (.cons (.v 1) (.cons (.idx (.p 0) (.p 3)) .nil)))) .skip)) (ws.map .int) ⟨[.val (.tup (hs.map shD)), .val (.int l), z, y], hd⟩ = .nx ⟨[.val (.tup (hs.map shD)), .val (.int (led hs l ws)), z, y'], hd⟩
  | [], l, y, _ => ⟨y, rfl⟩
  | w :: ws, l, y, hw => by
    obtain ⟨h0, h1⟩ := hw w List.mem_cons_self
    obtain ⟨e1, e2⟩ := hs_get h h0 h1
    obtain ⟨y', e3⟩ := led_loop n hs h z hd ws (wsh l (hs.getD w.toNat (0, 1))) (.val (.int w)) fun v hv => hw v (List.mem_cons_of_mem _ hv)
    refine ⟨y', ?_⟩
    show _ = SR.nx ⟨[_, .val (.int (led hs (wsh l (hs.getD w.toNat (0, 1))) ws)), z, y'], hd⟩
    rw [← e3]
    simp only [rb_ok, rb_exc, rb_bad, rt_ok, rt_exc, sb_nx, sb_rt, sb_exc, ro_some, so_some, sh_val, sh_own, tvd_val, tvd_own, tvd_brw, cr_ok, cr_exc, ec_nx, ec_val, ec_own, ec_exc, ev_c, ev_v, ev_p, ev_q, rdSq_val, rdSq_lst, rdSl_val, rdSl_own, rdSv_val, rdSv_own, ev_tup, ev_lst, ev_dct, ev_bin, ev_neg, ev_not, ev_and, ev_or, ev_cmp, ev_cmp2, ev_ite, ev_idx, ev_slc, ev_call, ev_blt, ev_bli, ev_isi, ev_comp, ev_lam, evs_nil, evs_cons, evp_nil, evp_cons, evR_nil, evR_cons, evT_nil, evT_not, evT_and, evT_or, evT_tv, evO_nil, evO_tv, evI_rng, evI_tv, evSh_eq, compL_nil, compL_cons, ex_skip, ex_seq, ex_set, ex_unp, ex_par, ex_six, ex_app, kApp0_own, kApp_eq, kApp1_own, ex_ex, ex_ret, ex_if, ex_for, ex_wh, ex_rse0, ex_mkh, forL_nil, forL_cons, kRet_val, kRet_own, kAnd_bl, kOr_bl, kNeg_int, kOpt_int, putV_val, putV_own, putX_nil, putX_nm, kBli_val, kBli_own, kItm_val, kItm_own, kComp2_ok, kMkh_ok, gz, gs, st_env, st_hd, at0, at1, at2, at3, at4, pl1, pl2, pl3, pl4, eq_int, has0, ls0, ls1, ls2, ls3, ls4, typed_non, isTy_non_int, isTy_non_bool, isTy_non_str, isTy_non_tup, isTy_non_lst, isTy_non_dic, typed_bl, isTy_bl_int, isTy_bl_bool, isTy_bl_str, isTy_bl_tup, isTy_bl_lst, isTy_bl_dic, typed_int, isTy_int_int, isTy_int_bool, isTy_int_str, isTy_int_tup, isTy_int_lst, isTy_int_dic, typed_str, isTy_str_int, isTy_str_bool, isTy_str_str, isTy_str_tup, isTy_str_lst, isTy_str_dic, typed_tup, isTy_tup_int, isTy_tup_bool, isTy_tup_str, isTy_tup_tup, isTy_tup_lst, isTy_tup_dic, typed_lst, isTy_lst_int, isTy_lst_bool, isTy_lst_str, isTy_lst_tup, isTy_lst_lst, isTy_lst_dic, typed_dic, isTy_dic_int, isTy_dic_bool, isTy_dic_str, isTy_dic_tup, isTy_dic_lst, isTy_dic_dic, truth_non, truth_bl, truth_int, truth_tup, truth_lst, binD_add, binD_sub, binD_mul, binD_fdiv, binD_mod, binD_pow, binD_shl, addD_int, subD_int, mulD_int, fdivD_int, modD_int, addD_lst, addD_tup, cmpD_eq, cmpD_ne, cmpD_lt, cmpD_le, cmpD_gt, cmpD_ge, cmpD_is, cmpD_isN, cmpD_mem, cmpD_memN, ltC_int, leC_int, isC_bl, idxD_tup, idxD_lst, idxD_hnd, blt_len, blt_abs, blt_int, blt_min2, blt_max2, len1_tup, len1_lst, absD_int, intD_int, min2D_int, max2D_int, items_tup, items_lst, bli_all, bli_any, bli_sum, bli_tupL, bli_tupT, bools_nil, bools_cons, slc_scr, slc_tup, slc_lst, kDct_nil, kLam_exc, kUnp_two, ls5, ls6, tvb, kTup, kLst, kBin2, kBin, kNot, kCmp2, kCmp, kChn4, kChn3, kChn2, kChn, kIte, kIdx2, kIdx, kSlc2, kSlc, kCall, kBlt, kIsi, kSh, kComp, kCons3, kCons2, kCons, kPons2, kPons, kRons2, kRons, kTnot, kTand, kTor, kTru, kRng, kSet, kPar, kSix2, kSix, kEx, kIf, kFor, kWh2, kCmpL2, kCmpL1, kCmpL, kForS, List.set_cons_zero, List.set_cons_succ, List.any_cons, List.any_nil, Bool.or_false, Bool.or_true, Bool.not_true, Bool.not_false, Bool.true_and, Bool.false_and, Option.map_some, Option.map_none, Option.bind_some, Option.bind_none, if_true, if_false, Bool.false_eq_true, List.length_cons, List.length_nil, List.map_cons, List.map_nil, List.cons_append, List.nil_append, List.replicate_zero, List.replicate_succ, Nat.reduceSub, Nat.reduceAdd, Nat.reduceLT, Nat.reduceLeDiff, Int.reduceLT, Int.reduceLE, Int.reduceNeg, Int.reduceToNat, Int.reduceMul, Int.reduceAdd, Int.reducePow, reduceIte, List.length_map, decide_true, decide_false, Int.cast_ofNat_Int, Bool.and_true, Bool.and_false, Tg.slots, noOwn, List.all_cons, List.all_nil, Pf.wipe, Pf.restore, List.foldl_cons, List.foldl_nil, Pf.start, e1, wsh_s n l _ hd e2]
theorem led_s (n : Nat) (hs : List (Nat × Nat)) (l : Int) (ws : List Int) (hd) (h : Hs hs) (hw : ∀ w ∈ ws, 0 ≤ w ∧ w < hs.length) : callN T (n + 2) 13 [hsD hs, .int l, rowD ws] hd = .ok (.val (.int (led hs l ws))) hd := by
  obtain ⟨y', e⟩ := led_loop n hs h (.val (rowD ws)) hd ws l .un hw
  rw [call_of (fn := t_led) rfl rfl]
  simp only [rb_ok, rb_exc, rb_bad, rt_ok, rt_exc, sb_nx, sb_rt, sb_exc, ro_some, so_some, sh_val, sh_own, tvd_val, tvd_own, tvd_brw, cr_ok, cr_exc, ec_nx, ec_val, ec_own, ec_exc, ev_c, ev_v, ev_p, ev_q, rdSq_val, rdSq_lst, rdSl_val, rdSl_own, rdSv_val, rdSv_own, ev_tup, ev_lst, ev_dct, ev_bin, ev_neg, ev_not, ev_and, ev_or, ev_cmp, ev_cmp2, ev_ite, ev_idx, ev_slc, ev_call, ev_blt, ev_bli, ev_isi, ev_comp, ev_lam, evs_nil, evs_cons, evp_nil, evp_cons, evR_nil, evR_cons, evT_nil, evT_not, evT_and, evT_or, evT_tv, evO_nil, evO_tv, evI_rng, evI_tv, evSh_eq, compL_nil, compL_cons, ex_skip, ex_seq, ex_set, ex_unp, ex_par, ex_six, ex_app, kApp0_own, kApp_eq, kApp1_own, ex_ex, ex_ret, ex_if, ex_for, ex_wh, ex_rse0, ex_mkh, forL_nil, forL_cons, kRet_val, kRet_own, kAnd_bl, kOr_bl, kNeg_int, kOpt_int, putV_val, putV_own, putX_nil, putX_nm, kBli_val, kBli_own, kItm_val, kItm_own, kComp2_ok, kMkh_ok, gz, gs, st_env, st_hd, at0, at1, at2, at3, at4, pl1, pl2, pl3, pl4, eq_int, has0, ls0, ls1, ls2, ls3, ls4, typed_non, isTy_non_int, isTy_non_bool, isTy_non_str, isTy_non_tup, isTy_non_lst, isTy_non_dic, typed_bl, isTy_bl_int, isTy_bl_bool, isTy_bl_str, isTy_bl_tup, isTy_bl_lst, isTy_bl_dic, typed_int, isTy_int_int, isTy_int_bool, isTy_int_str, isTy_int_tup, isTy_int_lst, isTy_int_dic, typed_str, isTy_str_int, isTy_str_bool, isTy_str_str, isTy_str_tup, isTy_str_lst, isTy_str_dic, typed_tup, isTy_tup_int, isTy_tup_bool, isTy_tup_str, isTy_tup_tup, isTy_tup_lst, isTy_tup_dic, typed_lst, isTy_lst_int, isTy_lst_bool, isTy_lst_str, isTy_lst_tup, isTy_lst_lst, isTy_lst_dic, typed_dic, isTy_dic_int, isTy_dic_bool, isTy_dic_str, isTy_dic_tup, isTy_dic_lst, isTy_dic_dic, truth_non, truth_bl, truth_int, truth_tup, truth_lst, binD_add, binD_sub, binD_mul, binD_fdiv, binD_mod, binD_pow, binD_shl, addD_int, subD_int, mulD_int, fdivD_int, modD_int, addD_lst, addD_tup, cmpD_eq, cmpD_ne, cmpD_lt, cmpD_le, cmpD_gt, cmpD_ge, cmpD_is, cmpD_isN, cmpD_mem, cmpD_memN, ltC_int, leC_int, isC_bl, idxD_tup, idxD_lst, idxD_hnd, blt_len, blt_abs, blt_int, blt_min2, blt_max2, len1_tup, len1_lst, absD_int, intD_int, min2D_int, max2D_int, items_tup, items_lst, bli_all, bli_any, bli_sum, bli_tupL, bli_tupT, bools_nil, bools_cons, slc_scr, slc_tup, slc_lst, kDct_nil, kLam_exc, kUnp_two, ls5, ls6, tvb, kTup, kLst, kBin2, kBin, kNot, kCmp2, kCmp, kChn4, kChn3, kChn2, kChn, kIte, kIdx2, kIdx, kSlc2, kSlc, kCall, kBlt, kIsi, kSh, kComp, kCons3, kCons2, kCons, kPons2, kPons, kRons2, kRons, kTnot, kTand, kTor, kTru, kRng, kSet, kPar, kSix2, kSix, kEx, kIf, kFor, kWh2, kCmpL2, kCmpL1, kCmpL, kForS, List.set_cons_zero, List.set_cons_succ, List.any_cons, List.any_nil, Bool.or_false, Bool.or_true, Bool.not_true, Bool.not_false, Bool.true_and, Bool.false_and, Option.map_some, Option.map_none, Option.bind_some, Option.bind_none, if_true, if_false, Bool.false_eq_true, List.length_cons, List.length_nil, List.map_cons, List.map_nil, List.cons_append, List.nil_append, List.replicate_zero, List.replicate_succ, Nat.reduceSub, Nat.reduceAdd, Nat.reduceLT, Nat.reduceLeDiff, Int.reduceLT, Int.reduceLE, Int.reduceNeg, Int.reduceToNat, Int.reduceMul, Int.reduceAdd, Int.reducePow, reduceIte, List.length_map, decide_true, decide_false, Int.cast_ofNat_Int, Bool.and_true, Bool.and_false, Tg.slots, noOwn, List.all_cons, List.all_nil, Pf.wipe, Pf.restore, List.foldl_cons, List.foldl_nil, Pf.start, t_led, hsD, rowD] at e ⊢
  rw [e]
  simp only [rb_ok, rb_exc, rb_bad, rt_ok, rt_exc, sb_nx, sb_rt, sb_exc, ro_some, so_some, sh_val, sh_own, tvd_val, tvd_own, tvd_brw, cr_ok, cr_exc, ec_nx, ec_val, ec_own, ec_exc, ev_c, ev_v, ev_p, ev_q, rdSq_val, rdSq_lst, rdSl_val, rdSl_own, rdSv_val, rdSv_own, ev_tup, ev_lst, ev_dct, ev_bin, ev_neg, ev_not, ev_and, ev_or, ev_cmp, ev_cmp2, ev_ite, ev_idx, ev_slc, ev_call, ev_blt, ev_bli, ev_isi, ev_comp, ev_lam, evs_nil, evs_cons, evp_nil, evp_cons, evR_nil, evR_cons, evT_nil, evT_not, evT_and, evT_or, evT_tv, evO_nil, evO_tv, evI_rng, evI_tv, evSh_eq, compL_nil, compL_cons, ex_skip, ex_seq, ex_set, ex_unp, ex_par, ex_six, ex_app, kApp0_own, kApp_eq, kApp1_own, ex_ex, ex_ret, ex_if, ex_for, ex_wh, ex_rse0, ex_mkh, forL_nil, forL_cons, kRet_val, kRet_own, kAnd_bl, kOr_bl, kNeg_int, kOpt_int, putV_val, putV_own, putX_nil, putX_nm, kBli_val, kBli_own, kItm_val, kItm_own, kComp2_ok, kMkh_ok, gz, gs, st_env, st_hd, at0, at1, at2, at3, at4, pl1, pl2, pl3, pl4, eq_int, has0, ls0, ls1, ls2, ls3, ls4, typed_non, isTy_non_int, isTy_non_bool, isTy_non_str, isTy_non_tup, isTy_non_lst, isTy_non_dic, typed_bl, isTy_bl_int, isTy_bl_bool, isTy_bl_str, isTy_bl_tup, isTy_bl_lst, isTy_bl_dic, typed_int, isTy_int_int, isTy_int_bool, isTy_int_str, isTy_int_tup, isTy_int_lst, isTy_int_dic, typed_str, isTy_str_int, isTy_str_bool, isTy_str_str, isTy_str_tup, isTy_str_lst, isTy_str_dic, typed_tup, isTy_tup_int, isTy_tup_bool, isTy_tup_str, isTy_tup_tup, isTy_tup_lst, isTy_tup_dic, typed_lst, isTy_lst_int, isTy_lst_bool, isTy_lst_str, isTy_lst_tup, isTy_lst_lst, isTy_lst_dic, typed_dic, isTy_dic_int, isTy_dic_bool, isTy_dic_str, isTy_dic_tup, isTy_dic_lst, isTy_dic_dic, truth_non, truth_bl, truth_int, truth_tup, truth_lst, binD_add, binD_sub, binD_mul, binD_fdiv, binD_mod, binD_pow, binD_shl, addD_int, subD_int, mulD_int, fdivD_int, modD_int, addD_lst, addD_tup, cmpD_eq, cmpD_ne, cmpD_lt, cmpD_le, cmpD_gt, cmpD_ge, cmpD_is, cmpD_isN, cmpD_mem, cmpD_memN, ltC_int, leC_int, isC_bl, idxD_tup, idxD_lst, idxD_hnd, blt_len, blt_abs, blt_int, blt_min2, blt_max2, len1_tup, len1_lst, absD_int, intD_int, min2D_int, max2D_int, items_tup, items_lst, bli_all, bli_any, bli_sum, bli_tupL, bli_tupT, bools_nil, bools_cons, slc_scr, slc_tup, slc_lst, kDct_nil, kLam_exc, kUnp_two, ls5, ls6, tvb, kTup, kLst, kBin2, kBin, kNot, kCmp2, kCmp, kChn4, kChn3, kChn2, kChn, kIte, kIdx2, kIdx, kSlc2, kSlc, kCall, kBlt, kIsi, kSh, kComp, kCons3, kCons2, kCons, kPons2, kPons, kRons2, kRons, kTnot, kTand, kTor, kTru, kRng, kSet, kPar, kSix2, kSix, kEx, kIf, kFor, kWh2, kCmpL2, kCmpL1, kCmpL, kForS, List.set_cons_zero, List.set_cons_succ, List.any_cons, List.any_nil, Bool.or_false, Bool.or_true, Bool.not_true, Bool.not_false, Bool.true_and, Bool.false_and, Option.map_some, Option.map_none, Option.bind_some, Option.bind_none, if_true, if_false, Bool.false_eq_true, List.length_cons, List.length_nil, List.map_cons, List.map_nil, List.cons_append, List.nil_append, List.replicate_zero, List.replicate_succ, Nat.reduceSub, Nat.reduceAdd, Nat.reduceLT, Nat.reduceLeDiff, Int.reduceLT, Int.reduceLE, Int.reduceNeg, Int.reduceToNat, Int.reduceMul, Int.reduceAdd, Int.reducePow, reduceIte, List.length_map, decide_true, decide_false, Int.cast_ofNat_Int, Bool.and_true, Bool.and_false, Tg.slots, noOwn, List.all_cons, List.all_nil, Pf.wipe, Pf.restore, List.foldl_cons, List.foldl_nil, Pf.start]
theorem behind_loop (n : Nat) (hs : List (Nat × Nat)) (h : Hs hs) (z : Pf.Slot) (hd) : ∀ (ws : List Int) (l : Int) (y : Pf.Slot), (∀ w ∈ ws, 0 ≤ w ∧ w < hs.length) → ∃ y', forL (.nm 3) (ex ⟨callN T (n + 1), T.ret, T.word⟩ (.seq (.set 1 (.call 22 (.cons (.idx (.p 0) (.p 3)) (.cons (.v 1) .nil)))) .skip)) (ws.map .int) ⟨[.val (.tup (hs.map shD)), .val (.int l), z, y], hd⟩ = .nx ⟨[.val (.tup (hs.map shD)), .val (.int (led hs l ws)), z, y'], hd⟩
  | [], l, y, _ => ⟨y, rfl⟩
  | w :: ws, l, y, hw => by
    obtain ⟨h0, h1⟩ := hw w List.mem_cons_self
    obtain ⟨e1, e2⟩ := hs_get h h0 h1
    obtain ⟨y', e3⟩ := behind_loop n hs h z hd ws (wsh l (hs.getD w.toNat (0, 1))) (.val (.int w)) fun v hv => hw v (List.mem_cons_of_mem _ hv)
    refine ⟨y', ?_⟩
    show _ = SR.nx ⟨[_, .val (.int (led hs (wsh l (hs.getD w.toNat (0, 1))) ws)), z, y'], hd⟩
    rw [← e3]
    simp only [rb_ok, rb_exc, rb_bad, rt_ok, rt_exc, sb_nx, sb_rt, sb_exc, ro_some, so_some, sh_val, sh_own, tvd_val, tvd_own, tvd_brw, cr_ok, cr_exc, ec_nx, ec_val, ec_own, ec_exc, ev_c, ev_v, ev_p, ev_q, rdSq_val, rdSq_lst, rdSl_val, rdSl_own, rdSv_val, rdSv_own, ev_tup, ev_lst, ev_dct, ev_bin, ev_neg, ev_not, ev_and, ev_or, ev_cmp, ev_cmp2, ev_ite, ev_idx, ev_slc, ev_call, ev_blt, ev_bli, ev_isi, ev_comp, ev_lam, evs_nil, evs_cons, evp_nil, evp_cons, evR_nil, evR_cons, evT_nil, evT_not, evT_and, evT_or, evT_tv, evO_nil, evO_tv, evI_rng, evI_tv, evSh_eq, compL_nil, compL_cons, ex_skip, ex_seq, ex_set, ex_unp, ex_par, ex_six, ex_app, kApp0_own, kApp_eq, kApp1_own, ex_ex, ex_ret, ex_if, ex_for, ex_wh, ex_rse0, ex_mkh, forL_nil, forL_cons, kRet_val, kRet_own, kAnd_bl, kOr_bl, kNeg_int, kOpt_int, putV_val, putV_own, putX_nil, putX_nm, kBli_val, kBli_own, kItm_val, kItm_own, kComp2_ok, kMkh_ok, gz, gs, st_env, st_hd, at0, at1, at2, at3, at4, pl1, pl2, pl3, pl4, eq_int, has0, ls0, ls1, ls2, ls3, ls4, typed_non, isTy_non_int, isTy_non_bool, isTy_non_str, isTy_non_tup, isTy_non_lst, isTy_non_dic, typed_bl, isTy_bl_int, isTy_bl_bool, isTy_bl_str, isTy_bl_tup, isTy_bl_lst, isTy_bl_dic, typed_int, isTy_int_int, isTy_int_bool, isTy_int_str, isTy_int_tup, isTy_int_lst, isTy_int_dic, typed_str, isTy_str_int, isTy_str_bool, isTy_str_str, isTy_str_tup, isTy_str_lst, isTy_str_dic, typed_tup, isTy_tup_int, isTy_tup_bool, isTy_tup_str, isTy_tup_tup, isTy_tup_lst, isTy_tup_dic, typed_lst, isTy_lst_int, isTy_lst_bool, isTy_lst_str, isTy_lst_tup, isTy_lst_lst, isTy_lst_dic, typed_dic, isTy_dic_int, isTy_dic_bool, isTy_dic_str, isTy_dic_tup, isTy_dic_lst, isTy_dic_dic, truth_non, truth_bl, truth_int, truth_tup, truth_lst, binD_add, binD_sub, binD_mul, binD_fdiv, binD_mod, binD_pow, binD_shl, addD_int, subD_int, mulD_int, fdivD_int, modD_int, addD_lst, addD_tup, cmpD_eq, cmpD_ne, cmpD_lt, cmpD_le, cmpD_gt, cmpD_ge, cmpD_is, cmpD_isN, cmpD_mem, cmpD_memN, ltC_int, leC_int, isC_bl, idxD_tup, idxD_lst, idxD_hnd, blt_len, blt_abs, blt_int, blt_min2, blt_max2, len1_tup, len1_lst, absD_int, intD_int, min2D_int, max2D_int, items_tup, items_lst, bli_all, bli_any, bli_sum, bli_tupL, bli_tupT, bools_nil, bools_cons, slc_scr, slc_tup, slc_lst, kDct_nil, kLam_exc, kUnp_two, ls5, ls6, tvb, kTup, kLst, kBin2, kBin, kNot, kCmp2, kCmp, kChn4, kChn3, kChn2, kChn, kIte, kIdx2, kIdx, kSlc2, kSlc, kCall, kBlt, kIsi, kSh, kComp, kCons3, kCons2, kCons, kPons2, kPons, kRons2, kRons, kTnot, kTand, kTor, kTru, kRng, kSet, kPar, kSix2, kSix, kEx, kIf, kFor, kWh2, kCmpL2, kCmpL1, kCmpL, kForS, List.set_cons_zero, List.set_cons_succ, List.any_cons, List.any_nil, Bool.or_false, Bool.or_true, Bool.not_true, Bool.not_false, Bool.true_and, Bool.false_and, Option.map_some, Option.map_none, Option.bind_some, Option.bind_none, if_true, if_false, Bool.false_eq_true, List.length_cons, List.length_nil, List.map_cons, List.map_nil, List.cons_append, List.nil_append, List.replicate_zero, List.replicate_succ, Nat.reduceSub, Nat.reduceAdd, Nat.reduceLT, Nat.reduceLeDiff, Int.reduceLT, Int.reduceLE, Int.reduceNeg, Int.reduceToNat, Int.reduceMul, Int.reduceAdd, Int.reducePow, reduceIte, List.length_map, decide_true, decide_false, Int.cast_ofNat_Int, Bool.and_true, Bool.and_false, Tg.slots, noOwn, List.all_cons, List.all_nil, Pf.wipe, Pf.restore, List.foldl_cons, List.foldl_nil, Pf.start, e1, once_s n l _ hd e2]
theorem behind_s (n : Nat) (hs : List (Nat × Nat)) (l : Int) (ws : List Int) (hd) (h : Hs hs) (hw : ∀ w ∈ ws, 0 ≤ w ∧ w < hs.length) : callN T (n + 2) 23 [hsD hs, .int l, rowD ws] hd = .ok (.val (.int (led hs l ws))) hd := by
  obtain ⟨y', e⟩ := behind_loop n hs h (.val (rowD ws)) hd ws l .un hw
  rw [call_of (fn := t__law_behind) rfl rfl]
  simp only [rb_ok, rb_exc, rb_bad, rt_ok, rt_exc, sb_nx, sb_rt, sb_exc, ro_some, so_some, sh_val, sh_own, tvd_val, tvd_own, tvd_brw, cr_ok, cr_exc, ec_nx, ec_val, ec_own, ec_exc, ev_c, ev_v, ev_p, ev_q, rdSq_val, rdSq_lst, rdSl_val, rdSl_own, rdSv_val, rdSv_own, ev_tup, ev_lst, ev_dct, ev_bin, ev_neg, ev_not, ev_and, ev_or, ev_cmp, ev_cmp2, ev_ite, ev_idx, ev_slc, ev_call, ev_blt, ev_bli, ev_isi, ev_comp, ev_lam, evs_nil, evs_cons, evp_nil, evp_cons, evR_nil, evR_cons, evT_nil, evT_not, evT_and, evT_or, evT_tv, evO_nil, evO_tv, evI_rng, evI_tv, evSh_eq, compL_nil, compL_cons, ex_skip, ex_seq, ex_set, ex_unp, ex_par, ex_six, ex_app, kApp0_own, kApp_eq, kApp1_own, ex_ex, ex_ret, ex_if, ex_for, ex_wh, ex_rse0, ex_mkh, forL_nil, forL_cons, kRet_val, kRet_own, kAnd_bl, kOr_bl, kNeg_int, kOpt_int, putV_val, putV_own, putX_nil, putX_nm, kBli_val, kBli_own, kItm_val, kItm_own, kComp2_ok, kMkh_ok, gz, gs, st_env, st_hd, at0, at1, at2, at3, at4, pl1, pl2, pl3, pl4, eq_int, has0, ls0, ls1, ls2, ls3, ls4, typed_non, isTy_non_int, isTy_non_bool, isTy_non_str, isTy_non_tup, isTy_non_lst, isTy_non_dic, typed_bl, isTy_bl_int, isTy_bl_bool, isTy_bl_str, isTy_bl_tup, isTy_bl_lst, isTy_bl_dic, typed_int, isTy_int_int, isTy_int_bool, isTy_int_str, isTy_int_tup, isTy_int_lst, isTy_int_dic, typed_str, isTy_str_int, isTy_str_bool, isTy_str_str, isTy_str_tup, isTy_str_lst, isTy_str_dic, typed_tup, isTy_tup_int, isTy_tup_bool, isTy_tup_str, isTy_tup_tup, isTy_tup_lst, isTy_tup_dic, typed_lst, isTy_lst_int, isTy_lst_bool, isTy_lst_str, isTy_lst_tup, isTy_lst_lst, isTy_lst_dic, typed_dic, isTy_dic_int, isTy_dic_bool, isTy_dic_str, isTy_dic_tup, isTy_dic_lst, isTy_dic_dic, truth_non, truth_bl, truth_int, truth_tup, truth_lst, binD_add, binD_sub, binD_mul, binD_fdiv, binD_mod, binD_pow, binD_shl, addD_int, subD_int, mulD_int, fdivD_int, modD_int, addD_lst, addD_tup, cmpD_eq, cmpD_ne, cmpD_lt, cmpD_le, cmpD_gt, cmpD_ge, cmpD_is, cmpD_isN, cmpD_mem, cmpD_memN, ltC_int, leC_int, isC_bl, idxD_tup, idxD_lst, idxD_hnd, blt_len, blt_abs, blt_int, blt_min2, blt_max2, len1_tup, len1_lst, absD_int, intD_int, min2D_int, max2D_int, items_tup, items_lst, bli_all, bli_any, bli_sum, bli_tupL, bli_tupT, bools_nil, bools_cons, slc_scr, slc_tup, slc_lst, kDct_nil, kLam_exc, kUnp_two, ls5, ls6, tvb, kTup, kLst, kBin2, kBin, kNot, kCmp2, kCmp, kChn4, kChn3, kChn2, kChn, kIte, kIdx2, kIdx, kSlc2, kSlc, kCall, kBlt, kIsi, kSh, kComp, kCons3, kCons2, kCons, kPons2, kPons, kRons2, kRons, kTnot, kTand, kTor, kTru, kRng, kSet, kPar, kSix2, kSix, kEx, kIf, kFor, kWh2, kCmpL2, kCmpL1, kCmpL, kForS, List.set_cons_zero, List.set_cons_succ, List.any_cons, List.any_nil, Bool.or_false, Bool.or_true, Bool.not_true, Bool.not_false, Bool.true_and, Bool.false_and, Option.map_some, Option.map_none, Option.bind_some, Option.bind_none, if_true, if_false, Bool.false_eq_true, List.length_cons, List.length_nil, List.map_cons, List.map_nil, List.cons_append, List.nil_append, List.replicate_zero, List.replicate_succ, Nat.reduceSub, Nat.reduceAdd, Nat.reduceLT, Nat.reduceLeDiff, Int.reduceLT, Int.reduceLE, Int.reduceNeg, Int.reduceToNat, Int.reduceMul, Int.reduceAdd, Int.reducePow, reduceIte, List.length_map, decide_true, decide_false, Int.cast_ofNat_Int, Bool.and_true, Bool.and_false, Tg.slots, noOwn, List.all_cons, List.all_nil, Pf.wipe, Pf.restore, List.foldl_cons, List.foldl_nil, Pf.start, t__law_behind, hsD, rowD] at e ⊢
  rw [e]
  simp only [rb_ok, rb_exc, rb_bad, rt_ok, rt_exc, sb_nx, sb_rt, sb_exc, ro_some, so_some, sh_val, sh_own, tvd_val, tvd_own, tvd_brw, cr_ok, cr_exc, ec_nx, ec_val, ec_own, ec_exc, ev_c, ev_v, ev_p, ev_q, rdSq_val, rdSq_lst, rdSl_val, rdSl_own, rdSv_val, rdSv_own, ev_tup, ev_lst, ev_dct, ev_bin, ev_neg, ev_not, ev_and, ev_or, ev_cmp, ev_cmp2, ev_ite, ev_idx, ev_slc, ev_call, ev_blt, ev_bli, ev_isi, ev_comp, ev_lam, evs_nil, evs_cons, evp_nil, evp_cons, evR_nil, evR_cons, evT_nil, evT_not, evT_and, evT_or, evT_tv, evO_nil, evO_tv, evI_rng, evI_tv, evSh_eq, compL_nil, compL_cons, ex_skip, ex_seq, ex_set, ex_unp, ex_par, ex_six, ex_app, kApp0_own, kApp_eq, kApp1_own, ex_ex, ex_ret, ex_if, ex_for, ex_wh, ex_rse0, ex_mkh, forL_nil, forL_cons, kRet_val, kRet_own, kAnd_bl, kOr_bl, kNeg_int, kOpt_int, putV_val, putV_own, putX_nil, putX_nm, kBli_val, kBli_own, kItm_val, kItm_own, kComp2_ok, kMkh_ok, gz, gs, st_env, st_hd, at0, at1, at2, at3, at4, pl1, pl2, pl3, pl4, eq_int, has0, ls0, ls1, ls2, ls3, ls4, typed_non, isTy_non_int, isTy_non_bool, isTy_non_str, isTy_non_tup, isTy_non_lst, isTy_non_dic, typed_bl, isTy_bl_int, isTy_bl_bool, isTy_bl_str, isTy_bl_tup, isTy_bl_lst, isTy_bl_dic, typed_int, isTy_int_int, isTy_int_bool, isTy_int_str, isTy_int_tup, isTy_int_lst, isTy_int_dic, typed_str, isTy_str_int, isTy_str_bool, isTy_str_str, isTy_str_tup, isTy_str_lst, isTy_str_dic, typed_tup, isTy_tup_int, isTy_tup_bool, isTy_tup_str, isTy_tup_tup, isTy_tup_lst, isTy_tup_dic, typed_lst, isTy_lst_int, isTy_lst_bool, isTy_lst_str, isTy_lst_tup, isTy_lst_lst, isTy_lst_dic, typed_dic, isTy_dic_int, isTy_dic_bool, isTy_dic_str, isTy_dic_tup, isTy_dic_lst, isTy_dic_dic, truth_non, truth_bl, truth_int, truth_tup, truth_lst, binD_add, binD_sub, binD_mul, binD_fdiv, binD_mod, binD_pow, binD_shl, addD_int, subD_int, mulD_int, fdivD_int, modD_int, addD_lst, addD_tup, cmpD_eq, cmpD_ne, cmpD_lt, cmpD_le, cmpD_gt, cmpD_ge, cmpD_is, cmpD_isN, cmpD_mem, cmpD_memN, ltC_int, leC_int, isC_bl, idxD_tup, idxD_lst, idxD_hnd, blt_len, blt_abs, blt_int, blt_min2, blt_max2, len1_tup, len1_lst, absD_int, intD_int, min2D_int, max2D_int, items_tup, items_lst, bli_all, bli_any, bli_sum, bli_tupL, bli_tupT, bools_nil, bools_cons, slc_scr, slc_tup, slc_lst, kDct_nil, kLam_exc, kUnp_two, ls5, ls6, tvb, kTup, kLst, kBin2, kBin, kNot, kCmp2, kCmp, kChn4, kChn3, kChn2, kChn, kIte, kIdx2, kIdx, kSlc2, kSlc, kCall, kBlt, kIsi, kSh, kComp, kCons3, kCons2, kCons, kPons2, kPons, kRons2, kRons, kTnot, kTand, kTor, kTru, kRng, kSet, kPar, kSix2, kSix, kEx, kIf, kFor, kWh2, kCmpL2, kCmpL1, kCmpL, kForS, List.set_cons_zero, List.set_cons_succ, List.any_cons, List.any_nil, Bool.or_false, Bool.or_true, Bool.not_true, Bool.not_false, Bool.true_and, Bool.false_and, Option.map_some, Option.map_none, Option.bind_some, Option.bind_none, if_true, if_false, Bool.false_eq_true, List.length_cons, List.length_nil, List.map_cons, List.map_nil, List.cons_append, List.nil_append, List.replicate_zero, List.replicate_succ, Nat.reduceSub, Nat.reduceAdd, Nat.reduceLT, Nat.reduceLeDiff, Int.reduceLT, Int.reduceLE, Int.reduceNeg, Int.reduceToNat, Int.reduceMul, Int.reduceAdd, Int.reducePow, reduceIte, List.length_map, decide_true, decide_false, Int.cast_ofNat_Int, Bool.and_true, Bool.and_false, Tg.slots, noOwn, List.all_cons, List.all_nil, Pf.wipe, Pf.restore, List.foldl_cons, List.foldl_nil, Pf.start]
theorem row_s (n : Nat) (hs : List (Nat × Nat)) (l : Int) (ws : List Int) (hd) (h : Hs hs) (h1 : 1 ≤ l) (h2 : l ≤ 60) (hw : Row hs ws) : callN T (n + 7) 14 [hsD hs, .int l, rowD ws] hd = .ok (.val (.int (led hs l ws))) hd := by
  rw [call_of (fn := t_behind_row) rfl rfl]
  simp only [rb_ok, rb_exc, rb_bad, rt_ok, rt_exc, sb_nx, sb_rt, sb_exc, ro_some, so_some, sh_val, sh_own, tvd_val, tvd_own, tvd_brw, cr_ok, cr_exc, ec_nx, ec_val, ec_own, ec_exc, ev_c, ev_v, ev_p, ev_q, rdSq_val, rdSq_lst, rdSl_val, rdSl_own, rdSv_val, rdSv_own, ev_tup, ev_lst, ev_dct, ev_bin, ev_neg, ev_not, ev_and, ev_or, ev_cmp, ev_cmp2, ev_ite, ev_idx, ev_slc, ev_call, ev_blt, ev_bli, ev_isi, ev_comp, ev_lam, evs_nil, evs_cons, evp_nil, evp_cons, evR_nil, evR_cons, evT_nil, evT_not, evT_and, evT_or, evT_tv, evO_nil, evO_tv, evI_rng, evI_tv, evSh_eq, compL_nil, compL_cons, ex_skip, ex_seq, ex_set, ex_unp, ex_par, ex_six, ex_app, kApp0_own, kApp_eq, kApp1_own, ex_ex, ex_ret, ex_if, ex_for, ex_wh, ex_rse0, ex_mkh, forL_nil, forL_cons, kRet_val, kRet_own, kAnd_bl, kOr_bl, kNeg_int, kOpt_int, putV_val, putV_own, putX_nil, putX_nm, kBli_val, kBli_own, kItm_val, kItm_own, kComp2_ok, kMkh_ok, gz, gs, st_env, st_hd, at0, at1, at2, at3, at4, pl1, pl2, pl3, pl4, eq_int, has0, ls0, ls1, ls2, ls3, ls4, typed_non, isTy_non_int, isTy_non_bool, isTy_non_str, isTy_non_tup, isTy_non_lst, isTy_non_dic, typed_bl, isTy_bl_int, isTy_bl_bool, isTy_bl_str, isTy_bl_tup, isTy_bl_lst, isTy_bl_dic, typed_int, isTy_int_int, isTy_int_bool, isTy_int_str, isTy_int_tup, isTy_int_lst, isTy_int_dic, typed_str, isTy_str_int, isTy_str_bool, isTy_str_str, isTy_str_tup, isTy_str_lst, isTy_str_dic, typed_tup, isTy_tup_int, isTy_tup_bool, isTy_tup_str, isTy_tup_tup, isTy_tup_lst, isTy_tup_dic, typed_lst, isTy_lst_int, isTy_lst_bool, isTy_lst_str, isTy_lst_tup, isTy_lst_lst, isTy_lst_dic, typed_dic, isTy_dic_int, isTy_dic_bool, isTy_dic_str, isTy_dic_tup, isTy_dic_lst, isTy_dic_dic, truth_non, truth_bl, truth_int, truth_tup, truth_lst, binD_add, binD_sub, binD_mul, binD_fdiv, binD_mod, binD_pow, binD_shl, addD_int, subD_int, mulD_int, fdivD_int, modD_int, addD_lst, addD_tup, cmpD_eq, cmpD_ne, cmpD_lt, cmpD_le, cmpD_gt, cmpD_ge, cmpD_is, cmpD_isN, cmpD_mem, cmpD_memN, ltC_int, leC_int, isC_bl, idxD_tup, idxD_lst, idxD_hnd, blt_len, blt_abs, blt_int, blt_min2, blt_max2, len1_tup, len1_lst, absD_int, intD_int, min2D_int, max2D_int, items_tup, items_lst, bli_all, bli_any, bli_sum, bli_tupL, bli_tupT, bools_nil, bools_cons, slc_scr, slc_tup, slc_lst, kDct_nil, kLam_exc, kUnp_two, ls5, ls6, tvb, kTup, kLst, kBin2, kBin, kNot, kCmp2, kCmp, kChn4, kChn3, kChn2, kChn, kIte, kIdx2, kIdx, kSlc2, kSlc, kCall, kBlt, kIsi, kSh, kComp, kCons3, kCons2, kCons, kPons2, kPons, kRons2, kRons, kTnot, kTand, kTor, kTru, kRng, kSet, kPar, kSix2, kSix, kEx, kIf, kFor, kWh2, kCmpL2, kCmpL1, kCmpL, kForS, List.set_cons_zero, List.set_cons_succ, List.any_cons, List.any_nil, Bool.or_false, Bool.or_true, Bool.not_true, Bool.not_false, Bool.true_and, Bool.false_and, Option.map_some, Option.map_none, Option.bind_some, Option.bind_none, if_true, if_false, Bool.false_eq_true, List.length_cons, List.length_nil, List.map_cons, List.map_nil, List.cons_append, List.nil_append, List.replicate_zero, List.replicate_succ, Nat.reduceSub, Nat.reduceAdd, Nat.reduceLT, Nat.reduceLeDiff, Int.reduceLT, Int.reduceLE, Int.reduceNeg, Int.reduceToNat, Int.reduceMul, Int.reduceAdd, Int.reducePow, reduceIte, List.length_map, decide_true, decide_false, Int.cast_ofNat_Int, Bool.and_true, Bool.and_false, Tg.slots, noOwn, List.all_cons, List.all_nil, Pf.wipe, Pf.restore, List.foldl_cons, List.foldl_nil, Pf.start, t_behind_row, both_s n hs l hd h h1 h2, ch_row (n + 3) hs ws hd hw, led_s (n + 4) hs l ws hd h hw.2]
theorem row_noH (n : Nat) (d l w : D) (hd) (h : BadH d) : callN T (n + 9) 14 [d, l, w] hd = .exc ⟨1, none⟩ hd := by
  rw [call_of (fn := t_behind_row) rfl rfl]
  simp only [rb_ok, rb_exc, rb_bad, rt_ok, rt_exc, sb_nx, sb_rt, sb_exc, ro_some, so_some, sh_val, sh_own, tvd_val, tvd_own, tvd_brw, cr_ok, cr_exc, ec_nx, ec_val, ec_own, ec_exc, ev_c, ev_v, ev_p, ev_q, rdSq_val, rdSq_lst, rdSl_val, rdSl_own, rdSv_val, rdSv_own, ev_tup, ev_lst, ev_dct, ev_bin, ev_neg, ev_not, ev_and, ev_or, ev_cmp, ev_cmp2, ev_ite, ev_idx, ev_slc, ev_call, ev_blt, ev_bli, ev_isi, ev_comp, ev_lam, evs_nil, evs_cons, evp_nil, evp_cons, evR_nil, evR_cons, evT_nil, evT_not, evT_and, evT_or, evT_tv, evO_nil, evO_tv, evI_rng, evI_tv, evSh_eq, compL_nil, compL_cons, ex_skip, ex_seq, ex_set, ex_unp, ex_par, ex_six, ex_app, kApp0_own, kApp_eq, kApp1_own, ex_ex, ex_ret, ex_if, ex_for, ex_wh, ex_rse0, ex_mkh, forL_nil, forL_cons, kRet_val, kRet_own, kAnd_bl, kOr_bl, kNeg_int, kOpt_int, putV_val, putV_own, putX_nil, putX_nm, kBli_val, kBli_own, kItm_val, kItm_own, kComp2_ok, kMkh_ok, gz, gs, st_env, st_hd, at0, at1, at2, at3, at4, pl1, pl2, pl3, pl4, eq_int, has0, ls0, ls1, ls2, ls3, ls4, typed_non, isTy_non_int, isTy_non_bool, isTy_non_str, isTy_non_tup, isTy_non_lst, isTy_non_dic, typed_bl, isTy_bl_int, isTy_bl_bool, isTy_bl_str, isTy_bl_tup, isTy_bl_lst, isTy_bl_dic, typed_int, isTy_int_int, isTy_int_bool, isTy_int_str, isTy_int_tup, isTy_int_lst, isTy_int_dic, typed_str, isTy_str_int, isTy_str_bool, isTy_str_str, isTy_str_tup, isTy_str_lst, isTy_str_dic, typed_tup, isTy_tup_int, isTy_tup_bool, isTy_tup_str, isTy_tup_tup, isTy_tup_lst, isTy_tup_dic, typed_lst, isTy_lst_int, isTy_lst_bool, isTy_lst_str, isTy_lst_tup, isTy_lst_lst, isTy_lst_dic, typed_dic, isTy_dic_int, isTy_dic_bool, isTy_dic_str, isTy_dic_tup, isTy_dic_lst, isTy_dic_dic, truth_non, truth_bl, truth_int, truth_tup, truth_lst, binD_add, binD_sub, binD_mul, binD_fdiv, binD_mod, binD_pow, binD_shl, addD_int, subD_int, mulD_int, fdivD_int, modD_int, addD_lst, addD_tup, cmpD_eq, cmpD_ne, cmpD_lt, cmpD_le, cmpD_gt, cmpD_ge, cmpD_is, cmpD_isN, cmpD_mem, cmpD_memN, ltC_int, leC_int, isC_bl, idxD_tup, idxD_lst, idxD_hnd, blt_len, blt_abs, blt_int, blt_min2, blt_max2, len1_tup, len1_lst, absD_int, intD_int, min2D_int, max2D_int, items_tup, items_lst, bli_all, bli_any, bli_sum, bli_tupL, bli_tupT, bools_nil, bools_cons, slc_scr, slc_tup, slc_lst, kDct_nil, kLam_exc, kUnp_two, ls5, ls6, tvb, kTup, kLst, kBin2, kBin, kNot, kCmp2, kCmp, kChn4, kChn3, kChn2, kChn, kIte, kIdx2, kIdx, kSlc2, kSlc, kCall, kBlt, kIsi, kSh, kComp, kCons3, kCons2, kCons, kPons2, kPons, kRons2, kRons, kTnot, kTand, kTor, kTru, kRng, kSet, kPar, kSix2, kSix, kEx, kIf, kFor, kWh2, kCmpL2, kCmpL1, kCmpL, kForS, List.set_cons_zero, List.set_cons_succ, List.any_cons, List.any_nil, Bool.or_false, Bool.or_true, Bool.not_true, Bool.not_false, Bool.true_and, Bool.false_and, Option.map_some, Option.map_none, Option.bind_some, Option.bind_none, if_true, if_false, Bool.false_eq_true, List.length_cons, List.length_nil, List.map_cons, List.map_nil, List.cons_append, List.nil_append, List.replicate_zero, List.replicate_succ, Nat.reduceSub, Nat.reduceAdd, Nat.reduceLT, Nat.reduceLeDiff, Int.reduceLT, Int.reduceLE, Int.reduceNeg, Int.reduceToNat, Int.reduceMul, Int.reduceAdd, Int.reducePow, reduceIte, List.length_map, decide_true, decide_false, Int.cast_ofNat_Int, Bool.and_true, Bool.and_false, Tg.slots, noOwn, List.all_cons, List.all_nil, Pf.wipe, Pf.restore, List.foldl_cons, List.foldl_nil, Pf.start, t_behind_row, both_noH n d l hd h]
theorem row_noL (n : Nat) (hs : List (Nat × Nat)) (l w : D) (hd) (h : Hs hs) (hl : BadL l) : callN T (n + 7) 14 [hsD hs, l, w] hd = .exc ⟨2, none⟩ hd := by
  rw [call_of (fn := t_behind_row) rfl rfl]
  simp only [rb_ok, rb_exc, rb_bad, rt_ok, rt_exc, sb_nx, sb_rt, sb_exc, ro_some, so_some, sh_val, sh_own, tvd_val, tvd_own, tvd_brw, cr_ok, cr_exc, ec_nx, ec_val, ec_own, ec_exc, ev_c, ev_v, ev_p, ev_q, rdSq_val, rdSq_lst, rdSl_val, rdSl_own, rdSv_val, rdSv_own, ev_tup, ev_lst, ev_dct, ev_bin, ev_neg, ev_not, ev_and, ev_or, ev_cmp, ev_cmp2, ev_ite, ev_idx, ev_slc, ev_call, ev_blt, ev_bli, ev_isi, ev_comp, ev_lam, evs_nil, evs_cons, evp_nil, evp_cons, evR_nil, evR_cons, evT_nil, evT_not, evT_and, evT_or, evT_tv, evO_nil, evO_tv, evI_rng, evI_tv, evSh_eq, compL_nil, compL_cons, ex_skip, ex_seq, ex_set, ex_unp, ex_par, ex_six, ex_app, kApp0_own, kApp_eq, kApp1_own, ex_ex, ex_ret, ex_if, ex_for, ex_wh, ex_rse0, ex_mkh, forL_nil, forL_cons, kRet_val, kRet_own, kAnd_bl, kOr_bl, kNeg_int, kOpt_int, putV_val, putV_own, putX_nil, putX_nm, kBli_val, kBli_own, kItm_val, kItm_own, kComp2_ok, kMkh_ok, gz, gs, st_env, st_hd, at0, at1, at2, at3, at4, pl1, pl2, pl3, pl4, eq_int, has0, ls0, ls1, ls2, ls3, ls4, typed_non, isTy_non_int, isTy_non_bool, isTy_non_str, isTy_non_tup, isTy_non_lst, isTy_non_dic, typed_bl, isTy_bl_int, isTy_bl_bool, isTy_bl_str, isTy_bl_tup, isTy_bl_lst, isTy_bl_dic, typed_int, isTy_int_int, isTy_int_bool, isTy_int_str, isTy_int_tup, isTy_int_lst, isTy_int_dic, typed_str, isTy_str_int, isTy_str_bool, isTy_str_str, isTy_str_tup, isTy_str_lst, isTy_str_dic, typed_tup, isTy_tup_int, isTy_tup_bool, isTy_tup_str, isTy_tup_tup, isTy_tup_lst, isTy_tup_dic, typed_lst, isTy_lst_int, isTy_lst_bool, isTy_lst_str, isTy_lst_tup, isTy_lst_lst, isTy_lst_dic, typed_dic, isTy_dic_int, isTy_dic_bool, isTy_dic_str, isTy_dic_tup, isTy_dic_lst, isTy_dic_dic, truth_non, truth_bl, truth_int, truth_tup, truth_lst, binD_add, binD_sub, binD_mul, binD_fdiv, binD_mod, binD_pow, binD_shl, addD_int, subD_int, mulD_int, fdivD_int, modD_int, addD_lst, addD_tup, cmpD_eq, cmpD_ne, cmpD_lt, cmpD_le, cmpD_gt, cmpD_ge, cmpD_is, cmpD_isN, cmpD_mem, cmpD_memN, ltC_int, leC_int, isC_bl, idxD_tup, idxD_lst, idxD_hnd, blt_len, blt_abs, blt_int, blt_min2, blt_max2, len1_tup, len1_lst, absD_int, intD_int, min2D_int, max2D_int, items_tup, items_lst, bli_all, bli_any, bli_sum, bli_tupL, bli_tupT, bools_nil, bools_cons, slc_scr, slc_tup, slc_lst, kDct_nil, kLam_exc, kUnp_two, ls5, ls6, tvb, kTup, kLst, kBin2, kBin, kNot, kCmp2, kCmp, kChn4, kChn3, kChn2, kChn, kIte, kIdx2, kIdx, kSlc2, kSlc, kCall, kBlt, kIsi, kSh, kComp, kCons3, kCons2, kCons, kPons2, kPons, kRons2, kRons, kTnot, kTand, kTor, kTru, kRng, kSet, kPar, kSix2, kSix, kEx, kIf, kFor, kWh2, kCmpL2, kCmpL1, kCmpL, kForS, List.set_cons_zero, List.set_cons_succ, List.any_cons, List.any_nil, Bool.or_false, Bool.or_true, Bool.not_true, Bool.not_false, Bool.true_and, Bool.false_and, Option.map_some, Option.map_none, Option.bind_some, Option.bind_none, if_true, if_false, Bool.false_eq_true, List.length_cons, List.length_nil, List.map_cons, List.map_nil, List.cons_append, List.nil_append, List.replicate_zero, List.replicate_succ, Nat.reduceSub, Nat.reduceAdd, Nat.reduceLT, Nat.reduceLeDiff, Int.reduceLT, Int.reduceLE, Int.reduceNeg, Int.reduceToNat, Int.reduceMul, Int.reduceAdd, Int.reducePow, reduceIte, List.length_map, decide_true, decide_false, Int.cast_ofNat_Int, Bool.and_true, Bool.and_false, Tg.slots, noOwn, List.all_cons, List.all_nil, Pf.wipe, Pf.restore, List.foldl_cons, List.foldl_nil, Pf.start, t_behind_row, both_noL n hs l hd h hl]
theorem row_noR (n : Nat) (hs : List (Nat × Nat)) (l : Int) (w : D) (hd) (h : Hs hs) (h1 : 1 ≤ l) (h2 : l ≤ 60) (hw : BadR hs w) : callN T (n + 7) 14 [hsD hs, .int l, w] hd = .exc ⟨3, none⟩ hd := by
  rw [call_of (fn := t_behind_row) rfl rfl]
  simp only [rb_ok, rb_exc, rb_bad, rt_ok, rt_exc, sb_nx, sb_rt, sb_exc, ro_some, so_some, sh_val, sh_own, tvd_val, tvd_own, tvd_brw, cr_ok, cr_exc, ec_nx, ec_val, ec_own, ec_exc, ev_c, ev_v, ev_p, ev_q, rdSq_val, rdSq_lst, rdSl_val, rdSl_own, rdSv_val, rdSv_own, ev_tup, ev_lst, ev_dct, ev_bin, ev_neg, ev_not, ev_and, ev_or, ev_cmp, ev_cmp2, ev_ite, ev_idx, ev_slc, ev_call, ev_blt, ev_bli, ev_isi, ev_comp, ev_lam, evs_nil, evs_cons, evp_nil, evp_cons, evR_nil, evR_cons, evT_nil, evT_not, evT_and, evT_or, evT_tv, evO_nil, evO_tv, evI_rng, evI_tv, evSh_eq, compL_nil, compL_cons, ex_skip, ex_seq, ex_set, ex_unp, ex_par, ex_six, ex_app, kApp0_own, kApp_eq, kApp1_own, ex_ex, ex_ret, ex_if, ex_for, ex_wh, ex_rse0, ex_mkh, forL_nil, forL_cons, kRet_val, kRet_own, kAnd_bl, kOr_bl, kNeg_int, kOpt_int, putV_val, putV_own, putX_nil, putX_nm, kBli_val, kBli_own, kItm_val, kItm_own, kComp2_ok, kMkh_ok, gz, gs, st_env, st_hd, at0, at1, at2, at3, at4, pl1, pl2, pl3, pl4, eq_int, has0, ls0, ls1, ls2, ls3, ls4, typed_non, isTy_non_int, isTy_non_bool, isTy_non_str, isTy_non_tup, isTy_non_lst, isTy_non_dic, typed_bl, isTy_bl_int, isTy_bl_bool, isTy_bl_str, isTy_bl_tup, isTy_bl_lst, isTy_bl_dic, typed_int, isTy_int_int, isTy_int_bool, isTy_int_str, isTy_int_tup, isTy_int_lst, isTy_int_dic, typed_str, isTy_str_int, isTy_str_bool, isTy_str_str, isTy_str_tup, isTy_str_lst, isTy_str_dic, typed_tup, isTy_tup_int, isTy_tup_bool, isTy_tup_str, isTy_tup_tup, isTy_tup_lst, isTy_tup_dic, typed_lst, isTy_lst_int, isTy_lst_bool, isTy_lst_str, isTy_lst_tup, isTy_lst_lst, isTy_lst_dic, typed_dic, isTy_dic_int, isTy_dic_bool, isTy_dic_str, isTy_dic_tup, isTy_dic_lst, isTy_dic_dic, truth_non, truth_bl, truth_int, truth_tup, truth_lst, binD_add, binD_sub, binD_mul, binD_fdiv, binD_mod, binD_pow, binD_shl, addD_int, subD_int, mulD_int, fdivD_int, modD_int, addD_lst, addD_tup, cmpD_eq, cmpD_ne, cmpD_lt, cmpD_le, cmpD_gt, cmpD_ge, cmpD_is, cmpD_isN, cmpD_mem, cmpD_memN, ltC_int, leC_int, isC_bl, idxD_tup, idxD_lst, idxD_hnd, blt_len, blt_abs, blt_int, blt_min2, blt_max2, len1_tup, len1_lst, absD_int, intD_int, min2D_int, max2D_int, items_tup, items_lst, bli_all, bli_any, bli_sum, bli_tupL, bli_tupT, bools_nil, bools_cons, slc_scr, slc_tup, slc_lst, kDct_nil, kLam_exc, kUnp_two, ls5, ls6, tvb, kTup, kLst, kBin2, kBin, kNot, kCmp2, kCmp, kChn4, kChn3, kChn2, kChn, kIte, kIdx2, kIdx, kSlc2, kSlc, kCall, kBlt, kIsi, kSh, kComp, kCons3, kCons2, kCons, kPons2, kPons, kRons2, kRons, kTnot, kTand, kTor, kTru, kRng, kSet, kPar, kSix2, kSix, kEx, kIf, kFor, kWh2, kCmpL2, kCmpL1, kCmpL, kForS, List.set_cons_zero, List.set_cons_succ, List.any_cons, List.any_nil, Bool.or_false, Bool.or_true, Bool.not_true, Bool.not_false, Bool.true_and, Bool.false_and, Option.map_some, Option.map_none, Option.bind_some, Option.bind_none, if_true, if_false, Bool.false_eq_true, List.length_cons, List.length_nil, List.map_cons, List.map_nil, List.cons_append, List.nil_append, List.replicate_zero, List.replicate_succ, Nat.reduceSub, Nat.reduceAdd, Nat.reduceLT, Nat.reduceLeDiff, Int.reduceLT, Int.reduceLE, Int.reduceNeg, Int.reduceToNat, Int.reduceMul, Int.reduceAdd, Int.reducePow, reduceIte, List.length_map, decide_true, decide_false, Int.cast_ofNat_Int, Bool.and_true, Bool.and_false, Tg.slots, noOwn, List.all_cons, List.all_nil, Pf.wipe, Pf.restore, List.foldl_cons, List.foldl_nil, Pf.start, t_behind_row, both_s n hs l hd h h1 h2, hw (n + 3) hd]
theorem wsh_le (l : Int) (x : Nat × Nat) (h : Sh x.1 x.2) (hl : 1 ≤ l) : 1 ≤ wsh l x ∧ wsh l x ≤ l := by
  obtain ⟨h1, h2, h3, _⟩ := h
  have q0 : (0 : Int) < (x.2 : Int) := by omega
  have e : l * x.1 / x.2 ≤ l := by
    have a : l * (x.1 : Int) ≤ l * (x.2 : Int) := Int.mul_le_mul_of_nonneg_left (by omega) (by omega)
    have b := Int.ediv_le_ediv q0 a
    rwa [Int.mul_ediv_cancel _ (by omega)] at b
  unfold wsh
  omega
theorem wsh_mono (l l' : Int) (x : Nat × Nat) (h : Sh x.1 x.2) (hl : l ≤ l') : wsh l x ≤ wsh l' x := by
  obtain ⟨h1, h2, h3, _⟩ := h
  have q0 : (0 : Int) < (x.2 : Int) := by omega
  have a : l * (x.1 : Int) ≤ l' * (x.1 : Int) := Int.mul_le_mul_of_nonneg_right hl (by omega)
  have b := Int.ediv_le_ediv q0 a
  unfold wsh
  omega
theorem led_le (hs : List (Nat × Nat)) (h : Hs hs) : ∀ (ws : List Int) (l : Int), (∀ w ∈ ws, 0 ≤ w ∧ w < hs.length) → 1 ≤ l → led hs l ws ≤ l
  | [], l, _, _ => Int.le_refl _
  | w :: ws, l, hw, hl => by
    obtain ⟨h0, h1⟩ := hw w List.mem_cons_self
    obtain ⟨a, b⟩ := wsh_le l _ (hs_get h h0 h1).2 hl
    exact Int.le_trans (led_le hs h ws _ (fun v hv => hw v (List.mem_cons_of_mem _ hv)) a) b
theorem led_mono (hs : List (Nat × Nat)) (h : Hs hs) : ∀ (ws : List Int) (l l' : Int), (∀ w ∈ ws, 0 ≤ w ∧ w < hs.length) → l ≤ l' → led hs l ws ≤ led hs l' ws
  | [], l, l', _, hl => hl
  | w :: ws, l, l', hw, hl => by
    obtain ⟨h0, h1⟩ := hw w List.mem_cons_self
    exact led_mono hs h ws _ _ (fun v hv => hw v (List.mem_cons_of_mem _ hv)) (wsh_mono l l' _ (hs_get h h0 h1).2 hl)
theorem rowgen (n : Nat) (hs : List (Nat × Nat)) (hh : Hs hs) (a b c d : Pf.Slot) : ∀ (ds : List D) (h : List D), HI h → ∃ (ws : List Int) (h' : List D), compL [6] (.nm 6) (evT ⟨callN T (n + 1), T.ret, T.word⟩ .nil) (evSh ⟨callN T (n + 1), T.ret, T.word⟩ (.call 16 (.cons (.v 0) (.cons (.blt .len (.cons (.p 1) .nil)) .nil)))) ds ⟨[.val .hnd, .val (.tup (hs.map shD)), a, b, c, d, .un], some h⟩ = .ok (ws.map .int) ⟨[.val .hnd, .val (.tup (hs.map shD)), a, b, c, d, .un], some h'⟩ ∧ (∀ w ∈ ws, 0 ≤ w ∧ w < hs.length) ∧ ws.length = ds.length ∧ HI h'
  | [], h, hi => ⟨[], h, rfl, fun _ z => (by cases z), rfl, hi⟩
  | d0 :: ds, h, hi => by
    obtain ⟨l1, l4, _⟩ := hh
    obtain ⟨r, h1, e1, i1, r0, r1⟩ := draw_s n h hi hs.length (by omega) (by omega)
    obtain ⟨ws, h2, e2, s2, l2, i2⟩ := rowgen n hs ⟨l1, l4, by assumption⟩ a b c d ds h1 i1
    refine ⟨r :: ws, h2, ?_, fun y hy => ?_, congrArg (· + 1) l2, i2⟩
    · simp only [rb_ok, rb_exc, rb_bad, rt_ok, rt_exc, sb_nx, sb_rt, sb_exc, ro_some, so_some, sh_val, sh_own, tvd_val, tvd_own, tvd_brw, cr_ok, cr_exc, ec_nx, ec_val, ec_own, ec_exc, ev_c, ev_v, ev_p, ev_q, rdSq_val, rdSq_lst, rdSl_val, rdSl_own, rdSv_val, rdSv_own, ev_tup, ev_lst, ev_dct, ev_bin, ev_neg, ev_not, ev_and, ev_or, ev_cmp, ev_cmp2, ev_ite, ev_idx, ev_slc, ev_call, ev_blt, ev_bli, ev_isi, ev_comp, ev_lam, evs_nil, evs_cons, evp_nil, evp_cons, evR_nil, evR_cons, evT_nil, evT_not, evT_and, evT_or, evT_tv, evO_nil, evO_tv, evI_rng, evI_tv, evSh_eq, compL_nil, compL_cons, ex_skip, ex_seq, ex_set, ex_unp, ex_par, ex_six, ex_app, kApp0_own, kApp_eq, kApp1_own, ex_ex, ex_ret, ex_if, ex_for, ex_wh, ex_rse0, ex_mkh, forL_nil, forL_cons, kRet_val, kRet_own, kAnd_bl, kOr_bl, kNeg_int, kOpt_int, putV_val, putV_own, putX_nil, putX_nm, kBli_val, kBli_own, kItm_val, kItm_own, kComp2_ok, kMkh_ok, gz, gs, st_env, st_hd, at0, at1, at2, at3, at4, pl1, pl2, pl3, pl4, eq_int, has0, ls0, ls1, ls2, ls3, ls4, typed_non, isTy_non_int, isTy_non_bool, isTy_non_str, isTy_non_tup, isTy_non_lst, isTy_non_dic, typed_bl, isTy_bl_int, isTy_bl_bool, isTy_bl_str, isTy_bl_tup, isTy_bl_lst, isTy_bl_dic, typed_int, isTy_int_int, isTy_int_bool, isTy_int_str, isTy_int_tup, isTy_int_lst, isTy_int_dic, typed_str, isTy_str_int, isTy_str_bool, isTy_str_str, isTy_str_tup, isTy_str_lst, isTy_str_dic, typed_tup, isTy_tup_int, isTy_tup_bool, isTy_tup_str, isTy_tup_tup, isTy_tup_lst, isTy_tup_dic, typed_lst, isTy_lst_int, isTy_lst_bool, isTy_lst_str, isTy_lst_tup, isTy_lst_lst, isTy_lst_dic, typed_dic, isTy_dic_int, isTy_dic_bool, isTy_dic_str, isTy_dic_tup, isTy_dic_lst, isTy_dic_dic, truth_non, truth_bl, truth_int, truth_tup, truth_lst, binD_add, binD_sub, binD_mul, binD_fdiv, binD_mod, binD_pow, binD_shl, addD_int, subD_int, mulD_int, fdivD_int, modD_int, addD_lst, addD_tup, cmpD_eq, cmpD_ne, cmpD_lt, cmpD_le, cmpD_gt, cmpD_ge, cmpD_is, cmpD_isN, cmpD_mem, cmpD_memN, ltC_int, leC_int, isC_bl, idxD_tup, idxD_lst, idxD_hnd, blt_len, blt_abs, blt_int, blt_min2, blt_max2, len1_tup, len1_lst, absD_int, intD_int, min2D_int, max2D_int, items_tup, items_lst, bli_all, bli_any, bli_sum, bli_tupL, bli_tupT, bools_nil, bools_cons, slc_scr, slc_tup, slc_lst, kDct_nil, kLam_exc, kUnp_two, ls5, ls6, tvb, kTup, kLst, kBin2, kBin, kNot, kCmp2, kCmp, kChn4, kChn3, kChn2, kChn, kIte, kIdx2, kIdx, kSlc2, kSlc, kCall, kBlt, kIsi, kSh, kComp, kCons3, kCons2, kCons, kPons2, kPons, kRons2, kRons, kTnot, kTand, kTor, kTru, kRng, kSet, kPar, kSix2, kSix, kEx, kIf, kFor, kWh2, kCmpL2, kCmpL1, kCmpL, kForS, List.set_cons_zero, List.set_cons_succ, List.any_cons, List.any_nil, Bool.or_false, Bool.or_true, Bool.not_true, Bool.not_false, Bool.true_and, Bool.false_and, Option.map_some, Option.map_none, Option.bind_some, Option.bind_none, if_true, if_false, Bool.false_eq_true, List.length_cons, List.length_nil, List.map_cons, List.map_nil, List.cons_append, List.nil_append, List.replicate_zero, List.replicate_succ, Nat.reduceSub, Nat.reduceAdd, Nat.reduceLT, Nat.reduceLeDiff, Int.reduceLT, Int.reduceLE, Int.reduceNeg, Int.reduceToNat, Int.reduceMul, Int.reduceAdd, Int.reducePow, reduceIte, List.length_map, decide_true, decide_false, Int.cast_ofNat_Int, Bool.and_true, Bool.and_false, Tg.slots, noOwn, List.all_cons, List.all_nil, Pf.wipe, Pf.restore, List.foldl_cons, List.foldl_nil, Pf.start, e1]
      rw [e2]
      simp only [rb_ok, rb_exc, rb_bad, rt_ok, rt_exc, sb_nx, sb_rt, sb_exc, ro_some, so_some, sh_val, sh_own, tvd_val, tvd_own, tvd_brw, cr_ok, cr_exc, ec_nx, ec_val, ec_own, ec_exc, ev_c, ev_v, ev_p, ev_q, rdSq_val, rdSq_lst, rdSl_val, rdSl_own, rdSv_val, rdSv_own, ev_tup, ev_lst, ev_dct, ev_bin, ev_neg, ev_not, ev_and, ev_or, ev_cmp, ev_cmp2, ev_ite, ev_idx, ev_slc, ev_call, ev_blt, ev_bli, ev_isi, ev_comp, ev_lam, evs_nil, evs_cons, evp_nil, evp_cons, evR_nil, evR_cons, evT_nil, evT_not, evT_and, evT_or, evT_tv, evO_nil, evO_tv, evI_rng, evI_tv, evSh_eq, compL_nil, compL_cons, ex_skip, ex_seq, ex_set, ex_unp, ex_par, ex_six, ex_app, kApp0_own, kApp_eq, kApp1_own, ex_ex, ex_ret, ex_if, ex_for, ex_wh, ex_rse0, ex_mkh, forL_nil, forL_cons, kRet_val, kRet_own, kAnd_bl, kOr_bl, kNeg_int, kOpt_int, putV_val, putV_own, putX_nil, putX_nm, kBli_val, kBli_own, kItm_val, kItm_own, kComp2_ok, kMkh_ok, gz, gs, st_env, st_hd, at0, at1, at2, at3, at4, pl1, pl2, pl3, pl4, eq_int, has0, ls0, ls1, ls2, ls3, ls4, typed_non, isTy_non_int, isTy_non_bool, isTy_non_str, isTy_non_tup, isTy_non_lst, isTy_non_dic, typed_bl, isTy_bl_int, isTy_bl_bool, isTy_bl_str, isTy_bl_tup, isTy_bl_lst, isTy_bl_dic, typed_int, isTy_int_int, isTy_int_bool, isTy_int_str, isTy_int_tup, isTy_int_lst, isTy_int_dic, typed_str, isTy_str_int, isTy_str_bool, isTy_str_str, isTy_str_tup, isTy_str_lst, isTy_str_dic, typed_tup, isTy_tup_int, isTy_tup_bool, isTy_tup_str, isTy_tup_tup, isTy_tup_lst, isTy_tup_dic, typed_lst, isTy_lst_int, isTy_lst_bool, isTy_lst_str, isTy_lst_tup, isTy_lst_lst, isTy_lst_dic, typed_dic, isTy_dic_int, isTy_dic_bool, isTy_dic_str, isTy_dic_tup, isTy_dic_lst, isTy_dic_dic, truth_non, truth_bl, truth_int, truth_tup, truth_lst, binD_add, binD_sub, binD_mul, binD_fdiv, binD_mod, binD_pow, binD_shl, addD_int, subD_int, mulD_int, fdivD_int, modD_int, addD_lst, addD_tup, cmpD_eq, cmpD_ne, cmpD_lt, cmpD_le, cmpD_gt, cmpD_ge, cmpD_is, cmpD_isN, cmpD_mem, cmpD_memN, ltC_int, leC_int, isC_bl, idxD_tup, idxD_lst, idxD_hnd, blt_len, blt_abs, blt_int, blt_min2, blt_max2, len1_tup, len1_lst, absD_int, intD_int, min2D_int, max2D_int, items_tup, items_lst, bli_all, bli_any, bli_sum, bli_tupL, bli_tupT, bools_nil, bools_cons, slc_scr, slc_tup, slc_lst, kDct_nil, kLam_exc, kUnp_two, ls5, ls6, tvb, kTup, kLst, kBin2, kBin, kNot, kCmp2, kCmp, kChn4, kChn3, kChn2, kChn, kIte, kIdx2, kIdx, kSlc2, kSlc, kCall, kBlt, kIsi, kSh, kComp, kCons3, kCons2, kCons, kPons2, kPons, kRons2, kRons, kTnot, kTand, kTor, kTru, kRng, kSet, kPar, kSix2, kSix, kEx, kIf, kFor, kWh2, kCmpL2, kCmpL1, kCmpL, kForS, List.set_cons_zero, List.set_cons_succ, List.any_cons, List.any_nil, Bool.or_false, Bool.or_true, Bool.not_true, Bool.not_false, Bool.true_and, Bool.false_and, Option.map_some, Option.map_none, Option.bind_some, Option.bind_none, if_true, if_false, Bool.false_eq_true, List.length_cons, List.length_nil, List.map_cons, List.map_nil, List.cons_append, List.nil_append, List.replicate_zero, List.replicate_succ, Nat.reduceSub, Nat.reduceAdd, Nat.reduceLT, Nat.reduceLeDiff, Int.reduceLT, Int.reduceLE, Int.reduceNeg, Int.reduceToNat, Int.reduceMul, Int.reduceAdd, Int.reducePow, reduceIte, List.length_map, decide_true, decide_false, Int.cast_ofNat_Int, Bool.and_true, Bool.and_false, Tg.slots, noOwn, List.all_cons, List.all_nil, Pf.wipe, Pf.restore, List.foldl_cons, List.foldl_nil, Pf.start]
    · obtain rfl | hy := List.mem_cons.mp hy
      · exact ⟨r0, r1⟩
      · exact s2 y hy
theorem eq_two (a : Int) : eqD (.lst [.int a, .int a]) (.lst [.int a, .int a]) = some true := by
  show (if okE (.lst [.int a, .int a]) && okE (.lst [.int a, .int a]) then some ((a == a) && ((a == a) && true)) else none) = _
  rw [show (okE (.lst [.int a, .int a]) && okE (.lst [.int a, .int a])) = true from rfl, if_pos rfl]
  simp
theorem right_s (n : Nat) (hs : List (Nat × Nat)) (hh : Hs hs) (h : List D) (hi : HI h) : ∃ h', callN T (n + 8) 26 [.hnd, hsD hs] (some h) = .ok (.val (.bl true)) (some h') ∧ HI h' := by
  obtain ⟨r, h1, e1, i1, r0, r1⟩ := draw_s (n + 6) h hi 60 (by decide) (by decide)
  obtain ⟨w, h2, e2, i2, w0, w1⟩ := draw_s (n + 6) h1 i1 hs.length (by have := hh.1; omega) (by have := hh.2.1; omega)
  obtain ⟨l, hl⟩ : ∃ l : Int, l = 1 + r := ⟨_, rfl⟩
  have l1 : 1 ≤ l := by omega
  have l2 : l ≤ 60 := by omega
  obtain ⟨x1, x2⟩ := hs_get hh w0 w1
  obtain ⟨y1, y2⟩ := wsh_le l _ x2 l1
  obtain ⟨m, h3, e3, i3, m0, m1⟩ := draw_s (n + 6) h2 i2 13 (by decide) (by decide)
  obtain ⟨ws, h4, e4, s4, q4, i4⟩ := rowgen (n + 6) hs hh (.val (.int l)) (.val (.int w)) (.val (.int (wsh l (hs.getD w.toNat (0, 1))))) .un (rngN 0 1 m.toNat) h3 i3
  rw [rngN_len] at q4
  have er : rngD [.int m] = some (rngN 0 1 m.toNat) := rng_s m0 (by omega)
  have hrow : Row hs ws := ⟨by omega, s4⟩
  have k1 := led_le hs hh ws l s4 l1
  have k2 := led_mono hs hh ws l (l + 1) s4 (by omega)
  have a1 : callN T (n + 7) 11 [.tup (hs.map shD), .int l, .int w] (some h2) = _ := at_s n hs l w _ (some h2) hh l1 l2 w0 w1 x1 x2
  have a2 : callN T (n + 7) 23 [.tup (hs.map shD), .int l, .tup (ws.map .int)] (some h4) = _ := behind_s (n + 5) hs l ws (some h4) hh s4
  have a3 : callN T (n + 7) 14 [.tup (hs.map shD), .int l, .tup (ws.map .int)] (some h4) = _ := row_s n hs l ws (some h4) hh l1 l2 hrow
  have a4 : callN T (n + 7) 14 [.tup (hs.map shD), .int l, .tup []] (some h4) = .ok (.val (.int l)) (some h4) := row_s n hs l [] (some h4) hh l1 l2 ⟨by simp, fun _ z => (by cases z)⟩
  have b1 : decide (1 ≤ wsh l (hs.getD w.toNat (0, 1))) = true := decide_eq_true y1
  have b2 : decide (wsh l (hs.getD w.toNat (0, 1)) ≤ l) = true := decide_eq_true y2
  have b3 : decide (l < led hs l ws) = false := decide_eq_false (by omega)
  have b4 : decide (l = l) = true := decide_eq_true rfl
  refine ⟨h4, ?_, i4⟩
  rw [call_of (fn := t__law_is_right) rfl rfl]
  by_cases c : l = 60
  · simp only [rb_ok, rb_exc, rb_bad, rt_ok, rt_exc, sb_nx, sb_rt, sb_exc, ro_some, so_some, sh_val, sh_own, tvd_val, tvd_own, tvd_brw, cr_ok, cr_exc, ec_nx, ec_val, ec_own, ec_exc, ev_c, ev_v, ev_p, ev_q, rdSq_val, rdSq_lst, rdSl_val, rdSl_own, rdSv_val, rdSv_own, ev_tup, ev_lst, ev_dct, ev_bin, ev_neg, ev_not, ev_and, ev_or, ev_cmp, ev_cmp2, ev_ite, ev_idx, ev_slc, ev_call, ev_blt, ev_bli, ev_isi, ev_comp, ev_lam, evs_nil, evs_cons, evp_nil, evp_cons, evR_nil, evR_cons, evT_nil, evT_not, evT_and, evT_or, evT_tv, evO_nil, evO_tv, evI_rng, evI_tv, evSh_eq, compL_nil, compL_cons, ex_skip, ex_seq, ex_set, ex_unp, ex_par, ex_six, ex_app, kApp0_own, kApp_eq, kApp1_own, ex_ex, ex_ret, ex_if, ex_for, ex_wh, ex_rse0, ex_mkh, forL_nil, forL_cons, kRet_val, kRet_own, kAnd_bl, kOr_bl, kNeg_int, kOpt_int, putV_val, putV_own, putX_nil, putX_nm, kBli_val, kBli_own, kItm_val, kItm_own, kComp2_ok, kMkh_ok, gz, gs, st_env, st_hd, at0, at1, at2, at3, at4, pl1, pl2, pl3, pl4, eq_int, has0, ls0, ls1, ls2, ls3, ls4, typed_non, isTy_non_int, isTy_non_bool, isTy_non_str, isTy_non_tup, isTy_non_lst, isTy_non_dic, typed_bl, isTy_bl_int, isTy_bl_bool, isTy_bl_str, isTy_bl_tup, isTy_bl_lst, isTy_bl_dic, typed_int, isTy_int_int, isTy_int_bool, isTy_int_str, isTy_int_tup, isTy_int_lst, isTy_int_dic, typed_str, isTy_str_int, isTy_str_bool, isTy_str_str, isTy_str_tup, isTy_str_lst, isTy_str_dic, typed_tup, isTy_tup_int, isTy_tup_bool, isTy_tup_str, isTy_tup_tup, isTy_tup_lst, isTy_tup_dic, typed_lst, isTy_lst_int, isTy_lst_bool, isTy_lst_str, isTy_lst_tup, isTy_lst_lst, isTy_lst_dic, typed_dic, isTy_dic_int, isTy_dic_bool, isTy_dic_str, isTy_dic_tup, isTy_dic_lst, isTy_dic_dic, truth_non, truth_bl, truth_int, truth_tup, truth_lst, binD_add, binD_sub, binD_mul, binD_fdiv, binD_mod, binD_pow, binD_shl, addD_int, subD_int, mulD_int, fdivD_int, modD_int, addD_lst, addD_tup, cmpD_eq, cmpD_ne, cmpD_lt, cmpD_le, cmpD_gt, cmpD_ge, cmpD_is, cmpD_isN, cmpD_mem, cmpD_memN, ltC_int, leC_int, isC_bl, idxD_tup, idxD_lst, idxD_hnd, blt_len, blt_abs, blt_int, blt_min2, blt_max2, len1_tup, len1_lst, absD_int, intD_int, min2D_int, max2D_int, items_tup, items_lst, bli_all, bli_any, bli_sum, bli_tupL, bli_tupT, bools_nil, bools_cons, slc_scr, slc_tup, slc_lst, kDct_nil, kLam_exc, kUnp_two, ls5, ls6, tvb, kTup, kLst, kBin2, kBin, kNot, kCmp2, kCmp, kChn4, kChn3, kChn2, kChn, kIte, kIdx2, kIdx, kSlc2, kSlc, kCall, kBlt, kIsi, kSh, kComp, kCons3, kCons2, kCons, kPons2, kPons, kRons2, kRons, kTnot, kTand, kTor, kTru, kRng, kSet, kPar, kSix2, kSix, kEx, kIf, kFor, kWh2, kCmpL2, kCmpL1, kCmpL, kForS, List.set_cons_zero, List.set_cons_succ, List.any_cons, List.any_nil, Bool.or_false, Bool.or_true, Bool.not_true, Bool.not_false, Bool.true_and, Bool.false_and, Option.map_some, Option.map_none, Option.bind_some, Option.bind_none, if_true, if_false, Bool.false_eq_true, List.length_cons, List.length_nil, List.map_cons, List.map_nil, List.cons_append, List.nil_append, List.replicate_zero, List.replicate_succ, Nat.reduceSub, Nat.reduceAdd, Nat.reduceLT, Nat.reduceLeDiff, Int.reduceLT, Int.reduceLE, Int.reduceNeg, Int.reduceToNat, Int.reduceMul, Int.reduceAdd, Int.reducePow, reduceIte, List.length_map, decide_true, decide_false, Int.cast_ofNat_Int, Bool.and_true, Bool.and_false, Tg.slots, noOwn, List.all_cons, List.all_nil, Pf.wipe, Pf.restore, List.foldl_cons, List.foldl_nil, Pf.start, t__law_is_right, hsD, e1, e2, ← hl, x1, once_s (n + 6) l _ _ x2, a1, eq_two, b1, b2, e3, er]
    rw [e4]
    simp only [rb_ok, rb_exc, rb_bad, rt_ok, rt_exc, sb_nx, sb_rt, sb_exc, ro_some, so_some, sh_val, sh_own, tvd_val, tvd_own, tvd_brw, cr_ok, cr_exc, ec_nx, ec_val, ec_own, ec_exc, ev_c, ev_v, ev_p, ev_q, rdSq_val, rdSq_lst, rdSl_val, rdSl_own, rdSv_val, rdSv_own, ev_tup, ev_lst, ev_dct, ev_bin, ev_neg, ev_not, ev_and, ev_or, ev_cmp, ev_cmp2, ev_ite, ev_idx, ev_slc, ev_call, ev_blt, ev_bli, ev_isi, ev_comp, ev_lam, evs_nil, evs_cons, evp_nil, evp_cons, evR_nil, evR_cons, evT_nil, evT_not, evT_and, evT_or, evT_tv, evO_nil, evO_tv, evI_rng, evI_tv, evSh_eq, compL_nil, compL_cons, ex_skip, ex_seq, ex_set, ex_unp, ex_par, ex_six, ex_app, kApp0_own, kApp_eq, kApp1_own, ex_ex, ex_ret, ex_if, ex_for, ex_wh, ex_rse0, ex_mkh, forL_nil, forL_cons, kRet_val, kRet_own, kAnd_bl, kOr_bl, kNeg_int, kOpt_int, putV_val, putV_own, putX_nil, putX_nm, kBli_val, kBli_own, kItm_val, kItm_own, kComp2_ok, kMkh_ok, gz, gs, st_env, st_hd, at0, at1, at2, at3, at4, pl1, pl2, pl3, pl4, eq_int, has0, ls0, ls1, ls2, ls3, ls4, typed_non, isTy_non_int, isTy_non_bool, isTy_non_str, isTy_non_tup, isTy_non_lst, isTy_non_dic, typed_bl, isTy_bl_int, isTy_bl_bool, isTy_bl_str, isTy_bl_tup, isTy_bl_lst, isTy_bl_dic, typed_int, isTy_int_int, isTy_int_bool, isTy_int_str, isTy_int_tup, isTy_int_lst, isTy_int_dic, typed_str, isTy_str_int, isTy_str_bool, isTy_str_str, isTy_str_tup, isTy_str_lst, isTy_str_dic, typed_tup, isTy_tup_int, isTy_tup_bool, isTy_tup_str, isTy_tup_tup, isTy_tup_lst, isTy_tup_dic, typed_lst, isTy_lst_int, isTy_lst_bool, isTy_lst_str, isTy_lst_tup, isTy_lst_lst, isTy_lst_dic, typed_dic, isTy_dic_int, isTy_dic_bool, isTy_dic_str, isTy_dic_tup, isTy_dic_lst, isTy_dic_dic, truth_non, truth_bl, truth_int, truth_tup, truth_lst, binD_add, binD_sub, binD_mul, binD_fdiv, binD_mod, binD_pow, binD_shl, addD_int, subD_int, mulD_int, fdivD_int, modD_int, addD_lst, addD_tup, cmpD_eq, cmpD_ne, cmpD_lt, cmpD_le, cmpD_gt, cmpD_ge, cmpD_is, cmpD_isN, cmpD_mem, cmpD_memN, ltC_int, leC_int, isC_bl, idxD_tup, idxD_lst, idxD_hnd, blt_len, blt_abs, blt_int, blt_min2, blt_max2, len1_tup, len1_lst, absD_int, intD_int, min2D_int, max2D_int, items_tup, items_lst, bli_all, bli_any, bli_sum, bli_tupL, bli_tupT, bools_nil, bools_cons, slc_scr, slc_tup, slc_lst, kDct_nil, kLam_exc, kUnp_two, ls5, ls6, tvb, kTup, kLst, kBin2, kBin, kNot, kCmp2, kCmp, kChn4, kChn3, kChn2, kChn, kIte, kIdx2, kIdx, kSlc2, kSlc, kCall, kBlt, kIsi, kSh, kComp, kCons3, kCons2, kCons, kPons2, kPons, kRons2, kRons, kTnot, kTand, kTor, kTru, kRng, kSet, kPar, kSix2, kSix, kEx, kIf, kFor, kWh2, kCmpL2, kCmpL1, kCmpL, kForS, List.set_cons_zero, List.set_cons_succ, List.any_cons, List.any_nil, Bool.or_false, Bool.or_true, Bool.not_true, Bool.not_false, Bool.true_and, Bool.false_and, Option.map_some, Option.map_none, Option.bind_some, Option.bind_none, if_true, if_false, Bool.false_eq_true, List.length_cons, List.length_nil, List.map_cons, List.map_nil, List.cons_append, List.nil_append, List.replicate_zero, List.replicate_succ, Nat.reduceSub, Nat.reduceAdd, Nat.reduceLT, Nat.reduceLeDiff, Int.reduceLT, Int.reduceLE, Int.reduceNeg, Int.reduceToNat, Int.reduceMul, Int.reduceAdd, Int.reducePow, reduceIte, List.length_map, decide_true, decide_false, Int.cast_ofNat_Int, Bool.and_true, Bool.and_false, Tg.slots, noOwn, List.all_cons, List.all_nil, Pf.wipe, Pf.restore, List.foldl_cons, List.foldl_nil, Pf.start, a2, a3, eq_two, a4, eq_int, b4, b3, decide_eq_true c]
  · have a5 : callN T (n + 7) 14 [.tup (hs.map shD), .int (l + 1), .tup (ws.map .int)] (some h4) = _ := row_s n hs (l + 1) ws (some h4) hh (by omega) (by omega) hrow
    simp only [rb_ok, rb_exc, rb_bad, rt_ok, rt_exc, sb_nx, sb_rt, sb_exc, ro_some, so_some, sh_val, sh_own, tvd_val, tvd_own, tvd_brw, cr_ok, cr_exc, ec_nx, ec_val, ec_own, ec_exc, ev_c, ev_v, ev_p, ev_q, rdSq_val, rdSq_lst, rdSl_val, rdSl_own, rdSv_val, rdSv_own, ev_tup, ev_lst, ev_dct, ev_bin, ev_neg, ev_not, ev_and, ev_or, ev_cmp, ev_cmp2, ev_ite, ev_idx, ev_slc, ev_call, ev_blt, ev_bli, ev_isi, ev_comp, ev_lam, evs_nil, evs_cons, evp_nil, evp_cons, evR_nil, evR_cons, evT_nil, evT_not, evT_and, evT_or, evT_tv, evO_nil, evO_tv, evI_rng, evI_tv, evSh_eq, compL_nil, compL_cons, ex_skip, ex_seq, ex_set, ex_unp, ex_par, ex_six, ex_app, kApp0_own, kApp_eq, kApp1_own, ex_ex, ex_ret, ex_if, ex_for, ex_wh, ex_rse0, ex_mkh, forL_nil, forL_cons, kRet_val, kRet_own, kAnd_bl, kOr_bl, kNeg_int, kOpt_int, putV_val, putV_own, putX_nil, putX_nm, kBli_val, kBli_own, kItm_val, kItm_own, kComp2_ok, kMkh_ok, gz, gs, st_env, st_hd, at0, at1, at2, at3, at4, pl1, pl2, pl3, pl4, eq_int, has0, ls0, ls1, ls2, ls3, ls4, typed_non, isTy_non_int, isTy_non_bool, isTy_non_str, isTy_non_tup, isTy_non_lst, isTy_non_dic, typed_bl, isTy_bl_int, isTy_bl_bool, isTy_bl_str, isTy_bl_tup, isTy_bl_lst, isTy_bl_dic, typed_int, isTy_int_int, isTy_int_bool, isTy_int_str, isTy_int_tup, isTy_int_lst, isTy_int_dic, typed_str, isTy_str_int, isTy_str_bool, isTy_str_str, isTy_str_tup, isTy_str_lst, isTy_str_dic, typed_tup, isTy_tup_int, isTy_tup_bool, isTy_tup_str, isTy_tup_tup, isTy_tup_lst, isTy_tup_dic, typed_lst, isTy_lst_int, isTy_lst_bool, isTy_lst_str, isTy_lst_tup, isTy_lst_lst, isTy_lst_dic, typed_dic, isTy_dic_int, isTy_dic_bool, isTy_dic_str, isTy_dic_tup, isTy_dic_lst, isTy_dic_dic, truth_non, truth_bl, truth_int, truth_tup, truth_lst, binD_add, binD_sub, binD_mul, binD_fdiv, binD_mod, binD_pow, binD_shl, addD_int, subD_int, mulD_int, fdivD_int, modD_int, addD_lst, addD_tup, cmpD_eq, cmpD_ne, cmpD_lt, cmpD_le, cmpD_gt, cmpD_ge, cmpD_is, cmpD_isN, cmpD_mem, cmpD_memN, ltC_int, leC_int, isC_bl, idxD_tup, idxD_lst, idxD_hnd, blt_len, blt_abs, blt_int, blt_min2, blt_max2, len1_tup, len1_lst, absD_int, intD_int, min2D_int, max2D_int, items_tup, items_lst, bli_all, bli_any, bli_sum, bli_tupL, bli_tupT, bools_nil, bools_cons, slc_scr, slc_tup, slc_lst, kDct_nil, kLam_exc, kUnp_two, ls5, ls6, tvb, kTup, kLst, kBin2, kBin, kNot, kCmp2, kCmp, kChn4, kChn3, kChn2, kChn, kIte, kIdx2, kIdx, kSlc2, kSlc, kCall, kBlt, kIsi, kSh, kComp, kCons3, kCons2, kCons, kPons2, kPons, kRons2, kRons, kTnot, kTand, kTor, kTru, kRng, kSet, kPar, kSix2, kSix, kEx, kIf, kFor, kWh2, kCmpL2, kCmpL1, kCmpL, kForS, List.set_cons_zero, List.set_cons_succ, List.any_cons, List.any_nil, Bool.or_false, Bool.or_true, Bool.not_true, Bool.not_false, Bool.true_and, Bool.false_and, Option.map_some, Option.map_none, Option.bind_some, Option.bind_none, if_true, if_false, Bool.false_eq_true, List.length_cons, List.length_nil, List.map_cons, List.map_nil, List.cons_append, List.nil_append, List.replicate_zero, List.replicate_succ, Nat.reduceSub, Nat.reduceAdd, Nat.reduceLT, Nat.reduceLeDiff, Int.reduceLT, Int.reduceLE, Int.reduceNeg, Int.reduceToNat, Int.reduceMul, Int.reduceAdd, Int.reducePow, reduceIte, List.length_map, decide_true, decide_false, Int.cast_ofNat_Int, Bool.and_true, Bool.and_false, Tg.slots, noOwn, List.all_cons, List.all_nil, Pf.wipe, Pf.restore, List.foldl_cons, List.foldl_nil, Pf.start, t__law_is_right, hsD, e1, e2, ← hl, x1, once_s (n + 6) l _ _ x2, a1, eq_two, b1, b2, e3, er]
    rw [e4]
    simp only [rb_ok, rb_exc, rb_bad, rt_ok, rt_exc, sb_nx, sb_rt, sb_exc, ro_some, so_some, sh_val, sh_own, tvd_val, tvd_own, tvd_brw, cr_ok, cr_exc, ec_nx, ec_val, ec_own, ec_exc, ev_c, ev_v, ev_p, ev_q, rdSq_val, rdSq_lst, rdSl_val, rdSl_own, rdSv_val, rdSv_own, ev_tup, ev_lst, ev_dct, ev_bin, ev_neg, ev_not, ev_and, ev_or, ev_cmp, ev_cmp2, ev_ite, ev_idx, ev_slc, ev_call, ev_blt, ev_bli, ev_isi, ev_comp, ev_lam, evs_nil, evs_cons, evp_nil, evp_cons, evR_nil, evR_cons, evT_nil, evT_not, evT_and, evT_or, evT_tv, evO_nil, evO_tv, evI_rng, evI_tv, evSh_eq, compL_nil, compL_cons, ex_skip, ex_seq, ex_set, ex_unp, ex_par, ex_six, ex_app, kApp0_own, kApp_eq, kApp1_own, ex_ex, ex_ret, ex_if, ex_for, ex_wh, ex_rse0, ex_mkh, forL_nil, forL_cons, kRet_val, kRet_own, kAnd_bl, kOr_bl, kNeg_int, kOpt_int, putV_val, putV_own, putX_nil, putX_nm, kBli_val, kBli_own, kItm_val, kItm_own, kComp2_ok, kMkh_ok, gz, gs, st_env, st_hd, at0, at1, at2, at3, at4, pl1, pl2, pl3, pl4, eq_int, has0, ls0, ls1, ls2, ls3, ls4, typed_non, isTy_non_int, isTy_non_bool, isTy_non_str, isTy_non_tup, isTy_non_lst, isTy_non_dic, typed_bl, isTy_bl_int, isTy_bl_bool, isTy_bl_str, isTy_bl_tup, isTy_bl_lst, isTy_bl_dic, typed_int, isTy_int_int, isTy_int_bool, isTy_int_str, isTy_int_tup, isTy_int_lst, isTy_int_dic, typed_str, isTy_str_int, isTy_str_bool, isTy_str_str, isTy_str_tup, isTy_str_lst, isTy_str_dic, typed_tup, isTy_tup_int, isTy_tup_bool, isTy_tup_str, isTy_tup_tup, isTy_tup_lst, isTy_tup_dic, typed_lst, isTy_lst_int, isTy_lst_bool, isTy_lst_str, isTy_lst_tup, isTy_lst_lst, isTy_lst_dic, typed_dic, isTy_dic_int, isTy_dic_bool, isTy_dic_str, isTy_dic_tup, isTy_dic_lst, isTy_dic_dic, truth_non, truth_bl, truth_int, truth_tup, truth_lst, binD_add, binD_sub, binD_mul, binD_fdiv, binD_mod, binD_pow, binD_shl, addD_int, subD_int, mulD_int, fdivD_int, modD_int, addD_lst, addD_tup, cmpD_eq, cmpD_ne, cmpD_lt, cmpD_le, cmpD_gt, cmpD_ge, cmpD_is, cmpD_isN, cmpD_mem, cmpD_memN, ltC_int, leC_int, isC_bl, idxD_tup, idxD_lst, idxD_hnd, blt_len, blt_abs, blt_int, blt_min2, blt_max2, len1_tup, len1_lst, absD_int, intD_int, min2D_int, max2D_int, items_tup, items_lst, bli_all, bli_any, bli_sum, bli_tupL, bli_tupT, bools_nil, bools_cons, slc_scr, slc_tup, slc_lst, kDct_nil, kLam_exc, kUnp_two, ls5, ls6, tvb, kTup, kLst, kBin2, kBin, kNot, kCmp2, kCmp, kChn4, kChn3, kChn2, kChn, kIte, kIdx2, kIdx, kSlc2, kSlc, kCall, kBlt, kIsi, kSh, kComp, kCons3, kCons2, kCons, kPons2, kPons, kRons2, kRons, kTnot, kTand, kTor, kTru, kRng, kSet, kPar, kSix2, kSix, kEx, kIf, kFor, kWh2, kCmpL2, kCmpL1, kCmpL, kForS, List.set_cons_zero, List.set_cons_succ, List.any_cons, List.any_nil, Bool.or_false, Bool.or_true, Bool.not_true, Bool.not_false, Bool.true_and, Bool.false_and, Option.map_some, Option.map_none, Option.bind_some, Option.bind_none, if_true, if_false, Bool.false_eq_true, List.length_cons, List.length_nil, List.map_cons, List.map_nil, List.cons_append, List.nil_append, List.replicate_zero, List.replicate_succ, Nat.reduceSub, Nat.reduceAdd, Nat.reduceLT, Nat.reduceLeDiff, Int.reduceLT, Int.reduceLE, Int.reduceNeg, Int.reduceToNat, Int.reduceMul, Int.reduceAdd, Int.reducePow, reduceIte, List.length_map, decide_true, decide_false, Int.cast_ofNat_Int, Bool.and_true, Bool.and_false, Tg.slots, noOwn, List.all_cons, List.all_nil, Pf.wipe, Pf.restore, List.foldl_cons, List.foldl_nil, Pf.start, a2, a3, eq_two, a4, eq_int, b4, b3, decide_eq_false c, a5, decide_eq_true k2]
theorem hand_loop (n : Nat) (z : Pf.Slot) : ∀ (ns : List Int), ∃ cs : List Int, compL [2] (.nm 2) (evT ⟨callN T n, T.ret, T.word⟩ .nil) (evSh ⟨callN T n, T.ret, T.word⟩ (.blt .abs (.cons (.blt .int (.cons (.p 2) .nil)) .nil))) (ns.map .int) ⟨[z, .un, .un], none⟩ = .ok (cs.map .int) ⟨[z, .un, .un], none⟩ ∧ (∀ c ∈ cs, 0 ≤ c) ∧ cs.length = ns.length
  | [] => ⟨[], rfl, fun _ z => (by cases z), rfl⟩
  | m :: ns => by
    obtain ⟨cs, e, h, hl⟩ := hand_loop n z ns
    refine ⟨(if m < 0 then -m else m) :: cs, ?_, fun y hy => ?_, congrArg (· + 1) hl⟩
    · simp only [rb_ok, rb_exc, rb_bad, rt_ok, rt_exc, sb_nx, sb_rt, sb_exc, ro_some, so_some, sh_val, sh_own, tvd_val, tvd_own, tvd_brw, cr_ok, cr_exc, ec_nx, ec_val, ec_own, ec_exc, ev_c, ev_v, ev_p, ev_q, rdSq_val, rdSq_lst, rdSl_val, rdSl_own, rdSv_val, rdSv_own, ev_tup, ev_lst, ev_dct, ev_bin, ev_neg, ev_not, ev_and, ev_or, ev_cmp, ev_cmp2, ev_ite, ev_idx, ev_slc, ev_call, ev_blt, ev_bli, ev_isi, ev_comp, ev_lam, evs_nil, evs_cons, evp_nil, evp_cons, evR_nil, evR_cons, evT_nil, evT_not, evT_and, evT_or, evT_tv, evO_nil, evO_tv, evI_rng, evI_tv, evSh_eq, compL_nil, compL_cons, ex_skip, ex_seq, ex_set, ex_unp, ex_par, ex_six, ex_app, kApp0_own, kApp_eq, kApp1_own, ex_ex, ex_ret, ex_if, ex_for, ex_wh, ex_rse0, ex_mkh, forL_nil, forL_cons, kRet_val, kRet_own, kAnd_bl, kOr_bl, kNeg_int, kOpt_int, putV_val, putV_own, putX_nil, putX_nm, kBli_val, kBli_own, kItm_val, kItm_own, kComp2_ok, kMkh_ok, gz, gs, st_env, st_hd, at0, at1, at2, at3, at4, pl1, pl2, pl3, pl4, eq_int, has0, ls0, ls1, ls2, ls3, ls4, typed_non, isTy_non_int, isTy_non_bool, isTy_non_str, isTy_non_tup, isTy_non_lst, isTy_non_dic, typed_bl, isTy_bl_int, isTy_bl_bool, isTy_bl_str, isTy_bl_tup, isTy_bl_lst, isTy_bl_dic, typed_int, isTy_int_int, isTy_int_bool, isTy_int_str, isTy_int_tup, isTy_int_lst, isTy_int_dic, typed_str, isTy_str_int, isTy_str_bool, isTy_str_str, isTy_str_tup, isTy_str_lst, isTy_str_dic, typed_tup, isTy_tup_int, isTy_tup_bool, isTy_tup_str, isTy_tup_tup, isTy_tup_lst, isTy_tup_dic, typed_lst, isTy_lst_int, isTy_lst_bool, isTy_lst_str, isTy_lst_tup, isTy_lst_lst, isTy_lst_dic, typed_dic, isTy_dic_int, isTy_dic_bool, isTy_dic_str, isTy_dic_tup, isTy_dic_lst, isTy_dic_dic, truth_non, truth_bl, truth_int, truth_tup, truth_lst, binD_add, binD_sub, binD_mul, binD_fdiv, binD_mod, binD_pow, binD_shl, addD_int, subD_int, mulD_int, fdivD_int, modD_int, addD_lst, addD_tup, cmpD_eq, cmpD_ne, cmpD_lt, cmpD_le, cmpD_gt, cmpD_ge, cmpD_is, cmpD_isN, cmpD_mem, cmpD_memN, ltC_int, leC_int, isC_bl, idxD_tup, idxD_lst, idxD_hnd, blt_len, blt_abs, blt_int, blt_min2, blt_max2, len1_tup, len1_lst, absD_int, intD_int, min2D_int, max2D_int, items_tup, items_lst, bli_all, bli_any, bli_sum, bli_tupL, bli_tupT, bools_nil, bools_cons, slc_scr, slc_tup, slc_lst, kDct_nil, kLam_exc, kUnp_two, ls5, ls6, tvb, kTup, kLst, kBin2, kBin, kNot, kCmp2, kCmp, kChn4, kChn3, kChn2, kChn, kIte, kIdx2, kIdx, kSlc2, kSlc, kCall, kBlt, kIsi, kSh, kComp, kCons3, kCons2, kCons, kPons2, kPons, kRons2, kRons, kTnot, kTand, kTor, kTru, kRng, kSet, kPar, kSix2, kSix, kEx, kIf, kFor, kWh2, kCmpL2, kCmpL1, kCmpL, kForS, List.set_cons_zero, List.set_cons_succ, List.any_cons, List.any_nil, Bool.or_false, Bool.or_true, Bool.not_true, Bool.not_false, Bool.true_and, Bool.false_and, Option.map_some, Option.map_none, Option.bind_some, Option.bind_none, if_true, if_false, Bool.false_eq_true, List.length_cons, List.length_nil, List.map_cons, List.map_nil, List.cons_append, List.nil_append, List.replicate_zero, List.replicate_succ, Nat.reduceSub, Nat.reduceAdd, Nat.reduceLT, Nat.reduceLeDiff, Int.reduceLT, Int.reduceLE, Int.reduceNeg, Int.reduceToNat, Int.reduceMul, Int.reduceAdd, Int.reducePow, reduceIte, List.length_map, decide_true, decide_false, Int.cast_ofNat_Int, Bool.and_true, Bool.and_false, Tg.slots, noOwn, List.all_cons, List.all_nil, Pf.wipe, Pf.restore, List.foldl_cons, List.foldl_nil, Pf.start]
      rw [e]
      simp only [rb_ok, rb_exc, rb_bad, rt_ok, rt_exc, sb_nx, sb_rt, sb_exc, ro_some, so_some, sh_val, sh_own, tvd_val, tvd_own, tvd_brw, cr_ok, cr_exc, ec_nx, ec_val, ec_own, ec_exc, ev_c, ev_v, ev_p, ev_q, rdSq_val, rdSq_lst, rdSl_val, rdSl_own, rdSv_val, rdSv_own, ev_tup, ev_lst, ev_dct, ev_bin, ev_neg, ev_not, ev_and, ev_or, ev_cmp, ev_cmp2, ev_ite, ev_idx, ev_slc, ev_call, ev_blt, ev_bli, ev_isi, ev_comp, ev_lam, evs_nil, evs_cons, evp_nil, evp_cons, evR_nil, evR_cons, evT_nil, evT_not, evT_and, evT_or, evT_tv, evO_nil, evO_tv, evI_rng, evI_tv, evSh_eq, compL_nil, compL_cons, ex_skip, ex_seq, ex_set, ex_unp, ex_par, ex_six, ex_app, kApp0_own, kApp_eq, kApp1_own, ex_ex, ex_ret, ex_if, ex_for, ex_wh, ex_rse0, ex_mkh, forL_nil, forL_cons, kRet_val, kRet_own, kAnd_bl, kOr_bl, kNeg_int, kOpt_int, putV_val, putV_own, putX_nil, putX_nm, kBli_val, kBli_own, kItm_val, kItm_own, kComp2_ok, kMkh_ok, gz, gs, st_env, st_hd, at0, at1, at2, at3, at4, pl1, pl2, pl3, pl4, eq_int, has0, ls0, ls1, ls2, ls3, ls4, typed_non, isTy_non_int, isTy_non_bool, isTy_non_str, isTy_non_tup, isTy_non_lst, isTy_non_dic, typed_bl, isTy_bl_int, isTy_bl_bool, isTy_bl_str, isTy_bl_tup, isTy_bl_lst, isTy_bl_dic, typed_int, isTy_int_int, isTy_int_bool, isTy_int_str, isTy_int_tup, isTy_int_lst, isTy_int_dic, typed_str, isTy_str_int, isTy_str_bool, isTy_str_str, isTy_str_tup, isTy_str_lst, isTy_str_dic, typed_tup, isTy_tup_int, isTy_tup_bool, isTy_tup_str, isTy_tup_tup, isTy_tup_lst, isTy_tup_dic, typed_lst, isTy_lst_int, isTy_lst_bool, isTy_lst_str, isTy_lst_tup, isTy_lst_lst, isTy_lst_dic, typed_dic, isTy_dic_int, isTy_dic_bool, isTy_dic_str, isTy_dic_tup, isTy_dic_lst, isTy_dic_dic, truth_non, truth_bl, truth_int, truth_tup, truth_lst, binD_add, binD_sub, binD_mul, binD_fdiv, binD_mod, binD_pow, binD_shl, addD_int, subD_int, mulD_int, fdivD_int, modD_int, addD_lst, addD_tup, cmpD_eq, cmpD_ne, cmpD_lt, cmpD_le, cmpD_gt, cmpD_ge, cmpD_is, cmpD_isN, cmpD_mem, cmpD_memN, ltC_int, leC_int, isC_bl, idxD_tup, idxD_lst, idxD_hnd, blt_len, blt_abs, blt_int, blt_min2, blt_max2, len1_tup, len1_lst, absD_int, intD_int, min2D_int, max2D_int, items_tup, items_lst, bli_all, bli_any, bli_sum, bli_tupL, bli_tupT, bools_nil, bools_cons, slc_scr, slc_tup, slc_lst, kDct_nil, kLam_exc, kUnp_two, ls5, ls6, tvb, kTup, kLst, kBin2, kBin, kNot, kCmp2, kCmp, kChn4, kChn3, kChn2, kChn, kIte, kIdx2, kIdx, kSlc2, kSlc, kCall, kBlt, kIsi, kSh, kComp, kCons3, kCons2, kCons, kPons2, kPons, kRons2, kRons, kTnot, kTand, kTor, kTru, kRng, kSet, kPar, kSix2, kSix, kEx, kIf, kFor, kWh2, kCmpL2, kCmpL1, kCmpL, kForS, List.set_cons_zero, List.set_cons_succ, List.any_cons, List.any_nil, Bool.or_false, Bool.or_true, Bool.not_true, Bool.not_false, Bool.true_and, Bool.false_and, Option.map_some, Option.map_none, Option.bind_some, Option.bind_none, if_true, if_false, Bool.false_eq_true, List.length_cons, List.length_nil, List.map_cons, List.map_nil, List.cons_append, List.nil_append, List.replicate_zero, List.replicate_succ, Nat.reduceSub, Nat.reduceAdd, Nat.reduceLT, Nat.reduceLeDiff, Int.reduceLT, Int.reduceLE, Int.reduceNeg, Int.reduceToNat, Int.reduceMul, Int.reduceAdd, Int.reducePow, reduceIte, List.length_map, decide_true, decide_false, Int.cast_ofNat_Int, Bool.and_true, Bool.and_false, Tg.slots, noOwn, List.all_cons, List.all_nil, Pf.wipe, Pf.restore, List.foldl_cons, List.foldl_nil, Pf.start]
    · obtain rfl | hy := List.mem_cons.mp hy
      · split <;> omega
      · exact h y hy
theorem cut_ints (ns : List Int) : ∃ ms : List Int, cut (ns.map D.int) none (some 63) = ms.map .int ∧ ms.length ≤ 63 := by
  refine ⟨(ns.drop 0).take (min 63 ns.length), ?_, ?_⟩
  · unfold cut clip
    simp only [List.length_map, List.drop_zero, Nat.sub_zero]
    rw [List.map_take]
    rfl
  · rw [List.length_take]; omega
theorem hand_s (n : Nat) (ns : List Int) : ∃ h, callN T (n + 1) 15 [.scr (ns.map .int)] none = .ok (.own (.lst h)) none ∧ HI h := by
  obtain ⟨ms, e1, hl⟩ := cut_ints ns
  obtain ⟨cs, e2, h, hc⟩ := hand_loop n (.val (.scr (ns.map .int))) ms
  have q : mulOk 5 (cs.length : Int) = true := mulL _ _ (by decide) (by decide)
  refine ⟨[.lst (cs.map .int), .int 0, .int 0, .int (83 + 5 * cs.length), .int 0], ?_, ⟨cs, 0, 0, _, 0, rfl, by decide, by decide, by omega, by decide, h⟩⟩
  rw [call_of (fn := t__law_hand) rfl rfl]
  simp only [rb_ok, rb_exc, rb_bad, rt_ok, rt_exc, sb_nx, sb_rt, sb_exc, ro_some, so_some, sh_val, sh_own, tvd_val, tvd_own, tvd_brw, cr_ok, cr_exc, ec_nx, ec_val, ec_own, ec_exc, ev_c, ev_v, ev_p, ev_q, rdSq_val, rdSq_lst, rdSl_val, rdSl_own, rdSv_val, rdSv_own, ev_tup, ev_lst, ev_dct, ev_bin, ev_neg, ev_not, ev_and, ev_or, ev_cmp, ev_cmp2, ev_ite, ev_idx, ev_slc, ev_call, ev_blt, ev_bli, ev_isi, ev_comp, ev_lam, evs_nil, evs_cons, evp_nil, evp_cons, evR_nil, evR_cons, evT_nil, evT_not, evT_and, evT_or, evT_tv, evO_nil, evO_tv, evI_rng, evI_tv, evSh_eq, compL_nil, compL_cons, ex_skip, ex_seq, ex_set, ex_unp, ex_par, ex_six, ex_app, kApp0_own, kApp_eq, kApp1_own, ex_ex, ex_ret, ex_if, ex_for, ex_wh, ex_rse0, ex_mkh, forL_nil, forL_cons, kRet_val, kRet_own, kAnd_bl, kOr_bl, kNeg_int, kOpt_int, putV_val, putV_own, putX_nil, putX_nm, kBli_val, kBli_own, kItm_val, kItm_own, kComp2_ok, kMkh_ok, gz, gs, st_env, st_hd, at0, at1, at2, at3, at4, pl1, pl2, pl3, pl4, eq_int, has0, ls0, ls1, ls2, ls3, ls4, typed_non, isTy_non_int, isTy_non_bool, isTy_non_str, isTy_non_tup, isTy_non_lst, isTy_non_dic, typed_bl, isTy_bl_int, isTy_bl_bool, isTy_bl_str, isTy_bl_tup, isTy_bl_lst, isTy_bl_dic, typed_int, isTy_int_int, isTy_int_bool, isTy_int_str, isTy_int_tup, isTy_int_lst, isTy_int_dic, typed_str, isTy_str_int, isTy_str_bool, isTy_str_str, isTy_str_tup, isTy_str_lst, isTy_str_dic, typed_tup, isTy_tup_int, isTy_tup_bool, isTy_tup_str, isTy_tup_tup, isTy_tup_lst, isTy_tup_dic, typed_lst, isTy_lst_int, isTy_lst_bool, isTy_lst_str, isTy_lst_tup, isTy_lst_lst, isTy_lst_dic, typed_dic, isTy_dic_int, isTy_dic_bool, isTy_dic_str, isTy_dic_tup, isTy_dic_lst, isTy_dic_dic, truth_non, truth_bl, truth_int, truth_tup, truth_lst, binD_add, binD_sub, binD_mul, binD_fdiv, binD_mod, binD_pow, binD_shl, addD_int, subD_int, mulD_int, fdivD_int, modD_int, addD_lst, addD_tup, cmpD_eq, cmpD_ne, cmpD_lt, cmpD_le, cmpD_gt, cmpD_ge, cmpD_is, cmpD_isN, cmpD_mem, cmpD_memN, ltC_int, leC_int, isC_bl, idxD_tup, idxD_lst, idxD_hnd, blt_len, blt_abs, blt_int, blt_min2, blt_max2, len1_tup, len1_lst, absD_int, intD_int, min2D_int, max2D_int, items_tup, items_lst, bli_all, bli_any, bli_sum, bli_tupL, bli_tupT, bools_nil, bools_cons, slc_scr, slc_tup, slc_lst, kDct_nil, kLam_exc, kUnp_two, ls5, ls6, tvb, kTup, kLst, kBin2, kBin, kNot, kCmp2, kCmp, kChn4, kChn3, kChn2, kChn, kIte, kIdx2, kIdx, kSlc2, kSlc, kCall, kBlt, kIsi, kSh, kComp, kCons3, kCons2, kCons, kPons2, kPons, kRons2, kRons, kTnot, kTand, kTor, kTru, kRng, kSet, kPar, kSix2, kSix, kEx, kIf, kFor, kWh2, kCmpL2, kCmpL1, kCmpL, kForS, List.set_cons_zero, List.set_cons_succ, List.any_cons, List.any_nil, Bool.or_false, Bool.or_true, Bool.not_true, Bool.not_false, Bool.true_and, Bool.false_and, Option.map_some, Option.map_none, Option.bind_some, Option.bind_none, if_true, if_false, Bool.false_eq_true, List.length_cons, List.length_nil, List.map_cons, List.map_nil, List.cons_append, List.nil_append, List.replicate_zero, List.replicate_succ, Nat.reduceSub, Nat.reduceAdd, Nat.reduceLT, Nat.reduceLeDiff, Int.reduceLT, Int.reduceLE, Int.reduceNeg, Int.reduceToNat, Int.reduceMul, Int.reduceAdd, Int.reducePow, reduceIte, List.length_map, decide_true, decide_false, Int.cast_ofNat_Int, Bool.and_true, Bool.and_false, Tg.slots, noOwn, List.all_cons, List.all_nil, Pf.wipe, Pf.restore, List.foldl_cons, List.foldl_nil, Pf.start, t__law_hand, slc_scr, e1]
  rw [e2]
  simp only [rb_ok, rb_exc, rb_bad, rt_ok, rt_exc, sb_nx, sb_rt, sb_exc, ro_some, so_some, sh_val, sh_own, tvd_val, tvd_own, tvd_brw, cr_ok, cr_exc, ec_nx, ec_val, ec_own, ec_exc, ev_c, ev_v, ev_p, ev_q, rdSq_val, rdSq_lst, rdSl_val, rdSl_own, rdSv_val, rdSv_own, ev_tup, ev_lst, ev_dct, ev_bin, ev_neg, ev_not, ev_and, ev_or, ev_cmp, ev_cmp2, ev_ite, ev_idx, ev_slc, ev_call, ev_blt, ev_bli, ev_isi, ev_comp, ev_lam, evs_nil, evs_cons, evp_nil, evp_cons, evR_nil, evR_cons, evT_nil, evT_not, evT_and, evT_or, evT_tv, evO_nil, evO_tv, evI_rng, evI_tv, evSh_eq, compL_nil, compL_cons, ex_skip, ex_seq, ex_set, ex_unp, ex_par, ex_six, ex_app, kApp0_own, kApp_eq, kApp1_own, ex_ex, ex_ret, ex_if, ex_for, ex_wh, ex_rse0, ex_mkh, forL_nil, forL_cons, kRet_val, kRet_own, kAnd_bl, kOr_bl, kNeg_int, kOpt_int, putV_val, putV_own, putX_nil, putX_nm, kBli_val, kBli_own, kItm_val, kItm_own, kComp2_ok, kMkh_ok, gz, gs, st_env, st_hd, at0, at1, at2, at3, at4, pl1, pl2, pl3, pl4, eq_int, has0, ls0, ls1, ls2, ls3, ls4, typed_non, isTy_non_int, isTy_non_bool, isTy_non_str, isTy_non_tup, isTy_non_lst, isTy_non_dic, typed_bl, isTy_bl_int, isTy_bl_bool, isTy_bl_str, isTy_bl_tup, isTy_bl_lst, isTy_bl_dic, typed_int, isTy_int_int, isTy_int_bool, isTy_int_str, isTy_int_tup, isTy_int_lst, isTy_int_dic, typed_str, isTy_str_int, isTy_str_bool, isTy_str_str, isTy_str_tup, isTy_str_lst, isTy_str_dic, typed_tup, isTy_tup_int, isTy_tup_bool, isTy_tup_str, isTy_tup_tup, isTy_tup_lst, isTy_tup_dic, typed_lst, isTy_lst_int, isTy_lst_bool, isTy_lst_str, isTy_lst_tup, isTy_lst_lst, isTy_lst_dic, typed_dic, isTy_dic_int, isTy_dic_bool, isTy_dic_str, isTy_dic_tup, isTy_dic_lst, isTy_dic_dic, truth_non, truth_bl, truth_int, truth_tup, truth_lst, binD_add, binD_sub, binD_mul, binD_fdiv, binD_mod, binD_pow, binD_shl, addD_int, subD_int, mulD_int, fdivD_int, modD_int, addD_lst, addD_tup, cmpD_eq, cmpD_ne, cmpD_lt, cmpD_le, cmpD_gt, cmpD_ge, cmpD_is, cmpD_isN, cmpD_mem, cmpD_memN, ltC_int, leC_int, isC_bl, idxD_tup, idxD_lst, idxD_hnd, blt_len, blt_abs, blt_int, blt_min2, blt_max2, len1_tup, len1_lst, absD_int, intD_int, min2D_int, max2D_int, items_tup, items_lst, bli_all, bli_any, bli_sum, bli_tupL, bli_tupT, bools_nil, bools_cons, slc_scr, slc_tup, slc_lst, kDct_nil, kLam_exc, kUnp_two, ls5, ls6, tvb, kTup, kLst, kBin2, kBin, kNot, kCmp2, kCmp, kChn4, kChn3, kChn2, kChn, kIte, kIdx2, kIdx, kSlc2, kSlc, kCall, kBlt, kIsi, kSh, kComp, kCons3, kCons2, kCons, kPons2, kPons, kRons2, kRons, kTnot, kTand, kTor, kTru, kRng, kSet, kPar, kSix2, kSix, kEx, kIf, kFor, kWh2, kCmpL2, kCmpL1, kCmpL, kForS, List.set_cons_zero, List.set_cons_succ, List.any_cons, List.any_nil, Bool.or_false, Bool.or_true, Bool.not_true, Bool.not_false, Bool.true_and, Bool.false_and, Option.map_some, Option.map_none, Option.bind_some, Option.bind_none, if_true, if_false, Bool.false_eq_true, List.length_cons, List.length_nil, List.map_cons, List.map_nil, List.cons_append, List.nil_append, List.replicate_zero, List.replicate_succ, Nat.reduceSub, Nat.reduceAdd, Nat.reduceLT, Nat.reduceLeDiff, Int.reduceLT, Int.reduceLE, Int.reduceNeg, Int.reduceToNat, Int.reduceMul, Int.reduceAdd, Int.reducePow, reduceIte, List.length_map, decide_true, decide_false, Int.cast_ofNat_Int, Bool.and_true, Bool.and_false, Tg.slots, noOwn, List.all_cons, List.all_nil, Pf.wipe, Pf.restore, List.foldl_cons, List.foldl_nil, Pf.start, q]
def lapBody : Pf.S := match t_law.body with
  | .seq _ (.seq _ (.seq _ (.seq (.fo _ _ b) _))) => b
  | s => s
theorem isN_tt : cmpD .isN (.bl true) (.bl true) = some false := rfl
theorem eq_six : eqD (.lst [.str "heats", .str "length", .str "which", .str "heats", .str "length", .str "row"]) (.lst [.str "heats", .str "length", .str "which", .str "heats", .str "length", .str "row"]) = some true := by decide +kernel
theorem w1 : T.word 0 1 = some ("heats" : Str) := rfl
theorem w2 : T.word 0 2 = some ("length" : Str) := rfl
theorem w3 : T.word 0 3 = some ("row" : Str) := rfl
theorem w4 : T.word 0 4 = some ("which" : Str) := rfl
theorem lap (x0 x2 x3 x4 x5 x6 x7 x8 : Pf.Slot) (h : List D) (hi : HI h) : ∃ y3 y4 y5 y6 y7 y8 h', ex ⟨callN T 11, T.ret, T.word⟩ lapBody ⟨[x0, .val .hnd, x2, x3, x4, x5, x6, x7, x8], some h⟩ = .nx ⟨[x0, .val .hnd, x2, y3, y4, y5, y6, y7, y8], some h'⟩ ∧ HI h' := by
  obtain ⟨hs, h1, e1, hh, i1⟩ := heats_s 7 h hi
  have e2 : callN T 11 6 [.tup (hs.map shD)] (some h1) = _ := are_heats_s 7 hs (some h1) hh
  obtain ⟨h2, e3, i2⟩ := right_s 3 hs hh h1 i1
  obtain ⟨bh, h3, e4, hbh, i3⟩ := no_heats_s 7 h2 i2
  obtain ⟨bl, h4, e5, hbl, i4⟩ := no_length_s 8 h3 i3
  obtain ⟨bw, h5, wm, e6, i5⟩ := any_s 9 h4 i4 [.int hs.length, .int (-1), .non, .bl true, .str "0"] (by simp) (by simp)
  obtain ⟨dp, h6, e7, hdp, i6⟩ := deep_s 8 h5 i5
  obtain ⟨br, h7, rm, e8, i7⟩ := any_s 9 h6 i6 [.non, .lst [.int 0], .tup [.int hs.length], .tup [.int (-1)], .tup [.bl true], .tup [.str "0"], .tup (List.replicate 13 (.int 0)), .int 0, .str "x", dp] (by simp) (by simp)
  have hbw : BadW hs.length bw := by
    simp only [List.mem_cons, List.not_mem_nil, or_false] at wm
    rcases wm with rfl | rfl | rfl | rfl | rfl
    · intro n hd
      have c : decide (((hs.length : Nat) : Int) ≤ (hs.length : Int) - 1) = false := decide_eq_false (by omega)
      rw [within, c, Bool.and_false]
    · intro n hd
      rw [within]; rfl
    · exact fun n hd => within_no n _ _ _ hd rfl rfl
    · exact fun n hd => within_no n _ _ _ hd rfl rfl
    · exact fun n hd => within_no n _ _ _ hd rfl rfl
  have hbr : BadR hs br := by
    simp only [List.mem_cons, List.not_mem_nil, or_false] at rm
    rcases rm with rfl | rfl | rfl | rfl | rfl | rfl | rfl | rfl | rfl | rfl
    · exact bad_row0 rfl rfl
    · exact bad_row0 rfl rfl
    · refine bad_row1 fun n hd => ?_
      have c : decide (((hs.length : Nat) : Int) ≤ (hs.length : Int) - 1) = false := decide_eq_false (by omega)
      rw [within, c, Bool.and_false]
    · refine bad_row1 fun n hd => ?_
      rw [within]; rfl
    · exact bad_row1 fun n hd => within_no n _ _ _ hd rfl rfl
    · exact bad_row1 fun n hd => within_no n _ _ _ hd rfl rfl
    · exact bad_row13
    · exact bad_row0 rfl rfl
    · exact bad_row0 rfl rfl
    · cases hdp with
      | str x => exact bad_row0 rfl rfl
      | lst q => exact bad_row0 rfl rfl
      | tup q => exact bad_row1 fun n hd => by cases q <;> exact within_no n _ _ _ hd rfl rfl
  have f1 : callN T 11 11 [bh, bl, bw] (some h7) = _ := at_noH 2 bh bl bw (some h7) hbh
  have f2 : callN T 11 11 [.tup (hs.map shD), bl, bw] (some h7) = _ := at_noL 4 hs bl bw (some h7) hh hbl
  have f3 : callN T 11 11 [.tup (hs.map shD), .int 5, bw] (some h7) = _ := at_noW 4 hs 5 bw (some h7) hh (by decide) (by decide) hbw
  have f4 : callN T 11 14 [bh, bl, br] (some h7) = _ := row_noH 2 bh bl br (some h7) hbh
  have f5 : callN T 11 14 [.tup (hs.map shD), bl, br] (some h7) = _ := row_noL 4 hs bl br (some h7) hh hbl
  have f6 : callN T 11 14 [.tup (hs.map shD), .int 5, br] (some h7) = _ := row_noR 4 hs 5 br (some h7) hh (by decide) (by decide) hbr
  have f7 : callN T 11 6 [bh] (some h7) = _ := hbh 5 (some h7)
  have m13 : mulD (.tup [.int 0]) (.int 13) = some (.val (.tup (List.replicate 13 (.int 0)))) := rfl
  have e3' : callN T 11 26 [.hnd, .tup (hs.map shD)] (some h1) = _ := e3
  refine ⟨.own (.lst [.str "heats", .str "length", .str "which", .str "heats", .str "length", .str "row"]), .val bl, .val (hsD hs), .val bh, .val br, .val bw, h7, ?_, i7⟩
  have e8' : callN T 11 17 [.hnd, .lst [.non, .lst [.int 0], .tup [.int hs.length], .tup [.int (-1)], .tup [.bl true], .tup [.str "0"], .tup [.int 0, .int 0, .int 0, .int 0, .int 0, .int 0, .int 0, .int 0, .int 0, .int 0, .int 0, .int 0, .int 0], .int 0, .str "x", dp]] (some h6) = .ok (.val br) (some h7) := e8
  have c1 : isC (.bl false) (.bl false) = some true := rfl
  unfold lapBody
  simp only [rb_ok, rb_exc, rb_bad, rt_ok, rt_exc, sb_nx, sb_rt, sb_exc, ro_some, so_some, sh_val, sh_own, tvd_val, tvd_own, tvd_brw, cr_ok, cr_exc, ec_nx, ec_val, ec_own, ec_exc, ev_c, ev_v, ev_p, ev_q, rdSq_val, rdSq_lst, rdSl_val, rdSl_own, rdSv_val, rdSv_own, ev_tup, ev_lst, ev_dct, ev_bin, ev_neg, ev_not, ev_and, ev_or, ev_cmp, ev_cmp2, ev_ite, ev_idx, ev_slc, ev_call, ev_blt, ev_bli, ev_isi, ev_comp, ev_lam, evs_nil, evs_cons, evp_nil, evp_cons, evR_nil, evR_cons, evT_nil, evT_not, evT_and, evT_or, evT_tv, evO_nil, evO_tv, evI_rng, evI_tv, evSh_eq, compL_nil, compL_cons, ex_skip, ex_seq, ex_set, ex_unp, ex_par, ex_six, ex_app, kApp0_own, kApp_eq, kApp1_own, ex_ex, ex_ret, ex_if, ex_for, ex_wh, ex_rse0, ex_mkh, forL_nil, forL_cons, kRet_val, kRet_own, kAnd_bl, kOr_bl, kNeg_int, kOpt_int, putV_val, putV_own, putX_nil, putX_nm, kBli_val, kBli_own, kItm_val, kItm_own, kComp2_ok, kMkh_ok, gz, gs, st_env, st_hd, at0, at1, at2, at3, at4, pl1, pl2, pl3, pl4, eq_int, has0, ls0, ls1, ls2, ls3, ls4, typed_non, isTy_non_int, isTy_non_bool, isTy_non_str, isTy_non_tup, isTy_non_lst, isTy_non_dic, typed_bl, isTy_bl_int, isTy_bl_bool, isTy_bl_str, isTy_bl_tup, isTy_bl_lst, isTy_bl_dic, typed_int, isTy_int_int, isTy_int_bool, isTy_int_str, isTy_int_tup, isTy_int_lst, isTy_int_dic, typed_str, isTy_str_int, isTy_str_bool, isTy_str_str, isTy_str_tup, isTy_str_lst, isTy_str_dic, typed_tup, isTy_tup_int, isTy_tup_bool, isTy_tup_str, isTy_tup_tup, isTy_tup_lst, isTy_tup_dic, typed_lst, isTy_lst_int, isTy_lst_bool, isTy_lst_str, isTy_lst_tup, isTy_lst_lst, isTy_lst_dic, typed_dic, isTy_dic_int, isTy_dic_bool, isTy_dic_str, isTy_dic_tup, isTy_dic_lst, isTy_dic_dic, truth_non, truth_bl, truth_int, truth_tup, truth_lst, binD_add, binD_sub, binD_mul, binD_fdiv, binD_mod, binD_pow, binD_shl, addD_int, subD_int, mulD_int, fdivD_int, modD_int, addD_lst, addD_tup, cmpD_eq, cmpD_ne, cmpD_lt, cmpD_le, cmpD_gt, cmpD_ge, cmpD_is, cmpD_isN, cmpD_mem, cmpD_memN, ltC_int, leC_int, isC_bl, idxD_tup, idxD_lst, idxD_hnd, blt_len, blt_abs, blt_int, blt_min2, blt_max2, len1_tup, len1_lst, absD_int, intD_int, min2D_int, max2D_int, items_tup, items_lst, bli_all, bli_any, bli_sum, bli_tupL, bli_tupT, bools_nil, bools_cons, slc_scr, slc_tup, slc_lst, kDct_nil, kLam_exc, kUnp_two, ls5, ls6, tvb, kTup, kLst, kBin2, kBin, kNot, kCmp2, kCmp, kChn4, kChn3, kChn2, kChn, kIte, kIdx2, kIdx, kSlc2, kSlc, kCall, kBlt, kIsi, kSh, kComp, kCons3, kCons2, kCons, kPons2, kPons, kRons2, kRons, kTnot, kTand, kTor, kTru, kRng, kSet, kPar, kSix2, kSix, kEx, kIf, kFor, kWh2, kCmpL2, kCmpL1, kCmpL, kForS, List.set_cons_zero, List.set_cons_succ, List.any_cons, List.any_nil, Bool.or_false, Bool.or_true, Bool.not_true, Bool.not_false, Bool.true_and, Bool.false_and, Option.map_some, Option.map_none, Option.bind_some, Option.bind_none, if_true, if_false, Bool.false_eq_true, List.length_cons, List.length_nil, List.map_cons, List.map_nil, List.cons_append, List.nil_append, List.replicate_zero, List.replicate_succ, Nat.reduceSub, Nat.reduceAdd, Nat.reduceLT, Nat.reduceLeDiff, Int.reduceLT, Int.reduceLE, Int.reduceNeg, Int.reduceToNat, Int.reduceMul, Int.reduceAdd, Int.reducePow, reduceIte, List.length_map, decide_true, decide_false, Int.cast_ofNat_Int, Bool.and_true, Bool.and_false, Tg.slots, noOwn, List.all_cons, List.all_nil, Pf.wipe, Pf.restore, List.foldl_cons, List.foldl_nil, Pf.start, t_law, e1, hsD, e2, isN_tt, e3', e4, e5, kUnp_two, e6, m13, e7, e8', kLam_exc, w1, w2, w3, w4, f1, f2, f3, f4, f5, f6, f7, eq_six, c1]
theorem laps (x0 : Pf.Slot) : ∀ (ds : List D) (x2 x3 x4 x5 x6 x7 x8 : Pf.Slot) (h : List D), HI h → ∃ env h', forL (.nm 2) (ex ⟨callN T 11, T.ret, T.word⟩ lapBody) ds ⟨[x0, .val .hnd, x2, x3, x4, x5, x6, x7, x8], some h⟩ = .nx ⟨env, some h'⟩
  | [], x2, x3, x4, x5, x6, x7, x8, h, hi => ⟨_, h, rfl⟩
  | d :: ds, x2, x3, x4, x5, x6, x7, x8, h, hi => by
    obtain ⟨y3, y4, y5, y6, y7, y8, h1, e1, i1⟩ := lap x0 (.val d) x3 x4 x5 x6 x7 x8 h hi
    obtain ⟨env, h2, e2⟩ := laps x0 ds (.val d) y3 y4 y5 y6 y7 y8 h1 i1
    refine ⟨env, h2, ?_⟩
    rw [forL_cons]
    show ((ex _ lapBody ⟨[x0, .val .hnd, .val d, x3, x4, x5, x6, x7, x8], some h⟩).bind _) = _
    rw [e1, ← e2]; rfl
theorem fix1 (hd) : callN T 11 11 [.tup [.tup [.int 2, .int 3]], .int 10, .int 0] hd = .ok (.val (.int 6)) hd := by
  have := at_s 4 [(2, 3)] 10 0 (2, 3) hd ⟨by decide, by decide, fun x hx => by rw [List.mem_singleton.mp hx]; exact ⟨by decide, by decide, by decide, by decide⟩⟩ (by decide) (by decide) (by decide) (by decide) rfl ⟨by decide, by decide, by decide, by decide⟩
  exact this
theorem fix2 (hd) : callN T 11 11 [.tup [.tup [.int 1, .int 5]], .int 3, .int 0] hd = .ok (.val (.int 1)) hd := by
  have := at_s 4 [(1, 5)] 3 0 (1, 5) hd ⟨by decide, by decide, fun x hx => by rw [List.mem_singleton.mp hx]; exact ⟨by decide, by decide, by decide, by decide⟩⟩ (by decide) (by decide) (by decide) (by decide) rfl ⟨by decide, by decide, by decide, by decide⟩
  exact this
theorem fix3 (hd) : callN T 11 14 [.tup [.tup [.int 1, .int 2], .tup [.int 1, .int 1]], .int 20, .tup [.int 0, .int 1, .int 0]] hd = .ok (.val (.int 5)) hd := by
  have := row_s 4 [(1, 2), (1, 1)] 20 [0, 1, 0] hd ⟨by decide, by decide, fun x hx => by
    simp only [or_false, List.not_mem_nil, List.mem_cons] at hx
    rcases hx with rfl | rfl
    · exact ⟨by decide, by decide, by decide, by decide⟩
    · exact ⟨by decide, by decide, by decide, by decide⟩⟩ (by decide) (by decide) ⟨by decide, fun w hw => by
    simp only [List.mem_cons, List.not_mem_nil, or_false] at hw
    rcases hw with rfl | rfl | rfl <;> exact ⟨by decide, by decide⟩⟩
  exact this
theorem law_ok (ns : List Int) (hl : ns.length ≤ 63) (hb : ∀ z ∈ ns, Builtin.Int.intBits z ≤ 1048576) : ∃ hd', callN T 12 27 [.scr (ns.map D.int)] none = .ok (.val (.bl true)) hd' := by
  obtain ⟨h, e1, hi⟩ := hand_s 10 ns
  obtain ⟨env, h', e2⟩ := laps (.val (.scr (ns.map .int))) (rngN 0 1 10) .un .un .un .un .un .un .un h hi
  refine ⟨some h', ?_⟩
  have er : rngD [.int 10] = some (rngN 0 1 10) := rfl
  unfold lapBody at e2
  rw [call_of (fn := t_law) rfl rfl]
  simp only [rb_ok, rb_exc, rb_bad, rt_ok, rt_exc, sb_nx, sb_rt, sb_exc, ro_some, so_some, sh_val, sh_own, tvd_val, tvd_own, tvd_brw, cr_ok, cr_exc, ec_nx, ec_val, ec_own, ec_exc, ev_c, ev_v, ev_p, ev_q, rdSq_val, rdSq_lst, rdSl_val, rdSl_own, rdSv_val, rdSv_own, ev_tup, ev_lst, ev_dct, ev_bin, ev_neg, ev_not, ev_and, ev_or, ev_cmp, ev_cmp2, ev_ite, ev_idx, ev_slc, ev_call, ev_blt, ev_bli, ev_isi, ev_comp, ev_lam, evs_nil, evs_cons, evp_nil, evp_cons, evR_nil, evR_cons, evT_nil, evT_not, evT_and, evT_or, evT_tv, evO_nil, evO_tv, evI_rng, evI_tv, evSh_eq, compL_nil, compL_cons, ex_skip, ex_seq, ex_set, ex_unp, ex_par, ex_six, ex_app, kApp0_own, kApp_eq, kApp1_own, ex_ex, ex_ret, ex_if, ex_for, ex_wh, ex_rse0, ex_mkh, forL_nil, forL_cons, kRet_val, kRet_own, kAnd_bl, kOr_bl, kNeg_int, kOpt_int, putV_val, putV_own, putX_nil, putX_nm, kBli_val, kBli_own, kItm_val, kItm_own, kComp2_ok, kMkh_ok, gz, gs, st_env, st_hd, at0, at1, at2, at3, at4, pl1, pl2, pl3, pl4, eq_int, has0, ls0, ls1, ls2, ls3, ls4, typed_non, isTy_non_int, isTy_non_bool, isTy_non_str, isTy_non_tup, isTy_non_lst, isTy_non_dic, typed_bl, isTy_bl_int, isTy_bl_bool, isTy_bl_str, isTy_bl_tup, isTy_bl_lst, isTy_bl_dic, typed_int, isTy_int_int, isTy_int_bool, isTy_int_str, isTy_int_tup, isTy_int_lst, isTy_int_dic, typed_str, isTy_str_int, isTy_str_bool, isTy_str_str, isTy_str_tup, isTy_str_lst, isTy_str_dic, typed_tup, isTy_tup_int, isTy_tup_bool, isTy_tup_str, isTy_tup_tup, isTy_tup_lst, isTy_tup_dic, typed_lst, isTy_lst_int, isTy_lst_bool, isTy_lst_str, isTy_lst_tup, isTy_lst_lst, isTy_lst_dic, typed_dic, isTy_dic_int, isTy_dic_bool, isTy_dic_str, isTy_dic_tup, isTy_dic_lst, isTy_dic_dic, truth_non, truth_bl, truth_int, truth_tup, truth_lst, binD_add, binD_sub, binD_mul, binD_fdiv, binD_mod, binD_pow, binD_shl, addD_int, subD_int, mulD_int, fdivD_int, modD_int, addD_lst, addD_tup, cmpD_eq, cmpD_ne, cmpD_lt, cmpD_le, cmpD_gt, cmpD_ge, cmpD_is, cmpD_isN, cmpD_mem, cmpD_memN, ltC_int, leC_int, isC_bl, idxD_tup, idxD_lst, idxD_hnd, blt_len, blt_abs, blt_int, blt_min2, blt_max2, len1_tup, len1_lst, absD_int, intD_int, min2D_int, max2D_int, items_tup, items_lst, bli_all, bli_any, bli_sum, bli_tupL, bli_tupT, bools_nil, bools_cons, slc_scr, slc_tup, slc_lst, kDct_nil, kLam_exc, kUnp_two, ls5, ls6, tvb, kTup, kLst, kBin2, kBin, kNot, kCmp2, kCmp, kChn4, kChn3, kChn2, kChn, kIte, kIdx2, kIdx, kSlc2, kSlc, kCall, kBlt, kIsi, kSh, kComp, kCons3, kCons2, kCons, kPons2, kPons, kRons2, kRons, kTnot, kTand, kTor, kTru, kRng, kSet, kPar, kSix2, kSix, kEx, kIf, kFor, kWh2, kCmpL2, kCmpL1, kCmpL, kForS, List.set_cons_zero, List.set_cons_succ, List.any_cons, List.any_nil, Bool.or_false, Bool.or_true, Bool.not_true, Bool.not_false, Bool.true_and, Bool.false_and, Option.map_some, Option.map_none, Option.bind_some, Option.bind_none, if_true, if_false, Bool.false_eq_true, List.length_cons, List.length_nil, List.map_cons, List.map_nil, List.cons_append, List.nil_append, List.replicate_zero, List.replicate_succ, Nat.reduceSub, Nat.reduceAdd, Nat.reduceLT, Nat.reduceLeDiff, Int.reduceLT, Int.reduceLE, Int.reduceNeg, Int.reduceToNat, Int.reduceMul, Int.reduceAdd, Int.reducePow, reduceIte, List.length_map, decide_true, decide_false, Int.cast_ofNat_Int, Bool.and_true, Bool.and_false, Tg.slots, noOwn, List.all_cons, List.all_nil, Pf.wipe, Pf.restore, List.foldl_cons, List.foldl_nil, Pf.start, t_law, e1, fix1, fix2, fix3, eq_int, er] at e2 ⊢
  rw [e2]
  simp only [rb_ok, rb_exc, rb_bad, rt_ok, rt_exc, sb_nx, sb_rt, sb_exc, ro_some, so_some, sh_val, sh_own, tvd_val, tvd_own, tvd_brw, cr_ok, cr_exc, ec_nx, ec_val, ec_own, ec_exc, ev_c, ev_v, ev_p, ev_q, rdSq_val, rdSq_lst, rdSl_val, rdSl_own, rdSv_val, rdSv_own, ev_tup, ev_lst, ev_dct, ev_bin, ev_neg, ev_not, ev_and, ev_or, ev_cmp, ev_cmp2, ev_ite, ev_idx, ev_slc, ev_call, ev_blt, ev_bli, ev_isi, ev_comp, ev_lam, evs_nil, evs_cons, evp_nil, evp_cons, evR_nil, evR_cons, evT_nil, evT_not, evT_and, evT_or, evT_tv, evO_nil, evO_tv, evI_rng, evI_tv, evSh_eq, compL_nil, compL_cons, ex_skip, ex_seq, ex_set, ex_unp, ex_par, ex_six, ex_app, kApp0_own, kApp_eq, kApp1_own, ex_ex, ex_ret, ex_if, ex_for, ex_wh, ex_rse0, ex_mkh, forL_nil, forL_cons, kRet_val, kRet_own, kAnd_bl, kOr_bl, kNeg_int, kOpt_int, putV_val, putV_own, putX_nil, putX_nm, kBli_val, kBli_own, kItm_val, kItm_own, kComp2_ok, kMkh_ok, gz, gs, st_env, st_hd, at0, at1, at2, at3, at4, pl1, pl2, pl3, pl4, eq_int, has0, ls0, ls1, ls2, ls3, ls4, typed_non, isTy_non_int, isTy_non_bool, isTy_non_str, isTy_non_tup, isTy_non_lst, isTy_non_dic, typed_bl, isTy_bl_int, isTy_bl_bool, isTy_bl_str, isTy_bl_tup, isTy_bl_lst, isTy_bl_dic, typed_int, isTy_int_int, isTy_int_bool, isTy_int_str, isTy_int_tup, isTy_int_lst, isTy_int_dic, typed_str, isTy_str_int, isTy_str_bool, isTy_str_str, isTy_str_tup, isTy_str_lst, isTy_str_dic, typed_tup, isTy_tup_int, isTy_tup_bool, isTy_tup_str, isTy_tup_tup, isTy_tup_lst, isTy_tup_dic, typed_lst, isTy_lst_int, isTy_lst_bool, isTy_lst_str, isTy_lst_tup, isTy_lst_lst, isTy_lst_dic, typed_dic, isTy_dic_int, isTy_dic_bool, isTy_dic_str, isTy_dic_tup, isTy_dic_lst, isTy_dic_dic, truth_non, truth_bl, truth_int, truth_tup, truth_lst, binD_add, binD_sub, binD_mul, binD_fdiv, binD_mod, binD_pow, binD_shl, addD_int, subD_int, mulD_int, fdivD_int, modD_int, addD_lst, addD_tup, cmpD_eq, cmpD_ne, cmpD_lt, cmpD_le, cmpD_gt, cmpD_ge, cmpD_is, cmpD_isN, cmpD_mem, cmpD_memN, ltC_int, leC_int, isC_bl, idxD_tup, idxD_lst, idxD_hnd, blt_len, blt_abs, blt_int, blt_min2, blt_max2, len1_tup, len1_lst, absD_int, intD_int, min2D_int, max2D_int, items_tup, items_lst, bli_all, bli_any, bli_sum, bli_tupL, bli_tupT, bools_nil, bools_cons, slc_scr, slc_tup, slc_lst, kDct_nil, kLam_exc, kUnp_two, ls5, ls6, tvb, kTup, kLst, kBin2, kBin, kNot, kCmp2, kCmp, kChn4, kChn3, kChn2, kChn, kIte, kIdx2, kIdx, kSlc2, kSlc, kCall, kBlt, kIsi, kSh, kComp, kCons3, kCons2, kCons, kPons2, kPons, kRons2, kRons, kTnot, kTand, kTor, kTru, kRng, kSet, kPar, kSix2, kSix, kEx, kIf, kFor, kWh2, kCmpL2, kCmpL1, kCmpL, kForS, List.set_cons_zero, List.set_cons_succ, List.any_cons, List.any_nil, Bool.or_false, Bool.or_true, Bool.not_true, Bool.not_false, Bool.true_and, Bool.false_and, Option.map_some, Option.map_none, Option.bind_some, Option.bind_none, if_true, if_false, Bool.false_eq_true, List.length_cons, List.length_nil, List.map_cons, List.map_nil, List.cons_append, List.nil_append, List.replicate_zero, List.replicate_succ, Nat.reduceSub, Nat.reduceAdd, Nat.reduceLT, Nat.reduceLeDiff, Int.reduceLT, Int.reduceLE, Int.reduceNeg, Int.reduceToNat, Int.reduceMul, Int.reduceAdd, Int.reducePow, reduceIte, List.length_map, decide_true, decide_false, Int.cast_ofNat_Int, Bool.and_true, Bool.and_false, Tg.slots, noOwn, List.all_cons, List.all_nil, Pf.wipe, Pf.restore, List.foldl_cons, List.foldl_nil, Pf.start]
end L_k77
namespace L_k77
open PySem PySem.Spec PyProof.Rows L2 Pf
def cats : List (Str × Stmt) := [(("_law_said" : Str), top 39)]
def sub : Nat → Nat → Bool := fun k j => k == j || j == 0
theorem good : Good tx cats sub where
  ds := by
    have h : (tx.ds.all fun d => Df.ok tx d) = true := by decide +kernel
    exact fun d hd => List.all_eq_true.mp h d hd
  ks := rfl
  cs := rfl
  cat := fun k c h => by
    match k, h with
    | 0, h => cases h; decide +kernel
    | k + 1, h => cases h
  word := fun k c s h => by
    show c < 5
    unfold tx word at h
    dsimp only at h
    split at h <;> first | omega | cases h
  lm1 := by decide +kernel
def fa : List He.Fa := tx.faH cats
def fn : List He.DefD := tx.fnH cats
def tf : List He.Defn := tx.tfH
def ex : PySem.W.Frag → Bool := tx.exH sub
abbrev hk : PySem.W.Hook := He.hookX 4 fa fn [] tf ex
def ob (s : PySem.W.SharedT) : He.AlX := He.obsX 4 fa fn [] tf ex (HandSHeadRun.getT s)
theorem ob_eq (s : PySem.W.SharedT) : ob s = hk.obs s.abs := He.obsX_eq (HandSHeadRun.getT_eq s)
abbrev R : PySem.W.OpenRow := PySem.W.OpenLaw.row PySem.Challenge.rw_washhouse_k77_whole_lengths_behind_washe
def loose : List Str := (["is_integer", "is_within", "is_sized", "WashError", "NoHeats", "NoLength", "NoRow", "NoWhich", "common", "is_share", "MOST_LENGTH", "MOST_HEATS", "MOST_ROW", "is_keeping", "are_heats", "check_heats", "check_length", "check_both", "washed", "washed_at"] : List Str) ++
  (["check_row", "led", "behind_row", "_law_hand", "_law_draw", "_law_any", "_law_low", "_law_deep", "_law_share", "_law_heats", "_law_once", "_law_behind", "_law_no_heats", "_law_no_length", "_law_said", "_law_is_right"] : List Str)
theorem run (w : PySem.World) : HandSHeadRun.RunEq R (PySem.W.view R.prog [41]) hk ob 20000 loose w := by
  intro os
  kernel_rfl
end L_k77
namespace L_k77
open PySem PySem.Spec PyProof.Rows L2 Pf
theorem dic (K : PySem.W.Frag) : ∀ X' : Cx, X'.K = K → X'.A.units + 64 < cLine → IxDic X' (tx.wd K) ∧ SetDic X' (tx.wd K) := fun X' hK hu => ⟨ix_dic (w := tx.wd K) hK hu, set_dic (w := tx.wd K) hK hu⟩
end L_k77
open PySem PySem.W PySem.Calls PyProof.Rows
theorem PySem.Challenge.cw_washhouse_k77_whole_lengths_behind_washe_holds : PySem.Challenge.rw_washhouse_k77_whole_lengths_behind_washe.Holds := by
  w_on; o_law
  refine HandSHeadRun.head_any (r := OpenLaw.row PySem.Challenge.rw_washhouse_k77_whole_lengths_behind_washe) (q := view (OpenLaw.row PySem.Challenge.rw_washhouse_k77_whole_lengths_behind_washe).prog [41]) (H := L_k77.hk) (ob := L_k77.ob) (M := 20000) (loose := L_k77.loose) (d := HandSHeadRun.topDef (OpenLaw.row PySem.Challenge.rw_washhouse_k77_whole_lengths_behind_washe).prog 41) (kwd := []) L_k77.ob_eq
    (by kernel_rfl) (fun s => by kernel_rfl) L_k77.run (by kernel_rfl) (by kernel_rfl) (by kernel_rfl) (by rfl) (by first | assumption | decide +kernel) (by decide +kernel) ⟨rfl, rfl, rfl, rfl, rfl, by decide +kernel⟩ ?hw ?hc
  case hw => w_witness2
  case hc =>
    refine LamX.walk_ofTsE (l := PySem.Challenge.rw_washhouse_k77_whole_lengths_behind_washe) (n := 63) (k := 3 * 12) (x := "script") (CX := fun w => L2.CX PySem.Challenge.pw_washhouse_k77_whole_lengths_behind_washe w) rfl (by decide) (by kernel_rfl) ⟨rfl, by decide, by decide⟩ ?F (fun _ _ _ _ _ h => by
      rcases h with ⟨_, _, _, _, _, _, _, _, _, _, _, _, z⟩
      exact z.elim)
    intro w mg fa h Y G hmg0
    obtain ⟨K, KX, c⟩ := Y
    have hmg : mg (L_k77.d_law).name = some (.ref fa) := by
      have e : (HandSHeadRun.topDef (OpenLaw.row PySem.Challenge.rw_washhouse_k77_whole_lengths_behind_washe).prog 41).name = (L_k77.d_law).name := by kernel_rfl
      rw [← e]
      exact hmg0
    exact ⟨K, KX, Pf.lawAt (iL := 27) (d0 := L_k77.d_law) KX G hmg c L_k77.good rfl (by decide +kernel) (by decide) (L_k77.dic K) L_k77.law_ok⟩
