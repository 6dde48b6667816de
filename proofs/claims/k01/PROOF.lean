import PyProof.Rows.All
import Wide.All
import OpenK.AllK
import Wide.FinOn
import HandS.ForMost
import HandS.Exc
import HandS.TupAny
import HandS.Deep
import HandS.TupMul
import HandS.Wide
import HandS.IsInst
import HandS.Conv
import HandS.Style
import HandS.Flow
import HandS.Small
import HandS.Comp
import HandS.ExcOwn
import HandS.WordsExc
import HandS.SetKeys
import HandS.SetBool
import HandS.Strs
import KE.GoesMore
import PyProof.Draws
import HandS.Iter
import PyProof.SeqIndex
import HandS.SetFor
import KE.KDictSum
import PyProof.Rows.FactsN_isinstance
import PyProof.FactsAll.list_0
import PyProof.FactsAll.list_3
import PySem.Challenge.RW_samestory_k01_facts_of_stories
set_option Elab.async false
set_option linter.all false
set_option maxRecDepth 100000
set_option maxHeartbeats 4000000
namespace Mi

/-- data: what a Python value is, as far as it does not change; ref: an object that may change, by its place in the store -/
inductive D where
  | non | bl (b : Bool) | int (i : Int) | str (s : List Nat)
  | tup (l : List D) | lst (l : List D) | dic (l : List (D × D)) | set (l : List D)
  | ref (n : Nat)
  deriving Inhabited

mutual
def D.pure : D → Bool
  | .ref _ => false
  | .tup l => D.pures l
  | .lst l => D.pures l
  | .dic l => D.pureps l
  | .set l => D.pures l
  | _ => true
def D.pures : List D → Bool
  | [] => true
  | d :: r => D.pure d && D.pures r
def D.pureps : List (D × D) → Bool
  | [] => true
  | (k, v) :: r => D.pure k && D.pure v && D.pureps r
end
mutual
def D.lt (m : Nat) : D → Bool
  | .ref n => decide (n < m)
  | .tup l => D.lts m l
  | .lst l => D.lts m l
  | .dic l => D.ltps m l
  | .set l => D.lts m l
  | _ => true
def D.lts (m : Nat) : List D → Bool
  | [] => true
  | d :: r => D.lt m d && D.lts m r
def D.ltps (m : Nat) : List (D × D) → Bool
  | [] => true
  | (k, v) :: r => D.lt m k && D.lt m v && D.ltps m r
end

/-- an object of the store -/
inductive MO where
  | dead
  | lst (l : List D)
  | dic (l : List (D × D))
  | dct (l : List (D × D))
  | ins (c : Nat) (fs : List (Nat × D))
  | lck (o : MO)
  deriving Inhabited
abbrev Sto := List MO
def MO.here : MO → MO
  | .lck o => o
  | o => o

structure Xn where
  cls : Nat
  args : List D
  deriving Inhabited

inductive Rs (α : Type) where
  | ok (a : α) (S : Sto)
  | ex (x : Xn) (S : Sto)
  | no
def Rs.to {α β : Type} (r : Rs α) (k : α → Sto → Rs β) : Rs β :=
  match r with
  | .ok a S => k a S
  | .ex x S => .ex x S
  | .no => .no

inductive BOp where
  | add | sub | mul | fdiv | mod | pow | shl | shr | band | bor
  deriving DecidableEq
inductive COp where
  | eq | ne | lt | le | gt | ge | is | isnot | mem | nmem
  deriving DecidableEq
inductive Ty where
  | int | bool | str | tuple | list | dict
  deriving DecidableEq

/-- the built-in functions and methods -/
inductive Pr where
  | len | int | abs | min2 | max2 | tuple | list (m : Bool) | isinst (t : Ty) | sorted (m : Bool)
  | sum | sortset (m : Bool) | sortd (m : Bool)
  | append | extend | pop | popi
  | count | index | tcount | tindex
  deriving DecidableEq

mutual
inductive E where
  | lit (d : D)
  | var (i : Nat)
  | gl (x : Nat)
  | bin (op : BOp) (a b : E)
  | neg (a : E)
  | not (a : E)
  | cmp (op : COp) (a b : E)
  | chain (o1 o2 : COp) (a b c : E)
  | and (es : List E)
  | or (es : List E)
  | ite (c a b : E)
  | tup (es : List E)
  | lst (m : Bool) (es : List E)
  | dic (m : Bool) (kvs : List E)
  | dct
  | get (o : E) (es : List E)
  | ix (a i : E)
  | sl (a : E) (lo hi : Option E)
  | rev (m : Bool) (a : E)
  | cpy (a : E) (lo hi : Option E)
  | call (f : Nat) (es : List E)
  | callk (f : Nat) (perm : List Nat) (es ks : List E)
  | rng (k : Nat) (es : List E)
  | pri (f : Pr) (es : List E)
  | met (f : Pr) (o : E) (es : List E)
  | slm (f : Pr) (a : E) (lo hi : Option E) (x : E)
  | lc (m : Bool) (own : List Nat) (elt : E) (gens : List G)
  | sset (m : Bool) (own : List Nat) (elt : E) (gens : List G)
  | nset (own : List Nat) (elt : E) (gens : List G)
  | mk (c : Nat) (es : List E)
  | mth (m : Nat) (o : E) (es : List E)
  | att (o : E) (f : Nat)
  | frz (e : E)
/-- a clause of a comprehension -/
inductive G where
  | mk (t : T) (i : I) (ifs : List E)
/-- what is walked -/
inductive I where
  | e (e : E)
  | range (es : List E)
  | enum (e : E)
  | keys (e : E)
  | items (e : E)
  | values (e : E)
/-- a target -/
inductive T where
  | var (i : Nat)
  | tup (l : List T)
  | sub (a i : E)
  | att (o : E) (f : Nat)
end
instance : Inhabited E := ⟨.lit .non⟩

inductive St where
  | asg (t : T) (e : E)
  | asgc (i : Nat) (m : Bool) (own : List Nat) (elt : E) (gens : List G)
  | par (is : List Nat) (es : List E)
  | aug (op : BOp) (i : Nat) (e : E)
  | expr (e : E)
  | iff (c : E) (a b : List St)
  | fr (t : T) (i : I) (b : List St)
  | whl (c : E) (b : List St)
  | ret (e : Option E)
  | brk | cnt | pass
  | frz (i : Nat)
instance : Inhabited St := ⟨.pass⟩

/-! ### values -/
def sizeLim : Nat := 16777216
def D.val (S : Sto) : D → D
  | .ref n => match S[n]? with
    | some o => match o.here with
      | .lst l => .lst l
      | .dic l => .dic l
      | _ => .ref n
    | none => .ref n
  | d => d
def truth (S : Sto) (d : D) : Option Bool :=
  match d with
  | .dic _ => none
  | d => match d.val S with
  | .non => some false
  | .bl b => some b
  | .int i => some (i != 0)
  | .str s => if s.length ≤ sizeLim then some (!s.isEmpty) else none
  | .tup l => some (!l.isEmpty)
  | .lst l => some (!l.isEmpty)
  | .dic l => some (!l.isEmpty)
  | _ => none
def b2i (b : Bool) : Int := if b then 1 else 0
mutual
/-- == of data (of dicts, sets, objects: not asked) -/
def D.eq : D → D → Bool
  | .non, .non => true
  | .bl a, .bl b => a == b
  | .bl a, .int j => b2i a == j
  | .int i, .bl b => i == b2i b
  | .int i, .int j => i == j
  | .str a, .str b => a == b
  | .tup a, .tup b => D.eqs a b
  | .lst a, .lst b => D.eqs a b
  | _, _ => false
def D.eqs : List D → List D → Bool
  | [], [] => true
  | a :: r, b :: t => D.eq a b && D.eqs r t
  | _, _ => false
end
mutual
/-- data that == tells apart, at most k deep -/
def D.dat (k : Nat) : D → Bool
  | .tup l => match k with
    | 0 => false
    | j + 1 => D.dats j l
  | .lst l => match k with
    | 0 => false
    | j + 1 => D.dats j l
  | .dic _ => false
  | .set _ => false
  | .ref _ => false
  | _ => true
def D.dats (k : Nat) : List D → Bool
  | [] => true
  | d :: r => D.dat k d && D.dats k r
end
def memD (x : D) (l : List D) : Bool := l.any fun d => D.eq d x
def memO (x : D) (l : List D) : Option Bool := if x.dat 40 && D.dats 40 l then some (memD x l) else none
/-- the same key: ints, texts -/
def keyEq : D → D → Bool
  | .int i, .int j => i == j
  | .str a, .str b => a == b
  | _, _ => false
def getD (k : D) : List (D × D) → Option D
  | [] => none
  | (a, v) :: r => if keyEq a k then some v else getD k r
def putD (k v : D) (l : List (D × D)) : List (D × D) := if l.any (fun p => keyEq p.1 k) then l.map (fun p => if keyEq p.1 k then (p.1, v) else p) else l ++ [(k, v)]
/-- a key of a dict -/
def isKey : D → Bool
  | .int _ => true
  | .str _ => true
  | _ => false
def rets (r : Option D) (S : Sto) : Rs D := match r with
  | some d => .ok d S
  | none => .no
def retb (r : Option Bool) (S : Sto) : Rs D := match r with
  | some b => .ok (.bl b) S
  | none => .no

def mulOk (i j : Int) : Bool := (decide (-(2 ^ 64) < i) && decide (i < 2 ^ 64)) || (decide (-(2 ^ 64) < j) && decide (j < 2 ^ 64))
def binop (op : BOp) (a b : D) : Option D :=
  match op, a, b with
  | .add, .int i, .int j => some (.int (i + j))
  | .sub, .int i, .int j => some (.int (i - j))
  | .mul, .int i, .int j => if mulOk i j then some (.int (i * j)) else none
  | .fdiv, .int i, .int j => if 0 < j ∧ j < 18446744073709551616 then some (.int (i / j)) else none
  | .mod, .int i, .int j => if 0 < j then some (.int (i % j)) else none
  | .pow, .int i, .int j => if 0 ≤ j ∧ j ≤ 1000000 ∧ i.natAbs < 2 ^ 64 then some (.int (i ^ j.toNat)) else none
  | .shl, .int i, .int j => if 0 ≤ j ∧ j ≤ 1000000 ∧ i.natAbs < 2 ^ 64 then some (.int (i * 2 ^ j.toNat)) else none
  | .shr, .int i, .int j => if 0 ≤ j then some (.int (i / 2 ^ j.toNat)) else none
  | .add, .str x, .str y => if x.length + y.length ≤ sizeLim then some (.str (x ++ y)) else none
  | .add, .tup x, .tup y => if x.length + y.length ≤ sizeLim then some (.tup (x ++ y)) else none
  | .add, .lst x, .lst y => if x.length + y.length ≤ sizeLim then some (.lst (x ++ y)) else none
  | .mul, .tup x, .int j => if x.isEmpty = false ∧ 2 ≤ j ∧ j ≤ 1000 ∧ x.length ≤ 1000 then some (.tup (List.replicate j.toNat x).flatten) else none
  | _, _, _ => none
def cmpop (op : COp) (a b : D) : Option Bool :=
  match op with
  | .eq => if a.dat 40 && b.dat 40 then some (D.eq a b) else none
  | .ne => if a.dat 40 && b.dat 40 then some (!D.eq a b) else none
  | .is => match b with
    | .non => match a with
      | .non => some true
      | _ => some false
    | _ => none
  | .isnot => match b with
    | .non => match a with
      | .non => some false
      | _ => some true
    | _ => none
  | .lt => match a, b with
    | .int i, .int j => some (decide (i < j))
    | .str x, .str y => some (decide (x < y))
    | _, _ => none
  | .le => match a, b with
    | .int i, .int j => some (decide (i ≤ j))
    | _, _ => none
  | .gt => match a, b with
    | .int i, .int j => some (decide (j < i))
    | _, _ => none
  | .ge => match a, b with
    | .int i, .int j => some (decide (j ≤ i))
    | _, _ => none
  | .mem => match b with
    | .tup l => memO a l
    | .lst l => memO a l
    | .dic l => if isKey a then some (getD a l).isSome else none
    | .str y => match a with
      | .str [x] => some (decide (x ∈ y))
      | _ => none
    | _ => none
  | .nmem => match b with
    | .tup l => (memO a l).map (!·)
    | .lst l => (memO a l).map (!·)
    | .dic l => if isKey a then some (!(getD a l).isSome) else none
    | .str y => match a with
      | .str [x] => some (!decide (x ∈ y))
      | _ => none
    | _ => none
/-- the place of an index -/
def place (n : Nat) (i : Int) : Option Nat :=
  if 0 ≤ i then if i < n then some i.toNat else none else if -(n : Int) ≤ i then some (i + n).toNat else none
def index (a i : D) : Option D :=
  match a, i with
  | .tup l, .int k => (place l.length k).bind fun j => l[j]?
  | .lst l, .int k => (place l.length k).bind fun j => l[j]?
  | .str s, .int k => if s.length ≤ sizeLim then (place s.length k).bind fun j => (s[j]?).map fun c => .str [c] else none
  | .dic l, k => if isKey k then getD k l else none
  | _, _ => none
/-- an end of a slice -/
def cutAt (n d : Nat) : Option Int → Nat
  | none => d
  | some v => if v < 0 then (v + (n : Int)).toNat else min v.toNat n
def cut {α : Type} (l : List α) (lo hi : Option Int) : List α := (l.drop (cutAt l.length 0 lo)).take (cutAt l.length l.length hi - cutAt l.length 0 lo)
def slice (a : D) (lo hi : Option Int) : Option D :=
  match a with
  | .tup l => some (.tup (cut l lo hi))
  | .lst l => some (.lst (cut l lo hi))
  | .str l => if l.length ≤ sizeLim then some (.str (cut l lo hi)) else none
  | _ => none
/-- a new list: by value, or an object of the store -/
def newL (m : Bool) (l : List D) (S : Sto) : Rs D :=
  if l.length ≤ sizeLim then (if m then .ok (.ref S.length) (S ++ [.lst l]) else .ok (.lst l) S) else .no
def rangeOf (lo hi : Int) : List D := (List.range (hi - lo).toNat).map fun (k : Nat) => D.int (lo + k)
def sumInts : List D → Int → Option Int
  | [], a => some a
  | .int i :: r, a => sumInts r (a + i)
  | _, _ => none
def isTy : Ty → D → Option Bool
  | .int, .int _ => some true
  | .int, .bl _ => some true
  | .bool, .bl _ => some true
  | .str, .str _ => some true
  | .tuple, .tup _ => some true
  | .list, .lst _ => some true
  | .dict, .dic _ => some true
  | _, .ref _ => none
  | _, .set _ => none
  | _, _ => some false

/-- texts by the numbers of their characters -/
def ltS : List Nat → List Nat → Bool
  | [], [] => false
  | [], _ :: _ => true
  | _ :: _, [] => false
  | a :: r, b :: t => if a < b then true else if b < a then false else ltS r t
def insO (s : List Nat) : List (List Nat) → List (List Nat)
  | [] => [s]
  | t :: r => if ltS t s then t :: insO s r else s :: t :: r
def sortS : List (List Nat) → List (List Nat)
  | [] => []
  | s :: r => insO s (sortS r)
def insS (s : List Nat) (l : List (List Nat)) : List (List Nat) := if l.contains s then l else l ++ [s]
def ddStep (a : List (List Nat)) (d : D) : List (List Nat) := match d with
  | .str s => insS s a
  | _ => a
/-- the texts among these, each once -/
def ddS (l : List D) : List (List Nat) := l.foldl ddStep []
def strsD : List D → Option (List (List Nat))
  | [] => some []
  | .str s :: r => (strsD r).map (s :: ·)
  | _ :: _ => none
def setElt (d : D) (acc : List D) (S : Sto) : Rs (List D) := match d with
  | .str _ => if acc.length < 4000 then .ok (acc ++ [d]) S else .no
  | _ => .no
def enumD (k : Nat) : List D → List D
  | [] => []
  | d :: r => .tup [.int k, d] :: enumD (k + 1) r
def pSorted (m : Bool) (S : Sto) : List D → Rs D
  | [a] => match a.val S with
    | .lst l => match strsD l with
      | some ss => if ss.length < 64 then newL m ((sortS ss).map .str) S else .no
      | none => .no
    | _ => .no
  | _ => .no
def pSum (S : Sto) : List D → Rs D
  | [a] => match a.val S with
    | .lst l => match sumInts l 0 with
      | some i => .ok (.int i) S
      | none => .no
    | _ => .no
  | _ => .no
/-- sorted(set(a list of texts)) -/
def pSortset (m : Bool) (S : Sto) : List D → Rs D
  | [a] => match a.val S with
    | .lst l => match strsD l with
      | some ss => if ss.length < 4000 ∧ (ddS l).length < 64 then newL m ((sortS (ddS l)).map .str) S else .no
      | none => .no
    | _ => .no
  | _ => .no
/-- sorted(a dict whose keys are texts) -/
def pSortd (m : Bool) (S : Sto) : List D → Rs D
  | [a] => match a.val S with
    | .dic l => match strsD (l.map (·.1)) with
      | some ss => if ss.length < 64 then newL m ((sortS ss).map .str) S else .no
      | none => .no
    | _ => .no
  | _ => .no
/-- the first place of an equal one -/
def placeD (x : D) : List D → Option Nat
  | [] => none
  | d :: r => if D.eq d x then some 0 else (placeD x r).map (· + 1)
def pCount (S : Sto) (f : D → Option (List D)) : List D → Rs D
  | [a, x] => match f (a.val S) with
    | some l => if x.dat 40 && D.dats 40 l then .ok (.int (l.countP fun d => D.eq d x : Nat)) S else .no
    | none => .no
  | _ => .no
def pIndex (S : Sto) (f : D → Option (List D)) : List D → Rs D
  | [a, x] => match f (a.val S) with
    | some l => if x.dat 40 && D.dats 40 l then (match placeD x l with
      | some j => .ok (.int (j : Nat)) S
      | none => .no) else .no
    | none => .no
  | _ => .no
def asLst : D → Option (List D)
  | .lst l => some l
  | _ => none
def asTup : D → Option (List D)
  | .tup l => some l
  | _ => none
/-- a tuple of ints and texts -/
def isKeyT : D → Bool
  | .tup l => l.all isKey
  | _ => false
def getT (k : D) : List (D × D) → Option D
  | [] => none
  | (a, v) :: r => if D.eq a k then some v else getT k r
def putT (k v : D) (l : List (D × D)) : List (D × D) := if l.any (fun p => D.eq p.1 k) then l.map (fun p => if D.eq p.1 k then (p.1, v) else p) else l ++ [(k, v)]
/-- d.get(k, x) -/
def pGet (S : Sto) (a k x : D) : Rs D := match a with
  | .ref n => match S[n]? with
    | some (.dct l) => if isKeyT k then .ok ((getT k l).getD x) S else .no
    | some (.dic l) => if isKey k then .ok ((getD k l).getD x) S else .no
    | _ => .no
  | .dic l => if isKey k then .ok ((getD k l).getD x) S else .no
  | _ => .no
def pGets (S : Sto) (a : D) : List D → Rs D
  | [k] => pGet S a k .non
  | [k, x] => pGet S a k x
  | _ => .no
def isDic (S : Sto) : D → Bool
  | .dic _ => true
  | .ref n => match S[n]? with
    | some (.dic _) => true
    | some (.dct _) => true
    | _ => false
  | _ => false
def pLen (S : Sto) : List D → Rs D
  | [a] => match a.val S with
    | .str s => if s.length ≤ sizeLim then .ok (.int s.length) S else .no
    | .tup s => .ok (.int s.length) S
    | .lst s => .ok (.int s.length) S
    | .dic s => .ok (.int s.length) S
    | _ => .no
  | _ => .no
def pInt (S : Sto) : List D → Rs D
  | [.int i] => .ok (.int i) S
  | [.bl b] => .ok (.int (b2i b)) S
  | _ => .no
def pAbs (S : Sto) : List D → Rs D
  | [.int i] => .ok (.int (if i < 0 then -i else i)) S
  | _ => .no
def pMin2 (S : Sto) : List D → Rs D
  | [.int i, .int j] => .ok (.int (if j < i then j else i)) S
  | _ => .no
def pMax2 (S : Sto) : List D → Rs D
  | [.int i, .int j] => .ok (.int (if j > i then j else i)) S
  | _ => .no
def pTuple (S : Sto) : List D → Rs D
  | [a] => match a.val S with
    | .lst s => .ok (.tup s) S
    | .tup s => .ok (.tup s) S
    | _ => .no
  | _ => .no
def pList (m : Bool) (S : Sto) : List D → Rs D
  | [a] => match a.val S with
    | .lst s => newL m s S
    | .tup s => newL m s S
    | _ => .no
  | _ => .no
def pIsinst (t : Ty) (S : Sto) : List D → Rs D
  | [.dic _] => .no
  | [a] => retb (isTy t (a.val S)) S
  | _ => .no
def pAppend (base : Nat) (S : Sto) : List D → Rs D
  | [.ref n, x] => match S[n]? with
    | some (.lst s) => if s.length < sizeLim ∧ (base ≤ n ∨ x.pure = true) then .ok .non (S.set n (.lst (s ++ [x]))) else .no
    | _ => .no
  | _ => .no
def pExtend (base : Nat) (S : Sto) : List D → Rs D
  | [.ref n, x] => match S[n]? with
    | some (.lst s) => match x.val S with
      | .lst y => if s.length + y.length ≤ sizeLim ∧ (base ≤ n ∨ D.pures y = true) then .ok .non (S.set n (.lst (s ++ y))) else .no
      | .tup y => if s.length + y.length ≤ sizeLim ∧ (base ≤ n ∨ D.pures y = true) then .ok .non (S.set n (.lst (s ++ y))) else .no
      | _ => .no
    | _ => .no
  | _ => .no
def pPop (S : Sto) : List D → Rs D
  | [.ref n] => match S[n]? with
    | some (.lst s) => match s.getLast? with
      | some x => .ok x (S.set n (.lst s.dropLast))
      | none => .no
    | _ => .no
  | _ => .no
def pPopi (S : Sto) : List D → Rs D
  | [.ref n, .int k] => match S[n]? with
    | some (.lst s) => match place s.length k with
      | some j => match s[j]? with
        | some x => .ok x (S.set n (.lst (s.eraseIdx j)))
        | none => .no
      | none => .no
    | _ => .no
  | _ => .no
def prim (base : Nat) (f : Pr) (l : List D) (S : Sto) : Rs D :=
  match f with
  | .len => pLen S l
  | .int => pInt S l
  | .abs => pAbs S l
  | .min2 => pMin2 S l
  | .max2 => pMax2 S l
  | .tuple => pTuple S l
  | .list m => pList m S l
  | .isinst t => pIsinst t S l
  | .sorted m => pSorted m S l
  | .sum => pSum S l
  | .sortset m => pSortset m S l
  | .sortd m => pSortd m S l
  | .count => pCount S asLst l
  | .index => pIndex S asLst l
  | .tcount => pCount S asTup l
  | .tindex => pIndex S asTup l
  | .append => pAppend base S l
  | .extend => pExtend base S l
  | .pop => pPop S l
  | .popi => pPopi S l

/-- the receiver's kind -/
def recvOk : Pr → D → Bool
  | .append, .lst _ => true
  | .extend, .lst _ => true
  | .pop, .lst _ => true
  | .popi, .lst _ => true
  | .count, .lst _ => true
  | .index, .lst _ => true
  | .tcount, .tup _ => true
  | .tindex, .tup _ => true
  | _, _ => false

structure Ctx where
  call : Nat → List D → Nat → Sto → Rs D
  mth : Nat → Nat → Option Nat
  gl : Nat → Option D
  base : Nat
  fuel : Nat

abbrev Env := List (Option D)
inductive SR where
  | nx (e : Env) (S : Sto)
  | bk (e : Env) (S : Sto)
  | ct (e : Env) (S : Sto)
  | rt (d : D) (S : Sto)
  | ex (x : Xn) (e : Env) (S : Sto)
  | no

/-- deep freeze: the content by value, the names are given up -/
def frzL (f : D → Sto → Option (D × Sto)) : List D → Sto → Option (List D × Sto)
  | [], S => some ([], S)
  | d :: r, S => match f d S with
    | some (d', S1) => match frzL f r S1 with
      | some (r', S2) => some (d' :: r', S2)
      | none => none
    | none => none
def frzP (f : D → Sto → Option (D × Sto)) : List (D × D) → Sto → Option (List (D × D) × Sto)
  | [], S => some ([], S)
  | (k, d) :: r, S => match f d S with
    | some (d', S1) => match frzP f r S1 with
      | some (r', S2) => some ((k, d') :: r', S2)
      | none => none
    | none => none
def frz : Nat → D → Sto → Option (D × Sto)
  | 0, d, S => if d.pure then some (d, S) else none
  | k + 1, .ref n, S => match S[n]? with
    | some (.lst l) => match frzL (frz k) l (S.set n .dead) with
      | some (l', S') => some (.lst l', S')
      | none => none
    | some (.dic l) => match frzP (frz k) l (S.set n .dead) with
      | some (l', S') => some (.dic l', S')
      | none => none
    | _ => none
  | _ + 1, d, S => if d.pure then some (d, S) else none
def freeze (d : D) (S : Sto) : Rs D := match frz 4 d S with
  | some (d', S') => .ok d' S'
  | none => .no

def getV (env : Env) (i : Nat) : Option D := match env[i]? with
  | some (some d) => some d
  | _ => none
def wipeE (env : Env) : List Nat → Env
  | [] => env
  | v :: vs => (wipeE env vs).set v none
def assocPut (f : Nat) (d : D) : List (Nat × D) → List (Nat × D)
  | [] => [(f, d)]
  | (g, e) :: r => if g = f then (f, d) :: r else (g, e) :: assocPut f d r
def setItem (base : Nat) (o i d : D) (S : Sto) : Option Sto :=
  match o with
  | .ref n => match S[n]?, i with
    | some (.lst s), .int k => match place s.length k with
      | some j => if base ≤ n ∨ d.pure = true then some (S.set n (.lst (s.set j d))) else none
      | none => none
    | some (.dct s), k => if isKeyT k ∧ s.length < sizeLim ∧ (base ≤ n ∨ d.pure = true) then some (S.set n (.dct (putT k d s))) else none
    | some (.dic s), k => if isKey k ∧ s.length < sizeLim ∧ (base ≤ n ∨ d.pure = true) then some (S.set n (.dic (putD k d s))) else none
    | _, _ => none
  | _ => none
def attGet (S : Sto) (d : D) (f : Nat) : Option D := match d with
  | .ref n => match S[n]? with
    | some (.ins _ fs) => fs.lookup f
    | _ => none
  | _ => none
def attSet (base : Nat) (S : Sto) (o : D) (f : Nat) (d : D) : Option Sto := match o with
  | .ref n => match S[n]? with
    | some (.ins c fs) => if fs.length < 1000 ∧ (base ≤ n ∨ d.pure = true) then some (S.set n (.ins c (assocPut f d fs))) else none
    | _ => none
  | _ => none
/-- what a for walks: the items, and what stands meanwhile -/
def itemsOf (S : Sto) (d : D) : Option (List D × Option Nat) :=
  match d with
  | .tup l => some (l, none)
  | .lst l => some (l, none)
  | .ref n => match S[n]? with
    | some (.lst l) => some (l, some n)
    | some (.lck (.lst l)) => some (l, none)
    | _ => none
  | _ => none
def lockS (S : Sto) : Option Nat → Sto
  | none => S
  | some n => match S[n]? with
    | some o => S.set n (.lck o)
    | none => S
def unlockS (S : Sto) : Option Nat → Sto
  | none => S
  | some n => match S[n]? with
    | some (.lck o) => S.set n o
    | _ => S
def SR.unlock (n : Option Nat) : SR → SR
  | .nx e S => .nx e (unlockS S n)
  | .bk e S => .bk e (unlockS S n)
  | .ct e S => .ct e (unlockS S n)
  | .rt d S => .rt d (unlockS S n)
  | .ex x e S => .ex x e (unlockS S n)
  | .no => .no
def forL (body : D → Env → Sto → SR) : List D → Env → Sto → SR
  | [], env, S => .nx env S
  | d :: ds, env, S => match body d env S with
    | .nx e S' => forL body ds e S'
    | .ct e S' => forL body ds e S'
    | .bk e S' => .nx e S'
    | r => r
def whileL (test : Env → Sto → Rs Bool) (body : Env → Sto → SR) : Nat → Env → Sto → SR
  | 0, _, _ => .no
  | k + 1, env, S => match test env S with
    | .ok true S1 => match body env S1 with
      | .nx e S' => whileL test body k e S'
      | .ct e S' => whileL test body k e S'
      | .bk e S' => .nx e S'
      | r => r
    | .ok false S1 => .nx env S1
    | .ex x S1 => .ex x env S1
    | .no => .no
/-- a comprehension's walk over one clause: the list so far -/
def compL (turn : D → List D → Sto → Rs (List D)) : List D → List D → Sto → Rs (List D)
  | [], acc, S => .ok acc S
  | d :: ds, acc, S => (turn d acc S).to fun acc' S' => compL turn ds acc' S'
def pairUp : List D → Option (List (D × D))
  | [] => some []
  | k :: v :: r => (pairUp r).map ((k, v) :: ·)
  | _ => none
def noEx {α : Type} : Rs α → Rs α
  | .ok a S => .ok a S
  | _ => .no
/-- sorted(a set), len(a set) -/
def newS (m : Bool) (r : Rs (List D)) : Rs D := (noEx r).to fun l S1 => if (ddS l).length < 64 then newL m ((sortS (ddS l)).map .str) S1 else .no
def lenS (r : Rs (List D)) : Rs D := (noEx r).to fun l S1 => .ok (.int (ddS l).length) S1
/-- how a call with keywords binds: the written values, those of the keywords behind -/
def pick {α : Type} (perm : List Nat) (z : α) (xs : List α) : List α := perm.map fun i => xs.getD i z
/-- tuple(range(..)), list(range(..)) -/
def newR2 (k : Nat) (lo hi : Int) (S : Sto) : Rs D :=
  if -(2 ^ 62) ≤ lo ∧ lo < 2 ^ 62 ∧ -(2 ^ 62) ≤ hi ∧ hi < 2 ^ 62 ∧ (hi - lo).toNat ≤ sizeLim then
    (match k with
    | 0 => .ok (.tup (rangeOf lo hi)) S
    | 1 => .ok (.lst (rangeOf lo hi)) S
    | _ => .ok (.ref S.length) (S ++ [.lst (rangeOf lo hi)]))
  else .no
def newR (k : Nat) (xs : List D) (S : Sto) : Rs D := match xs with
  | [.int j] => newR2 k 0 j S
  | [.int i, .int j] => newR2 k i j S
  | _ => .no
/-- the def of a method -/
def recvM (mth : Nat → Nat → Option Nat) (S : Sto) (x : D) (m : Nat) : Option Nat := match x with
  | .ref k => match S[k]? with
    | some (.ins c _) => mth c m
    | _ => none
  | _ => none
/-- a dict's display: what has come, in pairs -/
def mergeD (ps : List (D × D)) : List (D × D) := ps.foldl (fun l p => putD p.1 p.2 l) []
def newD (m : Bool) (r : Rs (List D)) : Rs D := r.to fun xs S1 => match pairUp xs with
  | some ps => if ps.length ≤ 15 ∧ ps.all (fun p => isKey p.1) = true then (if m then .ok (.ref S1.length) (S1 ++ [.dic (mergeD ps)]) else .ok (.dic (mergeD ps)) S1) else .no
  | none => .no
def toB (r : Rs D) : Rs Bool := r.to fun d S => match truth S d with
  | some b => .ok b S
  | none => .no

mutual
/-- the slots that a target stores -/
def T.slots : T → List Nat
  | .var i => [i]
  | .tup l => T.slotsL l
  | _ => []
def T.slotsL : List T → List Nat
  | [] => []
  | t :: r => t.slots ++ T.slotsL r
end
mutual
def ev (c : Ctx) : E → Env → Sto → Rs D
  | .lit d, _, S => .ok d S
  | .var i, env, S => rets (getV env i) S
  | .gl x, _, S => rets (c.gl x) S
  | .bin op a b, env, S => (ev c a env S).to fun x S1 => (ev c b env S1).to fun y S2 => rets (binop op (x.val S2) (y.val S2)) S2
  | .neg a, env, S => (ev c a env S).to fun x S1 => match x with
    | .int i => .ok (.int (-i)) S1
    | _ => .no
  | .not a, env, S => (ev c a env S).to fun x S1 => retb ((truth S1 x).map (!·)) S1
  | .cmp op a b, env, S => (ev c a env S).to fun x S1 => (ev c b env S1).to fun y S2 => retb (cmpop op (x.val S2) (y.val S2)) S2
  | .chain o1 o2 a b d, env, S => (ev c a env S).to fun x S1 => (ev c b env S1).to fun y S2 => match cmpop o1 (x.val S2) (y.val S2) with
    | some true => (ev c d env S2).to fun z S3 => retb (cmpop o2 (y.val S3) (z.val S3)) S3
    | some false => .ok (.bl false) S2
    | none => .no
  | .and es, env, S => evAnd c es env S
  | .or es, env, S => evOr c es env S
  | .ite t a b, env, S => (ev c t env S).to fun x S1 => match truth S1 x with
    | some true => ev c a env S1
    | some false => ev c b env S1
    | none => .no
  | .tup es, env, S => (evs c es env S).to fun xs S1 => if xs.length ≤ sizeLim then .ok (.tup xs) S1 else .no
  | .lst m es, env, S => (evs c es env S).to fun xs S1 => newL m xs S1
  | .dic m kvs, env, S => newD m (noEx (evs c kvs env S))
  | .dct, _, S => .ok (.ref S.length) (S ++ [.dct []])
  | .get o es, env, S => (ev c o env S).to fun x S1 => if isDic S1 x then (evs c es env S1).to fun xs S2 => pGets S2 x xs else .no
  | .ix a i, env, S => (ev c a env S).to fun x S1 => (ev c i env S1).to fun y S2 => rets (index (x.val S2) y) S2
  | .sl a lo hi, env, S => (ev c a env S).to fun x S1 => (evO c lo env S1).to fun l S2 => (evO c hi env S2).to fun h S3 => rets (slice (x.val S3) l h) S3
  | .rev m a, env, S => (ev c a env S).to fun x S1 => match x.val S1 with
    | .lst l => newL m l.reverse S1
    | .tup l => .ok (.tup l.reverse) S1
    | _ => .no
  | .cpy a lo hi, env, S => (ev c a env S).to fun x S1 => (evO c lo env S1).to fun l S2 => (evO c hi env S2).to fun h S3 => match x.val S3 with
    | .lst s => newL true (cut s l h) S3
    | _ => .no
  | .call f es, env, S => (evs c es env S).to fun xs S1 => c.call f xs c.base S1
  | .callk f perm es ks, env, S => (evs c es env S).to fun xs S1 => (evs c ks env S1).to fun ys S2 => c.call f (pick perm .non (xs ++ ys)) c.base S2
  | .rng k es, env, S => (evs c es env S).to fun xs S1 => newR k xs S1
  | .pri f es, env, S => (evs c es env S).to fun xs S1 => prim c.base f xs S1
  | .met f o es, env, S => (ev c o env S).to fun x S1 => if recvOk f (x.val S1) then (evs c es env S1).to fun xs S2 => prim c.base f (x :: xs) S2 else .no
  | .slm f a lo hi x, env, S => (ev c a env S).to fun v S1 => (evO c lo env S1).to fun l S2 => (evO c hi env S2).to fun h S3 => match v.val S3 with
    | .tup t => if cutAt t.length 0 l = 0 ∧ cutAt t.length t.length h = t.length then .no else (ev c x env S3).to fun y S4 => prim c.base f [.tup (cut t l h), y] S4
    | _ => .no
  | .lc m own elt gens, env, S => (noEx (evG c gens (wipeE env own) (fun e acc S' => (ev c elt e S').to fun d S2 => if acc.length < sizeLim then .ok (acc ++ [d]) S2 else .no) [] S)).to fun l S1 =>
      if m then .ok (.ref S1.length) (S1 ++ [.lst l]) else .ok (.lst l) S1
  | .sset m own elt gens, env, S => newS m (evG c gens (wipeE env own) (fun e acc S' => (ev c elt e S').to fun d S2 => setElt d acc S2) [] S)
  | .nset own elt gens, env, S => lenS (evG c gens (wipeE env own) (fun e acc S' => (ev c elt e S').to fun d S2 => setElt d acc S2) [] S)
  | .mk k es, env, S => (evs c es env S).to fun xs S1 => match c.mth k 0 with
    | some f => (c.call f (.ref S1.length :: xs) c.base (S1 ++ [.ins k []])).to fun d S2 => match d with
      | .non => .ok (.ref S1.length) S2
      | _ => .no
    | none => .no
  | .mth m o es, env, S => (ev c o env S).to fun x S1 => match recvM c.mth S1 x m with
    | some f => (evs c es env S1).to fun xs S2 => c.call f (x :: xs) c.base S2
    | none => .no
  | .att o f, env, S => (ev c o env S).to fun x S1 => rets (attGet S1 x f) S1
  | .frz e, env, S => (ev c e env S).to freeze
def evs (c : Ctx) : List E → Env → Sto → Rs (List D)
  | [], _, S => .ok [] S
  | e :: es, env, S => (ev c e env S).to fun x S1 => (evs c es env S1).to fun xs S2 => .ok (x :: xs) S2
def evO (c : Ctx) : Option E → Env → Sto → Rs (Option Int)
  | none, _, S => .ok none S
  | some e, env, S => (ev c e env S).to fun x S1 => match x with
    | .int i => .ok (some i) S1
    | _ => .no
def evAnd (c : Ctx) : List E → Env → Sto → Rs D
  | [], _, _ => .no
  | [e], env, S => ev c e env S
  | e :: es, env, S => (ev c e env S).to fun x S1 => match truth S1 x with
    | some true => evAnd c es env S1
    | some false => .ok x S1
    | none => .no
def evOr (c : Ctx) : List E → Env → Sto → Rs D
  | [], _, _ => .no
  | [e], env, S => ev c e env S
  | e :: es, env, S => (ev c e env S).to fun x S1 => match truth S1 x with
    | some true => .ok x S1
    | some false => evOr c es env S1
    | none => .no
def evI (c : Ctx) : I → Env → Sto → Rs (List D × Option Nat)
  | .e e, env, S => (ev c e env S).to fun x S1 => match itemsOf S1 x with
    | some p => .ok p S1
    | none => .no
  | .range es, env, S => (evs c es env S).to fun xs S1 => match xs with
    | [.int j] => if -(2 ^ 62) ≤ j ∧ j < 2 ^ 62 then .ok (rangeOf 0 j, none) S1 else .no
    | [.int i, .int j] => if -(2 ^ 62) ≤ i ∧ i < 2 ^ 62 ∧ -(2 ^ 62) ≤ j ∧ j < 2 ^ 62 then .ok (rangeOf i j, none) S1 else .no
    | _ => .no
  | .enum e, env, S => (ev c e env S).to fun x S1 => match itemsOf S1 x with
    | some (l, none) => .ok (enumD 0 l, none) S1
    | _ => .no
  | .keys e, env, S => (ev c e env S).to fun x S1 => match x with
    | .dic l => .ok (l.map (·.1), none) S1
    | _ => .no
  | _, _, _ => .no
def evT (c : Ctx) : T → D → Env → Sto → Rs Env
  | .var i, d, env, S => .ok (env.set i (some d)) S
  | .tup ts, d, env, S => match d with
    | .tup l => evTs c ts l env S
    | _ => .no
  | .sub a i, d, env, S => (ev c a env S).to fun o S1 => (ev c i env S1).to fun k S2 => match setItem c.base o k d S2 with
    | some S3 => .ok env S3
    | none => .no
  | .att o f, d, env, S => (ev c o env S).to fun x S1 => match attSet c.base S1 x f d with
    | some S2 => .ok env S2
    | none => .no
def evTs (c : Ctx) : List T → List D → Env → Sto → Rs Env
  | [], [], env, S => .ok env S
  | t :: ts, d :: ds, env, S => (evT c t d env S).to fun e S1 => evTs c ts ds e S1
  | _, _, _, _ => .no
def evIfs (c : Ctx) : List E → Env → Sto → Rs Bool
  | [], _, S => .ok true S
  | e :: es, env, S => (toB (ev c e env S)).to fun b S1 => if b then evIfs c es env S1 else .ok false S1
def evG (c : Ctx) : List G → Env → (Env → List D → Sto → Rs (List D)) → List D → Sto → Rs (List D)
  | [], env, k, acc, S => k env acc S
  | .mk t i ifs :: gs, env, k, acc, S => (evI c i env S).to fun p S1 => match p.2 with
    | some _ => .no
    | none => compL (fun d acc' S2 => (evT c t d (wipeE env t.slots) S2).to fun e S3 => (evIfs c ifs e S3).to fun b S4 => if b then evG c gs e k acc' S4 else .ok acc' S4) p.1 acc S1
end

def ofE (env : Env) (r : Rs D) (k : D → Sto → SR) : SR := match r with
  | .ok d S => k d S
  | .ex x S => .ex x env S
  | .no => .no
def ofT (r : Rs Env) (k : Env → Sto → SR) : SR := match r with
  | .ok d S => k d S
  | _ => .no
mutual
def ex (c : Ctx) : St → Env → Sto → SR
  | .asg t e, env, S => ofE env (ev c e env S) fun d S1 => ofT (evT c t d env S1) .nx
  | .asgc i m own elt gens, env, S => ofE env (ev c (.lc m own elt gens) env S) fun d S1 => ofT (Rs.ok (env.set i (some d)) S1) .nx
  | .par is es, env, S => match evs c es env S with
    | .ok ds S1 => if is.length = ds.length then .nx ((is.zip ds).foldl (fun e p => e.set p.1 (some p.2)) env) S1 else .no
    | .ex x S1 => .ex x env S1
    | .no => .no
  | .aug op i e, env, S => match getV env i with
    | some x => ofE env (ev c e env S) fun y S1 => match x, y with
      | .int _, .int _ => match binop op x y with
        | some z => .nx (env.set i (some z)) S1
        | none => .no
      | _, _ => .no
    | none => .no
  | .expr e, env, S => ofE env (ev c e env S) fun _ S1 => .nx env S1
  | .iff t a b, env, S => ofE env (ev c t env S) fun x S1 => match truth S1 x with
    | some true => exs c a env S1
    | some false => exs c b env S1
    | none => .no
  | .fr t i b, env, S => match evI c i env S with
    | .ok p S1 => (forL (fun d e S' => ofT (evT c t d e S') fun e' S2 => exs c b e' S2) p.1 env (lockS S1 p.2)).unlock p.2
    | .ex x S1 => .ex x env S1
    | .no => .no
  | .whl t b, env, S => whileL (fun e S' => toB (ev c t e S')) (fun e S' => exs c b e S') c.fuel env S
  | .ret none, _, S => .rt .non S
  | .ret (some e), env, S => ofE env (ev c e env S) .rt
  | .brk, env, S => .bk env S
  | .cnt, env, S => .ct env S
  | .pass, env, S => .nx env S
  | .frz i, env, S => match getV env i with
    | some d => ofE env (freeze d S) fun d' S1 => .nx (env.set i (some d')) S1
    | none => .no
def exs (c : Ctx) : List St → Env → Sto → SR
  | [], env, S => .nx env S
  | s :: ss, env, S => match ex c s env S with
    | .nx e S1 => exs c ss e S1
    | r => r
end

structure FD where
  np : Nat
  nv : Nat
  keep : Bool
  body : List St

def fin (keep : Bool) (n : Nat) (d : D) (S : Sto) : Rs D := if keep then .ok d S else if d.lt n then .ok d (S.take n) else .no
def runF (c : Ctx) (fd : FD) (args : List D) (base : Nat) (S : Sto) : Rs D :=
  match exs { c with base := if fd.keep then base else S.length } fd.body (args.map some ++ List.replicate (fd.nv - args.length) none) S with
  | .nx _ S1 => fin fd.keep S.length .non S1
  | .rt d S1 => fin fd.keep S.length d S1
  | .ex x _ S1 => if D.pures x.args then .ex x (if fd.keep then S1 else S1.take S.length) else .no
  | _ => .no

structure Prog where
  fd : Nat → Option FD
  mth : Nat → Nat → Option Nat
  gl : Nat → Option D
  fuel : Nat
def callN (P : Prog) : Nat → Nat → List D → Nat → Sto → Rs D
  | 0, _, _, _, _ => .no
  | n + 1, f, args, base, S => match P.fd f with
    | some fd => if args.length = fd.np then runF ⟨callN P n, P.mth, P.gl, base, P.fuel⟩ fd args base S else .no
    | none => .no
end Mi

namespace Mi
open PySem L2 PySem.Spec PyProof.Rows

/-! ## Part 1: how data lies in the heap -/
/-- a text of characters -/
def okS (s : List Nat) : Bool := s.all (· < 0x110000)
def strV (s : List Nat) : Str := ⟨s.toArray⟩
theorem strV_list (s : List Nat) : (strV s).cps.toList = s := rfl
theorem strV_len (s : List Nat) : (strV s).length = s.length := rfl
theorem strV_inj {a b : List Nat} (h : strV a = strV b) : a = b := by
  have h1 := congrArg (fun x => x.cps.toList) h
  exact h1
def keyD : D → Key → Prop
  | .int i, q => q = Sum.inl i
  | .str s, q => q = Sum.inr (strV s) ∧ okS s = true
  | _, _ => False

/-- a tuple (a list) that does not change: it is tracked, or stands in the written part -/
def FzT (K : PySem.W.Frag) (l : Addr → Prop) (H : Hp) (a : Addr) (xs : List V) : Prop :=
  ¬ l a ∧ H a = some (.tup xs)
def FzL (K : PySem.W.Frag) (l : Addr → Prop) (H : Hp) (a : Addr) (xs : List V) : Prop :=
  (¬ l a ∧ Rd H a (.lst xs)) ∨ ∃ (o : Obj) (its : Array Value) (n : Nat), K.lookup a = some o ∧ o.cls = .type "list" ∧ o.dict = none ∧ o.data = .seq its n ∧ its.size ≤ sizeLine ∧ Vals xs its.toList
section
variable (K : PySem.W.Frag) (ρ : List Addr) (lv : Addr → Prop) (H : Hp)
mutual
def Rp : D → V → Prop
  | .non, v => v = .non
  | .bl b, v => v = .bl b
  | .int i, v => v = .int i
  | .str s, v => v = .str (strV s) ∧ okS s = true
  | .tup l, v => ∃ a xs, v = .ref a ∧ FzT K lv H a xs ∧ Rps l xs
  | .lst l, v => ∃ a xs, v = .ref a ∧ FzL K lv H a xs ∧ Rps l xs
  | .dic l, v => ∃ a kvs od, v = .ref a ∧ ¬ lv a ∧ H a = some (.frz od (.dK kvs)) ∧ Rpp l kvs
  | .set _, _ => False
  | .ref n, v => ∃ a, ρ[n]? = some a ∧ v = .ref a
def Rps : List D → List V → Prop
  | [], xs => xs = []
  | d :: r, xs => ∃ x t, xs = x :: t ∧ Rp d x ∧ Rps r t
def Rpp : List (D × D) → List (Key × V) → Prop
  | [], xs => xs = []
  | (k, d) :: r, xs => ∃ q x t, xs = (q, x) :: t ∧ keyD k q ∧ Rp d x ∧ Rpp r t
end
end

structure Cxt where
  K : PySem.W.Frag
  KR : PySem.W.Frag
  sub : ∀ a o, KR.lookup a = some o → K.lookup a = some o
  cls : Nat → Option Addr
  att : Nat → Str
  xf : Nat → List Nat
  acc : List Addr
theorem FzT.sq {C : Cxt} {l : Addr → Prop} {H : Hp} {a : Addr} {xs : List V} (h : FzT C.KR l H a xs) : SqT C.K H a xs := by
  exact .inl (.inl h.2)
theorem FzL.sq {C : Cxt} {l : Addr → Prop} {H : Hp} {a : Addr} {xs : List V} (h : FzL C.KR l H a xs) : SqL C.K H a xs := by
  rcases h with ⟨_, h⟩ | ⟨o, its, n, h, q⟩
  · exact .inl h
  · exact .inr ⟨o, its, n, C.sub _ _ h, q⟩
/-- a key of a tuple of ints and texts -/
def keysT : List D → List Key → Prop
  | [], q => q = []
  | d :: r, q => ∃ k t, q = k :: t ∧ keyD d k ∧ keysT r t
def keyT : D → List Key → Prop
  | .tup l, q => keysT l q
  | _, _ => False
/-- a dict with such keys -/
def Rpt (K : PySem.W.Frag) (ρ : List Addr) (l : Addr → Prop) (H : Hp) : List (D × D) → List (List Key × V) → Prop
  | [], xs => xs = []
  | (k, d) :: r, xs => ∃ q x t, xs = (q, x) :: t ∧ keyT k q ∧ Rp K ρ l H d x ∧ Rpt K ρ l H r t
/-- the addresses of what has a name -/
def lvn (ρ : List Addr) (S : Sto) (a : Addr) : Prop := ∃ (n : Nat) (o : MO), S[n]? = some o ∧ o.here ≠ MO.dead ∧ ρ[n]? = some a
/-- the addresses of what may change -/
def lv (C : Cxt) (ρ : List Addr) (S : Sto) (a : Addr) : Prop := lvn ρ S a ∨ a ∈ C.acc

def fieldR (C : Cxt) (ρ : List Addr) (l : Addr → Prop) (H : Hp) : List (Nat × D) → List (Str × V) → Prop
  | [], xs => xs = []
  | (f, d) :: r, xs => ∃ x t, xs = (C.att f, x) :: t ∧ Rp C.KR ρ l H d x ∧ fieldR C ρ l H r t
/-- the object o at a -/
def OkO (C : Cxt) (ρ : List Addr) (l : Addr → Prop) (H : Hp) (a : Addr) : MO → Prop
  | .dead => True
  | .lst d => ∃ xs, H a = some (.lst xs) ∧ Rps C.KR ρ l H d xs
  | .dic d => ∃ kvs, H a = some (.dK kvs) ∧ Rpp C.KR ρ l H d kvs
  | .dct d => True ∧ ∃ kvs, H a = some (.dT kvs) ∧ Rpt C.KR ρ l H d kvs
  | .ins c fs => ∃ A dx fv, H a = some (.ins A dx fv) ∧ C.cls c = some A ∧ fieldR C ρ l H fs fv
  | .lck _ => False
structure Good (C : Cxt) (b : Nat) (ρ : List Addr) (S : Sto) (H : Hp) : Prop where
  len : ρ.length = S.length
  bb : b ≤ S.length
  obj : ∀ (n : Nat) (o : MO) (a : Addr), S[n]? = some o → ρ[n]? = some a → OkO C ρ (lv C ρ S) H a o.here
  accH : ∀ a ∈ C.acc, (∃ u, H a = some u) ∧ ¬ lvn ρ S a
  inj : ∀ (n m : Nat) (o u : MO) (a : Addr), S[n]? = some o → S[m]? = some u → o.here ≠ MO.dead → u.here ≠ MO.dead → ρ[n]? = some a → ρ[m]? = some a → n = m

def fldLt (m : Nat) : List (Nat × D) → Bool
  | [] => true
  | (_, d) :: r => d.lt m && fldLt m r
def MO.lt (m : Nat) : MO → Bool
  | .dead => true
  | .lst l => D.lts m l
  | .dic l => D.ltps m l
  | .dct l => D.ltps m l
  | .ins _ fs => fldLt m fs
  | .lck o => o.lt m
structure Le (C : Cxt) (b : Nat) (ρ : List Addr) (S : Sto) (H : Hp) (ρ' : List Addr) (S' : Sto) (H' : Hp) : Prop where
  pre : ρ <+: ρ'
  keep : ∀ a o, H a = some o → ¬ lv C ρ S a → H' a = some o ∧ ¬ lv C ρ' S' a
  refs : ∀ n < b, ∀ o' : MO, S'[n]? = some o' → ∃ o : MO, S[n]? = some o ∧ ∀ m, o.here.lt m = true → o'.here.lt m = true
  len : S.length ≤ S'.length
  lck : ∀ (n : Nat) (o : MO), S[n]? = some (MO.lck o) → S'[n]? = some (MO.lck o)
  accK : ∀ a ∈ C.acc, ∀ u, H a = some u → H' a = some u

section
variable {C : Cxt} {b : Nat} {ρ ρ' ρ1 ρ2 : List Addr} {S S' S1 S2 : Sto} {H H' H1 H2 : Hp} {l l' : Addr → Prop}
theorem Le.refl (h : b ≤ S.length) : Le C b ρ S H ρ S H :=
  ⟨List.prefix_refl _, fun a o e n => ⟨e, n⟩, fun n hn o' e => ⟨o', e, fun _ x => x⟩, Nat.le_refl _, fun _ _ h => h, fun _ _ _ h => h⟩
theorem Le.trans (x : Le C b ρ S H ρ1 S1 H1) (y : Le C b ρ1 S1 H1 ρ2 S2 H2) : Le C b ρ S H ρ2 S2 H2 :=
  ⟨x.pre.trans y.pre, fun a o e n => y.keep a o (x.keep a o e n).1 (x.keep a o e n).2, fun n hn o' e => by
    obtain ⟨o1, e1, h1⟩ := y.refs n hn o' e
    obtain ⟨o, e0, h0⟩ := x.refs n hn o1 e1
    exact ⟨o, e0, fun m z => h1 m (h0 m z)⟩, Nat.le_trans x.len y.len, fun n o h => y.lck n o (x.lck n o h), fun a h u e => y.accK a h u (x.accK a h u e)⟩

theorem Rd.mono {a : Addr} {u : HO} (k : ∀ o, H a = some o → H' a = some o) (h : Rd H a u) : Rd H' a u := by
  rcases h with h | ⟨o, h⟩
  · exact .inl (k _ h)
  · exact .inr ⟨o, k _ h⟩
/-- what is kept of the heap, for data -/
structure Kp (ρ : List Addr) (l : Addr → Prop) (H : Hp) (ρ' : List Addr) (l' : Addr → Prop) (H' : Hp) : Prop where
  pre : ρ <+: ρ'
  keep : ∀ a o, H a = some o → ¬ l a → H' a = some o ∧ ¬ l' a
theorem Rd.kp {a : Addr} {u : HO} (k : Kp ρ l H ρ' l' H') (h : ¬ l a ∧ Rd H a u) : ¬ l' a ∧ Rd H' a u := by
  obtain ⟨n, h | ⟨o, h⟩⟩ := h
  · exact ⟨(k.keep a _ h n).2, .inl (k.keep a _ h n).1⟩
  · exact ⟨(k.keep a _ h n).2, .inr ⟨o, (k.keep a _ h n).1⟩⟩
theorem FzT.kp {K : PySem.W.Frag} {a : Addr} {xs : List V} (k : Kp ρ l H ρ' l' H') (h : FzT K l H a xs) : FzT K l' H' a xs := by
  exact ⟨(k.keep a _ h.2 h.1).2, (k.keep a _ h.2 h.1).1⟩
theorem FzL.kp {K : PySem.W.Frag} {a : Addr} {xs : List V} (k : Kp ρ l H ρ' l' H') (h : FzL K l H a xs) : FzL K l' H' a xs := by
  rcases h with h | h
  · exact .inl (Rd.kp k h)
  · exact .inr h
theorem get_pre {α : Type} {x y : List α} (h : x <+: y) {n : Nat} {a : α} (e : x[n]? = some a) : y[n]? = some a := by
  obtain ⟨t, rfl⟩ := h
  have hn := (List.getElem?_eq_some_iff.mp e).1
  rw [List.getElem?_append_left hn]; exact e
mutual
theorem Rp.kp {K : PySem.W.Frag} (k : Kp ρ l H ρ' l' H') : ∀ (d : D) (v : V), Rp K ρ l H d v → Rp K ρ' l' H' d v
  | .non, v, h => h
  | .bl b, v, h => h
  | .int i, v, h => h
  | .str s, v, h => h
  | .tup ds, v, ⟨a, xs, e, q, r⟩ => ⟨a, xs, e, FzT.kp k q, Rps.kp k ds xs r⟩
  | .lst ds, v, ⟨a, xs, e, q, r⟩ => ⟨a, xs, e, FzL.kp k q, Rps.kp k ds xs r⟩
  | .dic ds, v, ⟨a, kvs, od, e, n, q, r⟩ => ⟨a, kvs, od, e, (k.keep a _ q n).2, (k.keep a _ q n).1, Rpp.kp k ds kvs r⟩
  | .set _, _, h => h
  | .ref n, v, ⟨a, e, h⟩ => ⟨a, get_pre k.pre e, h⟩
theorem Rps.kp {K : PySem.W.Frag} (k : Kp ρ l H ρ' l' H') : ∀ (ds : List D) (xs : List V), Rps K ρ l H ds xs → Rps K ρ' l' H' ds xs
  | [], xs, h => h
  | d :: r, xs, ⟨x, t, e, h, h2⟩ => ⟨x, t, e, Rp.kp k d x h, Rps.kp k r t h2⟩
theorem Rpp.kp {K : PySem.W.Frag} (k : Kp ρ l H ρ' l' H') : ∀ (ds : List (D × D)) (xs : List (Key × V)), Rpp K ρ l H ds xs → Rpp K ρ' l' H' ds xs
  | [], xs, h => h
  | (_, d) :: r, xs, ⟨q, x, t, e, hk, h, h2⟩ => ⟨q, x, t, e, hk, Rp.kp k d x h, Rpp.kp k r t h2⟩
end
theorem Rpt.kp {K : PySem.W.Frag} (k : Kp ρ l H ρ' l' H') : ∀ (ds : List (D × D)) (xs : List (List Key × V)), Rpt K ρ l H ds xs → Rpt K ρ' l' H' ds xs
  | [], xs, h => h
  | (_, d) :: r, xs, ⟨q, x, t, e, hk, h, h2⟩ => ⟨q, x, t, e, hk, Rp.kp k d x h, Rpt.kp k r t h2⟩
theorem fieldR.kp (k : Kp ρ l H ρ' l' H') : ∀ (fs : List (Nat × D)) (xs : List (Str × V)), fieldR C ρ l H fs xs → fieldR C ρ' l' H' fs xs
  | [], xs, h => h
  | (f, d) :: r, xs, ⟨x, t, e, h, h2⟩ => ⟨x, t, e, Rp.kp k d x h, fieldR.kp k r t h2⟩
theorem Le.kp (x : Le C b ρ S H ρ' S' H') : Kp ρ (lv C ρ S) H ρ' (lv C ρ' S') H' := ⟨x.pre, x.keep⟩

theorem Rps.length {K : PySem.W.Frag} : ∀ {ds : List D} {xs : List V}, Rps K ρ l H ds xs → ds.length = xs.length
  | [], xs, h => by cases (show xs = [] from h); rfl
  | d :: r, xs, ⟨x, t, e, h, h2⟩ => by rw [e, List.length_cons, List.length_cons, Rps.length h2]
theorem Rps.get {K : PySem.W.Frag} : ∀ {ds : List D} {xs : List V} {n : Nat} {d : D}, Rps K ρ l H ds xs → ds[n]? = some d → ∃ x, xs[n]? = some x ∧ Rp K ρ l H d x
  | [], xs, n, d, h, e => by simp at e
  | d' :: r, xs, 0, d, ⟨x, t, e, h, h2⟩, e2 => by
    simp at e2; subst e2; subst e
    exact ⟨x, rfl, h⟩
  | d' :: r, xs, n + 1, d, ⟨x, t, e, h, h2⟩, e2 => by
    subst e
    obtain ⟨y, h3, h4⟩ := Rps.get (n := n) (d := d) h2 (by simpa using e2)
    exact ⟨y, by simpa using h3, h4⟩
theorem Rps.append {K : PySem.W.Frag} : ∀ {ds es : List D} {xs ys : List V}, Rps K ρ l H ds xs → Rps K ρ l H es ys → Rps K ρ l H (ds ++ es) (xs ++ ys)
  | [], es, xs, ys, h, h2 => by rw [show xs = [] from h]; exact h2
  | d :: r, es, xs, ys, ⟨x, t, e, h, h3⟩, h2 => by
    subst e
    exact ⟨x, t ++ ys, rfl, h, Rps.append h3 h2⟩
theorem Rps.take {K : PySem.W.Frag} : ∀ {ds : List D} {xs : List V} (n : Nat), Rps K ρ l H ds xs → Rps K ρ l H (ds.take n) (xs.take n)
  | _, _, 0, _ => by simp [Rps]
  | [], xs, n + 1, h => by rw [show xs = [] from h]; simp [Rps]
  | d :: r, xs, n + 1, ⟨x, t, e, h, h2⟩ => by
    subst e
    exact ⟨x, t.take n, rfl, h, Rps.take n h2⟩
theorem Rps.drop {K : PySem.W.Frag} : ∀ {ds : List D} {xs : List V} (n : Nat), Rps K ρ l H ds xs → Rps K ρ l H (ds.drop n) (xs.drop n)
  | _, _, 0, h => h
  | [], xs, n + 1, h => by rw [show xs = [] from h]; simp [Rps]
  | d :: r, xs, n + 1, ⟨x, t, e, h, h2⟩ => by
    subst e
    exact Rps.drop n h2
theorem Rps.one {K : PySem.W.Frag} {d : D} {x : V} (h : Rp K ρ l H d x) : Rps K ρ l H [d] [x] := ⟨x, [], rfl, h, rfl⟩
theorem Rps.set {K : PySem.W.Frag} {d : D} {x : V} (h : Rp K ρ l H d x) : ∀ {ds : List D} {xs : List V} (n : Nat), Rps K ρ l H ds xs → Rps K ρ l H (ds.set n d) (xs.set n x)
  | [], xs, n, h2 => by rw [show xs = [] from h2]; simp [Rps]
  | d' :: r, xs, 0, ⟨y, t, e, h1, h2⟩ => by subst e; exact ⟨x, t, rfl, h, h2⟩
  | d' :: r, xs, n + 1, ⟨y, t, e, h1, h2⟩ => by subst e; exact ⟨y, t.set n x, rfl, h1, Rps.set h n h2⟩
theorem Rps.erase {K : PySem.W.Frag} : ∀ {ds : List D} {xs : List V} (n : Nat), Rps K ρ l H ds xs → Rps K ρ l H (ds.eraseIdx n) (xs.eraseIdx n)
  | [], xs, n, h2 => by rw [show xs = [] from h2]; simp [Rps]
  | d' :: r, xs, 0, ⟨y, t, e, h1, h2⟩ => by subst e; exact h2
  | d' :: r, xs, n + 1, ⟨y, t, e, h1, h2⟩ => by subst e; exact ⟨y, t.eraseIdx n, rfl, h1, Rps.erase n h2⟩
theorem Rps.reverse {K : PySem.W.Frag} : ∀ {ds : List D} {xs : List V}, Rps K ρ l H ds xs → Rps K ρ l H ds.reverse xs.reverse
  | [], xs, h => by rw [show xs = [] from h]; simp [Rps]
  | d :: r, xs, ⟨x, t, e, h, h2⟩ => by
    subst e
    rw [List.reverse_cons, List.reverse_cons]
    exact Rps.append (Rps.reverse h2) (Rps.one h)
mutual
theorem Rp.lt {K : PySem.W.Frag} {m : Nat} (hm : ρ.length ≤ m) : ∀ (d : D) (v : V), Rp K ρ l H d v → d.lt m = true
  | .non, v, h => rfl
  | .bl b, v, h => rfl
  | .int i, v, h => rfl
  | .str s, v, h => rfl
  | .tup ds, v, ⟨a, xs, e, q, r⟩ => Rps.lt hm ds xs r
  | .lst ds, v, ⟨a, xs, e, q, r⟩ => Rps.lt hm ds xs r
  | .dic ds, v, ⟨a, kvs, od, e, n, q, r⟩ => Rpp.lt hm ds kvs r
  | .set _, _, h => h.elim
  | .ref n, v, ⟨a, e, h⟩ => decide_eq_true (Nat.lt_of_lt_of_le (List.getElem?_eq_some_iff.mp e).1 hm)
theorem Rps.lt {K : PySem.W.Frag} {m : Nat} (hm : ρ.length ≤ m) : ∀ (ds : List D) (xs : List V), Rps K ρ l H ds xs → D.lts m ds = true
  | [], xs, h => rfl
  | d :: r, xs, ⟨x, t, e, h, h2⟩ => by simp [D.lts, Rp.lt hm d x h, Rps.lt hm r t h2]
theorem Rpp.lt {K : PySem.W.Frag} {m : Nat} (hm : ρ.length ≤ m) : ∀ (ds : List (D × D)) (xs : List (Key × V)), Rpp K ρ l H ds xs → D.ltps m ds = true
  | [], xs, h => rfl
  | (k, d) :: r, xs, ⟨q, x, t, e, hk, h, h2⟩ => by
    have hk' : D.lt m k = true := by
      cases k <;> first | rfl | exact hk.elim
    simp [D.ltps, hk', Rp.lt hm d x h, Rpp.lt hm r t h2]
end
theorem keysT_lt {m : Nat} : ∀ {l : List D} {q : List Key}, keysT l q → D.lts m l = true
  | [], _, _ => rfl
  | d :: r, q, ⟨k, t, _, h, h2⟩ => by
    have hk' : D.lt m d = true := by
      cases d <;> first | rfl | exact h.elim
    simp [D.lts, hk', keysT_lt (m := m) h2]
theorem keyT_lt {m : Nat} {k : D} {q : List Key} (h : keyT k q) : D.lt m k = true := by
  cases k <;> first | exact h.elim | exact keysT_lt h
theorem Rpt.lt {K : PySem.W.Frag} {m : Nat} (hm : ρ.length ≤ m) : ∀ (ds : List (D × D)) (xs : List (List Key × V)), Rpt K ρ l H ds xs → D.ltps m ds = true
  | [], xs, h => rfl
  | (k, d) :: r, xs, ⟨q, x, t, e, hk, h, h2⟩ => by simp [D.ltps, keyT_lt hk, Rp.lt hm d x h, Rpt.lt hm r t h2]
theorem fieldR.lt {m : Nat} (hm : ρ.length ≤ m) : ∀ (fs : List (Nat × D)) (xs : List (Str × V)), fieldR C ρ l H fs xs → fldLt m fs = true
  | [], xs, h => rfl
  | (f, d) :: r, xs, ⟨x, t, e, h, h2⟩ => by simp [fldLt, Rp.lt hm d x h, fieldR.lt hm r t h2]
/-- the frame is left: names from b on are given up -/
structure Shr (ρ ρ' : List Addr) (b : Nat) (l l' : Addr → Prop) : Prop where
  cut : ∀ n < b, ρ'[n]? = ρ[n]?
  live : ∀ a, l' a → l a
mutual
theorem Rp.shr {K : PySem.W.Frag} (k : Shr ρ ρ' b l l') : ∀ (d : D) (v : V), d.lt b = true → Rp K ρ l H d v → Rp K ρ' l' H d v
  | .non, v, _, h => h
  | .bl b, v, _, h => h
  | .int i, v, _, h => h
  | .str s, v, _, h => h
  | .tup ds, v, g, ⟨a, xs, e, q, r⟩ => ⟨a, xs, e, ⟨fun y => q.1 (k.live a y), q.2⟩, Rps.shr k ds xs g r⟩
  | .lst ds, v, g, ⟨a, xs, e, q, r⟩ => ⟨a, xs, e, q.imp (fun z => ⟨fun y => z.1 (k.live a y), z.2⟩) _root_.id, Rps.shr k ds xs g r⟩
  | .dic ds, v, g, ⟨a, kvs, od, e, n, q, r⟩ => ⟨a, kvs, od, e, fun z => n (k.live a z), q, Rpp.shr k ds kvs g r⟩
  | .set _, _, _, h => h
  | .ref n, v, g, ⟨a, e, h⟩ => ⟨a, by rw [k.cut n (of_decide_eq_true g)]; exact e, h⟩
theorem Rps.shr {K : PySem.W.Frag} (k : Shr ρ ρ' b l l') : ∀ (ds : List D) (xs : List V), D.lts b ds = true → Rps K ρ l H ds xs → Rps K ρ' l' H ds xs
  | [], xs, _, h => h
  | d :: r, xs, g, ⟨x, t, e, h, h2⟩ => by
    have g' : (D.lt b d && D.lts b r) = true := g
    rw [Bool.and_eq_true] at g'
    exact ⟨x, t, e, Rp.shr k d x g'.1 h, Rps.shr k r t g'.2 h2⟩
theorem Rpp.shr {K : PySem.W.Frag} (k : Shr ρ ρ' b l l') : ∀ (ds : List (D × D)) (xs : List (Key × V)), D.ltps b ds = true → Rpp K ρ l H ds xs → Rpp K ρ' l' H ds xs
  | [], xs, _, h => h
  | (kk, d) :: r, xs, g, ⟨q, x, t, e, hk, h, h2⟩ => by
    have g' : (D.lt b kk && D.lt b d && D.ltps b r) = true := g
    rw [Bool.and_eq_true, Bool.and_eq_true] at g'
    exact ⟨q, x, t, e, hk, Rp.shr k d x g'.1.2 h, Rpp.shr k r t g'.2 h2⟩
end
theorem Rpt.shr {K : PySem.W.Frag} (k : Shr ρ ρ' b l l') : ∀ (ds : List (D × D)) (xs : List (List Key × V)), D.ltps b ds = true → Rpt K ρ l H ds xs → Rpt K ρ' l' H ds xs
  | [], xs, _, h => h
  | (kk, d) :: r, xs, g, ⟨q, x, t, e, hk, h, h2⟩ => by
    have g' : (D.lt b kk && D.lt b d && D.ltps b r) = true := g
    rw [Bool.and_eq_true, Bool.and_eq_true] at g'
    exact ⟨q, x, t, e, hk, Rp.shr k d x g'.1.2 h, Rpt.shr k r t g'.2 h2⟩
theorem fieldR.shr (k : Shr ρ ρ' b l l') : ∀ (fs : List (Nat × D)) (xs : List (Str × V)), fldLt b fs = true → fieldR C ρ l H fs xs → fieldR C ρ' l' H fs xs
  | [], xs, _, h => h
  | (f, d) :: r, xs, g, ⟨x, t, e, h, h2⟩ => by
    have g' : (D.lt b d && fldLt b r) = true := g
    rw [Bool.and_eq_true] at g'
    exact ⟨x, t, e, Rp.shr k d x g'.1 h, fieldR.shr k r t g'.2 h2⟩

/-! ### states -/
def EnvR (K : PySem.W.Frag) (ρ : List Addr) (l : Addr → Prop) (H : Hp) (env : Env) (σ : L2.St) : Prop :=
  env.length = σ.length ∧ ∀ (i : Nat) (d : D), env[i]? = some (some d) → ∃ v, σ[i]? = some (some v) ∧ Rp K ρ l H d v
theorem EnvR.kp {K : PySem.W.Frag} {env : Env} {σ : L2.St} (k : Kp ρ l H ρ' l' H') (e : EnvR K ρ l H env σ) : EnvR K ρ' l' H' env σ :=
  ⟨e.1, fun i d h => let ⟨v, h1, h2⟩ := e.2 i d h; ⟨v, h1, Rp.kp k d v h2⟩⟩
structure At (C : Cxt) (b : Nat) (ρ : List Addr) (S : Sto) (H : Hp) (env : Env) (σ : L2.St) : Prop where
  good : Good C b ρ S H
  env : EnvR C.KR ρ (lv C ρ S) H env σ
/-- an exception: its class, its own dict -/
def ExR (C : Cxt) (ρ : List Addr) (l : Addr → Prop) (H : Hp) (x : Xn) (u : Value) (d : Option Addr) : Prop :=
  ∃ A dx fs, C.cls x.cls = some A ∧ u = .ref A ∧ d = some dx ∧ H dx = some (.xd fs) ∧ x.args.length = (C.xf x.cls).length ∧ fieldR C ρ l H ((C.xf x.cls).zip x.args) fs
def Out {α : Type} (C : Cxt) (b : Nat) (W : WX) (ρ : List Addr) (S : Sto) (H : Hp) (σ : L2.St) (r : Rs α) (R : α → Sto → List Addr → Hp → Prop) : Prop :=
  match r with
  | .ok a S' => ∀ ρ' H', Le C b ρ S H ρ' S' H' → Good C b ρ' S' H' → R a S' ρ' H'
  | .ex x S' => ∀ ρ' H' u d, Le C b ρ S H ρ' S' H' → Good C b ρ' S' H' → ExR C ρ' (lv C ρ' S') H' x u d → W u d σ H'
  | .no => False
theorem Out.reb {α : Type} {W : WX} {σ : L2.St} {r : Rs α} {R : α → Sto → List Addr → Hp → Prop} (x : Le C b ρ S H ρ1 S1 H1) (h : Out C b W ρ S H σ r R) : Out C b W ρ1 S1 H1 σ r R := by
  cases r with
  | ok a S' => exact fun ρ' H' y g => h ρ' H' (x.trans y) g
  | ex a S' => exact fun ρ' H' u d y g => h ρ' H' u d (x.trans y) g
  | no => exact h
theorem Out.imp {α : Type} {W : WX} {σ : L2.St} {r : Rs α} {R R' : α → Sto → List Addr → Hp → Prop} (h : Out C b W ρ S H σ r R) (i : ∀ a S' ρ' H', Le C b ρ S H ρ' S' H' → Good C b ρ' S' H' → R a S' ρ' H' → R' a S' ρ' H') : Out C b W ρ S H σ r R' := by
  cases r with
  | ok a S' => exact fun ρ' H' y g => i a S' ρ' H' y g (h ρ' H' y g)
  | ex a S' => exact h
  | no => exact h
theorem Out.bind {α β : Type} {W : WX} {σ : L2.St} {r : Rs α} {k : α → Sto → Rs β} {R : β → Sto → List Addr → Hp → Prop} (h : Out C b W ρ S H σ (r.to k) R) :
    Out C b W ρ S H σ r (fun a S' ρ' H' => Out C b W ρ' S' H' σ (k a S') R) := by
  cases r with
  | ok a S' => exact fun ρ' H' y g => Out.reb y h
  | ex a S' => exact h
  | no => exact h
/-- the readings -/
def tE (C : Cxt) (b : Nat) (W : WX) (f : Env → Sto → Rs D) : TE := fun σ H Q =>
  ∃ ρ S env, At C b ρ S H env σ ∧ Out C b W ρ S H σ (f env S) fun d S' ρ' H' => ∀ v, Rp C.KR ρ' (lv C ρ' S') H' d v → Q v H'
def tA (C : Cxt) (b : Nat) (W : WX) (f : Env → Sto → Rs (List D)) : TA := fun σ H Q =>
  ∃ ρ S env, At C b ρ S H env σ ∧ Out C b W ρ S H σ (f env S) fun d S' ρ' H' => ∀ v, Rps C.KR ρ' (lv C ρ' S') H' d v → Q v H'
theorem tE_of {W : WX} {σ : L2.St} {f : Env → Sto → Rs D} {env : Env} {Q : VK} {R : D → Sto → List Addr → Hp → Prop} (a : At C b ρ S H env σ) (h : Out C b W ρ S H σ (f env S) R)
    (hQ : ∀ d S' ρ' H' v, Le C b ρ S H ρ' S' H' → At C b ρ' S' H' env σ → Rp C.KR ρ' (lv C ρ' S') H' d v → R d S' ρ' H' → Q v H') : tE C b W f σ H Q :=
  ⟨ρ, S, env, a, h.imp fun d S' ρ' H' y g r v hv => hQ d S' ρ' H' v y ⟨g, a.env.kp y.kp⟩ hv r⟩
theorem tA_of {W : WX} {σ : L2.St} {f : Env → Sto → Rs (List D)} {env : Env} {Q : List V → Hp → Prop} {R : List D → Sto → List Addr → Hp → Prop} (a : At C b ρ S H env σ) (h : Out C b W ρ S H σ (f env S) R)
    (hQ : ∀ d S' ρ' H' v, Le C b ρ S H ρ' S' H' → At C b ρ' S' H' env σ → Rps C.KR ρ' (lv C ρ' S') H' d v → R d S' ρ' H' → Q v H') : tA C b W f σ H Q :=
  ⟨ρ, S, env, a, h.imp fun d S' ρ' H' y g r v hv => hQ d S' ρ' H' v y ⟨g, a.env.kp y.kp⟩ hv r⟩
end
end Mi

namespace Mi
open PySem L2 PySem.Spec PyProof.Rows

/-! ## Part 2: the store's steps -/
section
variable {C : Cxt} {b : Nat} {ρ ρ' ρ1 ρ2 : List Addr} {S S' S1 S2 : Sto} {H H' H1 H2 : Hp} {l l' : Addr → Prop}
theorem OkO.there {a : Addr} {o : MO} (h : OkO C ρ l H a o) (hd : o ≠ .dead) : ∃ u, H a = some u := by
  cases o with
  | dead => exact absurd rfl hd
  | lst d => obtain ⟨xs, e, _⟩ := h; exact ⟨_, e⟩
  | dic d => obtain ⟨xs, e, _⟩ := h; exact ⟨_, e⟩
  | dct d => obtain ⟨_, xs, e, _⟩ := h; exact ⟨_, e⟩
  | ins c fs => obtain ⟨A, dx, fv, e, _⟩ := h; exact ⟨_, e⟩
  | lck o => exact h.elim
theorem Good.lvSome (g : Good C b ρ S H) {a : Addr} (h : lv C ρ S a) : ∃ u, H a = some u := by
  rcases h with ⟨n, o, e, hd, er⟩ | h
  · exact (g.obj n o a e er).there hd
  · exact (g.accH a h).1
theorem Good.fresh (g : Good C b ρ S H) {p : Addr} (h : H p = none) : ¬ lv C ρ S p := fun z => by
  obtain ⟨u, e⟩ := g.lvSome z
  rw [h] at e; cases e
/-- an object is carried over: what it is stays where it is -/
theorem OkO.kp {a : Addr} {o : MO} (k : Kp ρ l H ρ' l' H') (e : ∀ u, H a = some u → H' a = some u) (h : OkO C ρ l H a o) : OkO C ρ' l' H' a o := by
  cases o with
  | dead => trivial
  | lst d => obtain ⟨xs, h1, h2⟩ := h; exact ⟨xs, e _ h1, Rps.kp k _ _ h2⟩
  | dic d => obtain ⟨xs, h1, h2⟩ := h; exact ⟨xs, e _ h1, Rpp.kp k _ _ h2⟩
  | dct d => obtain ⟨h0, xs, h1, h2⟩ := h; exact ⟨h0, xs, e _ h1, Rpt.kp k _ _ h2⟩
  | ins c fs => obtain ⟨A, dx, fv, h1, h2, h3⟩ := h; exact ⟨A, dx, fv, e _ h1, h2, fieldR.kp k _ _ h3⟩
  | lck o => exact h
/-- something new that nobody names -/
theorem Good.anon (g : Good C b ρ S H) {p : Addr} (hp : H p = none) (o : HO) : Le C b ρ S H ρ S (upd H p o) ∧ Good C b ρ S (upd H p o) := by
  have ne : ∀ a u, H a = some u → upd H p o a = some u := fun a u e => by rw [upd_ne (ne_of_none e hp)]; exact e
  have le : Le C b ρ S H ρ S (upd H p o) := ⟨List.prefix_refl _, fun a u e n => ⟨ne a u e, n⟩, fun n _ o' e => ⟨o', e, fun _ x => x⟩, Nat.le_refl _, fun _ _ h => h, fun a _ u e => ne a u e⟩
  exact ⟨le, g.len, g.bb, fun n u a e er => (g.obj n u a e er).kp le.kp (ne a), fun a h => ⟨(g.accH a h).1.imp fun u e => ne a u e, (g.accH a h).2⟩, g.inj⟩
theorem lvn_snoc {p a : Addr} {o : MO} (hl : ρ.length = S.length) (h : lvn (ρ ++ [p]) (S ++ [o]) a) : lvn ρ S a ∨ a = p := by
  obtain ⟨n, u, e, hd, er⟩ := h
  by_cases hn : n < S.length
  · rw [List.getElem?_append_left hn] at e
    rw [List.getElem?_append_left (by omega)] at er
    exact .inl ⟨n, u, e, hd, er⟩
  · rw [List.getElem?_append_right (by omega)] at er
    have : n - ρ.length = 0 := by
      by_cases z : n - ρ.length = 0
      · exact z
      · rw [List.getElem?_eq_none (by simp; omega)] at er; cases er
    rw [this] at er
    exact .inr (by simpa using er.symm)
theorem lv_snoc {p a : Addr} {o : MO} (hl : ρ.length = S.length) (h : lv C (ρ ++ [p]) (S ++ [o]) a) : lv C ρ S a ∨ a = p := by
  rcases h with h | h
  · exact (lvn_snoc hl h).imp .inl _root_.id
  · exact .inl (.inr h)
/-- a new object of the store -/
theorem Good.named (g : Good C b ρ S H) {p : Addr} (hp : H p = none) {o : HO} {u : MO} (hu : ∀ (le : Le C b ρ S H (ρ ++ [p]) (S ++ [u]) (upd H p o)), OkO C (ρ ++ [p]) (lv C (ρ ++ [p]) (S ++ [u])) (upd H p o) p u.here) :
    Le C b ρ S H (ρ ++ [p]) (S ++ [u]) (upd H p o) ∧ Good C b (ρ ++ [p]) (S ++ [u]) (upd H p o) := by
  have ne : ∀ a w, H a = some w → upd H p o a = some w := fun a w e => by rw [upd_ne (ne_of_none e hp)]; exact e
  have le : Le C b ρ S H (ρ ++ [p]) (S ++ [u]) (upd H p o) := ⟨List.prefix_append _ _, fun a w e n => ⟨ne a w e, fun z => by
      rcases lv_snoc g.len z with z | z
      · exact n z
      · rw [z, hp] at e; cases e⟩, fun n hn o' e => ⟨o', by
        rw [List.getElem?_append_left (Nat.lt_of_lt_of_le hn g.bb)] at e; exact e, fun _ x => x⟩, by simp, fun n w h => by
        rw [List.getElem?_append_left (List.getElem?_eq_some_iff.mp h).1]; exact h, fun a _ u e => ne a u e⟩
  have spl : ∀ {n : Nat} {w : MO} {a : Addr}, (S ++ [u])[n]? = some w → (ρ ++ [p])[n]? = some a → (S[n]? = some w ∧ ρ[n]? = some a) ∨ (n = S.length ∧ w = u ∧ a = p) := fun {n w a} e er => by
    by_cases hn : n < S.length
    · rw [List.getElem?_append_left hn] at e
      rw [List.getElem?_append_left (by rw [g.len]; exact hn)] at er
      exact .inl ⟨e, er⟩
    · have hn2 : n < (S ++ [u]).length := (List.getElem?_eq_some_iff.mp e).1
      have hn3 : n = S.length := by simp at hn2; omega
      subst hn3
      rw [List.getElem?_append_right (Nat.le_refl _)] at e
      rw [← g.len, List.getElem?_append_right (Nat.le_refl _)] at er
      exact .inr ⟨rfl, by simpa using e.symm, by simpa using er.symm⟩
  refine ⟨le, by simp [g.len], Nat.le_trans g.bb (by simp), fun n w a e er => ?_, fun a h => ⟨(g.accH a h).1.imp fun u e => ne a u e, fun z => ?_⟩, fun n m w w' a e e' hd hd' er er' => ?_⟩
  · rcases spl e er with ⟨e, er⟩ | ⟨_, rfl, rfl⟩
    · exact (g.obj n w a e er).kp le.kp (ne a)
    · exact hu le
  · rcases lvn_snoc g.len z with z | z
    · exact (g.accH a h).2 z
    · obtain ⟨u, e⟩ := (g.accH a h).1
      rw [z, hp] at e; cases e
  · rcases spl e er with ⟨e, er⟩ | ⟨h1, h2, h3⟩
    · rcases spl e' er' with ⟨e', er'⟩ | ⟨h1', h2', h3'⟩
      · exact g.inj n m w w' a e e' hd hd' er er'
      · exact absurd (.inl ⟨n, w, e, hd, by rw [← h3']; exact er⟩) (g.fresh hp)
    · rcases spl e' er' with ⟨e', er'⟩ | ⟨h1', h2', h3'⟩
      · exact absurd (.inl ⟨m, w', e', hd', by rw [← h3]; exact er'⟩) (g.fresh hp)
      · omega
theorem lvn_set {n : Nat} {u : MO} {a : Addr} (hu : ∀ o, S[n]? = some o → u.here ≠ .dead → o.here ≠ .dead) (h : lvn ρ (S.set n u) a) : lvn ρ S a := by
  obtain ⟨m, w, e, hd, er⟩ := h
  by_cases hm : n = m
  · subst hm
    by_cases hn : n < S.length
    · rw [List.getElem?_set_self hn] at e
      cases e
      exact ⟨n, S[n], List.getElem?_eq_getElem hn, hu _ (List.getElem?_eq_getElem hn) hd, er⟩
    · rw [List.getElem?_eq_none (by simp; omega)] at e; cases e
  · rw [List.getElem?_set_ne hm] at e
    exact ⟨m, w, e, hd, er⟩
theorem lv_set {n : Nat} {u : MO} {a : Addr} (hu : ∀ o, S[n]? = some o → u.here ≠ .dead → o.here ≠ .dead) (h : lv C ρ (S.set n u) a) : lv C ρ S a :=
  h.imp (lvn_set hu) _root_.id
/-- an object of the store is written -/
theorem Good.write (g : Good C b ρ S H) {n : Nat} {a : Addr} {o u : MO} {ho : HO} (e : S[n]? = some o) (er : ρ[n]? = some a) (hd : o.here = o ∧ o ≠ .dead) (hr : n < b → ∀ m, o.here.lt m = true → u.here.lt m = true)
    (hu : ∀ (le : Le C b ρ S H ρ (S.set n u) (upd H a ho)), OkO C ρ (lv C ρ (S.set n u)) (upd H a ho) a u.here) :
    Le C b ρ S H ρ (S.set n u) (upd H a ho) ∧ Good C b ρ (S.set n u) (upd H a ho) := by
  have hn : n < S.length := (List.getElem?_eq_some_iff.mp e).1
  obtain ⟨hk, hd⟩ := hd
  have hd : o.here ≠ .dead := by rw [hk]; exact hd
  have la : lv C ρ S a := .inl ⟨n, o, e, hd, er⟩
  have subn : ∀ c, lvn ρ (S.set n u) c → lvn ρ S c := fun c => lvn_set fun w ew _ => by rw [e] at ew; cases ew; exact hd
  have sub : ∀ c, lv C ρ (S.set n u) c → lv C ρ S c := fun c h => h.imp (subn c) _root_.id
  have le : Le C b ρ S H ρ (S.set n u) (upd H a ho) := ⟨List.prefix_refl _, fun c w ec nc => ⟨by rw [upd_ne (fun z : c = a => nc (by rw [z]; exact la))]; exact ec, fun z => nc (sub c z)⟩, fun m hm o' e' => by
      by_cases q : n = m
      · subst q
        rw [List.getElem?_set_self hn] at e'
        cases e'
        exact ⟨o, e, hr hm⟩
      · rw [List.getElem?_set_ne q] at e'
        exact ⟨o', e', fun _ x => x⟩, by simp, fun m w h => by
        by_cases q : n = m
        · subst q
          rw [e] at h; cases h
          cases w <;> first | (exact absurd hk (by intro z; cases z)) | cases hk
        · rw [List.getElem?_set_ne q]; exact h, fun c h w ew => by
        rw [upd_ne (fun z : c = a => (g.accH c h).2 ⟨n, o, e, hd, by rw [z]; exact er⟩)]; exact ew⟩
  refine ⟨le, by simp [g.len], by simpa using g.bb, fun m w c ew erc => ?_, fun c h => ⟨?_, fun z => (g.accH c h).2 (subn c z)⟩, fun m m' w w' c e1 e2 d1 d2 r1 r2 => ?_⟩
  · by_cases q : n = m
    · subst q
      rw [List.getElem?_set_self hn] at ew
      cases ew
      rw [er] at erc; cases erc
      exact hu le
    · rw [List.getElem?_set_ne q] at ew
      have ok := g.obj m w c ew erc
      by_cases hw : w.here = .dead
      · rw [hw]; trivial
      · have hc : c ≠ a := fun z => q (g.inj n m o w a e ew hd hw er (by rw [← z]; exact erc))
        exact ok.kp le.kp fun v hv => by rw [upd_ne hc]; exact hv
  · have hc : c ≠ a := fun z => (g.accH c h).2 ⟨n, o, e, hd, by rw [z]; exact er⟩
    obtain ⟨u, eu⟩ := (g.accH c h).1
    exact ⟨u, by rw [upd_ne hc]; exact eu⟩
  · have old : ∀ {k : Nat} {w : MO}, (S.set n u)[k]? = some w → w.here ≠ .dead → ∃ w0, S[k]? = some w0 ∧ w0.here ≠ .dead := fun {k w} ek hk => by
      by_cases q : n = k
      · subst q; exact ⟨o, e, hd⟩
      · rw [List.getElem?_set_ne q] at ek; exact ⟨w, ek, hk⟩
    obtain ⟨v1, f1, g1⟩ := old e1 d1
    obtain ⟨v2, f2, g2⟩ := old e2 d2
    exact g.inj m m' v1 v2 c f1 f2 g1 g2 r1 r2
/-- the same content, otherwise marked (locked, unlocked) -/
theorem Good.mark (g : Good C b ρ S H) {n : Nat} {o u : MO} (e : S[n]? = some o) (hh : u.here = o.here) (hk : ∀ w, o ≠ .lck w) : Le C b ρ S H ρ (S.set n u) H ∧ Good C b ρ (S.set n u) H := by
  have hn : n < S.length := (List.getElem?_eq_some_iff.mp e).1
  have old : ∀ {k : Nat} {w : MO}, (S.set n u)[k]? = some w → ∃ w0, S[k]? = some w0 ∧ w0.here = w.here := fun {k w} ek => by
    by_cases q : n = k
    · subst q
      rw [List.getElem?_set_self hn] at ek
      cases ek
      exact ⟨o, e, hh.symm⟩
    · rw [List.getElem?_set_ne q] at ek; exact ⟨w, ek, rfl⟩
  have subn : ∀ c, lvn ρ (S.set n u) c → lvn ρ S c := fun c ⟨m, w, ew, hd, er⟩ => by
    obtain ⟨w0, e0, h0⟩ := old ew
    exact ⟨m, w0, e0, h0 ▸ hd, er⟩
  have sub : ∀ c, lv C ρ (S.set n u) c → lv C ρ S c := fun c h => h.imp (subn c) _root_.id
  have le : Le C b ρ S H ρ (S.set n u) H := ⟨List.prefix_refl _, fun c w ec nc => ⟨ec, fun z => nc (sub c z)⟩, fun m hm o' e' => by
      obtain ⟨w0, e0, h0⟩ := old e'
      exact ⟨w0, e0, fun k hk => by rw [← h0]; exact hk⟩, by simp, fun m w h => by
        by_cases q : n = m
        · subst q
          rw [e] at h; cases h
          exact absurd rfl (hk _)
        · rw [List.getElem?_set_ne q]; exact h, fun _ _ _ h => h⟩
  refine ⟨le, by simp [g.len], by simpa using g.bb, fun m w c ew erc => ?_, fun c h => ⟨(g.accH c h).1, fun z => (g.accH c h).2 (subn c z)⟩, fun m m' w w' c e1 e2 d1 d2 r1 r2 => ?_⟩
  · obtain ⟨w0, e0, h0⟩ := old ew
    rw [← h0]
    exact (g.obj m w0 c e0 erc).kp le.kp fun v hv => hv
  · obtain ⟨v1, f1, g1⟩ := old e1
    obtain ⟨v2, f2, g2⟩ := old e2
    exact g.inj m m' v1 v2 c f1 f2 (g1 ▸ d1) (g2 ▸ d2) r1 r2
/-- an object of the store is given up: what it is stands still from now on -/
theorem Good.kill (g : Good C b ρ S H) {n : Nat} (hk : ∀ w, S[n]? ≠ some (MO.lck w)) : Le C b ρ S H ρ (S.set n .dead) H ∧ Good C b ρ (S.set n .dead) H := by
  have subn : ∀ c, lvn ρ (S.set n .dead) c → lvn ρ S c := fun c => lvn_set fun w ew hd => absurd rfl hd
  have sub : ∀ c, lv C ρ (S.set n .dead) c → lv C ρ S c := fun c h => h.imp (subn c) _root_.id
  have old : ∀ {k : Nat} {w : MO}, (S.set n .dead)[k]? = some w → w.here ≠ .dead → S[k]? = some w ∧ k ≠ n := fun {k w} ek hk => by
    by_cases q : n = k
    · subst q
      by_cases hn : n < S.length
      · rw [List.getElem?_set_self hn] at ek; cases ek; exact absurd rfl hk
      · rw [List.getElem?_eq_none (by simp; omega)] at ek; cases ek
    · rw [List.getElem?_set_ne q] at ek; exact ⟨ek, fun z => q z.symm⟩
  have le : Le C b ρ S H ρ (S.set n .dead) H := ⟨List.prefix_refl _, fun c w ec nc => ⟨ec, fun z => nc (sub c z)⟩, fun m hm o' e' => by
      by_cases hd : o'.here = .dead
      · have hm' : m < S.length := Nat.lt_of_lt_of_le hm g.bb
        exact ⟨S[m], List.getElem?_eq_getElem hm', fun _ _ => by rw [hd]; rfl⟩
      · exact ⟨o', (old e' hd).1, fun _ x => x⟩, by simp, fun m w h => by
        by_cases q : n = m
        · subst q; exact absurd h (hk w)
        · rw [List.getElem?_set_ne q]; exact h, fun _ _ _ h => h⟩
  refine ⟨le, by simp [g.len], by simpa using g.bb, fun m w c ew erc => ?_, fun c h => ⟨(g.accH c h).1, fun z => (g.accH c h).2 (subn c z)⟩, fun m m' w w' c e1 e2 d1 d2 r1 r2 => ?_⟩
  · by_cases hd : w.here = .dead
    · rw [hd]; trivial
    · exact (g.obj m w c (old ew hd).1 erc).kp le.kp fun v hv => hv
  · exact g.inj m m' w w' c (old e1 d1).1 (old e2 d2).1 d1 d2 r1 r2

/-- a lock is taken off: seen from where it was not yet on -/
theorem Good.unlock (le : Le C b ρ S H ρ' S' H') (g : Good C b ρ' S' H') {n : Nat} {o : MO} (e : S'[n]? = some (.lck o)) (ho : o.here = o) (h0 : ∀ w, S[n]? ≠ some (MO.lck w)) : Le C b ρ S H ρ' (S'.set n o) H' ∧ Good C b ρ' (S'.set n o) H' := by
  have hn : n < S'.length := (List.getElem?_eq_some_iff.mp e).1
  have old : ∀ {k : Nat} {w : MO}, (S'.set n o)[k]? = some w → ∃ w0, S'[k]? = some w0 ∧ w0.here = w.here := fun {k w} ek => by
    by_cases q : n = k
    · subst q
      rw [List.getElem?_set_self hn] at ek
      cases ek
      exact ⟨_, e, ho.symm⟩
    · rw [List.getElem?_set_ne q] at ek; exact ⟨w, ek, rfl⟩
  have subn : ∀ c, lvn ρ' (S'.set n o) c → lvn ρ' S' c := fun c ⟨m, w, ew, hd, er⟩ => by
    obtain ⟨w0, e0, h0⟩ := old ew
    exact ⟨m, w0, e0, h0 ▸ hd, er⟩
  have sub : ∀ c, lv C ρ' (S'.set n o) c → lv C ρ' S' c := fun c h => h.imp (subn c) _root_.id
  have kp : Kp ρ' (lv C ρ' S') H' ρ' (lv C ρ' (S'.set n o)) H' := ⟨List.prefix_refl _, fun c w ec nc => ⟨ec, fun z => nc (sub c z)⟩⟩
  refine ⟨⟨le.pre, fun c w ec nc => ⟨(le.keep c w ec nc).1, fun z => (le.keep c w ec nc).2 (sub c z)⟩, fun m hm o' e' => ?_, by simpa using le.len, fun m w h => ?_, le.accK⟩, by simp [g.len], by simpa using g.bb, fun m w c ew erc => ?_, fun c h => ⟨(g.accH c h).1, fun z => (g.accH c h).2 (subn c z)⟩, fun m m' w w' c e1 e2 d1 d2 r1 r2 => ?_⟩
  · obtain ⟨w0, e0, h1⟩ := old e'
    obtain ⟨w1, e1, h2⟩ := le.refs m hm w0 e0
    exact ⟨w1, e1, fun k hk => by rw [← h1]; exact h2 k hk⟩
  · by_cases q : n = m
    · subst q; exact absurd h (h0 w)
    · rw [List.getElem?_set_ne q]; exact le.lck m w h
  · obtain ⟨w0, e0, h0⟩ := old ew
    rw [← h0]
    exact (g.obj m w0 c e0 erc).kp kp fun v hv => hv
  · obtain ⟨v1, f1, g1⟩ := old e1
    obtain ⟨v2, f2, g2⟩ := old e2
    exact g.inj m m' v1 v2 c f1 f2 (g1 ▸ d1) (g2 ▸ d2) r1 r2

/-! ### reading what a value is -/
/-- a list, by value or of the store -/
theorem valL (g : Good C b ρ S H) {d : D} {v : V} {ds : List D} (h : Rp C.KR ρ (lv C ρ S) H d v) (e : d.val S = .lst ds) : ∃ a xs, v = .ref a ∧ SqL C.K H a xs ∧ Rps C.KR ρ (lv C ρ S) H ds xs := by
  cases d with
  | lst l => cases e; obtain ⟨a, xs, e1, q, r⟩ := h; exact ⟨a, xs, e1, q.sq, r⟩
  | ref n =>
    obtain ⟨a, er, e1⟩ := h
    unfold D.val at e
    cases es : S[n]? with
    | none => simp only [es] at e; cases e
    | some o =>
      simp only [es] at e
      have ok := g.obj n o a es er
      cases ho : o.here with
      | lst l => simp only [ho] at e; cases e; rw [ho] at ok; obtain ⟨xs, h1, h2⟩ := ok; exact ⟨a, xs, e1, SqL.of h1, h2⟩
      | dic l => simp only [ho] at e; cases e
      | dead => simp only [ho] at e; cases e
      | dct f => simp only [ho] at e; cases e
      | ins c f => simp only [ho] at e; cases e
      | lck o => simp only [ho] at e; cases e
  | _ => cases e
theorem valT (g : Good C b ρ S H) {d : D} {v : V} {ds : List D} (h : Rp C.KR ρ (lv C ρ S) H d v) (e : d.val S = .tup ds) : ∃ a xs, v = .ref a ∧ FzT C.KR (lv C ρ S) H a xs ∧ Rps C.KR ρ (lv C ρ S) H ds xs := by
  cases d with
  | tup l => cases e; exact h
  | ref n =>
    unfold D.val at e
    cases es : S[n]? with
    | none => simp only [es] at e; cases e
    | some o =>
      simp only [es] at e
      cases ho : o.here <;> (simp only [ho] at e; cases e)
  | _ => cases e
theorem valD (g : Good C b ρ S H) {d : D} {v : V} {ds : List (D × D)} (h : Rp C.KR ρ (lv C ρ S) H d v) (e : d.val S = .dic ds) : ∃ a kvs, v = .ref a ∧ Rd H a (.dK kvs) ∧ Rpp C.KR ρ (lv C ρ S) H ds kvs := by
  cases d with
  | dic l => cases e; obtain ⟨a, xs, od, e1, n, q, r⟩ := h; exact ⟨a, xs, e1, .inr ⟨od, q⟩, r⟩
  | ref n =>
    obtain ⟨a, er, e1⟩ := h
    unfold D.val at e
    cases es : S[n]? with
    | none => simp only [es] at e; cases e
    | some o =>
      simp only [es] at e
      have ok := g.obj n o a es er
      cases ho : o.here with
      | dic l => simp only [ho] at e; cases e; rw [ho] at ok; obtain ⟨xs, h1, h2⟩ := ok; exact ⟨a, xs, e1, .inl h1, h2⟩
      | lst l => simp only [ho] at e; cases e
      | dead => simp only [ho] at e; cases e
      | dct f => simp only [ho] at e; cases e
      | ins c f => simp only [ho] at e; cases e
      | lck o => simp only [ho] at e; cases e
  | _ => cases e
theorem valDn (g : Good C b ρ S H) {n : Nat} {v : V} {ds : List (D × D)} (h : Rp C.KR ρ (lv C ρ S) H (.ref n) v) (e : D.val S (.ref n) = .dic ds) : ∃ a kvs, v = .ref a ∧ H a = some (.dK kvs) ∧ Rpp C.KR ρ (lv C ρ S) H ds kvs := by
  obtain ⟨a, er, e1⟩ := h
  unfold D.val at e
  cases es : S[n]? with
  | none => simp only [es] at e; cases e
  | some o =>
    simp only [es] at e
    have ok := g.obj n o a es er
    cases ho : o.here with
    | dic l => simp only [ho] at e; cases e; rw [ho] at ok; obtain ⟨xs, h1, h2⟩ := ok; exact ⟨a, xs, e1, h1, h2⟩
    | lst l => simp only [ho] at e; cases e
    | dead => simp only [ho] at e; cases e
    | dct f => simp only [ho] at e; cases e
    | ins c f => simp only [ho] at e; cases e
    | lck o => simp only [ho] at e; cases e
/-- a value that is no object of the store is itself -/
theorem val_self {d : D} {x : D} (e : d.val S = x) (hx : ∀ l, x ≠ .lst l) (hd : ∀ l, x ≠ .dic l) : d = x := by
  cases d with
  | ref n =>
    unfold D.val at e
    cases es : S[n]? with
    | none => simp only [es] at e; exact e
    | some o =>
      simp only [es] at e
      cases ho : o.here with
      | lst l => simp only [ho] at e; exact absurd e.symm (hx l)
      | dic l => simp only [ho] at e; exact absurd e.symm (hd l)
      | dead => simp only [ho] at e; exact e
      | dct f => simp only [ho] at e; exact e
      | ins c f => simp only [ho] at e; exact e
      | lck o => simp only [ho] at e; exact e
  | _ => exact e
theorem valI (h : Rp C.KR ρ l H d v) {i : Int} (e : D.val S d = .int i) : v = .int i := by
  have := val_self e (by intro l z; cases z) (by intro l z; cases z)
  subst this; exact h
theorem valB (h : Rp C.KR ρ l H d v) {i : Bool} (e : D.val S d = .bl i) : v = .bl i := by
  have := val_self e (by intro l z; cases z) (by intro l z; cases z)
  subst this; exact h
theorem valS (h : Rp C.KR ρ l H d v) {s : List Nat} (e : D.val S d = .str s) : v = .str (strV s) ∧ okS s = true := by
  have := val_self e (by intro l z; cases z) (by intro l z; cases z)
  subst this; exact h
theorem valN (h : Rp C.KR ρ l H d v) (e : D.val S d = .non) : v = .non := by
  have := val_self e (by intro l z; cases z) (by intro l z; cases z)
  subst this; exact h
end
end Mi

namespace Mi
open PySem L2 PySem.Spec PyProof.Rows

/-! ## Part 3: operators and built-ins, by data -/
theorem PE_sub {X : Cx} {p : Expr} {t t' : TE} (h : PE X p t) (i : ∀ σ H Q, t' σ H Q → t σ H Q) : PE X p t' := ⟨fun pins s σ H Q I w => h.run pins s σ H Q I (i σ H Q w)⟩
theorem PT_sub {X : Cx} {p : Expr} {t t' : TT} (h : PT X p t) (i : ∀ σ H Q, t' σ H Q → t σ H Q) : PT X p t' := ⟨fun pins s σ H Q I w => h.run pins s σ H Q I (i σ H Q w)⟩
theorem PW_sub {X : Cx} {p : Expr} {t t' : TT} (h : PW X p t) (i : ∀ σ H Q, t' σ H Q → t σ H Q) : PW X p t' := ⟨fun wh pins s σ H Q I w => h.run wh pins s σ H Q I (i σ H Q w)⟩
theorem PA_sub {X : Cx} {p : List Expr} {t t' : TA} (h : PA X p t) (i : ∀ σ H Q, t' σ H Q → t σ H Q) : PA X p t' := ⟨fun pos pins s σ H Q I w => h.run pos pins s σ H Q I (i σ H Q w)⟩
theorem PS_sub {X : Cx} {p : Stmt} {t t' : TS} (h : PS X p t) (i : ∀ D σ H, t' D σ H → t D σ H) : PS X p t' := ⟨fun pins s σ H D I w => h.run pins s σ H D I (i D σ H w)⟩
theorem PSs_sub {X : Cx} {p : List Stmt} {t t' : TS} (h : PSs X p t) (i : ∀ D σ H, t' D σ H → t D σ H) : PSs X p t' := ⟨fun pins s σ H D I w => h.run pins s σ H D I (i D σ H w)⟩

theorem okS_append {a b : List Nat} : okS (a ++ b) = (okS a && okS b) := by simp [okS]
theorem okS_mem {a : List Nat} {c : Nat} (h : okS a = true) (m : c ∈ a) : okS [c] = true := by
  simp only [okS, List.all_eq_true] at h ⊢
  intro x hx
  simp at hx; subst hx
  exact h _ m
theorem okS_sub {a b : List Nat} (h : okS a = true) (m : ∀ c ∈ b, c ∈ a) : okS b = true := by
  simp only [okS, List.all_eq_true] at h ⊢
  exact fun x hx => h _ (m x hx)
theorem strV_append (a b : List Nat) : strV a ++ strV b = strV (a ++ b) := by
  show Str.append _ _ = _
  simp [Str.append, strV]

section
variable {X : Cx} {C : Cxt} {b : Nat} {ρ ρ' ρ1 ρ2 : List Addr} {S S' S1 S2 : Sto} {H H' H1 H2 : Hp} {l l' : Addr → Prop}
/-- what a wish bears -/
abbrev Fin1 (C : Cxt) (b : Nat) (ρ : List Addr) (S : Sto) (H : Hp) (d : D) (Q : VK) : Prop := ∀ ρ' H' v, Le C b ρ S H ρ' S H' → Good C b ρ' S H' → Rp C.KR ρ' (lv C ρ' S) H' d v → Q v H'
theorem fin_here (g : Good C b ρ S H) {d : D} {v : V} {Q : VK} (q : Fin1 C b ρ S H d Q) (r : Rp C.KR ρ (lv C ρ S) H d v) : Q v H := q ρ H v (Le.refl g.bb) g r
/-- a new tuple -/
theorem new_tup (g : Good C b ρ S H) {ds : List D} {xs : List V} (r : Rps C.KR ρ (lv C ρ S) H ds xs) {p : Addr} (hp : H p = none) :
    Le C b ρ S H ρ S (upd H p (.tup xs)) ∧ Good C b ρ S (upd H p (.tup xs)) ∧ Rp C.KR ρ (lv C ρ S) (upd H p (.tup xs)) (.tup ds) (.ref p) := by
  obtain ⟨le, g'⟩ := g.anon hp (.tup xs)
  exact ⟨le, g', p, xs, rfl, ⟨g.fresh hp, upd_same⟩, Rps.kp le.kp _ _ r⟩
theorem new_lst (g : Good C b ρ S H) {ds : List D} {xs : List V} (r : Rps C.KR ρ (lv C ρ S) H ds xs) {p : Addr} (hp : H p = none) :
    Le C b ρ S H ρ S (upd H p (.lst xs)) ∧ Good C b ρ S (upd H p (.lst xs)) ∧ Rp C.KR ρ (lv C ρ S) (upd H p (.lst xs)) (.lst ds) (.ref p) := by
  obtain ⟨le, g'⟩ := g.anon hp (.lst xs)
  exact ⟨le, g', p, xs, rfl, .inl ⟨g.fresh hp, .inl upd_same⟩, Rps.kp le.kp _ _ r⟩
theorem new_lstM (g : Good C b ρ S H) {ds : List D} {xs : List V} (r : Rps C.KR ρ (lv C ρ S) H ds xs) {p : Addr} (hp : H p = none) :
    Le C b ρ S H (ρ ++ [p]) (S ++ [.lst ds]) (upd H p (.lst xs)) ∧ Good C b (ρ ++ [p]) (S ++ [.lst ds]) (upd H p (.lst xs)) ∧ Rp C.KR (ρ ++ [p]) (lv C (ρ ++ [p]) (S ++ [.lst ds])) (upd H p (.lst xs)) (.ref S.length) (.ref p) := by
  obtain ⟨le, g'⟩ := g.named hp (o := .lst xs) (u := .lst ds) fun le => ⟨xs, upd_same, Rps.kp le.kp _ _ r⟩
  exact ⟨le, g', p, by rw [← g.len]; simp, rfl⟩
/-- a new list, by value or named: what newL gives -/
theorem new_L {m : Bool} {W : WX} {σ : L2.St} {Q : VK} (g : Good C b ρ S H) {ds : List D} {xs : List V} (r : Rps C.KR ρ (lv C ρ S) H ds xs) {p : Addr} (hp : H p = none)
    (o : Out C b W ρ S H σ (if m = true then .ok (.ref S.length) (S ++ [.lst ds]) else .ok (.lst ds) S) fun d S' ρ' H' => ∀ v, Rp C.KR ρ' (lv C ρ' S') H' d v → Q v H') : Q (.ref p) (upd H p (.lst xs)) := by
  cases m with
  | true =>
    obtain ⟨le, g', r'⟩ := new_lstM g r hp
    exact o _ _ le g' _ r'
  | false =>
    obtain ⟨le, g', r'⟩ := new_lst g r hp
    exact o _ _ le g' _ r'

def BOp.py : BOp → Operator
  | .add => .Add | .sub => .Sub | .mul => .Mult | .fdiv => .FloorDiv | .mod => .Mod | .pow => .Pow | .shl => .LShift | .shr => .RShift | .band => .BitAnd | .bor => .BitOr
def COp.py : COp → CmpOp
  | .eq => .Eq | .ne => .NotEq | .lt => .Lt | .le => .LtE | .gt => .Gt | .ge => .GtE | .is => .Is | .isnot => .IsNot | .mem => .In | .nmem => .NotIn

theorem list_addW (l m : Addr) (as bs : Array Value) (i j : Nat) (sl tl : Array (Option Value)) (hs : as.size + bs.size ≤ sizeLine) :
    Meets (Builtin.«list.__add__» ⟨[.ref l, .ref m], []⟩) (fun _ R s => s.heap.get? l = some { cls := .type "list", data := .seq as i, slots := sl } ∧ s.heap.get? m = some { cls := .type "list", data := .seq bs j, slots := tl } ∧
      R (.ok (.ret (Value.ref s.heap.objs.size))) { s with heap := s.heap.push { cls := .type "list", data := .seq (as ++ bs) } }) :=
  .of_wp fun prog w A R s h => by
    obtain ⟨hp, g, d, tk, os⟩ := s
    obtain ⟨h1, h2, h⟩ := h
    have f3 := PySem.AutoSeq1.sub_list_list
    wp_walk using wpAny_loadPart' h1, wpAny_loadPart' h2
    exact ⟨_, rfl, h⟩
theorem op_catL : OpR X (binaryOp .Add) (fun x y H Q => ∃ l m xs zs, x = .ref l ∧ y = .ref m ∧ SqL X.K H l xs ∧ SqL X.K H m zs ∧ xs.length + zs.length ≤ sizeLine ∧ ∀ p, H p = none → Q (.ref p) (upd H p (.lst (xs ++ zs)))) := by
  intro pins s σ H x y v u Q I rx ry h
  obtain ⟨l, m, xs, zs, rfl, rfl, h1, h2, hz, q⟩ := h
  cases rx
  cases ry
  obtain ⟨its, r, ⟨⟨c1, d1, t1, l1⟩, n, e, hc, hd, hda⟩, _⟩ := I.list h1
  obtain ⟨its2, r2, ⟨⟨c2, d2, t2, l2⟩, n2, e2, hc2, hd2, hda2⟩, _⟩ := I.list h2
  simp only at hc hd hda hc2 hd2 hda2
  subst hc hd hda hc2 hd2 hda2
  have ea : its.toArray ++ its2.toArray = (its ++ its2).toArray := by simp
  refine concat_meets ⟨_, e, rfl⟩ ⟨_, e2, rfl⟩ noFill_list_add seq_list_add PySem.F.slot_list_add PySem.F.entry_list_add (PySem.F.args_list_add_2 _ _)
    (list_addW l m its.toArray its2.toArray n n2 l1 l2 (by rw [List.size_toArray, List.size_toArray, ← r.length, ← r2.length]; exact hz)) ⟨e, e2, ?_⟩
  rw [ea]
  exact ⟨.ref _, _, I.lnew (t' := s.toks) (r.append r2) (by rw [List.length_append]; omega), rfl, q _ I.fresh⟩

theorem Rps.rep {K : PySem.W.Frag} {ds : List D} {xs : List V} (h : Rps K ρ l H ds xs) : ∀ n : Nat, Rps K ρ l H (List.replicate n ds).flatten (List.replicate n xs).flatten
  | 0 => by simp [Rps]
  | n + 1 => by
    rw [List.replicate_succ, List.replicate_succ, List.flatten_cons, List.flatten_cons]
    exact h.append (Rps.rep h n)
/-- two operands -/
theorem or_bin (hX : X.K = C.K) (op : BOp) : OpR X (binaryOp op.py) (fun x y H Q => ∃ b ρ S dx dy d, Good C b ρ S H ∧ Rp C.KR ρ (lv C ρ S) H dx x ∧ Rp C.KR ρ (lv C ρ S) H dy y ∧ binop op (dx.val S) (dy.val S) = some d ∧ Fin1 C b ρ S H d Q) := by
  rintro pins s σ H x y v u Q I rx ry ⟨b, ρ, S, dx, dy, d, g, hx, hy, e, q⟩
  generalize ex : dx.val S = vx at e
  generalize ey : dy.val S = vy at e
  unfold binop at e
  have two : ∀ {i j : Int}, vx = .int i → vy = .int j → x = .int i ∧ y = .int j := fun h1 h2 => ⟨valI hx (ex.trans h1), valI hy (ey.trans h2)⟩
  split at e
  · cases e; obtain ⟨rfl, rfl⟩ := two rfl rfl
    exact op_add pins s σ H _ _ v u Q I rx ry ⟨_, _, rfl, rfl, fin_here g q rfl⟩
  · cases e; obtain ⟨rfl, rfl⟩ := two rfl rfl
    exact op_sub pins s σ H _ _ v u Q I rx ry ⟨_, _, rfl, rfl, fin_here g q rfl⟩
  · split at e
    · rename_i hm
      cases e; obtain ⟨rfl, rfl⟩ := two rfl rfl
      refine op_mul pins s σ H _ _ v u Q I rx ry ⟨_, _, rfl, rfl, ?_, fin_here g q rfl⟩
      simp only [mulOk, Bool.or_eq_true, Bool.and_eq_true, decide_eq_true_eq] at hm
      exact hm
    · cases e
  · split at e
    · rename_i hm
      cases e; obtain ⟨rfl, rfl⟩ := two rfl rfl
      exact op_fdivW pins s σ H _ _ v u Q I rx ry ⟨_, _, rfl, rfl, wide_div (b := 64) hm.1 (by have := hm.1; have := hm.2; omega) (by decide) (by decide), fin_here g q rfl⟩
    · cases e
  · split at e
    · rename_i hm
      cases e; obtain ⟨rfl, rfl⟩ := two rfl rfl
      exact op_mod pins s σ H _ _ v u Q I rx ry ⟨_, _, rfl, rfl, hm, fin_here g q rfl⟩
    · cases e
  · split at e
    · rename_i hm
      cases e; obtain ⟨rfl, rfl⟩ := two rfl rfl
      exact op_pow pins s σ H _ _ v u Q I rx ry ⟨_, _, rfl, rfl, hm, fin_here g q rfl⟩
    · cases e
  · split at e
    · rename_i hm
      cases e; obtain ⟨rfl, rfl⟩ := two rfl rfl
      exact op_shl pins s σ H _ _ v u Q I rx ry ⟨_, _, rfl, rfl, hm, fin_here g q rfl⟩
    · cases e
  · split at e
    · rename_i hm
      cases e; obtain ⟨rfl, rfl⟩ := two rfl rfl
      exact op_shr pins s σ H _ _ v u Q I rx ry ⟨_, _, rfl, rfl, hm, fin_here g q rfl⟩
    · cases e
  · split at e
    · rename_i hm
      cases e
      obtain ⟨rfl, o1⟩ := valS hx ex
      obtain ⟨rfl, o2⟩ := valS hy ey
      refine op_add_str pins s σ H _ _ v u Q I rx ry ⟨_, _, rfl, rfl, hm, ?_⟩
      rw [strV_append]
      exact fin_here g q ⟨rfl, by rw [okS_append, o1, o2]; rfl⟩
    · cases e
  · split at e
    · rename_i hm
      cases e
      obtain ⟨p, xs, rfl, h1, r1⟩ := valT g hx ex
      obtain ⟨p2, ys, rfl, h2, r2⟩ := valT g hy ey
      refine op_catA pins s σ H _ _ v u Q I rx ry ⟨p, p2, xs, ys, rfl, rfl, hX ▸ h1.sq, hX ▸ h2.sq, by rw [← r1.length, ← r2.length]; exact hm, fun z => ?_, fun z1 z2 => ?_, fun z1 z2 p3 hp => ?_⟩
      · subst z
        have : _ = ([] : List D) := List.eq_nil_of_length_eq_zero (by have := r1.length; simpa using this)
        subst this
        exact fin_here g q ⟨p2, ys, rfl, h2, r2⟩
      · subst z2
        have : _ = ([] : List D) := List.eq_nil_of_length_eq_zero (by have := r2.length; simpa using this)
        subst this
        exact fin_here g q ⟨p, xs, rfl, h1, by rw [List.append_nil]; exact r1⟩
      · obtain ⟨le, g', r'⟩ := new_tup g (r1.append r2) hp
        exact q _ _ _ le g' r'
    · cases e
  · split at e
    · rename_i hm
      cases e
      obtain ⟨p, xs, rfl, h1, r1⟩ := valL g hx ex
      obtain ⟨p2, ys, rfl, h2, r2⟩ := valL g hy ey
      refine op_catL pins s σ H _ _ v u Q I rx ry ⟨p, p2, xs, ys, rfl, rfl, hX ▸ h1, hX ▸ h2, by rw [← r1.length, ← r2.length]; exact hm, fun p3 hp => ?_⟩
      obtain ⟨le, g', r'⟩ := new_lst g (r1.append r2) hp
      exact q _ _ _ le g' r'
    · cases e
  · split at e
    · rename_i hm
      cases e
      obtain ⟨p, xs, rfl, h1, r1⟩ := valT g hx ex
      have h2 := valI hy ey
      subst h2
      have hl := r1.length
      refine op_repT pins s σ H _ _ v u Q I rx ry ⟨p, _, xs, rfl, rfl, hX ▸ h1.sq, fun z => ?_, hm.2.1, hm.2.2.1, by rw [← hl]; exact hm.2.2.2, fun p3 hp => ?_⟩
      · subst z
        have : _ = ([] : List D) := List.eq_nil_of_length_eq_zero (by simpa using hl)
        subst this
        exact absurd hm.1 (by simp)
      · obtain ⟨le, g', r'⟩ := new_tup g (r1.rep _) hp
        exact q _ _ _ le g' r'
    · cases e
  · cases e
end
end Mi

namespace Mi
open PySem L2 PySem.Spec PyProof.Rows

/-! ## Part 4: comparisons -/
mutual
def D.toP : D → PyData
  | .non => .none
  | .bl b => .bool b
  | .int i => .int i
  | .str s => .str (strV s)
  | .tup l => .tuple (D.toPs l)
  | .lst l => .list (D.toPs l)
  | _ => .none
def D.toPs : List D → List PyData
  | [] => []
  | d :: r => D.toP d :: D.toPs r
end
theorem strV_beq (a b : List Nat) : (a == b) = (strV a == strV b) := by
  rw [Bool.eq_iff_iff, beq_iff_eq, beq_iff_eq]
  exact ⟨fun h => by rw [h], strV_inj⟩
mutual
theorem eq_toP {k : Nat} : ∀ (a b : D), a.dat k = true → b.dat k = true → D.eq a b = PyData.eqv a.toP b.toP
  | .non, .non, _, _ | .non, .bl _, _, _ | .non, .int _, _, _ | .non, .str _, _, _ | .non, .tup _, _, _ | .non, .lst _, _, _ => by simp [D.eq, D.toP, PyData.eqv]
  | .bl _, .non, _, _ | .bl _, .bl _, _, _ | .bl _, .str _, _, _ | .bl _, .tup _, _, _ | .bl _, .lst _, _, _ => by simp [D.eq, D.toP, PyData.eqv]
  | .bl _, .int _, _, _ => by simp [D.eq, D.toP, PyData.eqv, b2i]
  | .int _, .non, _, _ | .int _, .int _, _, _ | .int _, .str _, _, _ | .int _, .tup _, _, _ | .int _, .lst _, _, _ => by simp [D.eq, D.toP, PyData.eqv]
  | .int _, .bl _, _, _ => by simp [D.eq, D.toP, PyData.eqv, b2i]
  | .str _, .non, _, _ | .str _, .bl _, _, _ | .str _, .int _, _, _ | .str _, .tup _, _, _ | .str _, .lst _, _, _ => by simp [D.eq, D.toP, PyData.eqv]
  | .str a, .str b, _, _ => by simp only [D.eq, D.toP, PyData.eqv]; exact strV_beq a b
  | .tup _, .non, _, _ | .tup _, .bl _, _, _ | .tup _, .int _, _, _ | .tup _, .str _, _, _ | .tup _, .lst _, _, _ => by simp [D.eq, D.toP, PyData.eqv]
  | .lst _, .non, _, _ | .lst _, .bl _, _, _ | .lst _, .int _, _, _ | .lst _, .str _, _, _ | .lst _, .tup _, _, _ => by simp [D.eq, D.toP, PyData.eqv]
  | .tup a, .tup b, h1, h2 => by
    cases k with
    | zero => simp [D.dat] at h1
    | succ j =>
      simp only [D.dat] at h1 h2
      simp only [D.eq, D.toP, PyData.eqv]
      exact eqs_toP a b h1 h2
  | .lst a, .lst b, h1, h2 => by
    cases k with
    | zero => simp [D.dat] at h1
    | succ j =>
      simp only [D.dat] at h1 h2
      simp only [D.eq, D.toP, PyData.eqv]
      exact eqs_toP a b h1 h2
  | .dic _, b, h1, _ => by simp [D.dat] at h1
  | .set _, b, h1, _ => by simp [D.dat] at h1
  | .ref _, b, h1, _ => by simp [D.dat] at h1
  | .non, .dic _, _, h2 | .bl _, .dic _, _, h2 | .int _, .dic _, _, h2 | .str _, .dic _, _, h2 | .tup _, .dic _, _, h2 | .lst _, .dic _, _, h2 => by simp [D.dat] at h2
  | .non, .set _, _, h2 | .bl _, .set _, _, h2 | .int _, .set _, _, h2 | .str _, .set _, _, h2 | .tup _, .set _, _, h2 | .lst _, .set _, _, h2 => by simp [D.dat] at h2
  | .non, .ref _, _, h2 | .bl _, .ref _, _, h2 | .int _, .ref _, _, h2 | .str _, .ref _, _, h2 | .tup _, .ref _, _, h2 | .lst _, .ref _, _, h2 => by simp [D.dat] at h2
theorem eqs_toP {k : Nat} : ∀ (a b : List D), D.dats k a = true → D.dats k b = true → D.eqs a b = PyData.eqvAll (D.toPs a) (D.toPs b)
  | [], [], _, _ => by simp [D.eqs, D.toPs, PyData.eqvAll]
  | [], _ :: _, _, _ => by simp [D.eqs, D.toPs, PyData.eqvAll]
  | _ :: _, [], _, _ => by simp [D.eqs, D.toPs, PyData.eqvAll]
  | x :: r, y :: t, h1, h2 => by
    simp only [D.dats, Bool.and_eq_true] at h1 h2
    simp only [D.eqs, D.toPs, PyData.eqvAll]
    rw [eq_toP x y h1.1 h2.1, eqs_toP r t h1.2 h2.2]
end
theorem toPs_map : ∀ l : List D, D.toPs l = l.map D.toP
  | [] => rfl
  | d :: r => by rw [D.toPs, toPs_map r]; rfl
section
variable {K : PySem.W.Frag} {ρ : List Addr} {l : Addr → Prop} {H : Hp}
mutual
theorem Rp.dp {C : Cxt} {k : Nat} : ∀ (d : D) (v : V), d.dat k = true → Rp C.KR ρ l H d v → Dp C.K H v d.toP ∧ d.toP.canLay0 = true ∧ d.toP.depth ≤ k
  | .non, v, _, h => by cases (show v = .non from h); exact ⟨.non, rfl, Nat.zero_le _⟩
  | .bl b, v, _, h => by cases (show v = .bl b from h); exact ⟨.bl _, rfl, Nat.zero_le _⟩
  | .int b, v, _, h => by cases (show v = .int b from h); exact ⟨.int _, rfl, Nat.zero_le _⟩
  | .str s, v, _, ⟨e, o⟩ => by
    cases e
    refine ⟨.str _, ?_, Nat.zero_le _⟩
    show PyData.strOk (strV s) = true
    simpa [PyData.strOk, strV, okS] using o
  | .tup ds, v, h, ⟨a, xs, e, q, r⟩ => by
    cases e
    cases k with
    | zero => simp [D.dat] at h
    | succ j =>
      simp only [D.dat] at h
      obtain ⟨h1, h2, h3⟩ := Rps.dp ds xs h r
      exact ⟨.tup q.sq h1, h2, Nat.succ_le_succ h3⟩
  | .lst ds, v, h, ⟨a, xs, e, q, r⟩ => by
    cases e
    cases k with
    | zero => simp [D.dat] at h
    | succ j =>
      simp only [D.dat] at h
      obtain ⟨h1, h2, h3⟩ := Rps.dp ds xs h r
      exact ⟨.lst q.sq h1, h2, Nat.succ_le_succ h3⟩
  | .dic _, _, h, _ => by simp [D.dat] at h
  | .set _, _, h, _ => by simp [D.dat] at h
  | .ref _, _, h, _ => by simp [D.dat] at h
theorem Rps.dp {C : Cxt} {k : Nat} : ∀ (ds : List D) (xs : List V), D.dats k ds = true → Rps C.KR ρ l H ds xs → DpAll C.K H xs (D.toPs ds) ∧ PyData.canLayAll0 (D.toPs ds) = true ∧ PyData.depthAll (D.toPs ds) ≤ k
  | [], xs, _, h => by cases (show xs = [] from h); exact ⟨.nil, rfl, Nat.zero_le _⟩
  | d :: r, xs, h, ⟨x, t, e, h1, h2⟩ => by
    subst e
    simp only [D.dats, Bool.and_eq_true] at h
    obtain ⟨a1, a2, a3⟩ := Rp.dp d x h.1 h1
    obtain ⟨b1, b2, b3⟩ := Rps.dp r t h.2 h2
    refine ⟨.cons a1 b1, ?_, ?_⟩
    · simp only [D.toPs, PyData.canLayAll0, a2, b2, Bool.and_self]
    · simp only [D.toPs, PyData.depthAll]; exact Nat.max_le.mpr ⟨a3, b3⟩
end
theorem shaped_of {p : PyData} {k : Nat} (h1 : p.canLay0 = true) (h2 : p.depth ≤ k) (hk : k ≤ 64 := by decide) : SeqAt.shaped p = true := by
  unfold SeqAt.shaped
  rw [h1, decide_eq_true (Nat.le_trans h2 hk)]; rfl
end
theorem Paired_of {α β : Type} : True := trivial
section
variable {X : Cx} {C : Cxt} {b : Nat} {ρ ρ' ρ1 ρ2 : List Addr} {S S' S1 S2 : Sto} {H H' H1 H2 : Hp} {l l' : Addr → Prop}
/-- the data that a value is, for == -/
theorem val_dp {k : Nat} (g : Good C b ρ S H) {d : D} {v : V} (h : Rp C.KR ρ (lv C ρ S) H d v) (e : (d.val S).dat k = true) : Dp C.K H v (d.val S).toP ∧ (d.val S).toP.canLay0 = true ∧ (d.val S).toP.depth ≤ k := by
  cases ev : d.val S with
  | lst ds =>
    rw [ev] at e
    obtain ⟨a, xs, rfl, h1, h2⟩ := valL g h ev
    cases k with
    | zero => simp [D.dat] at e
    | succ j =>
      simp only [D.dat] at e
      obtain ⟨a1, a2, a3⟩ := Rps.dp ds xs e h2
      exact ⟨.lst h1 a1, a2, Nat.succ_le_succ a3⟩
  | dic ds => rw [ev] at e; simp [D.dat] at e
  | _ =>
    have := val_self ev (by intro l z; cases z) (by intro l z; cases z)
    rw [ev] at e
    rw [this] at h
    exact Rp.dp _ v e h
theorem getD_val : ∀ {kvs : List (D × D)} {qs : List (Key × V)} {k : D} {q : Key}, Rpp C.KR ρ l H kvs qs → keyD k q → (match getD k kvs with
    | some d => ∃ v, valV qs q = some v ∧ Rp C.KR ρ l H d v
    | none => valV qs q = none)
  | [], qs, k, q, h, hk => by cases (show qs = [] from h); rfl
  | (a, d) :: r, qs, k, q, ⟨q0, x, t, e, h0, h1, h2⟩, hk => by
    subst e
    have key : keyEq a k = decide (q0 = q) := by
      cases a with
      | int i =>
        cases (show q0 = Sum.inl i from h0)
        cases k with
        | int j => cases (show q = Sum.inl j from hk); simp [keyEq]; rw [Bool.eq_iff_iff]; simp
        | str s => obtain ⟨rfl, _⟩ := hk; simp [keyEq]
        | _ => exact hk.elim
      | str s =>
        obtain ⟨rfl, _⟩ := h0
        cases k with
        | int j => cases (show q = Sum.inl j from hk); simp [keyEq]
        | str s' =>
          obtain ⟨rfl, _⟩ := hk
          simp only [keyEq]
          rw [Bool.eq_iff_iff]
          simp only [beq_iff_eq, decide_eq_true_eq]
          exact ⟨fun z => by rw [z], fun z => strV_inj (Sum.inr.inj z)⟩
        | _ => exact hk.elim
      | _ => exact h0.elim
    simp only [getD]
    rw [key]
    by_cases z : q0 = q
    · subst z
      simp only [decide_true, if_true]
      exact ⟨x, by simp [valV], h1⟩
    · simp only [decide_eq_false z, Bool.false_eq_true, if_false]
      have ih := getD_val (k := k) (q := q) h2 hk
      have e2 : valV ((q0, x) :: t) q = valV t q := by simp [valV, List.find?_cons, z]
      rw [e2]
      exact ih
theorem isKey_key {d : D} {v : V} (h : Rp C.KR ρ l H d v) (hk : isKey d = true) : ∃ q, keyD d q ∧ v = kV q := by
  cases d with
  | int i => cases (show v = .int i from h); exact ⟨.inl i, rfl, rfl⟩
  | str s => obtain ⟨rfl, o⟩ := h; exact ⟨.inr (strV s), ⟨rfl, o⟩, rfl⟩
  | _ => exact absurd hk (by simp [isKey])
theorem val_key {d : D} (h : isKey (d.val S) = true) : d.val S = d := by
  cases e : d.val S with
  | int i => exact (val_self e (by intro l z; cases z) (by intro l z; cases z)).symm
  | str i => exact (val_self e (by intro l z; cases z) (by intro l z; cases z)).symm
  | _ => rw [e] at h; exact absurd h (by simp [isKey])
theorem getD_none {k : D} {kvs : List (D × D)} {qs : List (Key × V)} {q : Key} (h : Rpp C.KR ρ l H kvs qs) (hk : keyD k q) : (getD k kvs).isSome = (valV qs q).isSome := by
  have := getD_val h hk
  cases e : getD k kvs with
  | none => rw [e] at this; simp only at this; rw [this]; rfl
  | some d => rw [e] at this; simp only at this; obtain ⟨v, h1, _⟩ := this; rw [h1]; rfl

theorem dats_mem {k : Nat} : ∀ (ds : List D), D.dats k ds = true → ∀ d ∈ ds, d.dat k = true
  | [], _, d, hd => by cases hd
  | a :: r, h, d, hm => by
    simp only [D.dats, Bool.and_eq_true] at h
    rcases List.mem_cons.mp hm with rfl | hm
    · exact h.1
    · exact dats_mem r h.2 d hm
theorem mem_toP {k : Nat} {x : D} : ∀ {ds : List D}, x.dat k = true → D.dats k ds = true → memD x ds = ((D.toPs ds).any fun z => PyData.eqv z x.toP)
  | [], _, _ => rfl
  | d :: r, h1, h2 => by
    simp only [D.dats, Bool.and_eq_true] at h2
    have ih := mem_toP (ds := r) h1 h2.2
    unfold memD at ih ⊢
    simp only [D.toPs, List.any_cons]
    rw [eq_toP d x h2.1 h1, ih]
theorem or_cmp (hX : X.K = C.K) (hu : X.A.units + 65 < cLine) (op : COp) : OpR X (compareOp op.py) (fun x y H Q => ∃ b ρ S dx dy k, Good C b ρ S H ∧ Rp C.KR ρ (lv C ρ S) H dx x ∧ Rp C.KR ρ (lv C ρ S) H dy y ∧ cmpop op (dx.val S) (dy.val S) = some k ∧ Q (.bl k) H) := by
  rintro pins s σ H x y v u Q I rx ry ⟨b, ρ, S, dx, dy, k, g, hx, hy, e, q⟩
  have nonB : ∀ {x : V} {d : D}, Rp C.KR ρ (lv C ρ S) H d x → decide (x = .non) = (match d.val S with | .non => true | _ => false) := fun {x d} h => by
    cases d with
    | non => cases (show x = .non from h); rfl
    | bl b => cases (show x = .bl b from h); rfl
    | int b => cases (show x = .int b from h); rfl
    | str b => obtain ⟨rfl, _⟩ := h; rfl
    | tup b => obtain ⟨a, xs, rfl, _⟩ := h; rfl
    | lst b => obtain ⟨a, xs, rfl, _⟩ := h; rfl
    | dic b => obtain ⟨a, xs, od, rfl, _⟩ := h; rfl
    | set b => exact h.elim
    | ref n =>
      obtain ⟨a, _, rfl⟩ := h
      rw [decide_eq_false (by intro z; cases z)]
      unfold D.val
      cases es : S[n]? with
      | none => simp only [es]
      | some o =>
        simp only [es]
        cases ho : o.here <;> simp only [ho]
  cases op with
  | eq =>
    simp only [cmpop] at e
    split at e
    · rename_i hd
      rw [Bool.and_eq_true] at hd
      cases e
      obtain ⟨p1, p2, p3⟩ := val_dp g hx hd.1
      obtain ⟨q1, q2, q3⟩ := val_dp g hy hd.2
      refine op_eqD (by omega) pins s σ H x y v u Q I rx ry ⟨_, _, hX ▸ p1, hX ▸ q1, shaped_of p2 p3, shaped_of q2 q3, ?_⟩
      rw [← eq_toP _ _ hd.1 hd.2]; exact q
    · cases e
  | ne =>
    simp only [cmpop] at e
    split at e
    · rename_i hd
      rw [Bool.and_eq_true] at hd
      cases e
      obtain ⟨p1, p2, p3⟩ := val_dp g hx hd.1
      obtain ⟨q1, q2, q3⟩ := val_dp g hy hd.2
      refine op_neD (by omega) pins s σ H x y v u Q I rx ry ⟨_, _, hX ▸ p1, hX ▸ q1, shaped_of p2 p3, shaped_of q2 q3, ?_⟩
      rw [← eq_toP _ _ hd.1 hd.2]; exact q
    · cases e
  | is =>
    simp only [cmpop] at e
    split at e
    · rename_i e1
      have hy' := valN hy e1
      have nb := nonB hx
      subst hy'
      refine op_isN pins s σ H x _ v u Q I rx ry ⟨rfl, ?_⟩
      rw [nb]
      split at e <;> (rename_i e2; cases e)
      · first
          | exact q
          | (rw [e2]; exact q)
      · first
          | exact q
          | (split
             · rename_i e3; exact absurd e3 e2
             · exact q)
    · cases e
  | isnot =>
    simp only [cmpop] at e
    split at e
    · rename_i e1
      have hy' := valN hy e1
      have nb := nonB hx
      subst hy'
      refine op_notN pins s σ H x _ v u Q I rx ry ⟨rfl, ?_⟩
      rw [nb]
      split at e <;> (rename_i e2; cases e)
      · first
          | exact q
          | (rw [e2]; exact q)
      · first
          | exact q
          | (split
             · rename_i e3; exact absurd e3 e2
             · exact q)
    · cases e
  | lt =>
    simp only [cmpop] at e
    split at e
    · rename_i e1 e2; cases e; cases valI hx e1; cases valI hy e2
      exact op_lt pins s σ H _ _ v u Q I rx ry ⟨_, _, rfl, rfl, q⟩
    · rename_i e1 e2; cases e; obtain ⟨rfl, _⟩ := valS hx e1; obtain ⟨rfl, _⟩ := valS hy e2
      exact op_lt_str pins s σ H _ _ v u Q I rx ry ⟨_, _, rfl, rfl, q⟩
    · cases e
  | le =>
    simp only [cmpop] at e
    split at e
    · rename_i e1 e2; cases e; cases valI hx e1; cases valI hy e2
      exact op_le pins s σ H _ _ v u Q I rx ry ⟨_, _, rfl, rfl, q⟩
    · cases e
  | gt =>
    simp only [cmpop] at e
    split at e
    · rename_i e1 e2; cases e; cases valI hx e1; cases valI hy e2
      exact op_gt pins s σ H _ _ v u Q I rx ry ⟨_, _, rfl, rfl, q⟩
    · cases e
  | ge =>
    simp only [cmpop] at e
    split at e
    · rename_i e1 e2; cases e; cases valI hx e1; cases valI hy e2
      exact op_ge pins s σ H _ _ v u Q I rx ry ⟨_, _, rfl, rfl, q⟩
    · cases e
  | mem =>
    simp only [cmpop] at e
    split at e
    · rename_i ds e1
      simp only [memO] at e
      split at e
      · rename_i hd
        rw [Bool.and_eq_true] at hd
        cases e
        obtain ⟨a, xs, rfl, h1, h2⟩ := valT g hy e1
        obtain ⟨p1, p2, p3⟩ := val_dp g hx hd.1
        obtain ⟨q1, q2, q3⟩ := Rps.dp ds xs hd.2 h2
        obtain ⟨as, r1⟩ := Dp.reads I _ x v (hX ▸ p1) rx
        obtain ⟨bs, r2⟩ := Dp.reads I (.tuple (D.toPs ds)) _ u (.tup (hX ▸ h1.sq) (hX ▸ q1)) ry
        refine SeqAt.in_tuple_reads r2 r1 q2 p2 (room_in_shaped (shaped_of p2 p3) hu) ⟨.bl _, H, I, rfl, ?_⟩
        rw [mem_toP hd.1 hd.2] at q; exact q
      · cases e
    · rename_i ds e1
      simp only [memO] at e
      split at e
      · rename_i hd
        rw [Bool.and_eq_true] at hd
        cases e
        obtain ⟨a, xs, rfl, h1, h2⟩ := valL g hy e1
        obtain ⟨p1, p2, p3⟩ := val_dp g hx hd.1
        obtain ⟨q1, q2, q3⟩ := Rps.dp ds xs hd.2 h2
        obtain ⟨as, r1⟩ := Dp.reads I _ x v (hX ▸ p1) rx
        obtain ⟨bs, r2⟩ := Dp.reads I (.list (D.toPs ds)) _ u (.lst (hX ▸ h1) (hX ▸ q1)) ry
        refine SeqAt.in_list_reads r2 r1 q2 p2 (room_in_shaped (shaped_of p2 p3) hu) ⟨.bl _, H, I, rfl, ?_⟩
        rw [mem_toP hd.1 hd.2] at q; exact q
      · cases e
    · rename_i ds e1
      split at e
      · rename_i hk
        cases e
        obtain ⟨a, kvs, rfl, h1, h2⟩ := valD g hy e1
        have hk2 : isKey dx = true := by rw [← val_key hk]; exact hk
        obtain ⟨kq, hk1, rfl⟩ := isKey_key hx hk2
        cases (show u = Value.ref a from ry)
        refine d_in (by omega) I (.inl ⟨_, _, h1, rfl, rfl⟩) rx fun s' I' => ⟨.bl _, H, I', rfl, ?_⟩
        rw [← getD_none h2 hk1]; rw [val_key hk] at q; exact q
      · cases e
    · rename_i ds e1
      split at e
      · rename_i z e2
        cases e
        obtain ⟨rfl, _⟩ := valS hx e2
        obtain ⟨rfl, _⟩ := valS hy e1
        exact op_in_sign pins s σ H _ _ v u Q I rx ry ⟨_, _, rfl, rfl, q⟩
      · cases e
    · cases e
  | nmem =>
    simp only [cmpop] at e
    split at e
    · rename_i ds e1
      simp only [memO] at e
      split at e
      · rename_i hd
        rw [Bool.and_eq_true] at hd
        cases e
        obtain ⟨a, xs, rfl, h1, h2⟩ := valT g hy e1
        obtain ⟨p1, p2, p3⟩ := val_dp g hx hd.1
        obtain ⟨q1, q2, q3⟩ := Rps.dp ds xs hd.2 h2
        obtain ⟨as, r1⟩ := Dp.reads I _ x v (hX ▸ p1) rx
        obtain ⟨bs, r2⟩ := Dp.reads I (.tuple (D.toPs ds)) _ u (.tup (hX ▸ h1.sq) (hX ▸ q1)) ry
        refine SeqAt.notIn_tuple_reads r2 r1 q2 p2 (room_in_shaped (shaped_of p2 p3) hu) ⟨.bl _, H, I, rfl, ?_⟩
        rw [mem_toP hd.1 hd.2] at q; exact q
      · cases e
    · rename_i ds e1
      simp only [memO] at e
      split at e
      · rename_i hd
        rw [Bool.and_eq_true] at hd
        cases e
        obtain ⟨a, xs, rfl, h1, h2⟩ := valL g hy e1
        obtain ⟨p1, p2, p3⟩ := val_dp g hx hd.1
        obtain ⟨q1, q2, q3⟩ := Rps.dp ds xs hd.2 h2
        obtain ⟨as, r1⟩ := Dp.reads I _ x v (hX ▸ p1) rx
        obtain ⟨bs, r2⟩ := Dp.reads I (.list (D.toPs ds)) _ u (.lst (hX ▸ h1) (hX ▸ q1)) ry
        refine SeqAt.notIn_list_reads r2 r1 q2 p2 (room_in_shaped (shaped_of p2 p3) hu) ⟨.bl _, H, I, rfl, ?_⟩
        rw [mem_toP hd.1 hd.2] at q; exact q
      · cases e
    · rename_i ds e1
      split at e
      · rename_i hk
        cases e
        obtain ⟨a, kvs, rfl, h1, h2⟩ := valD g hy e1
        have hk2 : isKey dx = true := by rw [← val_key hk]; exact hk
        obtain ⟨kq, hk1, rfl⟩ := isKey_key hx hk2
        cases (show u = Value.ref a from ry)
        refine d_notIn (by omega) I (.inl ⟨_, _, h1, rfl, rfl⟩) rx fun s' I' => ⟨.bl _, H, I', rfl, ?_⟩
        rw [← getD_none h2 hk1]; rw [val_key hk] at q; exact q
      · cases e
    · rename_i ds e1
      split at e
      · rename_i z e2
        cases e
        obtain ⟨rfl, _⟩ := valS hx e2
        obtain ⟨rfl, _⟩ := valS hy e1
        exact op_notIn_sign pins s σ H _ _ v u Q I rx ry ⟨_, _, rfl, rfl, q⟩
      · cases e
    · cases e
end
end Mi

namespace Mi
open PySem L2 PySem.Spec PyProof.Rows

/-! ## Part 5: subscripts, built-in functions and methods -/
section
variable {X : Cx} {C : Cxt} {b : Nat} {ρ ρ' ρ1 ρ2 : List Addr} {S S' S1 S2 : Sto} {H H' H1 H2 : Hp} {l l' : Addr → Prop}
theorem place_ix (n : Nat) (i : Int) : place n i = ixN n i := rfl
theorem bind_some {α β : Type} {o : Option α} {f : α → Option β} {x : β} (h : o.bind f = some x) : ∃ a, o = some a ∧ f a = some x := by
  cases o with
  | none => cases h
  | some a => exact ⟨a, rfl, h⟩
theorem Rps.at {K : PySem.W.Frag} {ds : List D} {xs : List V} {i : Int} {d : D} (r : Rps K ρ l H ds xs) (h : (place ds.length i).bind (fun j => ds[j]?) = some d) : ∃ v, atI xs i = some v ∧ Rp K ρ l H d v := by
  obtain ⟨j, h1, h2⟩ := bind_some h
  obtain ⟨v, h3, h4⟩ := r.get h2
  refine ⟨v, ?_, h4⟩
  unfold atI
  rw [← r.length, ← place_ix, h1]
  exact h3
/-- o[i] -/
theorem ir_index (hX : X.K = C.K) (hu : X.A.units + 65 < cLine) : IxR X (fun x y H Q => ∃ b ρ S dx dy d, Good C b ρ S H ∧ Rp C.KR ρ (lv C ρ S) H dx x ∧ Rp C.KR ρ (lv C ρ S) H dy y ∧ index (dx.val S) dy = some d ∧ Fin1 C b ρ S H d Q) := by
  rintro value slice pins s σ H x y v u Q I rx ry ⟨b, ρ, S, dx, dy, d, g, hx, hy, e, q⟩ hs
  generalize ex : dx.val S = vx at e
  unfold index at e
  split at e
  · obtain ⟨a, xs, rfl, h1, h2⟩ := valT g hx ex
    cases (show y = .int _ from hy)
    obtain ⟨w, h3, h4⟩ := h2.at e
    exact ix_tup value slice pins s σ H _ _ v u Q I rx ry ⟨a, xs, _, w, rfl, rfl, hX ▸ h1.sq, h3, fin_here g q h4⟩ hs
  · obtain ⟨a, xs, rfl, h1, h2⟩ := valL g hx ex
    cases (show y = .int _ from hy)
    obtain ⟨w, h3, h4⟩ := h2.at e
    exact ix_list value slice pins s σ H _ _ v u Q I rx ry ⟨a, xs, _, w, rfl, rfl, hX ▸ h1, h3, fin_here g q h4⟩ hs
  · split at e
    · rename_i hz
      obtain ⟨rfl, o⟩ := valS hx ex
      cases (show y = .int _ from hy)
      obtain ⟨j, h1, h2⟩ := bind_some e
      obtain ⟨c, h3, h4⟩ := Option.map_eq_some_iff.mp h2
      subst h4
      refine ix_str value slice pins s σ H _ _ v u Q I rx ry ⟨_, _, c, rfl, rfl, hz, ?_, fin_here g q ⟨rfl, okS_mem o (List.mem_of_getElem? h3)⟩⟩ hs
      unfold atI
      show (ixN (strV _).cps.toList.length _).bind _ = _
      rw [strV_list, ← place_ix, h1]
      exact h3
    · cases e
  · rename_i ds k
    split at e
    · rename_i hk
      obtain ⟨a, kvs, rfl, h1, h2⟩ := valD g hx ex
      obtain ⟨kq, hk1, rfl⟩ := isKey_key hy hk
      cases (show v = Value.ref a from rx)
      have hg := getD_val h2 hk1
      rw [e] at hg
      obtain ⟨w, h3, h4⟩ := hg
      have dg : DGet H a (kV kq) (some w) := h3 ▸ (.inl ⟨_, _, h1, rfl, rfl⟩)
      exact tail_any (dict_typeIs I dg) PySem.F.slot_dict_getitem.lookup (d_getItem (by omega) I dg ry fun w' s' I' rw' => ⟨w, H, I', rw', fin_here g q h4⟩) hs
    · cases e
  · cases e

theorem cut_V {ds : List D} {xs : List V} {K : PySem.W.Frag} (r : Rps K ρ l H ds xs) (lo hi : Option Int) : Rps K ρ l H (cut ds lo hi) (cutV xs lo hi) := by
  have e : cutV xs lo hi = (xs.drop (cutAt ds.length 0 lo)).take (cutAt ds.length ds.length hi - cutAt ds.length 0 lo) := by
    rw [r.length]; cases lo <;> cases hi <;> rfl
  rw [e]
  exact (r.drop _).take _
theorem cut_whole {ds : List D} {lo hi : Option Int} (h : HT.sIx ds.length 0 lo = 0 ∧ HT.sIx ds.length ds.length hi = ds.length) : cut ds lo hi = ds := by
  have e1 : cutAt ds.length 0 lo = 0 := by cases lo <;> exact h.1
  have e2 : cutAt ds.length ds.length hi = ds.length := by cases hi <;> exact h.2
  unfold cut
  rw [e1, e2]; simp
/-- o[lo:hi] -/
theorem sr_slice (hX : X.K = C.K) : SlR X (fun x lo hi H Q => ∃ b ρ S dx d, Good C b ρ S H ∧ Rp C.KR ρ (lv C ρ S) H dx x ∧ slice (dx.val S) lo hi = some d ∧ Fin1 C b ρ S H d Q) := by
  rintro pins s σ H x v vl vu lo hi sl Q I rx hs pl pu ⟨b, ρ, S, dx, d, g, hx, e, q⟩
  generalize ex : dx.val S = vx at e
  unfold slice at e
  split at e
  · cases e
    obtain ⟨a, xs, rfl, h1, h2⟩ := valT g hx ex
    refine sl_tupA pins s σ H _ v vl vu lo hi sl Q I rx hs pl pu ⟨a, xs, rfl, hX ▸ h1.sq, fun z => ?_, fun z p hp => ?_⟩
    · rw [← h2.length] at z
      rw [cut_whole z] at q
      exact fin_here g q ⟨a, xs, rfl, h1, h2⟩
    · obtain ⟨le, g', r'⟩ := new_tup g (cut_V h2 lo hi) hp
      exact q _ _ _ le g' r'
  · cases e
    obtain ⟨a, xs, rfl, h1, h2⟩ := valL g hx ex
    refine sl_list pins s σ H _ v vl vu lo hi sl Q I rx hs pl pu ⟨a, xs, rfl, hX ▸ h1, fun p hp => ?_⟩
    obtain ⟨le, g', r'⟩ := new_lst g (cut_V h2 lo hi) hp
    exact q _ _ _ le g' r'
  · split at e
    · rename_i hz
      cases e
      obtain ⟨rfl, o⟩ := valS hx ex
      refine sl_str pins s σ H _ v vl vu lo hi sl Q I rx hs pl pu ⟨_, rfl, hz, ?_⟩
      refine fin_here g q ⟨?_, okS_sub o fun c hc => List.mem_of_mem_drop (List.mem_of_mem_take hc)⟩
      show V.str (cutS _ lo hi) = _
      cases lo <;> cases hi <;> rfl
    · cases e
  · cases e

/-! ### built-in functions -/
def rPr (C : Cxt) (f : Pr) : List V → Hp → VK → Prop := fun vs H Q => ∃ b W σ ρ S ds, Good C b ρ S H ∧ Rps C.KR ρ (lv C ρ S) H ds vs ∧ Out C b W ρ S H σ (prim b f ds S) fun d S' ρ' H' => ∀ v, Rp C.KR ρ' (lv C ρ' S') H' d v → Q v H'
theorem out_here {W : WX} {σ : L2.St} {d : D} {v : V} {Q : VK} (g : Good C b ρ S H) (o : Out C b W ρ S H σ (.ok d S) fun d S' ρ' H' => ∀ v, Rp C.KR ρ' (lv C ρ' S') H' d v → Q v H') (r : Rp C.KR ρ (lv C ρ S) H d v) : Q v H :=
  o ρ H (Le.refl g.bb) g v r
theorem vals_ok {ds : List D} {xs : List V} {K : PySem.W.Frag} {d : D} (r : Rps K ρ l H (d :: ds) xs) : ∃ v t, xs = v :: t ∧ Rp K ρ l H d v ∧ Rps K ρ l H ds t := r
theorem kvs_length {K : PySem.W.Frag} : ∀ (z : List (D × D)) (ys : List (Key × V)), Rpp K ρ l H z ys → z.length = ys.length
  | [], ys, h => by cases (show ys = [] from h); rfl
  | (_, _) :: r, ys, ⟨q, x, t, e, _, _, h2⟩ => by rw [e, List.length_cons, List.length_cons, kvs_length r t h2]
theorem pr_len (hX : X.K = C.K) : CallR X (.builtin "len") (rPr C .len) := by
  rintro pins s σ H xs us Q I r ⟨b, W, τ, ρ, S, ds, g, hs, o⟩
  simp only [prim, pLen] at o
  split at o
  · obtain ⟨x, t, e, h1, h2⟩ := hs
    cases (show t = [] from h2)
    subst e
    split at o
    · rename_i ea
      split at o
      · rename_i hz
        obtain ⟨rfl, _⟩ := valS h1 ea
        exact call_len_str pins s σ H _ us Q I r ⟨_, rfl, hz, out_here g o rfl⟩
      · exact o.elim
    · rename_i ea
      obtain ⟨p, ys, rfl, q1, q2⟩ := valT g h1 ea
      exact call_len_seq pins s σ H _ us Q I r ⟨p, ys, rfl, .inr (hX ▸ q1.sq), out_here g o (by rw [q2.length]; rfl)⟩
    · rename_i ea
      obtain ⟨p, ys, rfl, q1, q2⟩ := valL g h1 ea
      exact call_len_seq pins s σ H _ us Q I r ⟨p, ys, rfl, .inl (hX ▸ q1), out_here g o (by rw [q2.length]; rfl)⟩
    · rename_i ea
      obtain ⟨p, ys, rfl, q1, q2⟩ := valD g h1 ea
      cases r with
      | cons r1 r2 =>
        cases r2
        cases (show _ = Value.ref p from r1)
        exact d_len I q1 fun t s' I' => ⟨.int _, H, I', ⟨t, rfl⟩, out_here g o (by rw [kvs_length _ ys q2]; rfl)⟩
    · exact o.elim
  · exact o.elim
theorem pr_int : CallR X (.type "int") (rPr C .int) := by
  rintro pins s σ H xs us Q I r ⟨b, W, τ, ρ, S, ds, g, hs, o⟩
  simp only [prim, pInt] at o
  split at o
  · obtain ⟨x, t, e, h1, h2⟩ := hs
    cases (show t = [] from h2); subst e
    cases (show x = .int _ from h1)
    exact call_int1 pins s σ H _ us Q I r (.inl ⟨_, rfl, out_here g o rfl⟩)
  · obtain ⟨x, t, e, h1, h2⟩ := hs
    cases (show t = [] from h2); subst e
    cases (show x = .bl _ from h1)
    exact call_int1 pins s σ H _ us Q I r (.inr ⟨_, rfl, out_here g o rfl⟩)
  · exact o.elim
theorem pr_abs : CallR X (.builtin "abs") (rPr C .abs) := by
  rintro pins s σ H xs us Q I r ⟨b, W, τ, ρ, S, ds, g, hs, o⟩
  simp only [prim, pAbs] at o
  split at o
  · obtain ⟨x, t, e, h1, h2⟩ := hs
    cases (show t = [] from h2); subst e
    cases (show x = .int _ from h1)
    exact call_abs pins s σ H _ us Q I r ⟨_, rfl, out_here g o rfl⟩
  · exact o.elim
theorem pr_min2 (hc : X.calm = true) : CallR X (.builtin "min") (rPr C .min2) := by
  rintro pins s σ H xs us Q I r ⟨b, W, τ, ρ, S, ds, g, hs, o⟩
  simp only [prim, pMin2] at o
  split at o
  · obtain ⟨x, t, e, h1, x2, t2, e2, h2, h3⟩ := hs
    cases (show t2 = [] from h3); subst e2; subst e
    cases (show x = .int _ from h1)
    cases (show x2 = .int _ from h2)
    exact call_min2 hc pins s σ H _ us Q I r ⟨_, _, rfl, out_here g o rfl⟩
  · exact o.elim
theorem pr_max2 (hc : X.calm = true) : CallR X (.builtin "max") (rPr C .max2) := by
  rintro pins s σ H xs us Q I r ⟨b, W, τ, ρ, S, ds, g, hs, o⟩
  simp only [prim, pMax2] at o
  split at o
  · obtain ⟨x, t, e, h1, x2, t2, e2, h2, h3⟩ := hs
    cases (show t2 = [] from h3); subst e2; subst e
    cases (show x = .int _ from h1)
    cases (show x2 = .int _ from h2)
    exact call_max2 hc pins s σ H _ us Q I r ⟨_, _, rfl, out_here g o rfl⟩
  · exact o.elim
theorem pr_tuple (hX : X.K = C.K) : CallR X (.type "tuple") (rPr C .tuple) := by
  rintro pins s σ H xs us Q I r ⟨b, W, τ, ρ, S, ds, g, hs, o⟩
  simp only [prim, pTuple] at o
  split at o
  · obtain ⟨x, t, e, h1, h2⟩ := hs
    cases (show t = [] from h2); subst e
    split at o
    · rename_i ea
      obtain ⟨p, ys, rfl, q1, q2⟩ := valL g h1 ea
      refine call_tuple_of pins s σ H _ us Q I r ⟨p, ys, rfl, .inl ⟨hX ▸ q1, fun q hq => ?_⟩⟩
      obtain ⟨le, g', r'⟩ := new_tup g q2 hq
      exact o _ _ le g' _ r'
    · rename_i ea
      obtain ⟨p, ys, rfl, q1, q2⟩ := valT g h1 ea
      exact call_tuple_of pins s σ H _ us Q I r ⟨p, ys, rfl, .inr ⟨hX ▸ q1.sq, out_here g o ⟨p, ys, rfl, q1, q2⟩⟩⟩
    · exact o.elim
  · exact o.elim
theorem out_newL {m : Bool} {W : WX} {σ : L2.St} {Q : VK} (g : Good C b ρ S H) {ds : List D} {xs : List V} (r : Rps C.KR ρ (lv C ρ S) H ds xs) {p : Addr} (hp : H p = none)
    (o : Out C b W ρ S H σ (newL m ds S) fun d S' ρ' H' => ∀ v, Rp C.KR ρ' (lv C ρ' S') H' d v → Q v H') : Q (.ref p) (upd H p (.lst xs)) := by
  unfold newL at o
  split at o
  · exact new_L g r hp o
  · exact o.elim
theorem pr_list (hX : X.K = C.K) (m : Bool) : CallR X (.type "list") (rPr C (.list m)) := by
  rintro pins s σ H xs us Q I r ⟨b, W, τ, ρ, S, ds, g, hs, o⟩
  simp only [prim, pList] at o
  split at o
  · obtain ⟨x, t, e, h1, h2⟩ := hs
    cases (show t = [] from h2); subst e
    split at o
    · rename_i ea
      obtain ⟨p, ys, rfl, q1, q2⟩ := valL g h1 ea
      exact call_list_of pins s σ H _ us Q I r ⟨p, ys, rfl, .inl (hX ▸ q1), fun q hq => out_newL g q2 hq o⟩
    · rename_i ea
      obtain ⟨p, ys, rfl, q1, q2⟩ := valT g h1 ea
      exact call_list_of pins s σ H _ us Q I r ⟨p, ys, rfl, .inr (hX ▸ q1.sq), fun q hq => out_newL g q2 hq o⟩
    · exact o.elim
  · exact o.elim
def Ty.py : Ty → String
  | .int => "int" | .bool => "bool" | .str => "str" | .tuple => "tuple" | .list => "list" | .dict => "dict"
theorem tyX_of (hX : X.K = C.K) {d : D} {v : V} (g : Good C b ρ S H) (h : Rp C.KR ρ (lv C ρ S) H d v) (hd : ∀ l, d ≠ .dic l) {t : Ty} {k : Bool} (e : isTy t (d.val S) = some k) : ∃ n : String, TyX X.K H v (.type n) ∧ kitB n t.py = some k := by
  cases ev : d.val S with
  | non => rw [ev] at e; cases valN h ev; refine ⟨"NoneType", .base .non, ?_⟩; cases t <;> (cases e; decide +kernel)
  | bl x => rw [ev] at e; cases valB h ev; refine ⟨"bool", .base (.bl _), ?_⟩; cases t <;> (cases e; decide +kernel)
  | int x => rw [ev] at e; cases valI h ev; refine ⟨"int", .base (.int _), ?_⟩; cases t <;> (cases e; decide +kernel)
  | str x => rw [ev] at e; obtain ⟨rfl, _⟩ := valS h ev; refine ⟨"str", .base (.str _), ?_⟩; cases t <;> (cases e; decide +kernel)
  | tup x =>
    rw [ev] at e
    obtain ⟨a, xs, rfl, q1, _⟩ := valT g h ev
    refine ⟨"tuple", ?_, by cases t <;> (cases e; decide +kernel)⟩
    exact .base (.tup q1.2)
  | lst x =>
    rw [ev] at e
    obtain ⟨a, xs, rfl, q1, _⟩ := valL g h ev
    refine ⟨"list", ?_, by cases t <;> (cases e; decide +kernel)⟩
    rcases q1 with (q1 | ⟨o, q1⟩) | ⟨o, its, n, q1, q2, _⟩
    · exact .base (.lst q1)
    · exact .base (.frz q1)
    · exact .kList (hX ▸ q1) q2
  | dic x =>
    rw [ev] at e
    cases d with
    | ref n =>
      obtain ⟨a, xs, rfl, q1, _⟩ := valDn g h ev
      exact ⟨"dict", .base (.dK q1), by cases t <;> (cases e; decide +kernel)⟩
    | dic l => exact absurd rfl (hd l)
    | _ => cases ev
  | set x => rw [ev] at e; cases t <;> cases e
  | ref x => rw [ev] at e; cases t <;> cases e
theorem pr_isinst (hX : X.K = C.K) (t : Ty) : CallR X (.builtin "isinstance") (fun vs H Q => ∃ v, vs = [v, .ty t.py] ∧ rPr C (.isinst t) [v] H Q) := by
  rintro pins s σ H xs us Q I r ⟨v, rfl, b, W, τ, ρ, S, ds, g, hs, o⟩
  simp only [prim, pIsinst] at o
  split at o
  · exact o.elim
  · rename_i hd
    obtain ⟨x, t', e, h1, h2⟩ := hs
    cases (show t' = [] from h2)
    cases e
    unfold retb at o
    split at o
    · rename_i k ek
      obtain ⟨n, h3, h4⟩ := tyX_of (X := X) hX g h1 (fun l z => hd l (by rw [z])) ek
      exact call_isi pins s σ H _ us Q I r ⟨v, _, _, _, k, rfl, .ty _, h3, kit_ty h4, out_here g o rfl⟩
    · exact o.elim
  · exact o.elim

/-! ### methods of lists -/
/-- what a method's reading asks: the receiver is a list of the store -/
def rMt (C : Cxt) (f : Pr) : V → List V → Hp → VK → Prop := fun v vs H Q => rPr C f (v :: vs) H Q
theorem D.lts_append {m : Nat} : ∀ (x y : List D), D.lts m (x ++ y) = (D.lts m x && D.lts m y)
  | [], y => rfl
  | d :: r, y => by simp [D.lts, D.lts_append r y, Bool.and_assoc]
mutual
theorem pure_lt (m : Nat) : ∀ d : D, d.pure = true → d.lt m = true
  | .non, _ | .bl _, _ | .int _, _ | .str _, _ => rfl
  | .tup l, h => pures_lt m l h
  | .lst l, h => pures_lt m l h
  | .dic l, h => pureps_lt m l h
  | .set l, h => pures_lt m l h
  | .ref _, h => by cases h
theorem pures_lt (m : Nat) : ∀ d : List D, D.pures d = true → D.lts m d = true
  | [], _ => rfl
  | d :: r, h => by
    simp only [D.pures, Bool.and_eq_true] at h
    simp only [D.lts, pure_lt m d h.1, pures_lt m r h.2, Bool.and_self]
theorem pureps_lt (m : Nat) : ∀ d : List (D × D), D.pureps d = true → D.ltps m d = true
  | [], _ => rfl
  | (k, d) :: r, h => by
    simp only [D.pureps, Bool.and_eq_true] at h
    simp only [D.ltps, pure_lt m k h.1.1, pure_lt m d h.1.2, pureps_lt m r h.2, Bool.and_self]
end
theorem lts_sub {m : Nat} {a b : List D} (h : D.lts m a = true) (s : ∀ d ∈ b, d ∈ a) : D.lts m b = true := by
  have all : ∀ (l : List D), D.lts m l = true ↔ ∀ d ∈ l, d.lt m = true := by
    intro l
    induction l with
    | nil => simp [D.lts]
    | cons x r ih => simp [D.lts, ih]
  rw [all] at h ⊢
  exact fun d hd => h d (s d hd)
/-- the list named n -/
theorem the_lst (g : Good C b ρ S H) {n : Nat} {v : V} {l : List D} (h : Rp C.KR ρ (lv C ρ S) H (.ref n) v) (e : S[n]? = some (.lst l)) : ∃ a xs, v = .ref a ∧ ρ[n]? = some a ∧ H a = some (.lst xs) ∧ Rps C.KR ρ (lv C ρ S) H l xs := by
  obtain ⟨a, h1, h2⟩ := h
  obtain ⟨xs, h3, h4⟩ := g.obj n _ a e h1
  exact ⟨a, xs, h2, h1, h3, h4⟩
/-- a list of the store is written -/
theorem write_lst (g : Good C b ρ S H) {n : Nat} {a : Addr} {l l' : List D} {ys : List V} (e : S[n]? = some (.lst l)) (er : ρ[n]? = some a) (hr : n < b → ∀ m, D.lts m l = true → D.lts m l' = true) (h : Rps C.KR ρ (lv C ρ S) H l' ys) :
    Le C b ρ S H ρ (S.set n (.lst l')) (upd H a (.lst ys)) ∧ Good C b ρ (S.set n (.lst l')) (upd H a (.lst ys)) :=
  g.write e er ⟨rfl, by intro z; cases z⟩ hr fun le => ⟨ys, upd_same, Rps.kp le.kp _ _ h⟩
theorem mr_append : MtR X "list.append" (rMt C .append) := by
  rintro pins s σ H x vs v us Q I rx rv ⟨b, W, τ, ρ, S, ds, g, hs, o⟩
  simp only [prim, pAppend] at o
  split at o
  · rename_i n d
    obtain ⟨x1, t, e, h1, x2, t2, e2, h2, h3⟩ := hs
    cases (show t2 = [] from h3); subst e2; cases e
    split at o
    · rename_i ss es
      split at o
      · rename_i hc
        obtain ⟨a, xs, rfl, er, ha, hr⟩ := the_lst g h1 es
        have hl := hr.length
        refine mt_append pins s σ H _ _ v us Q I rx rv ⟨a, xs, x2, rfl, rfl, ha, by rw [← hl]; exact hc.1, ?_⟩
        obtain ⟨le, g'⟩ := write_lst g es er (fun hn m hm => by
          rw [D.lts_append, hm]
          have : d.lt m = true := pure_lt m d (hc.2.resolve_left (by omega))
          simp [D.lts, this]) (hr.append (Rps.one h2))
        exact o _ _ le g' _ rfl
      · exact o.elim
    · exact o.elim
  · exact o.elim
theorem mr_pop : MtR X "list.pop" (rMt C .pop) := by
  rintro pins s σ H x vs v us Q I rx rv ⟨b, W, τ, ρ, S, ds, g, hs, o⟩
  simp only [prim, pPop] at o
  split at o
  · rename_i n
    obtain ⟨x1, t, e, h1, h3⟩ := hs
    cases (show t = [] from h3); cases e
    split at o
    · rename_i ss es
      split at o
      · rename_i d hd
        obtain ⟨a, xs, rfl, er, ha, hr⟩ := the_lst g h1 es
        have hl := hr.length
        rw [List.getLast?_eq_getElem?] at hd
        obtain ⟨w, h4, h5⟩ := hr.get hd
        rw [hl] at h4
        refine mt_pop pins s σ H _ _ v us Q I rx rv ⟨a, xs, w, rfl, rfl, ha, h4, ?_⟩
        obtain ⟨le, g'⟩ := write_lst (ys := xs.dropLast) g es er (fun hn m hm => lts_sub hm fun d hd => List.dropLast_subset _ hd) (by
          rw [List.dropLast_eq_take, List.dropLast_eq_take, ← hl]; exact hr.take _)
        exact o _ _ le g' _ (Rp.kp le.kp _ _ h5)
      · exact o.elim
    · exact o.elim
  · exact o.elim
theorem mr_popi : MtR X "list.pop" (rMt C .popi) := by
  rintro pins s σ H x vs v us Q I rx rv ⟨b, W, τ, ρ, S, ds, g, hs, o⟩
  simp only [prim, pPopi] at o
  split at o
  · rename_i n k
    obtain ⟨x1, t, e, h1, x2, t2, e2, h2, h3⟩ := hs
    cases (show t2 = [] from h3); subst e2; cases e
    cases (show x2 = .int k from h2)
    split at o
    · rename_i ss es
      split at o
      · rename_i j ej
        split at o
        · rename_i d hd
          obtain ⟨a, xs, rfl, er, ha, hr⟩ := the_lst g h1 es
          have hl := hr.length
          obtain ⟨w, h4, h5⟩ := hr.get hd
          rw [place_ix, hl] at ej
          obtain ⟨q1, q2, q3, q4⟩ := ixN_seq ej
          obtain ⟨hz, _⟩ := I.lstM ha
          have hn := line63
          refine mt_popAt pins s σ H _ _ v us Q I rx rv ⟨a, xs, k, j, w, rfl, rfl, ha, by omega, by omega, q1, h4, ?_⟩
          obtain ⟨le, g'⟩ := write_lst (ys := xs.eraseIdx j) g es er (fun hn m hm => lts_sub hm fun d hd => List.mem_of_mem_eraseIdx hd) (hr.erase j)
          exact o _ _ le g' _ (Rp.kp le.kp _ _ h5)
        · exact o.elim
      · exact o.elim
    · exact o.elim
  · exact o.elim
end
theorem list_extendW (l m : Addr) (as bs : Array Value) (i j : Nat) (tl : Array (Option Value)) (c0 : ¬(!as.isEmpty && Builtin.List.listTooLong (as.size + bs.size)) = true) (c1 : as.size ≤ sizeLine) (c2 : as.size + bs.size ≤ sizeLine + 1) :
    Meets (Builtin.«list.extend» ⟨[.ref l, .ref m], []⟩) (fun _ R s => s.heap.get? l = some { cls := .type "list", data := .seq as i } ∧ s.heap.get? m = some { cls := .type "list", data := .seq bs j, slots := tl } ∧
      R (.ok (.ret .none)) { s with heap := s.heap.update l (Obj.mapSeq (fun x => x ++ bs)) }) :=
  .of_wp fun prog w A R s h => by
    obtain ⟨hp, g, d, tk, os⟩ := s
    obtain ⟨h1, h2, h⟩ := h
    have f1 := PySem.AutoSeq1.idx_int; have f2 := PySem.AutoSeq1.sub_tuple_tuple; have f3 := PySem.AutoSeq1.sub_list_list; have f4 := PySem.AutoSeq1.sub_tuple_list; have f5 := PySem.AutoSeq1.sub_list_tuple
    have hz' : (as ++ bs).size ≤ sizeLine + 1 := by rw [Array.size_append]; exact c2
    wp_walk using (wpAny_updateSeq h1 rfl (hz := c1) (_hz' := hz')), wpAny_loadPart' h1, wpAny_loadPart' h2
    exact ⟨_, rfl, h⟩
theorem list_extendT (l m : Addr) (as bs : Array Value) (i j : Nat) (dd : Option Addr) (tl : Array (Option Value)) (c0 : ¬(!as.isEmpty && Builtin.List.listTooLong (as.size + bs.size)) = true) (c1 : as.size ≤ sizeLine) (c2 : as.size + bs.size ≤ sizeLine + 1) :
    Meets (Builtin.«list.extend» ⟨[.ref l, .ref m], []⟩) (fun _ R s => s.heap.get? l = some { cls := .type "list", data := .seq as i } ∧ s.heap.get? m = some { cls := .type "tuple", dict := dd, data := .seq bs j, slots := tl } ∧
      R (.ok (.ret .none)) { s with heap := s.heap.update l (Obj.mapSeq (fun x => x ++ bs)) }) :=
  .of_wp fun prog w A R s h => by
    obtain ⟨hp, g, d, tk, os⟩ := s
    obtain ⟨h1, h2, h⟩ := h
    have f1 := PySem.AutoSeq1.idx_int; have f2 := PySem.AutoSeq1.sub_tuple_tuple; have f3 := PySem.AutoSeq1.sub_list_list; have f4 := PySem.AutoSeq1.sub_tuple_list; have f5 := PySem.AutoSeq1.sub_list_tuple
    have hz' : (as ++ bs).size ≤ sizeLine + 1 := by rw [Array.size_append]; exact c2
    wp_walk using (wpAny_updateSeq h1 rfl (hz := c1) (_hz' := hz')), wpAny_loadPart' h1, wpAny_loadPart' h2
    exact ⟨_, rfl, h⟩

section
variable {X : Cx} {C : Cxt} {b : Nat} {ρ ρ' ρ1 ρ2 : List Addr} {S S' S1 S2 : Sto} {H H' H1 H2 : Hp} {l l' : Addr → Prop}
theorem mr_extend (hX : X.K = C.K) : MtR X "list.extend" (rMt C .extend) := by
  rintro pins s σ H x vs v us Q I rx rv ⟨b, W, τ, ρ, S, ds, g, hs, o⟩
  simp only [prim, pExtend] at o
  split at o
  · rename_i n d
    obtain ⟨x1, t, e, h1, x2, t2, e2, h2, h3⟩ := hs
    cases (show t2 = [] from h3); subst e2; cases e
    split at o
    · rename_i ss es
      obtain ⟨a, xs, rfl, er, ha, hr⟩ := the_lst g h1 es
      have hl := hr.length
      cases rx
      obtain ⟨u, rfl, ru⟩ := rv.one
      obtain ⟨z, its, m, r, hl2, e⟩ := I.lstM ha
      have fin : ∀ {ys : List D} {zs : List V} {its2 : List Value}, Rps C.KR ρ (lv C ρ S) H ys zs → Vals zs its2 → ss.length + ys.length ≤ sizeLim → (b ≤ n ∨ D.pures ys = true) →
          Out C b W ρ S H τ (.ok .non (S.set n (.lst (ss ++ ys)))) (fun d S' ρ' H' => ∀ v, Rp C.KR ρ' (lv C ρ' S') H' d v → Q v H') →
          EP X pins σ Q .none { s with heap := s.heap.update a (Obj.mapSeq (fun x => x ++ its2.toArray)) } := fun {ys zs its2} q2 r2 hz hc o => by
        obtain ⟨le, g'⟩ := write_lst g es er (fun hn m hm => by
          rw [D.lts_append, hm, pures_lt m ys (hc.resolve_left (by omega))]; rfl) (hr.append q2)
        refine ⟨.non, _, I.lset (its' := its ++ its2) (t' := s.toks) ha e (by simp) (r.append r2) ?_, rfl, o _ _ le g' _ rfl⟩
        rw [List.length_append, ← q2.length, ← hl]; exact hz
      have lng : ∀ k : Nat, its.length + k ≤ sizeLim → ¬ (!its.toArray.isEmpty && Builtin.List.listTooLong (its.toArray.size + k)) = true := fun k hk => by
        rw [notLongL (by rw [List.size_toArray]; exact hk), Bool.and_false]; exact Bool.false_ne_true
      split at o
      · rename_i ys ey
        split at o
        · rename_i hc
          obtain ⟨p, zs, rfl, q1, q2⟩ := valL g h2 ey
          cases ru
          obtain ⟨its2, r2, ⟨⟨c2, d2, t2, l2⟩, n2, eo, hc2, hd2, hda2⟩, _⟩ := I.list (hX ▸ q1)
          simp only at hc2 hd2 hda2
          subst hc2 hd2 hda2
          have h6 : its2.length = ys.length := by rw [← r2.length, q2.length]
          have h7 : its.length = ss.length := by rw [← hl2, hl]
          refine call_meets PySem.F.slot_list_extend ⟨_, e, rfl⟩ PySem.F.entry_list_extend (PySem.F.args_list_extend_2 _ _)
            (list_extendW a p its.toArray its2.toArray m n2 l2 (by rw [List.size_toArray (as := its2)]; exact lng _ (by rw [h6, h7]; exact hc.1)) (by rw [List.size_toArray]; omega) (by rw [List.size_toArray, List.size_toArray, h6, h7]; exact Nat.le_succ_of_le hc.1)) ⟨e, eo, fin q2 r2 hc.1 hc.2 o⟩
        · exact o.elim
      · rename_i ys ey
        split at o
        · rename_i hc
          obtain ⟨p, zs, rfl, q1, q2⟩ := valT g h2 ey
          cases ru
          obtain ⟨its2, r2, ⟨⟨c2, d2, t2, l2⟩, eo, hc2, n2, hda2⟩, _⟩ := I.tuple (hX ▸ q1.sq)
          simp only at hc2 hda2
          subst hc2 hda2
          have h6 : its2.length = ys.length := by rw [← r2.length, q2.length]
          have h7 : its.length = ss.length := by rw [← hl2, hl]
          refine call_meets PySem.F.slot_list_extend ⟨_, e, rfl⟩ PySem.F.entry_list_extend (PySem.F.args_list_extend_2 _ _)
            (list_extendT a p its.toArray its2.toArray m n2 d2 l2 (by rw [List.size_toArray (as := its2)]; exact lng _ (by rw [h6, h7]; exact hc.1)) (by rw [List.size_toArray]; omega) (by rw [List.size_toArray, List.size_toArray, h6, h7]; exact Nat.le_succ_of_le hc.1)) ⟨e, eo, fin q2 r2 hc.1 hc.2 o⟩
        · exact o.elim
      · exact o.elim
    · exact o.elim
  · exact o.elim
end
end Mi

namespace Mi
open PySem L2 PySem.Spec PyProof.Rows

/-! ## Part 6: expressions -/
/-- the program's names -/
structure Nms where
  fn : Nat → Str
  gl : Nat → Str
  att : Nat → Str
  mth : Nat → Str
  cls : Nat → Str
/-- where a piece of code stands: its names by slots, its scope, what it may store -/
structure Sc where
  N : List Str
  sc : Scope
  st : Str → Bool

/-! ### what the text's form says -/
def notStar : Expr → Bool
  | .Starred _ _ => false
  | _ => true
theorem star_cons {p : Expr} {ps : List Expr} {env : PySem.Env} (h : notStar p = true) : starEach (p :: ps) env = (false, eval p env) :: starEach ps env := by
  cases p <;> first | rfl | (cases h)
theorem star_any {pos : Pos} {env : PySem.Env} : ∀ {ps : List Expr}, ps.all notStar = true → (backTo pos (starEach ps env)).any (·.1) = false
  | [], _ => rfl
  | p :: ps, h => by
    simp only [List.all_cons, Bool.and_eq_true] at h
    rw [star_cons h.1]
    show (false || (backTo pos (starEach ps env)).any (·.1)) = false
    rw [star_any h.2]; rfl
theorem star_len {env : PySem.Env} : ∀ {ps : List Expr}, ps.all notStar = true → (starEach ps env).length = ps.length
  | [], _ => rfl
  | p :: ps, h => by
    simp only [List.all_cons, Bool.and_eq_true] at h
    rw [star_cons h.1, List.length_cons, star_len h.2, List.length_cons]
theorem star_all {pos : Pos} {env : PySem.Env} : ∀ {ps : List Expr}, ps.all notStar = true → (backTo pos (starEach ps env)).all (fun x => !x.1) = true
  | [], _ => rfl
  | p :: ps, h => by
    simp only [List.all_cons, Bool.and_eq_true] at h
    rw [star_cons h.1]
    show (true && (backTo pos (starEach ps env)).all (fun x => !x.1)) = true
    rw [star_all h.2]; rfl
def notSlice : Expr → Bool
  | .Slice _ _ _ _ => false
  | _ => true
theorem plainIx_of {p : Expr} (h : notSlice p = true) : PlainIx p := fun o i => by cases p <;> first | rfl | (cases h)
def notSuper : Expr → Bool
  | .Call (.Name _ _) [] [] _ => false
  | _ => true
theorem base_of {o : Expr} {f : Str} {env : PySem.Env} (h : notSuper o = true) : attributeBase o f env (eval o env) = eval o env := by
  unfold attributeBase
  split
  · cases h
  · rfl
def isComp : Expr → Bool
  | .ListComp _ _ _ _ => true
  | .SetComp _ _ _ _ => true
  | .DictComp _ _ _ _ _ => true
  | _ => false
theorem swaps_none {p : Expr} {t : Option Expr} {n : Nat} {env : PySem.Env} (h : isComp p = false) : swapsWith p t n env = pure false := by
  cases p <;> first | rfl | (cases h)
theorem folded_of {p : Expr} {env : PySem.Env} (h : (match p with | .Set _ _ _ => false | _ => true) = true) (x : Value) : foldedSetIterable p env x = pure x := by
  cases p <;> first | rfl | (cases h)
/-- what is no special test -/
def plainT : Expr → Bool
  | .UnaryOp .Not _ _ => false
  | .BoolOp _ _ _ => false
  | .IfExp _ _ _ _ => false
  | .Compare _ _ _ _ => false
  | _ => true
theorem isTrue_of {p : Expr} {env : PySem.Env} (h : plainT p = true) (whole : Sem Value) : isTrue p env whole = (do let v ← whole; standAt p.pos; holding [v] (truthy v)) := by
  cases p <;> first
    | rfl
    | (cases h)
    | (rename_i op _ _; cases op <;> first | rfl | (cases h))

theorem emp_of {α β : Type} {l : List α} {xs : List β} (h : l.length = xs.length) : (!l.isEmpty) = !xs.isEmpty := by cases l <;> cases xs <;> simp_all
section
variable {X : Cx} {C : Cxt} {b : Nat} {W : WX} {ρ ρ' ρ1 ρ2 : List Addr} {S S' S1 S2 : Sto} {H H' H1 H2 : Hp} {σ : L2.St}
def tT (C : Cxt) (b : Nat) (W : WX) (f : Env → Sto → Rs Bool) : TT := fun σ H Q =>
  ∃ ρ S env, At C b ρ S H env σ ∧ Out C b W ρ S H σ (f env S) fun k S' ρ' H' => Q k H'
theorem tT_of {f : Env → Sto → Rs Bool} {env : Env} {Q : Bool → Hp → Prop} {R : Bool → Sto → List Addr → Hp → Prop} (a : At C b ρ S H env σ) (h : Out C b W ρ S H σ (f env S) R)
    (hQ : ∀ k S' ρ' H', Le C b ρ S H ρ' S' H' → At C b ρ' S' H' env σ → R k S' ρ' H' → Q k H') : tT C b W f σ H Q :=
  ⟨ρ, S, env, a, h.imp fun k S' ρ' H' y g r => hQ k S' ρ' H' y ⟨g, a.env.kp y.kp⟩ r⟩
abbrev RE (C : Cxt) (Q : VK) : D → Sto → List Addr → Hp → Prop := fun d S' ρ' H' => ∀ v, Rp C.KR ρ' (lv C ρ' S') H' d v → Q v H'
theorem out_rets {Q : VK} {o : Option D} (h : Out C b W ρ S H σ (rets o S) (RE C Q)) : ∃ d, o = some d ∧ Fin1 C b ρ S H d Q := by
  cases o with
  | none => exact h.elim
  | some d => exact ⟨d, rfl, fun ρ' H' v le g r => h ρ' H' le g v r⟩
theorem out_retb {Q : VK} {o : Option Bool} (g : Good C b ρ S H) (h : Out C b W ρ S H σ (retb o S) (RE C Q)) : ∃ k, o = some k ∧ Q (.bl k) H := by
  cases o with
  | none => exact h.elim
  | some d => exact ⟨d, rfl, h ρ H (Le.refl g.bb) g _ rfl⟩
/-- truth of what lies there -/
theorem tru_of (hX : X.K = C.K) (g : Good C b ρ S H) {d : D} {v : V} {k : Bool} (r : Rp C.KR ρ (lv C ρ S) H d v) (e : truth S d = some k) : TruV X.K v H k := by
  unfold truth at e
  split at e
  · cases e
  rename_i hd
  split at e
  · rename_i ev; cases valN r ev; cases e; rfl
  · rename_i ev; cases valB r ev; cases e; rfl
  · rename_i ev; cases valI r ev; cases e; rfl
  · rename_i s ev
    split at e
    · rename_i hz
      obtain ⟨rfl, _⟩ := valS r ev
      cases e
      refine ⟨hz, ?_⟩
      rw [strV_len]
      cases s <;> simp; omega
    · cases e
  · rename_i ev
    obtain ⟨a, xs, rfl, h1, h2⟩ := valT g r ev
    cases e
    exact .inr (.inl ⟨xs, hX ▸ h1.sq, emp_of h2.length⟩)
  · rename_i ev
    obtain ⟨a, xs, rfl, h1, h2⟩ := valL g r ev
    cases e
    exact .inl ⟨xs, hX ▸ h1, emp_of h2.length⟩
  · rename_i ev
    cases d with
    | ref n =>
      obtain ⟨a, xs, rfl, h1, h2⟩ := valDn g r ev
      cases e
      exact .inr (.inr ⟨xs, h1, emp_of (kvs_length _ xs h2)⟩)
    | dic l => exact absurd rfl (hd l)
    | _ => cases ev
  · cases e
end
end Mi

namespace Mi
open PySem L2 PySem.Spec PyProof.Rows

/-! ## Part 7: the forms of expressions -/
section
variable {X : Cx} {C : Cxt} {b : Nat} {W : WX} {ρ ρ' ρ1 ρ2 : List Addr} {S S' S1 S2 : Sto} {H H' H1 H2 : Hp} {σ : L2.St} {p q r : Expr} {ps : List Expr} {pos : Pos}
abbrev RA (C : Cxt) (Q : List V → Hp → Prop) : List D → Sto → List Addr → Hp → Prop := fun d S' ρ' H' => ∀ v, Rps C.KR ρ' (lv C ρ' S') H' d v → Q v H'
theorem d_lit {d : D} {v : V} (h : PE X p (tC v)) (r : ∀ ρ l H, Rp C.KR ρ l H d v) : PE X p (tE C b W fun _ S => .ok d S) :=
  PE_sub h fun σ H Q ⟨ρ, S, env, a, o⟩ => o ρ H (Le.refl a.good.bb) a.good v (r _ _ _)
theorem d_var {i : Nat} (h : PE X p (tVar i)) : PE X p (tE C b W fun env S => rets (getV env i) S) :=
  PE_sub h fun σ H Q ⟨ρ, S, env, a, o⟩ => by
    obtain ⟨d, e, f⟩ := out_rets o
    have hd : env[i]? = some (some d) := by
      unfold getV at e
      split at e
      · rename_i e2; cases e; exact e2
      · cases e
    obtain ⟨v, h1, h2⟩ := a.env.2 i d hd
    exact ⟨v, h1, fin_here a.good f h2⟩
variable {fa fb fc : Env → Sto → Rs D}
theorem d_bin (hX : X.K = C.K) (op : BOp) (ha : PE X p (tE C b W fa)) (hb : PE X q (tE C b W fb)) :
    PE X (.BinOp p op.py q pos) (tE C b W fun env S => (fa env S).to fun x S1 => (fb env S1).to fun y S2 => rets (binop op (x.val S2) (y.val S2)) S2) :=
  PE_sub (pe_op (or_bin hX op) ha hb) fun σ H Q ⟨ρ, S, env, a, o⟩ => tE_of a o.bind fun x S1 ρ1 H1 v le a1 rv o1 => tE_of a1 o1.bind fun y S2 ρ2 H2 u le2 a2 ru o2 => by
    obtain ⟨d, e, f⟩ := out_rets o2
    exact ⟨b, ρ2, S2, x, y, d, a2.good, Rp.kp le2.kp _ _ rv, ru, e, f⟩
theorem d_cmp (hX : X.K = C.K) (hu : X.A.units + 65 < cLine) (op : COp) (hm : behindInMarks op.py q = false) (ha : PE X p (tE C b W fa)) (hb : PE X q (tE C b W fb)) :
    PE X (.Compare p [op.py] [q] pos) (tE C b W fun env S => (fa env S).to fun x S1 => (fb env S1).to fun y S2 => retb (cmpop op (x.val S2) (y.val S2)) S2) :=
  PE_sub (pe_cmpR (or_cmp hX hu op) ha hb hm) fun σ H Q ⟨ρ, S, env, a, o⟩ => tE_of a o.bind fun x S1 ρ1 H1 v le a1 rv o1 => tE_of a1 o1.bind fun y S2 ρ2 H2 u le2 a2 ru o2 => by
    obtain ⟨k, e, f⟩ := out_retb a2.good o2
    exact ⟨b, ρ2, S2, x, y, k, a2.good, Rp.kp le2.kp _ _ rv, ru, e, f⟩
theorem out_toB {r : Rs D} {R : Bool → Sto → List Addr → Hp → Prop} (h : Out C b W ρ S H σ (toB r) R) : Out C b W ρ S H σ r fun d S' ρ' H' => ∃ k, truth S' d = some k ∧ R k S' ρ' H' := by
  have h := Out.bind h
  refine h.imp fun d S' ρ' H' le g o => ?_
  cases e : truth S' d with
  | none => rw [e] at o; exact o.elim
  | some k => rw [e] at o; exact ⟨k, rfl, o ρ' H' (Le.refl g.bb) g⟩
/-- a comparison as a test -/
theorem d_cmpT (hX : X.K = C.K) (hu : X.A.units + 65 < cLine) (op : COp) (hm : behindInMarks op.py q = false) (ha : PE X p (tE C b W fa)) (hb : PE X q (tE C b W fb)) :
    PT X (.Compare p [op.py] [q] pos) (tT C b W fun env S => toB ((fa env S).to fun x S1 => (fb env S1).to fun y S2 => retb (cmpop op (x.val S2) (y.val S2)) S2)) :=
  PT_sub (pt_cmpR (or_cmp hX hu op) ha hb hm) fun σ H Q ⟨ρ, S, env, a, o⟩ => tE_of a (out_toB o).bind fun x S1 ρ1 H1 v le a1 rv o1 => tE_of a1 o1.bind fun y S2 ρ2 H2 u le2 a2 ru o2 => by
    cases ec : cmpop op (x.val S2) (y.val S2) with
    | none => rw [ec] at o2; exact o2.elim
    | some k =>
      rw [ec] at o2
      obtain ⟨k', e1, e2⟩ := o2 ρ2 H2 (Le.refl a2.good.bb) a2.good
      cases e1
      exact ⟨b, ρ2, S2, x, y, k, a2.good, Rp.kp le2.kp _ _ rv, ru, ec, k, rfl, e2⟩
theorem d_chain (hX : X.K = C.K) (hu : X.A.units + 65 < cLine) (o1 o2 : COp) (hm : lastMarks [o1.py, o2.py] [q, r] = false) (ha : PE X p (tE C b W fa)) (hb : PE X q (tE C b W fb)) (hc : PE X r (tE C b W fc)) :
    PE X (.Compare p [o1.py, o2.py] [q, r] pos) (tE C b W fun env S => (fa env S).to fun x S1 => (fb env S1).to fun y S2 => match cmpop o1 (x.val S2) (y.val S2) with
      | some true => (fc env S2).to fun z S3 => retb (cmpop o2 (y.val S3) (z.val S3)) S3
      | some false => .ok (.bl false) S2
      | none => .no) :=
  PE_sub (pe_chain (or_cmp hX hu o1) (or_cmp hX hu o2) ha hb hc hm) fun σ H Q ⟨ρ, S, env, a, o⟩ => tE_of a o.bind fun x S1 ρ1 H1 v le a1 rv w1 => tE_of a1 w1.bind fun y S2 ρ2 H2 u le2 a2 ru w2 => by
    cases ec : cmpop o1 (x.val S2) (y.val S2) with
    | none => rw [ec] at w2; exact w2.elim
    | some k =>
      rw [ec] at w2
      refine ⟨b, ρ2, S2, x, y, k, a2.good, Rp.kp le2.kp _ _ rv, ru, ec, k, rfl, ?_⟩
      cases k with
      | false => exact iteF (w2 ρ2 H2 (Le.refl a2.good.bb) a2.good _ rfl)
      | true =>
        refine iteT (tE_of a2 (Out.bind w2) fun z S3 ρ3 H3 t le3 a3 rz w3 => ?_)
        obtain ⟨k', e, f⟩ := out_retb a3.good w3
        exact ⟨b, ρ3, S3, y, z, k', a3.good, Rp.kp le3.kp _ _ ru, rz, e, f⟩
theorem d_chainT (hX : X.K = C.K) (hu : X.A.units + 65 < cLine) (o1 o2 : COp) (hm : lastMarks [o1.py, o2.py] [q, r] = false) (ha : PE X p (tE C b W fa)) (hb : PE X q (tE C b W fb)) (hc : PE X r (tE C b W fc)) :
    PT X (.Compare p [o1.py, o2.py] [q, r] pos) (tT C b W fun env S => toB ((fa env S).to fun x S1 => (fb env S1).to fun y S2 => match cmpop o1 (x.val S2) (y.val S2) with
      | some true => (fc env S2).to fun z S3 => retb (cmpop o2 (y.val S3) (z.val S3)) S3
      | some false => .ok (.bl false) S2
      | none => .no)) :=
  PT_sub (pt_chain (or_cmp hX hu o1) (or_cmp hX hu o2) ha hb hc hm) fun σ H Q ⟨ρ, S, env, a, o⟩ => tE_of a (out_toB o).bind fun x S1 ρ1 H1 v le a1 rv w1 => tE_of a1 w1.bind fun y S2 ρ2 H2 u le2 a2 ru w2 => by
    cases ec : cmpop o1 (x.val S2) (y.val S2) with
    | none => rw [ec] at w2; exact w2.elim
    | some k =>
      rw [ec] at w2
      refine ⟨b, ρ2, S2, x, y, k, a2.good, Rp.kp le2.kp _ _ rv, ru, ec, k, rfl, ?_⟩
      cases k with
      | false =>
        obtain ⟨k', e1, e2⟩ := w2 ρ2 H2 (Le.refl a2.good.bb) a2.good
        cases e1
        exact iteF ⟨_, rfl, e2⟩
      | true =>
        refine iteT (tE_of a2 (Out.bind w2) fun z S3 ρ3 H3 t le3 a3 rz w3 => ?_)
        cases ed : cmpop o2 (y.val S3) (z.val S3) with
        | none => rw [ed] at w3; exact w3.elim
        | some k2 =>
          rw [ed] at w3
          obtain ⟨k', e1, e2⟩ := w3 ρ3 H3 (Le.refl a3.good.bb) a3.good
          cases e1
          exact ⟨b, ρ3, S3, y, z, k2, a3.good, Rp.kp le3.kp _ _ ru, rz, ed, _, rfl, e2⟩
theorem d_neg (ha : PE X p (tE C b W fa)) : PE X (.UnaryOp .USub p pos) (tE C b W fun env S => (fa env S).to fun x S1 => match x with
    | .int i => .ok (.int (-i)) S1
    | _ => .no) :=
  PE_sub (pe_un un_neg ha) fun σ H Q ⟨ρ, S, env, a, o⟩ => tE_of a o.bind fun x S1 ρ1 H1 v le a1 rv o1 => by
    cases x with
    | int i => exact ⟨i, rv, o1 ρ1 H1 (Le.refl a1.good.bb) a1.good _ rfl⟩
    | _ => exact o1.elim
theorem d_not (hX : X.K = C.K) (ha : PE X p (tE C b W fa)) : PE X (.UnaryOp .Not p pos) (tE C b W fun env S => (fa env S).to fun x S1 => retb ((truth S1 x).map (!·)) S1) :=
  PE_sub (pe_notT ha) fun σ H Q ⟨ρ, S, env, a, o⟩ => tE_of a o.bind fun x S1 ρ1 H1 v le a1 rv o1 => by
    obtain ⟨k, e, f⟩ := out_retb a1.good o1
    obtain ⟨k', e1, e2⟩ := Option.map_eq_some_iff.mp e
    subst e2
    exact ⟨k', tru_of hX a1.good rv e1, f⟩
theorem d_notT (ha : PT X p (tT C b W fun env S => toB (fa env S))) : PT X (.UnaryOp .Not p pos) (tT C b W fun env S => toB ((fa env S).to fun x S1 => retb ((truth S1 x).map (!·)) S1)) :=
  PT_sub (pt_not ha) fun σ H Q ⟨ρ, S, env, a, o⟩ => by
    refine ⟨ρ, S, env, a, ?_⟩
    dsimp only at o ⊢
    cases ef : fa env S with
    | no => rw [ef] at o; exact o
    | ex x S1 => rw [ef] at o; exact o
    | ok x S1 =>
      rw [ef] at o
      simp only [Rs.to, toB] at o ⊢
      cases et : truth S1 x with
      | none => rw [et] at o; exact o.elim
      | some k =>
        rw [et] at o
        exact o
/-- a test by a value's truth -/
theorem d_plainT (hX : X.K = C.K) (hp : plainT p = true) (ha : PE X p (tE C b W fa)) : PT X p (tT C b W fun env S => toB (fa env S)) :=
  PT_sub (pt_truth ha (isTrue_of hp)) fun σ H Q ⟨ρ, S, env, a, o⟩ => tE_of a (out_toB o) fun x S1 ρ1 H1 v le a1 rv ⟨k, e, o1⟩ => ⟨k, tru_of hX a1.good rv e, o1⟩
theorem d_ite {t : Expr} {ft : Env → Sto → Rs D} (ht : PT X t (tT C b W fun env S => toB (ft env S))) (ha : PE X p (tE C b W fa)) (hb : PE X q (tE C b W fb)) :
    PE X (.IfExp t p q pos) (tE C b W fun env S => (ft env S).to fun x S1 => match truth S1 x with
      | some true => fa env S1
      | some false => fb env S1
      | none => .no) :=
  PE_sub (pe_ifExp ht ha hb) fun σ H Q ⟨ρ, S, env, a, o⟩ => by
    dsimp only at o
    have key : Out C b W ρ S H σ (toB (ft env S)) fun k S1 ρ1 H1 => Out C b W ρ1 S1 H1 σ (if k = true then fa env S1 else fb env S1) (RE C Q) := by
      cases ef : ft env S with
      | no => rw [ef] at o; exact o
      | ex x S1 => rw [ef] at o; exact o
      | ok x S1 =>
        rw [ef] at o
        simp only [Rs.to, toB] at o ⊢
        cases et : truth S1 x with
        | none => rw [et] at o; exact o.elim
        | some k =>
          rw [et] at o
          intro ρ' H' le g
          cases k <;> exact Out.reb le o
    refine tT_of a key fun k S1 ρ1 H1 le a1 o2 => ?_
    cases k with
    | true => exact iteT ⟨ρ1, S1, env, a1, by simpa using o2⟩
    | false => exact iteF ⟨ρ1, S1, env, a1, by simpa using o2⟩
/-! ### lists of expressions -/
theorem d_nil : PA X [] (tA C b W fun _ S => .ok [] S) :=
  PA_sub pa_nil fun σ H Q ⟨ρ, S, env, a, o⟩ => o ρ H (Le.refl a.good.bb) a.good [] rfl
theorem d_cons {fs : Env → Sto → Rs (List D)} (hs : notStar p = true) (ha : PE X p (tE C b W fa)) (hb : PA X ps (tA C b W fs)) :
    PA X (p :: ps) (tA C b W fun env S => (fa env S).to fun x S1 => (fs env S1).to fun xs S2 => .ok (x :: xs) S2) :=
  PA_sub (pa_cons ha hb (star_cons hs)) fun σ H Q ⟨ρ, S, env, a, o⟩ => tE_of a o.bind fun x S1 ρ1 H1 v le a1 rv o1 => tA_of a1 o1.bind fun xs S2 ρ2 H2 vs le2 a2 rvs o2 =>
    o2 ρ2 H2 (Le.refl a2.good.bb) a2.good _ ⟨v, vs, rfl, Rp.kp le2.kp _ _ rv, rvs⟩
theorem d_tup {k : Nat} {fs : Env → Sto → Rs (List D)} (hb : PA X ps (tA C b W fs)) :
    PE X (.Tuple ps k pos) (tE C b W fun env S => (fs env S).to fun xs S1 => if xs.length ≤ sizeLim then .ok (.tup xs) S1 else .no) :=
  PE_sub (pe_tup hb) fun σ H Q ⟨ρ, S, env, a, o⟩ => tA_of a o.bind fun xs S1 ρ1 H1 vs le a1 rv o1 => by
    split at o1
    · rename_i hz
      refine ⟨by rw [← rv.length]; exact hz, fun t ht => ?_⟩
      obtain ⟨le2, g', r'⟩ := new_tup a1.good rv ht
      exact o1 _ _ le2 g' _ r'
    · exact o1.elim
theorem d_lst {m : Bool} {fs : Env → Sto → Rs (List D)} (hb : PA X ps (tA C b W fs)) :
    PE X (.List ps pos) (tE C b W fun env S => (fs env S).to fun xs S1 => newL m xs S1) :=
  PE_sub (pe_lst hb) fun σ H Q ⟨ρ, S, env, a, o⟩ => tA_of a o.bind fun xs S1 ρ1 H1 vs le a1 rv o1 => by
    have hz : vs.length ≤ sizeLine := by
      rw [← rv.length]
      unfold newL at o1
      split at o1
      · assumption
      · exact o1.elim
    exact ⟨hz, fun t ht => out_newL a1.good rv ht o1⟩
theorem d_ix (hX : X.K = C.K) (hu : X.A.units + 65 < cLine) (hs : notSlice q = true) (ha : PE X p (tE C b W fa)) (hb : PE X q (tE C b W fb)) :
    PE X (.Subscript p q pos) (tE C b W fun env S => (fa env S).to fun x S1 => (fb env S1).to fun y S2 => rets (index (x.val S2) y) S2) :=
  PE_sub (pe_ix (ir_index hX hu) ha hb (plainIx_of hs)) fun σ H Q ⟨ρ, S, env, a, o⟩ => tE_of a o.bind fun x S1 ρ1 H1 v le a1 rv o1 => tE_of a1 o1.bind fun y S2 ρ2 H2 u le2 a2 ru o2 => by
    obtain ⟨d, e, f⟩ := out_rets o2
    exact ⟨b, ρ2, S2, x, y, d, a2.good, Rp.kp le2.kp _ _ rv, ru, e, f⟩
/-- a part of a slice -/
def tO (C : Cxt) (b : Nat) (W : WX) (f : Env → Sto → Rs (Option Int)) : TO := fun σ H Q =>
  ∃ ρ S env, At C b ρ S H env σ ∧ Out C b W ρ S H σ (f env S) fun k S' ρ' H' => Q k H'
theorem PO_sub {p : Option Expr} {t t' : TO} (h : PO X p t) (i : ∀ σ H Q, t' σ H Q → t σ H Q) : PO X p t' := ⟨fun pins s σ H Q I w => h.run pins s σ H Q I (i σ H Q w)⟩
theorem d_oN : PO X none (tO C b W fun _ S => .ok none S) :=
  PO_sub po_none fun σ H Q ⟨ρ, S, env, a, o⟩ => o ρ H (Le.refl a.good.bb) a.good
theorem d_oS (ha : PE X p (tE C b W fa)) : PO X (some p) (tO C b W fun env S => (fa env S).to fun x S1 => match x with
    | .int i => .ok (some i) S1
    | _ => .no) :=
  PO_sub (po_some ha) fun σ H Q ⟨ρ, S, env, a, o⟩ => tE_of a o.bind fun x S1 ρ1 H1 v le a1 rv o1 => by
    cases x with
    | int i => exact ⟨i, rv, o1 ρ1 H1 (Le.refl a1.good.bb) a1.good⟩
    | _ => exact o1.elim
theorem d_sl (hX : X.K = C.K) {lo hi : Option Expr} {p2 : Pos} {fl fh : Env → Sto → Rs (Option Int)} (ha : PE X p (tE C b W fa)) (hl : PO X lo (tO C b W fl)) (hh : PO X hi (tO C b W fh)) :
    PE X (.Subscript p (.Slice lo hi none p2) pos) (tE C b W fun env S => (fa env S).to fun x S1 => (fl env S1).to fun l S2 => (fh env S2).to fun h S3 => rets (slice (x.val S3) l h) S3) :=
  PE_sub (pe_slice (sr_slice hX) ha hl hh) fun σ H Q ⟨ρ, S, env, a, o⟩ => tE_of a o.bind fun x S1 ρ1 H1 v le a1 rv o1 => by
    refine ⟨ρ1, S1, env, a1, o1.bind.imp fun l S2 ρ2 H2 le2 g2 o2 => ?_⟩
    have a2 : At C b ρ2 S2 H2 env σ := ⟨g2, a1.env.kp le2.kp⟩
    refine ⟨ρ2, S2, env, a2, o2.bind.imp fun h S3 ρ3 H3 le3 g3 o3 => ?_⟩
    obtain ⟨d, e, f⟩ := out_rets o3
    exact ⟨b, ρ3, S3, x, d, g3, Rp.kp le3.kp _ _ (Rp.kp le2.kp _ _ rv), e, f⟩
/-! ### built-ins by name, methods -/
theorem d_callB {f : Pr} {id : String} {x : Str} {pp : Pos} {fs : Env → Sto → Rs (List D)} (hc : CallR X (.builtin id) (rPr C f)) (hg : Gl X x) (hm : X.mg x = none) (hv : bootBuiltins x = some (.builtin id)) (hn : x ≠ "__name__") (hd : (x == ("__debug__" : Str)) = false)
    (hs : (p :: ps).all notStar = true) (ha : PA X (p :: ps) (tA C b W fs)) : PE X (.Call (.Name x pp) (p :: ps) [] pos) (tE C b W fun env S => (fs env S).to fun xs S1 => prim b f xs S1) := by
  simp only [List.all_cons, Bool.and_eq_true] at hs
  exact PE_sub (pe_callB hc hg hm hv ha hn hd (star_cons hs.1) (star_any hs.2)) fun σ H Q ⟨ρ, S, env, a, o⟩ => tA_of a o.bind fun xs S1 ρ1 H1 vs le a1 rv o1 =>
    ⟨b, W, σ, ρ1, S1, xs, a1.good, rv, o1⟩
theorem d_callTy {f : Pr} {id : String} {x : Str} {pp : Pos} {fs : Env → Sto → Rs (List D)} (hc : CallR X (.type id) (rPr C f)) (hg : Gl X x) (hm : X.mg x = none) (hv : bootBuiltins x = some (.type id)) (hn : x ≠ "__name__") (hd : (x == ("__debug__" : Str)) = false)
    (hs : (p :: ps).all notStar = true) (ha : PA X (p :: ps) (tA C b W fs)) : PE X (.Call (.Name x pp) (p :: ps) [] pos) (tE C b W fun env S => (fs env S).to fun xs S1 => prim b f xs S1) := by
  simp only [List.all_cons, Bool.and_eq_true] at hs
  exact PE_sub (pe_callTy hc hg hm hv ha hn hd (star_cons hs.1) (star_any hs.2)) fun σ H Q ⟨ρ, S, env, a, o⟩ => tA_of a o.bind fun xs S1 ρ1 H1 vs le a1 rv o1 =>
    ⟨b, W, σ, ρ1, S1, xs, a1.good, rv, o1⟩
end
end Mi

namespace Mi
open PySem L2 PySem.Spec PyProof.Rows

/-! ## Part 8: and, or, methods, dicts, walks, targets, comprehensions -/
section
variable {X : Cx} {C : Cxt} {b : Nat} {W : WX} {ρ ρ' ρ1 ρ2 : List Addr} {S S' S1 S2 : Sto} {H H' H1 H2 : Hp} {σ : L2.St} {p q r : Expr} {ps : List Expr} {pos : Pos} {fa fb fc : Env → Sto → Rs D}
def dAnd (fa fb : Env → Sto → Rs D) : Env → Sto → Rs D := fun env S => (fa env S).to fun x S1 => match truth S1 x with
  | some true => fb env S1
  | some false => .ok x S1
  | none => .no
def dOr (fa fb : Env → Sto → Rs D) : Env → Sto → Rs D := fun env S => (fa env S).to fun x S1 => match truth S1 x with
  | some true => .ok x S1
  | some false => fb env S1
  | none => .no
theorem d_and (hX : X.K = C.K) (ha : PE X p (tE C b W fa)) (hb : PE X (.BoolOp .And (q :: ps) pos) (tE C b W fb)) : PE X (.BoolOp .And (p :: q :: ps) pos) (tE C b W (dAnd fa fb)) :=
  PE_sub (pe_andT ha hb) fun σ H Q ⟨ρ, S, env, a, o⟩ => tE_of a (Out.bind o) fun x S1 ρ1 H1 v le a1 rv o1 => by
    cases et : truth S1 x with
    | none => rw [et] at o1; exact o1.elim
    | some k =>
      rw [et] at o1
      refine ⟨k, tru_of hX a1.good rv et, ?_⟩
      cases k with
      | true => exact iteT ⟨ρ1, S1, env, a1, o1⟩
      | false => exact iteF (o1 ρ1 H1 (Le.refl a1.good.bb) a1.good _ rv)
theorem d_or (hX : X.K = C.K) (ha : PE X p (tE C b W fa)) (hb : PE X (.BoolOp .Or (q :: ps) pos) (tE C b W fb)) : PE X (.BoolOp .Or (p :: q :: ps) pos) (tE C b W (dOr fa fb)) :=
  PE_sub (pe_orT ha hb) fun σ H Q ⟨ρ, S, env, a, o⟩ => tE_of a (Out.bind o) fun x S1 ρ1 H1 v le a1 rv o1 => by
    cases et : truth S1 x with
    | none => rw [et] at o1; exact o1.elim
    | some k =>
      rw [et] at o1
      refine ⟨k, tru_of hX a1.good rv et, ?_⟩
      cases k with
      | false => exact iteF ⟨ρ1, S1, env, a1, o1⟩
      | true => exact iteT (o1 ρ1 H1 (Le.refl a1.good.bb) a1.good _ rv)
theorem d_andW (ha : PT X p (tT C b W fun env S => toB (fa env S))) (hb : PW X (.BoolOp .And (q :: ps) pos) (tT C b W fun env S => toB (fb env S))) :
    PW X (.BoolOp .And (p :: q :: ps) pos) (tT C b W fun env S => toB (dAnd fa fb env S)) :=
  PW_sub (pw_and ha hb) fun σ H Q ⟨ρ, S, env, a, o⟩ => by
    refine ⟨ρ, S, env, a, ?_⟩
    dsimp only [dAnd] at o ⊢
    cases ef : fa env S with
    | no => rw [ef] at o; exact o
    | ex x S1 => rw [ef] at o; exact o
    | ok x S1 =>
      rw [ef] at o
      simp only [Rs.to, toB] at o ⊢
      cases et : truth S1 x with
      | none => rw [et] at o; exact o.elim
      | some k =>
        rw [et] at o
        intro ρ' H' le g
        cases k with
        | true => exact iteT ⟨ρ', S1, env, ⟨g, a.env.kp le.kp⟩, Out.reb le o⟩
        | false =>
          simp only [et] at o
          exact iteF (o ρ' H' le g)
theorem d_orW (ha : PT X p (tT C b W fun env S => toB (fa env S))) (hb : PW X (.BoolOp .Or (q :: ps) pos) (tT C b W fun env S => toB (fb env S))) :
    PW X (.BoolOp .Or (p :: q :: ps) pos) (tT C b W fun env S => toB (dOr fa fb env S)) :=
  PW_sub (pw_or ha hb) fun σ H Q ⟨ρ, S, env, a, o⟩ => by
    refine ⟨ρ, S, env, a, ?_⟩
    dsimp only [dOr] at o ⊢
    cases ef : fa env S with
    | no => rw [ef] at o; exact o
    | ex x S1 => rw [ef] at o; exact o
    | ok x S1 =>
      rw [ef] at o
      simp only [Rs.to, toB] at o ⊢
      cases et : truth S1 x with
      | none => rw [et] at o; exact o.elim
      | some k =>
        rw [et] at o
        intro ρ' H' le g
        cases k with
        | false => exact iteF ⟨ρ', S1, env, ⟨g, a.env.kp le.kp⟩, Out.reb le o⟩
        | true =>
          simp only [et] at o
          exact iteT (o ρ' H' le g)
/-- one if two as a test -/
theorem pt_if {t : Expr} {tt ta tb : TT} (ht : PT X t tt) (ha : PT X p ta) (hb : PT X q tb) : PT X (.IfExp t p q pos) (fun σ H Q => tt σ H fun c H1 => if c = true then ta σ H1 Q else tb σ H1 Q) := by
  refine ⟨fun pins s σ H Q I h => ?_⟩
  refine isTrue_IfExp (thn (ht.run pins s σ H _ I h) fun c s1 ⟨H1, I1, q1⟩ => ?_)
  cases c with
  | true => exact ite_tt (ha.run pins s1 σ H1 Q I1 (by simpa using q1))
  | false => exact ite_ff (hb.run pins s1 σ H1 Q I1 (by simpa using q1))
theorem d_iteT {t : Expr} {ft : Env → Sto → Rs D} (ht : PT X t (tT C b W fun env S => toB (ft env S))) (ha : PT X p (tT C b W fun env S => toB (fa env S))) (hb : PT X q (tT C b W fun env S => toB (fb env S))) :
    PT X (.IfExp t p q pos) (tT C b W fun env S => toB ((ft env S).to fun x S1 => match truth S1 x with
      | some true => fa env S1
      | some false => fb env S1
      | none => .no)) :=
  PT_sub (pt_if ht ha hb) fun σ H Q ⟨ρ, S, env, a, o⟩ => by
    refine ⟨ρ, S, env, a, ?_⟩
    dsimp only at o ⊢
    cases ef : ft env S with
    | no => rw [ef] at o; exact o
    | ex x S1 => rw [ef] at o; exact o
    | ok x S1 =>
      rw [ef] at o
      simp only [Rs.to, toB] at o ⊢
      cases et : truth S1 x with
      | none => rw [et] at o; exact o.elim
      | some k =>
        rw [et] at o
        intro ρ' H' le g
        cases k with
        | true => exact iteT ⟨ρ', S1, env, ⟨g, a.env.kp le.kp⟩, Out.reb le o⟩
        | false => exact iteF ⟨ρ', S1, env, ⟨g, a.env.kp le.kp⟩, Out.reb le o⟩
/-! ### methods of built-in types -/
theorem d_met {f : Pr} {T id : String} {name : Str} {apos : Pos} {fs : Env → Sto → Rs (List D)} (pa : PlainAttrs T) (slot : Slot T name id) (hty : typeOf (.builtin id) = pure (.type "method_descriptor")) (hm : MtR X id (rMt C f))
    (hT : ∀ {ρ : List Addr} {S : Sto} {H : Hp} {d : D} {v : V}, Good C b ρ S H → Rp C.KR ρ (lv C ρ S) H d v → recvOk f (d.val S) = true → tyV X.K T v H)
    (hb : notSuper p = true) (hl : (apos.endLine == pos.line) = true) (hs : (q :: ps).all notStar = true) (hf : (q :: ps).length < 30) (ha : PE X p (tE C b W fa)) (hq : PA X (q :: ps) (tA C b W fs)) :
    PE X (.Call (.Attribute p name apos) (q :: ps) [] pos) (tE C b W fun env S => (fa env S).to fun x S1 => if recvOk f (x.val S1) = true then (fs env S1).to fun xs S2 => prim b f (x :: xs) S2 else .no) := by
  have hs' := hs
  simp only [List.all_cons, Bool.and_eq_true] at hs'
  refine PE_sub (pe_bm pa slot hty hm ha hq (base_of hb) ?_ hl (star_cons hs'.1) (star_any hs'.2)) fun σ H Q ⟨ρ, S, env, a, o⟩ => tE_of a o.bind fun x S1 ρ1 H1 v le a1 rv o1 => ?_
  · rw [star_all hs]
    show (true && true && decide (_ < 30)) = true
    simp only [Bool.true_and, decide_eq_true_eq]
    show (q :: ps).length + 0 + 0 < 30
    omega
  · split at o1
    · rename_i hr
      exact ⟨hT a1.good rv hr, tA_of a1 o1.bind fun xs S2 ρ2 H2 vs le2 a2 rvs o2 => ⟨b, W, σ, ρ2, S2, x :: xs, a2.good, ⟨v, vs, rfl, Rp.kp le2.kp _ _ rv, rvs⟩, o2⟩⟩
    · exact o1.elim
theorem d_met0 {f : Pr} {T id : String} {name : Str} {apos : Pos} (pa : PlainAttrs T) (slot : Slot T name id) (hty : typeOf (.builtin id) = pure (.type "method_descriptor")) (hm : MtR X id (rMt C f))
    (hT : ∀ {ρ : List Addr} {S : Sto} {H : Hp} {d : D} {v : V}, Good C b ρ S H → Rp C.KR ρ (lv C ρ S) H d v → recvOk f (d.val S) = true → tyV X.K T v H)
    (hb : notSuper p = true) (hl : (apos.endLine == pos.line) = true) (ha : PE X p (tE C b W fa)) :
    PE X (.Call (.Attribute p name apos) [] [] pos) (tE C b W fun env S => (fa env S).to fun x S1 => if recvOk f (x.val S1) = true then (Rs.ok [] S1).to fun xs S2 => prim b f (x :: xs) S2 else .no) := by
  refine PE_sub (pe_bm0 pa slot hty hm ha (base_of hb) hl) fun σ H Q ⟨ρ, S, env, a, o⟩ => tE_of a o.bind fun x S1 ρ1 H1 v le a1 rv o1 => ?_
  split at o1
  · rename_i hr
    exact ⟨hT a1.good rv hr, b, W, σ, ρ1, S1, [x], a1.good, ⟨v, [], rfl, rv, rfl⟩, o1⟩
  · exact o1.elim
theorem recv_list (hX : X.K = C.K) {d : D} {v : V} (g : Good C b ρ S H) (r : Rp C.KR ρ (lv C ρ S) H d v) (h : ∃ l, d.val S = .lst l) : tyV X.K "list" v H := by
  obtain ⟨l, e⟩ := h
  obtain ⟨a, xs, rfl, h1, _⟩ := valL g r e
  exact .inl ⟨rfl, xs, hX ▸ h1⟩

/-! ### walks -/
/-- what stands while it is walked -/
def Hold (C : Cxt) (items : List D) (src : Option (D × V × List D × Option (Addr × HO))) (ρ : List Addr) (S : Sto) (H : Hp) : Prop := match src with
  | none => True
  | some (d, v, base, hu) => Rp C.KR ρ (lv C ρ S) H d v ∧ (∀ a u, hu = some (a, u) → H a = some u ∧ ¬ lv C ρ S a) ∧ (d = .lst base ∨ d = .tup base ∨ (∃ n, d = .ref n ∧ S[n]? = some (MO.lck (.lst base))) ∨ ∃ l, d = .dic l ∧ base = l.map (·.1))
theorem Hold.kp {items : List D} {src : Option (D × V × List D × Option (Addr × HO))} (le : Le C b ρ S H ρ' S' H') (h : Hold C items src ρ S H) : Hold C items src ρ' S' H' := by
  match src, h with
  | none, _ => trivial
  | some (d, v, _, _), ⟨h1, hu, h2⟩ =>
    refine ⟨Rp.kp le.kp _ _ h1, fun a u e => le.kp.keep a u (hu a u e).1 (hu a u e).2, ?_⟩
    rcases h2 with h | h | ⟨n, h, h3⟩ | h
    · exact .inl h
    · exact .inr (.inl h)
    · exact .inr (.inr (.inl ⟨n, h, le.lck n _ h3⟩))
    · exact .inr (.inr (.inr h))
/-- an iterator J over the items -/
structure Wk (C : Cxt) (b : Nat) (J : It) (items : List D) (src : Option (D × V × List D × Option (Addr × HO))) : Prop where
  go : ∀ (i : Nat) (d : D) (ρ : List Addr) (S : Sto) (H : Hp), Good C b ρ S H → Hold C items src ρ S H → items[i]? = some d → J.go i H ∧ ∀ x H', J.yld i H x H' → Le C b ρ S H ρ S H' ∧ Good C b ρ S H' ∧ Rp C.KR ρ (lv C ρ S) H' d x
  stop : ∀ (ρ : List Addr) (S : Sto) (H : Hp), Good C b ρ S H → Hold C items src ρ S H → J.stop items.length H
def tI (C : Cxt) (b : Nat) (W : WX) (f : Env → Sto → Rs (List D × Option Nat)) : TI := fun σ H R =>
  ∃ ρ S env, At C b ρ S H env σ ∧ Out C b W ρ S H σ (f env S) fun p S' ρ' H' => ∀ J src, (∀ C' : Cxt, C'.K = C.K ∧ C'.KR = C.KR → Wk C' b J p.1 src) → (∀ n, p.2 = some n → S'[n]? = some (.lst p.1)) → (∀ S2, S2 = lockS S' p.2 → Good C b ρ' S2 H' → Le C b ρ' S' H' ρ' S2 H' → Hold C p.1 src ρ' S2 H') → R J H'
theorem wk_list (hX : X.K = C.K) {a : Addr} {items : List D} {d : D} (hd : d = .lst items ∨ ∃ n, d = .ref n) : Wk C b (Itl X.K a) items (some (d, .ref a, items, none)) := by
  have key : ∀ (ρ : List Addr) (S : Sto) (H : Hp), Good C b ρ S H → Hold C items (some (d, .ref a, items, none)) ρ S H → ∃ xs, SqL X.K H a xs ∧ Rps C.KR ρ (lv C ρ S) H items xs := fun ρ S H g ⟨h1, _, h2⟩ => by
    have e : d.val S = .lst items := by
      rcases h2 with rfl | rfl | ⟨n, rfl, h3⟩ | ⟨l, rfl, _⟩
      · rfl
      · rcases hd with hd | ⟨n, hd⟩ <;> cases hd
      · unfold D.val; simp only [h3, MO.here]
      · rcases hd with hd | ⟨n, hd⟩ <;> cases hd
    obtain ⟨a', xs, e2, h3, h4⟩ := valL g h1 e
    cases e2
    exact ⟨xs, hX ▸ h3, h4⟩
  refine ⟨fun i x ρ S H g h hi => ?_, fun ρ S H g h => ?_⟩
  · obtain ⟨xs, h1, h2⟩ := key ρ S H g h
    obtain ⟨v, h3, h4⟩ := h2.get hi
    refine ⟨⟨xs, v, h1, h3⟩, fun y H' ⟨e, hy⟩ => ?_⟩
    subst e
    have := hy xs h1
    rw [h3] at this; cases this
    exact ⟨Le.refl g.bb, g, h4⟩
  · obtain ⟨xs, h1, h2⟩ := key ρ S H g h
    exact ⟨xs, h1, by rw [h2.length]; exact Nat.le_refl _⟩
theorem wk_tup (hX : X.K = C.K) {a : Addr} {items : List D} : Wk C b (Itt X.K a) items (some (.tup items, .ref a, items, none)) := by
  have key : ∀ (ρ : List Addr) (S : Sto) (H : Hp), Good C b ρ S H → Hold C items (some (.tup items, .ref a, items, none)) ρ S H → ∃ xs, SqT X.K H a xs ∧ Rps C.KR ρ (lv C ρ S) H items xs := fun ρ S H g ⟨h1, _, h2⟩ => by
    obtain ⟨a', xs, e2, h3, h4⟩ := h1
    cases e2
    exact ⟨xs, hX ▸ h3.sq, h4⟩
  refine ⟨fun i x ρ S H g h hi => ?_, fun ρ S H g h => ?_⟩
  · obtain ⟨xs, h1, h2⟩ := key ρ S H g h
    obtain ⟨v, h3, h4⟩ := h2.get hi
    refine ⟨⟨xs, v, h1, h3⟩, fun y H' ⟨e, hy⟩ => ?_⟩
    subst e
    have := hy xs h1
    rw [h3] at this; cases this
    exact ⟨Le.refl g.bb, g, h4⟩
  · obtain ⟨xs, h1, h2⟩ := key ρ S H g h
    exact ⟨xs, h1, by rw [h2.length]; exact Nat.le_refl _⟩
theorem wk_range {lo : Int} {n : Nat} {items : List D} (h : items = (List.range n).map fun (k : Nat) => D.int (lo + k)) : Wk C b (Itr lo n) items none := by
  subst h
  refine ⟨fun i x ρ S H g _ hi => ?_, fun ρ S H g _ => ?_⟩
  · rw [List.getElem?_map] at hi
    obtain ⟨k, h1, h2⟩ := Option.map_eq_some_iff.mp hi
    obtain ⟨h3, h4⟩ := List.getElem?_eq_some_iff.mp h1
    rw [List.getElem_range] at h4
    subst h4
    subst h2
    refine ⟨by rw [List.length_range] at h3; exact h3, fun y H' ⟨e1, e2⟩ => ?_⟩
    subst e1
    exact ⟨Le.refl g.bb, g, e2⟩
  · show n ≤ _
    simp
theorem Rpp.get {K : PySem.W.Frag} {l : Addr → Prop} : ∀ {ds : List (D × D)} {kvs : List (Key × V)} {i : Nat} {d : D}, Rpp K ρ l H ds kvs → (ds.map (·.1))[i]? = some d → ∃ q x, kvs[i]? = some (q, x) ∧ keyD d q
  | [], kvs, i, d, h, e => by simp at e
  | (k, w) :: r, kvs, 0, d, ⟨q, x, t, e, hk, h, h2⟩, e2 => by
    simp at e2; subst e2; subst e
    exact ⟨q, x, rfl, hk⟩
  | (k, w) :: r, kvs, i + 1, d, ⟨q, x, t, e, hk, h, h2⟩, e2 => by
    subst e
    obtain ⟨q2, x2, h3, h4⟩ := Rpp.get (i := i) (d := d) h2 (by simpa using e2)
    exact ⟨q2, x2, by simpa using h3, h4⟩
theorem key_rp {K : PySem.W.Frag} {l : Addr → Prop} {d : D} {q : Key} (h : keyD d q) : Rp K ρ l H d (kV q) := by
  cases d with
  | int i => cases (show q = .inl i from h); rfl
  | str s => obtain ⟨rfl, ok⟩ := (show q = _ ∧ _ from h); exact ⟨rfl, ok⟩
  | _ => exact h.elim
theorem wk_keys {a : Addr} {od : Obj} {kvs : List (Key × V)} {l : List (D × D)} : Wk C b (Itk a od kvs) (l.map (·.1)) (some (.dic l, .ref a, l.map (·.1), some (a, .frz od (.dK kvs)))) := by
  have hh : ∀ (ρ : List Addr) (S : Sto) (H : Hp), Good C b ρ S H → Hold C (l.map (·.1)) (some (.dic l, .ref a, l.map (·.1), some (a, .frz od (.dK kvs)))) ρ S H → H a = some (.frz od (.dK kvs)) ∧ Rpp C.KR ρ (lv C ρ S) H l kvs := fun ρ S H g ⟨h1, hu, _⟩ => by
    obtain ⟨a2, kvs2, od2, e2, n2, h3, h4⟩ := h1
    cases e2
    have h5 := (hu a _ rfl).1
    rw [h3] at h5; cases h5
    exact ⟨h3, h4⟩
  refine ⟨fun i x ρ S H g h hi => ?_, fun ρ S H g h => ?_⟩
  · obtain ⟨h1, h2⟩ := hh ρ S H g h
    obtain ⟨q, w, h3, h4⟩ := h2.get hi
    refine ⟨⟨h1, (List.getElem?_eq_some_iff.mp h3).1⟩, fun y H' ⟨e, k, v, e2, e3⟩ => ?_⟩
    subst e
    rw [h3] at e2; cases e2
    subst e3
    exact ⟨Le.refl g.bb, g, key_rp h4⟩
  · obtain ⟨h1, h2⟩ := hh ρ S H g h
    exact ⟨h1, by rw [List.length_map, kvs_length _ _ h2]; exact Nat.le_refl _⟩
/-- a dict that stands still, walked key by key -/
theorem pi_keysD {tg : Expr} (ha : PE X p (tE C b W fa)) : PI X tg p (tI C b W fun env S => (fa env S).to fun x S1 => match x with
    | .dic l => .ok (l.map (·.1), none) S1
    | _ => .no) := by
  refine ⟨fun pins s σ H R I ⟨ρ, S, env, a, o⟩ => (pi_keys ha).run pins s σ H R I ?_⟩
  refine tE_of a o.bind fun x S1 ρ1 H1 v le a1 rv o1 => ?_
  cases x with
  | dic l =>
    obtain ⟨a', kvs, od, rfl, hl, h1, h2⟩ := rv
    exact ⟨a', od, rfl, .inl ⟨kvs, h1, o1 ρ1 H1 (Le.refl a1.good.bb) a1.good _ (some (.dic l, .ref a', l.map (·.1), some (a', .frz od (.dK kvs)))) (fun C' hC => wk_keys) (fun _ z => nomatch z) fun S2 e g2 le2 => by
      subst e; exact ⟨⟨a', kvs, od, rfl, hl, h1, h2⟩, fun _ _ z => by cases z; exact ⟨h1, hl⟩, .inr (.inr (.inr ⟨l, rfl, rfl⟩))⟩⟩⟩
  | _ => exact o1.elim
/-- a list or a tuple, walked -/
theorem pi_seq {tg : Expr} (hX : X.K = C.K) (ha : PE X p (tE C b W fa)) : PI X tg p (tI C b W fun env S => (fa env S).to fun x S1 => match itemsOf S1 x with
    | some q => .ok q S1
    | none => .no) := by
  refine ⟨fun pins s σ H R I ⟨ρ, S, env, a, o⟩ => ?_⟩
  refine thn (ha.run pins s σ H (fun v H1 => (∃ a, v = .ref a ∧ (∃ xs, SqL X.K H1 a xs) ∧ R (Itl X.K a) H1) ∨ (∃ a, v = .ref a ∧ (∃ xs, SqT X.K H1 a xs) ∧ R (Itt X.K a) H1)) I (tE_of a o.bind fun x S1 ρ1 H1 v le a1 rv o1 => ?_)) fun v s1 ⟨x, H1, I1, r1, q1⟩ => ?_
  · unfold itemsOf at o1
    cases x with
    | tup l =>
      obtain ⟨a', xs, rfl, h1, h2⟩ := rv
      exact .inr ⟨a', rfl, ⟨xs, hX ▸ h1.sq⟩, o1 ρ1 H1 (Le.refl a1.good.bb) a1.good _ _ (fun C' h => wk_tup (hX.trans h.1.symm)) (fun _ z => nomatch z) fun S2 e g2 le2 => by
        subst e; exact ⟨⟨a', xs, rfl, h1, h2⟩, (fun _ _ z => nomatch z), .inr (.inl rfl)⟩⟩
    | lst l =>
      obtain ⟨a', xs, rfl, h1, h2⟩ := rv
      exact .inl ⟨a', rfl, ⟨xs, hX ▸ h1.sq⟩, o1 ρ1 H1 (Le.refl a1.good.bb) a1.good _ _ (fun C' h => wk_list (hX.trans h.1.symm) (.inl rfl)) (fun _ z => nomatch z) fun S2 e g2 le2 => by
        subst e; exact ⟨⟨a', xs, rfl, h1, h2⟩, (fun _ _ z => nomatch z), .inl rfl⟩⟩
    | ref n =>
      simp only at o1
      cases es : S1[n]? with
      | none => rw [es] at o1; exact o1.elim
      | some w =>
        rw [es] at o1
        cases w with
        | lst l =>
          obtain ⟨a', xs, rfl, er, h1, h2⟩ := the_lst a1.good rv es
          refine .inl ⟨a', rfl, ⟨xs, SqL.of h1⟩, o1 ρ1 H1 (Le.refl a1.good.bb) a1.good _ _ (fun C' h => wk_list (d := .ref n) (hX.trans h.1.symm) (.inr ⟨n, rfl⟩)) (fun m z => by cases z; exact es) fun S2 e g2 le2 => ⟨⟨a', get_pre le2.pre er, rfl⟩, (fun _ _ z => nomatch z), .inr (.inr (.inl ⟨n, rfl, ?_⟩))⟩⟩
          rw [e]
          have hn : n < S1.length := (List.getElem?_eq_some_iff.mp es).1
          simp only [lockS, es]
          rw [List.getElem?_set_self hn]
        | dead => exact o1.elim
        | dic l => exact o1.elim
        | dct f => exact o1.elim
        | ins c f => exact o1.elim
        | lck w =>
          cases w with
          | lst l =>
            have rv' := rv
            obtain ⟨a', er, rfl⟩ := rv'
            obtain ⟨xs, h1, h2⟩ := a1.good.obj n _ a' es er
            refine .inl ⟨a', rfl, ⟨xs, SqL.of h1⟩, o1 ρ1 H1 (Le.refl a1.good.bb) a1.good _ _ (fun C' h => wk_list (d := .ref n) (hX.trans h.1.symm) (.inr ⟨n, rfl⟩)) (fun _ z => nomatch z) fun S2 e g2 le2 => ⟨⟨a', get_pre le2.pre er, rfl⟩, (fun _ _ z => nomatch z), .inr (.inr (.inl ⟨n, rfl, ?_⟩))⟩⟩
            rw [e]; exact es
          | dead => exact o1.elim
          | dic l => exact o1.elim
          | dct f => exact o1.elim
          | ins c f => exact o1.elim
          | lck o => exact o1.elim
    | non => exact o1.elim
    | bl b => exact o1.elim
    | int b => exact o1.elim
    | str b => exact o1.elim
    | dic b => exact o1.elim
    | set b => exact o1.elim
  · have nt : ∀ b, b ∈ [s1.heap.objs.size] → FpOk X pins H1 b := fun b hb => by
      have e : b = s1.heap.objs.size := by simpa using hb
      subst e
      exact I1.fpOk (Nat.le_refl _) (I1.hok.fresh (Nat.le_refl _))
    rcases q1 with ⟨a', rfl, ⟨xs, hq⟩, hR⟩ | ⟨a', rfl, ⟨xs, hq⟩, hR⟩
    · cases r1
      obtain ⟨its, rv, pl, hz⟩ := I1.list hq
      exact wpAny_pyIter_list pl.isList ⟨s1.heap.objs.size, [s1.heap.objs.size], _, _, H1, rfl, I1.kept (t' := s1.toks) fun b o e => Heap.get?_push_of_some _ e, turn_list a' _, ⟨_, Heap.get?_push_size _ rfl, rfl, rfl⟩, nt, hR⟩
    · cases r1
      obtain ⟨its, rv, pl, hz⟩ := I1.tuple hq
      exact wpAny_pyIter_tuple (show s1.heap.IsTuple a' its.toArray from pl) ⟨s1.heap.objs.size, [s1.heap.objs.size], _, _, H1, rfl, I1.kept (t' := s1.toks) fun b o e => Heap.get?_push_of_some _ e, turn_tuple a' _, ⟨_, Heap.get?_push_size _ rfl, rfl, rfl⟩, nt, hR⟩
theorem PI_sub {tg it : Expr} {t t' : TI} (h : PI X tg it t) (i : ∀ σ H R, t' σ H R → t σ H R) : PI X tg it t' := ⟨fun pins s σ H R I w => h.run pins s σ H R I (i σ H R w)⟩
def dRange (xs : List D) (S1 : Sto) : Rs (List D × Option Nat) := match xs with
  | [.int j] => if -(2 ^ 62) ≤ j ∧ j < 2 ^ 62 then .ok (rangeOf 0 j, none) S1 else .no
  | [.int i, .int j] => if -(2 ^ 62) ≤ i ∧ i < 2 ^ 62 ∧ -(2 ^ 62) ≤ j ∧ j < 2 ^ 62 then .ok (rangeOf i j, none) S1 else .no
  | _ => .no
theorem pi_rng1 {tg : Expr} {pp : Pos} {fs : Env → Sto → Rs (List D)} (hg : Gl X "range") (hm : X.mg "range" = none) (hs : notStar p = true) (ha : PA X [p] (tA C b W fs)) (h1 : ∀ env S ds S', fs env S = .ok ds S' → ds.length = 1) :
    PI X tg (.Call (.Name "range" pp) [p] [] pos) (tI C b W fun env S => (fs env S).to dRange) :=
  PI_sub (pi_range1 hg hm ha (star_cons hs)) fun σ H R ⟨ρ, S, env, a, o⟩ => by
    refine ⟨ρ, S, env, a, ?_⟩
    have ob := o.bind
    cases ef : fs env S with
    | no => rw [ef] at ob; exact ob
    | ex x S1 => rw [ef] at ob; exact ob
    | ok ds S1 =>
      rw [ef] at ob
      have hl := h1 _ _ _ _ ef
      intro ρ' H' le g v hv
      have o1 := ob ρ' H' le g
      match ds, hl, hv, o1 with
      | [d], _, ⟨x, t, e, hx, ht⟩, o1 =>
        cases (show t = [] from ht); subst e
        cases d with
        | int j =>
          simp only [dRange] at o1
          split at o1
          · rename_i hc
            cases (show x = .int j from hx)
            exact ⟨j, rfl, hc.1, hc.2, o1 ρ' H' (Le.refl g.bb) g _ none (fun _ _ => wk_range (by simp [rangeOf])) (fun _ z => nomatch z) fun _ _ _ _ => trivial⟩
          · exact o1.elim
        | _ => exact o1.elim
theorem pi_rng2 {tg : Expr} {pp : Pos} {fs : Env → Sto → Rs (List D)} (hg : Gl X "range") (hm : X.mg "range" = none) (hs : notStar p = true) (hs2 : notStar q = true) (ha : PA X [p, q] (tA C b W fs)) (h1 : ∀ env S ds S', fs env S = .ok ds S' → ds.length = 2) :
    PI X tg (.Call (.Name "range" pp) [p, q] [] pos) (tI C b W fun env S => (fs env S).to dRange) :=
  PI_sub (pi_range2 hg hm ha (by rw [star_cons hs, star_cons hs2]; rfl) (star_cons hs2)) fun σ H R ⟨ρ, S, env, a, o⟩ => by
    refine ⟨ρ, S, env, a, ?_⟩
    have ob := o.bind
    cases ef : fs env S with
    | no => rw [ef] at ob; exact ob
    | ex x S1 => rw [ef] at ob; exact ob
    | ok ds S1 =>
      rw [ef] at ob
      have hl := h1 _ _ _ _ ef
      intro ρ' H' le g v hv
      have o1 := ob ρ' H' le g
      match ds, hl, hv, o1 with
      | [d, e], _, ⟨x, t, e1, hx, y, t2, e2, hy, ht⟩, o1 =>
        cases (show t2 = [] from ht); subst e2; subst e1
        cases d with
        | int i =>
          cases e with
          | int j =>
            simp only [dRange] at o1
            split at o1
            · rename_i hc
              cases (show x = .int i from hx)
              cases (show y = .int j from hy)
              exact ⟨i, j, rfl, hc, o1 ρ' H' (Le.refl g.bb) g _ none (fun _ _ => wk_range rfl) (fun _ z => nomatch z) fun _ _ _ _ => trivial⟩
            · exact o1.elim
          | _ => exact o1.elim
        | _ => exact o1.elim
end
end Mi

namespace Mi
open PySem L2 PySem.Spec PyProof.Rows

/-! ## Part 9: targets, list comprehensions -/
section
variable {X : Cx} {C : Cxt} {b : Nat} {W : WX} {ρ ρ' ρ1 ρ2 : List Addr} {S S' S1 S2 : Sto} {H H' H1 H2 : Hp} {σ σ' : L2.St} {p q r : Expr} {ps : List Expr} {pos : Pos} {fa fb fc : Env → Sto → Rs D} {l : Addr → Prop}
/-- no exception leaves -/
def W0 : WX := fun _ _ _ _ => False
theorem EnvR.set {K : PySem.W.Frag} {env : Env} {d : D} {v : V} (e : EnvR K ρ l H env σ) (r : Rp K ρ l H d v) (i : Nat) : EnvR K ρ l H (env.set i (some d)) (σ.set i (some v)) := by
  refine ⟨by rw [List.length_set, List.length_set]; exact e.1, fun j d' h => ?_⟩
  by_cases q : i = j
  · subst q
    by_cases hl : i < env.length
    · rw [List.getElem?_set_self hl] at h
      cases h
      exact ⟨v, by rw [List.getElem?_set_self (by rw [← e.1]; exact hl)], r⟩
    · rw [List.getElem?_eq_none (by simp; omega)] at h; cases h
  · rw [List.getElem?_set_ne q] at h
    rw [List.getElem?_set_ne q]
    exact e.2 j d' h
theorem wipeE_length (env : Env) : ∀ vs : List Nat, (wipeE env vs).length = env.length
  | [] => rfl
  | v :: vs => by unfold wipeE; rw [List.length_set, wipeE_length env vs]
theorem wipeE_some {env : Env} {i : Nat} {x : D} : ∀ {vs : List Nat}, (wipeE env vs)[i]? = some (some x) → env[i]? = some (some x) ∧ i ∉ vs
  | [], h => ⟨h, by simp⟩
  | v :: vs, h => by
    unfold wipeE at h
    by_cases hi : v = i
    · subst hi
      by_cases hv : v < (wipeE env vs).length
      · rw [List.getElem?_set_self hv] at h; cases h
      · rw [List.getElem?_eq_none (by simpa using hv)] at h; cases h
    · rw [List.getElem?_set_ne hi] at h
      obtain ⟨h1, h2⟩ := wipeE_some h
      exact ⟨h1, by simp only [List.mem_cons, not_or]; exact ⟨fun e => hi e.symm, h2⟩⟩
theorem EnvR.wipeL {K : PySem.W.Frag} {env : Env} (e : EnvR K ρ l H env σ) (vs : List Nat) : EnvR K ρ l H (wipeE env vs) σ :=
  ⟨by rw [wipeE_length]; exact e.1, fun i d h => e.2 i d (wipeE_some h).1⟩
theorem EnvR.wipe {K : PySem.W.Frag} {env : Env} (e : EnvR K ρ l H env σ) (vs : List Nat) : EnvR K ρ l H (wipeE env vs) (wipe σ vs) :=
  ⟨by rw [wipeE_length, wipe_length]; exact e.1, fun i d h => by
    obtain ⟨h1, h2⟩ := wipeE_some h
    obtain ⟨v, h3, h4⟩ := e.2 i d h1
    exact ⟨v, by rw [wipe_out h2]; exact h3, h4⟩⟩
/-- slots outside vs stand -/
def Off (vs : List Nat) (σ σ' : L2.St) : Prop := σ'.length = σ.length ∧ ∀ i, i ∉ vs → σ'[i]? = σ[i]?
theorem wipe_in {σ : L2.St} : ∀ {vs : List Nat} {i : Nat}, i ∈ vs → i < σ.length → (wipe σ vs)[i]? = some none
  | v :: vs, i, h, hl => by
    unfold wipe
    by_cases hi : v = i
    · subst hi
      rw [List.getElem?_set_self (by rw [wipe_length]; exact hl)]
    · rw [List.getElem?_set_ne hi]
      exact wipe_in (by
        rcases List.mem_cons.mp h with h | h
        · exact absurd h.symm hi
        · exact h) hl
theorem Off.wipe {vs us : List Nat} (h : Off vs σ σ') (hs : ∀ i ∈ vs, i ∈ us) : wipe σ' us = wipe σ us := by
  refine List.ext_getElem? fun i => ?_
  by_cases hi : i ∈ us
  · by_cases hl : i < σ.length
    · rw [wipe_in hi hl, wipe_in hi (by rw [h.1]; exact hl)]
    · rw [List.getElem?_eq_none (by rw [wipe_length, h.1]; omega), List.getElem?_eq_none (by rw [wipe_length]; omega)]
  · rw [wipe_out hi, wipe_out hi]
    exact h.2 i fun z => hi (hs i z)
theorem wipe_wipe (σ : L2.St) (vs : List Nat) : wipe (wipe σ vs) vs = wipe σ vs := by
  refine List.ext_getElem? fun i => ?_
  by_cases hi : i ∈ vs
  · by_cases hl : i < σ.length
    · rw [wipe_in hi (by rw [wipe_length]; exact hl), wipe_in hi hl]
    · rw [List.getElem?_eq_none (by rw [wipe_length, wipe_length]; omega), List.getElem?_eq_none (by rw [wipe_length]; omega)]
  · rw [wipe_out hi]
def tG (C : Cxt) (b : Nat) (vs : List Nat) (f : D → Env → Sto → Rs Env) : TG := fun v σ H Q =>
  ∃ ρ S env d env' S', At C b ρ S H env σ ∧ Rp C.KR ρ (lv C ρ S) H d v ∧ f d env S = .ok env' S' ∧
    ∀ ρ' H' σ', Le C b ρ S H ρ' S' H' → At C b ρ' S' H' env' σ' → Off vs σ σ' → Q σ' H'
def tGs (C : Cxt) (b : Nat) (vs : List Nat) (f : List D → Env → Sto → Rs Env) : TGs := fun v σ H Q =>
  ∃ ρ S env d env' S', At C b ρ S H env σ ∧ Rps C.KR ρ (lv C ρ S) H d v ∧ f d env S = .ok env' S' ∧
    ∀ ρ' H' σ', Le C b ρ S H ρ' S' H' → At C b ρ' S' H' env' σ' → Off vs σ σ' → Q σ' H'
theorem PG_sub {tg : Expr} {t t' : TG} (h : PG X tg t) (i : ∀ v σ H Q, t' v σ H Q → t v σ H Q) : PG X tg t' := ⟨fun pins s σ H v u Q I r w => h.run pins s σ H v u Q I r (i v σ H Q w)⟩
theorem PGs_sub {tg : List Expr} {t t' : TGs} (h : PGs X tg t) (i : ∀ v σ H Q, t' v σ H Q → t v σ H Q) : PGs X tg t' := ⟨fun pins s σ H v u Q I r w => h.run pins s σ H v u Q I r (i v σ H Q w)⟩
theorem d_gName {i : Nat} {x : Str} (h : PG X (.Name x pos) (gName i)) : PG X (.Name x pos) (tG C b [i] fun d env S => .ok (env.set i (some d)) S) :=
  PG_sub h fun v σ H Q ⟨ρ, S, env, d, env', S', a, r, e, q⟩ => by
    cases e
    exact q ρ H (σ.set i (some v)) (Le.refl a.good.bb) ⟨a.good, a.env.set r i⟩ ⟨List.length_set .., fun j hj => List.getElem?_set_ne fun z => hj (by simp [z])⟩
theorem assignEach_cons {p : Expr} {ps : List Expr} {env : PySem.Env} (h : notStar p = true) : assignEach (p :: ps) env = (false, assign p env) :: assignEach ps env := by
  cases p <;> first | rfl | (cases h)
theorem assignEach_len {env : PySem.Env} : ∀ {ps : List Expr}, ps.all notStar = true → (assignEach ps env).length = ps.length ∧ (assignEach ps env).findIdx? (·.1) = none
  | [], _ => ⟨rfl, rfl⟩
  | p :: ps, h => by
    simp only [List.all_cons, Bool.and_eq_true] at h
    obtain ⟨h1, h2⟩ := assignEach_len (env := env) h.2
    rw [assignEach_cons h.1, List.length_cons, List.length_cons, h1, List.findIdx?_cons, h2]
    exact ⟨rfl, rfl⟩
theorem d_gNil : PGs X [] (tGs C b [] fun ds env S => match ds with
    | [] => .ok env S
    | _ => .no) :=
  PGs_sub pgs_nil fun vs σ H Q ⟨ρ, S, env, d, env', S', a, r, e, q⟩ => by
    cases d with
    | nil =>
      cases e
      exact ⟨r, q ρ H σ (Le.refl a.good.bb) a ⟨rfl, fun _ _ => rfl⟩⟩
    | cons => cases e
theorem Off.append {vs us : List Nat} {σ σ1 σ2 : L2.St} (h : Off vs σ σ1) (h2 : Off us σ1 σ2) : Off (vs ++ us) σ σ2 :=
  ⟨h2.1.trans h.1, fun i hi => (h2.2 i fun z => hi (List.mem_append_right _ z)).trans (h.2 i fun z => hi (List.mem_append_left _ z))⟩
theorem to_ok {α β : Type} {r : Rs α} {k : α → Sto → Rs β} {y : β} {S' : Sto} (h : r.to k = .ok y S') : ∃ x S1, r = .ok x S1 ∧ k x S1 = .ok y S' := by
  cases r with
  | ok x S1 => exact ⟨x, S1, rfl, h⟩
  | ex x S1 => cases h
  | no => cases h
theorem d_gCons {vs us : List Nat} {f : D → Env → Sto → Rs Env} {g : List D → Env → Sto → Rs Env} (hs : notStar p = true) (h1 : PG X p (tG C b vs f)) (h2 : PGs X ps (tGs C b us g)) :
    PGs X (p :: ps) (tGs C b (vs ++ us) fun ds env S => match ds with
      | d :: ds => (f d env S).to fun e S1 => g ds e S1
      | [] => .no) :=
  PGs_sub (pgs_cons h1 h2 (by rw [assignEach_cons hs]; rfl)) fun vs σ H Q ⟨ρ, S, env, ds, env', S', a, r, e, q⟩ => by
    cases ds with
    | nil => cases e
    | cons d ds =>
      obtain ⟨v, t, rfl, rv, rt⟩ := r
      obtain ⟨e1, S1, h3, h4⟩ := to_ok e
      refine ⟨v, t, rfl, ρ, S, env, d, e1, S1, a, rv, h3, fun ρ1 H1 σ1 le1 a1 off1 => ⟨ρ1, S1, e1, ds, env', S', a1, Rps.kp le1.kp _ _ rt, h4, fun ρ2 H2 σ2 le2 a2 off2 => ?_⟩⟩
      exact q ρ2 H2 σ2 (le1.trans le2) a2 (off1.append off2)
theorem d_gTup {vs : List Nat} {g : List D → Env → Sto → Rs Env} {k : Nat} (hX : X.K = C.K) (hc : X.calm = true) (hs : ps.all notStar = true) (h : PGs X ps (tGs C b vs g)) (hl : ∀ l env S e S', g l env S = .ok e S' → l.length = ps.length) :
    PG X (.Tuple ps k pos) (tG C b vs fun d env S => match d with
      | .tup l => g l env S
      | _ => .no) :=
  PG_sub (pg_tup hc h (assignEach_len hs).1 (assignEach_len hs).2) fun v σ H Q ⟨ρ, S, env, d, env', S', a, r, e, q⟩ => by
    cases d with
    | tup l =>
      obtain ⟨t, xs, rfl, hq, rx⟩ := r
      exact ⟨t, xs, rfl, hX ▸ hq.sq, by rw [← rx.length]; exact hl _ _ _ _ _ e, ρ, S, env, l, env', S', a, rx, e, q⟩
    | _ => cases e
theorem the_dic (g : Good C b ρ S H) {n : Nat} {v : V} {l : List (D × D)} (h : Rp C.KR ρ (lv C ρ S) H (.ref n) v) (e : S[n]? = some (.dic l)) : ∃ a xs, v = .ref a ∧ ρ[n]? = some a ∧ H a = some (.dK xs) ∧ Rpp C.KR ρ (lv C ρ S) H l xs := by
  obtain ⟨a, er, e1⟩ := h
  obtain ⟨xs, h1, h2⟩ := g.obj n _ a e er
  exact ⟨a, xs, e1, er, h1, h2⟩
theorem keyD_eq {a k : D} {q' q : Key} (hk' : keyD a q') (hk : keyD k q) : keyEq a k = decide (q' = q) := by
  cases a with
  | int i =>
    cases (show q' = Sum.inl i from hk')
    cases k with
    | int j =>
      cases (show q = Sum.inl j from hk)
      simp only [keyEq, Sum.inl.injEq]
      rfl
    | str s => obtain ⟨rfl, _⟩ := (show q = _ ∧ _ from hk); simp [keyEq]
    | _ => exact hk.elim
  | str s =>
    obtain ⟨rfl, _⟩ := (show q' = _ ∧ _ from hk')
    cases k with
    | int j => cases (show q = Sum.inl j from hk); simp [keyEq]
    | str s2 =>
      obtain ⟨rfl, _⟩ := (show q = _ ∧ _ from hk)
      simp only [keyEq, Sum.inr.injEq]
      by_cases z : s = s2
      · subst z; simp
      · have : strV s ≠ strV s2 := fun y => z (strV_inj y)
        simp [z, this]
    | _ => exact hk.elim
  | _ => exact hk'.elim
theorem any_key {K : PySem.W.Frag} {k : D} {q : Key} (hk : keyD k q) : ∀ {kvs : List (D × D)} {qs : List (Key × V)}, Rpp K ρ l H kvs qs → (kvs.any fun p => keyEq p.1 k) = qs.any fun kv => decide (kv.1 = q)
  | [], qs, h => by rw [show qs = [] from h]; rfl
  | (a, w) :: r, qs, ⟨q', x, t, e, hk', h, h2⟩ => by
    subst e
    rw [List.any_cons, List.any_cons, any_key hk h2, keyD_eq hk' hk]
theorem map_key {K : PySem.W.Frag} {k d : D} {v : V} {q : Key} (hk : keyD k q) (hd : Rp K ρ l H d v) : ∀ {kvs : List (D × D)} {qs : List (Key × V)}, Rpp K ρ l H kvs qs →
    Rpp K ρ l H (kvs.map fun p => if keyEq p.1 k then (p.1, d) else p) (qs.map fun kv => if kv.1 = q then (kv.1, v) else kv)
  | [], qs, h => by rw [show qs = [] from h]; rfl
  | (a, w) :: r, qs, ⟨q', x, t, e, hk', h, h2⟩ => by
    subst e
    rw [List.map_cons, List.map_cons]
    dsimp only
    rw [keyD_eq hk' hk]
    by_cases z : q' = q
    · simp only [z, decide_true, if_true]
      exact ⟨q, v, _, rfl, z ▸ hk', hd, map_key hk hd h2⟩
    · simp only [z, decide_false, Bool.false_eq_true, if_false]
      exact ⟨q', x, _, rfl, hk', h, map_key hk hd h2⟩
theorem Rpp.append {K : PySem.W.Frag} : ∀ {ds es : List (D × D)} {xs ys : List (Key × V)}, Rpp K ρ l H ds xs → Rpp K ρ l H es ys → Rpp K ρ l H (ds ++ es) (xs ++ ys)
  | [], es, xs, ys, h, h2 => by rw [show xs = [] from h]; exact h2
  | (a, w) :: r, es, xs, ys, ⟨q', x, t, e, hk', h, h3⟩, h2 => by
    subst e
    exact ⟨q', x, t ++ ys, rfl, hk', h, Rpp.append h3 h2⟩
theorem putD_val {kvs : List (D × D)} {qs : List (Key × V)} {k d : D} {q : Key} {v : V} {K : PySem.W.Frag} (h : Rpp K ρ l H kvs qs) (hk : keyD k q) (hd : Rp K ρ l H d v) : Rpp K ρ l H (putD k d kvs) (putK qs q v) := by
  unfold putD putK
  rw [any_key hk h]
  split
  · exact map_key hk hd h
  · exact Rpp.append h ⟨q, v, [], rfl, hk, hd, rfl⟩
theorem keysT_eq : ∀ {a k : List D} {q' q : List Key}, keysT a q' → keysT k q → D.eqs a k = decide (q' = q)
  | [], [], q', q, h, h2 => by
    rw [show q' = [] from h, show q = [] from h2]; rfl
  | [], _ :: _, q', q, h, ⟨k, t, e, _⟩ => by
    rw [show q' = [] from h, e]; rfl
  | _ :: _, [], q', q, ⟨k, t, e, _⟩, h => by
    rw [show q = [] from h, e]; rfl
  | a :: r, b :: s, q', q, ⟨k, t, e, h1, h2⟩, ⟨k', t', e', h1', h2'⟩ => by
    subst e; subst e'
    have h0 : D.eq a b = keyEq a b := by
      cases a <;> first | (exact h1.elim; done) | skip
      all_goals cases b <;> first | (exact h1'.elim; done) | rfl
    show (D.eq a b && D.eqs r s) = _
    rw [h0, keyD_eq h1 h1', keysT_eq h2 h2', Bool.eq_iff_iff]
    simp
theorem keyT_eq {a k : D} {q' q : List Key} (hk' : keyT a q') (hk : keyT k q) : D.eq a k = decide (q' = q) := by
  cases a <;> first | (exact hk'.elim; done) | skip
  cases k <;> first | (exact hk.elim; done) | skip
  exact keysT_eq hk' hk
theorem anyT_key {K : PySem.W.Frag} {k : D} {q : List Key} (hk : keyT k q) : ∀ {kvs : List (D × D)} {qs : List (List Key × V)}, Rpt K ρ l H kvs qs → (kvs.any fun p => D.eq p.1 k) = qs.any fun kv => decide (kv.1 = q)
  | [], qs, h => by rw [show qs = [] from h]; rfl
  | (a, w) :: r, qs, ⟨q', x, t, e, hk', h, h2⟩ => by
    subst e
    rw [List.any_cons, List.any_cons, anyT_key hk h2, keyT_eq hk' hk]
theorem mapT_key {K : PySem.W.Frag} {k d : D} {v : V} {q : List Key} (hk : keyT k q) (hd : Rp K ρ l H d v) : ∀ {kvs : List (D × D)} {qs : List (List Key × V)}, Rpt K ρ l H kvs qs →
    Rpt K ρ l H (kvs.map fun p => if D.eq p.1 k then (p.1, d) else p) (qs.map fun kv => if kv.1 = q then (kv.1, v) else kv)
  | [], qs, h => by rw [show qs = [] from h]; rfl
  | (a, w) :: r, qs, ⟨q', x, t, e, hk', h, h2⟩ => by
    subst e
    rw [List.map_cons, List.map_cons]
    dsimp only
    rw [keyT_eq hk' hk]
    by_cases z : q' = q
    · simp only [z, decide_true, if_true]
      exact ⟨q, v, _, rfl, z ▸ hk', hd, mapT_key hk hd h2⟩
    · simp only [z, decide_false, Bool.false_eq_true, if_false]
      exact ⟨q', x, _, rfl, hk', h, mapT_key hk hd h2⟩
theorem Rpt.append {K : PySem.W.Frag} : ∀ {ds es : List (D × D)} {xs ys : List (List Key × V)}, Rpt K ρ l H ds xs → Rpt K ρ l H es ys → Rpt K ρ l H (ds ++ es) (xs ++ ys)
  | [], es, xs, ys, h, h2 => by rw [show xs = [] from h]; exact h2
  | (a, w) :: r, es, xs, ys, ⟨q', x, t, e, hk', h, h3⟩, h2 => by
    subst e
    exact ⟨q', x, t ++ ys, rfl, hk', h, Rpt.append h3 h2⟩
theorem putT_val {kvs : List (D × D)} {qs : List (List Key × V)} {k d : D} {q : List Key} {v : V} {K : PySem.W.Frag} (h : Rpt K ρ l H kvs qs) (hk : keyT k q) (hd : Rp K ρ l H d v) : Rpt K ρ l H (putT k d kvs) (putK qs q v) := by
  unfold putT putK
  rw [anyT_key hk h]
  split
  · exact mapT_key hk hd h
  · exact Rpt.append h ⟨q, v, [], rfl, hk, hd, rfl⟩
theorem getT_val {K : PySem.W.Frag} {k : D} {q : List Key} (hk : keyT k q) : ∀ {kvs : List (D × D)} {qs : List (List Key × V)}, Rpt K ρ l H kvs qs → (match getT k kvs with
    | some d => ∃ v, valV qs q = some v ∧ Rp K ρ l H d v
    | none => valV qs q = none)
  | [], qs, h => by cases (show qs = [] from h); rfl
  | (a, d) :: r, qs, ⟨q0, x, t, e, h0, h1, h2⟩ => by
    subst e
    simp only [getT, keyT_eq h0 hk]
    by_cases z : q0 = q
    · subst z
      simp only [decide_true, if_true]
      exact ⟨x, by simp [valV], h1⟩
    · have ih := getT_val hk h2
      simp only [z, decide_false, Bool.false_eq_true, if_false]
      have e : valV ((q0, x) :: t) q = valV t q := by simp [valV, z]
      rw [e]; exact ih
/-- a tuple that is a key -/
theorem key_tup {C : Cxt} {d : D} {v : V} (hK : True) (h : Rp C.KR ρ l H d v) (hk : isKeyT d = true) : ∃ b q, v = .ref b ∧ H b = some (.tup (q.map kV)) ∧ keyT d q := by
  cases d with
  | tup ds =>
    obtain ⟨a, xs, rfl, f, r⟩ := h
    have key : ∀ {ds : List D} {xs : List V}, Rps C.KR ρ l H ds xs → ds.all isKey = true → ∃ q : List Key, xs = q.map kV ∧ keysT ds q := by
      intro ds
      induction ds with
      | nil => intro xs r _; exact ⟨[], r, rfl⟩
      | cons d ds ih =>
        intro xs ⟨x, t, e, h1, h2⟩ ha
        simp only [List.all_cons, Bool.and_eq_true] at ha
        obtain ⟨q, e1, k1⟩ := ih h2 ha.2
        obtain ⟨k, k2, e2⟩ := isKey_key h1 ha.1
        exact ⟨k :: q, by rw [e, e1, e2]; rfl, k, q, rfl, k2, k1⟩
    obtain ⟨q, e, k⟩ := key r hk
    exact ⟨a, q, rfl, e ▸ f.2, k⟩
  | _ => cases hk
theorem the_dct (g : Good C b ρ S H) {n : Nat} {v : V} {l : List (D × D)} (h : Rp C.KR ρ (lv C ρ S) H (.ref n) v) (e : S[n]? = some (.dct l)) : ∃ a xs, v = .ref a ∧ ρ[n]? = some a ∧ True ∧ H a = some (.dT xs) ∧ Rpt C.KR ρ (lv C ρ S) H l xs := by
  obtain ⟨a, er, e1⟩ := h
  obtain ⟨h0, xs, h1, h2⟩ := g.obj n _ a e er
  exact ⟨a, xs, e1, er, h0, h1, h2⟩
theorem kvt_length {K : PySem.W.Frag} : ∀ (ds : List (D × D)) (xs : List (List Key × V)), Rpt K ρ l H ds xs → ds.length = xs.length
  | [], xs, h => by rw [show xs = [] from h]; rfl
  | (_, _) :: r, xs, ⟨q, x, t, e, _, _, h2⟩ => by rw [e, List.length_cons, List.length_cons, kvt_length r t h2]
theorem ltps_iff {m : Nat} : ∀ {l : List (D × D)}, D.ltps m l = true ↔ ∀ p ∈ l, p.1.lt m = true ∧ p.2.lt m = true
  | [] => by simp [D.ltps]
  | (a, w) :: r => by simp [D.ltps, ltps_iff (l := r), and_assoc]
theorem ltps_put {m : Nat} {k d : D} (hk : isKey k = true) (hd : d.lt m = true) {l : List (D × D)} (h : D.ltps m l = true) : D.ltps m (putD k d l) = true := by
  rw [ltps_iff] at h ⊢
  have hkl : D.lt m k = true := by cases k <;> first | rfl | cases hk
  unfold putD
  split
  · intro p hp
    obtain ⟨p0, h0, rfl⟩ := List.mem_map.mp hp
    split
    · exact ⟨(h p0 h0).1, hd⟩
    · exact h p0 h0
  · intro p hp
    rcases List.mem_append.mp hp with hp | hp
    · exact h p hp
    · simp at hp; subst hp; exact ⟨hkl, hd⟩
theorem ltps_putT {m : Nat} {k d : D} (hk : isKeyT k = true) (hd : d.lt m = true) {l : List (D × D)} (h : D.ltps m l = true) : D.ltps m (putT k d l) = true := by
  rw [ltps_iff] at h ⊢
  have hkl : D.lt m k = true := by
    cases k with
    | tup ds =>
      show D.lts m ds = true
      have hk : ds.all isKey = true := hk
      clear h
      induction ds with
      | nil => rfl
      | cons d ds ih =>
        simp only [List.all_cons, Bool.and_eq_true] at hk
        have : D.lt m d = true := by cases d <;> first | rfl | cases hk.1
        simp [D.lts, this, ih hk.2 hk.2]
    | _ => cases hk
  unfold putT
  split
  · intro p hp
    obtain ⟨p0, h0, rfl⟩ := List.mem_map.mp hp
    split
    · exact ⟨(h p0 h0).1, hd⟩
    · exact h p0 h0
  · intro p hp
    rcases List.mem_append.mp hp with hp | hp
    · exact h p hp
    · simp at hp; subst hp; exact ⟨hkl, hd⟩
/-- o[i] = d, of the store -/
theorem set_item (hX : X.K = C.K) (hu : X.A.units + 1 < cLine) : PSet X (fun o i v H Q => ∃ b ρ S do' di d S', Good C b ρ S H ∧ Rp C.KR ρ (lv C ρ S) H do' o ∧ Rp C.KR ρ (lv C ρ S) H di i ∧ Rp C.KR ρ (lv C ρ S) H d v ∧ setItem b do' di d S = some S' ∧
    ∀ H', Le C b ρ S H ρ S' H' → Good C b ρ S' H' → Q H') := by
  intro pins s σ H o i v ov iv u Q I ro ri rv ⟨b, ρ, S, do', di, d, S', g, go, gi, gd, e, q⟩
  unfold setItem at e
  cases do' with
  | ref n =>
    simp only at e
    cases es : S[n]? with
    | none => rw [es] at e; cases e
    | some w =>
      rw [es] at e
      cases w with
      | lst l =>
        cases di with
        | int k =>
          cases gi
          simp only at e
          cases ep : place l.length k with
          | none => rw [ep] at e; cases e
          | some j =>
            rw [ep] at e
            simp only at e
            split at e
            · rename_i hp
              cases e
              obtain ⟨a, xs, rfl, er, h1, h2⟩ := the_lst g go es
              have hw := write_lst (ys := xs.set j v) (l' := l.set j d) g es er (fun hn m hm => by
                have hpu : d.pure = true := hp.resolve_left (by omega)
                refine lts_sub (a := d :: l) (by simp [D.lts, pure_lt m d hpu, hm]) fun x hx => ?_
                rcases List.mem_or_eq_of_mem_set hx with h | h
                · exact List.mem_cons_of_mem _ h
                · rw [h]; exact List.mem_cons_self ..) (Rps.set gd j h2)
              exact set_list pins s σ H _ _ v ov iv u Q I ro ri rv ⟨a, xs, k, j, rfl, rfl, h1, by rw [← h2.length]; exact ep, q _ hw.1 hw.2⟩
            · cases e
        | _ => cases e
      | dic l =>
        simp only at e
        split at e
        · rename_i hp
          cases e
          obtain ⟨a, xs, rfl, er, h1, h2⟩ := the_dic g go es
          obtain ⟨kq, hk, rfl⟩ := isKey_key gi hp.1
          have hl : xs.length < sizeLine := by rw [← kvs_length _ _ h2]; exact hp.2.1
          have hw := g.write (u := .dic (putD di d l)) (ho := .dK (putK xs kq v)) es er ⟨rfl, by intro z; cases z⟩ (fun hn m hm => by
            have hpu : d.pure = true := hp.2.2.resolve_left (by omega)
            exact ltps_put hp.1 (pure_lt m d hpu) hm) fun le => ⟨_, upd_same, putD_val (Rpp.kp le.kp _ _ h2) hk (Rp.kp le.kp _ _ gd)⟩
          exact set_dict hu pins s σ H _ _ v ov iv u Q I ro ri rv ⟨a, _, rfl, DPut.k h1 hl, q _ hw.1 hw.2⟩
        · cases e
      | dct l =>
        simp only at e
        split at e
        · rename_i hp
          cases e
          obtain ⟨a, xs, rfl, er, hK, h1, h2⟩ := the_dct g go es
          obtain ⟨kb, kq, rfl, hb, hk⟩ := key_tup hK gi hp.1
          have hl : xs.length < sizeLine := by rw [← kvt_length _ _ h2]; exact hp.2.1
          have hw := g.write (u := .dct (putT di d l)) (ho := .dT (putK xs kq v)) es er ⟨rfl, by intro z; cases z⟩ (fun hn m hm => by
            have hpu : d.pure = true := hp.2.2.resolve_left (by omega)
            exact ltps_putT hp.1 (pure_lt m d hpu) hm) fun le => ⟨hK, _, upd_same, putT_val (Rpt.kp le.kp _ _ h2) hk (Rp.kp le.kp _ _ gd)⟩
          exact set_dict hu pins s σ H _ _ v ov iv u Q I ro ri rv ⟨a, _, rfl, DPut.t h1 hb hl, q _ hw.1 hw.2⟩
        · cases e
      | dead => cases e
      | ins c f => cases e
      | lck o => cases e
  | _ => cases e
theorem d_gSub (hX : X.K = C.K) (hu : X.A.units + 1 < cLine) (hs : notSlice q = true) (ha : PE X p (tE C b W0 fa)) (hb : PE X q (tE C b W0 fb)) :
    PG X (.Subscript p q pos) (tG C b [] fun d env S => (fa env S).to fun o S1 => (fb env S1).to fun k S2 => match setItem b o k d S2 with
      | some S3 => .ok env S3
      | none => .no) :=
  PG_sub (pg_sub ha hb (set_item hX hu) fun v => by cases q <;> first | rfl | cases hs) fun v σ H Q ⟨ρ, S, env, d, env', S', a, r, e, q⟩ => by
    obtain ⟨o, S1, e1, e⟩ := to_ok e
    obtain ⟨k, S2, e2, e⟩ := to_ok e
    refine tE_of a (f := fa) (R := fun d S' ρ' H' => d = o ∧ S' = S1) (by rw [e1]; exact fun ρ' H' _ _ => ⟨rfl, rfl⟩) fun o' S1' ρ1 H1 vo le1 a1 ro ⟨h1, h2⟩ => ?_
    subst h1; subst h2
    refine tE_of a1 (f := fb) (R := fun d S' ρ' H' => d = k ∧ S' = S2) (by rw [e2]; exact fun ρ' H' _ _ => ⟨rfl, rfl⟩) fun k' S2' ρ2 H2 vk le2 a2 rk ⟨h1, h2⟩ => ?_
    subst h1; subst h2
    cases es : setItem b o' k' d S2' with
    | none => rw [es] at e; cases e
    | some S3 =>
      rw [es] at e; cases e
      refine ⟨b, ρ2, S2', o', k', d, S', a2.good, Rp.kp le2.kp _ _ ro, rk, Rp.kp (le1.trans le2).kp _ _ r, es, fun H' le g => ?_⟩
      exact q ρ2 H' σ ((le1.trans le2).trans le) ⟨g, a2.env.kp le.kp⟩ ⟨rfl, fun _ _ => rfl⟩
end
end Mi

namespace Mi
open PySem L2 PySem.Spec PyProof.Rows

/-! ## Part 10: list comprehensions -/
abbrev Cxt.put (C : Cxt) (D : Addr) : Cxt := { C with acc := D :: C.acc }
section
variable {X : Cx} {C : Cxt} {b : Nat} {W : WX} {ρ ρ' ρ0 ρ1 ρ2 : List Addr} {S S' S0 S1 S2 : Sto} {H H' H0 H1 H2 : Hp} {σ σ' : L2.St} {p q r : Expr} {ps : List Expr} {pos : Pos} {fa fb fc : Env → Sto → Rs D} {l l' : Addr → Prop} {D : Addr}
theorem fieldR_acc : ∀ {fs : List (Nat × Mi.D)} {xs : List (Str × V)}, fieldR (C.put D) ρ l H fs xs ↔ fieldR C ρ l H fs xs
  | [], xs => Iff.rfl
  | (f, d) :: r, xs => ⟨fun ⟨x, t, e, h, h2⟩ => ⟨x, t, e, h, fieldR_acc.mp h2⟩, fun ⟨x, t, e, h, h2⟩ => ⟨x, t, e, h, fieldR_acc.mpr h2⟩⟩
theorem OkO_acc {a : Addr} {o : MO} : OkO (C.put D) ρ l H a o ↔ OkO C ρ l H a o := by
  cases o with
  | ins c fs => exact ⟨fun ⟨A, dx, fv, e, h, h2⟩ => ⟨A, dx, fv, e, h, fieldR_acc.mp h2⟩, fun ⟨A, dx, fv, e, h, h2⟩ => ⟨A, dx, fv, e, h, fieldR_acc.mpr h2⟩⟩
  | _ => exact Iff.rfl
theorem lv_put {a : Addr} : lv (C.put D) ρ S a ↔ lv C ρ S a ∨ a = D := by
  unfold lv
  rw [List.mem_cons]
  constructor
  · rintro (h | h | h)
    · exact .inl (.inl h)
    · exact .inr h
    · exact .inl (.inr h)
  · rintro ((h | h) | h)
    · exact .inl h
    · exact .inr (.inr h)
    · exact .inr (.inl h)
/-- a new object that is being made -/
theorem Good.enter (g : Good C b ρ S H) (hD : H D = none) (o : HO) : Good (C.put D) b ρ S (upd H D o) ∧ Kp ρ (lv C ρ S) H ρ (lv (C.put D) ρ S) (upd H D o) := by
  have ne : ∀ a u, H a = some u → upd H D o a = some u := fun a u e => by rw [upd_ne (ne_of_none e hD)]; exact e
  have kp : Kp ρ (lv C ρ S) H ρ (lv (C.put D) ρ S) (upd H D o) := ⟨List.prefix_refl _, fun a u e n => ⟨ne a u e, fun z => by
    rcases lv_put.mp z with z | z
    · exact n z
    · rw [z, hD] at e; cases e⟩⟩
  refine ⟨⟨g.len, g.bb, fun n u a e er => OkO_acc.mpr ((g.obj n u a e er).kp kp (ne a)), fun a h => ?_, g.inj⟩, kp⟩
  rcases List.mem_cons.mp h with h | h
  · subst h
    exact ⟨⟨o, upd_same⟩, fun z => g.fresh hD (.inl z)⟩
  · exact ⟨(g.accH a h).1.imp fun u e => ne a u e, (g.accH a h).2⟩
/-- what is being made grows -/
theorem Good.grow (g : Good (C.put D) b ρ S H) (o : HO) : Good (C.put D) b ρ S (upd H D o) ∧ Kp ρ (lv (C.put D) ρ S) H ρ (lv (C.put D) ρ S) (upd H D o) := by
  have kp : Kp ρ (lv (C.put D) ρ S) H ρ (lv (C.put D) ρ S) (upd H D o) := ⟨List.prefix_refl _, fun a u e n => ⟨by rw [upd_ne fun z => n (lv_put.mpr (.inr z))]; exact e, n⟩⟩
  refine ⟨⟨g.len, g.bb, fun n u a e er => ?_, fun a h => ?_, g.inj⟩, kp⟩
  · by_cases hd : u.here = .dead
    · rw [hd]; trivial
    · have ha : a ≠ D := fun z => (g.accH D (List.mem_cons_self ..)).2 ⟨n, u, e, hd, by rw [← z]; exact er⟩
      exact (g.obj n u a e er).kp kp fun v hv => by rw [upd_ne ha]; exact hv
  · refine ⟨?_, (g.accH a h).2⟩
    by_cases ha : a = D
    · subst ha; exact ⟨o, upd_same⟩
    · obtain ⟨u, e⟩ := (g.accH a h).1
      exact ⟨u, by rw [upd_ne ha]; exact e⟩
theorem leave_kp : Kp ρ (lv (C.put D) ρ S) H ρ (lv C ρ S) H := ⟨List.prefix_refl _, fun a u e n => ⟨e, fun z => n (lv_put.mpr (.inl z))⟩⟩
theorem Good.leave (g : Good (C.put D) b ρ S H) : Good C b ρ S H :=
  ⟨g.len, g.bb, fun n u a e er => OkO_acc.mp ((g.obj n u a e er).kp leave_kp fun _ h => h), fun a h => g.accH a (List.mem_cons_of_mem _ h), g.inj⟩
/-- it gets a name -/
theorem Good.leaveN (g : Good (C.put D) b ρ S H) (hC : D ∉ C.acc) {u : MO} (hu : ∀ (kp : Kp ρ (lv (C.put D) ρ S) H (ρ ++ [D]) (lv C (ρ ++ [D]) (S ++ [u])) H), OkO C (ρ ++ [D]) (lv C (ρ ++ [D]) (S ++ [u])) H D u.here) :
    Good C b (ρ ++ [D]) (S ++ [u]) H ∧ Kp ρ (lv (C.put D) ρ S) H (ρ ++ [D]) (lv C (ρ ++ [D]) (S ++ [u])) H := by
  have kp : Kp ρ (lv (C.put D) ρ S) H (ρ ++ [D]) (lv C (ρ ++ [D]) (S ++ [u])) H := ⟨List.prefix_append _ _, fun a w e n => ⟨e, fun z => n (lv_put.mpr (lv_snoc g.len z))⟩⟩
  have spl : ∀ {n : Nat} {w : MO} {a : Addr}, (S ++ [u])[n]? = some w → (ρ ++ [D])[n]? = some a → (S[n]? = some w ∧ ρ[n]? = some a) ∨ (n = S.length ∧ w = u ∧ a = D) := fun {n w a} e er => by
    by_cases hn : n < S.length
    · rw [List.getElem?_append_left hn] at e
      rw [List.getElem?_append_left (by rw [g.len]; exact hn)] at er
      exact .inl ⟨e, er⟩
    · have hn2 : n < (S ++ [u]).length := (List.getElem?_eq_some_iff.mp e).1
      have hn3 : n = S.length := by simp at hn2; omega
      subst hn3
      rw [List.getElem?_append_right (Nat.le_refl _)] at e
      rw [← g.len, List.getElem?_append_right (Nat.le_refl _)] at er
      exact .inr ⟨rfl, by simpa using e.symm, by simpa using er.symm⟩
  have gD := (g.accH D (List.mem_cons_self ..)).2
  refine ⟨⟨by simp [g.len], Nat.le_trans g.bb (by simp), fun n w a e er => ?_, fun a h => ⟨(g.accH a (List.mem_cons_of_mem _ h)).1, fun z => ?_⟩, fun n m w w' a e e' hd hd' er er' => ?_⟩, kp⟩
  · rcases spl e er with ⟨e, er⟩ | ⟨_, rfl, rfl⟩
    · exact OkO_acc.mp ((g.obj n w a e er).kp kp fun _ h => h)
    · exact hu kp
  · rcases lvn_snoc g.len z with z | z
    · exact (g.accH a (List.mem_cons_of_mem _ h)).2 z
    · exact hC (z ▸ h)
  · rcases spl e er with ⟨e, er⟩ | ⟨h1, h2, h3⟩
    · rcases spl e' er' with ⟨e', er'⟩ | ⟨h1', h2', h3'⟩
      · exact g.inj n m w w' a e e' hd hd' er er'
      · exact absurd ⟨n, w, e, hd, by rw [← h3']; exact er⟩ gD
    · rcases spl e' er' with ⟨e', er'⟩ | ⟨h1', h2', h3'⟩
      · exact absurd ⟨m, w', e', hd', by rw [← h3]; exact er'⟩ gD
      · omega
/-- the whole way, by steps within -/
theorem Le.inner (x : Le C b ρ0 S0 H0 ρ1 S1 H1) (hD : H0 D = none) (y : Le (C.put D) b ρ1 S1 H1 ρ2 S2 H2) : Le C b ρ0 S0 H0 ρ2 S2 H2 :=
  ⟨x.pre.trans y.pre, fun a o e n => by
    obtain ⟨h1, h2⟩ := x.keep a o e n
    have ha : a ≠ D := fun z => by rw [z, hD] at e; cases e
    obtain ⟨h3, h4⟩ := y.keep a o h1 fun z => (lv_put.mp z).elim h2 ha
    exact ⟨h3, fun z => h4 (lv_put.mpr (.inl z))⟩, fun n hn o' e => by
    obtain ⟨o1, e1, h1⟩ := y.refs n hn o' e
    obtain ⟨o, e0, h0⟩ := x.refs n hn o1 e1
    exact ⟨o, e0, fun m z => h1 m (h0 m z)⟩, Nat.le_trans x.len y.len, fun n o h => y.lck n o (x.lck n o h), fun a h u e => y.accK a (List.mem_cons_of_mem _ h) u (x.accK a h u e)⟩
theorem Le.grow (x : Le C b ρ0 S0 H0 ρ1 S1 H1) (hD : H0 D = none) (hC : D ∉ C.acc) (o : HO) : Le C b ρ0 S0 H0 ρ1 S1 (upd H1 D o) :=
  ⟨x.pre, fun a u e n => by
    have ha : a ≠ D := fun z => by rw [z, hD] at e; cases e
    rw [upd_ne ha]
    exact x.keep a u e n, x.refs, x.len, x.lck, fun a h u e => by
    rw [upd_ne fun z : a = D => hC (z ▸ h)]
    exact x.accK a h u e⟩
theorem Le.named (x : Le C b ρ0 S0 H0 ρ1 S1 H1) (hl : ρ1.length = S1.length) (hb : b ≤ S1.length) (hD : H0 D = none) (u : MO) : Le C b ρ0 S0 H0 (ρ1 ++ [D]) (S1 ++ [u]) H1 :=
  ⟨x.pre.trans (List.prefix_append _ _), fun a o e n => ⟨(x.keep a o e n).1, fun z => by
    rcases lv_snoc hl z with z | z
    · exact (x.keep a o e n).2 z
    · rw [z, hD] at e; cases e⟩, fun n hn o' e => by
    rw [List.getElem?_append_left (Nat.lt_of_lt_of_le hn hb)] at e
    exact x.refs n hn o' e, Nat.le_trans x.len (by simp), fun n o h => by
    have := x.lck n o h
    rw [List.getElem?_append_left (List.getElem?_eq_some_iff.mp this).1]; exact this, x.accK⟩

/-- what is true between two turns: what is made stands at D as L says, the slots as they were -/
structure Mid (L : List Mi.D → List Addr → Sto → Hp → Prop) (C : Cxt) (b : Nat) (D : Addr) (ρ0 : List Addr) (S0 : Sto) (H0 : Hp) (env : Env) (σ : L2.St) (acc : List Mi.D) (ρ : List Addr) (S : Sto) (H : Hp) : Prop where
  le : Le C b ρ0 S0 H0 ρ S H
  good : Good (C.put D) b ρ S H
  env : EnvR C.KR ρ (lv (C.put D) ρ S) H env σ
  lst : L acc ρ S H
/-- a list -/
def LL (C : Cxt) (D : Addr) (acc : List Mi.D) (ρ : List Addr) (S : Sto) (H : Hp) : Prop := ∃ xs, H D = some (.lst xs) ∧ Rps C.KR ρ (lv (C.put D) ρ S) H acc xs
/-- L stays -/
def Lst (C : Cxt) (b : Nat) (D : Addr) (L : List Mi.D → List Addr → Sto → Hp → Prop) : Prop := ∀ acc ρ S H ρ' S' H', Le (C.put D) b ρ S H ρ' S' H' → L acc ρ S H → L acc ρ' S' H'
theorem LL.stay : Lst C b D (LL C D) := fun acc ρ S H ρ' S' H' le ⟨xs, h1, h2⟩ => ⟨xs, le.accK D (List.mem_cons_self ..) _ h1, Rps.kp le.kp _ _ h2⟩
section
variable {env env' : Env} {acc : List Mi.D} {L : List Mi.D → List Addr → Sto → Hp → Prop}
theorem Mid.at (m : Mid L C b D ρ0 S0 H0 env σ acc ρ S H) : At (C.put D) b ρ S H env σ := ⟨m.good, m.env⟩
/-- a step of the block's code -/
theorem Mid.step (m : Mid L C b D ρ0 S0 H0 env σ acc ρ S H) (hL : Lst C b D L) (hD : H0 D = none) (le : Le (C.put D) b ρ S H ρ' S' H') (a : At (C.put D) b ρ' S' H' env' σ') : Mid L C b D ρ0 S0 H0 env' σ' acc ρ' S' H' :=
  ⟨m.le.inner hD le, a.good, a.env, hL _ _ _ _ _ _ _ le m.lst⟩
/-- an element more -/
theorem Mid.add (m : Mid (LL C D) C b D ρ0 S0 H0 env σ acc ρ S H) (hD : H0 D = none) (hC : D ∉ C.acc) {d : Mi.D} {v : V} (r : Rp C.KR ρ (lv (C.put D) ρ S) H d v) {xs : List V} (h : H D = some (.lst xs)) : Mid (LL C D) C b D ρ0 S0 H0 env σ (acc ++ [d]) ρ S (upd H D (.lst (xs ++ [v]))) := by
  obtain ⟨ys, h1, h2⟩ := m.lst
  rw [h] at h1; cases h1
  obtain ⟨g', kp⟩ := m.good.grow (.lst (xs ++ [v]))
  exact ⟨m.le.grow hD hC _, g', m.env.kp kp, _, upd_same, Rps.append (Rps.kp kp _ _ h2) (Rps.one (Rp.kp kp _ _ r))⟩
end
theorem Hold.kp2 {C' : Cxt} {items : List Mi.D} {src : Option (Mi.D × V × List Mi.D × Option (Addr × HO))} (hK : C'.KR = C.KR) (kp : Kp ρ (lv C ρ S) H ρ' (lv C' ρ' S') H') (hl : ∀ (n : Nat) (o : MO), S[n]? = some (MO.lck o) → S'[n]? = some (MO.lck o)) (h : Hold C items src ρ S H) : Hold C' items src ρ' S' H' := by
  match src, h with
  | none, _ => trivial
  | some (d, v, _, _), ⟨h1, hu, h2⟩ =>
    refine ⟨hK ▸ Rp.kp kp _ _ h1, fun a u e => kp.keep a u (hu a u e).1 (hu a u e).2, ?_⟩
    rcases h2 with h | h | ⟨n, h, h3⟩ | h
    · exact .inl h
    · exact .inr (.inl h)
    · exact .inr (.inr (.inl ⟨n, h, hl n _ h3⟩))
    · exact .inr (.inr (.inr h))
theorem d_ifsN : PTs X [] (tT C b W fun env S => .ok true S) := ⟨fun pins s σ H Q I ⟨ρ, S, env, a, o⟩ => pts_nil.run pins s σ H Q I (o ρ H (Le.refl a.good.bb) a.good)⟩
theorem d_ifs1 {f : Env → Sto → Rs Bool} (h : PT X p (tT C b W f)) : PTs X [p] (tT C b W fun env S => (f env S).to fun k S1 => if k = true then .ok true S1 else .ok false S1) :=
  ⟨fun pins s σ H Q I ⟨ρ, S, env, a, o⟩ => (pts_one h).run pins s σ H Q I ⟨ρ, S, env, a, o.bind.imp fun k S1 ρ' H' le g o1 => by
    cases k with
    | true => exact o1 ρ' H' (Le.refl g.bb) g
    | false => exact o1 ρ' H' (Le.refl g.bb) g⟩⟩
/-- an outcome without exceptions, read -/
theorem tT_ok {C' : Cxt} {f : Env → Sto → Rs Bool} {env : Env} {k : Bool} {S1 : Sto} {Q : Bool → Hp → Prop} (a : At C' b ρ S H env σ) (e : f env S = .ok k S1) (h : ∀ ρ' H', Le C' b ρ S H ρ' S1 H' → At C' b ρ' S1 H' env σ → Q k H') : tT C' b W f σ H Q :=
  ⟨ρ, S, env, a, by rw [e]; exact fun ρ' H' le g => h ρ' H' le ⟨g, a.env.kp le.kp⟩⟩
theorem tE_ok {C' : Cxt} {f : Env → Sto → Rs Mi.D} {env : Env} {k : Mi.D} {S1 : Sto} {Q : VK} (a : At C' b ρ S H env σ) (e : f env S = .ok k S1) (h : ∀ ρ' H' v, Le C' b ρ S H ρ' S1 H' → At C' b ρ' S1 H' env σ → Rp C'.KR ρ' (lv C' ρ' S1) H' k v → Q v H') : tE C' b W f σ H Q :=
  ⟨ρ, S, env, a, by rw [e]; exact fun ρ' H' le g v r => h ρ' H' v le ⟨g, a.env.kp le.kp⟩ r⟩
theorem drop_cons {α : Type} {l : List α} {i : Nat} (h : i < l.length) : l.drop i = l[i] :: l.drop (i + 1) := (List.getElem_cons_drop h).symm
/-- the turns of one clause: from a walk and what a turn does -/
theorem turns {L : List Mi.D → List Addr → Sto → Hp → Prop} (hL : Lst C b D L) {J : It} {items : List Mi.D} {src : Option (Mi.D × V × List Mi.D × Option (Addr × HO))} {turn : Mi.D → List Mi.D → Sto → Rs (List Mi.D)} {env : Env} {Z : List Addr → Sto → Hp → Prop} {Qd : Hp → Prop} {step : (Hp → Prop) → V → Hp → Prop} (wk : Wk (C.put D) b J items src)
    (hZ : ∀ ρ S H, Z ρ S H → Hold (C.put D) items src ρ S H) (hZy : ∀ ρ S H H', Le (C.put D) b ρ S H ρ S H' → Z ρ S H → Z ρ S H')
    (hs : ∀ (d : Mi.D) (x : V) (a0 a1 : List Mi.D) (S1 : Sto) (ρ : List Addr) (S : Sto) (H : Hp) (N : Hp → Prop), turn d a0 S = .ok a1 S1 → Mid L C b D ρ0 S0 H0 env σ a0 ρ S H → Z ρ S H → Rp C.KR ρ (lv (C.put D) ρ S) H d x →
      (∀ ρ' H', Mid L C b D ρ0 S0 H0 env σ a1 ρ' S1 H' → Z ρ' S1 H' → N H') → step N x H)
    {a0 aE : List Mi.D} {SE : Sto} (e : compL turn items a0 S = .ok aE SE) (m : Mid L C b D ρ0 S0 H0 env σ a0 ρ S H) (h : Z ρ S H)
    (hd : ∀ ρ' H', Mid L C b D ρ0 S0 H0 env σ aE ρ' SE H' → Z ρ' SE H' → Qd H') :
    ∃ W : Nat → Nat → Hp → Prop, (∃ m, W 0 m H) ∧ ∀ i m H, W i m H → (J.stop i H ∧ Qd H) ∨ (J.go i H ∧ ∃ Nx : Hp → Prop, (∀ H', Nx H' → ∃ m', m' < m ∧ W (i + 1) m' H') ∧ ∀ x H', J.yld i H x H' → step Nx x H') := by
  let P : Nat → Hp → Prop := fun i H => ∃ ρ S acc, Mid L C b D ρ0 S0 H0 env σ acc ρ S H ∧ Z ρ S H ∧ compL turn (items.drop i) acc S = .ok aE SE
  refine ⟨fun i m H => m = items.length - i ∧ i ≤ items.length ∧ P i H, ⟨items.length, by simp, Nat.zero_le _, ρ, S, a0, m, h, by simpa using e⟩, ?_⟩
  rintro i n H1 ⟨rfl, hi, ρ1, S1, acc, m1, h1, e1⟩
  by_cases hlt : i < items.length
  · rw [drop_cons hlt] at e1
    obtain ⟨a1, S2, e2, e3⟩ := to_ok (show (turn items[i] acc S1).to (fun acc' S' => compL turn (items.drop (i + 1)) acc' S') = _ from e1)
    obtain ⟨hgo, hy⟩ := wk.go i items[i] ρ1 S1 H1 m1.good (hZ _ _ _ h1) (by simp [hlt])
    refine .inr ⟨hgo, P (i + 1), fun H' p' => ⟨items.length - (i + 1), by omega, rfl, hlt, p'⟩, fun x H' y => ?_⟩
    obtain ⟨le, g, r⟩ := hy x H' y
    have m2 : Mid L C b D ρ0 S0 H0 env σ acc ρ1 S1 H' := ⟨by
      have := m1.le
      refine ⟨this.pre, fun a o ea na => ?_, this.refs, this.len, this.lck, fun a ha u ea => le.accK a (List.mem_cons_of_mem _ ha) u (this.accK a ha u ea)⟩
      obtain ⟨k1, k2⟩ := this.keep a o ea na
      by_cases hz : a = D
      · subst hz
        exact ⟨le.accK a (List.mem_cons_self ..) _ k1, k2⟩
      · exact ⟨(le.keep a o k1 fun z => (lv_put.mp z).elim k2 hz).1, k2⟩, g, m1.env.kp le.kp, hL _ _ _ _ _ _ _ le m1.lst⟩
    exact hs items[i] x acc a1 S2 ρ1 S1 H' _ e2 m2 (hZy _ _ _ _ le h1) r fun ρ' H2 m3 h3 => ⟨ρ', S2, a1, m3, h3, e3⟩
  · have ei : i = items.length := by omega
    subst ei
    rw [List.drop_length] at e1
    cases e1
    exact .inl ⟨wk.stop _ _ _ m1.good (hZ _ _ _ h1), hd _ _ m1 h1⟩
/-- one turn -/
def dTurn (ft : Mi.D → Env → Sto → Rs Env) (fi : Env → Sto → Rs Bool) (k : Env → List Mi.D → Sto → Rs (List Mi.D)) (env : Env) : Mi.D → List Mi.D → Sto → Rs (List Mi.D) := fun d acc S2 =>
  (ft d env S2).to fun e S3 => (fi e S3).to fun b S4 => if b = true then k e acc S4 else .ok acc S4
def dElt (fe : Env → Sto → Rs Mi.D) : Env → List Mi.D → Sto → Rs (List Mi.D) := fun e acc S' => (fe e S').to fun d S2 => if acc.length < sizeLim then .ok (acc ++ [d]) S2 else .no
def dWalk (fw : Env → Sto → Rs (List Mi.D × Option Nat)) (turn : Env → Mi.D → List Mi.D → Sto → Rs (List Mi.D)) (vs : List Nat) : Env → List Mi.D → Sto → Rs (List Mi.D) := fun env acc S => (fw env S).to fun p S1 => match p.2 with
  | some _ => .no
  | none => compL (turn (wipeE env vs)) p.1 acc S1
def dNew (m : Bool) (r : Rs (List Mi.D)) : Rs Mi.D := (noEx r).to fun l S1 => if m then .ok (.ref S1.length) (S1 ++ [.lst l]) else .ok (.lst l) S1
abbrev Cxt.on (C : Cxt) (A : List Addr) : Cxt := { C with acc := A }
/-- over whatever is being made -/
def tGa (C : Cxt) (b : Nat) (vs : List Nat) (f : Mi.D → Env → Sto → Rs Env) : TG := fun v σ H Q => ∃ A, tG (C.on A) b vs f v σ H Q
def tTa (C : Cxt) (b : Nat) (f : Env → Sto → Rs Bool) : TT := fun σ H Q => ∃ A, tT (C.on A) b W0 f σ H Q
def tEa (C : Cxt) (b : Nat) (f : Env → Sto → Rs Mi.D) : TE := fun σ H Q => ∃ A, tE (C.on A) b W0 f σ H Q
def tIa (C : Cxt) (b : Nat) (f : Env → Sto → Rs (List Mi.D × Option Nat)) : TI := fun σ H Q => ∃ A, tI (C.on A) b W0 f σ H Q
theorem PG_any {tg : Expr} {vs : List Nat} {f : Mi.D → Env → Sto → Rs Env} (h : ∀ A, PG X tg (tG (C.on A) b vs f)) : PG X tg (tGa C b vs f) := ⟨fun pins s σ H v u Q I r ⟨A, w⟩ => (h A).run pins s σ H v u Q I r w⟩
theorem PTs_any {ifs : List Expr} {f : Env → Sto → Rs Bool} (h : ∀ A, PTs X ifs (tT (C.on A) b W0 f)) : PTs X ifs (tTa C b f) := ⟨fun pins s σ H Q I ⟨A, w⟩ => (h A).run pins s σ H Q I w⟩
theorem PE_any {f : Env → Sto → Rs Mi.D} (h : ∀ A, PE X p (tE (C.on A) b W0 f)) : PE X p (tEa C b f) := ⟨fun pins s σ H Q I ⟨A, w⟩ => (h A).run pins s σ H Q I w⟩
theorem PI_any {tg : Expr} {f : Env → Sto → Rs (List Mi.D × Option Nat)} (h : ∀ A, PI X tg p (tI (C.on A) b W0 f)) : PI X tg p (tIa C b f) := ⟨fun pins s σ H R I ⟨A, w⟩ => (h A).run pins s σ H R I w⟩
/-- the new list's end -/
theorem new_done {m : Bool} {Q : VK} {env : Env} {acc : List Mi.D} (mid : Mid (LL C D) C b D ρ0 S0 H0 env σ' acc ρ S H) (hD : H0 D = none) (hC : D ∉ C.acc)
    (o : Out C b W ρ0 S0 H0 σ (if m then .ok (.ref S.length) (S ++ [.lst acc]) else .ok (.lst acc) S) (RE C Q)) : Q (.ref D) H := by
  obtain ⟨xs, h1, h2⟩ := mid.lst
  cases m with
  | true =>
    obtain ⟨g, kp⟩ := mid.good.leaveN hC (u := .lst acc) fun kp => ⟨xs, h1, Rps.kp kp _ _ h2⟩
    exact o _ _ (mid.le.named mid.good.len mid.good.bb hD _) g _ ⟨D, by rw [← mid.good.len]; simp, rfl⟩
  | false =>
    exact o _ _ mid.le mid.good.leave _ ⟨D, xs, rfl, .inl ⟨fun z => z.elim (mid.good.accH D (List.mem_cons_self ..)).2 hC, .inl h1⟩, Rps.kp leave_kp _ _ h2⟩
theorem noEx_ok {α : Type} {r : Rs α} {x : α} {S' : Sto} (h : noEx r = .ok x S') : r = .ok x S' := by
  cases r with
  | ok a s => exact h
  | ex a s => cases h
  | no => cases h
/-- one turn's end: the element -/
theorem step_elt {N : Hp → Prop} {fe : Env → Sto → Rs Mi.D} {env e : Env} {a0 a1 : List Mi.D} {Z : List Addr → Sto → Hp → Prop} (hZy : ∀ ρ S H ρ' S' H', Le (C.put D) b ρ S H ρ' S' H' → Z ρ S H → Z ρ' S' H') (hZg : ∀ ρ S H o, Good (C.put D) b ρ S H → Z ρ S H → Z ρ S (upd H D o))
    (hD : H0 D = none) (hC : D ∉ C.acc) (he : dElt fe e a0 S = .ok a1 S1) (m : Mid (LL C D) C b D ρ0 S0 H0 env σ a0 ρ S H) (z : Z ρ S H) (ae : EnvR C.KR ρ (lv (C.put D) ρ S) H e σ')
    (h : ∀ ρ' H', Mid (LL C D) C b D ρ0 S0 H0 env σ a1 ρ' S1 H' → Z ρ' S1 H' → N H') : tEa C b fe σ' H fun y H4 => ∃ acc, H4 D = some (.lst acc) ∧ acc.length < sizeLine ∧ N (upd H4 D (.lst (acc ++ [y]))) := by
  obtain ⟨d, S2, e1, e2⟩ := to_ok he
  refine ⟨D :: C.acc, tE_ok ⟨m.good, ae⟩ e1 fun ρ2 H2 v le2 a2 r => ?_⟩
  split at e2
  · rename_i hz
    cases e2
    have m2 : Mid (LL C D) C b D ρ0 S0 H0 env σ a0 ρ2 S1 H2 := m.step LL.stay hD le2 ⟨a2.good, m.env.kp le2.kp⟩
    obtain ⟨xs, h1, h2⟩ := m2.lst
    exact ⟨xs, h1, by rw [← h2.length]; exact hz, h ρ2 _ (m2.add hD hC r h1) (hZg _ _ _ _ a2.good (hZy _ _ _ _ _ _ le2 z))⟩
  · cases e2
theorem d_lc {vs ts : List Nat} {m : Bool} {ft : Mi.D → Env → Sto → Rs Env} {fi : Env → Sto → Rs Bool} {fe : Env → Sto → Rs Mi.D} {fw : Env → Sto → Rs (List Mi.D × Option Nat)} {Q : VK}
    (hts : ∀ i ∈ ts, i ∈ vs) (h : tE C b W (fun env S => dNew m (dWalk fw (dTurn ft fi (dElt fe)) ts (wipeE env vs) [] S)) σ H Q) :
    tLc (tI C b W fw) (tGa C b ts ft) (tTa C b fi) (tEa C b fe) vs σ H Q := by
  obtain ⟨ρ, S, env, a, o⟩ := h
  dsimp only [dNew] at o
  cases er : noEx (dWalk fw (dTurn ft fi (dElt fe)) ts (wipeE env vs) [] S) with
  | no => rw [er] at o; exact o.elim
  | ex x S' => cases hq : dWalk fw (dTurn ft fi (dElt fe)) ts (wipeE env vs) [] S <;> (rw [hq] at er; cases er)
  | ok l SE =>
    rw [er] at o
    have er := noEx_ok er
    obtain ⟨p, S1, e1, e2⟩ := to_ok er
    obtain ⟨items, lk⟩ := p
    cases lk with
    | some _ => cases e2
    | none =>
      refine ⟨ρ, S, wipeE env vs, ⟨a.good, a.env.wipeL vs⟩, ?_⟩
      rw [e1]
      intro ρ1 H1 le g J src wk so hold D hD
      have ho := hold S1 rfl g (Le.refl g.bb)
      have hC : D ∉ C.acc := fun z => by
        obtain ⟨u, e⟩ := (g.accH D z).1
        rw [hD] at e; cases e
      obtain ⟨g', kp⟩ := g.enter hD (.lst [])
      have mid0 : Mid (LL C D) C b D ρ1 S1 H1 (wipeE (wipeE env vs) ts) (wipe σ vs) [] ρ1 S1 (upd H1 D (.lst [])) :=
        ⟨(Le.refl g.bb).grow hD hC _, g', (((a.env.kp le.kp).kp kp).wipe vs).wipeL ts, [], upd_same, rfl⟩
      have hZy : ∀ ρ S H ρ' S' H', Le (C.put D) b ρ S H ρ' S' H' → Hold (C.put D) items src ρ S H → Hold (C.put D) items src ρ' S' H' := fun _ _ _ _ _ _ le h => h.kp le
      have hZg : ∀ ρ S H o, Good (C.put D) b ρ S H → Hold (C.put D) items src ρ S H → Hold (C.put D) items src ρ S (upd H D o) := fun ρ S H o g h => h.kp2 rfl (g.grow o).2 fun _ _ h => h
      refine turns LL.stay (Z := Hold (C.put D) items src) (wk _ ⟨rfl, rfl⟩) (fun _ _ _ h => h) (fun ρ S H H' le h => hZy _ _ _ _ _ _ le h) ?_ e2 mid0 (Hold.kp2 (C := C) (C' := C.put D) rfl kp (fun _ _ h => h) ho) fun ρ' H' m' z' => new_done m' hD hC (Out.reb le o)
      intro d x a0 a1 S2 ρ2 S2' H2 N et m2 z2 r2 hN
      obtain ⟨e, S3, f1, et⟩ := to_ok et
      obtain ⟨k, S4, f2, et⟩ := to_ok et
      refine ⟨D :: C.acc, ρ2, S2', _, d, e, S3, m2.at, r2, f1, fun ρ3 H3 σ3 le3 a3 off => ⟨(off.wipe hts).trans (wipe_wipe σ vs), D :: C.acc, tT_ok a3 f2 fun ρ4 H4 le4 a4 => ?_⟩⟩
      have m4 : Mid (LL C D) C b D ρ1 S1 H1 _ _ a0 ρ4 S4 H4 := m2.step LL.stay hD (le3.trans le4) ⟨a4.good, m2.env.kp (le3.trans le4).kp⟩
      have z4 := hZy _ _ _ _ _ _ (le3.trans le4) z2
      cases k with
      | false =>
        cases et
        exact iteF (hN ρ4 H4 m4 z4)
      | true => exact iteT (step_elt hZy hZg hD hC et m4 z4 a4.env hN)
/-- two clauses -/
theorem d_lc2 {vs ts ts1 : List Nat} {m : Bool} {ft ft1 : Mi.D → Env → Sto → Rs Env} {fi fi1 : Env → Sto → Rs Bool} {fe : Env → Sto → Rs Mi.D} {fw fw1 : Env → Sto → Rs (List Mi.D × Option Nat)} {Q : VK}
    (hts : ∀ i ∈ ts, i ∈ vs) (h : tE C b W (fun env S => dNew m (dWalk fw (dTurn ft fi (dWalk fw1 (dTurn ft1 fi1 (dElt fe)) ts1)) ts (wipeE env vs) [] S)) σ H Q) :
    tLc2 (tI C b W fw) (tGa C b ts ft) (tTa C b fi) (tIa C b fw1) (tGa C b ts1 ft1) (tTa C b fi1) (tEa C b fe) vs ts1 σ H Q := by
  obtain ⟨ρ, S, env, a, o⟩ := h
  dsimp only [dNew] at o
  cases er : noEx (dWalk fw (dTurn ft fi (dWalk fw1 (dTurn ft1 fi1 (dElt fe)) ts1)) ts (wipeE env vs) [] S) with
  | no => rw [er] at o; exact o.elim
  | ex x S' => cases hq : dWalk fw (dTurn ft fi (dWalk fw1 (dTurn ft1 fi1 (dElt fe)) ts1)) ts (wipeE env vs) [] S <;> (rw [hq] at er; cases er)
  | ok l SE =>
    rw [er] at o
    have er := noEx_ok er
    obtain ⟨p, S1, e1, e2⟩ := to_ok er
    obtain ⟨items, lk⟩ := p
    cases lk with
    | some _ => cases e2
    | none =>
      refine ⟨ρ, S, wipeE env vs, ⟨a.good, a.env.wipeL vs⟩, ?_⟩
      rw [e1]
      intro ρ1 H1 le g J src wk so hold D hD
      have ho := hold S1 rfl g (Le.refl g.bb)
      have hC : D ∉ C.acc := fun z => by
        obtain ⟨u, e⟩ := (g.accH D z).1
        rw [hD] at e; cases e
      obtain ⟨g', kp⟩ := g.enter hD (.lst [])
      have mid0 : Mid (LL C D) C b D ρ1 S1 H1 (wipeE (wipeE env vs) ts) (wipe σ vs) [] ρ1 S1 (upd H1 D (.lst [])) :=
        ⟨(Le.refl g.bb).grow hD hC _, g', (((a.env.kp le.kp).kp kp).wipe vs).wipeL ts, [], upd_same, rfl⟩
      have hZy : ∀ ρ S H ρ' S' H', Le (C.put D) b ρ S H ρ' S' H' → Hold (C.put D) items src ρ S H → Hold (C.put D) items src ρ' S' H' := fun _ _ _ _ _ _ le h => h.kp le
      have hZg : ∀ ρ S H o, Good (C.put D) b ρ S H → Hold (C.put D) items src ρ S H → Hold (C.put D) items src ρ S (upd H D o) := fun ρ S H o g h => h.kp2 rfl (g.grow o).2 fun _ _ h => h
      refine turns LL.stay (Z := Hold (C.put D) items src) (wk _ ⟨rfl, rfl⟩) (fun _ _ _ h => h) (fun ρ S H H' le h => hZy _ _ _ _ _ _ le h) ?_ e2 mid0 (Hold.kp2 (C := C) (C' := C.put D) rfl kp (fun _ _ h => h) ho) fun ρ' H' m' z' => new_done m' hD hC (Out.reb le o)
      intro d x a0 a1 S2 ρ2 S2' H2 N et m2 z2 r2 hN
      obtain ⟨e, S3, f1, et⟩ := to_ok et
      obtain ⟨k, S4, f2, et⟩ := to_ok et
      refine ⟨D :: C.acc, ρ2, S2', _, d, e, S3, m2.at, r2, f1, fun ρ3 H3 σ3 le3 a3 off => ⟨(off.wipe hts).trans (wipe_wipe σ vs), D :: C.acc, tT_ok a3 f2 fun ρ4 H4 le4 a4 => ?_⟩⟩
      have m4 : Mid (LL C D) C b D ρ1 S1 H1 _ _ a0 ρ4 S4 H4 := m2.step LL.stay hD (le3.trans le4) ⟨a4.good, m2.env.kp (le3.trans le4).kp⟩
      have z4 := hZy _ _ _ _ _ _ (le3.trans le4) z2
      cases k with
      | false =>
        cases et
        exact iteF (hN ρ4 H4 m4 z4)
      | true =>
        refine iteT ?_
        obtain ⟨p1, S5, g1, et⟩ := to_ok (show (fw1 e S4).to _ = _ from et)
        obtain ⟨items1, lk1⟩ := p1
        cases lk1 with
        | some _ => cases et
        | none =>
          refine ⟨D :: C.acc, ρ4, S4, e, a4, ?_⟩
          rw [g1]
          intro ρ5 H5 le5 g5 J1 src1 wk1 so1 hold1
          have ho1 : Hold (C.put D) items1 src1 ρ5 S5 H5 := hold1 S5 rfl g5 (Le.refl g5.bb)
          have m5 : Mid (LL C D) C b D ρ1 S1 H1 (wipeE (wipeE env vs) ts) (wipe σ vs) a0 ρ5 S5 H5 := m4.step LL.stay hD le5 ⟨g5, m4.env.kp le5.kp⟩
          have m5' : Mid (LL C D) C b D ρ1 S1 H1 (wipeE e ts1) (wipe σ3 ts1) a0 ρ5 S5 H5 := m4.step LL.stay hD le5 ⟨g5, (a4.env.kp le5.kp).wipe ts1⟩
          let Z : List Addr → Sto → Hp → Prop := fun ρ S H => Hold (C.put D) items1 src1 ρ S H ∧ Hold (C.put D) items src ρ S H ∧ EnvR C.KR ρ (lv (C.put D) ρ S) H (wipeE (wipeE env vs) ts) (wipe σ vs)
          have hZy1 : ∀ ρ S H ρ' S' H', Le (C.put D) b ρ S H ρ' S' H' → Z ρ S H → Z ρ' S' H' := fun _ _ _ _ _ _ le h => ⟨h.1.kp le, h.2.1.kp le, h.2.2.kp le.kp⟩
          have hZg1 : ∀ ρ S H o, Good (C.put D) b ρ S H → Z ρ S H → Z ρ S (upd H D o) := fun ρ S H o g h => ⟨h.1.kp2 rfl (g.grow o).2 fun _ _ h => h, h.2.1.kp2 rfl (g.grow o).2 fun _ _ h => h, h.2.2.kp (g.grow o).2⟩
          refine turns LL.stay (Z := Z) (wk1 _ ⟨rfl, rfl⟩) (fun _ _ _ h => h.1) (fun ρ S H H' le h => hZy1 _ _ _ _ _ _ le h) ?_ et m5' ⟨ho1, z4.kp le5, m5.env⟩ fun ρ' H' m' z' => hN ρ' H' ⟨m'.le, m'.good, z'.2.2, m'.lst⟩ z'.2.1
          intro d x b0 b1 S6 ρ6 S6' H6 N1 et m6 z6 r6 hN1
          obtain ⟨e', S7, k1, et⟩ := to_ok et
          obtain ⟨k, S8, k2, et⟩ := to_ok et
          refine ⟨D :: C.acc, ρ6, S6', _, d, e', S7, m6.at, r6, k1, fun ρ7 H7 σ7 le7 a7 off7 => ⟨(off7.wipe fun i h => h).trans (wipe_wipe σ3 ts1), D :: C.acc, tT_ok a7 k2 fun ρ8 H8 le8 a8 => ?_⟩⟩
          have m8 : Mid (LL C D) C b D ρ1 S1 H1 _ _ b0 ρ8 S8 H8 := m6.step LL.stay hD (le7.trans le8) ⟨a8.good, m6.env.kp (le7.trans le8).kp⟩
          have z8 := hZy1 _ _ _ _ _ _ (le7.trans le8) z6
          cases k with
          | false =>
            cases et
            exact iteF (hN1 ρ8 H8 m8 z8)
          | true => exact iteT (step_elt hZy1 hZg1 hD hC et m8 z8 a8.env hN1)
end
end Mi

namespace Mi
open PySem L2 PySem.Spec PyProof.Rows

/-! ## Part 11: statements -/
section
variable {X : Cx} {C : Cxt} {b : Nat} {W : WX} {ρ ρ' ρ0 ρ1 ρ2 : List Addr} {S S' S0 S1 S2 : Sto} {H H' H0 H1 H2 : Hp} {σ σ' σ1 σ2 : L2.St} {p q r : Expr} {ps : List Expr} {pos : Pos} {fa fb fc : Env → Sto → Rs D} {l l' : Addr → Prop} {env : Env}
def OutS (C : Cxt) (b : Nat) (W : WX) (ρ : List Addr) (S : Sto) (H : Hp) (N : Ends) : SR → Prop
  | .nx e S' => ∀ ρ' H' σ', Le C b ρ S H ρ' S' H' → At C b ρ' S' H' e σ' → N.nx σ' H'
  | .bk e S' => ∀ ρ' H' σ', Le C b ρ S H ρ' S' H' → At C b ρ' S' H' e σ' → N.bk σ' H'
  | .ct e S' => ∀ ρ' H' σ', Le C b ρ S H ρ' S' H' → At C b ρ' S' H' e σ' → N.ct σ' H'
  | .rt d S' => ∀ ρ' H' v, Le C b ρ S H ρ' S' H' → Good C b ρ' S' H' → Rp C.KR ρ' (lv C ρ' S') H' d v → N.rt v H'
  | .ex x e S' => ∀ ρ' H' σ' u d, Le C b ρ S H ρ' S' H' → At C b ρ' S' H' e σ' → ExR C ρ' (lv C ρ' S') H' x u d → W u d σ' H'
  | .no => False
theorem OutS.reb {N : Ends} {r : SR} (x : Le C b ρ S H ρ1 S1 H1) (h : OutS C b W ρ S H N r) : OutS C b W ρ1 S1 H1 N r := by
  cases r with
  | nx e S' => exact fun ρ' H' σ' y g => h ρ' H' σ' (x.trans y) g
  | bk e S' => exact fun ρ' H' σ' y g => h ρ' H' σ' (x.trans y) g
  | ct e S' => exact fun ρ' H' σ' y g => h ρ' H' σ' (x.trans y) g
  | rt d S' => exact fun ρ' H' v y g => h ρ' H' v (x.trans y) g
  | ex a e S' => exact fun ρ' H' σ' u d y g => h ρ' H' σ' u d (x.trans y) g
  | no => exact h
def tS (C : Cxt) (b : Nat) (W : WX) (f : Env → Sto → SR) : TS := fun N σ H => ∃ ρ S env, At C b ρ S H env σ ∧ OutS C b W ρ S H N (f env S)
theorem ofE_out {N : Ends} {r : Rs D} {k : D → Sto → SR} (a : At C b ρ S H env σ) (h : OutS C b W ρ S H N (ofE env r k)) : Out C b W ρ S H σ r fun d S' ρ' H' => OutS C b W ρ' S' H' N (k d S') := by
  cases r with
  | ok d S' => exact fun ρ' H' le g => OutS.reb le h
  | ex x S' => exact fun ρ' H' u d le g => h ρ' H' σ u d le ⟨g, a.env.kp le.kp⟩
  | no => exact h
theorem d_asg {tg : Expr} {vs : List Nat} {ft : D → Env → Sto → Rs Env} (he : PE X p (tE C b W fa)) (hg : PG X tg (tG C b vs ft)) (hs : swapsWithSole [tg] p pos.line X.env = pure false) (hw : swappedStores [tg] p X.env = pure none) (hn : notStar tg = true) :
    PS X (.Assign [tg] p pos) (tS C b W fun env S => ofE env (fa env S) fun d S1 => ofT (ft d env S1) .nx) :=
  PS_sub (ps_asg he hg hs hw (by rw [assignEach_cons hn]; rfl)) fun N σ H ⟨ρ, S, env, a, o⟩ => by
    refine tE_of a (ofE_out a o) fun d S1 ρ1 H1 v le a1 r o1 => ?_
    cases e : ft d env S1 with
    | ok env' S2 =>
      rw [e] at o1
      exact ⟨ρ1, S1, env, d, env', S2, a1, r, e, fun ρ2 H2 σ2 le2 a2 _ => o1 ρ2 H2 σ2 le2 a2⟩
    | ex x S2 => rw [e] at o1; exact o1.elim
    | no => rw [e] at o1; exact o1.elim
/-- a reading that is stored under a name (list comprehensions on one line) -/
theorem d_asgN {i : Nat} {st : Stmt} {te : TE} (h : PS X st (tAsg te (gName i))) (he : ∀ σ H Q, tE C b W fa σ H Q → te σ H Q) :
    PS X st (tS C b W fun env S => ofE env (fa env S) fun d S1 => ofT (Rs.ok (env.set i (some d)) S1) .nx) :=
  PS_sub h fun N σ H ⟨ρ, S, env, a, o⟩ => he _ _ _ (tE_of a (ofE_out a o) fun d S1 ρ1 H1 v le a1 r o1 =>
    o1 ρ1 H1 _ (Le.refl a1.good.bb) ⟨a1.good, a1.env.set r i⟩)
theorem d_expr (he : PE X p (tE C b W fa)) (hs : swapsWith p none pos.line X.env = pure false) : PS X (.Expr p pos) (tS C b W fun env S => ofE env (fa env S) fun _ S1 => .nx env S1) :=
  PS_sub (ps_expr he hs) fun N σ H ⟨ρ, S, env, a, o⟩ => tE_of a (ofE_out a o) fun d S1 ρ1 H1 v le a1 r o1 => o1 ρ1 H1 σ (Le.refl a1.good.bb) a1
theorem d_doc {x : Str} {j : Nat} {pos' : Pos} : PS X (.Expr (.Constant (.str x) j pos) pos') (tS C b W fun env S => .nx env S) :=
  PS_sub ps_doc fun N σ H ⟨ρ, S, env, a, o⟩ => o ρ H σ (Le.refl a.good.bb) a
theorem d_pass : PS X (.Pass pos) (tS C b W fun env S => .nx env S) := PS_sub ps_pass fun N σ H ⟨ρ, S, env, a, o⟩ => o ρ H σ (Le.refl a.good.bb) a
theorem d_brk : PS X (.Break pos) (tS C b W fun env S => .bk env S) := PS_sub ps_break fun N σ H ⟨ρ, S, env, a, o⟩ => o ρ H σ (Le.refl a.good.bb) a
theorem d_cnt : PS X (.Continue pos) (tS C b W fun env S => .ct env S) := PS_sub ps_continue fun N σ H ⟨ρ, S, env, a, o⟩ => o ρ H σ (Le.refl a.good.bb) a
theorem d_retN : PS X (.Return none pos) (tS C b W fun env S => .rt .non S) := PS_sub ps_retN fun N σ H ⟨ρ, S, env, a, o⟩ => o ρ H .non (Le.refl a.good.bb) a.good rfl
theorem d_ret (he : PE X p (tE C b W fa)) : PS X (.Return (some p) pos) (tS C b W fun env S => ofE env (fa env S) .rt) :=
  PS_sub (ps_ret he) fun N σ H ⟨ρ, S, env, a, o⟩ => tE_of a (ofE_out a o) fun d S1 ρ1 H1 v le a1 r o1 => o1 ρ1 H1 v (Le.refl a1.good.bb) a1.good r
theorem d_sNil : PSs X [] (tS C b W fun env S => .nx env S) := PSs_sub pss_nil fun N σ H ⟨ρ, S, env, a, o⟩ => o ρ H σ (Le.refl a.good.bb) a
def dSeq (f g : Env → Sto → SR) : Env → Sto → SR := fun env S => match f env S with
  | .nx e S1 => g e S1
  | r => r
theorem d_sCons {st : Stmt} {sts : List Stmt} {f g : Env → Sto → SR} (h1 : PS X st (tS C b W f)) (h2 : PSs X sts (tS C b W g)) : PSs X (st :: sts) (tS C b W (dSeq f g)) :=
  PSs_sub (pss_cons h1 h2) fun N σ H ⟨ρ, S, env, a, o⟩ => by
    refine ⟨ρ, S, env, a, ?_⟩
    unfold dSeq at o
    cases e : f env S with
    | nx e1 S1 => rw [e] at o; exact fun ρ' H' σ' le a' => ⟨ρ', S1, e1, a', OutS.reb le o⟩
    | _ => rw [e] at o; exact o
theorem d_if {c : Expr} {fc : Env → Sto → Rs D} {A B : List Stmt} {f g : Env → Sto → SR} (hc : PT X c (tT C b W fun env S => toB (fc env S))) (hA : PSs X A (tS C b W f)) (hB : PSs X B (tS C b W g)) :
    PS X (.If c A B pos) (tS C b W fun env S => ofE env (fc env S) fun x S1 => match truth S1 x with
      | some true => f env S1
      | some false => g env S1
      | none => .no) :=
  PS_sub (ps_if hc hA hB) fun N σ H ⟨ρ, S, env, a, o⟩ => by
    have key : Out C b W ρ S H σ (toB (fc env S)) fun k S1 ρ1 H1 => OutS C b W ρ1 S1 H1 N (if k = true then f env S1 else g env S1) := by
      dsimp only at o
      cases ef : fc env S with
      | no => rw [ef] at o; exact o
      | ex x S1 => rw [ef] at o; exact fun ρ' H' u d le g => o ρ' H' σ u d le ⟨g, a.env.kp le.kp⟩
      | ok x S1 =>
        rw [ef] at o
        simp only [Rs.to, toB, ofE] at o ⊢
        cases et : truth S1 x with
        | none => rw [et] at o; exact o.elim
        | some k =>
          rw [et] at o
          intro ρ' H' le g'
          cases k <;> exact OutS.reb le o
    refine tT_of a key fun k S1 ρ1 H1 le a1 o2 => ?_
    cases k with
    | true => exact iteT ⟨ρ1, S1, env, a1, by simpa using o2⟩
    | false => exact iteF ⟨ρ1, S1, env, a1, by simpa using o2⟩

/-! ### loops -/
/-- the state of a loop, seen from ahead of it -/
structure Lp (C : Cxt) (b : Nat) (ρ0 : List Addr) (S0 : Sto) (H0 : Hp) (env : Env) (σ : L2.St) (ρ : List Addr) (S : Sto) (H : Hp) : Prop where
  le : Le C b ρ0 S0 H0 ρ S H
  at' : At C b ρ S H env σ
theorem d_while {c : Expr} {fc : Env → Sto → Rs Bool} {B : List Stmt} {f : Env → Sto → SR} {fuel : Nat} (hp : PassesOwn (model X.prog X.w) X.A X.env X.xe) (hc : PT X c (tT C b W fc)) (hB : PSs X B (tS C b W f)) :
    PS X (.While c B [] pos) (tS C b W fun env S => whileL fc f fuel env S) :=
  PS_sub (ps_while hp hc hB) fun N σ H ⟨ρ, S, env, a, o⟩ => by
    dsimp only at o
    generalize hr : whileL fc f fuel env S = res at o
    refine ⟨fun m σ' H' => ∃ ρ' S' env', Lp C b ρ S H env' σ' ρ' S' H' ∧ whileL fc f m env' S' = res, ⟨fuel, ρ, S, env, ⟨Le.refl a.good.bb, a⟩, hr⟩, ?_⟩
    rintro m σ1 H1 ⟨ρ1, S1, env1, ⟨le1, a1⟩, e1⟩
    cases m with
    | zero => unfold whileL at e1; subst e1; exact o.elim
    | succ m =>
      unfold whileL at e1
      cases et : fc env1 S1 with
      | no => rw [et] at e1; subst e1; exact o.elim
      | ex x S2 =>
        rw [et] at e1; subst e1
        exact ⟨ρ1, S1, env1, a1, by rw [et]; exact fun ρ' H' u d le g => o ρ' H' σ1 u d (le1.trans le) ⟨g, a1.env.kp le.kp⟩⟩
      | ok k S2 =>
        rw [et] at e1
        refine ⟨ρ1, S1, env1, a1, ?_⟩
        rw [et]
        intro ρ2 H2 le2 g2
        have a2 : At C b ρ2 S2 H2 env1 σ1 := ⟨g2, a1.env.kp le2.kp⟩
        cases k with
        | false =>
          subst e1
          exact iteF (o ρ2 H2 σ1 (le1.trans le2) a2)
        | true =>
          refine iteT ⟨fun σ' H' => ∃ ρ' S' env', Lp C b ρ S H env' σ' ρ' S' H' ∧ whileL fc f m env' S' = res, fun σ' H' h => ⟨m, Nat.lt_succ_self m, h⟩, ρ2, S2, env1, a2, ?_⟩
          cases ef : f env1 S2 with
          | nx e S3 => simp only [ef] at e1; exact fun ρ' H' σ' le a' => ⟨ρ', S3, e, ⟨(le1.trans le2).trans le, a'⟩, e1⟩
          | ct e S3 => simp only [ef] at e1; exact fun ρ' H' σ' le a' => ⟨ρ', S3, e, ⟨(le1.trans le2).trans le, a'⟩, e1⟩
          | bk e S3 => simp only [ef] at e1; subst e1; exact fun ρ' H' σ' le a' => o ρ' H' σ' ((le1.trans le2).trans le) a'
          | rt d S3 => simp only [ef] at e1; subst e1; exact fun ρ' H' v le g r => o ρ' H' v ((le1.trans le2).trans le) g r
          | ex x e S3 => simp only [ef] at e1; subst e1; exact fun ρ' H' σ' u d le g => o ρ' H' σ' u d ((le1.trans le2).trans le) g
          | no => simp only [ef] at e1; subst e1; exact o.elim
/-- the lock goes on -/
theorem lock_ok {items : List D} {lk : Option Nat} (g : Good C b ρ S H) (h : ∀ n, lk = some n → S[n]? = some (.lst items)) : Le C b ρ S H ρ (lockS S lk) H ∧ Good C b ρ (lockS S lk) H := by
  cases lk with
  | none => exact ⟨Le.refl g.bb, g⟩
  | some n =>
    have e := h n rfl
    simp only [lockS, e]
    exact g.mark e rfl fun w z => by cases z
/-- and off -/
theorem unlock_ok {items : List D} {lk : Option Nat} (g0 : Good C b ρ S H) (h : ∀ n, lk = some n → S[n]? = some (.lst items)) (le : Le C b ρ (lockS S lk) H ρ' S' H') (g : Good C b ρ' S' H') : Le C b ρ S H ρ' (unlockS S' lk) H' ∧ Good C b ρ' (unlockS S' lk) H' ∧ Kp ρ' (lv C ρ' S') H' ρ' (lv C ρ' (unlockS S' lk)) H' := by
  cases lk with
  | none => exact ⟨le, g, List.prefix_refl _, fun a o e n => ⟨e, n⟩⟩
  | some n =>
    have e := h n rfl
    obtain ⟨le0, gl⟩ := lock_ok g0 h
    have hn : n < S.length := (List.getElem?_eq_some_iff.mp e).1
    have e' : S'[n]? = some (.lck (.lst items)) := by
      refine le.lck n _ ?_
      simp only [lockS, e]
      exact List.getElem?_set_self hn
    simp only [unlockS, e']
    obtain ⟨h1, h2⟩ := Good.unlock (le0.trans le) g e' rfl fun w z => by rw [e] at z; cases z
    refine ⟨h1, h2, List.prefix_refl _, fun a o eo no => ⟨eo, fun z => no ?_⟩⟩
    rcases z with ⟨m, w, ew, hd, er⟩ | z
    · by_cases hm : n = m
      · subst hm
        exact .inl ⟨n, _, e', (by intro z; cases z), er⟩
      · rw [List.getElem?_set_ne hm] at ew
        exact .inl ⟨m, w, ew, hd, er⟩
    · exact .inr z
theorem d_for {tg iter : Expr} {fw : Env → Sto → Rs (List D × Option Nat)} {vs : List Nat} {ft : D → Env → Sto → Rs Env} {B : List Stmt} {f : Env → Sto → SR} (hp : PassesOwn (model X.prog X.w) X.A X.env X.xe) (hc : X.calm = true) (hi : PI X tg iter (tI C b W fw)) (hg : PG X tg (tG C b vs ft)) (hB : PSs X B (tS C b W f))
    (hs : ∀ x, foldedSetIterable iter X.env x = pure x) :
    PS X (.For tg iter B [] pos) (tS C b W fun env S => match fw env S with
      | .ok p S1 => (forL (fun d e S' => ofT (ft d e S') fun e' S2 => f e' S2) p.1 env (lockS S1 p.2)).unlock p.2
      | .ex x S1 => .ex x env S1
      | .no => .no) :=
  PS_sub (ps_for hp hc hi hg hB hs) fun N σ H ⟨ρ, S, env, a, o⟩ => by
    dsimp only at o
    refine ⟨ρ, S, env, a, ?_⟩
    cases ew : fw env S with
    | no => rw [ew] at o; exact o
    | ex x S1 => rw [ew] at o; exact fun ρ' H' u d le g => o ρ' H' σ u d le ⟨g, a.env.kp le.kp⟩
    | ok p S1 =>
      rw [ew] at o
      obtain ⟨items, lk⟩ := p
      intro ρ1 H1 le1 g1 J src wk hlk hold
      dsimp only at o hlk hold wk
      obtain ⟨leL, gL⟩ := lock_ok g1 hlk
      have ho := hold _ rfl gL leL
      have aL : At C b ρ1 (lockS S1 lk) H1 env σ := ⟨gL, a.env.kp (le1.trans leL).kp⟩
      have o := OutS.reb le1 o
      generalize hr : forL (fun d e S' => ofT (ft d e S') fun e' S2 => f e' S2) items env (lockS S1 lk) = res at o
      let P : Nat → L2.St → Hp → Prop := fun i σ H => ∃ ρ S env, Lp C b ρ1 (lockS S1 lk) H1 env σ ρ S H ∧ Hold C items src ρ S H ∧ forL (fun d e S' => ofT (ft d e S') fun e' S2 => f e' S2) (items.drop i) env S = res
      have wk := wk C ⟨rfl, rfl⟩
      refine ⟨fun i m σ H => m = items.length - i ∧ i ≤ items.length ∧ P i σ H, ⟨items.length, by simp, Nat.zero_le _, ρ1, _, env, ⟨Le.refl gL.bb, aL⟩, ho, by simpa using hr⟩, ?_⟩
      rintro i n σ2 H2 ⟨rfl, hi, ρ2, S2, env2, ⟨le2, a2⟩, h2, e2⟩
      by_cases hlt : i < items.length
      · rw [drop_cons hlt] at e2
        unfold forL at e2
        obtain ⟨hgo, hy⟩ := wk.go i items[i] ρ2 S2 H2 a2.good h2 (by simp [hlt])
        refine .inr ⟨hgo, P (i + 1), fun σ' H' p' => ⟨items.length - (i + 1), by omega, rfl, hlt, p'⟩, fun x H' y => ?_⟩
        obtain ⟨le3, g3, r3⟩ := hy x H' y
        have a3 : At C b ρ2 S2 H' env2 σ2 := ⟨g3, a2.env.kp le3.kp⟩
        cases et : ft items[i] env2 S2 with
        | no => simp only [et, ofT] at e2; subst e2; exact o.elim
        | ex x S3 => simp only [et, ofT] at e2; subst e2; exact o.elim
        | ok env4 S4 =>
          simp only [et, ofT] at e2
          refine ⟨ρ2, S2, env2, _, env4, S4, a3, r3, et, fun ρ4 H4 σ4 le4 a4 _ => ⟨ρ4, S4, env4, a4, ?_⟩⟩
          have le04 := (le2.trans le3).trans le4
          have h4 : Hold C items src ρ4 S4 H4 := (h2.kp le3).kp le4
          cases ef : f env4 S4 with
          | nx e S5 => simp only [ef] at e2; exact fun ρ' H' σ' le a' => ⟨ρ', S5, e, ⟨le04.trans le, a'⟩, h4.kp le, e2⟩
          | ct e S5 => simp only [ef] at e2; exact fun ρ' H' σ' le a' => ⟨ρ', S5, e, ⟨le04.trans le, a'⟩, h4.kp le, e2⟩
          | bk e S5 =>
            simp only [ef] at e2; subst e2
            intro ρ' H' σ' le a'
            obtain ⟨q1, q2, q3⟩ := unlock_ok g1 hlk (le04.trans le) a'.good
            exact o ρ' H' σ' q1 ⟨q2, a'.env.kp q3⟩
          | rt d S5 =>
            simp only [ef] at e2; subst e2
            intro ρ' H' v le g' r'
            obtain ⟨q1, q2, q3⟩ := unlock_ok g1 hlk (le04.trans le) g'
            exact o ρ' H' v q1 q2 (Rp.kp q3 _ _ r')
          | ex x e S5 =>
            simp only [ef] at e2; subst e2
            intro ρ' H' σ' u d le a' xr
            obtain ⟨q1, q2, q3⟩ := unlock_ok g1 hlk (le04.trans le) a'.good
            refine o ρ' H' σ' u d q1 ⟨q2, a'.env.kp q3⟩ ?_
            obtain ⟨A, dx, fs, x1, x2, x3, x4, x5, x6⟩ := xr
            exact ⟨A, dx, fs, x1, x2, x3, x4, x5, fieldR.kp q3 _ _ x6⟩
          | no => simp only [ef] at e2; subst e2; exact o.elim
      · have ei : i = items.length := by omega
        subst ei
        rw [List.drop_length] at e2
        unfold forL at e2
        subst e2
        obtain ⟨q1, q2, q3⟩ := unlock_ok g1 hlk le2 a2.good
        exact .inl ⟨wk.stop _ _ _ a2.good h2, o ρ2 H2 σ2 q1 ⟨q2, a2.env.kp q3⟩⟩
/-! ### more stores -/
def dPar (is : List Nat) (f : Env → Sto → Rs (List D)) : Env → Sto → SR := fun env S => match f env S with
  | .ok ds S1 => if is.length = ds.length then .nx ((is.zip ds).foldl (fun e p => e.set p.1 (some p.2)) env) S1 else .no
  | .ex x S1 => .ex x env S1
  | .no => .no
theorem dPar_out {is : List Nat} {f : Env → Sto → Rs (List D)} {N : Ends} (a : At C b ρ S H env σ) (h : OutS C b W ρ S H N (dPar is f env S)) : Out C b W ρ S H σ (f env S) fun ds S' ρ' H' => is.length = ds.length ∧ OutS C b W ρ' S' H' N (.nx ((is.zip ds).foldl (fun e p => e.set p.1 (some p.2)) env) S') := by
  unfold dPar at h
  cases e : f env S with
  | ok ds S' =>
    rw [e] at h
    simp only at h
    split at h
    · rename_i hl; exact fun ρ' H' le g => ⟨hl, OutS.reb le h⟩
    · exact h.elim
  | ex x S' => rw [e] at h; exact fun ρ' H' u d le g => h ρ' H' σ u d le ⟨g, a.env.kp le.kp⟩
  | no => rw [e] at h; exact h
theorem d_par {i j : Nat} {st : Stmt} {ta : TA} {fs : Env → Sto → Rs (List D)} (h : PS X st (tPar i j ta)) (ha : ∀ σ H Q, tA C b W fs σ H Q → ta σ H Q) : PS X st (tS C b W (dPar [i, j] fs)) :=
  PS_sub h fun N σ H ⟨ρ, S, env, a, o⟩ => ha _ _ _ (tA_of a (dPar_out a o) fun ds S1 ρ1 H1 vs le1 a1 rv ⟨hl, o1⟩ => by
    match ds, hl, rv, o1 with
    | [d, e], _, ⟨x, t, e1, hx, y, t2, e2, hy, ht⟩, o1 =>
      cases (show t2 = [] from ht); subst e2; subst e1
      exact ⟨x, y, rfl, o1 ρ1 H1 _ (Le.refl a1.good.bb) ⟨a1.good, (a1.env.set hx i).set hy j⟩⟩)
theorem d_par3 {i j k : Nat} {st : Stmt} {ta : TA} {fs : Env → Sto → Rs (List D)} (h : PS X st (tPar3 i j k ta)) (ha : ∀ σ H Q, tA C b W fs σ H Q → ta σ H Q) : PS X st (tS C b W (dPar [i, j, k] fs)) :=
  PS_sub h fun N σ H ⟨ρ, S, env, a, o⟩ => ha _ _ _ (tA_of a (dPar_out a o) fun ds S1 ρ1 H1 vs le1 a1 rv ⟨hl, o1⟩ => by
    match ds, hl, rv, o1 with
    | [d, e, f], _, ⟨x, t, e1, hx, y, t2, e2, hy, z, t3, e3, hz, ht⟩, o1 =>
      cases (show t3 = [] from ht); subst e3; subst e2; subst e1
      exact ⟨x, y, z, rfl, o1 ρ1 H1 _ (Le.refl a1.good.bb) ⟨a1.good, ((a1.env.set hx i).set hy j).set hz k⟩⟩)
end
end Mi

namespace Mi
open PySem L2 PySem.Spec PyProof.Rows

/-! ## Part 12: dict displays, objects, calls -/
section
variable {X : Cx} {C : Cxt} {b : Nat} {W : WX} {ρ ρ' ρ0 ρ1 ρ2 : List Addr} {S S' S0 S1 S2 : Sto} {H H' H0 H1 H2 : Hp} {σ σ' σ1 σ2 : L2.St} {p q r : Expr} {ps : List Expr} {pos : Pos} {fa fb fc : Env → Sto → Rs D} {l l' : Addr → Prop} {env : Env}
/-! ### what may no more change -/
inductive Ghost (K : Hp → Prop) : Hp → Prop
  | fin {H : Hp} (h : K H) : Ghost K H
  | lock {H : Hp} {d : Addr} {u : HO} (e : H d = some u) (m : Mut (some u)) (h : ∀ od, Ghost K (upd H d (.frz od u))) : Ghost K H
theorem Ghost.run {X : Cx} {pins : List (Addr × Obj)} {σ : L2.St} {s : Shared} {K : Hp → Prop} {H : Hp} (g : Ghost K H) : L2.Inv X pins σ H s → ∃ H', L2.Inv X pins σ H' s ∧ K H' := by
  induction g with
  | fin h => exact fun I => ⟨_, I, h⟩
  | lock e m _ ih => exact fun I => let ⟨od, I1⟩ := I.lock e m; ih od I1
theorem Ghost.bind {K K' : Hp → Prop} {H : Hp} (g : Ghost K H) (h : ∀ H, K H → Ghost K' H) : Ghost K' H := by
  induction g with
  | fin h' => exact h _ h'
  | lock e m _ ih => exact .lock e m ih
theorem pe_gh {X : Cx} {e : Expr} {t : TE} (h : PE X e t) : PE X e (fun σ H Q => t σ H fun v H1 => Ghost (Q v) H1) :=
  ⟨fun pins s σ H Q I w => thn (h.run pins s σ H _ I w) fun v s1 ⟨x, H1, I1, r, g⟩ => let ⟨H2, I2, q⟩ := g.run I1; ⟨x, H2, I2, r, q⟩⟩
/-! ### dicts -/
def Rvv (K : PySem.W.Frag) (ρ : List Addr) (l : Addr → Prop) (H : Hp) : List (Mi.D × Mi.D) → List (V × V) → Prop
  | [], xs => xs = []
  | (k, d) :: r, xs => ∃ q x t, xs = (q, x) :: t ∧ Rp K ρ l H k q ∧ Rp K ρ l H d x ∧ Rvv K ρ l H r t
theorem Rvv.kp {K : PySem.W.Frag} (k : Kp ρ l H ρ' l' H') : ∀ (ds : List (Mi.D × Mi.D)) (xs : List (V × V)), Rvv K ρ l H ds xs → Rvv K ρ' l' H' ds xs
  | [], xs, h => h
  | (a, d) :: r, xs, ⟨q, x, t, e, hk, h, h2⟩ => ⟨q, x, t, e, Rp.kp k a q hk, Rp.kp k d x h, Rvv.kp k r t h2⟩
/-- keys and values, in turn -/
def dPairs : List ((Env → Sto → Rs Mi.D) × (Env → Sto → Rs Mi.D)) → Env → Sto → Rs (List Mi.D)
  | [], _, S => .ok [] S
  | (f, g) :: r, env, S => (f env S).to fun x S1 => ((g env S1).to fun y S2 => (dPairs r env S2).to fun xs S3 => .ok (y :: xs) S3).to fun xs S2 => .ok (x :: xs) S2
theorem pairs_ok {Dd : Addr} : ∀ {fs : List ((Env → Sto → Rs Mi.D) × (Env → Sto → Rs Mi.D))} {ρ : List Addr} {S : Sto} {H : Hp} {xs : List Mi.D} {S1 : Sto} {Q : List (V × V) → Hp → Prop},
    At (C.put Dd) b ρ S H env σ → dPairs fs env S = .ok xs S1 → (∀ ρ' H' ds vs, Le (C.put Dd) b ρ S H ρ' S1 H' → At (C.put Dd) b ρ' S1 H' env σ → pairUp xs = some ds → Rvv C.KR ρ' (lv (C.put Dd) ρ' S1) H' ds vs → Q vs H') →
    tPairs (fs.map fun p => (tEa C b p.1, tEa C b p.2)) σ H Q
  | [], ρ, S, H, xs, S1, Q, a, e, h => by
    cases e
    exact h ρ H [] [] (Le.refl a.good.bb) a rfl rfl
  | (f, g) :: r, ρ, S, H, xs, S1, Q, a, e, h => by
    obtain ⟨x, S2, e1, e⟩ := to_ok e
    obtain ⟨ys, S3, e2, e⟩ := to_ok e
    cases e
    obtain ⟨y, S4, e3, e2⟩ := to_ok e2
    obtain ⟨zs, S5, e4, e2⟩ := to_ok e2
    cases e2
    refine ⟨Dd :: C.acc, tE_ok a e1 fun ρ1 H1 v le1 a1 r1 => ⟨Dd :: C.acc, tE_ok a1 e3 fun ρ2 H2 u le2 a2 r2 => pairs_ok (Q := fun vs H' => Q ((v, u) :: vs) H') a2 e4 fun ρ3 H3 ds vs le3 a3 ep rv => ?_⟩⟩
    exact h ρ3 H3 ((x, y) :: ds) _ ((le1.trans le2).trans le3) a3 (by simp [pairUp, ep]) ⟨v, u, vs, rfl, Rp.kp (le2.trans le3).kp _ _ r1, Rp.kp le3.kp _ _ r2, rv⟩
theorem keys_of : ∀ {ds : List (Mi.D × Mi.D)} {vs : List (V × V)}, Rvv C.KR ρ l H ds vs → ds.all (fun p => isKey p.1) = true → ∃ kvs : List (Key × V), vs = kvs.map (fun kv => (kV kv.1, kv.2)) ∧ Rpp C.KR ρ l H ds kvs
  | [], vs, h, _ => ⟨[], h, rfl⟩
  | (a, d) :: r, vs, ⟨q, x, t, e, hk, h, h2⟩, ha => by
    simp only [List.all_cons, Bool.and_eq_true] at ha
    obtain ⟨kvs, e1, r1⟩ := keys_of h2 ha.2
    obtain ⟨kq, k1, k2⟩ := isKey_key hk ha.1
    exact ⟨(kq, x) :: kvs, by rw [e, e1, k2]; rfl, kq, x, kvs, rfl, k1, h, r1⟩
theorem merge_ok {K : PySem.W.Frag} : ∀ {ds e : List (Mi.D × Mi.D)} {kvs acc : List (Key × V)}, Rpp K ρ l H ds kvs → Rpp K ρ l H e acc → Rpp K ρ l H (ds.foldl (fun l p => putD p.1 p.2 l) e) (mergeK acc kvs)
  | [], e, kvs, acc, h, h2 => by rw [show kvs = [] from h]; exact h2
  | (a, d) :: r, e, kvs, acc, ⟨q, x, t, e1, hk, h, h3⟩, h2 => by
    subst e1
    show Rpp K ρ l H (r.foldl (fun l p => putD p.1 p.2 l) (putD a d e)) (mergeK (putK acc q x) t)
    exact merge_ok h3 (putD_val h2 hk h)
theorem d_dict0 {m : Bool} : PE X (.Dict [] [] pos) (tE C b W fun env S => newD m (noEx (Rs.ok [] S))) :=
  PE_sub (pe_gh pe_dnewK) fun σ H Q ⟨ρ, S, env, a, o⟩ => fun p hp => by
    have o : Out C b W ρ S H σ (if m then .ok (.ref S.length) (S ++ [.dic []]) else .ok (.dic []) S) (RE C Q) := o
    cases m with
    | true =>
      obtain ⟨le, g⟩ := a.good.named hp (o := .dK []) (u := .dic []) fun le => ⟨[], upd_same, rfl⟩
      exact .fin (o _ _ le g _ ⟨p, by rw [← a.good.len]; simp, rfl⟩)
    | false =>
      refine .lock upd_same trivial fun od => .fin ?_
      rw [upd_upd]
      obtain ⟨le, g⟩ := a.good.anon hp (.frz od (.dK []))
      exact o _ _ le g _ ⟨p, [], od, rfl, a.good.fresh hp, upd_same, rfl⟩
theorem d_dict {m : Bool} {fs : List ((Env → Sto → Rs Mi.D) × (Env → Sto → Rs Mi.D))} (h : PE X p (tDisp (fs.map fun p => (tEa C b p.1, tEa C b p.2)))) : PE X p (tE C b W fun env S => newD m (noEx (dPairs fs env S))) :=
  PE_sub (pe_gh h) fun σ H Q ⟨ρ, S, env, a, o⟩ => fun p hp => by
    dsimp only [newD] at o
    cases er : noEx (dPairs fs env S) with
    | no => rw [er] at o; exact o.elim
    | ex x S' => cases hq : dPairs fs env S <;> (rw [hq] at er; cases er)
    | ok xs SE =>
      rw [er] at o
      have er := noEx_ok er
      have hC : p ∉ C.acc := fun z => by
        obtain ⟨u, e⟩ := (a.good.accH p z).1
        rw [hp] at e; cases e
      obtain ⟨g', kp⟩ := a.good.enter hp (.dK [])
      refine pairs_ok ⟨g', a.env.kp kp⟩ er fun ρ1 H1 ds vs le1 a1 ep rv => ?_
      simp only [Rs.to, ep] at o
      split at o
      · rename_i hz
        obtain ⟨kvs, ek, rk⟩ := keys_of rv hz.2
        have hl : ds.length = kvs.length := kvs_length _ _ rk
        refine ⟨le1.accK p (List.mem_cons_self ..) _ upd_same, kvs, ek, by rw [← hl]; exact hz.1, ?_⟩
        have le0 : ∀ u : HO, Le C b ρ S H ρ1 SE (upd H1 p u) := fun u => (((Le.refl a.good.bb).grow hp hC _).inner hp le1).grow hp hC _
        have rm : ∀ u : HO, Rpp C.KR ρ1 (lv (C.put p) ρ1 SE) (upd H1 p u) (mergeD ds) (mergeK [] kvs) := fun u => Rpp.kp (a1.good.grow u).2 _ _ (merge_ok rk rfl)
        cases m with
        | true =>
          have g2 := (a1.good.grow (.dK (mergeK [] kvs))).1
          obtain ⟨g3, kp3⟩ := g2.leaveN hC (u := .dic (mergeD ds)) fun kp => ⟨_, upd_same, Rpp.kp kp _ _ (rm _)⟩
          exact .fin (o _ _ ((le0 _).named g2.len g2.bb hp _) g3 _ ⟨p, by rw [← g2.len]; simp, rfl⟩)
        | false =>
          refine .lock upd_same trivial fun od => .fin ?_
          rw [upd_upd]
          have g2 := (a1.good.grow (.frz od (.dK (mergeK [] kvs)))).1
          exact o _ _ (le0 _) g2.leave _ ⟨p, _, od, rfl, fun z => z.elim (g2.accH p (List.mem_cons_self ..)).2 hC, upd_same, Rpp.kp leave_kp _ _ (rm _)⟩
      · exact o.elim
theorem d_dct (hK : True) : PE X (.Dict [] [] pos) (tE C b W fun env S => .ok (.ref S.length) (S ++ [.dct []])) :=
  PE_sub pe_dnewT fun σ H Q ⟨ρ, S, env, a, o⟩ => fun p hp => by
    have o : Out C b W ρ S H σ (Rs.ok (.ref S.length) (S ++ [.dct []])) (RE C Q) := o
    obtain ⟨le, g⟩ := a.good.named hp (o := .dT []) (u := .dct []) fun le => ⟨hK, [], upd_same, rfl⟩
    exact o _ _ le g _ ⟨p, by rw [← a.good.len]; simp, rfl⟩
/-! ### d.get(k), d.get(k, x) -/
/-- what d.get gives -/
theorem get_ok {d k x : Mi.D} {vd vk vx : V} {r : Mi.D} {S1 : Sto} (g : Good C b ρ S H) (rd : Rp C.KR ρ (lv C ρ S) H d vd) (rk : Rp C.KR ρ (lv C ρ S) H k vk) (rx : Rp C.KR ρ (lv C ρ S) H x vx) (e : pGet S d k x = .ok r S1) :
    S1 = S ∧ ∃ a o, vd = .ref a ∧ DGet H a vk o ∧ Rp C.KR ρ (lv C ρ S) H r (o.getD vx) := by
  have dk : ∀ {a : Addr} {xs : List (Key × V)} {l : List (Mi.D × Mi.D)}, vd = .ref a → Rd H a (.dK xs) → Rpp C.KR ρ (lv C ρ S) H l xs → (if isKey k then Rs.ok ((getD k l).getD x) S else .no) = .ok r S1 → S1 = S ∧ ∃ a o, vd = .ref a ∧ DGet H a vk o ∧ Rp C.KR ρ (lv C ρ S) H r (o.getD vx) := fun {a xs l} ea h1 h2 e => by
    split at e
    · rename_i hk
      cases e
      obtain ⟨kq, k1, rfl⟩ := isKey_key rk hk
      refine ⟨rfl, a, _, ea, .inl ⟨_, _, h1, rfl, rfl⟩, ?_⟩
      have hg := getD_val h2 k1
      cases q : getD k l with
      | none => rw [q] at hg; rw [hg]; exact rx
      | some y =>
        rw [q] at hg
        obtain ⟨w, h3, h4⟩ := hg
        rw [h3]; exact h4
    · cases e
  cases d with
  | dic l =>
    obtain ⟨a, xs, od, ea, n, h1, h2⟩ := rd
    exact dk ea (.inr ⟨od, h1⟩) h2 e
  | ref n =>
    unfold pGet at e
    simp only at e
    cases es : S[n]? with
    | none => rw [es] at e; cases e
    | some w =>
      rw [es] at e
      cases w with
      | dic l =>
        obtain ⟨a, xs, ea, er, h1, h2⟩ := the_dic g rd es
        exact dk ea (.inl h1) h2 e
      | dct l =>
        simp only at e
        split at e
        · rename_i hk
          cases e
          obtain ⟨a, xs, ea, er, hK, h1, h2⟩ := the_dct g rd es
          obtain ⟨kb, kq, rfl, hb, k1⟩ := key_tup hK rk hk
          refine ⟨rfl, a, _, ea, DGet.t h1 hb, ?_⟩
          have hg := getT_val k1 h2
          cases q : getT k l with
          | none => rw [q] at hg; rw [hg]; exact rx
          | some y =>
            rw [q] at hg
            obtain ⟨w, h3, h4⟩ := hg
            rw [h3]; exact h4
        · cases e
      | _ => cases e
  | _ => cases e
theorem isDic_ok {d : Mi.D} {vd : V} (g : Good C b ρ S H) (rd : Rp C.KR ρ (lv C ρ S) H d vd) (e : isDic S d = true) : ∃ a, vd = .ref a ∧ IsD H a := by
  cases d with
  | dic l => obtain ⟨a, xs, od, ea, n, h1, h2⟩ := rd; exact ⟨a, ea, .inl ⟨_, .inr ⟨od, h1⟩⟩⟩
  | ref n =>
    unfold isDic at e
    simp only at e
    cases es : S[n]? with
    | none => rw [es] at e; cases e
    | some w =>
      rw [es] at e
      cases w with
      | dic l => obtain ⟨a, xs, ea, er, h1, h2⟩ := the_dic g rd es; exact ⟨a, ea, .inl ⟨_, .inl h1⟩⟩
      | dct l => obtain ⟨a, xs, ea, er, hK, h1, h2⟩ := the_dct g rd es; exact ⟨a, ea, .inr ⟨_, .inl h1⟩⟩
      | _ => cases e
  | _ => cases e
theorem d_get2 {apos : Pos} {m : M2 X p "get" apos q r pos} (hu : X.A.units + 1 < cLine) (ha : PE X p (tE C b W fa)) (hb : PE X q (tE C b W fb)) (hc : PE X r (tE C b W fc)) :
    PE X (.Call (.Attribute p "get" apos) [q, r] [] pos) (tE C b W fun env S => (fa env S).to fun x S1 => if isDic S1 x = true then ((fb env S1).to fun y S2 => (fc env S2).to fun z S3 => Rs.ok [y, z] S3).to fun xs S2 => pGets S2 x xs else .no) :=
  PE_sub (pe_dget2 hu ha hb hc m) fun σ H Q ⟨ρ, S, env, a, o⟩ => tE_of a o.bind fun x S1 ρ1 H1 v le a1 rv o1 => by
    split at o1
    · rename_i hd
      obtain ⟨ad, rfl, isd⟩ := isDic_ok a1.good rv hd
      refine ⟨ad, rfl, isd, ?_⟩
      refine tE_of a1 o1.bind.bind fun y S2 ρ2 H2 vy le2 a2 ry o2 => ?_
      refine tE_of a2 o2.bind fun z S3 ρ3 H3 vz le3 a3 rz o3 => ?_
      have o3 : Out C b W ρ3 S3 H3 σ (pGet S3 x y z) (RE C Q) := o3 ρ3 H3 (Le.refl a3.good.bb) a3.good
      have rx := Rp.kp (le2.trans le3).kp _ _ rv
      have ry := Rp.kp le3.kp _ _ ry
      cases e : pGet S3 x y z with
      | no => rw [e] at o3; exact o3.elim
      | ex _ _ =>
        exfalso
        unfold pGet at e
        split at e <;> (try split at e) <;> (try split at e) <;> cases e
      | ok r SE =>
        obtain ⟨rfl, a', ov, ea, dg, rr⟩ := get_ok a3.good rx ry rz e
        cases ea
        rw [e] at o3
        exact ⟨ov, dg, o3 ρ3 H3 (Le.refl a3.good.bb) a3.good _ rr⟩
    · exact o1.elim
theorem d_get1 {apos : Pos} {m : M1 X p "get" apos q pos} (hu : X.A.units + 1 < cLine) (ha : PE X p (tE C b W fa)) (hb : PE X q (tE C b W fb)) :
    PE X (.Call (.Attribute p "get" apos) [q] [] pos) (tE C b W fun env S => (fa env S).to fun x S1 => if isDic S1 x = true then ((fb env S1).to fun y S2 => Rs.ok [y] S2).to fun xs S2 => pGets S2 x xs else .no) :=
  PE_sub (pe_dget1 hu ha hb m) fun σ H Q ⟨ρ, S, env, a, o⟩ => tE_of a o.bind fun x S1 ρ1 H1 v le a1 rv o1 => by
    split at o1
    · rename_i hd
      obtain ⟨ad, rfl, isd⟩ := isDic_ok a1.good rv hd
      refine ⟨ad, rfl, isd, ?_⟩
      refine tE_of a1 o1.bind.bind fun y S3 ρ3 H3 vy le3 a3 ry o3 => ?_
      have o3 : Out C b W ρ3 S3 H3 σ (pGet S3 x y .non) (RE C Q) := o3 ρ3 H3 (Le.refl a3.good.bb) a3.good
      have rx := Rp.kp le3.kp _ _ rv
      cases e : pGet S3 x y .non with
      | no => rw [e] at o3; exact o3.elim
      | ex _ _ =>
        exfalso
        unfold pGet at e
        split at e <;> (try split at e) <;> (try split at e) <;> cases e
      | ok r SE =>
        obtain ⟨rfl, a', ov, ea, dg, rr⟩ := get_ok a3.good rx ry (x := .non) rfl e
        cases ea
        rw [e] at o3
        exact ⟨ov, dg, o3 ρ3 H3 (Le.refl a3.good.bb) a3.good _ rr⟩
    · exact o1.elim
/-! ### name op= e -/
theorem d_aug {i : Nat} {op : BOp} {st : Stmt} {f : Int → Int → Int} (h : PS X st (tAug i (tE C b W fa) (ipI f))) (hf : ∀ x y z, binop op (.int x) (.int y) = some z → z = .int (f x y)) :
    PS X st (tS C b W fun env S => match getV env i with
      | some x => ofE env (fa env S) fun y S1 => match x, y with
        | .int _, .int _ => match binop op x y with
          | some z => .nx (env.set i (some z)) S1
          | none => .no
        | _, _ => .no
      | none => .no) :=
  PS_sub h fun N σ H ⟨ρ, S, env, a, o⟩ => by
    dsimp only at o
    cases ev : getV env i with
    | none => rw [ev] at o; exact o.elim
    | some x =>
      rw [ev] at o
      have hd : env[i]? = some (some x) := by
        unfold getV at ev
        split at ev
        · rename_i e2; cases ev; exact e2
        · cases ev
      obtain ⟨v, h1, h2⟩ := a.env.2 i x hd
      refine ⟨v, h1, tE_of a (ofE_out a o) fun y S1 ρ1 H1 u le1 a1 r o1 => ?_⟩
      cases x with
      | int x =>
        cases y with
        | int y =>
          simp only at o1
          cases eb : binop op (.int x) (.int y) with
          | none => rw [eb] at o1; exact o1.elim
          | some z =>
            rw [eb] at o1
            have := hf x y z eb
            subst this
            exact ⟨x, y, h2, r, o1 ρ1 H1 _ (Le.refl a1.good.bb) ⟨a1.good, a1.env.set (show Rp C.KR ρ1 _ H1 (.int (f x y)) (.int (f x y)) from rfl) i⟩⟩
        | _ => exact o1.elim
      | _ => exact o1.elim
/-! ### objects -/
theorem ins_of (g : Good C b ρ S H) {n k : Nat} {fs : List (Nat × Mi.D)} {v : V} (r : Rp C.KR ρ (lv C ρ S) H (.ref n) v) (e : S[n]? = some (.ins k fs)) : ∃ a A dx fv, v = .ref a ∧ ρ[n]? = some a ∧ H a = some (.ins A dx fv) ∧ C.cls k = some A ∧ fieldR C ρ (lv C ρ S) H fs fv := by
  obtain ⟨a, er, rfl⟩ := r
  obtain ⟨A, dx, fv, h1, h2, h3⟩ := g.obj n _ a e er
  exact ⟨a, A, dx, fv, rfl, er, h1, h2, h3⟩
theorem field_get (hi : ∀ f g, C.att f = C.att g → f = g) {f : Nat} {d : Mi.D} : ∀ {fs : List (Nat × Mi.D)} {fv : List (Str × V)}, fieldR C ρ l H fs fv → fs.lookup f = some d → ∃ v, fv.lookup (C.att f) = some v ∧ Rp C.KR ρ l H d v
  | [], _, _, e => by cases e
  | (g, w) :: r, fv, ⟨x, t, e1, h, h2⟩, e => by
    subst e1
    rw [List.lookup_cons] at e ⊢
    by_cases z : f = g
    · subst z
      simp only [beq_self_eq_true] at e ⊢
      cases e
      exact ⟨x, rfl, h⟩
    · have z2 : (C.att f == C.att g) = false := beq_eq_false_iff_ne.mpr fun y => z (hi _ _ y)
      have z3 : (f == g) = false := beq_eq_false_iff_ne.mpr z
      simp only [z3] at e
      simp only [z2]
      exact field_get hi h2 e
theorem field_put (hi : ∀ f g, C.att f = C.att g → f = g) {f : Nat} {d : Mi.D} {v : V} (r : Rp C.KR ρ l H d v) : ∀ {fs : List (Nat × Mi.D)} {fv : List (Str × V)}, fieldR C ρ l H fs fv → fieldR C ρ l H (assocPut f d fs) (putF (C.att f) v fv)
  | [], fv, h => by rw [show fv = [] from h]; exact ⟨v, [], rfl, r, rfl⟩
  | (g, w) :: t, fv, ⟨x, t', e1, h, h2⟩ => by
    subst e1
    unfold assocPut
    rw [show putF (C.att f) v ((C.att g, x) :: t') = (if C.att g = C.att f then (C.att g, v) :: t' else (C.att g, x) :: putF (C.att f) v t') from rfl]
    by_cases z : g = f
    · subst z
      simp only [if_true]
      exact ⟨v, t', rfl, r, h2⟩
    · have z2 : ¬ C.att g = C.att f := fun y => z (hi _ _ y)
      simp only [z, z2, if_false]
      exact ⟨x, _, rfl, h, field_put hi r h2⟩
theorem field_none {m : Str} (hm : ∀ f, C.att f ≠ m) : ∀ {fs : List (Nat × Mi.D)} {fv : List (Str × V)}, fieldR C ρ l H fs fv → fv.lookup m = none
  | [], fv, h => by rw [show fv = [] from h]; rfl
  | (g, w) :: t, fv, ⟨x, t', e1, h, h2⟩ => by
    subst e1
    rw [List.lookup_cons]
    have : (m == C.att g) = false := beq_eq_false_iff_ne.mpr fun y => hm g y.symm
    simp only [this]
    exact field_none hm h2
theorem field_len : ∀ {fs : List (Nat × Mi.D)} {fv : List (Str × V)}, fieldR C ρ l H fs fv → fs.length = fv.length
  | [], fv, h => by rw [show fv = [] from h]; rfl
  | (g, w) :: t, fv, ⟨x, t', e1, h, h2⟩ => by rw [e1, List.length_cons, List.length_cons, field_len h2]
theorem fldLt_put {m f : Nat} {d : Mi.D} (hd : d.lt m = true) : ∀ {fs : List (Nat × Mi.D)}, fldLt m fs = true → fldLt m (assocPut f d fs) = true
  | [], _ => by simp [assocPut, fldLt, hd]
  | (g, w) :: t, h => by
    simp only [fldLt, Bool.and_eq_true] at h
    unfold assocPut
    split
    · simp [fldLt, hd, h.2]
    · simp [fldLt, h.1, fldLt_put hd h.2]
theorem d_att {f : Nat} (hX : X.K = C.K) (hi : ∀ f g, C.att f = C.att g → f = g) (hc : ∀ c A, C.cls c = some A → Cls C.K A ∧ NoAttr C.K A (C.att f)) (ha : PE X p (tE C b W fa)) (hb : notSuper p = true) :
    PE X (.Attribute p (C.att f) pos) (tE C b W fun env S => (fa env S).to fun x S1 => rets (attGet S1 x f) S1) :=
  PE_sub (pe_fld ha (base_of hb)) fun σ H Q ⟨ρ, S, env, a, o⟩ => tE_of a (Out.bind o) fun x S1 ρ1 H1 v le1 a1 r1 o1 => by
    obtain ⟨d, e, q⟩ := out_rets o1
    unfold attGet at e
    cases x with
    | ref n =>
      simp only at e
      cases es : S1[n]? with
      | none => rw [es] at e; cases e
      | some w =>
        rw [es] at e
        cases w with
        | ins k fs =>
          obtain ⟨a', A, dx, fv, rfl, er, h1, h2, h3⟩ := ins_of a1.good r1 es
          obtain ⟨u, h4, h5⟩ := field_get hi h3 e
          obtain ⟨c1, c2⟩ := hc k A h2
          exact ⟨a', A, dx, fv, u, rfl, h1, hX ▸ c1, hX ▸ c2, h4, fin_here a1.good q h5⟩
        | _ => cases e
    | _ => cases e
theorem d_asgAtt {f : Nat} {q : Expr} {pos' : Pos} (hX : X.K = C.K) (hi : ∀ f g, C.att f = C.att g → f = g) (hc : ∀ c A, C.cls c = some A → Cls C.K A ∧ NoAttr C.K A (C.att f)) (he : PE X q (tE C b W fa)) (ho : PE X p (tE C b W0 fb)) (hs : swapsWith q (some (.Attribute p (C.att f) pos')) pos.line X.env = pure false) :
    PS X (.Assign [.Attribute p (C.att f) pos'] q pos) (tS C b W fun env S => ofE env (fa env S) fun d S1 => ofT ((fb env S1).to fun x S2 => match attSet b S2 x f d with
      | some S3 => .ok env S3
      | none => .no) .nx) :=
  PS_sub (ps_fld ho he hs) fun N σ H ⟨ρ, S, env, a, o⟩ => tE_of a (ofE_out a o) fun d S1 ρ1 H1 v le1 a1 r1 o1 => by
    cases eb : fb env S1 with
    | no => rw [eb] at o1; exact o1.elim
    | ex x S2 => rw [eb] at o1; exact o1.elim
    | ok x S2 =>
      rw [eb] at o1
      refine tE_ok a1 eb fun ρ2 H2 u le2 a2 r2 => ?_
      simp only [Rs.to] at o1
      cases es : attSet b S2 x f d with
      | none => rw [es] at o1; exact o1.elim
      | some S3 =>
        rw [es] at o1
        unfold attSet at es
        cases x with
        | ref n =>
          simp only at es
          cases en : S2[n]? with
          | none => rw [en] at es; cases es
          | some w =>
            rw [en] at es
            cases w with
            | ins k fs =>
              simp only at es
              split at es
              · rename_i hz
                cases es
                obtain ⟨a', A, dx, fv, rfl, er, h1, h2, h3⟩ := ins_of a2.good r2 en
                obtain ⟨c1, c2⟩ := hc k A h2
                have rd := Rp.kp le2.kp _ _ r1
                obtain ⟨le3, g3⟩ := a2.good.write (u := .ins k (assocPut f d fs)) (ho := .ins A dx (putF (C.att f) v fv)) en er ⟨rfl, by intro z; cases z⟩ (fun hn m hm => by
                  have hpu : d.pure = true := hz.2.resolve_left (by omega)
                  exact fldLt_put (pure_lt m d hpu) hm) fun le => ⟨A, dx, _, upd_same, h2, field_put hi (Rp.kp le.kp _ _ rd) (fieldR.kp le.kp _ _ h3)⟩
                exact ⟨a', A, dx, fv, rfl, h1, hX ▸ c1, hX ▸ c2, by rw [← field_len h3]; exact hz.1, o1 ρ2 _ σ (le2.trans le3) ⟨g3, a2.env.kp le3.kp⟩⟩
              · cases es
            | _ => cases es
        | _ => cases es
end
end Mi

namespace Mi
open PySem L2 PySem.Spec PyProof.Rows

/-! ## Part 13: the program's own defs -/
/-- a def of the text -/
structure FnI where
  addr : Addr
  name : Str
  qual : Str
  st : Stmt
  fd : FuncData
  N : List Str
  ps : List Str
/-- a program's form of mine, its names -/
structure SG where
  pg : Prog
  nm : Nms
  att : Nat → Str
  nAtt : Nat
  kw : Nat → Nat → List Str → List Nat → Bool
  bl : List Str
/-- a program: its text's places -/
structure GC extends SG where
  P : Program
  w : World
  K : PySem.W.Frag
  mg : Str → Option Value
  base : Heap
  cls : Nat → Option Addr
  xf : Nat → List Nat
  fi : Nat → FnI
abbrev GC.KR (G : GC) : PySem.W.Frag := G.K
theorem GC.sub (G : GC) : ∀ a o, G.KR.lookup a = some o → G.K.lookup a = some o := fun a o h => h
abbrev GC.C (G : GC) (A : List Addr) : Cxt := ⟨G.K, G.KR, G.sub, G.cls, G.att, G.xf, A⟩
def lev (n : Nat) : Nat := 2 * n
/-- what a def promises: what the interpreter says -/
def spF (G : GC) (n f : Nat) : Sp := fun vs H Q E => ∃ A b ρ S ds, vs.length = (G.fi f).ps.length ∧ Good (G.C A) b ρ S H ∧ Rps G.KR ρ (lv (G.C A) ρ S) H ds vs ∧ Out (G.C A) b (fun u d _ H => E u d H) ρ S H [] (callN G.pg n f ds b S) (RE (G.C A) Q)
def FnsOk (G : GC) (n : Nat) : Prop := ∀ f fd, G.pg.fd f = some fd → FnOk G.P G.w G.K G.mg G.base (L2.CX G.P G.w) (lev n) (G.fi f).addr (G.fi f).fd (G.fi f).ps (spF G n f)
structure Text (G : GC) : Prop where
  fn : ∀ f fd, G.pg.fd f = some fd → Fun G.K (G.fi f).name (G.fi f).qual (G.fi f).st (G.fi f).addr (G.fi f).fd ∧ Binds G.K (G.fi f).fd (G.fi f).ps [] ∧ (G.fi f).ps.length = fd.np
  kws : ∀ f fd, G.pg.fd f = some fd → ∀ n ks perm, G.kw f n ks perm = true → perm.length = fd.np ∧ ∀ (s : Shared) (us ws : List Value), us.length = n → ws.length = ks.length → BindsTo s (G.fi f).fd ⟨us, ks.zip ws⟩ ((G.fi f).ps.zip (pick perm .none (us ++ ws)))
  gl : ∀ x d, G.pg.gl x = some d → ∃ u v, G.mg (G.nm.gl x) = some u ∧ RelV v u ∧ ∀ ρ l H, Rp G.KR ρ l H d v
  cl : ∀ c A, G.cls c = some A → Cls G.K A
  na : ∀ c A f, G.cls c = some A → f < G.nAtt → NoAttr G.K A (G.att f)
  attI : ∀ f g, G.att f = G.att g → f = g
  attN : ∀ f m, G.att f ≠ G.nm.mth m
  mth : ∀ c m f, G.pg.mth c m = some f → ∃ fd, G.pg.fd f = some fd
  meth : ∀ c m f A, G.pg.mth c (m + 1) = some f → G.cls c = some A → Meth G.K A (G.nm.mth (m + 1)) (G.fi f).addr
  init : ∀ c f, G.pg.mth c 0 = some f → ∃ A, G.cls c = some A ∧ Mk G.K A (G.fi f).addr ∧ G.mg (G.nm.cls c) = some (.ref A)
  free : ∀ x ∈ G.bl, G.mg x = none
  /-- the defs that are called by name -/
  top : ∀ f fd, G.pg.fd f = some fd → G.nm.fn f ≠ "" → G.mg (G.nm.fn f) = some (.ref (G.fi f).addr)

structure XOk (G : GC) (n : Nat) (X : Cx) (sc : Sc) : Prop where
  prog : X.prog = G.P
  w : X.w = G.w
  K : X.K = G.K
  mg : X.mg = G.mg
  base : X.base = G.base
  calm : X.calm = true
  room : Room (lev n + 1) X.A
  nd : X.N.Nodup
  N : X.N = sc.N
  scp : X.env.scope = sc.sc
  st : X.fn = sc.st
  kind : sc.sc.kind = .function
section
variable {G : GC} {n : Nat} {X : Cx} {sc : Sc} {A : List Addr} {b : Nat} {W : WX} {p q : Expr} {ps : List Expr} {pos pp apos : Pos} {fa : Env → Sto → Rs D} {fs : Env → Sto → Rs (List D)} {x : Str}
theorem XOk.hu (h : XOk G n X sc) : X.A.units + 65 < cLine := by
  have := h.room.un
  omega
theorem XOk.fn (h : XOk G n X sc) (F : FnsOk G n) {f : Nat} {fd : FD} (e : G.pg.fd f = some fd) : FnOk X.prog X.w X.K X.mg X.base (L2.CX X.prog X.w) (lev n) (G.fi f).addr (G.fi f).fd (G.fi f).ps (spF G n f) := by
  rw [h.prog, h.w, h.K, h.mg, h.base]
  exact F f fd e
variable {pins : List (Addr × Obj)} {σ : L2.St} {H : Hp} {s : Shared} {Q : VK} {us ws u0 : List Value} {vs : List V} {kw : List (Str × Value)}
/-- a call of one of them, the arguments bound -/
theorem run_call (h : XOk G n X sc) (F : FnsOk G n) (tk : Takes X W) {f : Nat} {fd : FD} (e : G.pg.fd f = some fd) (I : Inv X pins σ H s) (hb : BindsTo s (G.fi f).fd ⟨u0, kw⟩ ((G.fi f).ps.zip us)) (r : Vals vs us) (hs : spF G n f vs H Q (WE W σ)) :
    wpAny (model X.prog X.w) X.A (call (.ref (G.fi f).addr) u0 kw) (EP X pins σ Q) X.xe s := by
  have K := (h.fn F e).run X.A X.stack s H ⟨u0, kw⟩ us vs Q (WE W σ) (h.room.mono (Nat.le_succ _)) I.env0 hb r hs
  refine wpAny_call (codeAny_mono K fun r s' hq => ?_)
  match r, hq with
  | .error e, hq => exact passAt tk σ pins H s e s' I hq
  | .ok (.ret u), hq => exact I.after hq
  | .ok .next, hq => exact False.elim hq
  | .ok .brk, hq => exact False.elim hq
  | .ok .cont, hq => exact False.elim hq
/-- the promise, from what the interpreter says at the arguments -/
theorem sp_of {f : Nat} {ρ : List Addr} {S : Sto} {ds : List D} (hl : vs.length = (G.fi f).ps.length) (g : Good (G.C A) b ρ S H) (r : Rps G.KR ρ (lv (G.C A) ρ S) H ds vs) (o : Out (G.C A) b W ρ S H σ (callN G.pg n f ds b S) (RE (G.C A) Q)) : spF G n f vs H Q (WE W σ) :=
  ⟨A, b, ρ, S, ds, hl, g, r, by
    cases e : callN G.pg n f ds b S with
    | ok d S' => rw [e] at o; exact o
    | ex x S' => rw [e] at o; exact o
    | no => rw [e] at o; exact o⟩
theorem callN_len {f : Nat} {fd : FD} {ds : List D} {S : Sto} (e : G.pg.fd f = some fd) (h : callN G.pg n f ds b S ≠ .no) : ds.length = fd.np := by
  cases n with
  | zero => exact absurd rfl h
  | succ n =>
    unfold callN at h
    rw [e] at h
    dsimp only at h
    by_cases z : ds.length = fd.np
    · exact z
    · rw [if_neg z] at h; exact absurd rfl h
theorem callN_fd {f : Nat} {ds : List D} {S : Sto} (h : callN G.pg n f ds b S ≠ .no) : ∃ fd, G.pg.fd f = some fd := by
  cases n with
  | zero => exact absurd rfl h
  | succ n =>
    unfold callN at h
    cases e : G.pg.fd f with
    | some fd => exact ⟨fd, rfl⟩
    | none => rw [e] at h; exact absurd rfl h
theorem out_no {α : Type} {C : Cxt} {ρ : List Addr} {S : Sto} {r : Rs α} {R : α → Sto → List Addr → Hp → Prop} (o : Out C b W ρ S H σ r R) : r ≠ .no := fun z => by rw [z] at o; exact o
abbrev cxN (G : GC) (n b : Nat) : Ctx := ⟨callN G.pg n, G.pg.mth, G.pg.gl, b, G.pg.fuel⟩
/-- what is wanted of a call: the arguments lie there, the interpreter answers -/
def Ask (G : GC) (n f : Nat) (A : List Addr) (b : Nat) (W : WX) (env : Env) (σ : L2.St) (Q : VK) (vs : List V) (H : Hp) : Prop :=
  ∃ xs S ρ, At (G.C A) b ρ S H env σ ∧ Rps G.KR ρ (lv (G.C A) ρ S) H xs vs ∧ Out (G.C A) b W ρ S H σ (callN G.pg n f xs b S) (RE (G.C A) Q)
theorem Ask.len {f : Nat} {fd : FD} {env : Env} (T : Text G) (e : G.pg.fd f = some fd) (h : Ask G n f A b W env σ Q vs H) : vs.length = (G.fi f).ps.length := by
  obtain ⟨xs, S, ρ, a, r, o⟩ := h
  rw [← r.length, callN_len e (out_no o), (T.fn f fd e).2.2]
theorem Ask.sp {f : Nat} {fd : FD} {env : Env} (T : Text G) (e : G.pg.fd f = some fd) (h : Ask G n f A b W env σ Q vs H) : spF G n f vs H Q (WE W σ) := by
  have hl := h.len T e
  obtain ⟨xs, S, ρ, a, r, o⟩ := h
  exact sp_of hl a.good r o
theorem run_ask (T : Text G) (h : XOk G n X sc) (F : FnsOk G n) (tk : Takes X W) {f : Nat} {fd : FD} {env : Env} (e : G.pg.fd f = some fd) (I : Inv X pins σ H s) (r : Vals vs us) (q : Ask G n f A b W env σ Q vs H) :
    wpAny (model X.prog X.w) X.A (call (.ref (G.fi f).addr) us []) (EP X pins σ Q) X.xe s := by
  obtain ⟨tf, tb, tl⟩ := T.fn f fd e
  have bt := tb s us (by have := I.kIn; rw [h.K] at this; exact this) (by rw [List.append_nil, ← r.length]; exact q.len T e)
  rw [List.append_nil] at bt
  exact run_call h F tk e I bt r (q.sp T e)
theorem ask_of {f : Nat} {env : Env} {ρ : List Addr} {S : Sto} (a : At (G.C A) b ρ S H env σ) (o : Out (G.C A) b W ρ S H σ ((fs env S).to fun xs S1 => callN G.pg n f xs b S1) (RE (G.C A) Q)) : tA (G.C A) b W fs σ H (Ask G n f A b W env σ Q) :=
  tA_of a o.bind fun xs S1 ρ1 H1 vs le a1 rx o1 => ⟨xs, S1, ρ1, a1, rx, o1⟩
/-- f() -/
theorem d_call0 (T : Text G) (h : XOk G n X sc) (F : FnsOk G n) (tk : Takes X W) {f : Nat} {fd : FD} (e : G.pg.fd f = some fd) (hx : G.nm.fn f ≠ "") (hg : Gl X (G.nm.fn f)) (hdb : (G.nm.fn f == ("__debug__" : Str)) = false) :
    PE X (.Call (.Name (G.nm.fn f) pp) [] [] pos) (tE (G.C A) b W fun env S => (Rs.ok [] S).to fun xs S1 => callN G.pg n f xs b S1) := by
  have hm := T.top f fd e hx
  refine ⟨fun pins s σ H Q I ⟨ρ, S, env, a, o⟩ => wpAny_Call_Name_kw (ld_glob I hg (by rw [h.mg]; exact hm) ?_ hdb)⟩
  exact PySem.W.callWith_K0 I.kIn (by rw [h.K]; exact (T.fn f fd e).1.kp) (run_ask (us := []) (vs := []) T h F tk e I .nil ⟨[], S, ρ, a, rfl, o⟩)
/-- f(e, ..) -/
theorem d_call (T : Text G) (h : XOk G n X sc) (F : FnsOk G n) (tk : Takes X W) {f : Nat} {fd : FD} (e : G.pg.fd f = some fd) (hx : G.nm.fn f ≠ "") (hg : Gl X (G.nm.fn f)) (hdb : (G.nm.fn f == ("__debug__" : Str)) = false) (hs : (p :: ps).all notStar = true) (ha : PA X (p :: ps) (tA (G.C A) b W fs)) :
    PE X (.Call (.Name (G.nm.fn f) pp) (p :: ps) [] pos) (tE (G.C A) b W fun env S => (fs env S).to fun xs S1 => callN G.pg n f xs b S1) := by
  have hm := T.top f fd e hx
  simp only [List.all_cons, Bool.and_eq_true] at hs
  refine ⟨fun pins s σ H Q I ⟨ρ, S, env, a, o⟩ => wpAny_Call_Name_kw (ld_glob I hg (by rw [h.mg]; exact hm) ?_ hdb)⟩
  exact PySem.W.callWith_K (h₀ := X.base) I.ok.mod.kin (by rw [h.K]; exact (T.fn f fd e).1.kp) (thn (ha.run pos pins s σ H _ I (ask_of a o)) fun us s1 ⟨vs, H1, I1, r, q⟩ => ⟨I1.kIn, run_ask T h F tk e I1 r q⟩) (star_cons hs.1) (star_any hs.2)
/-! ### keywords -/
theorem Rps.getD {K : PySem.W.Frag} {ρ : List Addr} {l : Addr → Prop} : ∀ {ds : List D} {xs : List V} (i : Nat), Rps K ρ l H ds xs → Rp K ρ l H (ds.getD i .non) (xs.getD i .non)
  | [], xs, i, h => by rw [show xs = [] from h]; simp [Rp]
  | d :: r, xs, 0, ⟨x, t, e, h, h2⟩ => by subst e; exact h
  | d :: r, xs, i + 1, ⟨x, t, e, h, h2⟩ => by subst e; simpa using Rps.getD i h2
theorem Rps.pick {K : PySem.W.Frag} {ρ : List Addr} {l : Addr → Prop} {ds : List D} {xs : List V} (h : Rps K ρ l H ds xs) : ∀ perm : List Nat, Rps K ρ l H (pick perm .non ds) (pick perm .non xs)
  | [] => rfl
  | i :: r => ⟨_, _, rfl, h.getD i, Rps.pick h r⟩
theorem vals_getD : ∀ {vs : List V} {us : List Value} (i : Nat), Vals vs us → L2.RelV (vs.getD i .non) (us.getD i .none)
  | _, _, i, .nil => (rfl : Value.none = Value.none)
  | _, _, 0, .cons r _ => r
  | _, _, i + 1, .cons _ r => by simpa using vals_getD i r
theorem vals_pick {vs : List V} {us : List Value} (h : Vals vs us) : ∀ perm : List Nat, Vals (pick perm .non vs) (pick perm .none us)
  | [] => .nil
  | i :: r => .cons (vals_getD i h) (vals_pick h r)
/-- the keywords' names and values, as they are written -/
def kwNames : List Keyword → Option (List Str)
  | [] => some []
  | ⟨some x, _, _⟩ :: r => (kwNames r).map (x :: ·)
  | _ => none
theorem kw_facts {env : PySem.Env} : ∀ {kws : List Keyword} {ks : List Str}, kwNames kws = some ks → (backToKw pos (keywordEach kws env)).all (·.1.isSome) = true ∧ (backToKw pos (keywordEach kws env)).filterMap (·.1) = ks ∧ (backToKw pos (keywordEach kws env)).any (·.1.isNone) = false ∧ ks.length = kws.length
  | [], ks, h => by cases h; exact ⟨rfl, rfl, rfl, rfl⟩
  | ⟨some x, v, kp⟩ :: r, ks, h => by
    unfold kwNames at h
    obtain ⟨k2, e, rfl⟩ := Option.map_eq_some_iff.mp h
    obtain ⟨h1, h2, h3, h4⟩ := kw_facts (env := env) e
    refine ⟨?_, ?_, ?_, by simp [h4]⟩
    · show (true && (backToKw pos (keywordEach r env)).all (·.1.isSome)) = true
      rw [h1]; rfl
    · show x :: (backToKw pos (keywordEach r env)).filterMap (·.1) = _
      rw [h2]
    · show (false || (backToKw pos (keywordEach r env)).any (·.1.isNone)) = false
      rw [h3]; rfl
  | ⟨none, v, kp⟩ :: r, ks, h => by cases h
theorem PK_sub {kws : List Keyword} {t t' : TA} (h : PK X kws t) (i : ∀ σ H Q, t' σ H Q → t σ H Q) : PK X kws t' := ⟨fun pos pins s σ H Q I w => h.run pos pins s σ H Q I (i σ H Q w)⟩
theorem d_kNil : PK X [] (tA (G.C A) b W fun _ S => .ok [] S) :=
  PK_sub pk_nil fun σ H Q ⟨ρ, S, env, a, o⟩ => o ρ H (Le.refl a.good.bb) a.good [] rfl
theorem d_kCons {nm : Option Str} {kws : List Keyword} {kp : Pos} (ha : PE X p (tE (G.C A) b W fa)) (hb : PK X kws (tA (G.C A) b W fs)) :
    PK X (⟨nm, p, kp⟩ :: kws) (tA (G.C A) b W fun env S => (fa env S).to fun x S1 => (fs env S1).to fun xs S2 => .ok (x :: xs) S2) :=
  PK_sub (pk_cons ha hb) fun σ H Q ⟨ρ, S, env, a, o⟩ => tE_of a o.bind fun x S1 ρ1 H1 v le a1 rv o1 => tA_of a1 o1.bind fun xs S2 ρ2 H2 vs le2 a2 rvs o2 =>
    o2 ρ2 H2 (Le.refl a2.good.bb) a2.good _ ⟨v, vs, rfl, Rp.kp le2.kp _ _ rv, rvs⟩
theorem run_askK (T : Text G) (h : XOk G n X sc) (F : FnsOk G n) (tk : Takes X W) {f : Nat} {fd : FD} {env : Env} {perm : List Nat} {ks : List Str} {m : Nat} {zs : List V} (e : G.pg.fd f = some fd) (hk : G.kw f m ks perm = true) (I : Inv X pins σ H s) (r : Vals vs us) (rz : Vals zs ws) (h1 : vs.length = m) (h2 : zs.length = ks.length)
    (q : Ask G n f A b W env σ Q (pick perm .non (vs ++ zs)) H) : wpAny (model X.prog X.w) X.A (call (.ref (G.fi f).addr) us (ks.zip ws)) (EP X pins σ Q) X.xe s := by
  obtain ⟨k1, k2⟩ := T.kws f fd e m ks perm hk
  exact run_call h F tk e I (k2 s us ws (by rw [← r.length]; exact h1) (by rw [← rz.length]; exact h2)) (vals_pick (r.append rz) perm) (q.sp T e)
/-- f(.., k = v, ..) -/
theorem d_callk (T : Text G) (h : XOk G n X sc) (F : FnsOk G n) (tk : Takes X W) {f : Nat} {fd : FD} {perm : List Nat} {kws : List Keyword} {ks : List Str} {gs : Env → Sto → Rs (List D)} (e : G.pg.fd f = some fd) (hx : G.nm.fn f ≠ "") (hg : Gl X (G.nm.fn f)) (hdb : (G.nm.fn f == ("__debug__" : Str)) = false) (hs : (p :: ps).all notStar = true) (hk : G.kw f (p :: ps).length ks perm = true) (hn : kwNames kws = some ks)
    (hfl : ∀ env S xs S1, fs env S = .ok xs S1 → xs.length = (p :: ps).length) (hgl : ∀ env S xs S1, gs env S = .ok xs S1 → xs.length = kws.length) (ha : PA X (p :: ps) (tA (G.C A) b W fs)) (hb : PK X kws (tA (G.C A) b W gs)) :
    PE X (.Call (.Name (G.nm.fn f) pp) (p :: ps) kws pos) (tE (G.C A) b W fun env S => (fs env S).to fun xs S1 => (gs env S1).to fun ys S2 => callN G.pg n f (pick perm .non (xs ++ ys)) b S2) := by
  have hm := T.top f fd e hx
  simp only [List.all_cons, Bool.and_eq_true] at hs
  obtain ⟨w1, w2, w3, w4⟩ := kw_facts (pos := pos) (env := X.env) hn
  refine ⟨fun pins s σ H Q I ⟨ρ, S, env, a, o⟩ => wpAny_Call_Name_kw (ld_glob I hg (by rw [h.mg]; exact hm) ?_ hdb)⟩
  have o1 := o.bind
  refine PySem.W.callWith_KW (h₀ := X.base) I.ok.mod.kin (by rw [h.K]; exact (T.fn f fd e).1.kp) w1 (thn (ha.run pos pins s σ H (fun vs H1 => vs.length = (p :: ps).length ∧ ∃ xs S1 ρ1, At (G.C A) b ρ1 S1 H1 env σ ∧ Rps G.KR ρ1 (lv (G.C A) ρ1 S1) H1 xs vs ∧ Out (G.C A) b W ρ1 S1 H1 σ ((gs env S1).to fun ys S2 => callN G.pg n f (pick perm .non (xs ++ ys)) b S2) (RE (G.C A) Q)) I ?_) fun us s1 ⟨vs, H1, I1, r, hl, xs, S1, ρ1, a1, rx, o2⟩ => ?_) ?_ (star_cons hs.1)
  · refine ⟨ρ, S, env, a, ?_⟩
    cases ef : fs env S with
    | no => rw [ef] at o1; exact o1
    | ex x S1 => rw [ef] at o1; exact o1
    | ok xs S1 =>
      rw [ef] at o1
      exact fun ρ' H' le g v rv => ⟨by rw [← rv.length]; exact hfl _ _ _ _ ef, xs, S1, ρ', ⟨g, a.env.kp le.kp⟩, rv, o1 ρ' H' le g⟩
  · have o3 := o2.bind
    refine thn (hb.run pos pins s1 σ H1 (fun zs H2 => zs.length = ks.length ∧ Ask G n f A b W env σ Q (pick perm .non (vs ++ zs)) H2) I1 ?_) fun ws s2 ⟨zs, H2, I2, rz, hz, q⟩ => ⟨I2.kIn, ?_⟩
    · refine ⟨ρ1, S1, env, a1, ?_⟩
      cases eg : gs env S1 with
      | no => rw [eg] at o3; exact o3
      | ex x S2 => rw [eg] at o3; exact o3
      | ok ys S2 =>
        rw [eg] at o3
        exact fun ρ' H' le g v rv => ⟨by rw [← rv.length, hgl _ _ _ _ eg, w4], _, S2, ρ', ⟨g, a1.env.kp le.kp⟩, (Rps.append (Rps.kp le.kp _ _ rx) rv).pick perm, o3 ρ' H' le g⟩
    · rw [w2]
      exact run_askK T h F tk e hk I2 r rz hl hz q
  · rw [show (backTo pos (starEach (p :: ps) X.env)).any (·.1) = false from by rw [star_cons hs.1]; exact star_any hs.2, w3]; rfl
theorem d_callk0 (T : Text G) (h : XOk G n X sc) (F : FnsOk G n) (tk : Takes X W) {f : Nat} {fd : FD} {perm : List Nat} {kws : List Keyword} {ks : List Str} {gs : Env → Sto → Rs (List D)} (e : G.pg.fd f = some fd) (hx : G.nm.fn f ≠ "") (hg : Gl X (G.nm.fn f)) (hdb : (G.nm.fn f == ("__debug__" : Str)) = false) (hk : G.kw f 0 ks perm = true) (hn : kwNames kws = some ks)
    (hgl : ∀ env S xs S1, gs env S = .ok xs S1 → xs.length = kws.length) (hb : PK X kws (tA (G.C A) b W gs)) :
    PE X (.Call (.Name (G.nm.fn f) pp) [] kws pos) (tE (G.C A) b W fun env S => (Rs.ok [] S).to fun xs S1 => (gs env S1).to fun ys S2 => callN G.pg n f (pick perm .non (xs ++ ys)) b S2) := by
  have hm := T.top f fd e hx
  obtain ⟨w1, w2, w3, w4⟩ := kw_facts (pos := pos) (env := X.env) hn
  refine ⟨fun pins s σ H Q I ⟨ρ, S, env, a, o⟩ => wpAny_Call_Name_kw (ld_glob I hg (by rw [h.mg]; exact hm) ?_ hdb)⟩
  have o3 := Out.bind (r := gs env S) (k := fun ys S2 => callN G.pg n f (pick perm .non ([] ++ ys)) b S2) o
  refine PySem.W.callWith_KW0 (h₀ := X.base) I.ok.mod.kin (by rw [h.K]; exact (T.fn f fd e).1.kp) w1 ?_ (by rw [w3]; rfl)
  refine thn (hb.run pos pins s σ H (fun zs H2 => zs.length = ks.length ∧ Ask G n f A b W env σ Q (pick perm .non ([] ++ zs)) H2) I ?_) fun ws s2 ⟨zs, H2, I2, rz, hz, q⟩ => ⟨I2.kIn, ?_⟩
  · refine ⟨ρ, S, env, a, ?_⟩
    cases eg : gs env S with
    | no => rw [eg] at o3; exact o3
    | ex x S2 => rw [eg] at o3; exact o3
    | ok ys S2 =>
      rw [eg] at o3
      exact fun ρ' H' le g v rv => ⟨by rw [← rv.length, hgl _ _ _ _ eg, w4], _, S2, ρ', ⟨g, a.env.kp le.kp⟩, Rps.pick rv perm, o3 ρ' H' le g⟩
  · rw [w2]
    exact run_askK (us := []) (vs := []) T h F tk e hk I2 .nil rz rfl hz q
end
end Mi

namespace Mi
open PySem L2 PySem.Spec PyProof.Rows

/-! ## Part 14: methods of own classes, new objects -/
theorem meth_form {o : Expr} {m : Str} {apos pos : Pos} {es : List Expr} {env : PySem.Env} (hb : notSuper o = true) (hs : es.all notStar = true) (hf : es.length < 30) (hl : (apos.endLine == pos.line) = true) :
    eval (.Call (.Attribute o m apos) es [] pos) env = (do
      let ov ← eval o env
      standAt apos.atName
      let (f, first) ← holding [ov] (getMethod ov m (do return (← importBound o env).getD true))
      callWith pos f first (backTo pos (starEach es env)) (backToKw pos (keywordEach [] env))) := by
  have hform : methodCallForm (es.length + ([] : List Keyword).length) (backTo pos (starEach es env)) (backToKw pos (keywordEach [] env)) = true := by
    unfold methodCallForm
    rw [star_all hs]
    show (true && true && decide (es.length + 0 + 0 < 30)) = true
    simpa using hf
  have hpos : methodCallPos true o env apos pos = pure pos := by unfold methodCallPos; simp [hl]
  rw [arm_eval_Call, base_of hb]
  unfold methodCall calleeOf
  rw [hform, hpos]
  rfl
section
variable {G : GC} {n : Nat} {X : Cx} {sc : Sc} {A : List Addr} {b : Nat} {W : WX} {p q : Expr} {ps : List Expr} {pos pp apos : Pos} {fa : Env → Sto → Rs D} {fs : Env → Sto → Rs (List D)} {x : Str}
variable {pins : List (Addr × Obj)} {σ : L2.St} {H : Hp} {s : Shared} {Q : VK} {us ws u0 : List Value} {vs : List V} {kw : List (Str × Value)} {env : Env}
def dMth (G : GC) (n m b : Nat) (fa : Env → Sto → Rs D) (fs : Env → Sto → Rs (List D)) : Env → Sto → Rs D := fun env S => (fa env S).to fun x S1 => match recvM G.pg.mth S1 x m with
  | some f => (fs env S1).to fun xs S2 => callN G.pg n f (x :: xs) b S2
  | none => .no
/-- the receiver of a method: an instance, its class -/
theorem recv_ins {m f : Nat} {ρ : List Addr} {S : Sto} {x : D} {v : V} (g : Good (G.C A) b ρ S H) (r : Rp G.KR ρ (lv (G.C A) ρ S) H x v) (e : recvM G.pg.mth S x m = some f) (hn : ∀ f m, G.att f ≠ G.nm.mth m) :
    ∃ a Cl c dx fv, v = .ref a ∧ H a = some (.ins Cl dx fv) ∧ G.cls c = some Cl ∧ G.pg.mth c m = some f ∧ fv.lookup (G.nm.mth m) = none := by
  unfold recvM at e
  cases x with
  | ref k =>
    simp only at e
    cases es : S[k]? with
    | none => rw [es] at e; cases e
    | some w =>
      rw [es] at e
      cases w with
      | ins c fs =>
        obtain ⟨a, Cl, dx, fv, rfl, er, h1, h2, h3⟩ := ins_of g r es
        exact ⟨a, Cl, c, dx, fv, rfl, h1, h2, e, field_none (fun f => hn f m) h3⟩
      | _ => cases e
  | _ => cases e
/-- o.m(..) -/
theorem d_mth (T : Text G) (h : XOk G n X sc) (F : FnsOk G n) (tk : Takes X W) {m : Nat} (hb : notSuper p = true) (hs : (q :: ps).all notStar = true) (hf : (q :: ps).length < 30) (hl : (apos.endLine == pos.line) = true) (ha : PE X p (tE (G.C A) b W fa)) (hq : PA X (q :: ps) (tA (G.C A) b W fs)) :
    PE X (.Call (.Attribute p (G.nm.mth (m + 1)) apos) (q :: ps) [] pos) (tE (G.C A) b W (dMth G n (m + 1) b fa fs)) := by
  have hs' := hs
  simp only [List.all_cons, Bool.and_eq_true] at hs'
  refine ⟨fun pins s σ H Q I ⟨ρ, S, env, a, o⟩ => ?_⟩
  refine PySem.W.methodCall_KW (thn (ha.run pins s σ H (fun v H1 => ∃ x f S1 ρ1, At (G.C A) b ρ1 S1 H1 env σ ∧ Rp G.KR ρ1 (lv (G.C A) ρ1 S1) H1 x v ∧ recvM G.pg.mth S1 x (m + 1) = some f ∧ Out (G.C A) b W ρ1 S1 H1 σ ((fs env S1).to fun xs S2 => callN G.pg n f (x :: xs) b S2) (RE (G.C A) Q)) I (tE_of a (Out.bind o) fun x S1 ρ1 H1 v le a1 r o1 => ?_)) fun u s1 ⟨v, H1, I1, ru, x, f, S1, ρ1, a1, r, er, o1⟩ => ?_) (meth_form hb hs hf hl)
  · cases er : recvM G.pg.mth S1 x (m + 1) with
    | none => rw [er] at o1; exact o1.elim
    | some f => rw [er] at o1; exact ⟨x, f, S1, ρ1, a1, r, er, o1⟩
  · obtain ⟨a', Cl, c, dx, fv, rfl, h1, h2, h3, h4⟩ := recv_ins a1.good r er T.attN
    obtain rfl : u = Value.ref a' := ru
    obtain ⟨fd, e⟩ := T.mth c (m + 1) f h3
    have hm := T.meth c m f Cl h3 h2
    refine getmeth_ok I1 h1 (by rw [h.K]; exact T.cl c Cl h2) (by rw [h.K]; exact hm) h4 ?_
    refine PySem.W.callWith_K (first := [.ref a']) (h₀ := X.base) I.ok.mod.kin (by rw [h.K]; exact hm.kp) (thn (hq.run pos pins s1 σ H1 (fun vs H2 => Ask G n f A b W env σ Q (.ref a' :: vs) H2) I1 (tA_of a1 o1.bind fun xs S2 ρ2 H2 vs le a2 rx o2 => ⟨x :: xs, S2, ρ2, a2, ⟨_, vs, rfl, Rp.kp le.kp _ _ r, rx⟩, o2⟩)) fun us s2 ⟨vs, H2, I2, rv, q2⟩ => ⟨I2.kIn, ?_⟩) (star_cons hs'.1) (star_any hs'.2)
    exact run_ask (us := .ref a' :: us) (vs := .ref a' :: vs) T h F tk e I2 (.cons rfl rv) q2
theorem d_mth0 (T : Text G) (h : XOk G n X sc) (F : FnsOk G n) (tk : Takes X W) {m : Nat} (hb : notSuper p = true) (hl : (apos.endLine == pos.line) = true) (ha : PE X p (tE (G.C A) b W fa)) :
    PE X (.Call (.Attribute p (G.nm.mth (m + 1)) apos) [] [] pos) (tE (G.C A) b W (dMth G n (m + 1) b fa fun _ S => .ok [] S)) := by
  refine ⟨fun pins s σ H Q I ⟨ρ, S, env, a, o⟩ => ?_⟩
  refine PySem.W.methodCall_KW (thn (ha.run pins s σ H (fun v H1 => ∃ x f S1 ρ1, At (G.C A) b ρ1 S1 H1 env σ ∧ Rp G.KR ρ1 (lv (G.C A) ρ1 S1) H1 x v ∧ recvM G.pg.mth S1 x (m + 1) = some f ∧ Out (G.C A) b W ρ1 S1 H1 σ (callN G.pg n f [x] b S1) (RE (G.C A) Q)) I (tE_of a (Out.bind o) fun x S1 ρ1 H1 v le a1 r o1 => ?_)) fun u s1 ⟨v, H1, I1, ru, x, f, S1, ρ1, a1, r, er, o1⟩ => ?_) (meth_form hb rfl (by decide) hl)
  · cases er : recvM G.pg.mth S1 x (m + 1) with
    | none => rw [er] at o1; exact o1.elim
    | some f => rw [er] at o1; exact ⟨x, f, S1, ρ1, a1, r, er, o1⟩
  · obtain ⟨a', Cl, c, dx, fv, rfl, h1, h2, h3, h4⟩ := recv_ins a1.good r er T.attN
    obtain rfl : u = Value.ref a' := ru
    obtain ⟨fd, e⟩ := T.mth c (m + 1) f h3
    have hm := T.meth c m f Cl h3 h2
    refine getmeth_ok I1 h1 (by rw [h.K]; exact T.cl c Cl h2) (by rw [h.K]; exact hm) h4 ?_
    exact PySem.W.callWith_K0 (first := [.ref a']) I1.kIn (by rw [h.K]; exact hm.kp) (run_ask (us := [.ref a']) (vs := [.ref a']) T h F tk e I1 (.cons rfl .nil) ⟨[x], S1, ρ1, a1, ⟨_, [], rfl, r, rfl⟩, o1⟩)
/-! ### new objects -/
def dMk (G : GC) (n k b : Nat) (fs : Env → Sto → Rs (List D)) : Env → Sto → Rs D := fun env S => (fs env S).to fun xs S1 => match G.pg.mth k 0 with
  | some f => (callN G.pg n f (.ref S1.length :: xs) b (S1 ++ [.ins k []])).to fun d S2 => match d with
    | .non => .ok (.ref S1.length) S2
    | _ => .no
  | none => .no
/-- what is wanted of C(..): the arguments lie there -/
def AskN (G : GC) (n f k : Nat) (A : List Addr) (b : Nat) (W : WX) (env : Env) (σ : L2.St) (Q : VK) (vs : List V) (H : Hp) : Prop :=
  ∃ xs S ρ, At (G.C A) b ρ S H env σ ∧ Rps G.KR ρ (lv (G.C A) ρ S) H xs vs ∧ Out (G.C A) b W ρ S H σ ((callN G.pg n f (.ref S.length :: xs) b (S ++ [.ins k []])).to fun d S2 => match d with
    | .non => .ok (.ref S.length) S2
    | _ => .no) (RE (G.C A) Q)
theorem run_new (T : Text G) (h : XOk G n X sc) (F : FnsOk G n) (tk : Takes X W) {f k : Nat} {Cl : Addr} (e0 : G.pg.mth k 0 = some f) (hc : G.cls k = some Cl) (M : Mk G.K Cl (G.fi f).addr) (I : Inv X pins σ H s) (r : Vals vs us) (q : AskN G n f k A b W env σ Q vs H) :
    wpAny (model X.prog X.w) X.A (call (.ref Cl) us) (EP X pins σ Q) X.xe s := by
  obtain ⟨fd, e⟩ := T.mth k 0 f e0
  obtain ⟨xs, S, ρ, a, rx, o⟩ := q
  have hx : H (s.heap.objs.size + 1) = none := I.hok.fresh (Nat.le_succ _)
  have hdx : H s.heap.objs.size = none := I.hok.fresh (Nat.le_refl _)
  have hne : s.heap.objs.size ≠ s.heap.objs.size + 1 := Nat.ne_of_lt (Nat.lt_succ_self _)
  obtain ⟨le1, g1⟩ := a.good.anon hdx (.own (s.heap.objs.size + 1))
  have hx1 : upd H s.heap.objs.size (.own (s.heap.objs.size + 1)) (s.heap.objs.size + 1) = none := by rw [upd_ne (Ne.symm hne)]; exact hx
  obtain ⟨le2, g2⟩ := g1.named hx1 (o := .ins Cl s.heap.objs.size []) (u := .ins k []) fun le => ⟨Cl, s.heap.objs.size, [], upd_same, hc, rfl⟩
  have le := le1.trans le2
  have I2 := Inv.made (C := Cl) I
  have q2 : Ask G n f A b W (wipeE env []) σ (fun v H2 => v = .non ∧ Q (.ref (s.heap.objs.size + 1)) H2) (.ref (s.heap.objs.size + 1) :: vs) (upd (upd H s.heap.objs.size (.own (s.heap.objs.size + 1))) (s.heap.objs.size + 1) (.ins Cl s.heap.objs.size [])) := by
    refine ⟨.ref S.length :: xs, _, _, ⟨g2, a.env.kp le.kp⟩, ⟨_, vs, rfl, ⟨_, by rw [← a.good.len]; simp, rfl⟩, Rps.kp le.kp _ _ rx⟩, ?_⟩
    refine (Out.reb le o.bind).imp fun d S' ρ' H' le3 g3 o3 v rv => ?_
    cases d with
    | non =>
      have er : ρ'[S.length]? = some (s.heap.objs.size + 1) := get_pre le3.pre (by rw [← a.good.len]; simp)
      exact ⟨rv, o3 ρ' H' (Le.refl g3.bb) g3 _ ⟨_, er, rfl⟩⟩
    | _ => exact o3.elim
  have F' := h.fn F e
  have r2 : Vals (V.ref (s.heap.objs.size + 1) :: vs) (Value.ref (s.heap.objs.size + 1) :: us) := .cons rfl r
  have hl : (Value.ref (s.heap.objs.size + 1) :: us).length = (G.fi f).ps.length := by rw [← r2.length]; exact q2.len T e
  have bt := (T.fn f fd e).2.1 _ (Value.ref (s.heap.objs.size + 1) :: us) (by have := I2.kIn; rw [h.K] at this; exact this) (by rw [List.append_nil]; exact hl)
  rw [List.append_nil] at bt
  have M' : Mk X.K Cl (G.fi f).addr := by rw [h.K]; exact M
  refine wpAny_call (make_map (f := (G.fi f).addr) I.kIn M'.makes M'.init (beq_iff_eq.mp M'.fn) (codeAny_mono (F'.run _ X.stack _ _ ⟨Value.ref (s.heap.objs.size + 1) :: us, []⟩ _ _ _ (WE W σ) (h.room.make Cl us []) (I2.env0.make Cl us []) bt r2 (q2.sp T e)) fun r s' hq => ?_))
  match r, hq with
  | .error e, hq => exact passAt tk σ pins _ _ e s' I2 hq
  | .ok (.ret u), hq =>
    obtain ⟨v, H', I3, rv, ev, q3⟩ := I2.after hq
    subst ev
    exact ⟨rv, ⟨V.ref (s.heap.objs.size + 1), H', I3, rfl, q3⟩⟩
  | .ok .next, hq => exact False.elim hq
  | .ok .brk, hq => exact False.elim hq
  | .ok .cont, hq => exact False.elim hq
theorem askN_of {f k : Nat} {ρ : List Addr} {S : Sto} (e0 : G.pg.mth k 0 = some f) (a : At (G.C A) b ρ S H env σ) (o : Out (G.C A) b W ρ S H σ (dMk G n k b fs env S) (RE (G.C A) Q)) : tA (G.C A) b W fs σ H (AskN G n f k A b W env σ Q) :=
  tA_of a (Out.bind o) fun xs S1 ρ1 H1 vs le a1 rx o1 => ⟨xs, S1, ρ1, a1, rx, by rw [e0] at o1; exact o1⟩
/-- C(e, ..) -/
theorem d_mk (T : Text G) (h : XOk G n X sc) (F : FnsOk G n) (tk : Takes X W) {f k : Nat} (e0 : G.pg.mth k 0 = some f) (hg : Gl X (G.nm.cls k)) (hdb : (G.nm.cls k == ("__debug__" : Str)) = false) (hs : (p :: ps).all notStar = true) (ha : PA X (p :: ps) (tA (G.C A) b W fs)) :
    PE X (.Call (.Name (G.nm.cls k) pp) (p :: ps) [] pos) (tE (G.C A) b W (dMk G n k b fs)) := by
  obtain ⟨Cl, hc, M, hm⟩ := T.init k f e0
  simp only [List.all_cons, Bool.and_eq_true] at hs
  refine ⟨fun pins s σ H Q I ⟨ρ, S, env, a, o⟩ => wpAny_Call_Name_kw (ld_glob I hg (by rw [h.mg]; exact hm) ?_ hdb)⟩
  exact PySem.W.callWith_K (h₀ := X.base) I.ok.mod.kin (by rw [h.K]; exact M.kp) (thn (ha.run pos pins s σ H _ I (askN_of e0 a o)) fun us s1 ⟨vs, H1, I1, r, q⟩ => ⟨I1.kIn, run_new T h F tk e0 hc M I1 r q⟩) (star_cons hs.1) (star_any hs.2)
/-- C() -/
theorem d_mk0 (T : Text G) (h : XOk G n X sc) (F : FnsOk G n) (tk : Takes X W) {f k : Nat} (e0 : G.pg.mth k 0 = some f) (hg : Gl X (G.nm.cls k)) (hdb : (G.nm.cls k == ("__debug__" : Str)) = false) :
    PE X (.Call (.Name (G.nm.cls k) pp) [] [] pos) (tE (G.C A) b W (dMk G n k b fun _ S => .ok [] S)) := by
  obtain ⟨Cl, hc, M, hm⟩ := T.init k f e0
  refine ⟨fun pins s σ H Q I ⟨ρ, S, env, a, o⟩ => wpAny_Call_Name_kw (ld_glob I hg (by rw [h.mg]; exact hm) ?_ hdb)⟩
  have o1 : Out (G.C A) b W ρ S H σ (match G.pg.mth k 0 with
    | some f => (callN G.pg n f (.ref S.length :: []) b (S ++ [.ins k []])).to fun d S2 => match d with
      | .non => .ok (.ref S.length) S2
      | _ => .no
    | none => .no) (RE (G.C A) Q) := o
  rw [e0] at o1
  exact PySem.W.callWith_K0 I.kIn (by rw [h.K]; exact M.kp) (run_new (us := []) (vs := []) T h F tk e0 hc M I .nil ⟨[], S, ρ, a, rfl, o1⟩)
end
end Mi

namespace Mi
open PySem L2 PySem.Spec PyProof.Rows

/-! ## Part 15: names given up -/
section
variable {X : Cx} {C : Cxt} {b : Nat} {W : WX} {ρ ρ' : List Addr} {S S' S1 S2 : Sto} {H H' : Hp} {σ σ' : L2.St} {p : Expr} {fa : Env → Sto → Rs D} {env : Env}
/-- a name is given up: its address stands still -/
theorem kill_out (g : Good C b ρ S H) {n : Nat} {o : MO} {a : Addr} (e : S[n]? = some o) (hd : o.here ≠ .dead) (er : ρ[n]? = some a) : ¬ lv C ρ (S.set n .dead) a := by
  rintro (⟨m, w, ew, hw, em⟩ | h)
  · by_cases q : n = m
    · subst q
      rw [List.getElem?_set_self (List.getElem?_eq_some_iff.mp e).1] at ew
      cases ew; exact hw rfl
    · rw [List.getElem?_set_ne q] at ew
      exact q (g.inj n m o w a e ew hd hw er em)
  · exact (g.accH a h).2 ⟨n, o, e, hd, er⟩
mutual
theorem frz_ok : ∀ (k : Nat) (d : D) (S : Sto) (d' : D) (S' : Sto), frz k d S = some (d', S') → ∀ (ρ : List Addr) (H : Hp) (v : V) (K : Hp → Prop), Good C b ρ S H → Rp C.KR ρ (lv C ρ S) H d v →
    (∀ H', Le C b ρ S H ρ S' H' → Good C b ρ S' H' → Rp C.KR ρ (lv C ρ S') H' d' v → K H') → Ghost K H
  | 0, d, S, d', S', e, ρ, H, v, K, g, r, q => by
    unfold frz at e
    split at e
    · cases e; exact .fin (q H (Le.refl g.bb) g r)
    · cases e
  | k + 1, d, S, d', S', e, ρ, H, v, K, g, r, q => by
    cases d with
    | ref n =>
      simp only [frz] at e
      cases es : S[n]? with
      | none => rw [es] at e; cases e
      | some w =>
        rw [es] at e
        cases w with
        | lst l =>
          simp only at e
          obtain ⟨a, xs, rfl, er, h1, h2⟩ := the_lst g r es
          obtain ⟨le1, g1⟩ := g.kill (n := n) fun w z => by rw [es] at z; cases z
          have na := kill_out g es (by intro z; cases z) er
          cases ef : frzL (frz k) l (S.set n .dead) with
          | none => rw [ef] at e; cases e
          | some y =>
            rw [ef] at e
            refine frzL_ok k l _ y.1 y.2 ef ρ H xs K g1 (Rps.kp le1.kp _ _ h2) fun H2 le2 g2 r2 => ?_
            cases e
            exact q H2 (le1.trans le2) g2 ⟨a, xs, rfl, .inl ⟨(le2.keep a _ h1 na).2, .inl (le2.keep a _ h1 na).1⟩, r2⟩
        | dic l =>
          simp only at e
          obtain ⟨a, xs, rfl, er, h1, h2⟩ := the_dic g r es
          refine .lock h1 trivial fun od => ?_
          obtain ⟨le1, g1⟩ := g.write (u := .dead) (ho := .frz od (.dK xs)) es er ⟨rfl, by intro z; cases z⟩ (fun _ _ _ => rfl) fun le => trivial
          have na := kill_out g es (by intro z; cases z) er
          cases ef : frzP (frz k) l (S.set n .dead) with
          | none => rw [ef] at e; cases e
          | some y =>
            rw [ef] at e
            refine frzP_ok k l _ y.1 y.2 ef ρ _ xs K g1 (Rpp.kp le1.kp _ _ h2) fun H2 le2 g2 r2 => ?_
            cases e
            exact q H2 (le1.trans le2) g2 ⟨a, xs, od, rfl, (le2.keep a _ upd_same na).2, (le2.keep a _ upd_same na).1, r2⟩
        | dead => cases e
        | dct f => cases e
        | ins c f => cases e
        | lck o => cases e
    | _ =>
      simp only [frz] at e
      split at e
      · cases e; exact .fin (q H (Le.refl g.bb) g r)
      · cases e
theorem frzL_ok : ∀ (k : Nat) (l : List D) (S : Sto) (l' : List D) (S' : Sto), frzL (frz k) l S = some (l', S') → ∀ (ρ : List Addr) (H : Hp) (v : List V) (K : Hp → Prop), Good C b ρ S H → Rps C.KR ρ (lv C ρ S) H l v →
    (∀ H', Le C b ρ S H ρ S' H' → Good C b ρ S' H' → Rps C.KR ρ (lv C ρ S') H' l' v → K H') → Ghost K H
  | k, [], S, l', S', e, ρ, H, v, K, g, r, q => by cases e; exact .fin (q H (Le.refl g.bb) g r)
  | k, d :: t, S, l', S', e, ρ, H, v, K, g, r, q => by
    unfold frzL at e
    obtain ⟨x, xs, rfl, h1, h2⟩ := r
    cases ed : frz k d S with
    | none => rw [ed] at e; cases e
    | some z =>
      rw [ed] at e
      simp only at e
      cases et : frzL (frz k) t z.2 with
      | none => rw [et] at e; cases e
      | some q2 =>
        rw [et] at e
        refine (frz_ok k d S z.1 z.2 ed ρ H x (fun H1 => Ghost K H1) g h1 fun H1 le1 g1 r1 => ?_).bind fun _ h => h
        refine frzL_ok k t z.2 q2.1 q2.2 et ρ H1 xs K g1 (Rps.kp le1.kp _ _ h2) fun H2 le2 g2 r2 => ?_
        cases e
        exact q H2 (le1.trans le2) g2 ⟨x, xs, rfl, Rp.kp le2.kp _ _ r1, r2⟩
theorem frzP_ok : ∀ (k : Nat) (l : List (D × D)) (S : Sto) (l' : List (D × D)) (S' : Sto), frzP (frz k) l S = some (l', S') → ∀ (ρ : List Addr) (H : Hp) (v : List (Key × V)) (K : Hp → Prop), Good C b ρ S H → Rpp C.KR ρ (lv C ρ S) H l v →
    (∀ H', Le C b ρ S H ρ S' H' → Good C b ρ S' H' → Rpp C.KR ρ (lv C ρ S') H' l' v → K H') → Ghost K H
  | k, [], S, l', S', e, ρ, H, v, K, g, r, q => by cases e; exact .fin (q H (Le.refl g.bb) g r)
  | k, (a, d) :: t, S, l', S', e, ρ, H, v, K, g, r, q => by
    unfold frzP at e
    obtain ⟨kq, x, xs, rfl, hk, h1, h2⟩ := r
    cases ed : frz k d S with
    | none => rw [ed] at e; cases e
    | some z =>
      rw [ed] at e
      simp only at e
      cases et : frzP (frz k) t z.2 with
      | none => rw [et] at e; cases e
      | some q2 =>
        rw [et] at e
        refine (frz_ok k d S z.1 z.2 ed ρ H x (fun H1 => Ghost K H1) g h1 fun H1 le1 g1 r1 => ?_).bind fun _ h => h
        refine frzP_ok k t z.2 q2.1 q2.2 et ρ H1 xs K g1 (Rpp.kp le1.kp _ _ h2) fun H2 le2 g2 r2 => ?_
        cases e
        exact q H2 (le1.trans le2) g2 ⟨kq, x, xs, rfl, hk, Rp.kp le2.kp _ _ r1, r2⟩
end
theorem freeze_ok {d d' : D} {v : V} {K : Hp → Prop} (e : freeze d S = .ok d' S') (g : Good C b ρ S H) (r : Rp C.KR ρ (lv C ρ S) H d v)
    (q : ∀ H', Le C b ρ S H ρ S' H' → Good C b ρ S' H' → Rp C.KR ρ (lv C ρ S') H' d' v → K H') : Ghost K H := by
  unfold freeze at e
  cases ef : frz 4 d S with
  | none => rw [ef] at e; cases e
  | some y =>
    rw [ef] at e; cases e
    exact frz_ok (C := C) (b := b) 4 d S y.1 y.2 ef ρ H v K g r q
theorem freeze_noex {d : D} {S : Sto} : (∃ d' S', freeze d S = .ok d' S') ∨ freeze d S = .no := by
  unfold freeze
  cases frz 4 d S with
  | none => exact .inr rfl
  | some q => exact .inl ⟨_, _, rfl⟩
theorem d_frz (ha : PE X p (tE C b W fa)) : PE X p (tE C b W fun env S => (fa env S).to freeze) :=
  PE_sub (pe_gh ha) fun σ H Q ⟨ρ, S, env, a, o⟩ => tE_of a (Out.bind o) fun d S1 ρ1 H1 v le a1 r o1 => by
    rcases freeze_noex (d := d) (S := S1) with ⟨d', S', e⟩ | e
    · rw [e] at o1
      exact freeze_ok e a1.good r fun H2 le2 g2 r2 => o1 ρ1 H2 le2 g2 v r2
    · rw [e] at o1; exact o1.elim
def dFrz (i : Nat) : Env → Sto → SR := fun env S => match getV env i with
  | some d => ofE env (freeze d S) fun d' S1 => .nx (env.set i (some d')) S1
  | none => .no
theorem pss_gh {sts : List Stmt} {t : TS} (h : PSs X sts t) : PSs X sts (fun N σ H => Ghost (fun H => t N σ H) H) :=
  ⟨fun pins s σ H D I g => let ⟨H', I', q⟩ := g.run I; h.run pins s σ H' D I' q⟩
/-- nothing in the text: a name is given up between two statements -/
theorem d_sFrz {i : Nat} {sts : List Stmt} {g : Env → Sto → SR} (h : PSs X sts (tS C b W g)) : PSs X sts (tS C b W (dSeq (dFrz i) g)) :=
  PSs_sub (pss_gh h) fun N σ H ⟨ρ, S, env, a, o⟩ => by
    unfold dSeq dFrz at o
    cases ev : getV env i with
    | none => rw [ev] at o; exact o.elim
    | some d =>
      rw [ev] at o
      simp only at o
      have hd : env[i]? = some (some d) := by
        unfold getV at ev
        split at ev
        · rename_i e2; cases ev; exact e2
        · cases ev
      obtain ⟨v, h1, h2⟩ := a.env.2 i d hd
      rcases freeze_noex (d := d) (S := S) with ⟨d', S', e⟩ | e
      · rw [e] at o
        simp only [ofE] at o
        refine freeze_ok e a.good h2 fun H2 le2 g2 r2 => ?_
        refine ⟨ρ, S', env.set i (some d'), ⟨g2, ?_⟩, OutS.reb le2 o⟩
        have hz := (a.env.kp le2.kp).set r2 i
        have : σ.set i (some v) = σ := by
          refine List.ext_getElem? fun j => ?_
          by_cases q : i = j
          · subst q
            rw [List.getElem?_set_self (List.getElem?_eq_some_iff.mp h1).1, h1]
          · rw [List.getElem?_set_ne q]
        rw [this] at hz
        exact hz
      · rw [e] at o; exact o.elim
end
end Mi

namespace Mi
open PySem L2 PySem.Spec PyProof.Rows

/-! ## Sets 1: a set's keys in the sequence in which they came, and its table in order -/
section
variable {P : Program} {w : World} {K : Type} [DecidableEq K]
/-- the rows of a table, key by key -/
inductive Rows1 (κ : PySem.KeyKind P w K) : List K → List (Int × Value) → Prop
  | nil : Rows1 κ [] []
  | cons {k : K} {v : Value} {ks : List K} {es : List (Int × Value)} (h : κ.is k v = true) (s : v.scannable = true) (r : Rows1 κ ks es) : Rows1 κ (k :: ks) ((κ.hash k, v) :: es)
variable {κ : PySem.KeyKind P w K}
theorem Rows1.snoc {k : K} {v : Value} (h : κ.is k v = true) (s : v.scannable = true) : ∀ {ks : List K} {es : List (Int × Value)}, Rows1 κ ks es → Rows1 κ (ks ++ [k]) (es ++ [(κ.hash k, v)])
  | _, _, .nil => .cons h s .nil
  | _, _, .cons a b r => .cons a b (r.snoc h s)
theorem Rows1.len : ∀ {ks : List K} {es : List (Int × Value)}, Rows1 κ ks es → ks.length = es.length
  | _, _, .nil => rfl
  | _, _, .cons _ _ r => congrArg (· + 1) r.len
theorem Rows1.el : ∀ {ks : List K} {es : List (Int × Value)}, Rows1 κ ks es → ∀ e ∈ es, ∃ k ∈ ks, κ.is k e.2 = true ∧ e.1 = κ.hash k ∧ e.2.scannable = true
  | _, _, .cons (k := k) a b r, e, he => by
    rcases List.mem_cons.mp he with rfl | he
    · exact ⟨k, List.mem_cons_self, a, rfl, b⟩
    · obtain ⟨j, h1, h2⟩ := r.el e he
      exact ⟨j, List.mem_cons_of_mem _ h1, h2⟩
theorem Rows1.key : ∀ {ks : List K} {es : List (Int × Value)}, Rows1 κ ks es → ∀ k ∈ ks, ∃ e ∈ es, κ.is k e.2 = true
  | _, _, .cons a b r, k, hk => by
    rcases List.mem_cons.mp hk with rfl | hk
    · exact ⟨_, List.mem_cons_self, a⟩
    · obtain ⟨e, h1, h2⟩ := r.key k hk
      exact ⟨e, List.mem_cons_of_mem _ h1, h2⟩
variable (κ) in
def SetG (h : Heap) (a : Addr) (ks : List K) : Prop :=
  ∃ (o : Obj) (es : Array (Int × Value)) (ep : Nat) (t : SetTable) (l : List (Int × Value)),
    h.get? a = some o ∧ o.ExactSet ∧ o.data = .set es ep t ∧ l.Perm es.toList ∧ Rows1 κ ks l ∧ ks.Nodup ∧ es.size < scanBound ∧ t.fits es.size = true ∧ Ris t.place.toList ∧
    (w.params.followText "set-order" = true ∨ t.led = true)
def insK (k : K) (ks : List K) : List K := if k ∈ ks then ks else ks ++ [k]
variable {A : Around} {E : Value → Shared → Prop} {s : Shared} {a : Addr} {ks : List K} {h h' : Heap}
theorem SetG.stay (R : SetG κ h a ks) (k : ∀ o, h.get? a = some o → h'.get? a = some o) : SetG κ h' a ks := by
  obtain ⟨o, es, ep, t, l, ho, r⟩ := R
  exact ⟨o, es, ep, t, l, k o ho, r⟩
theorem SetG.got (R : SetG κ h a ks) : ∃ o, h.get? a = some o := let ⟨o, _, _, _, _, ho, _⟩ := R; ⟨o, ho⟩
theorem SetG.is (R : SetG κ s.heap a ks) : s.TypeIs (.ref a) "set" := let ⟨o, _, _, _, _, ho, hx, _⟩ := R; ⟨o, ho, hx.1⟩
theorem setG_new (h : Heap) : SetG κ (h.push { cls := .type "set", dict := none, data := .set #[] 0 (.fresh 0 0 (!w.params.followText "set-order")) }) h.objs.size [] := by
  refine ⟨_, #[], 0, _, [], Heap.get?_push_size _ rfl, ⟨rfl, rfl, rfl⟩, rfl, .refl _, .nil, .nil, by decide, rfl, .nil, ?_⟩
  cases hf : w.params.followText "set-order"
  · exact .inr rfl
  · exact .inl rfl
/-- the table as it stands behind a new row -/
theorem setG_put {o : Obj} {es es1 : Array (Int × Value)} {ep : Nat} {t t1 : SetTable} {l : List (Int × Value)} {Q : Option Bool → Shared → Prop} {wd : Bool} {g : Bool → Sem Unit}
    (hg : ∀ (b : Bool) (s1 : Shared) (Q1 : Unit → Shared → Prop), Q1 () s1 → wpAny (model P w) A (g b) Q1 E s1) (ho : s.heap.get? a = some o) (hx : o.ExactSet) (hd : o.data = .set es ep t)
    (p1 : l.Perm es1.toList) (r1 : Rows1 κ ks l) (nd : ks.Nodup) (b1 : es1.size < scanBound) (f1 : t1.fits es1.size = true) (ri : Ris t1.place.toList) (le : w.params.followText "set-order" = true ∨ t1.led = true)
    (hQ : ∀ h', Heap.SameBut a s.heap h' → SetG κ h' a ks → Q (some true) { s with heap := h' }) :
    wpAny (model P w) A (do
      storeSet a es1 t1
      if (!wd && t1.tooFull) = true then do
        g (relayAll t1 es1 (SetTable.grown es1.size)).2.2
        storeSet a (relayAll t1 es1 (SetTable.grown es1.size)).1 (relayAll t1 es1 (SetTable.grown es1.size)).2.1
        pure (some true)
      else pure (some true)) Q E s := by
  have at1 : (s.heap.update a (Obj.putSet es1 t1)).get? a = some { o with data := .set es1 (ep + 1) t1 } := by
    have q := Heap.get?_update_self (Obj.putSet es1 t1) ho (by rw [putSet_of es1 t1 hd]; rfl)
    rwa [putSet_of es1 t1 hd] at q
  have same := Heap.SameBut.update s.heap a (Obj.putSet es1 t1)
  refine wpAny_bind (wpAny_storeSet_of ho hd ?_ (fits_of_scanBound b1))
  split
  case isFalse => exact wpAny_pure (hQ _ same ⟨_, es1, _, t1, l, at1, hx, rfl, p1, r1, nd, b1, f1, ri, le⟩)
  case isTrue =>
    have q1 := relayAll_perm t1 es1 (SetTable.grown es1.size)
    have q2 := relayAll_fits t1 es1 (SetTable.grown es1.size)
    have q3 := relayAll_ris t1 es1 (SetTable.grown es1.size)
    have q4 := relayAll_led t1 es1 (SetTable.grown es1.size)
    revert q1 q2 q3 q4
    generalize relayAll t1 es1 (SetTable.grown es1.size) = z
    obtain ⟨es2, t2, gv⟩ := z
    intro q1 q2 q3 q4
    dsimp only at q1 q2 q3 q4 ⊢
    have b2 : es2.size < scanBound := by
      have := q1.length_eq
      simp only [Array.length_toList] at this
      omega
    refine wpAny_bind (hg _ _ _ (wpAny_bind (wpAny_storeSet_of at1 rfl ?_ (fits_of_scanBound b2))))
    have at2 := Heap.get?_update_self (Obj.putSet es2 t2) at1 (by rw [putSet_of es2 t2 (o := { o with data := .set es1 (ep + 1) t1 }) rfl]; rfl)
    rw [putSet_of es2 t2 (o := { o with data := .set es1 (ep + 1) t1 }) rfl] at at2
    exact wpAny_pure (hQ _ (same.trans (Heap.SameBut.update _ a _)) ⟨_, es2, _, t2, l, at2, hx, rfl, p1.trans q1.symm, r1, nd, b2, q2, q3, by rw [q4]; exact le⟩)
theorem SetG.lay {k : K} {v : Value} {Q : Bool → Shared → Prop} (R : SetG κ s.heap a ks) (hk : κ.is k v = true) (hv : v.scannable = true) (room : ks.length + 1 < scanBound)
    (hQ : ∀ b h', Heap.SameBut a s.heap h' → SetG κ h' a (insK k ks) → Q b { s with heap := h' }) : wpAny (model P w) A (setAddHashed a v (κ.hash k)) Q E s := by
  obtain ⟨o, es, ep, t, l, ho, hx, hd, pm, rw1, nd, hb, hf, hr, hl⟩ := R
  have mem : ∀ e ∈ es.toList, ∃ j ∈ ks, κ.is j e.2 = true ∧ e.1 = κ.hash j ∧ e.2.scannable = true := fun e he => rw1.el e (pm.mem_iff.mpr he)
  have els : ElemsOf κ es.toList := fun e he => let ⟨j, _, h1, h2, h3⟩ := mem e he; ⟨⟨j, h1, h2⟩, h3⟩
  have size : es.size = ks.length := by rw [rw1.len, pm.length_eq, Array.length_toList]
  unfold setAddHashed setAddHashedIn
  refine wpAny_holding (wpAny_bind (wpAny_setState_of ho hd hf ?_))
  dsimp only
  rw [byScan_of hv hb els]
  simp only [↓reduceIte]
  unfold setAddByScan
  refine wpAny_bind (wpAny_bind (wpAny_rule (wpAny_bind (wpAny_setScan_of hk ho hd hf els ?_))))
  cases fi : List.findIdx? (fun e => κ.is k e.2) es.toList with
  | some j =>
    obtain ⟨hj, pj, _⟩ := List.findIdx?_eq_some_iff_getElem.mp fi
    obtain ⟨i, hi, h1, _⟩ := mem _ (List.getElem_mem hj)
    have ei : i = k := κ.inj _ i k h1 pj
    have q := hQ false s.heap (Heap.SameBut.refl a s.heap)
    rw [insK, if_pos (ei ▸ hi)] at q
    dsimp only
    exact wpAny_pure (wpAny_pure (q ⟨o, es, ep, t, l, ho, hx, hd, pm, rw1, nd, hb, hf, hr, hl⟩))
  | none =>
    have hn : k ∉ ks := fun hk2 => by
      obtain ⟨e, he, h1⟩ := rw1.key k hk2
      have := List.findIdx?_eq_none_iff.mp fi e (pm.mem_iff.mp he)
      rw [h1] at this
      cases this
    have fin : ∀ h', Heap.SameBut a s.heap h' → SetG κ h' a (ks ++ [k]) → Q true { s with heap := h' } := fun h' sb r => hQ true h' sb (by rw [insK, if_neg hn]; exact r)
    have gw : ∀ (b : Bool) (s1 : Shared) (Q1 : Unit → Shared → Prop), Q1 () s1 → wpAny (model P w) A (match b with | true => rule "set.scan.the-table-gave-way" | false => pure ()) Q1 E s1 := fun b s1 Q1 q => by
      cases b with
      | false => exact wpAny_pure q
      | true => exact wpAny_rule q
    have n1 := layNew_perm t es (κ.hash k) v
    have n2 := layNew_fits t es (κ.hash k) v
    have n3 := layNew_ris t es (κ.hash k) v hr
    have n4 := layNew_led t es (κ.hash k) v
    dsimp only
    revert n1 n2 n3 n4
    generalize layNew t es (κ.hash k) v = z
    obtain ⟨es1, t1, wd, gv⟩ := z
    intro n1 n2 n3 n4
    dsimp only at n1 n2 n3 n4 ⊢
    rw [Array.toList_push] at n1
    have p1 : (l ++ [(κ.hash k, v)]).Perm es1.toList := (pm.append_right _).trans n1.symm
    have nd1 : (ks ++ [k]).Nodup := List.nodup_append.mpr ⟨nd, by simp, fun x hx y hy e => hn (by rw [List.mem_singleton] at hy; rw [← hy, ← e]; exact hx)⟩
    have b1 : es1.size < scanBound := by
      have := n1.length_eq
      simp only [Array.length_toList, List.length_append, List.length_cons, List.length_nil] at this
      omega
    have led1 : w.params.followText "set-order" = true ∨ t1.led = true := by rw [n4]; exact hl
    have r1 := rw1.snoc hk hv
    refine wpAny_bind (gw _ _ _ ?_)
    split
    · refine wpAny_bind ?_
      rw [hashByValue_scannable 8 hv]
      refine wpAny_pure ?_
      refine setG_put gw ho hx hd p1 r1 nd1 b1 ?_ ?_ ?_ fun h' sb r => wpAny_pure (fin h' sb r)
      all_goals split
      · exact n2
      · exact SetTable.fits_plain_off n2
      · exact n3
      · exact n3
      · exact led1
      · exact led1
    · refine wpAny_bind (wpAny_pure ?_)
      simp only [↓reduceIte]
      exact setG_put gw ho hx hd p1 r1 nd1 b1 n2 n3 led1 fun h' sb r => wpAny_pure (fin h' sb r)
/-- a.add(v) -/
theorem SetG.add {k : K} {v : Value} {Q : Value → Shared → Prop} (R : SetG κ s.heap a ks) (hk : κ.is k v = true) (hv : v.scannable = true) (room : ks.length + 1 < scanBound)
    (hQ : ∀ h', Heap.SameBut a s.heap h' → SetG κ h' a (insK k ks) → Q .none { s with heap := h', toks := s.toks + 1 }) :
    wpAny (model P w) A (call (.builtin "set.add") [.ref a, v]) Q E s := by
  refine wpAny_call_entry F.slot_set_add R.is F.entry_set_add ?_ (F.args_set_add_2 _ _)
  unfold Builtin.«set.add» Builtin.Frozenset.oneOther
  simp only [List.isEmpty_nil, bind_assoc]
  unfold Builtin.Frozenset.addrOf setAdd
  refine wpAny_bind (wpAny_pure ?_)
  try dsimp only
  refine wpAny_bind (wpAny_pure ?_)
  try dsimp only
  refine wpAny_bind (wpAny_holding (wpAny_bind (κ.pyHash hk ?_)))
  refine SetG.lay (s := { s with toks := s.toks + 1 }) R hk hv room fun b h' sb r => ?_
  show wpAny _ _ (ret Value.none) _ _ _
  exact wpAny_pure ⟨_, rfl, hQ h' sb r⟩
end

/-! ### in the hand layer -/
abbrev KK (P : Program) (w : World) : PySem.KeyKind P w Key := mixKind P w
def SetH (P : Program) (w : World) (a : Addr) (ks : List Key) : HO := .ext fun h => SetG (KK P w) h a ks
section
variable {X : Cx} {pins : List (Addr × Obj)} {σ : L2.St} {H : Hp} {s : Shared} {E : Value → Shared → Prop} {D : Addr} {ks : List Key}
theorem setH_ok {P : Program} {w : World} {H : Hp} {h : Heap} {a : Addr} (R : SetG (KK P w) h a ks) : ObjOk P w H h a (SetH P w a ks) := ⟨R, R.got, fun _ _ p k => p.stay k⟩
theorem setH_at (I : Inv X pins σ H s) (e : H D = some (SetH X.prog X.w D ks)) : SetG (KK X.prog X.w) s.heap D ks := (I.hok D _ e).1
theorem setH_add {k : Key} {v : Value} {Q : Value → Shared → Prop} (I : Inv X pins σ H s) (e : H D = some (SetH X.prog X.w D ks)) (r : RelV (kV k) v) (room : ks.length + 1 < scanBound)
    (h : ∀ s', Inv X pins σ (upd H D (SetH X.prog X.w D (insK k ks))) s' → Q .none s') : wpAny (model X.prog X.w) X.A (call (.builtin "set.add") [.ref D, v]) Q E s :=
  (setH_at I e).add (kV_is r) (key_scan r) room fun h' sb new => h _ (I.write (e := D) (t' := s.toks + 1) (by rw [e]; trivial) (.inl rfl) (fun b u hb hu => (sb.2 b hb).trans hu) new.got (setH_ok new))

theorem rows_strs : ∀ {ss : List Str} {es : List (Int × Value)} {P : Program} {w : World}, Rows1 (KK P w) (ss.map Sum.inr) es → StrsAre (es.map (·.2)) ss
  | [], _, _, _, .nil => .nil
  | x :: ss, _, _, _, .cons h _ r => by
    obtain ⟨tk, e2⟩ : ∃ tk, _ = Value.str x tk := Value.isStrOf_shape (show Value.isStrOf x _ = true from h)
    rw [e2]
    exact .cons x tk (rows_strs r)
theorem strs_perm {vs us : List Value} {ss : List Str} (h : StrsAre vs ss) (p : us.Perm vs) : ∃ ts, StrsAre us ts ∧ ts.Perm ss := by
  have a : StrsAre us (us.map strOf) := strsAre_map us fun v hv => h.all v (p.mem_iff.mp hv)
  have b := p.map strOf
  rw [h.strs] at b
  exact ⟨_, a, b⟩
/-- sorted of a set of texts -/
def rSortSt (X : Cx) : List V → Hp → VK → Prop := fun xs H Q => ∃ (a : Addr) (ss : List Str), xs = [.ref a] ∧ H a = some (SetH X.prog X.w a (ss.map Sum.inr)) ∧ ss.length < 64 ∧
  ∀ (ys : List Str) (p : Addr), ys.Perm ss → sortedS ys = true → H p = none → Q (.ref p) (upd H p (.lst (ys.map V.str)))
theorem cr_sortSt (hc : X.calm = true) : CallR X (.builtin "sorted") (rSortSt X) := by
  intro pins s σ H xs us Q I r ⟨a, ss, e0, ha, few, q⟩
  subst e0
  rw [Vals.ref1 r]
  obtain ⟨o, es, ep, t, l, ho, hx, hd, pm, rws, nd, hb, hf, hr, hl⟩ := setH_at I ha
  have n0 : ss.length = es.size := by
    have := rws.len
    rw [List.length_map, pm.length_eq, Array.length_toList] at this
    exact this
  refine Calls.call_function_entry kind_sorted plain_sorted entry_sorted (args_sorted1 _) ?_
  unfold Builtin.«sorted»
  refine wpAny_bind (m := checkCount "sorted" 1 1 _) (wpAny_pure ?_)
  refine wpAny_bind (collect_set (A := X.A.in1) (I.ok.hd hc) ⟨o, ho, hx.1, hd⟩ hf hb hr hl fun s1 vs k1 z1 g1 o1 pv => ?_)
  obtain ⟨ts, st, pt⟩ := strs_perm (rows_strs rws) (pv.trans (pm.symm.map _))
  have n1 : vs.length < 64 := by
    rw [pv.length_eq, List.length_map, Array.length_toList]
    omega
  refine wpAny_bind (wpAny_newList ?_ (by rw [sizeLine_eq]; omega))
  have at1 : (s1.heap.push (seqObj "list" vs.toArray 0)).get? s1.heap.objs.size = some (seqObj "list" vs.toArray 0) := Heap.get?_push_size _ rfl
  refine wpAny_bind (wpAny_holding (wpAny_call_entry slot_list_sort ⟨_, at1, rfl⟩ entry_list_sort
    (list_sort_treeK strKind_oneLt at1 st.keysOf (fun v1 v2 rest e => keyKind_strs (by rw [← e]; exact st)) n1 fun st' a1 a2 => ⟨_, rfl, ?_⟩) (args_list_sort _)))
  refine wpAny_pure ⟨_, rfl, ?_⟩
  obtain ⟨ys, b1, b2, b3⟩ := sorted_out_str st a1 a2
  obtain ⟨c, hc'⟩ := sortedHeap_at (vs := vs) (out := (arrOf st').map (·.2)) at1
  have hn : H s1.heap.objs.size = none := I.hok.fresh z1
  have keep : ∀ b u, s.heap.get? b = some u → (sortedHeap (s1.heap.push (seqObj "list" vs.toArray 0)) s1.heap.objs.size vs ((arrOf st').map (·.2))).get? b = some u := fun b u e => by
    have e1 := k1 b u e
    have lt := Heap.lt_size e1
    rw [sortedHeap_old (Nat.ne_of_lt lt) (by rw [size_push']; exact Nat.lt_succ_of_lt lt)]
    exact Heap.get?_push_of_some _ e1
  have hlen : (ys.map V.str).length ≤ sizeLine := by
    rw [List.length_map, b2.length_eq, pt.length_eq, sizeLine_eq]
    omega
  refine ⟨.ref s1.heap.objs.size, upd H s1.heap.objs.size (.lst (ys.map V.str)), ?_, rfl, q ys _ (b2.trans pt) b3 hn⟩
  exact I.call' (ch := []) o1 (Un.laid keep z1 hn) (I.hok.laid keep z1 ⟨hlen, _, c, vals_of_strs b1, hc'⟩) (by rw [g1]; exact I.bare) (fun _ z => nomatch z)
/-- len of a set -/
def rLenSt (X : Cx) : List V → Hp → VK → Prop := fun xs H Q => ∃ (a : Addr) (ks : List Key), xs = [.ref a] ∧ H a = some (SetH X.prog X.w a ks) ∧ Q (.int ks.length) H
theorem cr_lenSt : CallR X (.builtin "len") (rLenSt X) := by
  intro pins s σ H xs us Q I r ⟨a, ks, e0, ha, q⟩
  subst e0
  rw [Vals.ref1 r]
  obtain ⟨o, es, ep, t, l, ho, hx, hd, pm, rws, nd, hb, hf, hr, hl⟩ := setH_at I ha
  have n0 : ks.length = es.size := by rw [rws.len, pm.length_eq, Array.length_toList]
  refine call_len_set ho hx hd hf (by unfold scanBound at hb; omega) ⟨.int ks.length, H, I.tok _, ⟨_, by rw [n0]⟩, q⟩
end
end Mi

namespace Mi
open PySem L2 PySem.Spec PyProof.Rows

/-! ## Sets 2: {x for .. in .. if .. for .. in .. if ..} -/
/-- the expression -/
abbrev ScE (x a0 w0 a1 w1 : Expr) (c0 c1 : List Expr) (sc : Scope) (pos : Pos) : Expr := .SetComp x [⟨a0, w0, c0, 0⟩, ⟨a1, w1, c1, 0⟩] sc pos
section
variable {prog : Program} {w : World} {A : Around} {R : Result → Shared → Prop} {s : Shared} {x a0 w0 a1 w1 : Expr} {c0 c1 : List Expr} {sc : Scope} {pos : Pos} {it acc : Value}
/-- the turn of the first for -/
theorem scT0 {env : PySem.Env} : compTurn (ScE x a0 w0 a1 w1 c0 c1 sc pos) 0 it acc env = (do
    standAt w0.pos
    match ← pyNext it with
    | none => pure (.done .next)
    | some u =>
      letOwnedTupleGo a0 it u
      assign a0 env u
      let mut yes := true
      for c in c0 do
        if yes then yes ← isTrue c env (eval c env)
      if yes then
        let v ← eval w1 env
        standAt w1.pos
        let v ← foldedSetIterable w1 env v
        let _ ← runOwn (.compStart (ScE x a0 w0 a1 w1 c0 c1 sc pos) 1 (← holding [v] (pyIter v)) acc env) env
      again (.compLoop (ScE x a0 w0 a1 w1 c0 c1 sc pos) 0 it acc env)) := rfl
/-- the turn of the second -/
theorem scT1 {env : PySem.Env} : compTurn (ScE x a0 w0 a1 w1 c0 c1 sc pos) 1 it acc env = (do
    standAt w1.pos
    match ← pyNext it with
    | none => pure (.done .next)
    | some u =>
      letOwnedTupleGo a1 it u
      assign a1 env u
      let mut yes := true
      for c in c1 do
        if yes then yes ← isTrue c env (eval c env)
      if yes then
        (do let v ← eval x env; standAt x.pos; let _ ← call (.builtin "set.add") [acc, v])
      again (.compLoop (ScE x a0 w0 a1 w1 c0 c1 sc pos) 1 it acc env)) := rfl
/-- what the tests of a clause do -/
abbrev tests (cs : List Expr) (env : PySem.Env) : Sem Bool := forIn cs true fun c r => if r = true then do let ok ← isTrue c env (eval c env); pure (ForInStep.yield ok) else pure (ForInStep.yield r)
theorem scL0 {env : PySem.Env} (hs : ∀ v, foldedSetIterable w1 env v = pure v) (I : Nat → Shared → Prop)
    (turn : ∀ n s, I n s → wpAny (model prog w) A (pyNext it) (fun r s1 => match r with
      | none => R (.ok .next) s1
      | some u => wpAny (model prog w) A (letOwnedTupleGo a0 it u) (fun _ s2 => wpAny (model prog w) A (assign a0 env u) (fun _ s3 => wpAny (model prog w) A (tests c0 env) (fun yes s4 =>
          if yes = true then wpAny (model prog w) A (eval w1 env) (fun v s5 => wpAny (model prog w) A (pyIter v) (fun it1 s6 =>
              codeAny (model prog w) A (.compStart (ScE x a0 w0 a1 w1 c0 c1 sc pos) 1 it1 acc env) (fun r s' => match r with
                | .ok _ => ∃ m, m < n ∧ I m s'
                | .error _ => False) s6) (notedBy (model prog w) A env fun e s' => R (.error e) s') s5) (notedBy (model prog w) A env fun e s' => R (.error e) s') s4
          else ∃ m, m < n ∧ I m s4) (notedBy (model prog w) A env fun e s' => R (.error e) s') s3) (notedBy (model prog w) A env fun e s' => R (.error e) s') s2) (notedBy (model prog w) A env fun e s' => R (.error e) s') s1)
      (notedBy (model prog w) A env fun e s' => R (.error e) s') s)
    (n : Nat) (h : I n s) : codeAny (model prog w) A (.compLoop (ScE x a0 w0 a1 w1 c0 c1 sc pos) 0 it acc env) R s := by
  refine codeAny_loop rfl I (fun n s hI => ?_) n h
  show wpAny _ A ((compTurn (ScE x a0 w0 a1 w1 c0 c1 sc pos) 0 it acc env).onRaise fun e => do noteFrame e env; theTreesLotGoes e) _ _ s
  refine wpAny_noted ?_
  rw [scT0]
  refine wpAny_bind (wpAny_standAt (wpAny_bind (wpAny_mono (turn n s hI) (fun r s1 q1 => ?_) fun _ _ z => z)))
  cases r with
  | none => exact wpAny_pure q1
  | some u =>
    refine wpAny_bind (wpAny_mono q1 (fun _ s2 q2 => wpAny_bind (wpAny_mono q2 (fun _ s3 q3 => wpAny_bind (wpAny_mono q3 (fun yes s4 q4 => ?_) fun _ _ z => z)) fun _ _ z => z)) fun _ _ z => z)
    cases yes with
    | false => exact wpAny_pure ⟨rfl, q4⟩
    | true =>
      refine wpAny_bind (wpAny_mono q4 (fun v s5 q5 => wpAny_bind (wpAny_standAt (wpAny_bind (wpAny_of_eq (hs v) (wpAny_bind (wpAny_holding (wpAny_mono q5 (fun it1 s6 q6 => wpAny_bind (wpAny_runOwn ?_)) fun _ _ z => z))))))) fun _ _ z => z)
      rw [Around.mark_none]
      refine codeAny_mono q6 fun r s7 q7 => ?_
      cases r with
      | error e => exact q7.elim
      | ok f =>
        first
          | exact wpAny_pure ⟨rfl, q7⟩
          | exact wpAny_bind (wpAny_pure (wpAny_pure ⟨rfl, q7⟩))
theorem scL1 {env : PySem.Env} (I : Nat → Shared → Prop)
    (turn : ∀ n s, I n s → wpAny (model prog w) A (pyNext it) (fun r s1 => match r with
      | none => R (.ok .next) s1
      | some u => wpAny (model prog w) A (letOwnedTupleGo a1 it u) (fun _ s2 => wpAny (model prog w) A (assign a1 env u) (fun _ s3 => wpAny (model prog w) A (tests c1 env) (fun yes s4 =>
          if yes = true then wpAny (model prog w) A (eval x env) (fun v s5 => wpAny (model prog w) A (call (.builtin "set.add") [acc, v]) (fun _ s6 => ∃ m, m < n ∧ I m s6) (notedBy (model prog w) A env fun e s' => R (.error e) s') s5) (notedBy (model prog w) A env fun e s' => R (.error e) s') s4
          else ∃ m, m < n ∧ I m s4) (notedBy (model prog w) A env fun e s' => R (.error e) s') s3) (notedBy (model prog w) A env fun e s' => R (.error e) s') s2) (notedBy (model prog w) A env fun e s' => R (.error e) s') s1)
      (notedBy (model prog w) A env fun e s' => R (.error e) s') s)
    (n : Nat) (h : I n s) : codeAny (model prog w) A (.compLoop (ScE x a0 w0 a1 w1 c0 c1 sc pos) 1 it acc env) R s := by
  refine codeAny_loop rfl I (fun n s hI => ?_) n h
  show wpAny _ A ((compTurn (ScE x a0 w0 a1 w1 c0 c1 sc pos) 1 it acc env).onRaise fun e => do noteFrame e env; theTreesLotGoes e) _ _ s
  refine wpAny_noted ?_
  rw [scT1]
  refine wpAny_bind (wpAny_standAt (wpAny_bind (wpAny_mono (turn n s hI) (fun r s1 q1 => ?_) fun _ _ z => z)))
  cases r with
  | none => exact wpAny_pure q1
  | some u =>
    refine wpAny_bind (wpAny_mono q1 (fun _ s2 q2 => wpAny_bind (wpAny_mono q2 (fun _ s3 q3 => wpAny_bind (wpAny_mono q3 (fun yes s4 q4 => ?_) fun _ _ z => z)) fun _ _ z => z)) fun _ _ z => z)
    cases yes with
    | false => exact wpAny_pure ⟨rfl, q4⟩
    | true =>
      exact wpAny_bind (wpAny_bind (wpAny_mono q4 (fun v s5 q5 => wpAny_bind (wpAny_standAt (wpAny_bind (wpAny_mono q5 (fun _ s6 q6 => wpAny_pure (wpAny_pure ⟨rfl, q6⟩)) fun _ _ z => z)))) fun _ _ z => z))
theorem scS1 {env : PySem.Env} (h0 : codeAny (model prog w) A (.compLoop (ScE x a0 w0 a1 w1 c0 c1 sc pos) 1 it acc env) R s)
    (h : wpAny (model prog w) A (pyIter it) (fun it' s' => codeAny (model prog w) A (.compLoop (ScE x a0 w0 a1 w1 c0 c1 sc pos) 1 it' acc env) R s') (notedBy (model prog w) A env fun e s' => R (.error e) s') s) :
    codeAny (model prog w) A (.compStart (ScE x a0 w0 a1 w1 c0 c1 sc pos) 1 it acc env) R s := by
  refine codeAny_of_tree ?_
  show wpAny _ _ ((compStart (ScE x a0 w0 a1 w1 c0 c1 sc pos) 1 it acc env).onRaise fun e => do noteFrame e env; standAt theWindowsPlace) _ _ s
  refine wpAny_notedAt ?_
  unfold compStart
  show wpAny _ _ (ask >>= _) _ _ s
  refine wpAny_bind (wpAny_askSetting (wpAny_ite ?_))
  split
  · first
      | exact wpAny_bind (wpAny_pure (wpAny_pure ⟨rfl, h0⟩))
      | exact wpAny_pure ⟨rfl, h0⟩
  · first
      | exact wpAny_bind (wpAny_rule (wpAny_bind (wpAny_standAt (wpAny_bind (wpAny_mono h (fun _ _ q => wpAny_pure ⟨rfl, q⟩) fun _ _ z => z)))))
      | (refine wpAny_bind (wpAny_rule ?_); show wpAny _ _ (standAt w1.pos >>= _) _ _ s; exact wpAny_bind (wpAny_standAt (wpAny_bind (wpAny_mono h (fun _ _ q => wpAny_pure ⟨rfl, q⟩) fun _ _ z => z))))
end

/-- a block's rules, wherever the block stands -/
def InBlk (X : Cx) (sc : Scope) (P : Cx → Prop) : Prop := ∀ (s : Shared) (H : Hp) (C : Addr) (cl : List (Str × Addr)) (fp : List Addr), P (X.blk s H sc (compEnvC sc cl C X.env) fp)
def tSc2 (X : Cx) (wi : TI) (g : TG) (tt : TT) (wi1 : TI) (g1 : TG) (tt1 : TT) (te : TE) (vs vs1 : List Nat) : TE := fun σ H Q => wi σ H fun J H1 => ∀ D, H1 D = none →
  ∃ W : Nat → Nat → Hp → Prop, (∃ m, W 0 m (upd H1 D (SetH X.prog X.w D []))) ∧ ∀ i m H, W i m H → (J.stop i H ∧ Q (.ref D) H) ∨ (J.go i H ∧ ∃ N : Hp → Prop, (∀ H', N H' → ∃ m', m' < m ∧ W (i + 1) m' H') ∧
    ∀ y H', J.yld i H y H' → g y (wipe σ vs) H' fun σ2 H2 => wipe σ2 vs = wipe σ vs ∧ tt σ2 H2 fun b H3 =>
      if b = true then wi1 σ2 H3 fun J1 H4 => ∃ W1 : Nat → Nat → Hp → Prop, (∃ m, W1 0 m H4) ∧ ∀ j k H, W1 j k H → (J1.stop j H ∧ N H) ∨ (J1.go j H ∧ ∃ N1 : Hp → Prop, (∀ H', N1 H' → ∃ k', k' < k ∧ W1 (j + 1) k' H') ∧
        ∀ y H', J1.yld j H y H' → g1 y (wipe σ2 vs1) H' fun σ3 H5 => wipe σ3 vs1 = wipe σ2 vs1 ∧ tt1 σ3 H5 fun b H6 =>
          if b = true then te σ3 H6 fun z H7 => ∃ ks k, H7 D = some (SetH X.prog X.w D ks) ∧ z = kV k ∧ ks.length + 1 < scanBound ∧ N1 (upd H7 D (SetH X.prog X.w D (insK k ks))) else N1 H6)
      else N H3)
section
variable {X : Cx} {x a0 w0 a1 w1 : Expr} {c0 c1 : List Expr} {sc : Scope} {own : List (Str × Nat)} {vs1 : List Nat} {pos : Pos} {wi wi1 : TI} {g g1 : TG} {tt tt1 : TT} {te : TE}
theorem pe_sc2 (hc : X.calm = true) (nd : X.N.Nodup) (hi : PI X a0 w0 wi) (ok : BlkOk X.N X.env.scope sc own) (hv : ∀ i ∈ vs1, i ∈ own.map (·.2))
    (hg : InBlk X sc fun Y => PG Y a0 g) (ht : InBlk X sc fun Y => PTs Y c0 tt) (hi1 : InBlk X sc fun Y => PI Y a1 w1 wi1) (hg1 : InBlk X sc fun Y => PG Y a1 g1) (ht1 : InBlk X sc fun Y => PTs Y c1 tt1) (he : InBlk X sc fun Y => PE Y x te)
    (f0 : ∀ v, foldedSetIterable w0 X.env v = pure v := by intro _; rfl) (f1 : ∀ env v, foldedSetIterable w1 env v = pure v := by intro _ _; rfl) :
    PE X (ScE x a0 w0 a1 w1 c0 c1 sc pos) (tSc2 X wi g tt wi1 g1 tt1 te (own.map (·.2)) vs1) := by
  refine ⟨fun pins s σ H Q I h => ?_⟩
  rw [PpSet.eval_SetComp]
  have fr : ∀ y ∈ sc.names, y.2 = .free → ∃ c, X.env.cells.lookup y.1 = some c := fun y hy e => (ok.free y hy e).elim (fun k => I.ok.has _ (.inl k)) fun k => I.ok.has _ (.inr k)
  refine wpAny_comprehension_free (use := none) rfl f0 (closure_ok fr) ok.kind (fun y hy e => by rw [ok.uniq y hy, e]) (thn (hi.run pins s σ H _ I h) fun xv s1 hx => thn hx fun itv s2 h2 => ?_)
  obtain ⟨it, fp, tn, J, H2, rfl, I2, T, st2, fp2, q⟩ := h2
  refine PpSet.newSet_ok (newEnv_comp ?_)
  generalize hD : s2.heap.objs.size = D
  have nD : H2 D = none := I2.hok.fresh (Nat.le_of_eq hD)
  obtain ⟨W, ⟨m0, w0'⟩, turn⟩ := q D nD
  -- the set stands
  generalize hs3 : ({ s2 with heap := s2.heap.push { cls := .type "set", dict := none, data := .set #[] 0 (.fresh 0 0 (!X.w.params.followText "set-order")) } } : Shared) = s3
  have old : ∀ b o, s2.heap.get? b = some o → s3.heap.get? b = some o := fun b o e => by rw [← hs3]; exact Heap.get?_push_of_some _ e
  have big : s2.heap.objs.size < s3.heap.objs.size := by rw [← hs3]; simp
  have I3 : Inv X pins σ (upd H2 D (SetH X.prog X.w D [])) s3 := by
    rw [← hs3]
    refine I2.laid (t' := s2.toks) (fun b o e => Heap.get?_push_of_some _ e) (Nat.le_of_eq hD) ?_
    rw [← hD]
    exact setH_ok (setG_new s2.heap)
  have fp3 : ∀ b ∈ fp, FpOk X pins (upd H2 D (SetH X.prog X.w D [])) b ∧ b < s3.heap.objs.size := fun b hb => by
    obtain ⟨o, e, _⟩ := T.obj _ _ st2 b hb
    have lt := Heap.lt_size e
    refine ⟨⟨?_, (fp2 b hb).2⟩, Nat.lt_trans lt big⟩
    rw [upd_ne (hD ▸ Nat.ne_of_lt lt)]
    exact (fp2 b hb).1
  have st3 : tn 0 s3.heap := T.keep _ _ _ st2 fun b _ o e => old b o e
  have I4 := block_start I3 ok nd fp3
  generalize hH3 : upd H2 D (SetH X.prog X.w D []) = H3 at I3 I4 w0' fp3
  have pg := hg s3 H3 s3.heap.objs.size (cellsFrom (s3.heap.objs.size + 1) sc.names (cloFrom X.env.cells sc.names [])) fp
  have pt := ht s3 H3 s3.heap.objs.size (cellsFrom (s3.heap.objs.size + 1) sc.names (cloFrom X.env.cells sc.names [])) fp
  have pe := he s3 H3 s3.heap.objs.size (cellsFrom (s3.heap.objs.size + 1) sc.names (cloFrom X.env.cells sc.names [])) fp
  have pi1 := hi1 s3 H3 s3.heap.objs.size (cellsFrom (s3.heap.objs.size + 1) sc.names (cloFrom X.env.cells sc.names [])) fp
  have pg1 := hg1 s3 H3 s3.heap.objs.size (cellsFrom (s3.heap.objs.size + 1) sc.names (cloFrom X.env.cells sc.names [])) fp
  have pt1 := ht1 s3 H3 s3.heap.objs.size (cellsFrom (s3.heap.objs.size + 1) sc.names (cloFrom X.env.cells sc.names [])) fp
  show codeAny _ _ (.compStart (ScE x a0 w0 a1 w1 c0 c1 sc pos) 0 (.ref it) (.ref D) (compEnvC sc (cellsFrom (s3.heap.objs.size + 1) sc.names (cloFrom X.env.cells sc.names [])) s3.heap.objs.size X.env)) (compPost (model X.prog X.w) X.A X.xe none (EP X pins σ Q) (.ref D) s3.heap.objs.size) { s3 with heap := pushCells (s3.heap.push { cls := .type "dict", data := .dict #[] }) sc.names }
  generalize hce : compEnvC sc (cellsFrom (s3.heap.objs.size + 1) sc.names (cloFrom X.env.cells sc.names [])) s3.heap.objs.size X.env = ce at I4 pg pt pe pi1 pg1 pt1 ⊢
  have cl : ce.locals = s3.heap.objs.size := by rw [← hce]; rfl
  generalize hs4 : ({ s3 with heap := pushCells (s3.heap.push { cls := .type "dict", data := .dict #[] }) sc.names } : Shared) = s4 at I4 ⊢
  have st4 : tn 0 s4.heap := T.keep _ _ _ st3 fun b _ o e => by rw [← hs4]; exact pushCells_keeps _ _ _ _ (Heap.get?_push_of_some _ e)
  let Y := X.blk s3 H3 sc ce fp
  have stat : ∀ {σ' : L2.St} {H' : Hp} {s' : Shared}, Inv Y [] σ' H' s' → (∀ b ∈ fp, H' b = none) → ∀ b ∈ fp, FpOk Y [] H' b := fun {σ' H' s'} I' hn b hb =>
    ⟨hn b hb, (I'.ok.exf b hb).1, I'.ok.exfs b hb, .inl hb, fun y c e => (I'.ok.exf b hb).2 y c e, fun p hp => absurd (show p ∈ ([] : List (Addr × Obj)) ++ [] from hp) (by simp)⟩
  -- between two turns of the first for
  let B : Nat → Shared → Prop := fun n s' => ∃ i H', Inv Y [] (wipe σ (own.map (·.2))) H' s' ∧ tn i s'.heap ∧ (∀ b ∈ fp, H' b = none) ∧ W i n H'
  have loop : codeAny (model X.prog X.w) X.A (.compLoop (ScE x a0 w0 a1 w1 c0 c1 sc pos) 0 (.ref it) (.ref D) ce) (compPost (model X.prog X.w) X.A X.xe none (EP X pins σ Q) (.ref D) s3.heap.objs.size) s4 := by
    refine scL0 (f1 ce) B ?_ m0 ⟨0, H3, I4, st4, fun b hb => (fp3 b hb).1.1, w0'⟩
    rintro n s5 ⟨i, H5, I5, st5, n5, w5⟩
    rcases turn i n H5 w5 with ⟨stop, qq⟩ | ⟨go, N, hN, step⟩
    · refine thnF (T.done Y rfl rfl rfl hc i [] s5 _ H5 (fun _ _ => False) I5 (stat I5 n5) st5 stop) fun r s6 ⟨hr, I6⟩ => ?_
      subst hr
      have I7 : Inv X pins σ H5 s6 := I3.call' (ch := fp) I6.os I6.base I6.hok I6.bare fun b hb =>
        ⟨(fp3 b hb).1.2.2.2.1, (fp3 b hb).1.2.1, (fp3 b hb).1.2.2.2.2.1, (fp3 b hb).1.2.2.2.2.2⟩
      have nC : H5 s3.heap.objs.size = none := by
        have z : H5 ce.locals = none := I6.free
        rwa [cl] at z
      obtain ⟨m, hn, _⟩ := I6.loc
      have hn : s6.heap.Ns ce.locals m := hn
      rw [cl] at hn
      refine ⟨m, hn, fun h'' sb => ?_⟩
      obtain ⟨k0, k1, k2, k3, k4, k5⟩ := I3.fpOk (Nat.le_refl _) nC
      exact ⟨.ref D, H5, I7.turned (t' := s6.toks) (fun b o hb e => (sb.2 b hb).trans e) k0 k1 k3 k4 k5, rfl, qq⟩
    · refine thnF (T.item Y rfl rfl rfl hc i [] s5 _ H5 (fun _ _ => False) I5 (stat I5 n5) st5 go) fun r s6 ⟨u, hr, h6⟩ => ?_
      subst hr
      refine thnF h6 fun _ s7 ⟨y, H7, I7, r7, y7, st7, n7⟩ => ?_
      have I7p := I7.pinned (stat I7 n7) (T.obj _ _ st7)
      refine thnF (pg.run _ s7 _ H7 y u _ I7p r7 (step y H7 y7)) fun _ s8 ⟨σ8, H8, I8, off8, q8⟩ => thnF (pt.run _ s8 σ8 H8 _ I8 q8) fun b s9 ⟨H9, I9, q9⟩ => ?_
      have len8 : (wipe σ (own.map (·.2))).length = σ8.length := by rw [← off8, wipe_length]
      have sub8 : ∀ (j : Nat) v, (wipe σ (own.map (·.2)))[j]? = some (some v) → σ8[j]? = some (some v) ∧ (wipe σ8 vs1)[j]? = some (some v) := fun j v e => by
        rw [← off8] at e
        obtain ⟨e1, e2⟩ := wipe_some e
        exact ⟨e1, by rw [wipe_out fun z => e2 (hv j z)]; exact e1⟩
      -- a turn is over
      have over : ∀ {σ9 : L2.St} {s' : Shared} {H' : Hp}, Inv Y ([] ++ pinsAt fp s7.heap) σ9 H' s' → (wipe σ (own.map (·.2))).length = σ9.length → (∀ (j : Nat) v, (wipe σ (own.map (·.2)))[j]? = some (some v) → σ9[j]? = some (some v)) → N H' → ∃ m, m < n ∧ B m s' := fun {σ9 s' H'} I' hl hk nx => by
        obtain ⟨m', lt, w'⟩ := hN H' nx
        have pin : ∀ b ∈ fp, ∀ o, s7.heap.get? b = some o → s'.heap.get? b = some o ∧ H' b = none := fun b hb o e =>
          ⟨(I'.pin (b, o) (List.mem_append_right _ (List.mem_append_right _ (mem_pinsAt hb e)))).1, (I'.pin (b, o) (List.mem_append_right _ (List.mem_append_right _ (mem_pinsAt hb e)))).2.1⟩
        exact ⟨m', lt, i + 1, H', (I'.unpinned (pins := [])).weak hl hk, T.keep _ _ _ st7 fun b hb o e => (pin b hb o e).1, fun b hb => let ⟨o, e, _⟩ := T.obj _ _ st7 b hb; (pin b hb o e).2, w'⟩
      cases b with
      | false =>
        simp only [Bool.false_eq_true, if_false] at q9 ⊢
        exact over I9 len8 (fun j v e => (sub8 j v e).1) q9
      | true =>
        simp only [if_true] at q9 ⊢
        refine thnF (pi1.run _ s9 σ8 H9 _ I9 q9) fun xv s10 hx => thnF hx fun itv s11 h11 => ?_
        obtain ⟨it1, fpi, tn1, J1, H11, rfl, I11, T1, st11, f11, W1, ⟨m1, w1'⟩, turn1⟩ := h11
        have stat1 : ∀ {H' : Hp}, (∀ b ∈ fpi, H' b = none) → ∀ b ∈ fpi, FpOk Y ([] ++ pinsAt fp s7.heap) H' b := fun hn b hb => ⟨hn b hb, (f11 b hb).2⟩
        let B1 : Nat → Shared → Prop := fun k s' => ∃ j H', Inv Y ([] ++ pinsAt fp s7.heap) (wipe σ8 vs1) H' s' ∧ tn1 j s'.heap ∧ (∀ b ∈ fpi, H' b = none) ∧ W1 j k H'
        have loop1 : codeAny (model X.prog X.w) X.A (.compLoop (ScE x a0 w0 a1 w1 c0 c1 sc pos) 1 (.ref it1) (.ref D) ce) (fun r s' => match r with
            | .ok _ => ∃ m, m < n ∧ B m s'
            | .error _ => False) s11 := by
          refine scL1 B1 ?_ m1 ⟨0, H11, I11.weak (wipe_length _ _) (fun j v e => (wipe_some e).1), st11, fun b hb => (f11 b hb).1, w1'⟩
          rintro k s12 ⟨j, H12, I12, st12, n12, w12⟩
          rcases turn1 j k H12 w12 with ⟨stop1, nx1⟩ | ⟨go1, N1, hN1, step1⟩
          · refine thnF (T1.done Y rfl rfl rfl hc j _ s12 (wipe σ8 vs1) H12 (fun _ _ => False) I12 (stat1 n12) st12 stop1) fun r s13 ⟨hr, I13⟩ => ?_
            subst hr
            exact over I13 (len8.trans (wipe_length σ8 vs1).symm) (fun j v e => (sub8 j v e).2) nx1
          · refine thnF (T1.item Y rfl rfl rfl hc j _ s12 (wipe σ8 vs1) H12 (fun _ _ => False) I12 (stat1 n12) st12 go1) fun r s13 ⟨u1, hr, h13⟩ => ?_
            subst hr
            refine thnF h13 fun _ s14 ⟨y1, H14, I14, r14, y14, st14, n14⟩ => ?_
            have I14p := I14.pinned (stat1 n14) (T1.obj _ _ st14)
            refine thnF (pg1.run _ s14 (wipe σ8 vs1) H14 y1 u1 _ I14p r14 (step1 y1 H14 y14)) fun _ s15 ⟨σ15, H15, I15, off15, q15⟩ => thnF (pt1.run _ s15 σ15 H15 _ I15 q15) fun b1 s16 ⟨H16, I16, q16⟩ => ?_
            have over1 : ∀ {s' : Shared} {H' : Hp}, Inv Y (([] ++ pinsAt fp s7.heap) ++ pinsAt fpi s14.heap) σ15 H' s' → N1 H' → ∃ m, m < k ∧ B1 m s' := fun {s' H'} I' nx => by
              obtain ⟨m', lt, w'⟩ := hN1 H' nx
              have pin : ∀ b ∈ fpi, ∀ o, s14.heap.get? b = some o → s'.heap.get? b = some o ∧ H' b = none := fun b hb o e =>
                ⟨(I'.pin (b, o) (List.mem_append_right _ (List.mem_append_right _ (mem_pinsAt hb e)))).1, (I'.pin (b, o) (List.mem_append_right _ (List.mem_append_right _ (mem_pinsAt hb e)))).2.1⟩
              exact ⟨m', lt, j + 1, H', I'.unpinned.weak (by rw [← off15, wipe_length]) (fun j v e => by rw [← off15] at e; exact (wipe_some e).1), T1.keep _ _ _ st14 fun b hb o e => (pin b hb o e).1, fun b hb => let ⟨o, e, _⟩ := T1.obj _ _ st14 b hb; (pin b hb o e).2, w'⟩
            cases b1 with
            | false =>
              simp only [Bool.false_eq_true, if_false] at q16 ⊢
              exact over1 I16 q16
            | true =>
              simp only [if_true] at q16 ⊢
              refine thnF (pe.run _ s16 σ15 H16 _ I16 q16) fun z s17 ⟨yv, H17, I17, r17, ks, kk, hks, ez, room, nx⟩ => ?_
              subst ez
              exact setH_add (X := Y) I17 hks r17 room fun s18 I18 => over1 I18 nx
        exact scS1 loop1 (T1.self X.A 0 _ _ _ st11 loop1)
  exact PpSet.codeAny_compStart_set loop (T.self X.A 0 _ _ _ st4 loop)
end
end Mi

namespace Mi
open PySem L2 PySem.Spec PyProof.Rows

/-! ## Sets 3: texts in sequence -/
theorem ltS_eq : ∀ a b : List Nat, ltS a b = ltCps a b
  | [], [] => rfl
  | [], _ :: _ => rfl
  | _ :: _, [] => rfl
  | a :: r, b :: t => by
    simp only [ltS, ltCps]
    by_cases h : a < b
    · simp [h]
    · by_cases h2 : b < a
      · have : a ≠ b := by omega
        simp [h, h2, this]
      · have : a = b := by omega
        subst this
        simp [ltS_eq r t]
theorem ltS_trans : ∀ {a b c : List Nat}, ltS b a = false → ltS c b = false → ltS c a = false
  | [], _, [], _, _ => rfl
  | _ :: _, _, [], h1, h2 => by rename_i b; cases b <;> simp_all [ltS]
  | [], b, _ :: _, h1, h2 => by cases b <;> simp_all [ltS]
  | a :: r, [], c :: t, h1, h2 => by simp [ltS] at h1
  | a :: r, b :: s, c :: t, h1, h2 => by
    simp only [ltS] at h1 h2 ⊢
    by_cases g1 : b < a <;> by_cases g2 : a < b <;> by_cases g3 : c < b <;> by_cases g4 : b < c <;> by_cases g5 : c < a <;> by_cases g6 : a < c <;> simp_all
    all_goals first | omega | exact ltS_trans h1 h2
theorem ltS_anti : ∀ {a b : List Nat}, ltS a b = false → ltS b a = false → a = b
  | [], [], _, _ => rfl
  | [], _ :: _, h, _ => by simp [ltS] at h
  | _ :: _, [], _, h => by simp [ltS] at h
  | a :: r, b :: t, h1, h2 => by
    simp only [ltS] at h1 h2
    by_cases g : a < b
    · simp [g] at h1
    · by_cases g2 : b < a
      · simp [g2] at h2
      · have : a = b := by omega
        subst this
        simp at h1 h2
        rw [ltS_anti h1 h2]
theorem ltS_asym : ∀ {a b : List Nat}, ltS a b = true → ltS b a = false
  | [], [], h => rfl
  | [], _ :: _, _ => rfl
  | _ :: _, [], h => by simp [ltS] at h
  | a :: r, b :: t, h => by
    simp only [ltS] at h ⊢
    by_cases g : a < b
    · have : ¬ b < a := by omega
      simp [g, this]
    · by_cases g2 : b < a
      · simp [g, g2] at h
      · simp [g, g2] at h ⊢
        exact ltS_asym h
theorem insO_perm (s : List Nat) : ∀ l : List (List Nat), (insO s l).Perm (s :: l)
  | [] => .refl _
  | t :: r => by
    unfold insO
    split
    · exact ((insO_perm s r).cons t).trans (.swap s t r)
    · exact .refl _
theorem sortS_perm : ∀ l : List (List Nat), (sortS l).Perm l
  | [] => .refl _
  | s :: r => (insO_perm s (sortS r)).trans ((sortS_perm r).cons s)
def Up (l : List (List Nat)) : Prop := l.Pairwise fun a b => ltS b a = false
theorem insO_up (s : List Nat) : ∀ {l : List (List Nat)}, Up l → Up (insO s l)
  | [], _ => List.pairwise_singleton _ _
  | t :: r, h => by
    obtain ⟨h1, h2⟩ := List.pairwise_cons.mp h
    unfold insO
    split
    · rename_i hl
      refine List.pairwise_cons.mpr ⟨fun u hu => ?_, insO_up s h2⟩
      rcases List.mem_cons.mp ((insO_perm s r).mem_iff.mp hu) with rfl | hu
      · exact ltS_asym hl
      · exact h1 u hu
    · rename_i hl
      refine List.pairwise_cons.mpr ⟨fun u hu => ?_, h⟩
      have hl' : ltS t s = false := by simpa using hl
      rcases List.mem_cons.mp hu with rfl | hu
      · exact hl'
      · exact ltS_trans hl' (h1 u hu)
theorem sortS_up : ∀ l : List (List Nat), Up (sortS l)
  | [] => List.Pairwise.nil
  | s :: r => insO_up s (sortS_up r)
theorem up_one {l l' : List (List Nat)} (h : Up l) (h' : Up l') (p : l.Perm l') : l = l' := p.eq_of_pairwise (fun a b _ _ x y => ltS_anti y x) h h'
theorem sortS_one {l l' : List (List Nat)} (p : l.Perm l') : sortS l = sortS l' := up_one (sortS_up l) (sortS_up l') (((sortS_perm l).trans p).trans (sortS_perm l').symm)
theorem rising_up : ∀ {x : Str} {l : List Str}, risingS x l = true → Up ((x :: l).map fun y => y.cps.toList)
  | x, [], _ => List.pairwise_singleton _ _
  | x, y :: l, h => by
    have h' : (!ltCps y.cps.toList x.cps.toList && risingS y l) = true := h
    simp only [Bool.and_eq_true, Bool.not_eq_true'] at h'
    have ih := rising_up h'.2
    rw [List.map_cons]
    refine List.pairwise_cons.mpr ⟨fun u hu => ?_, ih⟩
    have h0 : ltS y.cps.toList x.cps.toList = false := by rw [ltS_eq]; exact h'.1
    rw [List.map_cons] at hu
    rcases List.mem_cons.mp hu with rfl | hu
    · exact h0
    · exact ltS_trans h0 ((List.pairwise_cons.mp ih).1 u hu)
/-- the one sorted sequence -/
theorem sorted_is {ss : List (List Nat)} {ys : List Str} (p : ys.Perm (ss.map strV)) (h : sortedS ys = true) : ys = (sortS ss).map strV := by
  have q : (ys.map fun y => y.cps.toList).Perm ss := by
    have := p.map fun y => y.cps.toList
    rw [List.map_map] at this
    simpa only [Function.comp_def, strV_list, List.map_id'] using this
  have u : Up (ys.map fun y => y.cps.toList) := by
    cases ys with
    | nil => exact List.Pairwise.nil
    | cons x l => exact rising_up h
  have e := up_one u (sortS_up ss) (q.trans (sortS_perm ss).symm)
  rw [← e, List.map_map]
  exact (List.map_id' ys).symm
theorem okS_sort {ss : List (List Nat)} (h : ∀ s ∈ ss, okS s = true) : ∀ s ∈ sortS ss, okS s = true := fun s hs => h s ((sortS_perm ss).mem_iff.mp hs)
section
variable {X : Cx} {C : Cxt} {b : Nat} {W : WX} {ρ ρ' ρ0 ρ1 ρ2 : List Addr} {S S' S0 S1 S2 : Sto} {H H' H0 H1 H2 : Hp} {σ σ' : L2.St} {p q : Expr} {ps : List Expr} {pos : Pos} {fa fb fc : Env → Sto → Rs D} {l : Addr → Prop} {D : Addr}
theorem rps_strs {K : PySem.W.Frag} : ∀ {ss : List (List Nat)}, (∀ s ∈ ss, okS s = true) → Rps K ρ l H (ss.map .str) ((ss.map strV).map V.str)
  | [], _ => rfl
  | s :: r, h => ⟨_, _, rfl, ⟨rfl, h s (List.mem_cons_self ..)⟩, rps_strs fun t ht => h t (List.mem_cons_of_mem _ ht)⟩
theorem strs_rps {K : PySem.W.Frag} : ∀ {ds : List Mi.D} {xs : List V} {ss : List (List Nat)}, strsD ds = some ss → Rps K ρ l H ds xs → xs = (ss.map strV).map V.str ∧ ∀ s ∈ ss, okS s = true
  | [], xs, ss, e, h => by
    cases e
    exact ⟨h, fun s hs => absurd hs (by simp)⟩
  | d :: r, xs, ss, e, ⟨x, t, e2, h1, h2⟩ => by
    cases d with
    | str s =>
      obtain ⟨tt, e3, e4⟩ := Option.map_eq_some_iff.mp (show (strsD r).map (s :: ·) = some ss from e)
      subst e4
      obtain ⟨rfl, h4⟩ := strs_rps e3 h2
      obtain ⟨rfl, h5⟩ := h1
      exact ⟨e2, fun u hu => by
        rcases List.mem_cons.mp hu with rfl | hu
        · exact h5
        · exact h4 u hu⟩
    | _ => cases e
theorem pr_sorted (hX : X.K = C.K) (m : Bool) : CallR X (.builtin "sorted") (rPr C (.sorted m)) := by
  rintro pins s σ H xs us Q I r ⟨b, W, τ, ρ, S, ds, g, hs, o⟩
  simp only [prim, pSorted] at o
  split at o
  · obtain ⟨x, t, e, h1, h2⟩ := hs
    cases (show t = [] from h2); subst e
    split at o
    · rename_i ea
      obtain ⟨p, ys, rfl, q1, q2⟩ := valL g h1 ea
      split at o
      · rename_i ss e1
        split at o
        · rename_i few
          obtain ⟨rfl, ok⟩ := strs_rps e1 q2
          refine cr_sortedS pins s σ H _ us Q I r ⟨p, ss.map strV, rfl, hX ▸ q1, by rw [List.length_map]; exact few, fun zs p' h3 h4 hp => ?_⟩
          rw [sorted_is h3 h4]
          exact out_newL g (rps_strs (okS_sort ok)) hp o
        · exact o.elim
      · exact o.elim
    · exact o.elim
  · exact o.elim
/-- xs[::-1] -/
theorem d_rev {m : Bool} {k : Nat} {p1 p2 p3 : Pos} (hX : X.K = C.K) (ha : PE X p (tE C b W fa)) : PE X (.Subscript p (.Slice none none (some (.UnaryOp .USub (.Constant (.int 1) k p1) p2)) p3) pos) (tE C b W fun env S => (fa env S).to fun x S1 => match x.val S1 with
    | .lst l => newL m l.reverse S1
    | _ => .no) :=
  PE_sub (pe_revL ha) fun σ H Q ⟨ρ, S, env, a, o⟩ => tE_of a o.bind fun x S1 ρ1 H1 v le a1 rv o1 => by
    split at o1
    · rename_i e
      obtain ⟨p', ys, rfl, q1, q2⟩ := valL a1.good rv e
      exact ⟨p', ys, rfl, hX ▸ q1, fun z hz => out_newL a1.good q2.reverse hz o1⟩
    · exact o1.elim
theorem d_cpy (hX : X.K = C.K) {lo hi : Option Expr} {p2 : Pos} {fl fh : Env → Sto → Rs (Option Int)} (ha : PE X p (tE C b W fa)) (hl : PO X lo (tO C b W fl)) (hh : PO X hi (tO C b W fh)) :
    PE X (.Subscript p (.Slice lo hi none p2) pos) (tE C b W fun env S => (fa env S).to fun x S1 => (fl env S1).to fun l S2 => (fh env S2).to fun h S3 => match x.val S3 with
      | .lst s => newL true (cut s l h) S3
      | _ => .no) :=
  PE_sub (pe_slice (r := fun x lo hi H Q => ∃ b W τ ρ S dx s, Good C b ρ S H ∧ Rp C.KR ρ (lv C ρ S) H dx x ∧ dx.val S = .lst s ∧ Out C b W ρ S H τ (newL true (cut s lo hi) S) fun d S' ρ' H' => ∀ v, Rp C.KR ρ' (lv C ρ' S') H' d v → Q v H')
    (by
      rintro pins s σ H x v vl vu lo hi sl Q I rx hs pl pu ⟨b, W, τ, ρ, S, dx, ss, g, hx, e, o⟩
      obtain ⟨a, xs, rfl, h1, h2⟩ := valL g hx e
      exact sl_list pins s σ H _ v vl vu lo hi sl Q I rx hs pl pu ⟨a, xs, rfl, hX ▸ h1, fun p hp => out_newL g (cut_V h2 lo hi) hp o⟩) ha hl hh) fun σ H Q ⟨ρ, S, env, a, o⟩ => tE_of a o.bind fun x S1 ρ1 H1 v le a1 rv o1 => by
    refine ⟨ρ1, S1, env, a1, o1.bind.imp fun l S2 ρ2 H2 le2 g2 o2 => ?_⟩
    have a2 : At C b ρ2 S2 H2 env σ := ⟨g2, a1.env.kp le2.kp⟩
    refine ⟨ρ2, S2, env, a2, o2.bind.imp fun h S3 ρ3 H3 le3 g3 o3 => ?_⟩
    split at o3
    · rename_i s e
      exact ⟨b, W, σ, ρ3, S3, x, s, g3, Rp.kp le3.kp _ _ (Rp.kp le2.kp _ _ rv), e, o3⟩
    · exact o3.elim
end
end Mi

namespace Mi
open PySem L2 PySem.Spec PyProof.Rows

/-! ## Sets 4: a comprehension of texts, sorted or counted -/
theorem ddS_snoc (acc : List D) (s : List Nat) : ddS (acc ++ [.str s]) = insS s (ddS acc) := by
  unfold ddS
  rw [List.foldl_append] <;> rfl
theorem insS_len (s : List Nat) (l : List (List Nat)) : (insS s l).length ≤ l.length + 1 := by
  unfold insS
  split
  · omega
  · simp
theorem ddS_len (acc : List D) : (ddS acc).length ≤ acc.length := by
  suffices h : ∀ (acc : List D) (a : List (List Nat)), (acc.foldl ddStep a).length ≤ a.length + acc.length by simpa [ddS] using h acc []
  intro acc
  induction acc with
  | nil => intro a; simp
  | cons d r ih =>
    intro a
    rw [List.foldl_cons]
    refine Nat.le_trans (ih _) ?_
    simp only [List.length_cons, ddStep]
    split
    · have := insS_len ‹_› a
      omega
    · omega
abbrev skey (s : List Nat) : Key := Sum.inr (strV s)
theorem insK_key (s : List Nat) (l : List (List Nat)) : insK (skey s) (l.map skey) = (insS s l).map skey := by
  unfold insK insS
  by_cases h : s ∈ l
  · rw [if_pos (List.mem_map_of_mem h), if_pos (by simpa using h)]
  · rw [if_neg (fun z => by
      obtain ⟨t, h1, h2⟩ := List.mem_map.mp z
      have : t = s := strV_inj (Sum.inr.inj h2)
      exact h (this ▸ h1)), if_neg (by simpa using h), List.map_append] <;> rfl
section
variable {X : Cx} {C : Cxt} {b : Nat} {W : WX} {ρ ρ' ρ0 ρ1 ρ2 : List Addr} {S S' S0 S1 S2 : Sto} {H H' H0 H1 H2 : Hp} {σ σ' : L2.St} {D : Addr}
/-- a set of texts at D -/
def LSt (X : Cx) (D : Addr) (acc : List Mi.D) (_ρ : List Addr) (_S : Sto) (H : Hp) : Prop := H D = some (SetH X.prog X.w D ((ddS acc).map skey)) ∧ ∀ s ∈ ddS acc, okS s = true
theorem LSt.stay : Lst C b D (LSt X D) := fun _ _ _ _ _ _ _ le ⟨h1, h2⟩ => ⟨le.accK D (List.mem_cons_self ..) _ h1, h2⟩
def dSet (fe : Env → Sto → Rs Mi.D) : Env → List Mi.D → Sto → Rs (List Mi.D) := fun e acc S' => (fe e S').to fun d S2 => setElt d acc S2
theorem Mid.put {env : Env} {acc : List Mi.D} (m : Mid (LSt X D) C b D ρ0 S0 H0 env σ acc ρ S H) (hD : H0 D = none) (hC : D ∉ C.acc) {s : List Nat} (ok : okS s = true) : Mid (LSt X D) C b D ρ0 S0 H0 env σ (acc ++ [.str s]) ρ S (upd H D (SetH X.prog X.w D (insK (skey s) ((ddS acc).map skey)))) := by
  obtain ⟨g', kp⟩ := m.good.grow (SetH X.prog X.w D (insK (skey s) ((ddS acc).map skey)))
  refine ⟨m.le.grow hD hC _, g', m.env.kp kp, ?_, fun t ht => ?_⟩
  · rw [ddS_snoc, ← insK_key]
    exact upd_same
  · rw [ddS_snoc] at ht
    unfold insS at ht
    split at ht
    · exact m.lst.2 t ht
    · rcases List.mem_append.mp ht with ht | ht
      · exact m.lst.2 t ht
      · rw [List.mem_singleton.mp ht]; exact ok
theorem step_set {N : Hp → Prop} {fe : Env → Sto → Rs Mi.D} {env e : Env} {a0 a1 : List Mi.D} {Z : List Addr → Sto → Hp → Prop} (hZy : ∀ ρ S H ρ' S' H', Le (C.put D) b ρ S H ρ' S' H' → Z ρ S H → Z ρ' S' H') (hZg : ∀ ρ S H o, Good (C.put D) b ρ S H → Z ρ S H → Z ρ S (upd H D o))
    (hD : H0 D = none) (hC : D ∉ C.acc) (he : dSet fe e a0 S = .ok a1 S1) (m : Mid (LSt X D) C b D ρ0 S0 H0 env σ a0 ρ S H) (z : Z ρ S H) (ae : EnvR C.KR ρ (lv (C.put D) ρ S) H e σ')
    (h : ∀ ρ' H', Mid (LSt X D) C b D ρ0 S0 H0 env σ a1 ρ' S1 H' → Z ρ' S1 H' → N H') :
    tEa C b fe σ' H fun y H4 => ∃ ks k, H4 D = some (SetH X.prog X.w D ks) ∧ y = kV k ∧ ks.length + 1 < scanBound ∧ N (upd H4 D (SetH X.prog X.w D (insK k ks))) := by
  obtain ⟨d, S2, e1, e2⟩ := to_ok he
  refine ⟨D :: C.acc, tE_ok ⟨m.good, ae⟩ e1 fun ρ2 H2 v le2 a2 r => ?_⟩
  unfold setElt at e2
  split at e2
  · rename_i s
    split at e2
    · rename_i few
      cases e2
      obtain ⟨rfl, ok⟩ := r
      have m2 : Mid (LSt X D) C b D ρ0 S0 H0 env σ a0 ρ2 S1 H2 := m.step LSt.stay hD le2 ⟨a2.good, m.env.kp le2.kp⟩
      have hl := ddS_len a0
      exact ⟨(ddS a0).map skey, skey s, m2.lst.1, rfl, by rw [List.length_map]; unfold scanBound; omega, h ρ2 _ (m2.put hD hC ok) (hZg _ _ _ _ a2.good (hZy _ _ _ _ _ _ le2 z))⟩
    · cases e2
  · cases e2
/-- what the comprehension gives -/
def tSq (X : Cx) (C : Cxt) (b : Nat) (f : Env → Sto → Rs (List Mi.D)) : TE := fun σ H Q => ∃ ρ S env, At C b ρ S H env σ ∧ ∃ l S', f env S = .ok l S' ∧ ∀ D ρ' H', Le C b ρ S H ρ' S' H' → Good C b ρ' S' H' → H' D = some (SetH X.prog X.w D ((ddS l).map skey)) → (∀ s ∈ ddS l, okS s = true) → Q (.ref D) H'
theorem d_sc2 {vs ts ts1 : List Nat} {ft ft1 : Mi.D → Env → Sto → Rs Env} {fi fi1 : Env → Sto → Rs Bool} {fe : Env → Sto → Rs Mi.D} {fw fw1 : Env → Sto → Rs (List Mi.D × Option Nat)} {Q : VK}
    (hts : ∀ i ∈ ts, i ∈ vs) (h : tSq X C b (fun env S => dWalk fw (dTurn ft fi (dWalk fw1 (dTurn ft1 fi1 (dSet fe)) ts1)) ts (wipeE env vs) [] S) σ H Q) :
    tSc2 X (tI C b W fw) (tGa C b ts ft) (tTa C b fi) (tIa C b fw1) (tGa C b ts1 ft1) (tTa C b fi1) (tEa C b fe) vs ts1 σ H Q := by
  obtain ⟨ρ, S, env, a, lE, SE, er, fin⟩ := h
  obtain ⟨p, S1, e1, e2⟩ := to_ok er
  obtain ⟨items, lk⟩ := p
  cases lk with
  | some _ => cases e2
  | none =>
    refine ⟨ρ, S, wipeE env vs, ⟨a.good, a.env.wipeL vs⟩, ?_⟩
    rw [e1]
    intro ρ1 H1 le g J src wk so hold D hD
    have ho := hold S1 rfl g (Le.refl g.bb)
    have hC : D ∉ C.acc := fun z => by
      obtain ⟨u, e⟩ := (g.accH D z).1
      rw [hD] at e; cases e
    obtain ⟨g', kp⟩ := g.enter hD (SetH X.prog X.w D [])
    have mid0 : Mid (LSt X D) C b D ρ1 S1 H1 (wipeE (wipeE env vs) ts) (wipe σ vs) [] ρ1 S1 (upd H1 D (SetH X.prog X.w D [])) :=
      ⟨(Le.refl g.bb).grow hD hC _, g', (((a.env.kp le.kp).kp kp).wipe vs).wipeL ts, upd_same, fun s hs => absurd hs (by simp [ddS])⟩
    have hZy : ∀ ρ S H ρ' S' H', Le (C.put D) b ρ S H ρ' S' H' → Hold (C.put D) items src ρ S H → Hold (C.put D) items src ρ' S' H' := fun _ _ _ _ _ _ le h => h.kp le
    have hZg : ∀ ρ S H o, Good (C.put D) b ρ S H → Hold (C.put D) items src ρ S H → Hold (C.put D) items src ρ S (upd H D o) := fun ρ S H o g h => h.kp2 rfl (g.grow o).2 fun _ _ h => h
    refine turns LSt.stay (Z := Hold (C.put D) items src) (wk _ ⟨rfl, rfl⟩) (fun _ _ _ h => h) (fun ρ S H H' le h => hZy _ _ _ _ _ _ le h) ?_ e2 mid0 (Hold.kp2 (C := C) (C' := C.put D) rfl kp (fun _ _ h => h) ho) fun ρ' H' m' z' => fin D ρ' H' (le.trans m'.le) m'.good.leave m'.lst.1 m'.lst.2
    intro d x a0 a1 S2 ρ2 S2' H2 N et m2 z2 r2 hN
    obtain ⟨e, S3, f1, et⟩ := to_ok et
    obtain ⟨k, S4, f2, et⟩ := to_ok et
    refine ⟨D :: C.acc, ρ2, S2', _, d, e, S3, m2.at, r2, f1, fun ρ3 H3 σ3 le3 a3 off => ⟨(off.wipe hts).trans (wipe_wipe σ vs), D :: C.acc, tT_ok a3 f2 fun ρ4 H4 le4 a4 => ?_⟩⟩
    have m4 : Mid (LSt X D) C b D ρ1 S1 H1 _ _ a0 ρ4 S4 H4 := m2.step LSt.stay hD (le3.trans le4) ⟨a4.good, m2.env.kp (le3.trans le4).kp⟩
    have z4 := hZy _ _ _ _ _ _ (le3.trans le4) z2
    cases k with
    | false =>
      cases et
      exact iteF (hN ρ4 H4 m4 z4)
    | true =>
      refine iteT ?_
      obtain ⟨p1, S5, g1, et⟩ := to_ok (show (fw1 e S4).to _ = _ from et)
      obtain ⟨items1, lk1⟩ := p1
      cases lk1 with
      | some _ => cases et
      | none =>
        refine ⟨D :: C.acc, ρ4, S4, e, a4, ?_⟩
        rw [g1]
        intro ρ5 H5 le5 g5 J1 src1 wk1 so1 hold1
        have ho1 : Hold (C.put D) items1 src1 ρ5 S5 H5 := hold1 S5 rfl g5 (Le.refl g5.bb)
        have m5 : Mid (LSt X D) C b D ρ1 S1 H1 (wipeE (wipeE env vs) ts) (wipe σ vs) a0 ρ5 S5 H5 := m4.step LSt.stay hD le5 ⟨g5, m4.env.kp le5.kp⟩
        have m5' : Mid (LSt X D) C b D ρ1 S1 H1 (wipeE e ts1) (wipe σ3 ts1) a0 ρ5 S5 H5 := m4.step LSt.stay hD le5 ⟨g5, (a4.env.kp le5.kp).wipe ts1⟩
        let Z : List Addr → Sto → Hp → Prop := fun ρ S H => Hold (C.put D) items1 src1 ρ S H ∧ Hold (C.put D) items src ρ S H ∧ EnvR C.KR ρ (lv (C.put D) ρ S) H (wipeE (wipeE env vs) ts) (wipe σ vs)
        have hZy1 : ∀ ρ S H ρ' S' H', Le (C.put D) b ρ S H ρ' S' H' → Z ρ S H → Z ρ' S' H' := fun _ _ _ _ _ _ le h => ⟨h.1.kp le, h.2.1.kp le, h.2.2.kp le.kp⟩
        have hZg1 : ∀ ρ S H o, Good (C.put D) b ρ S H → Z ρ S H → Z ρ S (upd H D o) := fun ρ S H o g h => ⟨h.1.kp2 rfl (g.grow o).2 fun _ _ h => h, h.2.1.kp2 rfl (g.grow o).2 fun _ _ h => h, h.2.2.kp (g.grow o).2⟩
        refine turns LSt.stay (Z := Z) (wk1 _ ⟨rfl, rfl⟩) (fun _ _ _ h => h.1) (fun ρ S H H' le h => hZy1 _ _ _ _ _ _ le h) ?_ et m5' ⟨ho1, z4.kp le5, m5.env⟩ fun ρ' H' m' z' => hN ρ' H' ⟨m'.le, m'.good, z'.2.2, m'.lst⟩ z'.2.1
        intro d x b0 b1 S6 ρ6 S6' H6 N1 et m6 z6 r6 hN1
        obtain ⟨e', S7, k1, et⟩ := to_ok et
        obtain ⟨k, S8, k2, et⟩ := to_ok et
        refine ⟨D :: C.acc, ρ6, S6', _, d, e', S7, m6.at, r6, k1, fun ρ7 H7 σ7 le7 a7 off7 => ⟨(off7.wipe fun i h => h).trans (wipe_wipe σ3 ts1), D :: C.acc, tT_ok a7 k2 fun ρ8 H8 le8 a8 => ?_⟩⟩
        have m8 : Mid (LSt X D) C b D ρ1 S1 H1 _ _ b0 ρ8 S8 H8 := m6.step LSt.stay hD (le7.trans le8) ⟨a8.good, m6.env.kp (le7.trans le8).kp⟩
        have z8 := hZy1 _ _ _ _ _ _ (le7.trans le8) z6
        cases k with
        | false =>
          cases et
          exact iteF (hN1 ρ8 H8 m8 z8)
        | true => exact iteT (step_set hZy1 hZg1 hD hC et m8 z8 a8.env hN1)
theorem sq_sort {m : Bool} {f : Env → Sto → Rs (List Mi.D)} {Q : VK} (h : tE C b W (fun env S => newS m (f env S)) σ H Q) : tSq X C b f σ H fun x H1 => rSortSt X [x] H1 Q := by
  obtain ⟨ρ, S, env, a, o⟩ := h
  dsimp only [newS] at o
  cases er : noEx (f env S) with
  | no => rw [er] at o; exact o.elim
  | ex x S' => cases hq : f env S <;> (rw [hq] at er; cases er)
  | ok l SE =>
    rw [er] at o
    refine ⟨ρ, S, env, a, l, SE, noEx_ok er, fun D ρ' H' le g hD ok => ⟨D, (ddS l).map strV, rfl, by rw [hD, List.map_map] <;> rfl, ?_⟩⟩
    simp only [Rs.to] at o
    split at o
    · rename_i few
      refine ⟨by rw [List.length_map]; exact few, fun ys p h1 h2 hp => ?_⟩
      rw [sorted_is h1 h2]
      exact out_newL g (rps_strs (okS_sort ok)) hp (Out.reb le o)
    · exact o.elim
theorem sq_len {f : Env → Sto → Rs (List Mi.D)} {Q : VK} (h : tE C b W (fun env S => lenS (f env S)) σ H Q) : tSq X C b f σ H fun x H1 => rLenSt X [x] H1 Q := by
  obtain ⟨ρ, S, env, a, o⟩ := h
  dsimp only [lenS] at o
  cases er : noEx (f env S) with
  | no => rw [er] at o; exact o.elim
  | ex x S' => cases hq : f env S <;> (rw [hq] at er; cases er)
  | ok l SE =>
    rw [er] at o
    refine ⟨ρ, S, env, a, l, SE, noEx_ok er, fun D ρ' H' le g hD ok => ⟨D, (ddS l).map skey, rfl, hD, ?_⟩⟩
    rw [List.length_map]
    exact o ρ' H' le g _ rfl
end
end Mi

namespace Mi
open PySem L2 PySem.Spec PyProof.Rows

/-! ## enumerate -/
open AutoSeq1 (wpAny_loadPart') in
theorem meets_enumT {t : Addr} {items : Array Value} : Meets (Builtin.«enumerate.__new__» ⟨[.type "enumerate", .ref t], []⟩) (fun _ R s => s.heap.IsTuple t items ∧
    R (.ok (.ret (.ref (s.heap.push { cls := .type "tuple_iterator", data := .fields #[.ref t, .int 0 0] }).objs.size)))
      { s with heap := (s.heap.push { cls := .type "tuple_iterator", data := .fields #[.ref t, .int 0 0] }).push { cls := .type "enumerate", data := .fields #[.none, .bool false, .ref s.heap.objs.size, rawInt 0, .none, .none] } }) :=
  .of_wp fun prog w A R s h => by
    obtain ⟨hp, g, d, tk, os⟩ := s
    obtain ⟨ht, h⟩ := h
    have sub := sub_enumerate
    have it : ∀ {A' : Around} {E : Value → Shared → Prop} {Q : Value → Shared → Prop}, Q (.ref hp.objs.size) ⟨hp.push { cls := .type "tuple_iterator", data := .fields #[.ref t, .int 0 0] }, g, d, tk, os⟩ → wpAny (model prog w) A' (pyIter (.ref t)) Q E ⟨hp, g, d, tk, os⟩ := fun q => wpAny_pyIter_tuple ht q
    wp_walk using it
    refine wpAny_stack_any fun st => wpAny_pure ?_
    split
    · rename_i c _ _ _ _ _
      cases (c == Value.type "enumerate") <;> (wp_walk using it; exact ⟨_, rfl, h⟩)
    · wp_walk using it
      exact ⟨_, rfl, h⟩
section
variable {prog : Program} {w : World} {A : Around} {E : Value → Shared → Prop} {s : Shared}
theorem call_enumT {t : Addr} {items : Array Value} {Q : Value → Shared → Prop} (ht : s.heap.IsTuple t items)
    (h : ∀ h', IsEnum h' (s.heap.objs.size + 1) s.heap.objs.size 0 .none → h'.IsTupleIter s.heap.objs.size t 0 → (∀ b o, s.heap.get? b = some o → h'.get? b = some o) → Q (.ref (s.heap.objs.size + 1)) { s with heap := h' }) :
    wpAny (model prog w) A (call (.type "enumerate") [.ref t]) Q E s := by
  refine callType_new F.called_enumerate (by decide) (F.typeCall_enumerate_1 _) (F.newCall_enumerate_1 _) (fun obj => F.args_object_init_2 obj _) F.entry_enumerate_new meets_enumT ⟨ht, ?_⟩
  have z : (s.heap.push { cls := .type "tuple_iterator", data := .fields #[.ref t, .int 0 0] }).objs.size = s.heap.objs.size + 1 := Heap.size_push ..
  show _ ∧ _
  rw [z]
  have e : IsEnum ((s.heap.push { cls := .type "tuple_iterator", data := .fields #[.ref t, .int 0 0] }).push { cls := .type "enumerate", data := .fields #[.none, .bool false, .ref s.heap.objs.size, rawInt 0, .none, .none] }) (s.heap.objs.size + 1) s.heap.objs.size 0 .none := by
    have := Heap.get?_push_size (s.heap.push { cls := .type "tuple_iterator", data := .fields #[.ref t, .int 0 0] }) (o := { cls := .type "enumerate", data := .fields #[.none, .bool false, .ref s.heap.objs.size, rawInt 0, .none, .none] }) rfl
    rwa [z] at this
  exact ⟨⟨_, e, rfl⟩, h _ e ⟨_, Heap.get?_push_of_some _ (Heap.get?_push_size _ rfl), rfl, rfl⟩ fun b o x => Heap.get?_push_of_some _ (Heap.get?_push_of_some _ x)⟩
end
/-- the tuple at a, each item in a new pair -/
def IteT (K : PySem.W.Frag) (a : Addr) : It :=
  ⟨fun i H => ∃ (xs : List V) (x : V), SqT K H a xs ∧ xs[i]? = some x, fun i H v H' => ∃ T x, v = .ref T ∧ H T = none ∧ H' = upd H T (.tup [.int (i : Nat), x]) ∧ ∀ xs, SqT K H a xs → xs[i]? = some x, fun i H => ∃ xs : List V, SqT K H a xs ∧ xs.length ≤ i⟩
theorem turn_enumT {P : Program} {w : World} {K : PySem.W.Frag} {elts : List Expr} {kk : Nat} {tpos : Pos} (a e it : Addr) :
    Turn P w K (.Tuple elts kk tpos) (IteT K a) [e, it] e (fun i h => (∃ old, IsEnum h e it ((i : Nat) : Int) old) ∧ h.IsTupleIter it a i ∧ e ≠ it ∧ a ≠ it ∧ e ≠ a) where
  mem := by simp
  obj := fun i h st b hb => by
    obtain ⟨⟨old, he⟩, ⟨o, ho, hc, hd⟩, _⟩ := st
    rcases (show b = e ∨ b = it by simpa using hb) with z | z
    · rw [z]; exact ⟨_, he, fun v q => nomatch q⟩
    · rw [z]; exact ⟨o, ho, fun v q => by rw [hd] at q; cases q⟩
  keep := fun i h h' st k => let ⟨⟨old, he⟩, hi, hne⟩ := st; ⟨⟨old, k e (by simp) _ he⟩, hi.at fun o q => k it (by simp) o q, hne⟩
  item := by
    intro X hP hw hK hc i pins s σ H E I hf st hg
    subst hP hw hK
    obtain ⟨⟨old, he⟩, hit, hne, hai, hea⟩ := st
    obtain ⟨xs, x, hq, hx⟩ := hg
    obtain ⟨its, rv, p, hz⟩ := I.tuple hq
    obtain ⟨u, hu, ru⟩ := rv.get hx
    have hel : e < s.heap.objs.size := Heap.lt_size he
    have hil : it < s.heap.objs.size := by obtain ⟨_, q, _⟩ := hit; exact Heap.lt_size q
    have hp : s.heap.IsTuple a its.toArray := p
    have hii : i < its.length := by have := (List.getElem?_eq_some_iff.mp hu).1; exact this
    refine wpAny_pyNext_enum_itemD (Draws.tuple (prog := X.prog) (w := X.w) (A := X.A.in1) (I.ok.hd hc) it a hai its.toArray) he ⟨hit, hp⟩ (by simpa using hii) hne (by simp [hne, hea]) fun y h' tk hy ho hst hT hsz hk => ?_
    have ey : y = u := by
      rw [show its.toArray[i]? = its[i]? by simp, hu] at hy
      exact (Option.some.inj hy).symm
    subst ey
    refine ⟨_, rfl, wpAny_letOwnedTupleGo_enum (s := { s with heap := h', toks := tk + 1 }) ho fun h'' he' sb => ?_⟩
    have hT2 : h''.get? s.heap.objs.size = some { cls := .type "tuple", data := .seq #[.int i tk, y] } := (sb.2 _ (Nat.ne_of_gt hel)).trans hT
    have new : ObjOk X.prog X.w (upd H s.heap.objs.size (.tup [.int (i : Nat), x])) h'' s.heap.objs.size (.tup [.int (i : Nat), x]) :=
      ⟨by show 2 ≤ sizeLine; decide, [.int i tk, y], .cons ⟨_, rfl⟩ (.cons ru .nil), ⟨_, hT2, rfl, _, rfl⟩⟩
    have I1 : Inv X pins σ (upd H s.heap.objs.size (.tup [.int (i : Nat), x])) { s with heap := h'', toks := tk + 1 } :=
      I.turnedNew (ch := [e, it]) (fun b ob hb q => (sb.2 b (fun z => hb (by simp [z]))).trans (hk b ob (fun z => hb (by simp [z])) (fun z => hb (by simp [z])) q)) hf (Nat.le_refl _) new
    refine ⟨.ref s.heap.objs.size, _, I1, rfl, ⟨_, x, rfl, I.hok.fresh (Nat.le_refl _), rfl, fun ys hy => by rw [I.tuple_inj hy hq]; exact hx⟩, ⟨⟨y, ?_⟩, hst.1.at fun o q => (sb.2 it (Ne.symm hne)).trans q, hne, hai, hea⟩, fun b hb => ?_⟩
    · rw [show ((i + 1 : Nat) : Int) = (i : Int) + 1 by omega]
      exact he'
    · have lt : b < s.heap.objs.size := by
        rcases (show b = e ∨ b = it by simpa using hb) with z | z
        · exact z ▸ hel
        · exact z ▸ hil
      rw [upd_ne (Nat.ne_of_lt lt)]
      exact (hf b hb).1
  done := by
    intro X hP hw hK hc i pins s σ H E I hf st hg
    subst hP hw hK
    obtain ⟨⟨old, he⟩, hit, hne, hai, hea⟩ := st
    obtain ⟨xs, hq, hx⟩ := hg
    obtain ⟨its, rv, p, hz⟩ := I.tuple hq
    obtain ⟨f0, f1, f2, f3, f4, f5⟩ := hf it (by simp)
    have hl := rv.length
    have hp : s.heap.IsTuple a its.toArray := p
    have D := Draws.tuple (prog := X.prog) (w := X.w) (A := X.A.in1) (I.ok.hd hc) it a hai its.toArray
    have hT : s.TypeIs (.ref e) "enumerate" := ⟨_, he, rfl⟩
    unfold pyNext
    refine wpAny_bind (wpAny_attempt (wpAny_callSpecial?_slot (name := Str.ofString "__next__") hT F.slot_enumerate_next
      (wpAny_call_entry F.slot_enumerate_next hT F.entry_enumerate_next ?_ (F.args_enumerate_next_1 _))))
    show wpAny _ _ (field (.ref e) 2 >>= _) _ _ _
    refine wpAny_bind (wpAny_field he rfl (x := .ref it) rfl ?_)
    refine wpAny_bind (wpAny_nextOf_tuple_end (show X.A.in1.handled = none from I.ok.hd hc) hit hp (by simp; omega) fun h' x eb ⟨o, ho, hcl⟩ => ?_)
    refine wpAny_bind (wpAny_isInstance (T := "StopIteration") (b := true) ⟨o, ho, hcl⟩ isSubtype_stop ?_)
    exact wpAny_pure ⟨rfl, I.turned (t' := s.toks) (fun b o hb q => eb b o hb q) f0 f1 f3 f4 f5⟩
  self := fun A i s Q E st h => let ⟨⟨_, he⟩, _⟩ := st; wpAny_pyIter_enum he h
/-- of a list or a tuple -/
def iEnB (K : PySem.W.Frag) (te : TE) : TI := fun σ H R => te σ H fun v H1 => ∃ a, v = .ref a ∧ ((∃ xs, SqL K H1 a xs ∧ R (Ite K a) H1) ∨ ∃ xs, SqT K H1 a xs ∧ R (IteT K a) H1)
theorem pi_enB {X : Cx} {p : Expr} {te : TE} {pp pos tpos : Pos} {elts : List Expr} {kk : Nat} (hg : Gl X "enumerate") (hm : X.mg "enumerate" = none) (ha : PE X p te) (hs : notStar p = true) :
    PI X (.Tuple elts kk tpos) (.Call (.Name "enumerate" pp) [p] [] pos) (iEnB X.K te) := by
  refine ⟨fun pins s σ H R I h => ?_⟩
  have key : ∀ (s1 : Shared) (v : Value) (x : V) (H1 : Hp), Inv X pins σ H1 s1 → RelV x v → (∃ a, x = .ref a ∧ ((∃ xs, SqL X.K H1 a xs ∧ R (Ite X.K a) H1) ∨ ∃ xs, SqT X.K H1 a xs ∧ R (IteT X.K a) H1)) →
      wpAny (model X.prog X.w) X.A (call (.type "enumerate") [v]) (fun v s1 => wpAny (model X.prog X.w) X.A (pyIter v) (PIE X pins σ (.Tuple elts kk tpos) R) X.xe s1) X.xe s1 := by
    rintro s1 v x H1 I1 r ⟨a, rfl, hq⟩
    obtain rfl : v = Value.ref a := r
    have fp : ∀ b ∈ [s1.heap.objs.size + 1, s1.heap.objs.size], FpOk X pins H1 b := fun b hb => by
      have le : s1.heap.objs.size ≤ b := by
        rcases (show b = s1.heap.objs.size + 1 ∨ b = s1.heap.objs.size by simpa using hb) with z | z
        · exact z ▸ Nat.le_add_right _ _
        · exact z ▸ Nat.le_refl _
      exact I1.fpOk le (I1.hok.fresh le)
    rcases hq with ⟨xs, hq, rr⟩ | ⟨xs, hq, rr⟩
    · obtain ⟨its, rv, p', hz⟩ := I1.list hq
      refine call_enumerate_list p'.isList fun h' he hit hsz hk => wpAny_pyIter_enum he ?_
      exact ⟨s1.heap.objs.size + 1, [s1.heap.objs.size + 1, s1.heap.objs.size], _, _, H1, rfl, I1.kept (t' := s1.toks) hk, turn_enum a (s1.heap.objs.size + 1) s1.heap.objs.size, ⟨⟨.none, he⟩, hit, Nat.succ_ne_self _⟩, fp, rr⟩
    · obtain ⟨its, rv, p', hz⟩ := I1.tuple hq
      have hp : s1.heap.IsTuple a its.toArray := p'
      have lt : a < s1.heap.objs.size := by obtain ⟨o, e, _⟩ := hp; exact Heap.lt_size e
      refine call_enumT hp fun h' he hit hk => wpAny_pyIter_enum he ?_
      exact ⟨s1.heap.objs.size + 1, [s1.heap.objs.size + 1, s1.heap.objs.size], _, _, H1, rfl, I1.kept (t' := s1.toks) hk, turn_enumT a (s1.heap.objs.size + 1) s1.heap.objs.size,
        ⟨⟨.none, he⟩, hit, Nat.succ_ne_self _, Nat.ne_of_lt lt, Nat.ne_of_gt (Nat.lt_succ_of_lt lt)⟩, fp, rr⟩
  refine Call_ (ld_blt I hg hm boot_enumerate (PyProof.Rows.callWith_type1 (PyProof.Rows.args_cons (thn (ha.run pins s σ H _ I h) fun v s1 ⟨x, H1, I1, r1, q1⟩ => PyProof.Rows.args_nil (key s1 v x H1 I1 r1 q1)) (star_cons hs)) (star_cons hs) rfl))
/-! ### in the interpreter -/
theorem enumD_get : ∀ {l : List D} {k i : Nat} {d : D}, (enumD k l)[i]? = some d → ∃ x, l[i]? = some x ∧ d = .tup [.int ((k + i : Nat) : Int), x]
  | [], k, i, d, h => by simp [enumD] at h
  | x :: r, k, 0, d, h => by
    simp [enumD] at h
    exact ⟨x, rfl, by rw [← h] <;> rfl⟩
  | x :: r, k, i + 1, d, h => by
    simp only [enumD, List.getElem?_cons_succ] at h
    obtain ⟨y, h1, h2⟩ := enumD_get h
    exact ⟨y, by simpa using h1, by rw [h2, show k + 1 + i = k + (i + 1) by omega]⟩
theorem enumD_len : ∀ (l : List D) (k : Nat), (enumD k l).length = l.length
  | [], k => rfl
  | x :: r, k => by simp [enumD, enumD_len r]
section
variable {X : Cx} {C : Cxt} {b : Nat} {W : WX} {ρ : List Addr} {S : Sto} {H : Hp} {σ : L2.St} {p : Expr} {pos : Pos} {fa : Env → Sto → Rs D}
theorem wk_en (hX : X.K = C.K) {a : Addr} {items : List D} {d : D} (hd : d = .lst items ∨ ∃ n, d = .ref n) : Wk C b (Ite X.K a) (enumD 0 items) (some (d, .ref a, items, none)) := by
  have w := wk_list (X := X) (C := C) (b := b) hX (a := a) hd
  refine ⟨fun i x ρ S H g h hi => ?_, fun ρ S H g h => ?_⟩
  · obtain ⟨y, h1, h2⟩ := enumD_get hi
    obtain ⟨⟨xs, v, g1, g2⟩, st⟩ := w.go i y ρ S H g h h1
    refine ⟨⟨xs, v, g1, g2⟩, fun u H' ⟨T, z, e1, e2, e3, e4⟩ => ?_⟩
    obtain ⟨_, _, rz⟩ := st z H ⟨rfl, e4⟩
    subst e1 e3 h2
    obtain ⟨k1, k2, k3⟩ := new_tup g (ds := [.int ((0 + i : Nat) : Int), y]) (xs := [.int (i : Nat), z]) ⟨_, _, rfl, by show V.int _ = V.int _; rw [Nat.zero_add], _, _, rfl, rz, rfl⟩ e2
    exact ⟨k1, k2, k3⟩
  · obtain ⟨xs, h1, h2⟩ := w.stop ρ S H g h
    exact ⟨xs, h1, by rw [enumD_len]; exact h2⟩
theorem wk_enT (hX : X.K = C.K) {a : Addr} {items : List D} : Wk C b (IteT X.K a) (enumD 0 items) (some (.tup items, .ref a, items, none)) := by
  have w := wk_tup (X := X) (C := C) (b := b) hX (a := a) (items := items)
  refine ⟨fun i x ρ S H g h hi => ?_, fun ρ S H g h => ?_⟩
  · obtain ⟨y, h1, h2⟩ := enumD_get hi
    obtain ⟨⟨xs, v, g1, g2⟩, st⟩ := w.go i y ρ S H g h h1
    refine ⟨⟨xs, v, g1, g2⟩, fun u H' ⟨T, z, e1, e2, e3, e4⟩ => ?_⟩
    obtain ⟨_, _, rz⟩ := st z H ⟨rfl, e4⟩
    subst e1 e3 h2
    obtain ⟨k1, k2, k3⟩ := new_tup g (ds := [.int ((0 + i : Nat) : Int), y]) (xs := [.int (i : Nat), z]) ⟨_, _, rfl, by show V.int _ = V.int _; rw [Nat.zero_add], _, _, rfl, rz, rfl⟩ e2
    exact ⟨k1, k2, k3⟩
  · obtain ⟨xs, h1, h2⟩ := w.stop ρ S H g h
    exact ⟨xs, h1, by rw [enumD_len]; exact h2⟩
theorem pi_en {pp tpos : Pos} {elts : List Expr} {kk : Nat} (hX : X.K = C.K) (hg : Gl X "enumerate") (hm : X.mg "enumerate" = none) (hs : notStar p = true) (ha : PE X p (tE C b W fa)) :
    PI X (.Tuple elts kk tpos) (.Call (.Name "enumerate" pp) [p] [] pos) (tI C b W fun env S => (fa env S).to fun x S1 => match itemsOf S1 x with
      | some (l, none) => .ok (enumD 0 l, none) S1
      | _ => .no) := by
  have base := pi_enB (pos := pos) (pp := pp) (elts := elts) (kk := kk) (tpos := tpos) hg hm ha hs
  refine ⟨fun pins s σ H R I ⟨ρ, S, env, a, o⟩ => base.run pins s σ H R I ?_⟩
  refine tE_of a o.bind fun x S1 ρ1 H1 v le a1 rv o1 => ?_
  unfold itemsOf at o1
  cases x with
  | tup l =>
    obtain ⟨a', xs, rfl, h1, h2⟩ := rv
    exact ⟨a', rfl, .inr ⟨xs, hX ▸ h1.sq, o1 ρ1 H1 (Le.refl a1.good.bb) a1.good _ _ (fun C' h => wk_enT (hX.trans h.1.symm)) (fun _ z => nomatch z) fun S2 e g2 le2 => by
      subst e; exact ⟨⟨a', xs, rfl, h1, h2⟩, (fun _ _ z => nomatch z), .inr (.inl rfl)⟩⟩⟩
  | lst l =>
    obtain ⟨a', xs, rfl, h1, h2⟩ := rv
    exact ⟨a', rfl, .inl ⟨xs, hX ▸ h1.sq, o1 ρ1 H1 (Le.refl a1.good.bb) a1.good _ _ (fun C' h => wk_en (hX.trans h.1.symm) (.inl rfl)) (fun _ z => nomatch z) fun S2 e g2 le2 => by
      subst e; exact ⟨⟨a', xs, rfl, h1, h2⟩, (fun _ _ z => nomatch z), .inl rfl⟩⟩⟩
  | ref n =>
    simp only at o1
    cases es : S1[n]? with
    | none => rw [es] at o1; exact o1.elim
    | some w =>
      rw [es] at o1
      cases w with
      | lck w =>
        cases w with
        | lst l =>
          obtain ⟨a', er, rfl⟩ := id rv
          obtain ⟨xs, h1, h2⟩ := a1.good.obj n _ a' es er
          exact ⟨a', rfl, .inl ⟨xs, SqL.of h1, o1 ρ1 H1 (Le.refl a1.good.bb) a1.good _ _ (fun C' h => wk_en (d := .ref n) (hX.trans h.1.symm) (.inr ⟨n, rfl⟩)) (fun _ z => nomatch z) fun S2 e g2 le2 => ⟨⟨a', get_pre le2.pre er, rfl⟩, (fun _ _ z => nomatch z), .inr (.inr (.inl ⟨n, rfl, by rw [e]; exact es⟩))⟩⟩⟩
        | dead => exact o1.elim
        | dic l => exact o1.elim
        | dct f => exact o1.elim
        | ins c f => exact o1.elim
        | lck o => exact o1.elim
      | lst l => exact o1.elim
      | dead => exact o1.elim
      | dic l => exact o1.elim
      | dct f => exact o1.elim
      | ins c f => exact o1.elim
  | non => exact o1.elim
  | bl b => exact o1.elim
  | int b => exact o1.elim
  | str b => exact o1.elim
  | dic b => exact o1.elim
  | set b => exact o1.elim
end
end Mi

/-! ## t[::-1], a tuple -/
namespace HTr
open PySem PySem.Calls PyProof.Rows HT
section
variable {prog : Program} {w : World} {A : Around} {E : Value → Shared → Prop} {s : Shared}
theorem rev_places (n : Nat) : Builtin.Slice.slicePlaces ((n : Int) - 1) (-1) (-1) = n := by
  unfold Builtin.Slice.slicePlaces
  have h1 : ¬ ((-1 : Int) > 0) := by omega
  simp only [h1, if_false]
  split
  · simp
  · omega
theorem fm_congr {α β : Type} {f g : α → Option β} : ∀ {l : List α}, (∀ x ∈ l, f x = g x) → l.filterMap f = l.filterMap g
  | [], _ => rfl
  | a :: l, h => by
    rw [List.filterMap_cons, List.filterMap_cons, h a (List.mem_cons_self ..), fm_congr fun x hx => h x (List.mem_cons_of_mem _ hx)]
theorem rev_adjust (n : Nat) : Builtin.Slice.sliceAdjust none none (-1) (n : Int) = ((n : Int) - 1, -1) := by
  unfold Builtin.Slice.sliceAdjust
  have h1 : (-1 : Int) < 0 := by omega
  simp only [h1, if_true]
theorem rev_pick (xs : Array Value) : ((List.range xs.size).filterMap fun (m : Nat) => xs[((xs.size : Int) - 1 + (m : Int) * (-1)).toNat]?) = xs.toList.reverse := by
  have e : (List.range xs.size).filterMap (fun (m : Nat) => xs[((xs.size : Int) - 1 + (m : Int) * (-1)).toNat]?) = (List.range xs.size).filterMap fun m => xs.toList.reverse[m]? := by
    refine fm_congr fun m hm => ?_
    have hm : m < xs.size := List.mem_range.mp hm
    have h1 : ((xs.size : Int) - 1 + (m : Int) * (-1)).toNat = xs.size - 1 - m := by omega
    rw [h1, List.getElem?_reverse (by simpa using hm)]
    simp
  rw [e]
  have hl : xs.size = xs.toList.reverse.length := by simp
  rw [hl]
  generalize xs.toList.reverse = l
  refine List.ext_getElem? fun i => ?_
  have : (List.range l.length).filterMap (fun m => l[m]?) = l := by
    clear hl e
    induction l with
    | nil => rfl
    | cons a l ih =>
      rw [List.length_cons, List.range_succ_eq_map, List.filterMap_cons]
      simp only [List.getElem?_cons_zero, List.filterMap_map]
      exact congrArg (a :: ·) ih
  rw [this]
theorem getItem_tuple_rev {t sl : Addr} {items : Array Value} {u : Tok} {Q : Value → Shared → Prop} (ht : IsTup s.heap t items) (hs : s.heap.IsSliceOf sl .none .none (.int (-1) u))
    (h : Q (.ref s.heap.objs.size) { s with heap := s.heap.push { cls := .type "tuple", data := .seq items.toList.reverse.toArray } })
    (hsz : items.size ≤ sizeLine) : wpAny (model prog w) A (getItem (.ref t) (.ref sl)) Q E s := by
  have htake : sizeOk (.seq items.toList.reverse.toArray) := by
    show items.toList.reverse.toArray.size ≤ sizeLine
    simpa using hsz
  obtain ⟨os, hos, hcs, hds⟩ := id hs
  have hTs : s.TypeIs (.ref sl) "slice" := ⟨os, hos, hcs⟩
  unfold getItem
  try with_reducible refine wpAny_holding ?_
  first | refine wpAny_bind (wpAny_pure ?_) | skip
  refine wpAny_bind (wpAny_sequenceKey ht.typeIs (by decide) ?_)
  refine wpAny_bind (wpAny_callSpecial?_slot (name := Str.ofString "__getitem__") ht.typeIs PyProof.Rows.slot_tuple_getitem
    (wpAny_call_entry PyProof.Rows.slot_tuple_getitem ht.typeIs entry_tuple_getitem ?_ (args_tuple_getitem _ _)))
  show wpAny _ _ (Builtin.Tuple.tupleItemsOf (.ref t) >>= _) _ _ s
  refine wpAny_bind (tupleItemsOf_ ht ?_)
  refine wpAny_bind (wpAny_typeOf hTs ?_)
  rw [if_pos (by decide)]
  refine wpAny_bind ?_
  unfold Builtin.Slice.sliceApplied Builtin.Slice.sliceFields
  refine wpAny_bind (wpAny_bind (wpAny_field hos hds (x := .none) rfl (wpAny_bind (wpAny_field hos hds (x := .none) rfl (wpAny_bind (wpAny_field hos hds (x := .int (-1) u) rfl (wpAny_pure ?_)))))))
  refine wpAny_bind (slicePart_int ?_)
  show wpAny _ _ (if ((-1 : Int) == 0) = true then _ else _) _ _ s
  rw [if_neg (by decide)]
  refine wpAny_bind (slicePart_none (wpAny_bind (slicePart_none (wpAny_bind (wpAny_pure ?_)))))
  show wpAny _ _ (match Builtin.Slice.sliceAdjust none none (-1) (items.size : Int) with | (lo, hi) => pure (lo, (-1 : Int), Builtin.Slice.slicePlaces lo hi (-1))) _ _ s
  rw [rev_adjust]
  show wpAny _ _ (pure ((items.size : Int) - 1, (-1 : Int), Builtin.Slice.slicePlaces ((items.size : Int) - 1) (-1) (-1))) _ _ s
  rw [rev_places]
  refine wpAny_pure ?_
  have hno : ¬ ((((items.size : Int) - 1 == 0 && (-1 : Int) == 1 && items.size == items.size)) = true) := by
    intro q
    rw [Bool.and_eq_true, Bool.and_eq_true] at q
    have := eq_of_beq q.1.2
    omega
  show wpAny _ _ (if ((((items.size : Int) - 1 == 0 && (-1 : Int) == 1 && items.size == items.size)) = true) then _ else _) _ _ s
  rw [if_neg hno, rev_pick]
  first
    | exact wpAny_bind (m := Builtin.Tuple.tupleExact _) (wpAny_newObj_type (wpAny_pure ⟨_, rfl, wpAny_pure h⟩) htake)
    | exact wpAny_bind (m := Builtin.Tuple.tupleExact _) (wpAny_newObj_type (wpAny_bind (wpAny_pure (wpAny_pure ⟨_, rfl, wpAny_pure h⟩))) htake)
    | exact wpAny_bind (wpAny_bind (m := Builtin.Tuple.tupleExact _) (wpAny_newObj_type (wpAny_pure (wpAny_pure ⟨_, rfl, wpAny_pure h⟩)) htake))
    | exact wpAny_bind (wpAny_bind (m := Builtin.Tuple.tupleExact _) (wpAny_newObj_type (wpAny_pure ⟨_, rfl, wpAny_pure h⟩) htake))
end
end HTr
namespace Mi
open PySem L2 PySem.Spec PyProof.Rows
section
variable {X : Cx} {C : Cxt} {b : Nat} {W : WX} {ρ ρ' ρ1 : List Addr} {S S' S1 : Sto} {H H' H1 : Hp} {σ : L2.St} {p q r : Expr} {pos : Pos} {fa : Env → Sto → Rs D}
/-- x[::-1], a list or a tuple -/
theorem pe_rev2 {e : Expr} {te : TE} {k : Nat} {p1 p2 p3 pos : Pos} (he : PE X e te) : PE X (.Subscript e (.Slice none none (some (.UnaryOp .USub (.Constant (.int 1) k p1) p2)) p3) pos)
    (fun σ H Q => te σ H fun x H1 => ∃ a xs, x = .ref a ∧ ((SqL X.K H1 a xs ∧ ∀ p, H1 p = none → Q (.ref p) (upd H1 p (.lst xs.reverse))) ∨ (SqT X.K H1 a xs ∧ ∀ p, H1 p = none → Q (.ref p) (upd H1 p (.tup xs.reverse))))) := by
  refine ⟨fun pins s σ H Q I h => ?_⟩
  refine Subscript_ (thn (he.run pins s σ H _ I h) fun v s1 ⟨x, H1, I1, r1, q1⟩ => ?_)
  obtain ⟨a, xs, ex, hx⟩ := q1
  subst ex
  cases r1
  have hst : PO X (some (.UnaryOp .USub (.Constant (.int 1) k p1) p2)) (tPart (tUn (rU fun i => .int (-i)) (tC (.int 1)))) := po_some (pe_un un_neg pe_int)
  refine wpAny_Slice (thn (po_none.run pins s1 σ H1 (fun o H2 => o = none ∧ H2 = H1) I1 ⟨rfl, rfl⟩) fun vl s2 ⟨l, H2, I2, pl, el, e2⟩ => ?_)
  subst el e2
  refine thn (po_none.run pins s2 σ H2 (fun o H3 => o = none ∧ H3 = H2) I2 ⟨rfl, rfl⟩) fun vu s3 ⟨u, H3, I3, pu, eu, e3⟩ => ?_
  subst eu e3
  refine thn (hst.run pins s3 σ H3 (fun o H4 => o = some (-1) ∧ H4 = H3) I3 ⟨1, rfl, -1, rfl, rfl, rfl⟩) fun vs s4 ⟨o, H4, I4, ps, eo, e4⟩ => ?_
  subst eo e4
  have I5 : L2.Inv X pins σ H4 { s4 with heap := s4.heap.push { cls := .type "slice", data := .fields #[vl, vu, vs] } } := I4.kept (t' := s4.toks) fun b ob q => Heap.get?_push_of_some _ q
  show wpAny (model X.prog X.w) X.A (subscriptTail e (.Slice none none (some (.UnaryOp .USub (.Constant (.int 1) k p1) p2)) p3) (.ref a) (.ref s4.heap.objs.size)) (EP X pins σ Q) X.xe { s4 with heap := s4.heap.push { cls := .type "slice", data := .fields #[vl, vu, vs] } }
  rcases hx with ⟨hx, q⟩ | ⟨hx, q⟩
  · obtain ⟨its, r, ht, hz⟩ := I5.list hx
    have hlen := r.length
    refine tail_any (ops := [.ref a, .ref s4.heap.objs.size]) ht.isList.typeIs (PySem.slot_list_getitem.lookup) ?_ (by with_unfolding_all rfl)
    refine wpAny_getItem_list_slice ht.isList (Heap.IsSliceOf.new _ vl vu vs) pl pu ps (by decide) ?_ (by rw [List.size_toArray]; omega)
    rw [PySem.W.krv_pick]
    refine ⟨.ref _, _, I5.laid (t' := s4.toks) (o := .lst xs.reverse) (fun b ob q => Heap.get?_push_of_some _ q) (Nat.le_refl _) ?_, rfl, q _ (I5.hok.fresh (Nat.le_refl _))⟩
    exact ⟨by rw [List.length_reverse]; exact hz, _, 0, r.reverse, Heap.get?_push_size _ rfl⟩
  · obtain ⟨its, r, ht, hz⟩ := I5.tuple hx
    have hlen := r.length
    refine tail_any (ops := [.ref a, .ref s4.heap.objs.size]) ht.typeIs (PyProof.Rows.slot_tuple_getitem.lookup) ?_ (by with_unfolding_all rfl)
    cases pl
    cases pu
    cases ps with
    | int i t =>
      refine HTr.getItem_tuple_rev (u := t) ht (Heap.IsSliceOf.new _ .none .none (.int (-1) t)) ?_ (by rw [List.size_toArray]; omega)
      refine ⟨.ref _, _, I5.laid (t' := s4.toks) (o := .tup xs.reverse) (fun b ob q => Heap.get?_push_of_some _ q) (Nat.le_refl _) ?_, rfl, q _ (I5.hok.fresh (Nat.le_refl _))⟩
      exact ⟨by rw [List.length_reverse]; exact hz, _, r.reverse, IsTup.new _ _⟩
theorem d_rev2 {m : Bool} {k : Nat} {p1 p2 p3 : Pos} (hX : X.K = C.K) (ha : PE X p (tE C b W fa)) : PE X (.Subscript p (.Slice none none (some (.UnaryOp .USub (.Constant (.int 1) k p1) p2)) p3) pos) (tE C b W fun env S => (fa env S).to fun x S1 => match x.val S1 with
    | .lst l => newL m l.reverse S1
    | .tup l => .ok (.tup l.reverse) S1
    | _ => .no) :=
  PE_sub (pe_rev2 ha) fun σ H Q ⟨ρ, S, env, a, o⟩ => tE_of a o.bind fun x S1 ρ1 H1 v le a1 rv o1 => by
    split at o1
    · rename_i e
      obtain ⟨p', ys, rfl, q1, q2⟩ := valL a1.good rv e
      exact ⟨p', ys, rfl, .inl ⟨hX ▸ q1, fun z hz => out_newL a1.good q2.reverse hz o1⟩⟩
    · rename_i e
      obtain ⟨p', ys, rfl, q1, q2⟩ := valT a1.good rv e
      refine ⟨p', ys, rfl, .inr ⟨hX ▸ q1.sq, fun z hz => ?_⟩⟩
      obtain ⟨le, g, r⟩ := new_tup a1.good q2.reverse hz
      exact o1 _ _ le g _ r
    · exact o1.elim
/-! ### count, index -/
theorem count_toP {k : Nat} {x : D} : ∀ {l : List D}, x.dat k = true → D.dats k l = true → (l.map D.toP).countP (fun z => PyData.eqv z x.toP) = l.countP fun d => D.eq d x
  | [], _, _ => rfl
  | d :: r, h1, h2 => by
    simp only [D.dats, Bool.and_eq_true] at h2
    rw [List.map_cons, List.countP_cons, List.countP_cons, count_toP h1 h2.2, eq_toP d x h2.1 h1]
theorem placeD_spec {x : D} : ∀ {l : List D} {j : Nat}, placeD x l = some j → (∃ d, l[j]? = some d ∧ D.eq d x = true) ∧ ∀ m < j, ∀ d, l[m]? = some d → D.eq d x = false
  | [], j, h => by cases h
  | d :: r, j, h => by
    unfold placeD at h
    cases e : D.eq d x with
    | true =>
      rw [if_pos e] at h; cases h
      exact ⟨⟨d, rfl, e⟩, fun m hm => absurd hm (Nat.not_lt_zero m)⟩
    | false =>
      rw [if_neg (by simp [e])] at h
      obtain ⟨i, hi, rfl⟩ := Option.map_eq_some_iff.mp h
      obtain ⟨⟨d', h1, h2⟩, h3⟩ := placeD_spec hi
      refine ⟨⟨d', by simpa using h1, h2⟩, fun m hm d2 hd2 => ?_⟩
      cases m with
      | zero => simp at hd2; subst hd2; exact e
      | succ m => exact h3 m (by omega) d2 (by simpa using hd2)
/-- how the items of a sequence stand to a thing -/
theorem items_data {pins : List (Addr × Obj)} {s : Shared} (hX : X.K = C.K) (hu : X.A.units + 65 < cLine) (I : L2.Inv X pins σ H s) {l : List D} {xs : List V} {its : List Value} {x : D} {v : V} {u : Value} (r : Rps C.KR ρ (lv C ρ S) H l xs) (rv : Vals xs its)
    (rx : Rp C.KR ρ (lv C ρ S) H x v) (ru : RelV v u) (h1 : x.dat 40 = true) (h2 : D.dats 40 l = true) :
    ∃ e : Value → Bool, (∀ y, y ∈ its.toArray → SeqAt.EqAt X.A.in1 s y u (e y)) ∧ its.map e = l.map fun d => D.eq d x := by
  obtain ⟨p1, p2, p3⟩ := Rp.dp x v h1 rx
  obtain ⟨q1, q2, q3⟩ := Rps.dp l xs h2 r
  obtain ⟨as, ra⟩ := Dp.readsAll I _ xs its (hX ▸ q1) rv
  obtain ⟨bs, rb⟩ := Dp.reads I _ v u (hX ▸ p1) ru
  have hroom : X.A.units + 1 + min (PyData.depthAll (D.toPs l)) x.toP.depth < cLine := room_in_shaped (shaped_of p2 p3) hu
  refine ⟨fun y => PyData.eqv (SeqAt.readOf s.heap y) x.toP, SeqAt.items_eqAt (vs := its.toArray) (show ReadsAll s.heap its.toArray.toList (D.toPs l) as from ra) rb q2 p2 hroom, ?_⟩
  have hm : its.map (SeqAt.readOf s.heap) = D.toPs l := SeqAt.readsAll_map _ its as q2 ra
  rw [toPs_map] at hm
  have e1 : its.map (fun y => PyData.eqv (SeqAt.readOf s.heap y) x.toP) = (its.map (SeqAt.readOf s.heap)).map fun z => PyData.eqv z x.toP := by rw [List.map_map]; rfl
  rw [e1, hm, List.map_map]
  refine List.map_congr_left fun d hd => ?_
  have : d.dat 40 = true := by
    clear rv ra hm e1 hroom q1 q2 q3 r
    induction l with
    | nil => cases hd
    | cons a l ih =>
      simp only [D.dats, Bool.and_eq_true] at h2
      rcases List.mem_cons.mp hd with rfl | hd
      · exact h2.1
      · exact ih h2.2 hd
  exact (eq_toP d x this h1).symm
theorem countP_map {α : Type} (e : α → Bool) (l : List α) : l.countP e = (l.map e).countP _root_.id := by rw [List.countP_map]; rfl
theorem mr_count (hX : X.K = C.K) (hu : X.A.units + 65 < cLine) : MtR X "list.count" (rMt C .count) := by
  rintro pins s σ H x vs v us Q I rx rv ⟨b, W, τ, ρ, S, ds, g, hs, o⟩
  simp only [prim, pCount] at o
  split at o
  · rename_i d1 d2
    obtain ⟨x1, t, e, h1, x2, t2, e2, h2, h3⟩ := hs
    cases (show t2 = [] from h3); subst e2; cases e
    split at o
    · rename_i l ea
      split at o
      · rename_i hd
        rw [Bool.and_eq_true] at hd
        have ea : d1.val S = .lst l := by
          unfold asLst at ea
          split at ea
          · rename_i e; cases ea; exact e
          · cases ea
        obtain ⟨a, xs, rfl, q1, q2⟩ := valL g h1 ea
        cases rx
        obtain ⟨u, rfl, ru⟩ := rv.one
        obtain ⟨its, rr, ⟨⟨cls, dd, data, sls⟩, n, ho, hc, hdn, hdt⟩, hlen⟩ := I.list (hX ▸ q1)
        simp only at hc hdt
        subst hc hdt
        obtain ⟨e, he, hm⟩ := items_data hX hu I q2 rr h2 ru hd.1 hd.2
        refine call_meets PySem.F.slot_list_count ⟨_, ho, rfl⟩ PySem.F.entry_list_count (PySem.F.args_list_count_2 _ _) (SeqAt.list_countAt a its.toArray n dd sls u e) ⟨ho, he, ?_⟩
        refine ⟨.int _, H, I.tok _, ⟨s.toks, ?_⟩, o ρ H (Le.refl g.bb) g _ rfl⟩
        show Value.int ((its.countP e : Nat) : Int) s.toks = _
        rw [countP_map e its, hm, ← countP_map]
      · exact o.elim
    · exact o.elim
  · exact o.elim
theorem mr_tcount (hX : X.K = C.K) (hu : X.A.units + 65 < cLine) : MtR X "tuple.count" (rMt C .tcount) := by
  rintro pins s σ H x vs v us Q I rx rv ⟨b, W, τ, ρ, S, ds, g, hs, o⟩
  simp only [prim, pCount] at o
  split at o
  · rename_i d1 d2
    obtain ⟨x1, t, e, h1, x2, t2, e2, h2, h3⟩ := hs
    cases (show t2 = [] from h3); subst e2; cases e
    split at o
    · rename_i l ea
      split at o
      · rename_i hd
        rw [Bool.and_eq_true] at hd
        have ea : d1.val S = .tup l := by
          unfold asTup at ea
          split at ea
          · rename_i e; cases ea; exact e
          · cases ea
        obtain ⟨a, xs, rfl, q1, q2⟩ := valT g h1 ea
        cases rx
        obtain ⟨u, rfl, ru⟩ := rv.one
        obtain ⟨its, rr, ⟨⟨cls, dd, data, sls⟩, ho, hc, n, hdt⟩, hlen⟩ := I.tuple (hX ▸ q1.sq)
        simp only at hc hdt
        subst hc hdt
        obtain ⟨e, he, hm⟩ := items_data hX hu I q2 rr h2 ru hd.1 hd.2
        refine call_meets PySem.F.slot_tuple_count ⟨_, ho, rfl⟩ PySem.F.entry_tuple_count (PySem.F.args_tuple_count_2 _ _) (SeqAt.tuple_countAt a its.toArray n dd sls u e) ⟨ho, he, ?_⟩
        refine ⟨.int _, H, I.tok _, ⟨s.toks, ?_⟩, o ρ H (Le.refl g.bb) g _ rfl⟩
        show Value.int ((its.countP e : Nat) : Int) s.toks = _
        rw [countP_map e its, hm, ← countP_map]
      · exact o.elim
    · exact o.elim
  · exact o.elim
theorem place_at {e : Value → Bool} {its : List Value} {l : List D} {x : D} {j : Nat} (hm : its.map e = l.map fun d => D.eq d x) (hp : placeD x l = some j) :
    ∃ hj : j < its.toArray.size, e its.toArray[j] = true ∧ ∀ m (h : m < its.toArray.size), m < j → e its.toArray[m] = false := by
  obtain ⟨⟨d, h1, h2⟩, h3⟩ := placeD_spec hp
  have hl : its.length = l.length := by simpa using congrArg List.length hm
  have hjl : j < l.length := (List.getElem?_eq_some_iff.mp h1).1
  have at_ : ∀ m (h : m < its.length) (h' : m < l.length), e its[m] = D.eq l[m] x := fun m h h' => by
    have := congrArg (fun z => z[m]?) hm
    simp only [List.getElem?_map, List.getElem?_eq_getElem h, List.getElem?_eq_getElem h', Option.map_some, Option.some.injEq] at this
    exact this
  refine ⟨by rw [List.size_toArray]; omega, ?_, fun m h hmj => ?_⟩
  · rw [List.getElem_toArray, at_ j (by omega) hjl]
    rw [List.getElem?_eq_getElem hjl] at h1; cases h1; exact h2
  · rw [List.size_toArray] at h
    rw [List.getElem_toArray, at_ m h (by omega)]
    exact h3 m hmj _ (List.getElem?_eq_getElem (by omega))
theorem mr_index (hX : X.K = C.K) (hu : X.A.units + 65 < cLine) : MtR X "list.index" (rMt C .index) := by
  rintro pins s σ H x vs v us Q I rx rv ⟨b, W, τ, ρ, S, ds, g, hs, o⟩
  simp only [prim, pIndex] at o
  split at o
  · rename_i d1 d2
    obtain ⟨x1, t, e, h1, x2, t2, e2, h2, h3⟩ := hs
    cases (show t2 = [] from h3); subst e2; cases e
    split at o
    · rename_i l ea
      split at o
      · rename_i hd
        rw [Bool.and_eq_true] at hd
        have ea : d1.val S = .lst l := by
          unfold asLst at ea
          split at ea
          · rename_i e; cases ea; exact e
          · cases ea
        split at o
        · rename_i j hp
          obtain ⟨a, xs, rfl, q1, q2⟩ := valL g h1 ea
          cases rx
          obtain ⟨u, rfl, ru⟩ := rv.one
          obtain ⟨its, rr, ⟨⟨cls, dd, data, sls⟩, n, ho, hc, hdn, hdt⟩, hlen⟩ := I.list (hX ▸ q1)
          simp only at hc hdt
          subst hc hdt
          obtain ⟨e, he, hm⟩ := items_data hX hu I q2 rr h2 ru hd.1 hd.2
          obtain ⟨hj, e1, e2⟩ := place_at hm hp
          have hvl := rr.length
          have hsl := sizeLine_eq
          refine call_meets PySem.F.slot_list_index ⟨_, ho, rfl⟩ PySem.F.entry_list_index (PySem.F.args_list_index_2 _ _) (SeqAt.list_indexAt a its.toArray n dd sls u e j hj (by rw [List.size_toArray] at hj; omega) e1 e2) ⟨ho, he, ?_⟩
          exact ⟨.int _, H, I.tok _, ⟨s.toks, rfl⟩, o ρ H (Le.refl g.bb) g _ rfl⟩
        · exact o.elim
      · exact o.elim
    · exact o.elim
  · exact o.elim
theorem mr_tindex (hX : X.K = C.K) (hu : X.A.units + 65 < cLine) : MtR X "tuple.index" (rMt C .tindex) := by
  rintro pins s σ H x vs v us Q I rx rv ⟨b, W, τ, ρ, S, ds, g, hs, o⟩
  simp only [prim, pIndex] at o
  split at o
  · rename_i d1 d2
    obtain ⟨x1, t, e, h1, x2, t2, e2, h2, h3⟩ := hs
    cases (show t2 = [] from h3); subst e2; cases e
    split at o
    · rename_i l ea
      split at o
      · rename_i hd
        rw [Bool.and_eq_true] at hd
        have ea : d1.val S = .tup l := by
          unfold asTup at ea
          split at ea
          · rename_i e; cases ea; exact e
          · cases ea
        split at o
        · rename_i j hp
          obtain ⟨a, xs, rfl, q1, q2⟩ := valT g h1 ea
          cases rx
          obtain ⟨u, rfl, ru⟩ := rv.one
          obtain ⟨its, rr, ⟨⟨cls, dd, data, sls⟩, ho, hc, n, hdt⟩, hlen⟩ := I.tuple (hX ▸ q1.sq)
          simp only at hc hdt
          subst hc hdt
          obtain ⟨e, he, hm⟩ := items_data hX hu I q2 rr h2 ru hd.1 hd.2
          obtain ⟨hj, e1, e2⟩ := place_at hm hp
          refine call_meets PySem.F.slot_tuple_index ⟨_, ho, rfl⟩ PySem.F.entry_tuple_index (PySem.F.args_tuple_index_2 _ _)
            (SeqAt.tuple_index2_found a its.toArray n dd sls u (fun m => (its.toArray[m]?.map e).getD false) j hj (Nat.zero_le _) hj (by rw [Array.getElem?_eq_getElem hj]; exact e1) (fun m hm _ hmj => by rw [Array.getElem?_eq_getElem hm]; exact e2 m hm hmj)) ⟨ho, fun m hm => ?_, ?_⟩
          · rw [Array.getElem?_eq_getElem hm]; exact he _ (Array.getElem_mem hm)
          · exact ⟨.int _, H, I.tok _, ⟨s.toks, rfl⟩, o ρ H (Le.refl g.bb) g _ rfl⟩
        · exact o.elim
      · exact o.elim
    · exact o.elim
  · exact o.elim
end
end Mi

namespace Mi
open PySem L2 PySem.Spec PyProof.Rows
/-! ## set(a list of texts) -/
def insA (ks : List Key) : List Key := ks.foldl (fun a k => insK k a) []
theorem insA_snoc {l : List Key} {i : Nat} {k : Key} (h : l[i]? = some k) : insA (l.take (i + 1)) = insK k (insA (l.take i)) := by
  unfold insA
  rw [List.take_add_one, h, List.foldl_append]; rfl
theorem insK_len (k : Key) (ks : List Key) : (insK k ks).length ≤ ks.length + 1 := by
  unfold insK
  split
  · omega
  · simp
theorem insA_len : ∀ (i : Nat) (l : List Key), (insA (l.take i)).length ≤ i
  | 0, l => by simp [insA]
  | i + 1, l => by
    cases h : l[i]? with
    | none =>
      have : l.take (i + 1) = l.take i := by rw [List.take_add_one, h]; simp
      rw [this]
      exact Nat.le_succ_of_le (insA_len i l)
    | some k =>
      rw [insA_snoc h]
      exact Nat.le_trans (insK_len _ _) (Nat.succ_le_succ (insA_len i l))
section
variable {P : Program} {w : World} {A : Around} {E : Value → Shared → Prop} {s : Shared}
theorem set_update_keys {I : Addr} {fp wr : List Addr} {G : Array GenState → Array GenState → Prop} {n : Nat} {Pv : Nat → Value → Prop} {St : Nat → Shared → Prop} {R : Result → Shared → Prop}
    (W : WalksS P w A.in1 I fp wr G n Pv St) (S : Addr) (hSf : S ∉ fp) (ns : List Key) (hn : n = ns.length) (hb : ns.length + 1 < scanBound) (hval : ∀ i v, Pv i v → ∃ k, ns[i]? = some k ∧ RelV (kV k) v) :
    ∀ (k i : Nat) (s : Shared), n - i = k → i ≤ n → St i s → SetG (KK P w) s.heap S (insA (ns.take i)) →
      (∀ s', Moved (S :: wr) G s s' → SetG (KK P w) s'.heap S (insA ns) → R (.ok (.ret .none)) s') →
      codeAny (model P w) A (.builtin "set.update.loop" ⟨[.ref S, .ref I], []⟩) R s := by
  have hSw : S ∉ wr := fun h => hSf (W.sub _ h)
  have hsub : ∀ b ∈ wr, b ∈ S :: wr := fun b hb => List.mem_cons_of_mem _ hb
  intro k
  induction k with
  | zero =>
    intro i s hk' hi hst hS hR
    have hin : i = n := by omega
    subst hin
    refine codeAny_builtin F.entry_set_update_loop ?_
    rw [Around.under_plainId F.plain_set_update_loop _]
    show wpAny _ A.in1 (pyNext (.ref I) >>= _) _ _ s
    refine wpAny_bind (W.done s _ _ hst fun s' hm => ?_)
    show wpAny _ A.in1 (ret Value.none) _ _ s'
    have e : ns.take i = ns := List.take_of_length_le (by omega)
    rw [e] at hS
    exact wpAny_pure (hR s' (hm.mono hsub) (hS.stay fun o e => hm.heap S o hSw e))
  | succ k ih =>
    intro i s hk' hi hst hS hR
    have hlt : i < n := by omega
    refine codeAny_builtin F.entry_set_update_loop ?_
    rw [Around.under_plainId F.plain_set_update_loop _]
    show wpAny _ A.in1 (pyNext (.ref I) >>= _) _ _ s
    refine wpAny_bind (W.item i s _ _ hlt hst fun v s' hP hst' hm => ?_)
    obtain ⟨z, hz, rz⟩ := hval i v hP
    have hS' : SetG (KK P w) s'.heap S (insA (ns.take i)) := hS.stay fun o e => hm.heap S o hSw e
    show wpAny _ A.in1 (holding [v] (setAdd S v) >>= _) _ _ s'
    refine wpAny_bind (wpAny_holding ?_)
    unfold setAdd
    refine wpAny_holding ?_
    refine wpAny_bind ((KK P w).pyHash (kV_is rz) ?_)
    have hlen := insA_len i ns
    refine SetG.lay (s := { s' with toks := s'.toks + 1 }) hS' (kV_is rz) (key_scan rz) (by omega) fun bb h' hsb hS2 => ?_
    have hS3 : SetG (KK P w) h' S (insA (ns.take (i + 1))) := by rw [insA_snoc hz]; exact hS2
    refine wpAny_pure ⟨plainId_quiet F.plain_set_update_loop _, ih (i + 1) _ (by omega) hlt (W.frame _ s' _ _ hst' (Nat.le_succ _) fun b hb o e => ?_) hS3 fun s'' hm'' hS'' => ?_⟩
    · rw [hsb.2 b (fun h : b = S => hSf (by rw [← h]; exact hb))]; exact e
    · refine hR s'' (Moved.trans W.gtrans ((hm.mono hsub).then_heap (Nat.le_succ _) fun b o hb e => ?_) hm'') hS''
      rw [hsb.2 b (fun h : b = S => hb (by rw [h]; exact List.mem_cons_self))]; exact e
theorem setG_at {h : Heap} {a : Addr} (ho : h.get? a = some { cls := .type "set", dict := none, data := .set #[] 0 (.fresh 0 0 (!w.params.followText "set-order")) }) : SetG (KK P w) h a [] := by
  refine ⟨_, #[], 0, _, [], ho, ⟨rfl, rfl, rfl⟩, rfl, .refl _, .nil, .nil, by decide, rfl, .nil, ?_⟩
  cases hf : w.params.followText "set-order"
  · exact .inr rfl
  · exact .inl rfl
theorem call_set_listK {l : Addr} {items : Array Value} (ns : List Key) {Q : Value → Shared → Prop} (hh : A.handled = none) (hl : s.heap.IsList l items) (hit : Vals (ns.map kV) items.toList) (hb : ns.length + 1 < scanBound)
    (h : ∀ (h' : Heap) (tk : Nat), SetG (KK P w) h' s.heap.objs.size (insA ns) → (∀ b o, s.heap.get? b = some o → h'.get? b = some o) → Q (.ref s.heap.objs.size) { s with heap := h', toks := tk }) :
    wpAny (model P w) A (call (.type "set") [.ref l]) Q E s := by
  have hisz : items.size = ns.length := by
    have q : (ns.map kV).length = items.toList.length := hit.length
    rw [List.length_map] at q
    rw [← Array.length_toList]
    exact q.symm
  obtain ⟨c, tl, hmro⟩ := F.called_set.mro
  have hmade := F.called_set.made
  have hsub := F.called_set.sub
  refine wpAny_call (codeAny_of_tree ?_)
  show wpAny _ _ (callAny (.type "set") _) _ _ _
  refine wpAny_pure ⟨Code.quiet_builtin _ (by decide +kernel), codeAny_builtin F.entry_type_call ?_⟩
  rw [Around.under_plain (weight_type_call_type "set" [.ref l] []) rfl]
  have h1 := F.called_set.notType
  have h2 := F.called_set.canCreate
  have hct := F.typeCall_set_1 (.ref l)
  repeat (any_goals (first | assumption | wp_step))

  refine codeAny_mono (code_set_led1 (.ref l) (E := E) (Q₁ := fun obj s₁ => obj = .ref s.heap.objs.size ∧ s₁ = { s with heap := s.heap.push { cls := .type "set", dict := none, data := .set #[] 0 (.fresh 0 0 (!w.params.followText "set-order")) } }) ⟨rfl, rfl⟩) fun r s₁ hr => ?_
  cases r with
  | error e => exact hr
  | ok fl =>
    cases fl with
    | ret obj =>
      obtain ⟨rfl, rfl⟩ := hr
      have hS : (s.heap.push { cls := .type "set", dict := none, data := .set #[] 0 (.fresh 0 0 (!w.params.followText "set-order")) }).get? s.heap.objs.size = some { cls := .type "set", dict := none, data := .set #[] 0 (.fresh 0 0 (!w.params.followText "set-order")) } := Heap.get?_push_size _ rfl
      have hT : Shared.TypeIs { s with heap := s.heap.push { cls := .type "set", dict := none, data := .set #[] 0 (.fresh 0 0 (!w.params.followText "set-order")) } } (.ref s.heap.objs.size) "set" := ⟨_, hS, rfl⟩
      have hli := F.called_set.init.lookup
      have hbi := F.called_set.init.bind (.ref s.heap.objs.size)
      repeat (any_goals (first | assumption | wp_step))

      refine codeAny_mono (codeAny_call_builtin (R := wants (fun r s₂ => r = .none ∧ ∃ h' tk, s₂ = { s with heap := h', toks := tk } ∧ SetG (KK P w) h' s.heap.objs.size (insA ns) ∧
          (∀ b o, s.heap.get? b = some o → h'.get? b = some o)) E) F.called_set.init.plain F.entry_set_init (check_set_init_1 hT ?_)) fun r₂ s₂ hr₂ => ?_
      · obtain ⟨ol, hol, hcl, nl, hdl⟩ := hl
        obtain ⟨ocls, odict, odata, oslots⟩ := ol
        simp only at hcl hdl
        subst hcl; subst hdl
        have hol' : (s.heap.push { cls := .type "set", dict := none, data := .set #[] 0 (.fresh 0 0 (!w.params.followText "set-order")) }).get? l = some { cls := .type "list", dict := odict, data := .seq items nl, slots := oslots } := Heap.get?_push_of_some _ hol
        have hsls := PySem.F.sub_list_set
        have hslf := PySem.F.sub_list_frozenset
        have hne : (Value.type "list" == Value.type "dict") = false := by decide
        have hl1 : (s.heap.push { cls := .type "set", dict := none, data := .set #[] 0 (.fresh 0 0 (!w.params.followText "set-order")) }).IsList l items := ⟨_, hol', rfl, nl, rfl⟩
        unfold Builtin.«set.__init__» noKeywords Builtin.Frozenset.updateFrom
        generalize hPI : pyIter = PI
        wp_walk
        subst hPI

        refine wpAny_pyIter_list hl1 ?_
        refine wpAny_bind (wpAny_runValue ?_)
        have hlS : l < s.heap.objs.size := Heap.lt_size hol
        have hh3 : A.in1.in1.in1.handled = none := by simp [hh]
        have hz1 : (s.heap.push { cls := .type "set", dict := none, data := .set #[] 0 (.fresh 0 0 (!w.params.followText "set-order")) }).objs.size = s.heap.objs.size + 1 := Heap.size_push ..
        have hneI : l ≠ (s.heap.push { cls := .type "set", dict := none, data := .set #[] 0 (.fresh 0 0 (!w.params.followText "set-order")) }).objs.size := by
          rw [Heap.size_push]; exact Nat.ne_of_lt (Nat.lt_succ_of_lt hlS)
        have hSf : s.heap.objs.size ∉ [(s.heap.push { cls := .type "set", dict := none, data := .set #[] 0 (.fresh 0 0 (!w.params.followText "set-order")) }).objs.size, l] := by
          rw [Heap.size_push]; simp only [List.mem_cons, List.mem_singleton, List.not_mem_nil, or_false, not_or]
          exact ⟨Nat.ne_of_lt (Nat.lt_succ_self _), Nat.ne_of_gt hlS⟩
        have hval : ∀ (i : Nat) (v : Value), items[i]? = some v → ∃ k, ns[i]? = some k ∧ RelV (kV k) v := fun i v hv => by
          have hi : i < ns.length := by rw [← hisz]; exact (Array.getElem?_eq_some_iff.mp hv).1
          obtain ⟨w', hw, rw'⟩ := hit.get (i := i) (x := kV ns[i]) (by rw [List.getElem?_map, List.getElem?_eq_getElem hi]; rfl)
          rw [Array.getElem?_toList, hv] at hw
          cases hw
          exact ⟨ns[i], List.getElem?_eq_getElem hi, rw'⟩
        refine set_update_keys ((Walks.list hh3 _ l hneI items).toS) s.heap.objs.size
          hSf ns hisz hb hval (items.size - 0) 0 _ (by omega) (Nat.zero_le _)
          ⟨⟨_, Heap.get?_push_size _ rfl, rfl, rfl⟩, (hl1.push _)⟩ ?hS0 ?hR
        case hS0 =>
          have hget : ((s.heap.push { cls := .type "set", dict := none, data := .set #[] 0 (.fresh 0 0 (!w.params.followText "set-order")) }).push { cls := .type "list_iterator", data := .fields #[.ref l, .int 0 0] }).get? s.heap.objs.size
              = some { cls := .type "set", dict := none, data := .set #[] 0 (.fresh 0 0 (!w.params.followText "set-order")) } := Heap.get?_push_of_some _ hS
          exact setG_at hget
        case hR =>
          intro s' hm hS'
          obtain ⟨h', g2, d', tk', os'⟩ := s'
          have eg : g2 = s.gens := hm.gens
          have ed : d' = s.drawn := hm.drawn
          have eo : os' = s.os := hm.os
          subst eg; subst ed; subst eo
          show wpAny _ _ _ _ _ _
          refine wpAny_pure ?_
          show wpAny _ _ (ret Value.none) _ _ _
          refine wpAny_pure ⟨rfl, h', tk', rfl, hS', fun b o e => ?_⟩
          have hb0 : b < s.heap.objs.size := Heap.lt_size e
          have hb1 : b ≠ s.heap.objs.size := Nat.ne_of_lt hb0
          have hb2 : b ≠ (s.heap.push { cls := .type "set", dict := none, data := .set #[] 0 (.fresh 0 0 (!w.params.followText "set-order")) }).objs.size := by
            rw [Heap.size_push]; exact Nat.ne_of_lt (Nat.lt_succ_of_lt hb0)
          exact hm.heap b o (by simp only [List.mem_cons, List.mem_singleton, List.not_mem_nil, or_false, not_or]; exact ⟨hb1, hb2⟩) (Heap.get?_push_of_some _ (Heap.get?_push_of_some _ e))

      · cases r₂ with
        | error e => exact hr₂
        | ok fl₂ =>
          cases fl₂ with
          | ret r =>
            obtain ⟨rfl, h', tk, rfl, hS', hk'⟩ := hr₂
            repeat (any_goals (first | assumption | wp_step))
            exact h _ _ hS' hk'
          | _ => exact hr₂.elim
    | _ => exact hr.elim
end
/-- set(xs), xs a list of texts -/
def rSetL (X : Cx) : List V → Hp → VK → Prop := fun vs H Q => ∃ (a : Addr) (ss : List Str), vs = [.ref a] ∧ SqL X.K H a (ss.map V.str) ∧ ss.length < 4000 ∧ ∀ p, H p = none → Q (.ref p) (upd H p (SetH X.prog X.w p (insA (ss.map Sum.inr))))
theorem cr_setL {X : Cx} (hc : X.calm = true) : CallR X (.type "set") (rSetL X) := by
  intro pins s σ H vs us Q I r ⟨a, ss, e, hs, hl, q⟩
  subst e
  rw [Vals.ref1 r]
  obtain ⟨its, rr, hl2, hz⟩ := I.list hs
  have e2 : (ss.map Sum.inr).map kV = ss.map V.str := by rw [List.map_map]; rfl
  refine call_set_listK (ss.map Sum.inr) (I.ok.hd hc) hl2.isList (by rw [e2]; simpa using rr) (by rw [List.length_map]; unfold scanBound; omega) fun h' tk hS k => ?_
  exact ⟨.ref _, _, I.laid (t' := tk) (a := s.heap.objs.size) k (Nat.le_refl _) (setH_ok hS), rfl, q _ (I.hok.fresh (Nat.le_refl _))⟩
end Mi

namespace Mi
open PySem L2 PySem.Spec PyProof.Rows
/-! ## sum, sorted(a dict), sorted(set(..)), walks over a dict -/
section
variable {X : Cx} {C : Cxt} {b : Nat} {W : WX} {ρ ρ' ρ1 : List Addr} {S S' S1 : Sto} {H H' H1 : Hp} {σ : L2.St} {p q r : Expr} {pos : Pos} {fa : Env → Sto → Rs Mi.D} {l : Addr → Prop}
theorem ints_rps {K : PySem.W.Frag} : ∀ {ds : List Mi.D} {xs : List V} {a i : Int}, sumInts ds a = some i → Rps K ρ l H ds xs → ∃ ns : List Int, xs = ns.map V.int ∧ i = a + ns.sum
  | [], xs, a, i, e, h => by
    cases e
    exact ⟨[], h, by simp⟩
  | d :: r, xs, a, i, e, ⟨x, t, e2, h1, h2⟩ => by
    cases d with
    | int k =>
      cases (show x = .int k from h1)
      obtain ⟨ns, h3, h4⟩ := ints_rps (show sumInts r (a + k) = some i from e) h2
      exact ⟨k :: ns, by rw [e2, h3]; rfl, by rw [h4, List.sum_cons]; omega⟩
    | _ => cases e
theorem pr_sum (hX : X.K = C.K) (hc : X.calm = true) : CallR X (.builtin "sum") (rPr C .sum) := by
  rintro pins s σ H xs us Q I r ⟨b, W, τ, ρ, S, ds, g, hs, o⟩
  simp only [prim, pSum] at o
  split at o
  · obtain ⟨x, t, e, h1, h2⟩ := hs
    cases (show t = [] from h2); subst e
    split at o
    · rename_i ea
      obtain ⟨p, ys, rfl, q1, q2⟩ := valL g h1 ea
      split at o
      · rename_i i ei
        obtain ⟨ns, rfl, e2⟩ := ints_rps ei q2
        refine cr_sum hc pins s σ H _ us Q I r ⟨p, ns, rfl, hX ▸ q1, ?_⟩
        have := o ρ H (Le.refl g.bb) g (.int i) rfl
        rw [e2, Int.zero_add] at this
        exact this
      · exact o.elim
    · exact o.elim
  · exact o.elim
/-- sorted of a dict whose keys are texts -/
def rSortD : List V → Hp → VK → Prop := fun xs H Q => ∃ (a : Addr) (kvs : List (Key × V)) (ss : List Str), xs = [.ref a] ∧ Rd H a (.dK kvs) ∧ kvs.map (·.1) = ss.map Sum.inr ∧ ss.length < 64 ∧
  ∀ (ys : List Str) (p : Addr), ys.Perm ss → sortedS ys = true → H p = none → Q (.ref p) (upd H p (.lst (ys.map V.str)))
theorem cr_sortD (hc : X.calm = true) : CallR X (.builtin "sorted") rSortD := by
  intro pins s σ H xs us Q I r ⟨a, kvs, ss, e0, ha, ek, few, q⟩
  subst e0
  rw [Vals.ref1 r]
  obtain ⟨z, lo, vs, rk, hd⟩ := dk_rd I.hok ha
  obtain ⟨ep, hat⟩ := hd.dictAt
  have hl : kvs.length = vs.length := Paired.length rk
  have hss : ss.length = kvs.length := by
    have := congrArg List.length ek
    simpa using this.symm
  refine Calls.call_function_entry kind_sorted plain_sorted entry_sorted (args_sorted1 _) ?_
  unfold Builtin.«sorted»
  refine wpAny_bind (m := checkCount "sorted" 1 1 _) (wpAny_pure ?_)
  refine wpAny_bind (PySem.W.kdu_collect (A := X.A.in1) (PySem.W.kdl_dict (knd := mixKind X.prog X.w) (kvs := vs) (ep := ep) lo) (I.ok.hd hc) hat (by rw [← hl]; exact z) fun h1 tk1 acc k1 hacc => ?_)
  have st : StrsAre acc.toList ss := by
    have hal : acc.toList.length = ss.length := by rw [Array.length_toList, hacc.1, hss, hl]
    have key : ∀ j (h1 : j < acc.toList.length) (h2 : j < ss.length), Value.isStrOf ss[j] acc.toList[j] = true := fun j h1 h2 => by
      have h3 : j < acc.size := by simpa using h1
      obtain ⟨k, y, hky, hi⟩ := hacc.2 j acc[j] (Array.getElem?_eq_getElem h3)
      have e1 : (kvs.map (·.1))[j]? = some k := by
        rw [KV.keys rk, List.getElem?_map, hky] <;> rfl
      rw [ek, List.getElem?_map, List.getElem?_eq_getElem h2] at e1
      cases e1
      exact hi
    clear hacc
    generalize acc.toList = as at hal key
    clear q hss few ek
    induction as generalizing ss with
    | nil =>
      cases ss with
      | nil => exact .nil
      | cons _ _ => simp at hal
    | cons v as ih =>
      cases ss with
      | nil => simp at hal
      | cons x ss =>
        have h0 := key 0 (by simp) (by simp)
        obtain ⟨tk, e2⟩ : ∃ tk, v = Value.str x tk := Value.isStrOf_shape (show Value.isStrOf x v = true from h0)
        rw [e2]
        exact .cons x tk (ih ss (by simpa using hal) fun j h1 h2 => by
          have := key (j + 1) (by simp; omega) (by simp; omega)
          simpa using this)
  have n1 : acc.toList.length < 64 := by
    rw [Array.length_toList, hacc.1, ← hl, ← hss]; exact few
  refine wpAny_bind (wpAny_newList ?_ (by rw [sizeLine_eq]; omega))
  have at1 : (h1.push (seqObj "list" acc.toList.toArray 0)).get? h1.objs.size = some (seqObj "list" acc.toList.toArray 0) := Heap.get?_push_size _ rfl
  refine wpAny_bind (wpAny_holding (wpAny_call_entry slot_list_sort ⟨_, at1, rfl⟩ entry_list_sort
    (list_sort_treeK strKind_oneLt at1 st.keysOf (fun v1 v2 rest e => keyKind_strs (by rw [← e]; exact st)) n1 fun st' a1 a2 => ⟨_, rfl, ?_⟩) (args_list_sort _)))
  refine wpAny_pure ⟨_, rfl, ?_⟩
  obtain ⟨ys, b1, b2, b3⟩ := sorted_out_str st a1 a2
  obtain ⟨c, hc'⟩ := sortedHeap_at (vs := acc.toList) (out := (arrOf st').map (·.2)) at1
  have I1 : L2.Inv X pins σ H { s with heap := h1, toks := tk1 } := I.kept (t' := tk1) k1
  have hn : H h1.objs.size = none := I1.hok.fresh (Nat.le_refl _)
  have keep : ∀ b u, h1.get? b = some u → (sortedHeap (h1.push (seqObj "list" acc.toList.toArray 0)) h1.objs.size acc.toList ((arrOf st').map (·.2))).get? b = some u := fun b u e1 => by
    have lt := Heap.lt_size e1
    rw [sortedHeap_old (Nat.ne_of_lt lt) (by rw [size_push']; exact Nat.lt_succ_of_lt lt)]
    exact Heap.get?_push_of_some _ e1
  have hlen : (ys.map V.str).length ≤ sizeLine := by
    rw [List.length_map, b2.length_eq, sizeLine_eq]
    omega
  refine ⟨.ref h1.objs.size, upd H h1.objs.size (.lst (ys.map V.str)), ?_, rfl, q ys _ b2 b3 hn⟩
  exact I1.call' (ch := []) rfl (Un.laid keep (Nat.le_refl _) hn) (I1.hok.laid keep (Nat.le_refl _) ⟨hlen, _, c, vals_of_strs b1, hc'⟩) I1.bare (fun _ z => nomatch z)
theorem keys_str : ∀ {ds : List (Mi.D × Mi.D)} {xs : List (Key × V)} {ss : List (List Nat)}, strsD (ds.map (·.1)) = some ss → Rpp C.KR ρ l H ds xs → xs.map (·.1) = (ss.map strV).map Sum.inr ∧ ∀ s ∈ ss, okS s = true
  | [], xs, ss, e, h => by
    cases e
    rw [show xs = [] from h]
    exact ⟨rfl, fun s hs => absurd hs (by simp)⟩
  | (k, d) :: r, xs, ss, e, ⟨q, x, t, e2, hk, h1, h2⟩ => by
    subst e2
    cases k with
    | str s =>
      obtain ⟨rfl, ok⟩ := (show q = _ ∧ _ from hk)
      cases e3 : strsD (r.map (·.1)) with
      | none => simp only [List.map_cons, strsD, e3] at e; cases e
      | some s2 =>
        simp only [List.map_cons, strsD, e3] at e; cases e
        obtain ⟨h4, h5⟩ := keys_str e3 h2
        exact ⟨by rw [List.map_cons, h4]; rfl, fun y hy => by
          rcases List.mem_cons.mp hy with rfl | hy
          · exact ok
          · exact h5 y hy⟩
    | _ => cases e
theorem pr_sortd (hc : X.calm = true) (m : Bool) : CallR X (.builtin "sorted") (rPr C (.sortd m)) := by
  rintro pins s σ H xs us Q I r ⟨b, W, τ, ρ, S, ds, g, hs, o⟩
  simp only [prim, pSortd] at o
  split at o
  · obtain ⟨x, t, e, h1, h2⟩ := hs
    cases (show t = [] from h2); subst e
    split at o
    · rename_i ea
      obtain ⟨p, ys, rfl, q1, q2⟩ := valD g h1 ea
      split at o
      · rename_i ss e1
        split at o
        · rename_i few
          obtain ⟨ek, ok⟩ := keys_str e1 q2
          refine cr_sortD hc pins s σ H _ us Q I r ⟨p, ys, ss.map strV, rfl, q1, ek, by rw [List.length_map]; exact few, fun zs p' h3 h4 hp => ?_⟩
          rw [sorted_is h3 h4]
          exact out_newL g (rps_strs (okS_sort ok)) hp o
        · exact o.elim
      · exact o.elim
    · exact o.elim
  · exact o.elim
theorem insA_dd (ss : List (List Nat)) : insA ((ss.map strV).map Sum.inr) = (ddS (ss.map .str)).map skey := by
  unfold insA ddS
  suffices ∀ (ss acc : List (List Nat)), ((ss.map strV).map Sum.inr).foldl (fun a k => insK k a) (acc.map skey) = ((ss.map Mi.D.str).foldl ddStep acc).map skey from this ss []
  intro ss
  induction ss with
  | nil => intro acc; rfl
  | cons s ss ih =>
    intro acc
    show ((ss.map strV).map Sum.inr).foldl (fun a k => insK k a) (insK (skey s) (acc.map skey)) = ((ss.map Mi.D.str).foldl ddStep (insS s acc)).map skey
    rw [insK_key, ih]
theorem ddS_ok {ss : List (List Nat)} (h : ∀ s ∈ ss, okS s = true) : ∀ s ∈ ddS (ss.map .str), okS s = true := by
  unfold ddS
  suffices ∀ (ss acc : List (List Nat)), (∀ s ∈ ss, okS s = true) → (∀ s ∈ acc, okS s = true) → ∀ s ∈ (ss.map Mi.D.str).foldl ddStep acc, okS s = true from this ss [] h (by simp)
  intro ss
  induction ss with
  | nil => intro acc _ h; exact h
  | cons s ss ih =>
    intro acc h1 h2
    show ∀ t ∈ (ss.map Mi.D.str).foldl ddStep (insS s acc), okS t = true
    refine ih _ (fun t ht => h1 t (List.mem_cons_of_mem _ ht)) fun t ht => ?_
    unfold insS at ht
    split at ht
    · exact h2 t ht
    · rcases List.mem_append.mp ht with ht | ht
      · exact h2 t ht
      · simp at ht; subst ht; exact h1 _ (List.mem_cons_self ..)
theorem strsD_eq : ∀ {l : List Mi.D} {ss : List (List Nat)}, strsD l = some ss → l = ss.map .str
  | [], ss, e => by cases e; rfl
  | d :: l, ss, e => by
    cases d with
    | str z =>
      cases e4 : strsD l with
      | none => simp only [strsD, e4] at e; cases e
      | some s2 =>
        simp only [strsD, e4] at e; cases e
        rw [strsD_eq e4]; rfl
    | _ => cases e
end
end Mi

namespace Mi
open PySem L2 PySem.Spec PyProof.Rows
/-! ## t[a:b].count(x), t[a:b].index(x): a method of a tuple that has just been cut -/
section
variable {X : Cx} {C : Cxt} {b : Nat} {W : WX} {ρ : List Addr} {S : Sto} {H : Hp} {σ : L2.St} {p q : Expr} {ps : List Expr} {pos : Pos} {fa fb : Env → Sto → Rs Mi.D}
theorem pe_slM {e : Expr} {es : List Expr} {lo hi : Option Expr} {te : TE} {tl th : TO} {t : TA} {name : Str} {id : String} {r : V → List V → Hp → VK → Prop} {p1 p2 apos cpos : Pos} (slot : Slot "tuple" name id) (hty : typeOf (.builtin id) = pure (.type "method_descriptor")) (hm : MtR X id r)
    (he : PE X e te) (hl : PO X lo tl) (hu : PO X hi th) (ha : PA X (q :: es) t)
    (hbase : attributeBase (.Subscript e (.Slice lo hi none p2) p1) name X.env (eval (.Subscript e (.Slice lo hi none p2) p1) X.env) = eval (.Subscript e (.Slice lo hi none p2) p1) X.env)
    (hfew : ((backTo cpos (starEach (q :: es) X.env)).all (fun x => !x.1) && (backToKw cpos (keywordEach [] X.env)).all (fun x => x.1.isSome)
      && decide ((q :: es).length + ([] : List Keyword).length + (if ([] : List Keyword).isEmpty then 0 else 1) < 30)) = true)
    (hline : (apos.endLine == cpos.line) = true) (hs : starEach (q :: es) X.env = (false, eval q X.env) :: starEach es X.env) (hplain : (backTo cpos (starEach es X.env)).any (·.1) = false) :
    PE X (.Call (.Attribute (.Subscript e (.Slice lo hi none p2) p1) name apos) (q :: es) [] cpos) (fun σ H Q => te σ H fun x H1 => tl σ H1 fun l H2 => th σ H2 fun u H3 => ∃ a xs, x = .ref a ∧ SqT X.K H3 a xs ∧
      ¬ (HT.sIx xs.length 0 l = 0 ∧ HT.sIx xs.length xs.length u = xs.length) ∧ ∀ z, H3 z = none → t σ (upd H3 z (.tup (cutV xs l u))) fun vs H5 => r (.ref z) vs H5 Q) := by
  refine ⟨fun pins s σ H Q I h => ?_⟩
  refine wpAny_Call_method_late hbase hfew hline rfl ?_
  refine Subscript_ (thn (he.run pins s σ H _ I h) fun v s1 ⟨x, H1, I1, r1, q1⟩ => ?_)
  refine wpAny_Slice (thn (hl.run pins s1 σ H1 _ I1 q1) fun vl s2 ⟨l, H2, I2, pl, q2⟩ => thn (hu.run pins s2 σ H2 _ I2 q2) fun vu s3 ⟨u, H3, I3, pu, q3⟩ => ?_)
  rw [evalPart_none]
  refine wpAny_pure ?_
  obtain ⟨a, xs, rfl, hx, hw, q4⟩ := q3
  cases r1
  have I4 : L2.Inv X pins σ H3 { s3 with heap := s3.heap.push { cls := .type "slice", data := .fields #[vl, vu, .none] } } := I3.kept (t' := s3.toks) fun b ob q => Heap.get?_push_of_some _ q
  obtain ⟨its, rr, ht, hz⟩ := I4.tuple hx
  have hlen : its.toArray.size = xs.length := by rw [List.size_toArray]; exact rr.length.symm
  refine tail_any (ops := [.ref s3.heap.objs.size, .ref a]) ht.typeIs PyProof.Rows.slot_tuple_getitem.lookup ?_ (by with_unfolding_all rfl)
  refine HT.getItem_tuple_cut ht (Heap.IsSliceOf.new ..) pl pu (by rw [hlen]; exact hw) ?_ (by rw [hlen]; exact hz)
  rw [hlen]
  have I5 := I4.laid (t' := s3.toks) (o := .tup (cutV xs l u)) (a := (s3.heap.push { cls := .type "slice", data := .fields #[vl, vu, .none] }).objs.size) (h' := (s3.heap.push { cls := .type "slice", data := .fields #[vl, vu, .none] }).push { cls := .type "tuple", data := .seq ((its.toArray.toList.drop (HT.sIx xs.length 0 l)).take (HT.sIx xs.length xs.length u - HT.sIx xs.length 0 l)).toArray })
    (fun b ob q => Heap.get?_push_of_some _ q) (Nat.le_refl _) ⟨Nat.le_trans (cutV_length xs l u) hz, _, (rr.drop (HT.sIx xs.length 0 l)).take (HT.sIx xs.length xs.length u - HT.sIx xs.length 0 l), IsTup.new _ _⟩
  refine ⟨"tuple", id, PySem.F.plainAttrs_tuple, slot, hty, ⟨_, Heap.get?_push_size _ rfl, rfl⟩, fun b e2 => ?_, ?_⟩
  · cases e2; exact ⟨_, Heap.get?_push_size _ rfl, rfl⟩
  · have hA := ha.run cpos pins _ σ _ _ I5 (q4 _ (I4.hok.fresh (Nat.le_refl _)))
    rw [hs] at hA ⊢
    refine Calls.callWith_builtin (by show (false || (backTo cpos (starEach es X.env)).any (·.1)) = false; rw [hplain] <;> rfl) (Calls.evalArgs_plain ?_)
    exact thn hA fun us s2 ⟨vs, H2, I2, r2, q5⟩ => hm pins s2 σ H2 (.ref (s3.heap.push { cls := .type "slice", data := .fields #[vl, vu, .none] }).objs.size) vs _ us Q I2 rfl r2 q5
def dSlm (b : Nat) (f : Pr) (fa : Env → Sto → Rs Mi.D) (fl fh : Env → Sto → Rs (Option Int)) (fs : Env → Sto → Rs (List Mi.D)) : Env → Sto → Rs Mi.D := fun env S => (fa env S).to fun x S1 => (fl env S1).to fun l S2 => (fh env S2).to fun h S3 => match x.val S3 with
  | .tup t => if cutAt t.length 0 l = 0 ∧ cutAt t.length t.length h = t.length then .no else (fs env S3).to fun ys S4 => prim b f (.tup (cut t l h) :: ys) S4
  | _ => .no
theorem d_slm {f : Pr} {name : Str} {id : String} {lo hi : Option Expr} {fl fh : Env → Sto → Rs (Option Int)} {fs : Env → Sto → Rs (List Mi.D)} {p1 p2 apos : Pos} (hX : X.K = C.K) (slot : Slot "tuple" name id) (hty : typeOf (.builtin id) = pure (.type "method_descriptor")) (hm : MtR X id (rMt C f))
    (hb : notSuper (.Subscript p (.Slice lo hi none p2) p1) = true) (hline : (apos.endLine == pos.line) = true) (hs : (q :: ps).all notStar = true) (hf : (q :: ps).length < 30)
    (ha : PE X p (tE C b W fa)) (hl : PO X lo (tO C b W fl)) (hh : PO X hi (tO C b W fh)) (hq : PA X (q :: ps) (tA C b W fs)) :
    PE X (.Call (.Attribute (.Subscript p (.Slice lo hi none p2) p1) name apos) (q :: ps) [] pos) (tE C b W (dSlm b f fa fl fh fs)) := by
  have hs' := hs
  simp only [List.all_cons, Bool.and_eq_true] at hs'
  refine PE_sub (pe_slM slot hty hm ha hl hh hq (base_of hb) ?_ hline (star_cons hs'.1) (star_any hs'.2)) fun σ H Q ⟨ρ, S, env, a, o⟩ => ?_
  · rw [star_all hs]
    show (true && true && decide (_ < 30)) = true
    simp only [Bool.true_and, decide_eq_true_eq]
    show (q :: ps).length + 0 + 0 < 30
    omega
  have o : Out C b W ρ S H σ ((fa env S).to fun x S1 => (fl env S1).to fun l S2 => (fh env S2).to fun h S3 => match x.val S3 with
    | .tup t => if cutAt t.length 0 l = 0 ∧ cutAt t.length t.length h = t.length then .no else (fs env S3).to fun ys S4 => prim b f (.tup (cut t l h) :: ys) S4
    | _ => .no) (RE C Q) := o
  refine tE_of a o.bind fun x S1 ρ1 H1 v le a1 rv o1 => ?_
  refine ⟨ρ1, S1, env, a1, o1.bind.imp fun l S2 ρ2 H2 le2 g2 o2 => ?_⟩
  have a2 : At C b ρ2 S2 H2 env σ := ⟨g2, a1.env.kp le2.kp⟩
  refine ⟨ρ2, S2, env, a2, o2.bind.imp fun h S3 ρ3 H3 le3 g3 o3 => ?_⟩
  have a3 : At C b ρ3 S3 H3 env σ := ⟨g3, a2.env.kp le3.kp⟩
  have rv3 := Rp.kp le3.kp _ _ (Rp.kp le2.kp _ _ rv)
  split at o3
  · rename_i t et
    split at o3
    · exact o3.elim
    · rename_i hw
      obtain ⟨aa, xs, rfl, h1, h2⟩ := valT g3 rv3 et
      have hlen := h2.length
      refine ⟨aa, xs, rfl, hX ▸ h1.sq, by rw [← hlen]; exact hw, fun z hz => ?_⟩
      obtain ⟨le4, g4, r4⟩ := new_tup g3 (cut_V h2 l h) hz
      refine tA_of ⟨g4, a3.env.kp le4.kp⟩ (Out.reb le4 o3).bind fun ys S5 ρ5 H5 vs le5 a5 rys o5 => ?_
      exact ⟨b, W, σ, ρ5, S5, .tup (cut t l h) :: ys, a5.good, ⟨_, vs, rfl, Rp.kp le5.kp _ _ r4, rys⟩, o5⟩
  · exact o3.elim
end
end Mi

namespace Mi
open PySem L2 PySem.Spec PyProof.Rows

/-! ## Part 16: what of the text is what of mine -/
def visB (s : Sc) (x : Str) : Bool := (match s.sc.names.lookup x with
  | some .local => true
  | some .cell => true
  | some .free => true
  | _ => false) && !(x == ("__debug__" : Str)) && !(x == ("__classdict__" : Str))
/-- a name that is stored -/
def locB (s : Sc) (x : Str) : Bool := match s.sc.names.lookup x with
  | some .local => true
  | some .cell => s.st x
  | _ => false
def glB (s : Sc) (x : Str) : Bool := (match s.sc.names.lookup x with
  | some .globalImplicit => true
  | _ => false) && !(x == ("__debug__" : Str)) && !(x == ("__name__" : Str))
def opB : BOp → Operator → Bool
  | .add, .Add => true | .sub, .Sub => true | .mul, .Mult => true | .fdiv, .FloorDiv => true | .mod, .Mod => true | .pow, .Pow => true | .shl, .LShift => true | .shr, .RShift => true | .band, .BitAnd => true | .bor, .BitOr => true
  | _, _ => false
theorem opB_eq {a : BOp} {o : Operator} (h : opB a o = true) : o = a.py := by cases a <;> cases o <;> first | rfl | cases h
def opC : COp → CmpOp → Bool
  | .eq, .Eq => true | .ne, .NotEq => true | .lt, .Lt => true | .le, .LtE => true | .gt, .Gt => true | .ge, .GtE => true | .is, .Is => true | .isnot, .IsNot => true | .mem, .In => true | .nmem, .NotIn => true
  | _, _ => false
theorem opC_eq {a : COp} {o : CmpOp} (h : opC a o = true) : o = a.py := by cases a <;> cases o <;> first | rfl | cases h
def chkL : Mi.D → Expr → Bool
  | .non, .Constant .none _ _ => true
  | .bl b, .Constant (.bool c) _ _ => b == c
  | .int i, .Constant (.int j) _ _ => i == j
  | .str s, .Constant (.str x) _ _ => x.cps.toList == s && okS s
  | _, _ => false
def relSc (scope : Scope) (s : Sc) : Sc := ⟨s.N, relS scope s.sc, fun x => scope.names.lookup x == some .cell⟩
def ownP (s : Sc) (own : List Nat) : List (Str × Nat) := own.map fun i => (s.N.getD i Str.empty, i)
/-- the built-in functions by name, the methods by name -/
def priName : Pr → Option Str
  | .len => some "len" | .int => some "int" | .abs => some "abs" | .min2 => some "min" | .max2 => some "max" | .tuple => some "tuple" | .list _ => some "list" | .sorted _ => some "sorted" | .sum => some "sum" | .sortd _ => some "sorted"
  | _ => none
def metName : Pr → Option (Str × Nat)
  | .append => some ("append", 1) | .extend => some ("extend", 1) | .pop => some ("pop", 0) | .popi => some ("pop", 1) | .count => some ("count", 1) | .index => some ("index", 1)
  | _ => none
def rngName (k : Nat) : Str := if k = 0 then "tuple" else "list"
def noSetDisp (p : Expr) : Bool := match p with | .Set _ _ _ => false | _ => true
def isC (p : Expr) : Bool := isComp p
/-- names of built-ins that the text leaves alone -/
abbrev SG.free (G : SG) (x : Str) : Bool := G.bl.contains x
mutual
def chkE (G : SG) (s : Sc) : E → Expr → Bool
  | .lit d, p => chkL d p
  | .var i, p => match p with
    | .Name x _ => decide (s.N[i]? = some x) && visB s x
    | _ => false
  | .gl k, p => match p with
    | .Name x _ => decide (x = G.nm.gl k) && glB s x
    | _ => false
  | .bin op a b, p => match p with
    | .BinOp pa o pb _ => opB op o && chkE G s a pa && chkE G s b pb
    | _ => false
  | .neg a, p => match p with
    | .UnaryOp .USub pa _ => chkE G s a pa
    | _ => false
  | .not a, p => match p with
    | .UnaryOp .Not pa _ => chkE G s a pa
    | _ => false
  | .cmp op a b, p => match p with
    | .Compare pa [o] [pb] _ => opC op o && chkE G s a pa && chkE G s b pb && !behindInMarks o pb
    | _ => false
  | .chain o1 o2 a b d, p => match p with
    | .Compare pa [q1, q2] [pb, pd] _ => opC o1 q1 && opC o2 q2 && chkE G s a pa && chkE G s b pb && chkE G s d pd && !behindInMarks q2 pd
    | _ => false
  | .and es, p => match p with
    | .BoolOp .And ps _ => chkEs G s es ps && !es.isEmpty
    | _ => false
  | .or es, p => match p with
    | .BoolOp .Or ps _ => chkEs G s es ps && !es.isEmpty
    | _ => false
  | .ite t a b, p => match p with
    | .IfExp pt pa pb _ => chkE G s t pt && chkE G s a pa && chkE G s b pb
    | _ => false
  | .tup es, p => match p with
    | .Tuple ps _ _ => chkEs G s es ps
    | _ => false
  | .lst _ es, p => match p with
    | .List ps _ => chkEs G s es ps
    | _ => false
  | .dic _ kvs, p => match p with
    | .Dict keys values _ => chkKV G s kvs keys values && decide (keys.length ≤ 15)
    | _ => false
  | .dct, p => match p with
    | .Dict [] [] _ => true
    | _ => false
  | .get o es, p => match p with
    | .Call (.Attribute po m apos) ps [] pos => decide (m = "get") && (decide (ps.length = 1) || decide (ps.length = 2)) && notSuper po && (apos.endLine == pos.line) && ps.all notStar && chkE G s o po && chkEs G s es ps
    | _ => false
  | .ix a i, p => match p with
    | .Subscript pa pi _ => notSlice pi && chkE G s a pa && chkE G s i pi
    | _ => false
  | .sl a lo hi, p => match p with
    | .Subscript pa (.Slice plo phi none _) _ => chkE G s a pa && chkO G s lo plo && chkO G s hi phi
    | _ => false
  | .rev _ a, p => match p with
    | .Subscript pa (.Slice none none (some (.UnaryOp .USub (.Constant (.int 1) _ _) _)) _) _ => chkE G s a pa
    | _ => false
  | .cpy a lo hi, p => match p with
    | .Subscript pa (.Slice plo phi none _) _ => chkE G s a pa && chkO G s lo plo && chkO G s hi phi
    | _ => false
  | .call f es, p => match p with
    | .Call (.Name x _) ps [] _ => decide (x = G.nm.fn f) && (G.pg.fd f).isSome && decide (x ≠ "") && glB s x && ps.all notStar && chkEs G s es ps
    | _ => false
  | .callk f perm es ks, p => match p with
    | .Call (.Name x _) ps kws _ => decide (x = G.nm.fn f) && (G.pg.fd f).isSome && decide (x ≠ "") && glB s x && ps.all notStar && chkEs G s es ps && chkKw G s ks kws && (match kwNames kws with
      | some names => G.kw f ps.length names perm
      | none => false)
    | _ => false
  | .rng k es, p => match p with
    | .Call (.Name x _) [.Call (.Name y _) ps [] _] [] _ => decide (x = rngName k) && decide (y = "range") && glB s x && glB s y && G.free x && G.free y && ps.all notStar && chkEs G s es ps && (decide (ps.length = 1) || decide (ps.length = 2))
    | _ => false
  | .pri f es, p => match p with
    | .Call (.Name x _) ps [] _ => glB s x && G.free x && ps.all notStar && !ps.isEmpty && (match f with
      | .isinst t => match ps with
        | [pa, .Name y _] => decide (x = "isinstance") && decide (y = t.py) && glB s y && G.free y && chkEs G s es [pa]
        | _ => false
      | .sortset _ => match ps with
        | [.Call (.Name y _) [pa] [] _] => decide (x = "sorted") && decide (y = "set") && glB s y && G.free y && notStar pa && chkEs G s es [pa]
        | _ => false
      | f => decide (priName f = some x) && chkEs G s es ps)
    | _ => false
  | .met f o es, p => match p with
    | .Call (.Attribute po m apos) ps [] pos => (match metName f with
      | some (x, k) => decide (m = x) && decide (ps.length = k)
      | none => false) && notSuper po && (apos.endLine == pos.line) && ps.all notStar && chkE G s o po && chkEs G s es ps
    | _ => false
  | .slm f a lo hi x, p => match p with
    | .Call (.Attribute (.Subscript pa (.Slice plo phi none p2) p1) m apos) [px] [] pos => ((decide (f = .tcount) && decide (m = "count")) || (decide (f = .tindex) && decide (m = "index"))) && (apos.endLine == pos.line) && notStar px && notSuper (.Subscript pa (.Slice plo phi none p2) p1) && chkE G s a pa && chkO G s lo plo && chkO G s hi phi && chkE G s x px
    | _ => false
  | .lc _ own elt gens, p => match p with
    | .ListComp pe cs scope _ => (decide (gens.length = 1) || decide (gens.length = 2)) && blkC s.N s.sc scope (ownP s own) && chkE G (relSc scope s) elt pe && chkGs G s (relSc scope s) own gens cs
    | _ => false
  | .sset _ own elt gens, p => match p with
    | .Call (.Name x _) [.SetComp pe cs scope _] [] _ => decide (x = "sorted") && glB s x && G.free x && decide (gens.length = 2) && blkC s.N s.sc scope (ownP s own) && chkE G (relSc scope s) elt pe && chkGs G s (relSc scope s) own gens cs
    | _ => false
  | .nset own elt gens, p => match p with
    | .Call (.Name x _) [.SetComp pe cs scope _] [] _ => decide (x = "len") && glB s x && G.free x && decide (gens.length = 2) && blkC s.N s.sc scope (ownP s own) && chkE G (relSc scope s) elt pe && chkGs G s (relSc scope s) own gens cs
    | _ => false
  | .mk k es, p => match p with
    | .Call (.Name x _) ps [] _ => decide (x = G.nm.cls k) && (G.pg.mth k 0).isSome && glB s x && ps.all notStar && chkEs G s es ps
    | _ => false
  | .mth m o es, p => match p with
    | .Call (.Attribute po x apos) ps [] pos => decide (0 < m) && decide (x = G.nm.mth m) && notSuper po && (apos.endLine == pos.line) && ps.all notStar && decide (ps.length < 30) && chkE G s o po && chkEs G s es ps
    | _ => false
  | .att o f, p => match p with
    | .Attribute po x _ => decide (x = G.att f) && decide (f < G.nAtt) && notSuper po && chkE G s o po
    | _ => false
  | .frz e, p => plainT p && chkE G s e p
def chkEs (G : SG) (s : Sc) : List E → List Expr → Bool
  | [], ps => ps.isEmpty
  | e :: es, ps => match ps with
    | p :: ps => notStar p && chkE G s e p && chkEs G s es ps
    | [] => false
def chkKw (G : SG) (s : Sc) : List E → List Keyword → Bool
  | [], ks => ks.isEmpty
  | e :: es, ks => match ks with
    | ⟨_, p, _⟩ :: ks => chkE G s e p && chkKw G s es ks
    | [] => false
/-- the pairs of a display -/
def chkKV (G : SG) (s : Sc) : List E → List (Option Expr) → List Expr → Bool
  | [], ks, vs => ks.isEmpty && vs.isEmpty
  | [_], _, _ => false
  | a :: b :: es, ks, vs => match ks, vs with
    | some p :: ks, q :: vs => chkE G s a p && chkE G s b q && chkKV G s es ks vs
    | _, _ => false
def chkO (G : SG) (s : Sc) : Option E → Option Expr → Bool
  | none, p => p.isNone
  | some e, p => match p with
    | some p => chkE G s e p
    | none => false
def chkI (G : SG) (s : Sc) : I → Expr → Expr → Bool
  | .e e, _, p => chkE G s e p
  | .range es, _, p => match p with
    | .Call (.Name y _) ps [] _ => decide (y = "range") && glB s y && G.free y && ps.all notStar && chkEs G s es ps && (decide (ps.length = 1) || decide (ps.length = 2))
    | _ => false
  | .keys e, _, p => chkE G s e p
  | .enum e, tg, p => match tg, p with
    | .Tuple _ _ _, .Call (.Name y _) [pa] [] _ => decide (y = "enumerate") && glB s y && G.free y && notStar pa && chkE G s e pa
    | _, _ => false
  | _, _, _ => false
def chkT (G : SG) (s : Sc) : T → Expr → Bool
  | .var i, p => match p with
    | .Name x _ => decide (s.N[i]? = some x) && locB s x
    | _ => false
  | .tup ts, p => match p with
    | .Tuple ps _ _ => ps.all notStar && chkTs G s ts ps
    | _ => false
  | .sub a i, p => match p with
    | .Subscript pa pi _ => notSlice pi && chkE G s a pa && chkE G s i pi
    | _ => false
  | .att _ _, _ => false
def chkTs (G : SG) (s : Sc) : List T → List Expr → Bool
  | [], ps => ps.isEmpty
  | t :: ts, ps => match ps with
    | p :: ps => notStar p && chkT G s t p && chkTs G s ts ps
    | [] => false
/-- the clauses of a comprehension: the first walk stands outside its block -/
def chkGs (G : SG) (s s' : Sc) (own : List Nat) : List Mi.G → List Comprehension → Bool
  | [], cs => cs.isEmpty
  | g :: gs, cs => match cs with
    | c :: cs => chkG G s s' own g c && chkGs G s' s' own gs cs
    | [] => false
def chkG (G : SG) (s s' : Sc) (own : List Nat) : Mi.G → Comprehension → Bool
  | .mk t i ifs, c => decide (c.is_async = 0) && noSetDisp c.iter && chkI G s i c.target c.iter && chkT G s' t c.target && chkIfs G s' ifs c.ifs && t.slots.all (own.contains ·)
def chkIfs (G : SG) (s : Sc) : List E → List Expr → Bool
  | [], ps => ps.isEmpty
  | [e], ps => match ps with
    | [p] => chkE G s e p
    | _ => false
  | _ :: _ :: _, _ => false
end
end Mi

namespace Mi
open PySem L2 PySem.Spec PyProof.Rows

/-! ## Part 17: the checker's word is kept -/
section
variable {G : GC} {n : Nat} {X : Cx} {s : Sc}
theorem XOk.vis (h : XOk G n X s) {x : Str} (v : visB s x = true) : L2.Vis X.env.scope x ∧ (x == ("__debug__" : Str)) = false ∧ (x == ("__classdict__" : Str)) = false := by
  unfold visB at v
  simp only [Bool.and_eq_true, Bool.not_eq_true'] at v
  refine ⟨?_, v.1.2, v.2⟩
  rw [h.scp]
  have := v.1.1
  unfold L2.Vis
  split at this
  · rename_i e; exact .inl e
  · rename_i e; exact .inr (.inl e)
  · rename_i e; exact .inr (.inr e)
  · cases this
theorem XOk.loc (h : XOk G n X s) {x : Str} (v : locB s x = true) : L2.Loc X.env.scope x ∧ (X.fn x = true ∨ X.env.scope.names.lookup x = some .local) := by
  unfold locB at v
  rw [h.scp, h.st]
  unfold L2.Loc
  split at v
  · rename_i e; exact ⟨.inl e, .inr e⟩
  · rename_i e; exact ⟨.inr e, .inl v⟩
  · cases v
theorem XOk.glo (h : XOk G n X s) {x : Str} (v : glB s x = true) : Gl X x ∧ (x == ("__debug__" : Str)) = false ∧ x ≠ "__name__" := by
  unfold glB at v
  simp only [Bool.and_eq_true, Bool.not_eq_true'] at v
  refine ⟨?_, v.1.2, beq_eq_false_iff_ne.mp v.2⟩
  have := v.1.1
  show X.env.scope.names.lookup x = _
  rw [h.scp]
  split at this
  · rename_i e; exact e
  · cases this
theorem XOk.nid (h : XOk G n X s) (T : Text G) {x : Str} (v : G.toSG.free x = true) : X.mg x = none := by
  rw [h.mg]
  exact T.free x (List.contains_iff_mem.mp v)
/-- into a block -/
theorem XOk.blk (h : XOk G n X s) (sh : Shared) (H : Hp) (scope : Scope) (hk : scope.kind = .function) (Ca : Addr) (cl : List (Str × Addr)) (fp : List Addr) : XOk G n (X.blk sh H scope (compEnvC scope cl Ca X.env) fp) (relSc scope s) :=
  ⟨h.prog, h.w, h.K, h.mg, h.base, h.calm, h.room, h.nd, h.N, by show relS scope X.env.scope = relS scope s.sc; rw [h.scp], rfl, hk⟩
end
theorem cong {X : Cx} {p : Expr} {C : Cxt} {b : Nat} {W : WX} {f g : Env → Sto → Rs D} (h : PE X p (tE C b W f)) (e : ∀ env S, g env S = f env S) : PE X p (tE C b W g) := by
  have : g = f := funext fun env => funext fun S => e env S
  rw [this]; exact h
theorem congT {X : Cx} {p : Expr} {C : Cxt} {b : Nat} {W : WX} {f g : Env → Sto → Rs Bool} (h : PT X p (tT C b W f)) (e : ∀ env S, g env S = f env S) : PT X p (tT C b W g) := by
  have : g = f := funext fun env => funext fun S => e env S
  rw [this]; exact h
theorem congW {X : Cx} {p : Expr} {C : Cxt} {b : Nat} {W : WX} {f g : Env → Sto → Rs Bool} (h : PW X p (tT C b W f)) (e : ∀ env S, g env S = f env S) : PW X p (tT C b W g) := by
  have : g = f := funext fun env => funext fun S => e env S
  rw [this]; exact h
theorem congA {X : Cx} {p : List Expr} {C : Cxt} {b : Nat} {W : WX} {f g : Env → Sto → Rs (List D)} (h : PA X p (tA C b W f)) (e : ∀ env S, g env S = f env S) : PA X p (tA C b W g) := by
  have : g = f := funext fun env => funext fun S => e env S
  rw [this]; exact h
theorem congK {X : Cx} {p : List Keyword} {C : Cxt} {b : Nat} {W : WX} {f g : Env → Sto → Rs (List D)} (h : PK X p (tA C b W f)) (e : ∀ env S, g env S = f env S) : PK X p (tA C b W g) := by
  have : g = f := funext fun env => funext fun S => e env S
  rw [this]; exact h
theorem congI {X : Cx} {tg p : Expr} {C : Cxt} {b : Nat} {W : WX} {f g : Env → Sto → Rs (List D × Option Nat)} (h : PI X tg p (tI C b W f)) (e : ∀ env S, g env S = f env S) : PI X tg p (tI C b W g) := by
  have : g = f := funext fun env => funext fun S => e env S
  rw [this]; exact h
theorem congO {X : Cx} {p : Option Expr} {C : Cxt} {b : Nat} {W : WX} {f g : Env → Sto → Rs (Option Int)} (h : PO X p (tO C b W f)) (e : ∀ env S, g env S = f env S) : PO X p (tO C b W g) := by
  have : g = f := funext fun env => funext fun S => e env S
  rw [this]; exact h
theorem congG {X : Cx} {p : Expr} {C : Cxt} {b : Nat} {vs : List Nat} {f g : D → Env → Sto → Rs Env} (h : PG X p (tG C b vs f)) (e : ∀ d env S, g d env S = f d env S) : PG X p (tG C b vs g) := by
  have : g = f := funext fun d => funext fun env => funext fun S => e d env S
  rw [this]; exact h
theorem congGs {X : Cx} {p : List Expr} {C : Cxt} {b : Nat} {vs : List Nat} {f g : List D → Env → Sto → Rs Env} (h : PGs X p (tGs C b vs f)) (e : ∀ d env S, g d env S = f d env S) : PGs X p (tGs C b vs g) := by
  have : g = f := funext fun d => funext fun env => funext fun S => e d env S
  rw [this]; exact h
/-! ### lists keep their length -/
theorem evs_len {c : Ctx} : ∀ {es : List E} {env : Env} {S : Sto} {xs : List D} {S1 : Sto}, evs c es env S = .ok xs S1 → xs.length = es.length
  | [], env, S, xs, S1, h => by simp only [evs] at h; cases h; rfl
  | e :: es, env, S, xs, S1, h => by
    simp only [evs] at h
    obtain ⟨x, S2, _, h⟩ := to_ok h
    obtain ⟨ys, S3, h3, h⟩ := to_ok h
    cases h
    rw [List.length_cons, List.length_cons, evs_len h3]
theorem evTs_len {c : Ctx} : ∀ {ts : List T} {ds : List D} {env : Env} {S : Sto} {e : Env} {S1 : Sto}, evTs c ts ds env S = .ok e S1 → ds.length = ts.length
  | [], [], env, S, e, S1, h => rfl
  | [], _ :: _, env, S, e, S1, h => by simp only [evTs] at h; cases h
  | _ :: _, [], env, S, e, S1, h => by simp only [evTs] at h; cases h
  | t :: ts, d :: ds, env, S, e, S1, h => by
    simp only [evTs] at h
    obtain ⟨x, S2, _, h⟩ := to_ok h
    rw [List.length_cons, List.length_cons, evTs_len h]
theorem chkEs_len {G : SG} {s : Sc} : ∀ {es : List E} {ps : List Expr}, chkEs G s es ps = true → es.length = ps.length ∧ ps.all notStar = true
  | [], ps, h => by simp only [chkEs, List.isEmpty_iff] at h; subst h; exact ⟨rfl, rfl⟩
  | e :: es, [], h => by simp only [chkEs] at h; cases h
  | e :: es, p :: ps, h => by
    simp only [chkEs, Bool.and_eq_true] at h
    obtain ⟨h1, h2⟩ := chkEs_len h.2
    exact ⟨by rw [List.length_cons, List.length_cons, h1], by rw [List.all_cons, h.1.1, h2]; rfl⟩
theorem chkKw_len {G : SG} {s : Sc} : ∀ {es : List E} {ps : List Keyword}, chkKw G s es ps = true → es.length = ps.length
  | [], ps, h => by simp only [chkKw, List.isEmpty_iff] at h; subst h; rfl
  | e :: es, [], h => by simp only [chkKw] at h; cases h
  | e :: es, ⟨_, p, _⟩ :: ps, h => by
    simp only [chkKw, Bool.and_eq_true] at h
    rw [List.length_cons, List.length_cons, chkKw_len h.2]
theorem chkTs_len {G : SG} {s : Sc} : ∀ {es : List T} {ps : List Expr}, chkTs G s es ps = true → es.length = ps.length ∧ ps.all notStar = true
  | [], ps, h => by simp only [chkTs, List.isEmpty_iff] at h; subst h; exact ⟨rfl, rfl⟩
  | e :: es, [], h => by simp only [chkTs] at h; cases h
  | e :: es, p :: ps, h => by
    simp only [chkTs, Bool.and_eq_true] at h
    obtain ⟨h1, h2⟩ := chkTs_len h.2
    exact ⟨by rw [List.length_cons, List.length_cons, h1], by rw [List.all_cons, h.1.1, h2]; rfl⟩
/-! ### what a pair of terms promises -/
def SE (G : GC) (n : Nat) (X : Cx) (e : E) (p : Expr) : Prop := ∀ A b W, Takes X W → PE X p (tE (G.C A) b W (ev (cxN G n b) e)) ∧ PT X p (tT (G.C A) b W fun env S => toB (ev (cxN G n b) e env S))
/-- from a value's rule: its test by truth -/
theorem SE.plain {G : GC} {n : Nat} {X : Cx} {e : E} {p : Expr} (hX : X.K = G.K) (hp : plainT p = true) (h : ∀ A b W, Takes X W → PE X p (tE (G.C A) b W (ev (cxN G n b) e))) : SE G n X e p :=
  fun A b W tk => ⟨h A b W tk, d_plainT (C := G.C A) hX hp (h A b W tk)⟩
theorem to_to {α β γ : Type} (r : Rs α) (f : α → Sto → Rs β) (g : β → Sto → Rs γ) : (r.to f).to g = r.to fun x S => (f x S).to g := by cases r <;> rfl
/-- isinstance(e, type) -/
theorem d_isinst {C : Cxt} {X : Cx} {b : Nat} {W : WX} {p : Expr} {pp p2 pos : Pos} {t : Ty} {fa : Env → Sto → Rs D} (hX : X.K = C.K) (hg : Gl X "isinstance") (hm : X.mg "isinstance" = none) (hg2 : Gl X t.py) (hm2 : X.mg t.py = none) (hs : notStar p = true) (ha : PE X p (tE C b W fa)) :
    PE X (.Call (.Name "isinstance" pp) [p, .Name t.py p2] [] pos) (tE C b W fun env S => (fa env S).to fun x S1 => prim b (.isinst t) [x] S1) := by
  have hb : bootBuiltins t.py = some (.type t.py) := by cases t <;> decide +kernel
  have hn : (t.py : Str) ≠ "__name__" := by cases t <;> decide
  have hd : ((t.py : Str) == ("__debug__" : Str)) = false := by cases t <;> decide
  have hty : PE X (.Name t.py p2) (tC (.ty t.py)) := pe_bltn hg2 hm2 hb rfl hn hd
  exact PE_sub (pe_callB (pr_isinst hX t) hg hm boot_isinstance (pa_cons ha (pa_cons hty pa_nil) (star_cons hs)) (by decide) (by decide) (star_cons hs) rfl) fun σ H Q ⟨ρ, S, env, a, o⟩ => tE_of a o.bind fun x S1 ρ1 H1 v le a1 r o1 =>
    ⟨v, rfl, b, W, σ, ρ1, S1, [x], a1.good, .one r, o1⟩
/-- tuple(range(..)), list(range(..)) -/
theorem newR_out {C : Cxt} {b : Nat} {W : WX} {ρ : List Addr} {S : Sto} {H : Hp} {σ : L2.St} {k : Nat} {lo hi : Int} {Q : VK} (g : Good C b ρ S H) (o : Out C b W ρ S H σ (newR2 k lo hi S) (RE C Q)) :
    RgOk lo hi ∧ ∀ q, H q = none → Q (.ref q) (upd H q (if k = 0 then .tup (rgV lo hi) else .lst (rgV lo hi))) := by
  unfold newR2 at o
  split at o
  · rename_i h
    refine ⟨⟨h.1, h.2.1, h.2.2.1, h.2.2.2.1, h.2.2.2.2⟩, fun q hq => ?_⟩
    have r : Rps C.KR ρ (lv C ρ S) H (rangeOf lo hi) (rgV lo hi) := by
      unfold rangeOf rgV
      generalize List.range (hi - lo).toNat = l
      induction l with
      | nil => rfl
      | cons a l ih => exact ⟨_, _, rfl, rfl, ih⟩
    match k, o with
    | 0, o =>
      obtain ⟨le, g', r'⟩ := new_tup g r hq
      exact o _ _ le g' _ r'
    | 1, o =>
      obtain ⟨le, g', r'⟩ := new_lst g r hq
      exact o _ _ le g' _ r'
    | k + 2, o =>
      obtain ⟨le, g', r'⟩ := new_lstM g r hq
      exact o _ _ le g' _ r'
  · exact o.elim
theorem d_rng {C : Cxt} {X : Cx} {b : Nat} {W : WX} {p : Expr} {pp pos : Pos} {k : Nat} {te : L2.St → Hp → (Int → Int → Hp → Prop) → Prop} {f : Env → Sto → Rs (Int × Int)} (hc : X.calm = true) (hg : Gl X (rngName k)) (hm : X.mg (rngName k) = none) (he : PRg X p te) (hs : notStar p = true)
    (ht : ∀ σ H Q, (∃ ρ S env, At C b ρ S H env σ ∧ Out C b W ρ S H σ (f env S) fun ij S' ρ' H' => Q ij.1 ij.2 H') → te σ H Q) :
    PE X (.Call (.Name (rngName k) pp) [p] [] pos) (tE C b W fun env S => (f env S).to fun ij S1 => newR2 k ij.1 ij.2 S1) := by
  by_cases hk : k = 0
  · subst hk
    exact PE_sub (pe_tupRg (p := pp) hc hg hm he (star_cons hs)) fun σ H Q ⟨ρ, S, env, a, o⟩ => ht _ _ _ ⟨ρ, S, env, a, o.bind.imp fun ij S1 ρ1 H1 le g o1 => newR_out g o1⟩
  · have e : rngName k = "list" := by unfold rngName; rw [if_neg hk]
    rw [e] at hg hm ⊢
    exact PE_sub (pe_listRg hc hg hm he (star_cons hs)) fun σ H Q ⟨ρ, S, env, a, o⟩ => ht _ _ _ ⟨ρ, S, env, a, o.bind.imp fun ij S1 ρ1 H1 le g o1 => by
      have := newR_out g o1
      rw [if_neg hk] at this
      exact this⟩
def dInt1 (fa : Env → Sto → Rs D) : Env → Sto → Rs (Int × Int) := fun env S => (fa env S).to fun x S1 => match x with
  | .int j => .ok (0, j) S1
  | _ => .no
def dInt2 (fa fb : Env → Sto → Rs D) : Env → Sto → Rs (Int × Int) := fun env S => (fa env S).to fun x S1 => (fb env S1).to fun y S2 => match x, y with
  | .int i, .int j => .ok (i, j) S2
  | _, _ => .no
theorem d_rng1 {C : Cxt} {X : Cx} {b : Nat} {W : WX} {p : Expr} {pp p2 pos pos2 : Pos} {k : Nat} {fa : Env → Sto → Rs D} (hc : X.calm = true) (hg : Gl X (rngName k)) (hm : X.mg (rngName k) = none) (hg2 : Gl X "range") (hm2 : X.mg "range" = none) (hs : notStar p = true) (ha : PE X p (tE C b W fa)) :
    PE X (.Call (.Name (rngName k) pp) [.Call (.Name "range" p2) [p] [] pos2] [] pos) (tE C b W fun env S => (dInt1 fa env S).to fun ij S1 => newR2 k ij.1 ij.2 S1) :=
  d_rng hc hg hm (prg_1 hg2 hm2 ha (star_cons hs)) rfl fun σ H Q ⟨ρ, S, env, a, o⟩ => tE_of a (Out.bind o) fun x S1 ρ1 H1 v le a1 r o1 => by
    cases x with
    | int j => exact ⟨j, r, o1 ρ1 H1 (Le.refl a1.good.bb) a1.good⟩
    | _ => exact o1.elim
theorem d_rng2 {C : Cxt} {X : Cx} {b : Nat} {W : WX} {p q : Expr} {pp p2 pos pos2 : Pos} {k : Nat} {fa fb : Env → Sto → Rs D} (hc : X.calm = true) (hg : Gl X (rngName k)) (hm : X.mg (rngName k) = none) (hg2 : Gl X "range") (hm2 : X.mg "range" = none) (hs : notStar p = true) (hs2 : notStar q = true) (ha : PE X p (tE C b W fa)) (hb : PE X q (tE C b W fb)) :
    PE X (.Call (.Name (rngName k) pp) [.Call (.Name "range" p2) [p, q] [] pos2] [] pos) (tE C b W fun env S => (dInt2 fa fb env S).to fun ij S1 => newR2 k ij.1 ij.2 S1) :=
  d_rng hc hg hm (prg_2 hg2 hm2 ha hb (by rw [star_cons hs, star_cons hs2]) (star_cons hs2) (by rw [star_cons hs2]; rfl)) rfl fun σ H Q ⟨ρ, S, env, a, o⟩ => tE_of a (Out.bind o) fun x S1 ρ1 H1 v le a1 r o1 => tE_of a1 o1.bind fun y S2 ρ2 H2 u le2 a2 r2 o2 => by
    cases x with
    | int i =>
      cases y with
      | int j => exact ⟨i, j, r, r2, o2 ρ2 H2 (Le.refl a2.good.bb) a2.good⟩
      | _ => exact o2.elim
    | _ => exact o2.elim
end Mi

namespace Mi
open PySem L2 PySem.Spec PyProof.Rows

/-! ## Part 18: expressions, all of them -/
def SA (G : GC) (n : Nat) (X : Cx) (es : List E) (ps : List Expr) : Prop := ∀ A b W, Takes X W → PA X ps (tA (G.C A) b W (evs (cxN G n b) es))
def SK (G : GC) (n : Nat) (X : Cx) (es : List E) (ps : List Keyword) : Prop := ∀ A b W, Takes X W → PK X ps (tA (G.C A) b W (evs (cxN G n b) es))
def SO (G : GC) (n : Nat) (X : Cx) (e : Option E) (p : Option Expr) : Prop := ∀ A b W, Takes X W → PO X p (tO (G.C A) b W (evO (cxN G n b) e))
def SI (G : GC) (n : Nat) (X : Cx) (i : I) (tg p : Expr) : Prop := ∀ A b W, Takes X W → PI X tg p (tI (G.C A) b W (evI (cxN G n b) i))
def ST (G : GC) (n : Nat) (X : Cx) (t : T) (p : Expr) : Prop := ∀ A b, PG X p (tG (G.C A) b t.slots (evT (cxN G n b) t))
def STs (G : GC) (n : Nat) (X : Cx) (t : List T) (p : List Expr) : Prop := ∀ A b, PGs X p (tGs (G.C A) b (T.slotsL t) (evTs (cxN G n b) t))
def SIfs (G : GC) (n : Nat) (X : Cx) (es : List E) (ps : List Expr) : Prop := ∀ A b W, Takes X W → PTs X ps (tT (G.C A) b W (evIfs (cxN G n b) es))
def SKV (G : GC) (n : Nat) (X : Cx) (es : List E) (ks : List (Option Expr)) (vs : List Expr) : Prop := ∀ b pos, ∃ fs : List ((Env → Sto → Rs D) × (Env → Sto → Rs D)),
  PPs X pos ks vs (fs.map fun p => (tEa (G.C []) b p.1, tEa (G.C []) b p.2)) ∧ (∀ env S, dPairs fs env S = evs (cxN G n b) es env S) ∧ ks.all (·.isSome) = true ∧ ks.length = vs.length ∧ (es = [] → ks = [])
section
variable {G : GC} {n : Nat} {X : Cx} {s : Sc}
theorem s_lit (hX : X.K = G.K) {d : D} {p : Expr} (h : chkL d p = true) : SE G n X (.lit d) p := by
  have pt : plainT p = true := by
    unfold chkL at h
    split at h <;> first | rfl | cases h
  refine SE.plain hX pt fun A b W tk => cong (f := fun _ S => .ok d S) ?_ fun env S => by simp only [ev]
  unfold chkL at h
  split at h
  · exact d_lit (C := G.C A) pe_non fun _ _ _ => rfl
  · exact d_lit (C := G.C A) pe_bl fun _ _ _ => by rw [eq_of_beq h]; rfl
  · exact d_lit (C := G.C A) pe_int fun _ _ _ => by rw [eq_of_beq h]; rfl
  · rename_i l x _ _
    simp only [Bool.and_eq_true] at h
    have e : strV l = x := by
      have := eq_of_beq h.1
      rw [← this]
      show (⟨x.cps.toList.toArray⟩ : Str) = x
      rw [Array.toArray_toList]
    exact d_lit (C := G.C A) pe_str fun _ _ _ => ⟨by rw [e], h.2⟩
  · cases h
theorem s_var (hk : XOk G n X s) {i : Nat} {x : Str} {pos : Pos} (hi : s.N[i]? = some x) (hv : visB s x = true) : SE G n X (.var i) (.Name x pos) := by
  obtain ⟨v1, v2, v3⟩ := hk.vis hv
  exact SE.plain hk.K rfl fun A b W tk => cong (d_var (C := G.C A) (pe_var (by rw [hk.N]; exact hi) v1 v2 v3)) fun env S => by simp only [ev]
theorem s_gl (T : Text G) (hk : XOk G n X s) {k : Nat} {pos : Pos} (hv : glB s (G.nm.gl k) = true) : SE G n X (.gl k) (.Name (G.nm.gl k) pos) := by
  obtain ⟨v1, v2, v3⟩ := hk.glo hv
  refine SE.plain hk.K rfl fun A b W tk => cong (f := fun _ S => rets (G.pg.gl k) S) ?_ fun env S => by simp only [ev]
  cases e : G.pg.gl k with
  | none => exact ⟨fun pins s σ H Q I ⟨ρ, S, env, a, o⟩ => o.elim⟩
  | some d =>
    obtain ⟨u, v, h1, h2, h3⟩ := T.gl k d e
    exact d_lit (C := G.C A) (pe_glob v1 (by rw [hk.mg]; exact h1) h2 v2) fun _ _ _ => h3 _ _ _
theorem s_and1 (h : SE G n X e p) {pos : Pos} (A b W) (tk : Takes X W) : PE X (.BoolOp .And [p] pos) (tE (G.C A) b W (evAnd (cxN G n b) [e])) ∧ PW X (.BoolOp .And [p] pos) (tT (G.C A) b W fun env S => toB (evAnd (cxN G n b) [e] env S)) :=
  ⟨cong (pe_one (h A b W tk).1) fun env S => by simp only [evAnd], congW (pw_and1 (h A b W tk).2) fun env S => by simp only [evAnd]⟩
theorem s_or1 (h : SE G n X e p) {pos : Pos} (A b W) (tk : Takes X W) : PE X (.BoolOp .Or [p] pos) (tE (G.C A) b W (evOr (cxN G n b) [e])) ∧ PW X (.BoolOp .Or [p] pos) (tT (G.C A) b W fun env S => toB (evOr (cxN G n b) [e] env S)) :=
  ⟨cong (pe_one (h A b W tk).1) fun env S => by simp only [evOr], congW (pw_or1 (h A b W tk).2) fun env S => by simp only [evOr]⟩
theorem s_rng1 (hk : XOk G n X s) (T : Text G) {k : Nat} {e : E} {p : Expr} {pp p2 pos pos2 : Pos} (h1 : glB s (rngName k) = true) (h2 : glB s "range" = true) (f1 : G.toSG.free (rngName k) = true) (f2 : G.toSG.free "range" = true) (hs : notStar p = true) (h : SE G n X e p) :
    SE G n X (.rng k [e]) (.Call (.Name (rngName k) pp) [.Call (.Name "range" p2) [p] [] pos2] [] pos) :=
  SE.plain hk.K rfl fun A b W tk => cong (d_rng1 (C := G.C A) hk.calm (hk.glo h1).1 (hk.nid T f1) (hk.glo h2).1 (hk.nid T f2) hs (h A b W tk).1) fun env S => by
    simp only [ev, evs, dInt1, to_to]
    cases ev (cxN G n b) e env S with
    | ok x S1 => simp only [Rs.to]; cases x <;> rfl
    | ex x S1 => rfl
    | no => rfl
theorem s_rng2 (hk : XOk G n X s) (T : Text G) {k : Nat} {e e' : E} {p q : Expr} {pp p2 pos pos2 : Pos} (h1 : glB s (rngName k) = true) (h2 : glB s "range" = true) (f1 : G.toSG.free (rngName k) = true) (f2 : G.toSG.free "range" = true) (hs : notStar p = true) (hs2 : notStar q = true) (h : SE G n X e p) (h' : SE G n X e' q) :
    SE G n X (.rng k [e, e']) (.Call (.Name (rngName k) pp) [.Call (.Name "range" p2) [p, q] [] pos2] [] pos) :=
  SE.plain hk.K rfl fun A b W tk => cong (d_rng2 (C := G.C A) hk.calm (hk.glo h1).1 (hk.nid T f1) (hk.glo h2).1 (hk.nid T f2) hs hs2 (h A b W tk).1 (h' A b W tk).1) fun env S => by
    simp only [ev, evs, dInt2, to_to]
    cases ev (cxN G n b) e env S with
    | ok x S1 =>
      simp only [Rs.to]
      cases ev (cxN G n b) e' env S1 with
      | ok y S2 => simp only [Rs.to]; cases x <;> cases y <;> rfl
      | ex x S1 => rfl
      | no => rfl
    | ex x S1 => rfl
    | no => rfl
theorem s_isinst (hk : XOk G n X s) (T : Text G) {t : Ty} {e : E} {p : Expr} {pp p2 pos : Pos} (h1 : glB s "isinstance" = true) (h2 : glB s t.py = true) (f1 : G.toSG.free "isinstance" = true) (f2 : G.toSG.free t.py = true) (hs : notStar p = true) (h : SE G n X e p) :
    SE G n X (.pri (.isinst t) [e]) (.Call (.Name "isinstance" pp) [p, .Name t.py p2] [] pos) :=
  SE.plain hk.K rfl fun A b W tk => cong (d_isinst (C := G.C A) hk.K (hk.glo h1).1 (hk.nid T f1) (hk.glo h2).1 (hk.nid T f2) hs (h A b W tk).1) fun env S => by
    simp only [ev, evs, to_to]
    cases ev (cxN G n b) e env S <;> rfl
theorem boot_abs' : bootBuiltins "abs" = some (.builtin "abs") := by decide +kernel
/-- len, int, .. -/
theorem s_pri (hk : XOk G n X s) (T : Text G) {f : Pr} {x : Str} {es : List E} {p : Expr} {ps : List Expr} {pp pos : Pos} (hn : priName f = some x) (h1 : glB s x = true) (f1 : G.toSG.free x = true) (hs : (p :: ps).all notStar = true) (h : SA G n X es (p :: ps)) :
    SE G n X (.pri f es) (.Call (.Name x pp) (p :: ps) [] pos) := by
  obtain ⟨v1, v2, v3⟩ := hk.glo h1
  have v4 := hk.nid T f1
  refine SE.plain hk.K rfl fun A b W tk => cong (f := fun env S => (evs (cxN G n b) es env S).to fun xs S1 => prim b f xs S1) ?_ fun env S => by simp only [ev]
  have hA := h A b W tk
  cases f <;> simp only [priName, Option.some.injEq, reduceCtorEq] at hn <;> subst hn
  · exact d_callB (C := G.C A) (pr_len hk.K) v1 v4 boot_len v3 v2 hs hA
  · exact d_callTy (C := G.C A) pr_int v1 v4 PyProof.Rows.boot_int v3 v2 hs hA
  · exact d_callB (C := G.C A) pr_abs v1 v4 boot_abs' v3 v2 hs hA
  · exact d_callB (C := G.C A) (pr_min2 hk.calm) v1 v4 boot_min v3 v2 hs hA
  · exact d_callB (C := G.C A) (pr_max2 hk.calm) v1 v4 boot_max v3 v2 hs hA
  · exact d_callTy (C := G.C A) (pr_tuple hk.K) v1 v4 PyProof.Rows.boot_tuple v3 v2 hs hA
  · exact d_callTy (C := G.C A) (pr_list hk.K _) v1 v4 PyProof.Rows.boot_list v3 v2 hs hA
  · exact d_callB (C := G.C A) (pr_sorted hk.K _) v1 v4 boot_sorted v3 v2 hs hA
  · exact d_callB (C := G.C A) (pr_sum hk.K hk.calm) v1 v4 boot_sum v3 v2 hs hA
  · exact d_callB (C := G.C A) (pr_sortd hk.calm _) v1 v4 boot_sorted v3 v2 hs hA
/-- what a call o.get(..) must show of the text -/
theorem m1_get {X : Cx} {p q : Expr} {apos pos : Pos} (hb : notSuper p = true) (hl : (apos.endLine == pos.line) = true) (hs : notStar q = true) : M1 X p "get" apos q pos where
  base := base_of hb
  few := by
    rw [star_all (show [q].all notStar = true by simp [hs])]
    rfl
  line := hl
  trees := by rw [star_cons hs]; rfl
theorem m2_get {X : Cx} {p q r : Expr} {apos pos : Pos} (hb : notSuper p = true) (hl : (apos.endLine == pos.line) = true) (hs : notStar q = true) (hs2 : notStar r = true) : M2 X p "get" apos q r pos where
  base := base_of hb
  few := by
    rw [star_all (show [q, r].all notStar = true by simp [hs, hs2])]
    rfl
  line := hl
  trees := by rw [star_cons hs, star_cons hs2]; rfl
theorem s_get (hk : XOk G n X s) {o : E} {es : List E} {p : Expr} {ps : List Expr} {apos pos : Pos} (hl : ps.length = 1 ∨ ps.length = 2) (hb : notSuper p = true) (hp : (apos.endLine == pos.line) = true) (hs : ps.all notStar = true)
    (ho : SE G n X o p) (he : ∀ (i : Nat) (e : E) (q : Expr), es[i]? = some e → ps[i]? = some q → SE G n X e q) (hlen : es.length = ps.length) : SE G n X (.get o es) (.Call (.Attribute p "get" apos) ps [] pos) := by
  refine SE.plain hk.K rfl fun A b W tk => ?_
  have hO := (ho A b W tk).1
  match ps, es, hl, hs, hlen, he with
  | [q], [e], _, hs, _, he =>
    simp only [List.all_cons, Bool.and_eq_true] at hs
    exact cong (d_get1 (C := G.C A) (m := m1_get hb hp hs.1) (by have := hk.hu; omega) hO (he 0 e q rfl rfl A b W tk).1) fun env S => by simp only [ev, evs, to_to] <;> rfl
  | [q, r], [e, f], _, hs, _, he =>
    simp only [List.all_cons, Bool.and_eq_true] at hs
    exact cong (d_get2 (C := G.C A) (m := m2_get hb hp hs.1 hs.2.1) (by have := hk.hu; omega) hO (he 0 e q rfl rfl A b W tk).1 (he 1 f r rfl rfl A b W tk).1) fun env S => by simp only [ev, evs, to_to] <;> rfl
theorem boot_set' : bootBuiltins "set" = some (.type "set") := by decide +kernel
/-- sorted(set(xs)) -/
theorem s_sortset (hk : XOk G n X s) (T : Text G) {m : Bool} {e : E} {p : Expr} {pp p2 pos pos2 : Pos} (h1 : glB s "sorted" = true) (h2 : glB s "set" = true) (f1 : G.toSG.free "sorted" = true) (f2 : G.toSG.free "set" = true) (hs : notStar p = true) (h : SE G n X e p) :
    SE G n X (.pri (.sortset m) [e]) (.Call (.Name "sorted" pp) [.Call (.Name "set" p2) [p] [] pos2] [] pos) := by
  obtain ⟨v1, v2, v3⟩ := hk.glo h1
  obtain ⟨w1, w2, w3⟩ := hk.glo h2
  refine SE.plain hk.K rfl fun A b W tk => cong (f := fun env S => (ev (cxN G n b) e env S).to fun x S1 => prim b (.sortset m) [x] S1) ?_ fun env S => by simp only [ev, evs, to_to]; rfl
  have hO := (h A b W tk).1
  refine PE_sub (pe_callB (cr_sortSt hk.calm) v1 (hk.nid T f1) boot_sorted (pa_cons (pe_callTy (cr_setL hk.calm) w1 (hk.nid T f2) boot_set' (pa_cons hO pa_nil (star_cons hs)) w3 w2 (star_cons hs) (star_any rfl)) pa_nil (star_cons rfl)) v3 v2 (star_cons rfl) (star_any rfl)) fun σ H Q ⟨ρ, S, env, a, o⟩ => ?_
  refine tE_of a o.bind fun x S1 ρ1 H1 v le a1 rv o1 => ?_
  simp only [prim, pSortset] at o1
  split at o1
  · rename_i l ea
    obtain ⟨p', ys, rfl, q1, q2⟩ := valL a1.good rv ea
    split at o1
    · rename_i ss e1
      split at o1
      · rename_i few
        obtain ⟨rfl, ok⟩ := strs_rps e1 q2
        refine ⟨p', ss.map strV, rfl, hk.K ▸ q1, by rw [List.length_map]; exact few.1, fun p3 hp3 => ?_⟩
        obtain ⟨le2, g2⟩ := a1.good.anon hp3 (SetH X.prog X.w p3 (insA ((ss.map strV).map Sum.inr)))
        have e3 := strsD_eq e1
        have ok2 : ∀ t ∈ ddS l, okS t = true := by rw [e3]; exact ddS_ok ok
        refine ⟨p3, (ddS l).map strV, rfl, ?_, by rw [List.length_map]; exact few.2, fun zs p4 h3 h4 hp4 => ?_⟩
        · rw [upd_same, insA_dd, ← e3, List.map_map] <;> rfl
        · rw [sorted_is h3 h4]
          exact out_newL g2 (rps_strs (okS_sort ok2)) hp4 (Out.reb le2 o1)
      · exact o1.elim
    · exact o1.elim
  · exact o1.elim
theorem recv_is {f : Pr} {d : D} (hf : (metName f).isSome = true) (h : recvOk f d = true) : ∃ l, d = .lst l := by
  cases f <;> cases d <;> first | exact ⟨_, rfl⟩ | (cases hf; done) | (cases h; done)
/-- xs.append(..), .. -/
theorem s_met (hk : XOk G n X s) (T : Text G) {f : Pr} {m : Str} {k : Nat} {o : E} {es : List E} {p : Expr} {ps : List Expr} {apos pos : Pos} (hn : metName f = some (m, k)) (hl : ps.length = k) (hb : notSuper p = true) (hp : (apos.endLine == pos.line) = true) (hs : ps.all notStar = true)
    (ho : SE G n X o p) (h : SA G n X es ps) (he : es.length = ps.length) : SE G n X (.met f o es) (.Call (.Attribute p m apos) ps [] pos) := by
  refine SE.plain hk.K rfl fun A b W tk => cong (f := fun env S => (ev (cxN G n b) o env S).to fun x S1 => if recvOk f (x.val S1) = true then (evs (cxN G n b) es env S1).to fun xs S2 => prim b f (x :: xs) S2 else .no) ?_ fun env S => by simp only [ev]
  have hA := h A b W tk
  have hO := (ho A b W tk).1
  have hT : ∀ {ρ : List Addr} {S : Sto} {H : Hp} {d : D} {v : V}, Good (G.C A) b ρ S H → Rp (G.C A).KR ρ (lv (G.C A) ρ S) H d v → recvOk f (d.val S) = true → tyV X.K "list" v H := fun {ρ S H d v} g r hr =>
    recv_list (C := G.C A) hk.K g r (recv_is (f := f) (by rw [hn]; rfl) hr)
  cases f <;> simp only [metName, Option.some.injEq, Prod.mk.injEq, reduceCtorEq] at hn <;> obtain ⟨rfl, rfl⟩ := hn
  · match ps, hl, hs, hA with
    | [q], _, hs, hA => exact d_met (C := G.C A) PySem.F.plainAttrs_list PySem.F.slot_list_append PySem.F.type_list_append mr_append hT hb hp hs (by show 1 < 30; decide) hO hA
  · match ps, hl, hs, hA with
    | [q], _, hs, hA => exact d_met (C := G.C A) PySem.F.plainAttrs_list PySem.F.slot_list_extend PySem.F.type_list_extend (mr_extend hk.K) hT hb hp hs (by show 1 < 30; decide) hO hA
  · match ps, hl, es, he with
    | [], _, [], _ => exact cong (d_met0 (C := G.C A) PySem.F.plainAttrs_list PySem.F.slot_list_pop PySem.F.type_list_pop mr_pop hT hb hp hO) fun env S => by simp only [evs]
  · match ps, hl, hs, hA with
    | [q], _, hs, hA => exact d_met (C := G.C A) PySem.F.plainAttrs_list PySem.F.slot_list_pop PySem.F.type_list_pop mr_popi hT hb hp hs (by show 1 < 30; decide) hO hA
  · match ps, hl, hs, hA with
    | [q], _, hs, hA => exact d_met (C := G.C A) PySem.F.plainAttrs_list PySem.F.slot_list_count PySem.F.type_list_count (mr_count hk.K hk.hu) hT hb hp hs (by show 1 < 30; decide) hO hA
  · match ps, hl, hs, hA with
    | [q], _, hs, hA => exact d_met (C := G.C A) PySem.F.plainAttrs_list PySem.F.slot_list_index PySem.F.type_list_index (mr_index hk.K hk.hu) hT hb hp hs (by show 1 < 30; decide) hO hA
end
end Mi

namespace Mi
open PySem L2 PySem.Spec PyProof.Rows

/-! ## Part 19: the checker's word on expressions -/
def ForX (G : GC) (n : Nat) (s : Sc) (P : Cx → Prop) : Prop := ∀ X, XOk G n X s → P X
theorem own_map (s : Sc) (own : List Nat) : (ownP s own).map (·.2) = own := by
  unfold ownP
  rw [List.map_map]
  exact List.map_id' own
theorem blkC_kind {N : List Str} {sc scope : Scope} {own : List (Str × Nat)} (h : blkC N sc scope own = true) : scope.kind = .function := (blkOk_by h).kind
theorem noSet_fold {p : Expr} (h : noSetDisp p = true) (env : PySem.Env) (x : Value) : foldedSetIterable p env x = pure x := folded_of (p := p) h x
section
variable {G : GC} {n : Nat}
theorem GC.C_on (G : GC) (A B : List Addr) : (G.C A).on B = G.C B := rfl
/-- a comprehension of one clause -/
theorem s_lc1 (Tx : Text G) (F : FnsOk G n) {s : Sc} {X : Cx} (hk : XOk G n X s) {m : Bool} {own : List Nat} {elt : E} {t : T} {i : I} {ifs : List E} {pe t0 i0 : Expr} {f0 : List Expr} {scope : Scope} {pos : Pos} (hb : blkC s.N s.sc scope (ownP s own) = true) (hns : noSetDisp i0 = true)
    (hi : SI G n X i t0 i0) (ht : ForX G n (relSc scope s) fun X => ST G n X t t0) (hf : ForX G n (relSc scope s) fun X => SIfs G n X ifs f0) (he : ForX G n (relSc scope s) fun X => SE G n X elt pe) (ho : t.slots.all (own.contains ·) = true) :
    SE G n X (.lc m own elt [.mk t i ifs]) (.ListComp pe [⟨t0, i0, f0, 0⟩] scope pos) := by
  have hkind := blkC_kind hb
  have hok : BlkOk X.N X.env.scope scope (ownP s own) := by rw [hk.N, hk.scp]; exact blkOk_by hb
  refine SE.plain hk.K rfl fun A b W tk => cong (f := fun env S => dNew m (dWalk (evI (cxN G n b) i) (dTurn (evT (cxN G n b) t) (evIfs (cxN G n b) ifs) (dElt (ev (cxN G n b) elt))) t.slots (wipeE env own) [] S)) ?_ fun env S => by
    simp only [ev, evG] <;> rfl
  have key := pe_lc (pos := pos) hk.calm hk.nd (hi A b W tk) hok (g := tGa (G.C A) b t.slots (evT (cxN G n b) t)) (tt := tTa (G.C A) b (evIfs (cxN G n b) ifs)) (te := tEa (G.C A) b (ev (cxN G n b) elt))
    (fun sh H Ca cl fp => PG_any fun B => ht _ (hk.blk sh H scope hkind Ca cl fp) B b)
    (fun sh H Ca cl fp => PTs_any fun B => hf _ (hk.blk sh H scope hkind Ca cl fp) B b W0 takes0)
    (fun sh H Ca cl fp => PE_any fun B => (he _ (hk.blk sh H scope hkind Ca cl fp) B b W0 takes0).1) (noSet_fold hns X.env)
  rw [own_map] at key
  exact PE_sub key fun σ H Q w => d_lc (C := G.C A) (fun j hj => by simpa using List.all_eq_true.mp ho j hj) w
/-- of two -/
theorem s_lc2 (Tx : Text G) (F : FnsOk G n) {s : Sc} {X : Cx} (hk : XOk G n X s) {m : Bool} {own : List Nat} {elt : E} {t t' : T} {i i' : I} {ifs ifs' : List E} {pe t0 i0 t1 i1 : Expr} {f0 f1 : List Expr} {scope : Scope} {pos : Pos} (hb : blkC s.N s.sc scope (ownP s own) = true) (hns : noSetDisp i0 = true) (hns1 : noSetDisp i1 = true)
    (hi : SI G n X i t0 i0) (ht : ForX G n (relSc scope s) fun X => ST G n X t t0) (hf : ForX G n (relSc scope s) fun X => SIfs G n X ifs f0) (he : ForX G n (relSc scope s) fun X => SE G n X elt pe) (ho : t.slots.all (own.contains ·) = true)
    (hi1 : ForX G n (relSc scope s) fun X => SI G n X i' t1 i1) (ht1 : ForX G n (relSc scope s) fun X => ST G n X t' t1) (hf1 : ForX G n (relSc scope s) fun X => SIfs G n X ifs' f1) (ho1 : t'.slots.all (own.contains ·) = true) :
    SE G n X (.lc m own elt [.mk t i ifs, .mk t' i' ifs']) (.ListComp pe [⟨t0, i0, f0, 0⟩, ⟨t1, i1, f1, 0⟩] scope pos) := by
  have hkind := blkC_kind hb
  have hok : BlkOk X.N X.env.scope scope (ownP s own) := by rw [hk.N, hk.scp]; exact blkOk_by hb
  refine SE.plain hk.K rfl fun A b W tk => cong (f := fun env S => dNew m (dWalk (evI (cxN G n b) i) (dTurn (evT (cxN G n b) t) (evIfs (cxN G n b) ifs) (dWalk (evI (cxN G n b) i') (dTurn (evT (cxN G n b) t') (evIfs (cxN G n b) ifs') (dElt (ev (cxN G n b) elt))) t'.slots)) t.slots (wipeE env own) [] S)) ?_ fun env S => by
    simp only [ev, evG] <;> rfl
  have key := pe_lc2 (pos := pos) (vs1 := t'.slots) hk.calm hk.nd (hi A b W tk) hok (fun j hj => by rw [own_map]; simpa using List.all_eq_true.mp ho1 j hj) (g := tGa (G.C A) b t.slots (evT (cxN G n b) t)) (tt := tTa (G.C A) b (evIfs (cxN G n b) ifs)) (te := tEa (G.C A) b (ev (cxN G n b) elt))
    (wi1 := tIa (G.C A) b (evI (cxN G n b) i')) (g1 := tGa (G.C A) b t'.slots (evT (cxN G n b) t')) (tt1 := tTa (G.C A) b (evIfs (cxN G n b) ifs'))
    (fun sh H Ca cl fp => PG_any fun B => ht _ (hk.blk sh H scope hkind Ca cl fp) B b)
    (fun sh H Ca cl fp => PTs_any fun B => hf _ (hk.blk sh H scope hkind Ca cl fp) B b W0 takes0)
    (fun sh H Ca cl fp => PI_any fun B => hi1 _ (hk.blk sh H scope hkind Ca cl fp) B b W0 takes0)
    (fun sh H Ca cl fp => PG_any fun B => ht1 _ (hk.blk sh H scope hkind Ca cl fp) B b)
    (fun sh H Ca cl fp => PTs_any fun B => hf1 _ (hk.blk sh H scope hkind Ca cl fp) B b W0 takes0)
    (fun sh H Ca cl fp => PE_any fun B => (he _ (hk.blk sh H scope hkind Ca cl fp) B b W0 takes0).1) (noSet_fold hns X.env) (noSet_fold hns1)
  rw [own_map] at key
  exact PE_sub key fun σ H Q w => d_lc2 (C := G.C A) (fun j hj => by simpa using List.all_eq_true.mp ho j hj) w
theorem s_sset (Tx : Text G) (F : FnsOk G n) {s : Sc} {X : Cx} (hk : XOk G n X s) {m : Bool} {own : List Nat} {elt : E} {t t' : T} {i i' : I} {ifs ifs' : List E} {pe t0 i0 t1 i1 : Expr} {f0 f1 : List Expr} {scope : Scope} {pp pos2 pos : Pos} (q1 : glB s "sorted" = true) (q2 : G.toSG.free "sorted" = true) (hb : blkC s.N s.sc scope (ownP s own) = true) (hns : noSetDisp i0 = true) (hns1 : noSetDisp i1 = true)
    (hi : SI G n X i t0 i0) (ht : ForX G n (relSc scope s) fun X => ST G n X t t0) (hf : ForX G n (relSc scope s) fun X => SIfs G n X ifs f0) (he : ForX G n (relSc scope s) fun X => SE G n X elt pe) (ho : t.slots.all (own.contains ·) = true)
    (hi1 : ForX G n (relSc scope s) fun X => SI G n X i' t1 i1) (ht1 : ForX G n (relSc scope s) fun X => ST G n X t' t1) (hf1 : ForX G n (relSc scope s) fun X => SIfs G n X ifs' f1) (ho1 : t'.slots.all (own.contains ·) = true) :
    SE G n X (.sset m own elt [.mk t i ifs, .mk t' i' ifs']) (.Call (.Name "sorted" pp) [.SetComp pe [⟨t0, i0, f0, 0⟩, ⟨t1, i1, f1, 0⟩] scope pos2] [] pos) := by
  have hkind := blkC_kind hb
  have hok : BlkOk X.N X.env.scope scope (ownP s own) := by rw [hk.N, hk.scp]; exact blkOk_by hb
  obtain ⟨v1, v2, v3⟩ := hk.glo q1
  have v4 := hk.nid Tx q2
  refine SE.plain hk.K rfl fun A b W tk => cong (f := fun env S => newS m (dWalk (evI (cxN G n b) i) (dTurn (evT (cxN G n b) t) (evIfs (cxN G n b) ifs) (dWalk (evI (cxN G n b) i') (dTurn (evT (cxN G n b) t') (evIfs (cxN G n b) ifs') (dSet (ev (cxN G n b) elt))) t'.slots)) t.slots (wipeE env own) [] S)) ?_ fun env S => by
    simp only [ev, evG] <;> rfl
  have key := pe_sc2 (pos := pos2) (vs1 := t'.slots) hk.calm hk.nd (hi A b W tk) hok (fun j hj => by rw [own_map]; simpa using List.all_eq_true.mp ho1 j hj) (g := tGa (G.C A) b t.slots (evT (cxN G n b) t)) (tt := tTa (G.C A) b (evIfs (cxN G n b) ifs)) (te := tEa (G.C A) b (ev (cxN G n b) elt))
    (wi1 := tIa (G.C A) b (evI (cxN G n b) i')) (g1 := tGa (G.C A) b t'.slots (evT (cxN G n b) t')) (tt1 := tTa (G.C A) b (evIfs (cxN G n b) ifs'))
    (fun sh H Ca cl fp => PG_any fun B => ht _ (hk.blk sh H scope hkind Ca cl fp) B b)
    (fun sh H Ca cl fp => PTs_any fun B => hf _ (hk.blk sh H scope hkind Ca cl fp) B b W0 takes0)
    (fun sh H Ca cl fp => PI_any fun B => hi1 _ (hk.blk sh H scope hkind Ca cl fp) B b W0 takes0)
    (fun sh H Ca cl fp => PG_any fun B => ht1 _ (hk.blk sh H scope hkind Ca cl fp) B b)
    (fun sh H Ca cl fp => PTs_any fun B => hf1 _ (hk.blk sh H scope hkind Ca cl fp) B b W0 takes0)
    (fun sh H Ca cl fp => PE_any fun B => (he _ (hk.blk sh H scope hkind Ca cl fp) B b W0 takes0).1) (noSet_fold hns X.env) (noSet_fold hns1)
  rw [own_map] at key
  refine PE_sub (pe_callB (cr_sortSt hk.calm) v1 v4 boot_sorted (pa_cons key pa_nil (star_cons rfl)) v3 v2 (star_cons rfl) (star_any rfl)) fun σ H Q w => ?_
  exact d_sc2 (C := G.C A) (fun j hj => by simpa using List.all_eq_true.mp ho j hj) (sq_sort w)
theorem s_nset (Tx : Text G) (F : FnsOk G n) {s : Sc} {X : Cx} (hk : XOk G n X s) {own : List Nat} {elt : E} {t t' : T} {i i' : I} {ifs ifs' : List E} {pe t0 i0 t1 i1 : Expr} {f0 f1 : List Expr} {scope : Scope} {pp pos2 pos : Pos} (q1 : glB s "len" = true) (q2 : G.toSG.free "len" = true) (hb : blkC s.N s.sc scope (ownP s own) = true) (hns : noSetDisp i0 = true) (hns1 : noSetDisp i1 = true)
    (hi : SI G n X i t0 i0) (ht : ForX G n (relSc scope s) fun X => ST G n X t t0) (hf : ForX G n (relSc scope s) fun X => SIfs G n X ifs f0) (he : ForX G n (relSc scope s) fun X => SE G n X elt pe) (ho : t.slots.all (own.contains ·) = true)
    (hi1 : ForX G n (relSc scope s) fun X => SI G n X i' t1 i1) (ht1 : ForX G n (relSc scope s) fun X => ST G n X t' t1) (hf1 : ForX G n (relSc scope s) fun X => SIfs G n X ifs' f1) (ho1 : t'.slots.all (own.contains ·) = true) :
    SE G n X (.nset own elt [.mk t i ifs, .mk t' i' ifs']) (.Call (.Name "len" pp) [.SetComp pe [⟨t0, i0, f0, 0⟩, ⟨t1, i1, f1, 0⟩] scope pos2] [] pos) := by
  have hkind := blkC_kind hb
  have hok : BlkOk X.N X.env.scope scope (ownP s own) := by rw [hk.N, hk.scp]; exact blkOk_by hb
  obtain ⟨v1, v2, v3⟩ := hk.glo q1
  have v4 := hk.nid Tx q2
  refine SE.plain hk.K rfl fun A b W tk => cong (f := fun env S => lenS (dWalk (evI (cxN G n b) i) (dTurn (evT (cxN G n b) t) (evIfs (cxN G n b) ifs) (dWalk (evI (cxN G n b) i') (dTurn (evT (cxN G n b) t') (evIfs (cxN G n b) ifs') (dSet (ev (cxN G n b) elt))) t'.slots)) t.slots (wipeE env own) [] S)) ?_ fun env S => by
    simp only [ev, evG] <;> rfl
  have key := pe_sc2 (pos := pos2) (vs1 := t'.slots) hk.calm hk.nd (hi A b W tk) hok (fun j hj => by rw [own_map]; simpa using List.all_eq_true.mp ho1 j hj) (g := tGa (G.C A) b t.slots (evT (cxN G n b) t)) (tt := tTa (G.C A) b (evIfs (cxN G n b) ifs)) (te := tEa (G.C A) b (ev (cxN G n b) elt))
    (wi1 := tIa (G.C A) b (evI (cxN G n b) i')) (g1 := tGa (G.C A) b t'.slots (evT (cxN G n b) t')) (tt1 := tTa (G.C A) b (evIfs (cxN G n b) ifs'))
    (fun sh H Ca cl fp => PG_any fun B => ht _ (hk.blk sh H scope hkind Ca cl fp) B b)
    (fun sh H Ca cl fp => PTs_any fun B => hf _ (hk.blk sh H scope hkind Ca cl fp) B b W0 takes0)
    (fun sh H Ca cl fp => PI_any fun B => hi1 _ (hk.blk sh H scope hkind Ca cl fp) B b W0 takes0)
    (fun sh H Ca cl fp => PG_any fun B => ht1 _ (hk.blk sh H scope hkind Ca cl fp) B b)
    (fun sh H Ca cl fp => PTs_any fun B => hf1 _ (hk.blk sh H scope hkind Ca cl fp) B b W0 takes0)
    (fun sh H Ca cl fp => PE_any fun B => (he _ (hk.blk sh H scope hkind Ca cl fp) B b W0 takes0).1) (noSet_fold hns X.env) (noSet_fold hns1)
  rw [own_map] at key
  refine PE_sub (pe_callB (cr_lenSt) v1 v4 boot_len (pa_cons key pa_nil (star_cons rfl)) v3 v2 (star_cons rfl) (star_any rfl)) fun σ H Q w => ?_
  exact d_sc2 (C := G.C A) (fun j hj => by simpa using List.all_eq_true.mp ho j hj) (sq_len w)
/-! ### all of them -/
theorem s_one {X : Cx} {e : E} {p : Expr} (h : SE G n X e p) (A : List Addr) (b : Nat) (W : WX) (tk : Takes X W) : PE X p (tE (G.C A) b W (ev (cxN G n b) e)) := (h A b W tk).1
mutual
theorem sndE (Tx : Text G) (F : FnsOk G n) : ∀ (e : E) (s : Sc) (p : Expr), chkE G.toSG s e p = true → ForX G n s fun X => SE G n X e p
  | .lit d, s, p, h, X, hk => s_lit hk.K (by simpa only [chkE] using h)
  | .var i, s, p, h, X, hk => by
    simp only [chkE] at h
    split at h
    · simp only [Bool.and_eq_true, decide_eq_true_eq] at h
      exact s_var hk h.1 h.2
    · cases h
  | .gl k, s, p, h, X, hk => by
    simp only [chkE] at h
    split at h
    · simp only [Bool.and_eq_true, decide_eq_true_eq] at h
      obtain ⟨rfl, h⟩ := h
      exact s_gl Tx hk h
    · cases h
  | .bin op a c, s, p, h, X, hk => by
    simp only [chkE] at h
    split at h
    · simp only [Bool.and_eq_true] at h
      obtain ⟨⟨h1, h2⟩, h3⟩ := h
      cases opB_eq h1
      exact SE.plain hk.K rfl fun A b W tk => cong (d_bin (C := G.C A) hk.K op (sndE Tx F a s _ h2 X hk A b W tk).1 (sndE Tx F c s _ h3 X hk A b W tk).1) fun env S => by simp only [ev]
    · cases h
  | .neg a, s, p, h, X, hk => by
    simp only [chkE] at h
    split at h
    · exact SE.plain hk.K rfl fun A b W tk => cong (d_neg (C := G.C A) (sndE Tx F a s _ h X hk A b W tk).1) fun env S => by simp only [ev] <;> rfl
    · cases h
  | .not a, s, p, h, X, hk => by
    simp only [chkE] at h
    split at h
    · exact fun A b W tk => ⟨cong (d_not (C := G.C A) hk.K (sndE Tx F a s _ h X hk A b W tk).1) fun env S => by simp only [ev], congT (d_notT (C := G.C A) (sndE Tx F a s _ h X hk A b W tk).2) fun env S => by simp only [ev]⟩
    · cases h
  | .cmp op a c, s, p, h, X, hk => by
    simp only [chkE] at h
    split at h
    · simp only [Bool.and_eq_true, Bool.not_eq_true'] at h
      obtain ⟨⟨⟨h1, h2⟩, h3⟩, h4⟩ := h
      cases opC_eq h1
      exact fun A b W tk => ⟨cong (d_cmp (C := G.C A) hk.K hk.hu op h4 (sndE Tx F a s _ h2 X hk A b W tk).1 (sndE Tx F c s _ h3 X hk A b W tk).1) fun env S => by simp only [ev],
        congT (d_cmpT (C := G.C A) hk.K hk.hu op h4 (sndE Tx F a s _ h2 X hk A b W tk).1 (sndE Tx F c s _ h3 X hk A b W tk).1) fun env S => by simp only [ev]⟩
    · cases h
  | .chain o1 o2 a c d, s, p, h, X, hk => by
    simp only [chkE] at h
    split at h
    · simp only [Bool.and_eq_true, Bool.not_eq_true'] at h
      obtain ⟨⟨⟨⟨⟨h1, h2⟩, h3⟩, h4⟩, h5⟩, h6⟩ := h
      cases opC_eq h1
      cases opC_eq h2
      exact fun A b W tk => ⟨cong (d_chain (C := G.C A) hk.K hk.hu o1 o2 h6 (sndE Tx F a s _ h3 X hk A b W tk).1 (sndE Tx F c s _ h4 X hk A b W tk).1 (sndE Tx F d s _ h5 X hk A b W tk).1) fun env S => by simp only [ev] <;> rfl,
        congT (d_chainT (C := G.C A) hk.K hk.hu o1 o2 h6 (sndE Tx F a s _ h3 X hk A b W tk).1 (sndE Tx F c s _ h4 X hk A b W tk).1 (sndE Tx F d s _ h5 X hk A b W tk).1) fun env S => by simp only [ev] <;> rfl⟩
    · cases h
  | .and es, s, p, h, X, hk => by
    simp only [chkE] at h
    split at h
    · simp only [Bool.and_eq_true, Bool.not_eq_true', List.isEmpty_eq_false_iff] at h
      exact fun A b W tk =>
        have z := sndAnd Tx F es s _ h.1 h.2 X hk A b W tk _
        ⟨cong z.1 fun env S => by simp only [ev], congT z.2.pt fun env S => by simp only [ev]⟩
    · cases h
  | .or es, s, p, h, X, hk => by
    simp only [chkE] at h
    split at h
    · simp only [Bool.and_eq_true, Bool.not_eq_true', List.isEmpty_eq_false_iff] at h
      exact fun A b W tk =>
        have z := sndOr Tx F es s _ h.1 h.2 X hk A b W tk _
        ⟨cong z.1 fun env S => by simp only [ev], congT z.2.pt fun env S => by simp only [ev]⟩
    · cases h
  | .ite t a c, s, p, h, X, hk => by
    simp only [chkE] at h
    split at h
    · simp only [Bool.and_eq_true] at h
      obtain ⟨⟨h1, h2⟩, h3⟩ := h
      exact fun A b W tk =>
        have zt := sndE Tx F t s _ h1 X hk A b W tk
        have za := sndE Tx F a s _ h2 X hk A b W tk
        have zc := sndE Tx F c s _ h3 X hk A b W tk
        ⟨cong (d_ite (C := G.C A) zt.2 za.1 zc.1) fun env S => by simp only [ev] <;> rfl, congT (d_iteT (C := G.C A) zt.2 za.2 zc.2) fun env S => by simp only [ev] <;> rfl⟩
    · cases h
  | .tup es, s, p, h, X, hk => by
    simp only [chkE] at h
    split at h
    · exact SE.plain hk.K rfl fun A b W tk => cong (d_tup (C := G.C A) (sndEs Tx F es s _ h X hk A b W tk)) fun env S => by simp only [ev]
    · cases h
  | .lst m es, s, p, h, X, hk => by
    simp only [chkE] at h
    split at h
    · exact SE.plain hk.K rfl fun A b W tk => cong (d_lst (C := G.C A) (m := m) (sndEs Tx F es s _ h X hk A b W tk)) fun env S => by simp only [ev]
    · cases h
  | .dic m kvs, s, p, h, X, hk => by
    simp only [chkE] at h
    split at h
    · rename_i keys values pos
      simp only [Bool.and_eq_true, decide_eq_true_eq] at h
      refine SE.plain hk.K rfl fun A b W tk => ?_
      obtain ⟨fs, h1, h2, h3, h4, h5⟩ := sndKV Tx F kvs s keys values h.1 X hk b pos
      cases keys with
      | nil =>
        cases values with
        | nil =>
          cases kvs with
          | nil => exact cong (d_dict0 (C := G.C A) (m := m)) fun env S => by simp only [ev, evs]
          | cons a r =>
            cases r with
            | nil => simp only [chkKV] at h; cases h.1
            | cons c r => simp only [chkKV] at h; cases h.1
        | cons v vs => cases h4
      | cons k ks => exact cong (d_dict (C := G.C A) (m := m) (pe_disp h1 h3 h4 (by intro z; cases z) h.2)) fun env S => by simp only [ev]; rw [h2]
    · cases h
  | .dct, s, p, h, X, hk => by
    simp only [chkE] at h
    split at h
    · exact SE.plain hk.K rfl fun A b W tk => cong (d_dct (C := G.C A) trivial) fun env S => by simp only [ev]
    · cases h
  | .get o es, s, p, h, X, hk => by
    simp only [chkE] at h
    split at h
    · rename_i po m apos ps pos
      simp only [Bool.and_eq_true, Bool.or_eq_true, decide_eq_true_eq] at h
      obtain ⟨⟨⟨⟨⟨⟨rfl, h1⟩, h2⟩, h3⟩, h4⟩, h5⟩, h6⟩ := h
      match es, ps, h6, h1, h4 with
      | [e], [q], h6, h1, h4 =>
        simp only [chkEs, Bool.and_eq_true] at h6
        have z := sndE Tx F e s _ h6.1.2 X hk
        exact s_get hk h1 h2 h3 h4 (sndE Tx F o s _ h5 X hk) (fun i e' q' he hq => by
          match i with
          | 0 => cases he; cases hq; exact z
          | i + 1 => cases he) rfl
      | [e, f], [q, r], h6, h1, h4 =>
        simp only [chkEs, Bool.and_eq_true] at h6
        have z := sndE Tx F e s _ h6.1.2 X hk
        have z2 := sndE Tx F f s _ h6.2.1.2 X hk
        exact s_get hk h1 h2 h3 h4 (sndE Tx F o s _ h5 X hk) (fun i e' q' he hq => by
          match i with
          | 0 => cases he; cases hq; exact z
          | 1 => cases he; cases hq; exact z2
          | i + 2 => cases he) rfl
      | [], _ :: _, h6, _, _ => simp only [chkEs] at h6; cases h6
      | _ :: _, [], h6, _, _ => simp only [chkEs] at h6; cases h6
      | [_], _ :: _ :: _, h6, _, _ => simp only [chkEs, Bool.and_eq_true] at h6; cases h6.2
      | _ :: _ :: _, [_], h6, _, _ => simp only [chkEs, Bool.and_eq_true] at h6; cases h6.2
      | [_, _], _ :: _ :: _ :: _, h6, _, _ => simp only [chkEs, Bool.and_eq_true] at h6; cases h6.2.2
      | _ :: _ :: _ :: _, [_, _], h6, _, _ => simp only [chkEs, Bool.and_eq_true] at h6; cases h6.2.2
      | [], [], _, h1, _ => rcases h1 with h1 | h1 <;> cases h1
      | _ :: _ :: _ :: _, _ :: _ :: _ :: _, _, h1, _ => simp at h1
    · cases h
  | .ix a i, s, p, h, X, hk => by
    simp only [chkE] at h
    split at h
    · simp only [Bool.and_eq_true] at h
      obtain ⟨⟨h1, h2⟩, h3⟩ := h
      exact SE.plain hk.K rfl fun A b W tk => cong (d_ix (C := G.C A) hk.K hk.hu h1 (sndE Tx F a s _ h2 X hk A b W tk).1 (sndE Tx F i s _ h3 X hk A b W tk).1) fun env S => by simp only [ev]
    · cases h
  | .sl a lo hi, s, p, h, X, hk => by
    simp only [chkE] at h
    split at h
    · simp only [Bool.and_eq_true] at h
      obtain ⟨⟨h1, h2⟩, h3⟩ := h
      exact SE.plain hk.K rfl fun A b W tk => cong (d_sl (C := G.C A) hk.K (sndE Tx F a s _ h1 X hk A b W tk).1 (sndO Tx F lo s _ h2 X hk A b W tk) (sndO Tx F hi s _ h3 X hk A b W tk)) fun env S => by simp only [ev]
    · cases h
  | .rev m a, s, p, h, X, hk => by
    simp only [chkE] at h
    split at h
    · exact SE.plain hk.K rfl fun A b W tk => cong (d_rev2 (C := G.C A) (m := m) hk.K (sndE Tx F a s _ h X hk A b W tk).1) fun env S => by simp only [ev] <;> rfl
    · cases h
  | .cpy a lo hi, s, p, h, X, hk => by
    simp only [chkE] at h
    split at h
    · simp only [Bool.and_eq_true] at h
      obtain ⟨⟨h1, h2⟩, h3⟩ := h
      exact SE.plain hk.K rfl fun A b W tk => cong (d_cpy (C := G.C A) hk.K (sndE Tx F a s _ h1 X hk A b W tk).1 (sndO Tx F lo s _ h2 X hk A b W tk) (sndO Tx F hi s _ h3 X hk A b W tk)) fun env S => by simp only [ev] <;> rfl
    · cases h
  | .call f es, s, p, h, X, hk => by
    simp only [chkE] at h
    split at h
    · rename_i x pp ps pos
      simp only [Bool.and_eq_true, decide_eq_true_eq] at h
      obtain ⟨⟨⟨⟨⟨rfl, h1⟩, h2⟩, h3⟩, h4⟩, h5⟩ := h
      obtain ⟨fd, hfd⟩ := Option.isSome_iff_exists.mp h1
      obtain ⟨g1, g2, g3⟩ := hk.glo h3
      refine SE.plain hk.K rfl fun A b W tk => cong (f := fun env S => (evs (cxN G n b) es env S).to fun xs S1 => callN G.pg n f xs b S1) ?_ fun env S => by simp only [ev]
      have z := sndEs Tx F es s _ h5 X hk A b W tk
      cases ps with
      | nil =>
        cases es with
        | nil => exact cong (d_call0 Tx hk F tk hfd h2 g1 g2) fun env S => by simp only [evs]
        | cons e es => simp only [chkEs] at h5; cases h5
      | cons q qs => exact d_call Tx hk F tk hfd h2 g1 g2 h4 z
    · cases h
  | .callk f perm es ks, s, p, h, X, hk => by
    simp only [chkE] at h
    split at h
    · rename_i x pp ps kws pos
      simp only [Bool.and_eq_true, decide_eq_true_eq] at h
      obtain ⟨⟨⟨⟨⟨⟨⟨rfl, h1⟩, h2⟩, h3⟩, h4⟩, h5⟩, h6⟩, h7⟩ := h
      obtain ⟨fd, hfd⟩ := Option.isSome_iff_exists.mp h1
      obtain ⟨g1, g2, g3⟩ := hk.glo h3
      split at h7
      · rename_i names hn
        refine SE.plain hk.K rfl fun A b W tk => cong (f := fun env S => (evs (cxN G n b) es env S).to fun xs S1 => (evs (cxN G n b) ks env S1).to fun ys S2 => callN G.pg n f (pick perm .non (xs ++ ys)) b S2) ?_ fun env S => by simp only [ev]
        have z := sndEs Tx F es s _ h5 X hk A b W tk
        have y := sndKw Tx F ks s _ h6 X hk A b W tk
        have lk : ∀ env S xs S1, evs (cxN G n b) ks env S = .ok xs S1 → xs.length = kws.length := fun env S xs S1 e => by rw [evs_len e, chkKw_len h6]
        cases ps with
        | nil =>
          cases es with
          | nil => exact cong (d_callk0 Tx hk F tk hfd h2 g1 g2 h7 hn lk y) fun env S => by simp only [evs]
          | cons e es => simp only [chkEs] at h5; cases h5
        | cons q qs => exact d_callk Tx hk F tk hfd h2 g1 g2 h4 h7 hn (fun env S xs S1 e => by rw [evs_len e, (chkEs_len h5).1]) lk z y
      · cases h7
    · cases h
  | .rng k es, s, p, h, X, hk => by
    simp only [chkE] at h
    split at h
    · rename_i x pp y p2 ps pos2 pos
      simp only [Bool.and_eq_true, Bool.or_eq_true, decide_eq_true_eq] at h
      obtain ⟨⟨⟨⟨⟨⟨⟨⟨rfl, rfl⟩, h1⟩, h2⟩, h3⟩, h4⟩, h5⟩, h6⟩, h7⟩ := h
      match es, ps, h6, h7 with
      | [], _, h6, h7 =>
        simp only [chkEs, List.isEmpty_iff] at h6
        subst h6
        rcases h7 with h7 | h7 <;> cases h7
      | [e], ps, h6, h7 =>
        obtain ⟨l1, l2⟩ := chkEs_len h6
        match ps, l1, h6, l2 with
        | [q], _, h6, l2 =>
          simp only [chkEs, Bool.and_eq_true] at h6
          exact s_rng1 hk Tx h1 h2 h3 h4 h6.1.1 (sndE Tx F e s _ h6.1.2 X hk)
      | [e, e'], ps, h6, h7 =>
        obtain ⟨l1, l2⟩ := chkEs_len h6
        match ps, l1, h6, l2 with
        | [q, q'], _, h6, l2 =>
          simp only [chkEs, Bool.and_eq_true] at h6
          exact s_rng2 hk Tx h1 h2 h3 h4 h6.1.1 h6.2.1.1 (sndE Tx F e s _ h6.1.2 X hk) (sndE Tx F e' s _ h6.2.1.2 X hk)
      | _ :: _ :: _ :: _, ps, h6, h7 =>
        have l1 := (chkEs_len h6).1
        simp only [List.length_cons] at l1
        omega
    · cases h
  | .pri f es, s, p, h, X, hk => by
    simp only [chkE] at h
    split at h
    · rename_i x pp ps pos
      simp only [Bool.and_eq_true, Bool.not_eq_true', List.isEmpty_eq_false_iff] at h
      obtain ⟨⟨⟨⟨h1, h2⟩, h3⟩, h4⟩, h5⟩ := h
      split at h5
      · rename_i t
        split at h5
        · rename_i pa y p2
          simp only [Bool.and_eq_true, decide_eq_true_eq] at h5
          obtain ⟨⟨⟨⟨rfl, rfl⟩, k1⟩, k2⟩, k3⟩ := h5
          match es, k3 with
          | [], k3 => simp only [chkEs] at k3; cases k3
          | [e], k3 =>
            simp only [chkEs, Bool.and_eq_true] at k3
            exact s_isinst hk Tx h1 k1 h2 k2 k3.1.1 (sndE Tx F e s _ k3.1.2 X hk)
          | _ :: _ :: _, k3 => simp only [chkEs, Bool.and_eq_true] at k3; cases k3.2
        · cases h5
      · rename_i t
        split at h5
        · rename_i y p2 pa p3
          simp only [Bool.and_eq_true, decide_eq_true_eq] at h5
          obtain ⟨⟨⟨⟨⟨rfl, rfl⟩, k1⟩, k2⟩, k4⟩, k3⟩ := h5
          match es, k3 with
          | [], k3 => simp only [chkEs] at k3; cases k3
          | [e], k3 =>
            simp only [chkEs, Bool.and_eq_true] at k3
            exact s_sortset hk Tx h1 k1 h2 k2 k4 (sndE Tx F e s _ k3.1.2 X hk)
          | _ :: _ :: _, k3 => simp only [chkEs, Bool.and_eq_true] at k3; cases k3.2
        · cases h5
      · simp only [Bool.and_eq_true, decide_eq_true_eq] at h5
        cases ps with
        | nil => exact absurd rfl h4
        | cons q qs => exact s_pri hk Tx h5.1 h1 h2 h3 (sndEs Tx F es s _ h5.2 X hk)
    · cases h
  | .met f o es, s, p, h, X, hk => by
    simp only [chkE] at h
    split at h
    · rename_i po m apos ps pos
      simp only [Bool.and_eq_true] at h
      obtain ⟨⟨⟨⟨⟨h1, h2⟩, h3⟩, h4⟩, h5⟩, h6⟩ := h
      split at h1
      · rename_i x k hm
        simp only [Bool.and_eq_true, decide_eq_true_eq] at h1
        obtain ⟨rfl, hl⟩ := h1
        exact s_met hk Tx hm hl h2 h3 h4 (sndE Tx F o s _ h5 X hk) (sndEs Tx F es s _ h6 X hk) (chkEs_len h6).1
      · cases h1
    · cases h
  | .slm f a lo hi x, s, p, h, X, hk => by
    simp only [chkE] at h
    split at h
    · rename_i pa plo phi p2 p1 m apos px pos
      simp only [Bool.and_eq_true, Bool.or_eq_true, decide_eq_true_eq] at h
      obtain ⟨⟨⟨⟨⟨⟨⟨h1, h2⟩, h3⟩, h0⟩, h4⟩, h5⟩, h6⟩, h7⟩ := h
      refine SE.plain hk.K rfl fun A b W tk => cong (f := dSlm b f (ev (cxN G n b) a) (evO (cxN G n b) lo) (evO (cxN G n b) hi) (evs (cxN G n b) [x])) ?_ fun env S => by
        simp only [ev, evs, dSlm, to_to] <;> rfl
      have za := (sndE Tx F a s _ h4 X hk A b W tk).1
      have zl := sndO Tx F lo s _ h5 X hk A b W tk
      have zh := sndO Tx F hi s _ h6 X hk A b W tk
      have zx := (sndE Tx F x s _ h7 X hk A b W tk).1
      have hN : PA X [] (tA (G.C A) b W (evs (cxN G n b) [])) := congA (d_nil (C := G.C A)) fun env S => by simp only [evs]
      have hA : PA X [px] (tA (G.C A) b W (evs (cxN G n b) [x])) := congA (d_cons (C := G.C A) h3 zx hN) fun env S => by simp only [evs]
      rcases h1 with ⟨rfl, rfl⟩ | ⟨rfl, rfl⟩
      · exact d_slm (C := G.C A) hk.K PySem.F.slot_tuple_count PySem.F.type_tuple_count (mr_tcount hk.K hk.hu) h0 h2 (by simp [h3]) (by show 1 < 30; decide) za zl zh hA
      · exact d_slm (C := G.C A) hk.K PySem.F.slot_tuple_index PySem.F.type_tuple_index (mr_tindex hk.K hk.hu) h0 h2 (by simp [h3]) (by show 1 < 30; decide) za zl zh hA
    · cases h
  | .lc m own elt gens, s, p, h, X, hk => by
    simp only [chkE] at h
    split at h
    · rename_i pe cs scope pos
      simp only [Bool.and_eq_true, Bool.or_eq_true, decide_eq_true_eq] at h
      obtain ⟨⟨⟨h0, h1⟩, h2⟩, h3⟩ := h
      have he := sndE Tx F elt _ _ h2
      match gens, cs, h0, h3 with
      | [.mk t i ifs], [⟨t0, i0, f0, a0⟩], _, h3 =>
        simp only [chkGs, chkG, Bool.and_eq_true, decide_eq_true_eq] at h3
        obtain ⟨⟨⟨⟨⟨⟨rfl, k0⟩, k1⟩, k2⟩, k3⟩, k5⟩, _⟩ := h3
        exact s_lc1 Tx F hk h1 k0 (sndI Tx F i s _ _ k1 X hk) (sndT Tx F t _ _ k2) (sndIfs Tx F ifs _ _ k3) he k5
      | [.mk t i ifs, .mk t' i' ifs'], [⟨t0, i0, f0, a0⟩, ⟨t1, i1, f1, a1⟩], _, h3 =>
        simp only [chkGs, chkG, Bool.and_eq_true, decide_eq_true_eq] at h3
        obtain ⟨⟨⟨⟨⟨⟨rfl, k0⟩, k1⟩, k2⟩, k3⟩, k5⟩, ⟨⟨⟨⟨⟨⟨rfl, j0⟩, j1⟩, j2⟩, j3⟩, j5⟩, _⟩⟩ := h3
        exact s_lc2 Tx F hk h1 k0 j0 (sndI Tx F i s _ _ k1 X hk) (sndT Tx F t _ _ k2) (sndIfs Tx F ifs _ _ k3) he k5 (sndI Tx F i' _ _ _ j1) (sndT Tx F t' _ _ j2) (sndIfs Tx F ifs' _ _ j3) j5
      | [], cs, h0, h3 => rcases h0 with h0 | h0 <;> cases h0
      | _ :: _, [], _, h3 => simp only [chkGs] at h3; cases h3
      | [_], _ :: _ :: _, _, h3 => simp only [chkGs, Bool.and_eq_true] at h3; cases h3.2
      | _ :: _ :: _, [_], _, h3 => simp only [chkGs, Bool.and_eq_true] at h3; cases h3.2
      | [_, _], _ :: _ :: _ :: _, _, h3 => simp only [chkGs, Bool.and_eq_true] at h3; cases h3.2.2
      | _ :: _ :: _ :: _, _, h0, h3 => simp at h0
    · cases h
  | .sset m own elt gens, s, p, h, X, hk => by
    simp only [chkE] at h
    split at h
    · rename_i x pp pe cs scope pos2 pos
      simp only [Bool.and_eq_true, decide_eq_true_eq] at h
      obtain ⟨⟨⟨⟨⟨⟨rfl, q1⟩, q2⟩, h0⟩, h1⟩, h2⟩, h3⟩ := h
      have he := sndE Tx F elt _ _ h2
      match gens, cs, h0, h3 with
      | [.mk t i ifs, .mk t' i' ifs'], [⟨t0, i0, f0, a0⟩, ⟨t1, i1, f1, a1⟩], _, h3 =>
        simp only [chkGs, chkG, Bool.and_eq_true, decide_eq_true_eq] at h3
        obtain ⟨⟨⟨⟨⟨⟨rfl, k0⟩, k1⟩, k2⟩, k3⟩, k5⟩, ⟨⟨⟨⟨⟨⟨rfl, j0⟩, j1⟩, j2⟩, j3⟩, j5⟩, _⟩⟩ := h3
        exact s_sset Tx F hk q1 q2 h1 k0 j0 (sndI Tx F i s _ _ k1 X hk) (sndT Tx F t _ _ k2) (sndIfs Tx F ifs _ _ k3) he k5 (sndI Tx F i' _ _ _ j1) (sndT Tx F t' _ _ j2) (sndIfs Tx F ifs' _ _ j3) j5
      | [], _, h0, h3 => cases h0
      | [_], _, h0, h3 => simp at h0
      | [_, _], [], _, h3 => simp only [chkGs] at h3; cases h3
      | [_, _], [_], _, h3 => simp only [chkGs, Bool.and_eq_true] at h3; cases h3.2
      | [_, _], _ :: _ :: _ :: _, _, h3 => simp only [chkGs, Bool.and_eq_true] at h3; cases h3.2.2
      | _ :: _ :: _ :: _, _, h0, h3 => simp at h0
    · cases h
  | .nset own elt gens, s, p, h, X, hk => by
    simp only [chkE] at h
    split at h
    · rename_i x pp pe cs scope pos2 pos
      simp only [Bool.and_eq_true, decide_eq_true_eq] at h
      obtain ⟨⟨⟨⟨⟨⟨rfl, q1⟩, q2⟩, h0⟩, h1⟩, h2⟩, h3⟩ := h
      have he := sndE Tx F elt _ _ h2
      match gens, cs, h0, h3 with
      | [.mk t i ifs, .mk t' i' ifs'], [⟨t0, i0, f0, a0⟩, ⟨t1, i1, f1, a1⟩], _, h3 =>
        simp only [chkGs, chkG, Bool.and_eq_true, decide_eq_true_eq] at h3
        obtain ⟨⟨⟨⟨⟨⟨rfl, k0⟩, k1⟩, k2⟩, k3⟩, k5⟩, ⟨⟨⟨⟨⟨⟨rfl, j0⟩, j1⟩, j2⟩, j3⟩, j5⟩, _⟩⟩ := h3
        exact s_nset Tx F hk q1 q2 h1 k0 j0 (sndI Tx F i s _ _ k1 X hk) (sndT Tx F t _ _ k2) (sndIfs Tx F ifs _ _ k3) he k5 (sndI Tx F i' _ _ _ j1) (sndT Tx F t' _ _ j2) (sndIfs Tx F ifs' _ _ j3) j5
      | [], _, h0, h3 => cases h0
      | [_], _, h0, h3 => simp at h0
      | [_, _], [], _, h3 => simp only [chkGs] at h3; cases h3
      | [_, _], [_], _, h3 => simp only [chkGs, Bool.and_eq_true] at h3; cases h3.2
      | [_, _], _ :: _ :: _ :: _, _, h3 => simp only [chkGs, Bool.and_eq_true] at h3; cases h3.2.2
      | _ :: _ :: _ :: _, _, h0, h3 => simp at h0
    · cases h
  | .mk k es, s, p, h, X, hk => by
    simp only [chkE] at h
    split at h
    · rename_i x pp ps pos
      simp only [Bool.and_eq_true, decide_eq_true_eq] at h
      obtain ⟨⟨⟨⟨rfl, h1⟩, h3⟩, h4⟩, h5⟩ := h
      obtain ⟨f, hf⟩ := Option.isSome_iff_exists.mp h1
      obtain ⟨g1, g2, g3⟩ := hk.glo h3
      refine SE.plain hk.K rfl fun A b W tk => cong (f := dMk G n k b (evs (cxN G n b) es)) ?_ fun env S => by simp only [ev, dMk] <;> rfl
      have z := sndEs Tx F es s _ h5 X hk A b W tk
      cases ps with
      | nil =>
        cases es with
        | nil => exact cong (d_mk0 Tx hk F tk hf g1 g2) fun env S => by simp only [dMk, evs]
        | cons e es => simp only [chkEs] at h5; cases h5
      | cons q qs => exact d_mk Tx hk F tk hf g1 g2 h4 z
    · cases h
  | .mth m o es, s, p, h, X, hk => by
    simp only [chkE] at h
    split at h
    · rename_i po x apos ps pos
      simp only [Bool.and_eq_true, decide_eq_true_eq] at h
      obtain ⟨⟨⟨⟨⟨⟨⟨h0, rfl⟩, h1⟩, h2⟩, h3⟩, h4⟩, h5⟩, h6⟩ := h
      obtain ⟨m, rfl⟩ : ∃ m', m = m' + 1 := ⟨m - 1, by omega⟩
      refine SE.plain hk.K rfl fun A b W tk => cong (f := dMth G n (m + 1) b (ev (cxN G n b) o) (evs (cxN G n b) es)) ?_ fun env S => by simp only [ev, dMth] <;> rfl
      have z := sndEs Tx F es s _ h6 X hk A b W tk
      have y := (sndE Tx F o s _ h5 X hk A b W tk).1
      cases ps with
      | nil =>
        cases es with
        | nil => exact cong (d_mth0 Tx hk F tk h1 h2 y) fun env S => by simp only [dMth, evs]
        | cons e es => simp only [chkEs] at h6; cases h6
      | cons q qs => exact d_mth Tx hk F tk h1 h3 h4 h2 y z
    · cases h
  | .att o f, s, p, h, X, hk => by
    simp only [chkE] at h
    split at h
    · simp only [Bool.and_eq_true, decide_eq_true_eq] at h
      obtain ⟨⟨⟨rfl, h1⟩, h2⟩, h3⟩ := h
      exact SE.plain hk.K rfl fun A b W tk => cong (d_att (C := G.C A) hk.K Tx.attI (fun c Cl e => ⟨Tx.cl c Cl e, Tx.na c Cl f e h1⟩) (sndE Tx F o s _ h3 X hk A b W tk).1 h2) fun env S => by simp only [ev]
    · cases h
  | .frz e, s, p, h, X, hk => by
    simp only [chkE, Bool.and_eq_true] at h
    exact SE.plain hk.K h.1 fun A b W tk => cong (d_frz (C := G.C A) (sndE Tx F e s p h.2 X hk A b W tk).1) fun env S => by simp only [ev]
theorem sndEs (Tx : Text G) (F : FnsOk G n) : ∀ (es : List E) (s : Sc) (ps : List Expr), chkEs G.toSG s es ps = true → ForX G n s fun X => SA G n X es ps
  | [], s, ps, h, X, hk => by
    simp only [chkEs, List.isEmpty_iff] at h
    subst h
    exact fun A b W tk => congA (d_nil (C := G.C A)) fun env S => by simp only [evs]
  | e :: es, s, ps, h, X, hk => by
    simp only [chkEs] at h
    split at h
    · simp only [Bool.and_eq_true] at h
      exact fun A b W tk => congA (d_cons (C := G.C A) h.1.1 (sndE Tx F e s _ h.1.2 X hk A b W tk).1 (sndEs Tx F es s _ h.2 X hk A b W tk)) fun env S => by simp only [evs]
    · cases h
theorem sndKw (Tx : Text G) (F : FnsOk G n) : ∀ (es : List E) (s : Sc) (ps : List Keyword), chkKw G.toSG s es ps = true → ForX G n s fun X => SK G n X es ps
  | [], s, ps, h, X, hk => by
    simp only [chkKw, List.isEmpty_iff] at h
    subst h
    exact fun A b W tk => congK d_kNil fun env S => by simp only [evs]
  | e :: es, s, ps, h, X, hk => by
    simp only [chkKw] at h
    split at h
    · simp only [Bool.and_eq_true] at h
      exact fun A b W tk => congK (d_kCons (sndE Tx F e s _ h.1 X hk A b W tk).1 (sndKw Tx F es s _ h.2 X hk A b W tk)) fun env S => by simp only [evs]
    · cases h
theorem sndKV (Tx : Text G) (F : FnsOk G n) : ∀ (es : List E) (s : Sc) (ks : List (Option Expr)) (vs : List Expr), chkKV G.toSG s es ks vs = true → ForX G n s fun X => SKV G n X es ks vs
  | [], s, ks, vs, h, X, hk => by
    simp only [chkKV, Bool.and_eq_true, List.isEmpty_iff] at h
    obtain ⟨rfl, rfl⟩ := h
    exact fun b pos => ⟨[], pps_nil, fun env S => by simp only [dPairs, evs], rfl, rfl, fun _ => rfl⟩
  | [_], s, ks, vs, h, X, hk => by simp only [chkKV] at h; cases h
  | x :: y :: es, s, ks, vs, h, X, hk => by
    simp only [chkKV] at h
    split at h
    · simp only [Bool.and_eq_true] at h
      intro b pos
      obtain ⟨fs, h1, h2, h3, h4, h5⟩ := sndKV Tx F es s _ _ h.2 X hk b pos
      refine ⟨(ev (cxN G n b) x, ev (cxN G n b) y) :: fs, pps_cons (PE_any fun B => (sndE Tx F x s _ h.1.1 X hk B b W0 takes0).1) (PE_any fun B => (sndE Tx F y s _ h.1.2 X hk B b W0 takes0).1) h1, fun env S => ?_, by simp [h3], by simp [h4], fun z => by cases z⟩
      simp only [dPairs, evs, h2]
    · cases h
theorem sndO (Tx : Text G) (F : FnsOk G n) : ∀ (e : Option E) (s : Sc) (p : Option Expr), chkO G.toSG s e p = true → ForX G n s fun X => SO G n X e p
  | none, s, p, h, X, hk => by
    simp only [chkO, Option.isNone_iff_eq_none] at h
    subst h
    exact fun A b W tk => congO (d_oN (C := G.C A)) fun env S => by simp only [evO]
  | some e, s, p, h, X, hk => by
    simp only [chkO] at h
    split at h
    · exact fun A b W tk => congO (d_oS (C := G.C A) (sndE Tx F e s _ h X hk A b W tk).1) fun env S => by simp only [evO] <;> rfl
    · cases h
theorem sndI (Tx : Text G) (F : FnsOk G n) : ∀ (i : I) (s : Sc) (tg p : Expr), chkI G.toSG s i tg p = true → ForX G n s fun X => SI G n X i tg p
  | .e e, s, tg, p, h, X, hk => by
    simp only [chkI] at h
    exact fun A b W tk => congI (pi_seq (C := G.C A) hk.K (sndE Tx F e s _ h X hk A b W tk).1) fun env S => by simp only [evI] <;> rfl
  | .range es, s, tg, p, h, X, hk => by
    simp only [chkI] at h
    split at h
    · rename_i y pp ps pos
      simp only [Bool.and_eq_true, Bool.or_eq_true, decide_eq_true_eq] at h
      obtain ⟨⟨⟨⟨⟨rfl, h1⟩, h2⟩, h3⟩, h4⟩, h5⟩ := h
      have z := sndEs Tx F es s _ h4 X hk
      have l1 := (chkEs_len h4).1
      obtain ⟨g1, g2, g3⟩ := hk.glo h1
      intro A b W tk
      refine congI (f := fun env S => (evs (cxN G n b) es env S).to dRange) ?_ fun env S => by simp only [evI, dRange] <;> rfl
      match ps, h3, h5, z, l1 with
      | [q], h3, _, z, l1 =>
        simp only [List.all_cons, Bool.and_eq_true] at h3
        exact pi_rng1 (C := G.C A) g1 (hk.nid Tx h2) h3.1 (z A b W tk) fun env S ds S' e => by rw [evs_len e, l1]; rfl
      | [q, q'], h3, _, z, l1 =>
        simp only [List.all_cons, Bool.and_eq_true] at h3
        exact pi_rng2 (C := G.C A) g1 (hk.nid Tx h2) h3.1 h3.2.1 (z A b W tk) fun env S ds S' e => by rw [evs_len e, l1]; rfl
      | [], _, h5, _, _ => rcases h5 with h5 | h5 <;> cases h5
      | _ :: _ :: _ :: _, _, h5, _, _ => simp at h5
    · cases h
  | .enum e, s, tg, p, h, X, hk => by
    simp only [chkI] at h
    split at h
    · rename_i y pp pa pos
      simp only [Bool.and_eq_true, decide_eq_true_eq] at h
      obtain ⟨⟨⟨⟨rfl, h1⟩, h2⟩, h3⟩, h4⟩ := h
      obtain ⟨g1, g2, g3⟩ := hk.glo h1
      exact fun A b W tk => congI (pi_en (C := G.C A) hk.K g1 (hk.nid Tx h2) h3 (sndE Tx F e s _ h4 X hk A b W tk).1) fun env S => by simp only [evI] <;> rfl
    · cases h
  | .keys e, s, tg, p, h, X, hk => by
    simp only [chkI] at h
    exact fun A b W tk => congI (pi_keysD (C := G.C A) (sndE Tx F e s _ h X hk A b W tk).1) fun env S => by simp only [evI] <;> rfl
  | .items e, s, tg, p, h, X, hk => by simp only [chkI] at h; cases h
  | .values e, s, tg, p, h, X, hk => by simp only [chkI] at h; cases h
theorem sndT (Tx : Text G) (F : FnsOk G n) : ∀ (t : T) (s : Sc) (p : Expr), chkT G.toSG s t p = true → ForX G n s fun X => ST G n X t p
  | .var i, s, p, h, X, hk => by
    simp only [chkT] at h
    split at h
    · simp only [Bool.and_eq_true, decide_eq_true_eq] at h
      obtain ⟨v1, v2⟩ := hk.loc h.2
      intro A b
      simp only [T.slots]
      exact congG (d_gName (C := G.C A) (pg_name hk.nd (by rw [hk.N]; exact h.1) v1 v2)) fun d env S => by simp only [evT]
    · cases h
  | .tup ts, s, p, h, X, hk => by
    simp only [chkT] at h
    split at h
    · simp only [Bool.and_eq_true] at h
      intro A b
      simp only [T.slots]
      exact congG (d_gTup (C := G.C A) hk.K hk.calm h.1 (sndTs Tx F ts s _ h.2 X hk A b) fun l env S e S' he => by rw [evTs_len he, (chkTs_len h.2).1]) fun d env S => by simp only [evT] <;> rfl
    · cases h
  | .sub a i, s, p, h, X, hk => by
    simp only [chkT] at h
    split at h
    · simp only [Bool.and_eq_true] at h
      intro A b
      simp only [T.slots]
      exact congG (d_gSub (C := G.C A) hk.K (by have := hk.hu; omega) h.1.1 (sndE Tx F a s _ h.1.2 X hk A b W0 takes0).1 (sndE Tx F i s _ h.2 X hk A b W0 takes0).1) fun d env S => by simp only [evT] <;> rfl
    · cases h
  | .att _ _, s, p, h, X, hk => by simp only [chkT] at h; cases h
theorem sndTs (Tx : Text G) (F : FnsOk G n) : ∀ (ts : List T) (s : Sc) (ps : List Expr), chkTs G.toSG s ts ps = true → ForX G n s fun X => STs G n X ts ps
  | [], s, ps, h, X, hk => by
    simp only [chkTs, List.isEmpty_iff] at h
    subst h
    intro A b
    simp only [T.slotsL]
    exact congGs (d_gNil (C := G.C A)) fun d env S => by cases d <;> simp only [evTs]
  | t :: ts, s, ps, h, X, hk => by
    simp only [chkTs] at h
    split at h
    · simp only [Bool.and_eq_true] at h
      intro A b
      simp only [T.slotsL]
      exact congGs (d_gCons (C := G.C A) h.1.1 (sndT Tx F t s _ h.1.2 X hk A b) (sndTs Tx F ts s _ h.2 X hk A b)) fun d env S => by cases d <;> simp only [evTs]
    · cases h
theorem sndIfs (Tx : Text G) (F : FnsOk G n) : ∀ (es : List E) (s : Sc) (ps : List Expr), chkIfs G.toSG s es ps = true → ForX G n s fun X => SIfs G n X es ps
  | [], s, ps, h, X, hk => by
    simp only [chkIfs, List.isEmpty_iff] at h
    subst h
    intro A b W tk
    rw [show evIfs (cxN G n b) [] = fun env S => .ok true S from funext fun env => funext fun S => by simp only [evIfs]]
    exact d_ifsN (C := G.C A)
  | [e], s, ps, h, X, hk => by
    simp only [chkIfs] at h
    split at h
    · intro A b W tk
      rw [show evIfs (cxN G n b) [e] = fun env S => (toB (ev (cxN G n b) e env S)).to fun k S1 => if k = true then .ok true S1 else .ok false S1 from funext fun env => funext fun S => by simp only [evIfs]]
      exact d_ifs1 (C := G.C A) (sndE Tx F e s _ h X hk A b W tk).2
    · cases h
  | _ :: _ :: _, s, ps, h, X, hk => by simp only [chkIfs] at h; cases h
theorem sndAnd (Tx : Text G) (F : FnsOk G n) : ∀ (es : List E) (s : Sc) (ps : List Expr), chkEs G.toSG s es ps = true → es ≠ [] → ForX G n s fun X => ∀ A b W, Takes X W → ∀ pos,
    PE X (.BoolOp .And ps pos) (tE (G.C A) b W (evAnd (cxN G n b) es)) ∧ PW X (.BoolOp .And ps pos) (tT (G.C A) b W fun env S => toB (evAnd (cxN G n b) es env S))
  | [], s, ps, h, hn, X, hk => absurd rfl hn
  | [e], s, ps, h, hn, X, hk => by
    intro A b W tk pos
    match ps, h with
    | [], h => simp only [chkEs] at h; cases h
    | [p], h =>
      simp only [chkEs, Bool.and_eq_true] at h
      exact s_and1 (sndE Tx F e s _ h.1.2 X hk) A b W tk
    | _ :: _ :: _, h => simp only [chkEs, Bool.and_eq_true] at h; cases h.2
  | e :: e' :: es, s, ps, h, hn, X, hk => by
    intro A b W tk pos
    match ps, h with
    | [], h => simp only [chkEs] at h; cases h
    | [p], h => simp only [chkEs, Bool.and_eq_true] at h; cases h.2
    | p :: q :: ps, h =>
      have h' : (notStar p && chkE G.toSG s e p && chkEs G.toSG s (e' :: es) (q :: ps)) = true := by simpa only [chkEs] using h
      simp only [Bool.and_eq_true] at h'
      have z := sndE Tx F e s _ h'.1.2 X hk A b W tk
      have y := sndAnd Tx F (e' :: es) s _ h'.2 (by intro z; cases z) X hk A b W tk pos
      exact ⟨cong (d_and (C := G.C A) hk.K z.1 y.1) fun env S => by simp only [evAnd, dAnd] <;> rfl, congW (d_andW (C := G.C A) z.2 y.2) fun env S => by simp only [evAnd, dAnd] <;> rfl⟩
theorem sndOr (Tx : Text G) (F : FnsOk G n) : ∀ (es : List E) (s : Sc) (ps : List Expr), chkEs G.toSG s es ps = true → es ≠ [] → ForX G n s fun X => ∀ A b W, Takes X W → ∀ pos,
    PE X (.BoolOp .Or ps pos) (tE (G.C A) b W (evOr (cxN G n b) es)) ∧ PW X (.BoolOp .Or ps pos) (tT (G.C A) b W fun env S => toB (evOr (cxN G n b) es env S))
  | [], s, ps, h, hn, X, hk => absurd rfl hn
  | [e], s, ps, h, hn, X, hk => by
    intro A b W tk pos
    match ps, h with
    | [], h => simp only [chkEs] at h; cases h
    | [p], h =>
      simp only [chkEs, Bool.and_eq_true] at h
      exact s_or1 (sndE Tx F e s _ h.1.2 X hk) A b W tk
    | _ :: _ :: _, h => simp only [chkEs, Bool.and_eq_true] at h; cases h.2
  | e :: e' :: es, s, ps, h, hn, X, hk => by
    intro A b W tk pos
    match ps, h with
    | [], h => simp only [chkEs] at h; cases h
    | [p], h => simp only [chkEs, Bool.and_eq_true] at h; cases h.2
    | p :: q :: ps, h =>
      have h' : (notStar p && chkE G.toSG s e p && chkEs G.toSG s (e' :: es) (q :: ps)) = true := by simpa only [chkEs] using h
      simp only [Bool.and_eq_true] at h'
      have z := sndE Tx F e s _ h'.1.2 X hk A b W tk
      have y := sndOr Tx F (e' :: es) s _ h'.2 (by intro z; cases z) X hk A b W tk pos
      exact ⟨cong (d_or (C := G.C A) hk.K z.1 y.1) fun env S => by simp only [evOr, dOr] <;> rfl, congW (d_orW (C := G.C A) z.2 y.2) fun env S => by simp only [evOr, dOr] <;> rfl⟩
end
end
end Mi

namespace Mi
open PySem L2 PySem.Spec PyProof.Rows

/-! ## Part 20: statements, all of them -/
def compScope : Expr → Option Scope
  | .ListComp _ _ s _ => some s
  | .SetComp _ _ s _ => some s
  | .DictComp _ _ _ s _ => some s
  | _ => none
/-- does the store stand within the comprehension -/
def swB (sc : Scope) (p tg : Expr) : Bool := match compScope p with
  | none => false
  | some s => match tg with
    | .Name t pos => (sc.names.lookup t == some .local) && (pos.line == p.pos.line) && !(s.names.any fun (n, k) => n == t && (k == .local || k == .cell))
    | _ => false
theorem swaps_B {env : PySem.Env} (hk : env.scope.kind = .function) (p tg : Expr) (l : Nat) : swapsWith p (some tg) l env = pure (swB env.scope p tg) := by
  have hb : env.blockKind = .function := by unfold Env.blockKind; rw [hk]; rfl
  cases p <;> first
    | rfl
    | (cases tg <;> first
        | rfl
        | (unfold swapsWith swB
           simp only [hb, compScope] <;> rfl))
/-- which tuples are stored from the right: none: not said -/
def spRes (sc : Scope) (ts vs : List Expr) : Option (Option (List Str)) :=
  if (!(ts.length == 2 || ts.length == 3) || vs.length != ts.length) = true then some none
  else if (vs.any fun | .Starred .. => true | _ => false) = true then some none
  else
    let line := (ts.head?.map (·.pos.line)).getD 0
    let names := ts.filterMap fun
      | .Name id pos => if (sc.names.lookup id == some .local && pos.line == line) = true then some id else none
      | _ => none
    if (names.length != ts.length || names.eraseDups.length != names.length) = true then some none
    else if vs.all (foldedForSure 8) = true then some none
    else if vs.all (constantsAlone 8) = true then none
    else some (some names)
theorem stores_B {env : PySem.Env} (hk : env.scope.kind = .function) {ts vs : List Expr} {k k2 : Nat} {p p2 : Pos} {r : Option (List Str)} (h : spRes env.scope ts vs = some r) : swappedStores [.Tuple ts k p] (.Tuple vs k2 p2) env = pure r := by
  have hb : env.blockKind = .function := by unfold Env.blockKind; rw [hk]; rfl
  unfold swappedStores
  unfold spRes at h
  simp only [hb, bne_self_eq_false, Bool.or_false] at h ⊢
  by_cases c1 : (!(ts.length == 2 || ts.length == 3) || vs.length != ts.length) = true
  · rw [if_pos c1] at h
    cases h
    simp only [c1, if_true]
  · rw [if_neg c1] at h
    have hko : ∀ id, env.kindOf id = List.lookup id env.scope.names := fun _ => rfl
    simp only [c1, if_false, hko]
    refine (if_neg (by decide)).trans ?_
    split at h
    · rename_i c2
      cases h
      exact if_pos c2
    · rename_i c2
      refine (if_neg c2).trans ?_
      split at h
      · rename_i c3
        cases h
        exact if_pos c3
      · rename_i c3
        refine (if_neg c3).trans ?_
        split at h
        · rename_i c4
          cases h
          exact if_pos c4
        · rename_i c4
          refine (if_neg c4).trans ?_
          split at h
          · cases h
          · rename_i c5
            cases h
            exact if_neg c5
/-- no store from the right -/
def noPar (sc : Scope) (tg p : Expr) : Bool := match p with
  | .Tuple vs _ _ => match tg with
    | .Tuple ts _ _ => spRes sc ts vs == some none
    | .List _ _ => false
    | _ => true
  | _ => true
theorem noPar_ok {env : PySem.Env} (hk : env.scope.kind = .function) {tg p : Expr} (h : noPar env.scope tg p = true) : swappedStores [tg] p env = pure none := by
  cases p <;> first
    | (cases tg <;> first
        | rfl
        | cases h
        | exact stores_B hk (eq_of_beq h))
    | (cases tg <;> rfl)
def isTup (p : Expr) : Bool := match p with | .Tuple _ _ _ => true | _ => false
def _root_.Mi.St.ghost : Mi.St → Bool
  | .frz _ => true
  | _ => false
mutual
def chkS (G : SG) (s : Sc) : Mi.St → Stmt → Bool
  | .asg t e, q => match q with
    | .Assign [tg] p pos => match t with
      | .att o f => match tg with
        | .Attribute po x _ => decide (x = G.att f) && decide (f < G.nAtt) && chkE G s o po && chkE G s e p && !swB s.sc p tg
        | _ => false
      | t => notStar tg && noPar s.sc tg p && chkT G s t tg && chkE G s e p && !swB s.sc p tg
    | _ => false
  | .asgc i m own elt gens, q => match q with
    | .Assign [.Name x px] (.ListComp pe cs scope pos) spos => decide (s.N[i]? = some x) && (s.sc.names.lookup x == some .local) && swB s.sc (.ListComp pe cs scope pos) (.Name x px) && (decide (gens.length = 1) || decide (gens.length = 2)) && blkC s.N s.sc scope (ownP s own) && chkE G (relSc scope s) elt pe && chkGs G s (relSc scope s) own gens cs
    | _ => false
  | .par is es, q => match q with
    | .Assign [.Tuple ts _ _] (.Tuple ps _ _) _ => chkEs G s es ps && (match is, ts with
      | [i, j], [.Name x _, .Name y _] => decide (s.N[i]? = some x) && decide (s.N[j]? = some y) && decide (i ≠ j) && (s.sc.names.lookup x == some .local) && (s.sc.names.lookup y == some .local) && decide (spRes s.sc ts ps = some (some [x, y]))
      | [i, j, k], [.Name x _, .Name y _, .Name z _] => decide (s.N[i]? = some x) && decide (s.N[j]? = some y) && decide (s.N[k]? = some z) && decide (i ≠ j) && decide (i ≠ k) && decide (j ≠ k) && (s.sc.names.lookup x == some .local) && (s.sc.names.lookup y == some .local) && (s.sc.names.lookup z == some .local) && decide (spRes s.sc ts ps = some (some [x, y, z]))
      | _, _ => false)
    | _ => false
  | .aug op i e, q => match q with
    | .AugAssign (.Name x _) o p _ => decide (s.N[i]? = some x) && locB s x && opB op o && (match op with | .add => true | .sub => true | _ => false) && chkE G s e p
    | _ => false
  | .expr e, q => match q with
    | .Expr p _ => !isComp p && chkE G s e p
    | _ => false
  | .iff t a b, q => match q with
    | .If pt pa pb _ => chkE G s t pt && chkSs G s a pa && chkSs G s b pb
    | _ => false
  | .fr t i b, q => match q with
    | .For tg it pb [] _ => noSetDisp it && chkT G s t tg && chkI G s i tg it && chkSs G s b pb
    | _ => false
  | .whl c b, q => match q with
    | .While pc pb [] _ => chkE G s c pc && chkSs G s b pb
    | _ => false
  | .ret e, q => match q with
    | .Return p _ => chkO G s e p
    | _ => false
  | .brk, q => match q with | .Break _ => true | _ => false
  | .cnt, q => match q with | .Continue _ => true | _ => false
  | .pass, q => match q with
    | .Pass _ => true
    | .Expr (.Constant (.str _) _ _) _ => true
    | _ => false
  | .frz _, _ => false
def chkSs (G : SG) (s : Sc) : List Mi.St → List Stmt → Bool
  | [], qs => qs.isEmpty
  | a :: as, qs => bif a.ghost then chkSs G s as qs else match qs with
    | q :: qs => chkS G s a q && chkSs G s as qs
    | [] => false
end
end Mi

namespace Mi
open PySem L2 PySem.Spec PyProof.Rows

/-! ## Part 21: the checker's word on statements -/
/-- with what a loop asks -/
def Own (X : Cx) : Prop := PassesOwn (model X.prog X.w) X.A X.env X.xe
def SS (G : GC) (n : Nat) (X : Cx) (q : Mi.St) (p : Stmt) : Prop := Own X → ∀ A b W, Takes X W → PS X p (tS (G.C A) b W (ex (cxN G n b) q))
def SSs (G : GC) (n : Nat) (X : Cx) (q : List Mi.St) (p : List Stmt) : Prop := Own X → ∀ A b W, Takes X W → PSs X p (tS (G.C A) b W (exs (cxN G n b) q))
theorem congS {X : Cx} {p : Stmt} {C : Cxt} {b : Nat} {W : WX} {f g : Env → Sto → SR} (h : PS X p (tS C b W f)) (e : ∀ env S, g env S = f env S) : PS X p (tS C b W g) := by
  have : g = f := funext fun env => funext fun S => e env S
  rw [this]; exact h
theorem congSs {X : Cx} {p : List Stmt} {C : Cxt} {b : Nat} {W : WX} {f g : Env → Sto → SR} (h : PSs X p (tS C b W f)) (e : ∀ env S, g env S = f env S) : PSs X p (tS C b W g) := by
  have : g = f := funext fun env => funext fun S => e env S
  rw [this]; exact h
theorem swaps_none' {p : Expr} {n : Nat} {env : PySem.Env} (h : isComp p = false) : swapsWith p none n env = pure false := swaps_none h
section
variable {G : GC} {n : Nat}
theorem XOk.fk {X : Cx} {s : Sc} (hk : XOk G n X s) : X.env.scope.kind = .function := by rw [hk.scp]; exact hk.kind
theorem s_sw {X : Cx} {s : Sc} (hk : XOk G n X s) {p tg : Expr} {l : Nat} {v : Bool} (h : swB s.sc p tg = v) : swapsWith p (some tg) l X.env = pure v := by
  rw [swaps_B hk.fk, hk.scp, h]
theorem s_asgc1 (Tx : Text G) (F : FnsOk G n) {s : Sc} {X : Cx} (hk : XOk G n X s) {j : Nat} {x : Str} {px spos : Pos} {m : Bool} {own : List Nat} {elt : E} {t : T} {i : I} {ifs : List E} {pe t0 i0 : Expr} {f0 : List Expr} {scope : Scope} {pos : Pos} (hj : s.N[j]? = some x) (hx : s.sc.names.lookup x = some .local)
    (hsw : swB s.sc (.ListComp pe [⟨t0, i0, f0, 0⟩] scope pos) (.Name x px) = true) (hb : blkC s.N s.sc scope (ownP s own) = true) (hns : noSetDisp i0 = true)
    (hi : SI G n X i t0 i0) (ht : ForX G n (relSc scope s) fun X => ST G n X t t0) (hf : ForX G n (relSc scope s) fun X => SIfs G n X ifs f0) (he : ForX G n (relSc scope s) fun X => SE G n X elt pe) (ho : t.slots.all (own.contains ·) = true) :
    SS G n X (.asgc j m own elt [.mk t i ifs]) (.Assign [.Name x px] (.ListComp pe [⟨t0, i0, f0, 0⟩] scope pos) spos) := by
  intro _ A b W tk
  have hkind := blkC_kind hb
  have hok : BlkOk X.N X.env.scope scope (ownP s own) := by rw [hk.N, hk.scp]; exact blkOk_by hb
  have key := ps_setLc (pos := pos) (spos := spos) (i := j) hk.calm hk.nd (by rw [hk.N]; exact hj) (by rw [hk.scp]; exact hx) (s_sw hk hsw) (hi A b W tk) hok (g := tGa (G.C A) b t.slots (evT (cxN G n b) t)) (tt := tTa (G.C A) b (evIfs (cxN G n b) ifs)) (te := tEa (G.C A) b (ev (cxN G n b) elt))
    (fun sh H Ca cl fp => PG_any fun B => ht _ (hk.blk sh H scope hkind Ca cl fp) B b)
    (fun sh H Ca cl fp => PTs_any fun B => hf _ (hk.blk sh H scope hkind Ca cl fp) B b W0 takes0)
    (fun sh H Ca cl fp => PE_any fun B => (he _ (hk.blk sh H scope hkind Ca cl fp) B b W0 takes0).1) (noSet_fold hns X.env)
  rw [own_map] at key
  refine congS (d_asgN (C := G.C A) (b := b) (W := W) (fa := fun env S => dNew m (dWalk (evI (cxN G n b) i) (dTurn (evT (cxN G n b) t) (evIfs (cxN G n b) ifs) (dElt (ev (cxN G n b) elt))) t.slots (wipeE env own) [] S)) key fun σ H Q w => d_lc (C := G.C A) (fun j hj => by simpa using List.all_eq_true.mp ho j hj) w) fun env S => ?_
  simp only [ex, ev, evG] <;> rfl
theorem s_asgc2 (Tx : Text G) (F : FnsOk G n) {s : Sc} {X : Cx} (hk : XOk G n X s) {j : Nat} {x : Str} {px spos : Pos} {m : Bool} {own : List Nat} {elt : E} {t t' : T} {i i' : I} {ifs ifs' : List E} {pe t0 i0 t1 i1 : Expr} {f0 f1 : List Expr} {scope : Scope} {pos : Pos} (hj : s.N[j]? = some x) (hx : s.sc.names.lookup x = some .local)
    (hsw : swB s.sc (.ListComp pe [⟨t0, i0, f0, 0⟩, ⟨t1, i1, f1, 0⟩] scope pos) (.Name x px) = true) (hb : blkC s.N s.sc scope (ownP s own) = true) (hns : noSetDisp i0 = true) (hns1 : noSetDisp i1 = true)
    (hi : SI G n X i t0 i0) (ht : ForX G n (relSc scope s) fun X => ST G n X t t0) (hf : ForX G n (relSc scope s) fun X => SIfs G n X ifs f0) (he : ForX G n (relSc scope s) fun X => SE G n X elt pe) (ho : t.slots.all (own.contains ·) = true)
    (hi1 : ForX G n (relSc scope s) fun X => SI G n X i' t1 i1) (ht1 : ForX G n (relSc scope s) fun X => ST G n X t' t1) (hf1 : ForX G n (relSc scope s) fun X => SIfs G n X ifs' f1) (ho1 : t'.slots.all (own.contains ·) = true) :
    SS G n X (.asgc j m own elt [.mk t i ifs, .mk t' i' ifs']) (.Assign [.Name x px] (.ListComp pe [⟨t0, i0, f0, 0⟩, ⟨t1, i1, f1, 0⟩] scope pos) spos) := by
  intro _ A b W tk
  have hkind := blkC_kind hb
  have hok : BlkOk X.N X.env.scope scope (ownP s own) := by rw [hk.N, hk.scp]; exact blkOk_by hb
  have key := ps_setLc2 (pos := pos) (spos := spos) (i := j) (vs1 := t'.slots) hk.calm hk.nd (by rw [hk.N]; exact hj) (by rw [hk.scp]; exact hx) (s_sw hk hsw) (hi A b W tk) hok (fun j hj => by rw [own_map]; simpa using List.all_eq_true.mp ho1 j hj) (g := tGa (G.C A) b t.slots (evT (cxN G n b) t)) (tt := tTa (G.C A) b (evIfs (cxN G n b) ifs)) (te := tEa (G.C A) b (ev (cxN G n b) elt))
    (wi1 := tIa (G.C A) b (evI (cxN G n b) i')) (g1 := tGa (G.C A) b t'.slots (evT (cxN G n b) t')) (tt1 := tTa (G.C A) b (evIfs (cxN G n b) ifs'))
    (fun sh H Ca cl fp => PG_any fun B => ht _ (hk.blk sh H scope hkind Ca cl fp) B b)
    (fun sh H Ca cl fp => PTs_any fun B => hf _ (hk.blk sh H scope hkind Ca cl fp) B b W0 takes0)
    (fun sh H Ca cl fp => PI_any fun B => hi1 _ (hk.blk sh H scope hkind Ca cl fp) B b W0 takes0)
    (fun sh H Ca cl fp => PG_any fun B => ht1 _ (hk.blk sh H scope hkind Ca cl fp) B b)
    (fun sh H Ca cl fp => PTs_any fun B => hf1 _ (hk.blk sh H scope hkind Ca cl fp) B b W0 takes0)
    (fun sh H Ca cl fp => PE_any fun B => (he _ (hk.blk sh H scope hkind Ca cl fp) B b W0 takes0).1) (noSet_fold hns X.env) (noSet_fold hns1)
  rw [own_map] at key
  refine congS (d_asgN (C := G.C A) (b := b) (W := W) (fa := fun env S => dNew m (dWalk (evI (cxN G n b) i) (dTurn (evT (cxN G n b) t) (evIfs (cxN G n b) ifs) (dWalk (evI (cxN G n b) i') (dTurn (evT (cxN G n b) t') (evIfs (cxN G n b) ifs') (dElt (ev (cxN G n b) elt))) t'.slots)) t.slots (wipeE env own) [] S)) key fun σ H Q w => d_lc2 (C := G.C A) (fun j hj => by simpa using List.all_eq_true.mp ho j hj) w) fun env S => ?_
  simp only [ex, ev, evG] <;> rfl
theorem ty_local {o : Option NameKind} (h : (o == some .local) = true) : o = some .local := eq_of_beq h
mutual
theorem sndS (Tx : Text G) (F : FnsOk G n) : ∀ (q : Mi.St) (s : Sc) (p : Stmt), chkS G.toSG s q p = true → ForX G n s fun X => SS G n X q p
  | .asg t e, s, p, h, X, hk => by
    simp only [chkS] at h
    split at h
    · rename_i tg p pos
      split at h
      · rename_i o f
        split at h
        · rename_i po x ap
          simp only [Bool.and_eq_true, decide_eq_true_eq, Bool.not_eq_true'] at h
          obtain ⟨⟨⟨⟨rfl, h1⟩, h2⟩, h3⟩, h4⟩ := h
          exact fun _ A b W tk => congS (d_asgAtt (C := G.C A) hk.K Tx.attI (fun c Cl e => ⟨Tx.cl c Cl e, Tx.na c Cl f e h1⟩) (sndE Tx F e s _ h3 X hk A b W tk).1 (sndE Tx F o s _ h2 X hk A b W0 takes0).1 (s_sw hk h4)) fun env S => by simp only [ex, evT] <;> rfl
        · cases h
      · simp only [Bool.and_eq_true, Bool.not_eq_true'] at h
        obtain ⟨⟨⟨⟨h1, h2⟩, h3⟩, h4⟩, h5⟩ := h
        exact fun _ A b W tk => congS (d_asg (C := G.C A) (sndE Tx F e s _ h4 X hk A b W tk).1 (sndT Tx F t s _ h3 X hk A b) (s_sw hk h5) (noPar_ok hk.fk (by rw [hk.scp]; exact h2)) h1) fun env S => by simp only [ex]
    · cases h
  | .asgc j m own elt gens, s, p, h, X, hk => by
    simp only [chkS] at h
    split at h
    · rename_i x px pe cs scope pos spos
      simp only [Bool.and_eq_true, Bool.or_eq_true, decide_eq_true_eq] at h
      obtain ⟨⟨⟨⟨⟨⟨n1, n2⟩, n3⟩, h0⟩, h1⟩, h2⟩, h3⟩ := h
      have n2 := ty_local n2
      have he := sndE Tx F elt _ _ h2
      match gens, cs, h0, h3, n3 with
      | [.mk t i ifs], [⟨t0, i0, f0, a0⟩], _, h3, n3 =>
        simp only [chkGs, chkG, Bool.and_eq_true, decide_eq_true_eq] at h3
        obtain ⟨⟨⟨⟨⟨⟨rfl, k0⟩, k1⟩, k2⟩, k3⟩, k5⟩, _⟩ := h3
        exact s_asgc1 Tx F hk n1 n2 n3 h1 k0 (sndI Tx F i s _ _ k1 X hk) (sndT Tx F t _ _ k2) (sndIfs Tx F ifs _ _ k3) he k5
      | [.mk t i ifs, .mk t' i' ifs'], [⟨t0, i0, f0, a0⟩, ⟨t1, i1, f1, a1⟩], _, h3, n3 =>
        simp only [chkGs, chkG, Bool.and_eq_true, decide_eq_true_eq] at h3
        obtain ⟨⟨⟨⟨⟨⟨rfl, k0⟩, k1⟩, k2⟩, k3⟩, k5⟩, ⟨⟨⟨⟨⟨⟨rfl, j0⟩, j1⟩, j2⟩, j3⟩, j5⟩, _⟩⟩ := h3
        exact s_asgc2 Tx F hk n1 n2 n3 h1 k0 j0 (sndI Tx F i s _ _ k1 X hk) (sndT Tx F t _ _ k2) (sndIfs Tx F ifs _ _ k3) he k5 (sndI Tx F i' _ _ _ j1) (sndT Tx F t' _ _ j2) (sndIfs Tx F ifs' _ _ j3) j5
      | [], cs, h0, h3, _ => rcases h0 with h0 | h0 <;> cases h0
      | _ :: _, [], _, h3, _ => simp only [chkGs] at h3; cases h3
      | [_], _ :: _ :: _, _, h3, _ => simp only [chkGs, Bool.and_eq_true] at h3; cases h3.2
      | _ :: _ :: _, [_], _, h3, _ => simp only [chkGs, Bool.and_eq_true] at h3; cases h3.2
      | [_, _], _ :: _ :: _ :: _, _, h3, _ => simp only [chkGs, Bool.and_eq_true] at h3; cases h3.2.2
      | _ :: _ :: _ :: _, _, h0, h3, _ => simp at h0
    · cases h
  | .par is es, s, p, h, X, hk => by
    simp only [chkS] at h
    split at h
    · rename_i ts k1 p1 ps k2 p2 pos
      simp only [Bool.and_eq_true] at h
      obtain ⟨h1, h2⟩ := h
      intro _ A b W tk
      refine congS (f := dPar is (evs (cxN G n b) es)) ?_ fun env S => by simp only [ex, dPar] <;> rfl
      have z := sndEs Tx F es s _ h1 X hk A b W tk
      split at h2
      · rename_i i j x px y py
        simp only [Bool.and_eq_true, decide_eq_true_eq] at h2
        obtain ⟨⟨⟨⟨⟨m1, m2⟩, m3⟩, m4⟩, m5⟩, m6⟩ := h2
        have hl : ps.length = 2 := by
          unfold spRes at m6
          split at m6
          · cases m6
          · rename_i c; simp at c; exact c
        match ps, hl, z, m6 with
        | [a, c], _, z, m6 =>
          exact d_par (C := G.C A) (ps_par hk.calm hk.nd (by rw [hk.N]; exact m1) (by rw [hk.N]; exact m2) m3 (by rw [hk.scp]; exact ty_local m4) (by rw [hk.scp]; exact ty_local m5) z (stores_B hk.fk (by rw [hk.scp]; exact m6)) rfl) fun σ H Q w => w
      · rename_i i j k x px y py w pw
        simp only [Bool.and_eq_true, decide_eq_true_eq] at h2
        obtain ⟨⟨⟨⟨⟨⟨⟨⟨⟨m1, m2⟩, m3⟩, m4⟩, m5⟩, m6⟩, m7⟩, m8⟩, m9⟩, m10⟩ := h2
        have hl : ps.length = 3 := by
          unfold spRes at m10
          split at m10
          · cases m10
          · rename_i c; simp at c; exact c
        match ps, hl, z, m10 with
        | [a, c, d], _, z, m10 =>
          exact d_par3 (C := G.C A) (ps_par3 hk.calm hk.nd (by rw [hk.N]; exact m1) (by rw [hk.N]; exact m2) (by rw [hk.N]; exact m3) m4 m5 m6 (by rw [hk.scp]; exact ty_local m7) (by rw [hk.scp]; exact ty_local m8) (by rw [hk.scp]; exact ty_local m9) z (stores_B hk.fk (by rw [hk.scp]; exact m10)) rfl) fun σ H Q w => w
      · cases h2
    · cases h
  | .aug op i e, s, p, h, X, hk => by
    simp only [chkS] at h
    split at h
    · simp only [Bool.and_eq_true, decide_eq_true_eq] at h
      obtain ⟨⟨⟨⟨h1, h2⟩, h3⟩, h4⟩, h5⟩ := h
      obtain ⟨v1, v2⟩ := hk.loc h2
      cases opB_eq h3
      intro _ A b W tk
      have z := (sndE Tx F e s _ h5 X hk A b W tk).1
      split at h4
      · exact congS (d_aug (C := G.C A) (op := .add) (ps_aug hk.nd (by rw [hk.N]; exact h1) v1 z ip_add v2) fun x y z e => by cases e; rfl) fun env S => by simp only [ex] <;> rfl
      · exact congS (d_aug (C := G.C A) (op := .sub) (ps_aug hk.nd (by rw [hk.N]; exact h1) v1 z ip_sub v2) fun x y z e => by cases e; rfl) fun env S => by simp only [ex] <;> rfl
      · cases h4
    · cases h
  | .expr e, s, p, h, X, hk => by
    simp only [chkS] at h
    split at h
    · simp only [Bool.and_eq_true, Bool.not_eq_true'] at h
      exact fun _ A b W tk => congS (d_expr (C := G.C A) (sndE Tx F e s _ h.2 X hk A b W tk).1 (swaps_none h.1)) fun env S => by simp only [ex]
    · cases h
  | .iff t a c, s, p, h, X, hk => by
    simp only [chkS] at h
    split at h
    · simp only [Bool.and_eq_true] at h
      exact fun ow A b W tk => congS (d_if (C := G.C A) (sndE Tx F t s _ h.1.1 X hk A b W tk).2 (sndSs Tx F a s _ h.1.2 X hk ow A b W tk) (sndSs Tx F c s _ h.2 X hk ow A b W tk)) fun env S => by simp only [ex] <;> rfl
    · cases h
  | .fr t i c, s, p, h, X, hk => by
    simp only [chkS] at h
    split at h
    · simp only [Bool.and_eq_true] at h
      obtain ⟨⟨⟨h1, h2⟩, h3⟩, h4⟩ := h
      exact fun ow A b W tk => congS (d_for (C := G.C A) ow hk.calm (sndI Tx F i s _ _ h3 X hk A b W tk) (sndT Tx F t s _ h2 X hk A b) (sndSs Tx F c s _ h4 X hk ow A b W tk) (noSet_fold h1 X.env)) fun env S => by simp only [ex] <;> rfl
    · cases h
  | .whl c a, s, p, h, X, hk => by
    simp only [chkS] at h
    split at h
    · simp only [Bool.and_eq_true] at h
      exact fun ow A b W tk => congS (d_while (C := G.C A) ow (sndE Tx F c s _ h.1 X hk A b W tk).2 (sndSs Tx F a s _ h.2 X hk ow A b W tk)) fun env S => by simp only [ex] <;> rfl
    · cases h
  | .ret none, s, p, h, X, hk => by
    simp only [chkS] at h
    split at h
    · simp only [chkO, Option.isNone_iff_eq_none] at h
      subst h
      exact fun _ A b W tk => congS (d_retN (C := G.C A)) fun env S => by simp only [ex]
    · cases h
  | .ret (some e), s, p, h, X, hk => by
    simp only [chkS] at h
    split at h
    · rename_i p pos
      simp only [chkO] at h
      split at h
      · exact fun _ A b W tk => congS (d_ret (C := G.C A) (sndE Tx F e s _ h X hk A b W tk).1) fun env S => by simp only [ex]
      · cases h
    · cases h
  | .brk, s, p, h, X, hk => by
    simp only [chkS] at h
    split at h
    · exact fun _ A b W tk => congS (d_brk (C := G.C A)) fun env S => by simp only [ex]
    · cases h
  | .cnt, s, p, h, X, hk => by
    simp only [chkS] at h
    split at h
    · exact fun _ A b W tk => congS (d_cnt (C := G.C A)) fun env S => by simp only [ex]
    · cases h
  | .pass, s, p, h, X, hk => by
    simp only [chkS] at h
    split at h
    · exact fun _ A b W tk => congS (d_pass (C := G.C A)) fun env S => by simp only [ex]
    · exact fun _ A b W tk => congS (d_doc (C := G.C A)) fun env S => by simp only [ex]
    · cases h
  | .frz _, s, p, h, X, hk => by simp only [chkS] at h; cases h
theorem sndSs (Tx : Text G) (F : FnsOk G n) : ∀ (q : List Mi.St) (s : Sc) (p : List Stmt), chkSs G.toSG s q p = true → ForX G n s fun X => SSs G n X q p
  | [], s, p, h, X, hk => by
    simp only [chkSs, List.isEmpty_iff] at h
    subst h
    exact fun _ A b W tk => congSs (d_sNil (C := G.C A)) fun env S => by simp only [exs]
  | a :: as, s, p, h, X, hk => by
    simp only [chkSs] at h
    cases hg : a.ghost with
    | true =>
      rw [hg] at h
      cases a with
      | frz i =>
        exact fun ow A b W tk => congSs (d_sFrz (C := G.C A) (i := i) (sndSs Tx F as s _ h X hk ow A b W tk)) fun env S => by
          simp only [exs, dSeq, dFrz, ex] <;> rfl
      | _ => cases hg
    | false =>
      rw [hg] at h
      simp only [cond_false] at h
      split at h
      · simp only [Bool.and_eq_true] at h
        exact fun ow A b W tk => congSs (d_sCons (C := G.C A) (sndS Tx F a s _ h.1 X hk ow A b W tk) (sndSs Tx F as s _ h.2 X hk ow A b W tk)) fun env S => by
          simp only [exs, dSeq] <;> rfl
      · cases h
end
end
end Mi

namespace Mi
open PySem L2 PySem.Spec PyProof.Rows

/-! ## Part 22: the defs, the law -/
section
variable {C : Cxt} {b b' : Nat} {ρ ρ' : List Addr} {S S' : Sto} {H H' : Hp}
theorem Good.at (g : Good C b ρ S H) (h : b' ≤ S.length) : Good C b' ρ S H := ⟨g.len, h, g.obj, g.accH, g.inj⟩
theorem OkO.lt (g : Good C b ρ S H) {n : Nat} {o : MO} (e : S[n]? = some o) : o.here.lt S.length = true := by
  have hn : n < S.length := (List.getElem?_eq_some_iff.mp e).1
  have hr : ρ[n]? = some (ρ[n]'(by rw [g.len]; exact hn)) := List.getElem?_eq_getElem _
  have ok := g.obj n o _ e hr
  generalize o.here = u at ok
  have hl : ρ.length ≤ S.length := Nat.le_of_eq g.len
  cases u with
  | dead => rfl
  | lst l => obtain ⟨xs, _, h⟩ := ok; exact Rps.lt hl _ _ h
  | dic l => obtain ⟨xs, _, h⟩ := ok; exact Rpp.lt hl _ _ h
  | dct l => obtain ⟨_, xs, _, h⟩ := ok; exact Rpt.lt hl _ _ h
  | ins c fs => obtain ⟨A, dx, fv, _, _, h⟩ := ok; exact fieldR.lt hl _ _ h
  | lck o => exact ok.elim
theorem OkO.shr {l l' : Addr → Prop} {a : Addr} {u : MO} (k : Shr ρ ρ' b l l') (h : u.lt b = true) (ok : OkO C ρ l H a u) : OkO C ρ' l' H a u := by
  cases u with
  | dead => trivial
  | lst d => obtain ⟨xs, e, r⟩ := ok; exact ⟨xs, e, Rps.shr k _ _ h r⟩
  | dic d => obtain ⟨xs, e, r⟩ := ok; exact ⟨xs, e, Rpp.shr k _ _ h r⟩
  | dct d => obtain ⟨h0, xs, e, r⟩ := ok; exact ⟨h0, xs, e, Rpt.shr k _ _ h r⟩
  | ins c fs => obtain ⟨A, dx, fv, e, c, r⟩ := ok; exact ⟨A, dx, fv, e, c, fieldR.shr k _ _ h r⟩
  | lck o => exact ok.elim
theorem take_get {α : Type} {l : List α} {m n : Nat} {x : α} (h : (l.take m)[n]? = some x) : n < m ∧ l[n]? = some x := by
  have hn := (List.getElem?_eq_some_iff.mp h).1
  rw [List.length_take] at hn
  rw [List.getElem?_take_of_lt (by omega)] at h
  exact ⟨by omega, h⟩
theorem lv_take {a : Addr} {m : Nat} (h : lv C (ρ.take m) (S.take m) a) : lv C ρ S a :=
  h.imp (fun ⟨n, o, e, hd, er⟩ => ⟨n, o, (take_get e).2, hd, (take_get er).2⟩) _root_.id
/-- a frame is left -/
theorem leave_frame (g0 : Good C b ρ S H) (le : Le C S.length ρ S H ρ' S' H') (g : Good C S.length ρ' S' H') :
    Le C b ρ S H (ρ'.take S.length) (S'.take S.length) H' ∧ Good C b (ρ'.take S.length) (S'.take S.length) H' ∧ Shr ρ' (ρ'.take S.length) S.length (lv C ρ' S') (lv C (ρ'.take S.length) (S'.take S.length)) := by
  have sh : Shr ρ' (ρ'.take S.length) S.length (lv C ρ' S') (lv C (ρ'.take S.length) (S'.take S.length)) := ⟨fun n hn => List.getElem?_take_of_lt hn, fun a h => lv_take h⟩
  have hl : (S'.take S.length).length = S.length := by rw [List.length_take]; have := le.len; omega
  refine ⟨⟨?_, fun a o e n => ⟨(le.keep a o e n).1, fun z => (le.keep a o e n).2 (lv_take z)⟩, fun n hn o' e => ?_, Nat.le_of_eq hl.symm, fun n o h => ?_, le.accK⟩, ⟨?_, by rw [hl]; exact g0.bb, fun n o a e er => ?_, fun a h => ⟨(g.accH a h).1, fun z => (g.accH a h).2 ?_⟩, fun n m o u a e1 e2 d1 d2 r1 r2 => ?_⟩, sh⟩
  · obtain ⟨t, ht⟩ := le.pre
    rw [← ht, ← g0.len, List.take_left']
    · exact List.prefix_refl _
    · rfl
  · obtain ⟨o, e0, h0⟩ := le.refs n (Nat.lt_of_lt_of_le hn g0.bb) o' (take_get e).2
    exact ⟨o, e0, h0⟩
  · rw [List.getElem?_take_of_lt (List.getElem?_eq_some_iff.mp h).1]
    exact le.lck n o h
  · rw [List.length_take, List.length_take, g.len]
  · obtain ⟨hn, e'⟩ := take_get e
    obtain ⟨o0, e0, h0⟩ := le.refs n hn o e'
    exact (g.obj n o a e' (take_get er).2).shr sh (h0 _ (OkO.lt g0 e0))
  · obtain ⟨n, o, e, hd, er⟩ := z
    exact ⟨n, o, (take_get e).2, hd, (take_get er).2⟩
  · exact g.inj n m o u a (take_get e1).2 (take_get e2).2 d1 d2 (take_get r1).2 (take_get r2).2
theorem pure_zip {m : Nat} : ∀ {xf : List Nat} {args : List D}, D.pures args = true → fldLt m (xf.zip args) = true
  | [], _, _ => rfl
  | _ :: _, [], _ => rfl
  | f :: fs, a :: as, h => by
    simp only [D.pures, Bool.and_eq_true] at h
    show (a.lt m && fldLt m (fs.zip as)) = true
    rw [pure_lt m a h.1, pure_zip h.2]; rfl
end
/-- the defs' texts are the terms -/
structure Defs (G : GC) : Prop where
  chk : ∀ f fd, G.pg.fd f = some fd → chkSs G.toSG ⟨(G.fi f).N, defScope (G.fi f).st, fun _ => true⟩ fd.body (defBody (G.fi f).st) = true ∧ FnScope (G.fi f).N (G.fi f).ps (defScope (G.fi f).st) ∧ (G.fi f).N.length = fd.nv
section
variable {G : GC}
theorem env_start {K : PySem.W.Frag} {ρ : List Addr} {l : Addr → Prop} {H : Hp} {ds : List D} {vs : List V} {N : List Str} {nv : Nat} (h : Rps K ρ l H ds vs) (hN : N.length = nv) : EnvR K ρ l H (ds.map some ++ List.replicate (nv - ds.length) none) (L2.start N vs) := by
  unfold L2.start
  rw [hN, ← h.length]
  refine ⟨by simp [h.length], fun i d e => ?_⟩
  by_cases hi : i < ds.length
  · rw [List.getElem?_append_left (by simpa using hi), List.getElem?_map] at e
    obtain ⟨d', e1, e2⟩ := Option.map_eq_some_iff.mp e
    cases e2
    obtain ⟨v, e3, r⟩ := h.get e1
    exact ⟨v, by rw [List.getElem?_append_left (by simp [← h.length]; exact hi), List.getElem?_map, e3]; rfl, r⟩
  · rw [List.getElem?_append_right (by simpa using hi)] at e
    rw [List.getElem?_replicate] at e
    split at e <;> cases e
theorem snd_all (Tx : Text G) (D : Defs G) : ∀ n, FnsOk G n
  | 0 => fun f fd e => by
    refine ⟨fun vs H Q E ⟨A, b, ρ, S, ds, hl, _⟩ => hl, fun A outer s H args us vs Q E _ _ _ _ ⟨A', b, ρ, S, ds, hl, g, r, o⟩ => ?_⟩
    unfold callN at o
    exact o.elim
  | n + 1 => fun f fd e => by
    have F := snd_all Tx D n
    obtain ⟨tf, tb, tl⟩ := Tx.fn f fd e
    obtain ⟨ck, S0, hN⟩ := D.chk f fd e
    refine Fun.okX (k := 2 * n + 1) tf S0 (fun vs H Q E ⟨A, b, ρ, S, ds, hl, _⟩ => hl) fun cdv A outer s H vs Q E hr ⟨A', b, ρ, S, ds, hl, g, r, o⟩ => ?_
    have hk : XOk G n (cxOf (L2.CX G.P G.w) G.P G.w G.K G.mg G.base (G.fi f).N (G.fi f).qual (defScope (G.fi f).st) (G.fi f).addr cdv A outer s H E) ⟨(G.fi f).N, defScope (G.fi f).st, fun _ => true⟩ :=
      ⟨rfl, rfl, rfl, rfl, rfl, rfl, hr, S0.nd, rfl, rfl, rfl, S0.kind⟩
    have tk : Takes (cxOf (L2.CX G.P G.w) G.P G.w G.K G.mg G.base (G.fi f).N (G.fi f).qual (defScope (G.fi f).st) (G.fi f).addr cdv A outer s H E) (fun u d _ H => E u d H) := takes_of rfl rfl rfl rfl
    have ow : Own (cxOf (L2.CX G.P G.w) G.P G.w G.K G.mg G.base (G.fi f).N (G.fi f).qual (defScope (G.fi f).st) (G.fi f).addr cdv A outer s H E) := passes_of rfl
    have hb : (if fd.keep = true then b else S.length) ≤ S.length := by split; exact g.bb; exact Nat.le_refl _
    refine ⟨_, sndSs Tx F fd.body _ _ ck _ hk ow A' (if fd.keep = true then b else S.length) _ tk, ρ, S, ds.map some ++ List.replicate (fd.nv - ds.length) none, ⟨g.at hb, env_start r hN⟩, ?_⟩
    unfold callN at o
    rw [e] at o
    dsimp only at o
    split at o
    · unfold runF at o
      dsimp only at o
      cases hx : exs (cxN G n (if fd.keep = true then b else S.length)) fd.body (ds.map some ++ List.replicate (fd.nv - ds.length) none) S with
      | nx e1 S1 =>
        rw [hx] at o
        intro ρ' H' σ' le a
        dsimp only [fin] at o
        cases hkp : fd.keep with
        | true => rw [hkp] at o le a; exact o ρ' H' le a.good .non rfl
        | false =>
          rw [hkp] at o le a
          obtain ⟨le1, g1, _⟩ := leave_frame g le a.good
          exact o _ H' le1 g1 .non rfl
      | rt d S1 =>
        rw [hx] at o
        intro ρ' H' v le g' rv
        dsimp only [fin] at o
        cases hkp : fd.keep with
        | true => rw [hkp] at o le g'; exact o ρ' H' le g' v rv
        | false =>
          rw [hkp] at o le g'
          simp only [Bool.false_eq_true, if_false] at o le g'
          split at o
          · rename_i hd
            obtain ⟨le1, g1, sh⟩ := leave_frame g le g'
            exact o _ H' le1 g1 v (Rp.shr sh _ _ hd rv)
          · exact o.elim
      | ex x e1 S1 =>
        rw [hx] at o
        intro ρ' H' σ' u d le a xr
        dsimp only at o
        split at o
        · rename_i hp
          cases hkp : fd.keep with
          | true => rw [hkp] at o le a; exact o ρ' H' u d le a.good xr
          | false =>
            rw [hkp] at o le a
            obtain ⟨le1, g1, sh⟩ := leave_frame g le a.good
            obtain ⟨Cl, dx, fs, x1, x2, x3, x4, x5, x6⟩ := xr
            exact o _ H' u d le1 g1 ⟨Cl, dx, fs, x1, x2, x3, x4, x5, fieldR.shr sh _ _ (pure_zip hp) x6⟩
        · exact o.elim
      | bk e1 S1 => rw [hx] at o; exact o.elim
      | ct e1 S1 => rw [hx] at o; exact o.elim
      | no => rw [hx] at o; exact o.elim
    · exact o.elim
end
end Mi

namespace Mi
open PySem L2 PySem.Spec PyProof.Rows

/-! ## Part 23: a program from its rows -/
/-- fields' names: those that are told, the rest made up -/
def attOf (L : List Str) (f : Nat) : Str := if f < L.length then L.getD f Str.empty else ⟨(List.replicate (f + 1) 126).toArray⟩
def plainNm (x : Str) : Bool := match x.cps.toList with
  | 126 :: _ => false
  | _ => true
theorem tilde_plain (f : Nat) : plainNm ⟨(List.replicate (f + 1) 126).toArray⟩ = false := rfl
theorem attOf_inj {L : List Str} (h : L.Nodup) (hp : L.all plainNm = true) (f g : Nat) (e : attOf L f = attOf L g) : f = g := by
  have get : ∀ {f}, f < L.length → ∃ x, L[f]? = some x ∧ attOf L f = x ∧ plainNm x = true := fun {f} hf => by
    refine ⟨L[f], List.getElem?_eq_getElem hf, ?_, List.all_eq_true.mp hp _ (List.getElem_mem hf)⟩
    unfold attOf
    rw [if_pos hf, List.getD_eq_getElem?_getD, List.getElem?_eq_getElem hf]; rfl
  by_cases hf : f < L.length
  · obtain ⟨x, x1, x2, x3⟩ := get hf
    by_cases hg : g < L.length
    · obtain ⟨y, y1, y2, y3⟩ := get hg
      rw [x2, y2] at e
      subst e
      exact ((List.getElem?_inj hf h).mp (x1.trans y1.symm))
    · rw [x2] at e
      unfold attOf at e
      rw [if_neg hg] at e
      rw [e, tilde_plain] at x3; cases x3
  · by_cases hg : g < L.length
    · obtain ⟨y, y1, y2, y3⟩ := get hg
      rw [y2] at e
      unfold attOf at e
      rw [if_neg hf] at e
      rw [← e, tilde_plain] at y3; cases y3
    · unfold attOf at e
      rw [if_neg hf, if_neg hg] at e
      have := congrArg (fun x : Str => x.cps.toList.length) e
      simpa using this
theorem attOf_ne {L M : List Str} {d : Str} (h : (d :: M).all (fun x => plainNm x && !L.contains x) = true) (f m : Nat) : attOf L f ≠ M.getD m d := by
  have hm : M.getD m d ∈ d :: M := by
    rw [List.getD_eq_getElem?_getD]
    cases e : M[m]? with
    | none => simp
    | some x => exact List.mem_cons_of_mem _ (List.mem_of_getElem? e)
  have := List.all_eq_true.mp h _ hm
  simp only [Bool.and_eq_true, Bool.not_eq_true'] at this
  intro e
  by_cases hf : f < L.length
  · have he : attOf L f ∈ L := by
      unfold attOf
      rw [if_pos hf, List.getD_eq_getElem?_getD, List.getElem?_eq_getElem hf]
      exact List.getElem_mem hf
    rw [e] at he
    have := this.2
    rw [List.contains_eq_mem] at this
    exact absurd he (of_decide_eq_false this)
  · unfold attOf at e
    rw [if_neg hf] at e
    rw [← e, tilde_plain] at this
    cases this.1
/-- a def, as it is written: top: called by its name; kws: the forms of calls with keywords -/
structure DefI where
  name : Str
  qual : Str
  st : Stmt
  N : List Str
  ps : List Str
  fd : FD
  top : Bool
  kws : List (Nat × List Str × List Nat)
structure DefOk (K : PySem.W.Frag) (mg : Str → Option Value) (d : DefI) (a : Addr) (F : FuncData) : Prop where
  fn : Fun K d.name d.qual d.st a F
  bn : Binds K F d.ps []
  np : d.ps.length = d.fd.np
  top : d.top = true → mg d.name = some (.ref a)
  kws : ∀ e ∈ d.kws, e.2.2.length = d.fd.np ∧ ∀ (s : Shared) (us ws : List Value), us.length = e.1 → ws.length = e.2.1.length → BindsTo s F ⟨us, e.2.1.zip ws⟩ (d.ps.zip (pick e.2.2 .none (us ++ ws)))
def AllOk (K : PySem.W.Frag) (mg : Str → Option Value) : List DefI → List (Addr × FuncData) → Prop
  | [], _ => True
  | d :: ds, r :: rs => DefOk K mg d r.1 r.2 ∧ AllOk K mg ds rs
  | _ :: _, [] => False
theorem AllOk.get {K : PySem.W.Frag} {mg : Str → Option Value} : ∀ {ds : List DefI} {rs : List (Addr × FuncData)} {f : Nat} {d : DefI}, AllOk K mg ds rs → ds[f]? = some d → ∃ r, rs[f]? = some r ∧ DefOk K mg d r.1 r.2
  | [], _, _, _, _, e => by simp at e
  | d :: ds, [], _, _, h, _ => h.elim
  | d :: ds, r :: rs, 0, d', h, e => by simp at e; subst e; exact ⟨r, rfl, h.1⟩
  | d :: ds, r :: rs, f + 1, d', h, e => by
    obtain ⟨r', h1, h2⟩ := AllOk.get (f := f) (d := d') h.2 (by simpa using e)
    exact ⟨r', by simpa using h1, h2⟩
structure DefChk (sg : SG) (d : DefI) : Prop where
  chk : chkSs sg ⟨d.N, defScope d.st, fun _ => true⟩ d.fd.body (defBody d.st) = true
  sc : FnScope d.N d.ps (defScope d.st)
  nv : d.N.length = d.fd.nv
/-- the whole program as it is written -/
structure Src where
  defs : List DefI
  gls : List (Str × D)
  clss : List (Str × List (Nat × Nat))
  atts : List Str
  mths : List Str
  bl : List Str
  fuel : Nat
def Src.pg (r : Src) : Prog := ⟨fun f => (r.defs[f]?).map (·.fd), fun c m => (r.clss[c]?).bind fun x => x.2.lookup m, fun x => (r.gls[x]?).map (·.2), r.fuel⟩
def Src.nm (r : Src) : Nms := ⟨fun f => match r.defs[f]? with
    | some d => if d.top then d.name else Str.empty
    | none => Str.empty, fun x => (r.gls.getD x (Str.empty, .non)).1, attOf r.atts, fun m => r.mths.getD m "__init__", fun c => (r.clss.getD c (Str.empty, [])).1⟩
def Src.sg (r : Src) : SG := ⟨r.pg, r.nm, attOf r.atts, r.atts.length, fun f n ks perm => match r.defs[f]? with
  | some d => d.kws.any fun e => e.1 == n && e.2.1 == ks && e.2.2 == perm
  | none => false, r.bl⟩
def fiOf (ds : List DefI) (rs : List (Addr × FuncData)) (F0 : FuncData) (f : Nat) : FnI := match ds[f]?, rs[f]? with
  | some d, some r => ⟨r.1, d.name, d.qual, d.st, r.2, d.N, d.ps⟩
  | _, _ => ⟨0, Str.empty, Str.empty, .Pass ⟨0, 0, 0, 0⟩, F0, [], []⟩
def Src.gc (r : Src) (P : Program) (w : World) (K : PySem.W.Frag) (mg : Str → Option Value) (base : Heap) (rs : List (Addr × FuncData)) (cs : List Addr) (F0 : FuncData) : GC := ⟨r.sg, P, w, K, mg, base, fun c => if c < r.clss.length then cs[c]? else none, fun _ => [], fiOf r.defs rs F0⟩
/-- what of the text a class must have -/
structure ClsOk (K : PySem.W.Frag) (mg : Str → Option Value) (atts mths : List Str) (ds : List (Addr × FuncData)) (x : Str × List (Nat × Nat)) (C : Addr) : Prop where
  cls : Cls K C
  na : ∀ f ∈ atts, NoAttr K C f
  nm : mg x.1 = some (.ref C)
  meth : ∀ m f, x.2.lookup (m + 1) = some f → ∃ r, ds[f]? = some r ∧ Meth K C (mths.getD (m + 1) "__init__") r.1
  init : ∀ f, x.2.lookup 0 = some f → ∃ r, ds[f]? = some r ∧ Mk K C r.1
def AllC (K : PySem.W.Frag) (mg : Str → Option Value) (atts mths : List Str) (ds : List (Addr × FuncData)) : List (Str × List (Nat × Nat)) → List Addr → Prop
  | [], _ => True
  | d :: xs, r :: rs => ClsOk K mg atts mths ds d r ∧ AllC K mg atts mths ds xs rs
  | _ :: _, [] => False
theorem AllC.get {K : PySem.W.Frag} {mg : Str → Option Value} {atts mths : List Str} {ds : List (Addr × FuncData)} : ∀ {xs : List (Str × List (Nat × Nat))} {rs : List Addr} {f : Nat} {d : Str × List (Nat × Nat)}, AllC K mg atts mths ds xs rs → xs[f]? = some d → ∃ r, rs[f]? = some r ∧ ClsOk K mg atts mths ds d r
  | [], _, _, _, _, e => by simp at e
  | d :: ds, [], _, _, h, _ => h.elim
  | d :: ds, r :: rs, 0, d', h, e => by simp at e; subst e; exact ⟨r, rfl, h.1⟩
  | d :: ds, r :: rs, f + 1, d', h, e => by
    obtain ⟨r', h1, h2⟩ := AllC.get (f := f) (d := d') h.2 (by simpa using e)
    exact ⟨r', by simpa using h1, h2⟩
structure GlOk (K : PySem.W.Frag) (mg : Str → Option Value) (x : Str × D) : Prop where
  ok : ∃ u v, mg x.1 = some u ∧ RelV v u ∧ ∀ ρ l H, Rp K ρ l H x.2 v
structure SrcOk (r : Src) (K : PySem.W.Frag) (mg : Str → Option Value) (rs : List (Addr × FuncData)) (cs : List Addr) : Prop where
  defs : AllOk K mg r.defs rs
  gls : ∀ x ∈ r.gls, GlOk K mg x
  clss : AllC K mg r.atts r.mths rs r.clss cs
  free : ∀ x ∈ r.bl, mg x = none
structure SrcChk (r : Src) : Prop where
  defs : ∀ d ∈ r.defs, DefChk r.sg d
  nd : r.atts.Nodup
  pl : r.atts.all plainNm = true
  ne : (("__init__" : Str) :: r.mths).all (fun x => plainNm x && !r.atts.contains x) = true
  ms : r.clss.all (fun x => x.2.all fun p => decide (p.2 < r.defs.length)) = true
section
variable {r : Src} {P : Program} {w : World} {K : PySem.W.Frag} {mg : Str → Option Value} {base : Heap} {rs : List (Addr × FuncData)} {cs : List Addr} {F0 : FuncData}
theorem Src.fdE {f : Nat} {fd : FD} (e : r.pg.fd f = some fd) : ∃ d, r.defs[f]? = some d ∧ d.fd = fd := by
  obtain ⟨d, h1, h2⟩ := Option.map_eq_some_iff.mp e
  exact ⟨d, h1, h2⟩
theorem fiOf_eq {ds : List DefI} {f : Nat} {d : DefI} {x : Addr × FuncData} (h1 : ds[f]? = some d) (h2 : rs[f]? = some x) : fiOf ds rs F0 f = ⟨x.1, d.name, d.qual, d.st, x.2, d.N, d.ps⟩ := by
  unfold fiOf
  rw [h1, h2]
theorem Src.mthE {c m f : Nat} (e : r.pg.mth c m = some f) : ∃ x, r.clss[c]? = some x ∧ x.2.lookup m = some f := by
  obtain ⟨x, h1, h2⟩ := bind_some e
  exact ⟨x, h1, h2⟩
theorem lookup_mem {α β : Type} [BEq α] [LawfulBEq α] {l : List (α × β)} {a : α} {b : β} (h : l.lookup a = some b) : (a, b) ∈ l := by
  induction l with
  | nil => cases h
  | cons p l ih =>
    obtain ⟨x, y⟩ := p
    rw [List.lookup_cons] at h
    by_cases z : a = x
    · subst z
      simp at h; subst h
      exact List.mem_cons_self ..
    · simp only [beq_eq_false_iff_ne.mpr z] at h
      exact List.mem_cons_of_mem _ (ih h)
theorem Src.text (o : SrcOk r K mg rs cs) (k : SrcChk r) : Text (r.gc P w K mg base rs cs F0) where
  fn := fun f fd e => by
    obtain ⟨d, h1, rfl⟩ := Src.fdE e
    obtain ⟨x, h2, h3⟩ := o.defs.get h1
    show Fun K (fiOf r.defs rs F0 f).name (fiOf r.defs rs F0 f).qual (fiOf r.defs rs F0 f).st (fiOf r.defs rs F0 f).addr (fiOf r.defs rs F0 f).fd ∧ Binds K (fiOf r.defs rs F0 f).fd (fiOf r.defs rs F0 f).ps [] ∧ (fiOf r.defs rs F0 f).ps.length = _
    rw [fiOf_eq h1 h2]
    exact ⟨h3.fn, h3.bn, h3.np⟩
  kws := fun f fd e n ks perm hk => by
    obtain ⟨d, h1, rfl⟩ := Src.fdE e
    obtain ⟨x, h2, h3⟩ := o.defs.get h1
    show _ ∧ ∀ (s : Shared) (us ws : List Value), _ → _ → BindsTo s (fiOf r.defs rs F0 f).fd _ ((fiOf r.defs rs F0 f).ps.zip _)
    rw [fiOf_eq h1 h2]
    have hk : (match r.defs[f]? with
      | some d => d.kws.any fun e => e.1 == n && e.2.1 == ks && e.2.2 == perm
      | none => false) = true := hk
    rw [h1] at hk
    obtain ⟨e', m1, m2⟩ := List.any_eq_true.mp hk
    simp only [Bool.and_eq_true, beq_iff_eq] at m2
    obtain ⟨⟨rfl, rfl⟩, rfl⟩ := m2
    exact h3.kws e' m1
  gl := fun x d e => by
    obtain ⟨p, h1, rfl⟩ := Option.map_eq_some_iff.mp (show (r.gls[x]?).map (·.2) = some d from e)
    obtain ⟨u, v, g1, g2, g3⟩ := (o.gls p (List.mem_of_getElem? h1)).ok
    refine ⟨u, v, ?_, g2, g3⟩
    show mg (r.gls.getD x (Str.empty, .non)).1 = _
    rw [List.getD_eq_getElem?_getD, h1]
    exact g1
  cl := fun c A e => by
    have e : (if c < r.clss.length then cs[c]? else none) = some A := e
    split at e
    · rename_i hc
      obtain ⟨A', h1, h2⟩ := o.clss.get (List.getElem?_eq_getElem hc)
      rw [e] at h1; cases h1
      exact h2.cls
    · cases e
  na := fun c A f e hf => by
    have e : (if c < r.clss.length then cs[c]? else none) = some A := e
    split at e
    · rename_i hc
      obtain ⟨A', h1, h2⟩ := o.clss.get (List.getElem?_eq_getElem hc)
      rw [e] at h1; cases h1
      have hf : f < r.atts.length := hf
      refine h2.na _ ?_
      show attOf r.atts f ∈ r.atts
      unfold attOf
      rw [if_pos hf, List.getD_eq_getElem?_getD, List.getElem?_eq_getElem hf]
      exact List.getElem_mem hf
    · cases e
  attI := attOf_inj k.nd k.pl
  attN := fun f m => attOf_ne k.ne f m
  mth := fun c m f e => by
    obtain ⟨x, h1, h2⟩ := Src.mthE e
    have := List.all_eq_true.mp (List.all_eq_true.mp k.ms x (List.mem_of_getElem? h1)) _ (lookup_mem h2)
    have hf : f < r.defs.length := of_decide_eq_true this
    exact ⟨r.defs[f].fd, by show (r.defs[f]?).map (·.fd) = _; rw [List.getElem?_eq_getElem hf]; rfl⟩
  meth := fun c m f A e hc => by
    obtain ⟨x, h1, h2⟩ := Src.mthE e
    have hc : (if c < r.clss.length then cs[c]? else none) = some A := hc
    rw [if_pos (List.getElem?_eq_some_iff.mp h1).1] at hc
    obtain ⟨A', h3, h4⟩ := o.clss.get h1
    rw [hc] at h3; cases h3
    obtain ⟨y, h5, h6⟩ := h4.meth m f h2
    have := List.all_eq_true.mp (List.all_eq_true.mp k.ms x (List.mem_of_getElem? h1)) _ (lookup_mem h2)
    have hf : f < r.defs.length := of_decide_eq_true this
    show Meth K A _ (fiOf r.defs rs F0 f).addr
    rw [fiOf_eq (List.getElem?_eq_getElem hf) h5]
    exact h6
  init := fun c f e => by
    obtain ⟨x, h1, h2⟩ := Src.mthE e
    obtain ⟨A, h3, h4⟩ := o.clss.get h1
    obtain ⟨y, h5, h6⟩ := h4.init f h2
    have := List.all_eq_true.mp (List.all_eq_true.mp k.ms x (List.mem_of_getElem? h1)) _ (lookup_mem h2)
    have hf : f < r.defs.length := of_decide_eq_true this
    refine ⟨A, ?_, ?_, ?_⟩
    · show (if c < r.clss.length then cs[c]? else none) = some A
      rw [if_pos (List.getElem?_eq_some_iff.mp h1).1]; exact h3
    · show Mk K A (fiOf r.defs rs F0 f).addr
      rw [fiOf_eq (List.getElem?_eq_getElem hf) h5]
      exact h6
    · show mg (r.clss.getD c (Str.empty, [])).1 = _
      rw [List.getD_eq_getElem?_getD, h1]
      exact h4.nm
  free := o.free
  top := fun f fd e hn => by
    obtain ⟨d, h1, rfl⟩ := Src.fdE e
    obtain ⟨x, h2, h3⟩ := o.defs.get h1
    have hn : (match r.defs[f]? with
      | some d => if d.top then d.name else Str.empty
      | none => Str.empty) ≠ ("" : Str) := hn
    show mg (match r.defs[f]? with
      | some d => if d.top then d.name else Str.empty
      | none => Str.empty) = some (.ref (fiOf r.defs rs F0 f).addr)
    rw [fiOf_eq h1 h2]
    rw [h1] at hn ⊢
    cases ht : d.top with
    | true => simp only [ht, if_true]; exact h3.top ht
    | false => simp only [ht] at hn; exact absurd rfl hn
theorem Src.defsOk (o : SrcOk r K mg rs cs) (k : SrcChk r) : Defs (r.gc P w K mg base rs cs F0) := ⟨fun f fd e => by
  obtain ⟨d, h1, rfl⟩ := Src.fdE e
  obtain ⟨x, h2, h3⟩ := o.defs.get h1
  have q := k.defs d (List.mem_of_getElem? h1)
  show chkSs r.sg ⟨(fiOf r.defs rs F0 f).N, defScope (fiOf r.defs rs F0 f).st, fun _ => true⟩ _ (defBody (fiOf r.defs rs F0 f).st) = true ∧ FnScope (fiOf r.defs rs F0 f).N (fiOf r.defs rs F0 f).ps (defScope (fiOf r.defs rs F0 f).st) ∧ (fiOf r.defs rs F0 f).N.length = _
  rw [fiOf_eq h1 h2]
  exact ⟨q.chk, q.sc, q.nv⟩⟩
end
/-! ### the law -/
def spLaw (K : PySem.W.Frag) : Sp := fun vs H Q E => ∃ (a : Addr) (ns : List Int), vs = [.ref a] ∧ SqL K H a (ns.map V.int) ∧ ns.length ≤ 63 ∧ ∀ H', Q (.bl true) H'
/-- law(script), from what the interpreter says -/
theorem law_ok {r : Src} {P : Program} {w : World} {K : PySem.W.Frag} {mg : Str → Option Value} {base : Heap} {rs : List (Addr × FuncData)} {cs : List Addr} {n fL : Nat} {d : DefI} {x : Addr × FuncData} (o : SrcOk r K mg rs cs) (k : SrcChk r) (hd : r.defs[fL]? = some d) (hx : rs[fL]? = some x)
    (hl : ∀ ns : List Int, ns.length ≤ 63 → ∃ S', callN r.pg n fL [.lst (ns.map .int)] 0 [] = .ok (.bl true) S') (hp : d.ps = [("script" : Str)]) : FnOk P w K mg base (L2.CX P w) (lev n) x.1 x.2 ["script"] (spLaw K) := by
  have F := snd_all (Src.text (P := P) (w := w) (base := base) (F0 := x.2) o k) (Src.defsOk o k) n fL d.fd (by show (r.defs[fL]?).map (·.fd) = _; rw [hd]; rfl)
  have e : (r.gc P w K mg base rs cs x.2).fi fL = ⟨x.1, d.name, d.qual, d.st, x.2, d.N, d.ps⟩ := fiOf_eq hd hx
  rw [e] at F
  have F : FnOk P w K mg base (L2.CX P w) (lev n) x.1 x.2 d.ps (spF (r.gc P w K mg base rs cs x.2) n fL) := F
  rw [hp] at F
  refine F.imp fun vs H Q E ⟨a, ns, ev, hS, hz, q⟩ => ?_
  subst ev
  obtain ⟨S', hc⟩ := hl ns hz
  refine ⟨[], 0, [], [], [.lst (ns.map .int)], by rw [e, hp]; rfl, ⟨rfl, Nat.zero_le _, fun n o a z => (by simp at z), fun a z => (by cases z), fun n m o u a z => (by simp at z)⟩, ⟨.ref a, [], rfl, ⟨a, ns.map V.int, rfl, ?_, ?_⟩, rfl⟩, ?_⟩
  · rcases hS with h | h
    · exact .inl ⟨fun z => by
        rcases z with ⟨n, o, z, _⟩ | z
        · simp at z
        · exact (List.not_mem_nil z).elim, h⟩
    · exact .inr h
  · clear hS hz hc
    induction ns with
    | nil => rfl
    | cons i is ih => exact ⟨_, _, rfl, rfl, ih⟩
  · show Out _ _ _ _ _ _ _ (callN r.pg n fL _ _ _) _
    rw [hc]
    intro ρ' H' le g v rv
    cases (show v = .bl true from rv)
    exact q H'
theorem mi_walk {l : PySem.W.OpenLaw} {q : Program} {loose : List Str} {XP : (Str → Option Value) → Heap → Prop} {YP : World → Heap → Prop} {d : DefRec} {K : Params → PySem.W.Frag} {k : Nat} (hn : l.most = some 63) (hdf : d.params.defaults = []) (hr : Room k callerA)
    (hY : ∀ (w : World) (h : Heap), YP w h → (K w.params).In h)
    (F : ∀ (w : World) (mg : Str → Option Value) (fa : Addr) (h : Heap), (K w.params).In h → h.Ns mainGlobals mg → mg d.name = some (.ref fa) →
      ∃ fd : FuncData, (∀ (s : Shared) (u : Value), BindsTo s fd ⟨[u], []⟩ [("script", u)]) ∧ ∀ base : Heap, (K w.params).In base → base.Ns mainGlobals mg → FnOk l.prog w (K w.params) mg base (L2.CX l.prog w) k fa fd ["script"] (spLaw (K w.params))) :
    PySem.W.WalkO q loose XP YP l.row.toRowW d [] (fun f vs => PySem.call f vs) :=
  L2.walk_of (n := 63) (k := k) (x := "script") (CX := fun w => L2.CX l.prog w) (sp := fun w => spLaw (K w.params)) hn (by decide) hdf hr hY F (fun _ _ a ns hl _ hS => ⟨a, ns, rfl, hS, hl, fun _ => rfl⟩) fun _ _ _ _ _ ⟨_, _, _, _, _, _, _, _, _, _, _, _, z⟩ => z
end Mi

namespace Mi
open PySem L2 PySem.Spec PyProof.Rows

def top (i : Nat) : Stmt := PySem.Challenge.pw_samestory_k01_facts_of_stories.main.body.getD i (.Pass ⟨0, 0, 0, 0⟩)
/-- people_of -/
def e0_0 : E := .var 2
def b0 : List St := [.ret (some (.pri .tuple [.sset false [1, 2] e0_0 [.mk (.var 1) (.e (.var 0)) [], .mk (.var 2) (.e (.sl (.var 1) (some (.lit (.int 1))) none)) []]]))]
def d0 : DefI := ⟨"people_of", "people_of", top 1, ["story", "deed", "person"], ["story"], ⟨1, 3, false, b0⟩, true, []⟩
/-- words_of -/
def e1_0 : E := .ix (.var 2) (.lit (.int 0))
def e1_1 : E := .tup [.var 3, .met .count (.var 1) [.var 3]]
def b1 : List St := [.asg (.var 1) (.lc false [2] e1_0 [.mk (.var 2) (.e (.var 0)) []]),
  .ret (some (.pri .tuple [.lc false [3] e1_1 [.mk (.var 3) (.e (.pri (.sortset false) [.var 1])) []]]))]
def d1 : DefI := ⟨"words_of", "words_of", top 2, ["story", "words", "deed", "word"], ["story"], ⟨1, 4, false, b1⟩, true, []⟩
/-- deeds_with -/
def c2_0 : E := .cmp .mem (.var 1) (.sl (.var 3) (some (.lit (.int 1))) none)
def e2_1 : E := .var 2
def b2 : List St := [.ret (some (.pri .tuple [.lc false [2, 3] e2_1 [.mk (.tup [.var 2, .var 3]) (.enum (.var 0)) [c2_0]]]))]
def d2 : DefI := ⟨"deeds_with", "deeds_with", top 3, ["story", "person", "at", "deed"], ["story", "person"], ⟨2, 4, false, b2⟩, true, [(0, ["person", "story"], [1, 0])]⟩
/-- role_of -/
def b3 : List St := [.ret (some (.ite (.cmp .mem (.var 1) (.sl (.var 0) (some (.lit (.int 1))) none)) (.slm .tindex (.var 0) (some (.lit (.int 1))) none (.var 1)) (.lit .non)))]
def d3 : DefI := ⟨"role_of", "role_of", top 4, ["deed", "person"], ["deed", "person"], ⟨2, 2, false, b3⟩, true, [(0, ["person", "deed"], [1, 0])]⟩
/-- kinds_of -/
def e4_0 : E := .tup [.var 2, .slm .tcount (.var 0) none (some (.var 1)) (.var 2)]
def b4 : List St := [.ret (some (.pri .tuple [.lc false [1, 2] e4_0 [.mk (.tup [.var 1, .var 2]) (.enum (.var 0)) []]]))]
def d4 : DefI := ⟨"kinds_of", "kinds_of", top 5, ["story", "at", "deed"], ["story"], ⟨1, 3, false, b4⟩, true, [(0, ["story"], [0])]⟩
/-- _law_string -/
def b5_0 : List St := [.expr (.met .append (.var 1) [.tup [.bin .mod (.pri .int [.var 3]) (.lit (.int 1013)), .bin .add (.bin .mod (.pri .int [.var 3]) (.lit (.int 17))) (.pri .int [.cmp .lt (.pri .int [.var 2]) (.lit (.int 0))])]]),
  .asg (.var 3) (.bin .fdiv (.var 3) (.lit (.int 1013))),
  .iff (.cmp .eq (.var 3) (.lit (.int 0))) [.brk] []]
def b5_1 : List St := [.asg (.var 3) (.bin .mod (.pri .abs [.pri .int [.var 2]]) (.bin .shl (.lit (.int 1)) (.lit (.int 2000)))),
  .fr (.var 4) (.range [.lit (.int 200)]) b5_0]
def e5_2 : E := .bin .add (.bin .mul (.var 6) (.lit (.int 31))) (.var 7)
def b5 : List St := [.asg (.var 1) (.lst true [.tup [.lit (.int 3), .lit (.int 1)], .tup [.lit (.int 5), .lit (.int 4)]]),
  .fr (.var 2) (.e (.sl (.var 0) none (some (.lit (.int 40))))) b5_1,
  .frz 1,
  .asg (.var 5) (.pri .sum [.lc false [6, 7] e5_2 [.mk (.tup [.var 6, .var 7]) (.e (.var 1)) []]]),
  .ret (some (.lst true [.cpy (.var 1) (some (.lit (.int 2))) none, .lit (.int 0), .bin .add (.bin .mod (.pri .int [.var 5]) (.lit (.int 7919))) (.lit (.int 1))]))]
def d5 : DefI := ⟨"_law_string", "_law_string", top 7, ["script", "beads", "cell", "size", "lap", "total", "one", "other"], ["script"], ⟨1, 8, true, b5⟩, true, []⟩
/-- _law_bead -/
def b6 : List St := [.asg (.var 2) (.ix (.var 0) (.lit (.int 1))),
  .asg (.sub (.var 0) (.lit (.int 1))) (.bin .add (.var 2) (.lit (.int 1))),
  .iff (.cmp .lt (.var 2) (.pri .len [.ix (.var 0) (.lit (.int 0))])) [.ret (some (.bin .mod (.pri .int [.ix (.ix (.ix (.var 0) (.lit (.int 0))) (.var 2)) (.lit (.int 0))]) (.var 1)))] [],
  .asg (.var 3) (.ite (.cmp .gt (.pri .len [.ix (.var 0) (.lit (.int 0))]) (.lit (.int 0))) (.ix (.ix (.var 0) (.lit (.int 0))) (.bin .mod (.pri .int [.var 2]) (.pri .len [.ix (.var 0) (.lit (.int 0))]))) (.tup [.lit (.int 7), .lit (.int 2)])),
  .asg (.sub (.var 0) (.lit (.int 2))) (.bin .mod (.pri .int [.bin .add (.bin .add (.bin .mul (.ix (.var 0) (.lit (.int 2))) (.bin .add (.lit (.int 211)) (.ix (.var 3) (.lit (.int 1))))) (.ix (.var 3) (.lit (.int 0)))) (.bin .mul (.var 2) (.lit (.int 13)))]) (.lit (.int 7927))),
  .ret (some (.bin .mod (.pri .int [.bin .fdiv (.ix (.var 0) (.lit (.int 2))) (.lit (.int 3))]) (.var 1)))]
def d6 : DefI := ⟨"_law_bead", "_law_bead", top 8, ["string", "many", "at", "one"], ["string", "many"], ⟨2, 4, false, b6⟩, true, []⟩
/-- _law_told -/
def b7_0 : List St := [.expr (.met .append (.var 2) [.met .popi (.var 2) [.call 6 [.var 0, .lit (.int 7)]]])]
def e7_1 : E := .ix (.var 2) (.bin .mod (.pri .int [.bin .add (.var 8) (.bin .mul (.var 12) (.var 10))]) (.pri .len [.var 2]))
def b7_2 : List St := [.asg (.var 6) (.call 6 [.var 0, .lit (.int 5)]),
  .iff (.and [.cmp .eq (.var 6) (.lit (.int 0)), .cmp .gt (.pri .len [.var 5]) (.lit (.int 0))]) [.expr (.met .append (.var 5) [.ix (.var 5) (.call 6 [.var 0, .pri .len [.var 5]])])] [.iff (.and [.cmp .eq (.var 6) (.lit (.int 1)), .cmp .gt (.pri .len [.var 5]) (.lit (.int 0))]) [.asg (.var 7) (.ix (.var 5) (.call 6 [.var 0, .pri .len [.var 5]])),
  .expr (.met .append (.var 5) [.bin .add (.tup [.ix (.var 4) (.call 6 [.var 0, .pri .len [.var 4]])]) (.rev false (.sl (.var 7) (some (.lit (.int 1))) none))])] [.asg (.var 8) (.call 6 [.var 0, .pri .len [.var 2]]),
  .asg (.var 9) (.pri .min2 [.pri .len [.var 2], .bin .add (.lit (.int 1)) (.call 6 [.var 0, .lit (.int 3)])]),
  .asg (.var 10) (.ite (.cmp .nmem (.pri .len [.var 2]) (.tup [.lit (.int 3), .lit (.int 6)])) (.bin .add (.lit (.int 1)) (.bin .mul (.lit (.int 2)) (.call 6 [.var 0, .lit (.int 2)]))) (.lit (.int 1))),
  .asgc 11 false [12] e7_1 [.mk (.var 12) (.range [.var 9]) []],
  .expr (.met .append (.var 5) [.bin .add (.tup [.ix (.var 4) (.call 6 [.var 0, .pri .len [.var 4]])]) (.pri .tuple [.var 11])])]]]
def b7 : List St := [.asg (.var 2) (.lst true [.lit (.str [97,110,110]), .lit (.str [98]), .lit (.str [99,97,114,111,108,105,110,97]), .lit (.str [100,111,116]), .lit (.str [101,118,101]), .lit (.str [102]), .lit (.str [103,117,115])]),
  .fr (.var 3) (.range [.lit (.int 7)]) b7_0,
  .asg (.var 2) (.cpy (.var 2) none (some (.bin .add (.lit (.int 2)) (.call 6 [.var 0, .lit (.int 6)])))),
  .asg (.var 4) (.sl (.lst false [.lit (.str [109,101,101,116]), .lit (.str [104,105,116]), .ix (.var 2) (.lit (.int 0)), .lit (.str [122])]) none (some (.bin .add (.lit (.int 1)) (.call 6 [.var 0, .lit (.int 4)])))),
  .asg (.var 5) (.lst true []),
  .fr (.var 3) (.range [.var 1]) b7_2,
  .ret (some (.pri .tuple [.var 5]))]
def d7 : DefI := ⟨"_law_told", "_law_told", top 9, ["string", "many", "people", "lap", "words", "told", "way", "one", "first", "size", "step", "who", "k"], ["string", "many"], ⟨2, 13, false, b7⟩, true, []⟩
/-- _law_same -/
def b8_0 : List St := [.iff (.not (.call 8 [.ix (.var 0) (.var 2), .ix (.var 1) (.var 2)])) [.ret (some (.lit (.bl false)))] []]
def b8 : List St := [.iff (.pri (.isinst .tuple) [.var 1]) [.iff (.or [.not (.pri (.isinst .tuple) [.var 0]), .cmp .ne (.pri .len [.var 0]) (.pri .len [.var 1])]) [.ret (some (.lit (.bl false)))] [],
  .fr (.var 2) (.range [.pri .len [.var 1]]) b8_0,
  .ret (some (.lit (.bl true)))] [],
  .iff (.cmp .is (.var 1) (.lit .non)) [.ret (some (.cmp .is (.var 0) (.lit .non)))] [],
  .iff (.pri (.isinst .str) [.var 1]) [.ret (some (.and [.pri (.isinst .str) [.var 0], .cmp .eq (.var 0) (.var 1)]))] [],
  .ret (some (.and [.pri (.isinst .int) [.var 0], .not (.pri (.isinst .bool) [.var 0]), .cmp .eq (.var 0) (.var 1)]))]
def d8 : DefI := ⟨"_law_same", "_law_same", top 10, ["told", "due", "at"], ["told", "due"], ⟨2, 3, false, b8⟩, true, []⟩
/-- _law_asked -/
def b9_0 : List St := [.asg (.sub (.var 2) (.var 8)) (.bin .add (.get (.var 2) [.var 8, .tup []]) (.tup [.var 6]))]
def b9_1 : List St := [.asg (.var 7) (.ix (.var 1) (.var 6)),
  .asg (.sub (.var 3) (.ix (.var 7) (.lit (.int 0)))) (.bin .add (.get (.var 3) [.ix (.var 7) (.lit (.int 0)), .lit (.int 0)]) (.lit (.int 1))),
  .expr (.met .append (.var 4) [.tup [.var 7, .get (.var 5) [.var 7, .lit (.int 0)]]]),
  .asg (.sub (.var 5) (.var 7)) (.bin .add (.get (.var 5) [.var 7, .lit (.int 0)]) (.lit (.int 1))),
  .fr (.var 8) (.e (.sl (.var 7) (some (.lit (.int 1))) none)) b9_0]
def e9_2 : E := .tup [.var 10, .ix (.var 3) (.var 10)]
def b9_3 : List St := [.iff (.not (.call 8 [.call 2 [.var 1, .var 8], .ix (.var 2) (.var 8)])) [.ret (some (.lit (.bl false)))] []]
def b9_4 : List St := [.iff (.not (.call 8 [.call 3 [.var 7, .ix (.var 7) (.bin .add (.lit (.int 1)) (.var 12))], .var 12])) [.ret (some (.lit (.bl false)))] []]
def c9_5 : E := .cmp .eq (.ix (.var 7) (.bin .add (.lit (.int 1)) (.var 12))) (.var 13)
def e9_6 : E := .var 12
def b9_7 : List St := [.asg (.var 7) (.ix (.var 1) (.call 6 [.var 0, .pri .len [.var 1]])),
  .fr (.var 12) (.range [.bin .sub (.pri .len [.var 7]) (.lit (.int 1))]) b9_4,
  .asg (.var 13) (.ix (.lst false [.lit (.str [97,110,110]), .lit (.str [98]), .lit (.str [102]), .lit (.str [110,111,98,111,100,121]), .ix (.var 7) (.lit (.int 0)), .lit (.str [109,101,101,116])]) (.call 6 [.var 0, .lit (.int 6)])),
  .asgc 14 false [12] e9_6 [.mk (.var 12) (.range [.bin .sub (.pri .len [.var 7]) (.lit (.int 1))]) [c9_5]],
  .iff (.not (.call 8 [.callk 3 [1, 0] [] [.var 13, .var 7], .ite (.cmp .gt (.pri .len [.var 14]) (.lit (.int 0))) (.ix (.var 14) (.lit (.int 0))) (.lit .non)])) [.ret (some (.lit (.bl false)))] []]
def b9 : List St := [.asg (.tup [.var 2, .var 3, .var 4, .var 5]) (.tup [.dic true [], .dic true [], .lst true [], .dct]),
  .fr (.var 6) (.range [.pri .len [.var 1]]) b9_1,
  .asg (.var 9) (.tup [.pri .tuple [.pri (.sortd false) [.var 2]], .pri .tuple [.lc false [10] e9_2 [.mk (.var 10) (.e (.pri (.sortd false) [.var 3])) []]], .pri .tuple [.var 4]]),
  .iff (.not (.call 8 [.tup [.call 0 [.var 1], .call 1 [.var 1], .call 4 [.var 1]], .var 9])) [.ret (some (.lit (.bl false)))] [],
  .frz 2,
  .fr (.var 8) (.keys (.var 2)) b9_3,
  .fr (.var 11) (.range [.pri .min2 [.lit (.int 6), .pri .len [.var 1]]]) b9_7,
  .ret (some (.lit (.bl true)))]
def d9 : DefI := ⟨"_law_asked", "_law_asked", top 11, ["string", "story", "people", "words", "kinds", "seen", "at", "deed", "person", "due", "word", "lap", "role", "other", "own"], ["string", "story"], ⟨2, 15, false, b9⟩, true, []⟩
/-- _law_hand -/
def b10 : List St := [.asg (.var 0) (.tup [.tup [.lit (.str [109,101,101,116]), .lit (.str [97,110,110]), .lit (.str [98,111,98])], .tup [.lit (.str [103,105,118,101]), .lit (.str [98,111,98]), .lit (.str [99,105,100])], .tup [.lit (.str [109,101,101,116]), .lit (.str [100,111,116]), .lit (.str [101,118,101])], .tup [.lit (.str [104,105,116]), .lit (.str [99,105,100]), .lit (.str [97,110,110])]]),
  .asg (.var 1) (.tup [.tup [.lit (.str [115,101,110,100]), .lit (.str [97]), .lit (.str [98])], .tup [.lit (.str [115,101,110,100]), .lit (.str [99]), .lit (.str [100])], .tup [.lit (.str [116,97,107,101]), .lit (.str [97]), .lit (.str [100])], .tup [.lit (.str [116,97,107,101]), .lit (.str [99]), .lit (.str [98])]]),
  .asg (.var 2) (.tup [.call 0 [.var 1], .call 1 [.var 0], .call 2 [.var 0, .lit (.str [97,110,110])], .call 3 [.tup [.lit (.str [104,105,116]), .lit (.str [99,105,100]), .lit (.str [97,110,110])], .lit (.str [97,110,110])], .call 0 [.tup []], .call 1 [.tup []], .callk 4 [0] [] [.tup []]]),
  .iff (.not (.call 8 [.var 2, .tup [.tup [.lit (.str [97]), .lit (.str [98]), .lit (.str [99]), .lit (.str [100])], .tup [.tup [.lit (.str [103,105,118,101]), .lit (.int 1)], .tup [.lit (.str [104,105,116]), .lit (.int 1)], .tup [.lit (.str [109,101,101,116]), .lit (.int 2)]], .tup [.lit (.int 0), .lit (.int 3)], .lit (.int 1), .tup [], .tup [], .tup []]])) [.ret (some (.lit (.bl false)))] [],
  .asg (.var 3) (.tup [.tup [.lit (.str [97,110,110]), .lit (.str [98,111,98])], .tup [.lit (.str [98,111,98]), .lit (.str [97,110,110])], .tup [.lit (.str [97,110,110]), .lit (.str [98,111,98])], .tup [.lit (.str [104,105,116]), .lit (.str [98,111,98]), .lit (.str [97,110,110])], .tup [.lit (.str [104,105,116]), .lit (.str [97,110,110]), .lit (.str [98,111,98])], .tup [.lit (.str [97,110,110]), .lit (.str [98,111,98])], .tup [.lit (.str [104,105,116]), .lit (.str [98,111,98]), .lit (.str [97,110,110]), .lit (.str [97,98])]]),
  .asg (.var 2) (.tup [.call 0 [.var 3], .call 1 [.var 3], .callk 2 [1, 0] [] [.lit (.str [98,111,98]), .var 3], .call 4 [.var 3], .call 3 [.ix (.var 3) (.lit (.int 0)), .lit (.str [97,110,110])], .call 3 [.ix (.var 3) (.lit (.int 6)), .lit (.str [97,98])], .call 3 [.ix (.var 3) (.lit (.int 6)), .lit (.str [104,105,116])]]),
  .asg (.var 4) (.tup [.tup [.ix (.var 3) (.lit (.int 0)), .lit (.int 0)], .tup [.ix (.var 3) (.lit (.int 1)), .lit (.int 0)], .tup [.ix (.var 3) (.lit (.int 0)), .lit (.int 1)], .tup [.ix (.var 3) (.lit (.int 3)), .lit (.int 0)], .tup [.ix (.var 3) (.lit (.int 4)), .lit (.int 0)], .tup [.ix (.var 3) (.lit (.int 0)), .lit (.int 2)], .tup [.ix (.var 3) (.lit (.int 6)), .lit (.int 0)]]),
  .ret (some (.call 8 [.var 2, .tup [.tup [.lit (.str [97,98]), .lit (.str [97,110,110]), .lit (.str [98,111,98])], .tup [.tup [.lit (.str [97,110,110]), .lit (.int 3)], .tup [.lit (.str [98,111,98]), .lit (.int 1)], .tup [.lit (.str [104,105,116]), .lit (.int 3)]], .tup [.lit (.int 0), .lit (.int 2), .lit (.int 3), .lit (.int 4), .lit (.int 5), .lit (.int 6)], .var 4, .lit .non, .lit (.int 2), .lit .non]]))]
def d10 : DefI := ⟨"_law_hand", "_law_hand", top 12, ["feud", "ring", "told", "story", "kinds"], [], ⟨0, 5, false, b10⟩, true, []⟩
/-- law -/
def b11_0 : List St := [.iff (.not (.call 9 [.var 1, .call 7 [.var 1, .call 6 [.var 1, .lit (.int 9)]]])) [.ret (some (.lit (.bl false)))] []]
def b11 : List St := [.asg (.var 1) (.call 5 [.var 0]),
  .iff (.not (.call 10 [])) [.ret (some (.lit (.bl false)))] [],
  .fr (.var 2) (.range [.lit (.int 4)]) b11_0,
  .ret (some (.or [.cmp .ne (.call 6 [.var 1, .lit (.int 13)]) (.lit (.int 6)), .call 9 [.var 1, .call 7 [.var 1, .lit (.int 60)]]]))]
def d11 : DefI := ⟨"law", "law", top 13, ["script", "string", "lap"], ["script"], ⟨1, 3, false, b11⟩, true, []⟩
def src : Src where
  defs := [d0, d1, d2, d3, d4, d5, d6, d7, d8, d9, d10, d11]
  gls := []
  clss := []
  atts := []
  mths := ["__init__"]
  bl := ["tuple", "sorted", "set", "enumerate", "abs", "int", "range", "sum", "len", "min", "isinstance", "str", "bool"]
  fuel := 100
theorem ck0 : DefChk src.sg d0 := ⟨by decide +kernel, ⟨rfl, rfl, rfl, by decide +kernel, rfl, by decide +kernel, by decide +kernel⟩, rfl⟩
theorem ck1 : DefChk src.sg d1 := ⟨by decide +kernel, ⟨rfl, rfl, rfl, by decide +kernel, rfl, by decide +kernel, by decide +kernel⟩, rfl⟩
theorem ck2 : DefChk src.sg d2 := ⟨by decide +kernel, ⟨rfl, rfl, rfl, by decide +kernel, rfl, by decide +kernel, by decide +kernel⟩, rfl⟩
theorem ck3 : DefChk src.sg d3 := ⟨by decide +kernel, ⟨rfl, rfl, rfl, by decide +kernel, rfl, by decide +kernel, by decide +kernel⟩, rfl⟩
theorem ck4 : DefChk src.sg d4 := ⟨by decide +kernel, ⟨rfl, rfl, rfl, by decide +kernel, rfl, by decide +kernel, by decide +kernel⟩, rfl⟩
theorem ck5 : DefChk src.sg d5 := ⟨by decide +kernel, ⟨rfl, rfl, rfl, by decide +kernel, rfl, by decide +kernel, by decide +kernel⟩, rfl⟩
theorem ck6 : DefChk src.sg d6 := ⟨by decide +kernel, ⟨rfl, rfl, rfl, by decide +kernel, rfl, by decide +kernel, by decide +kernel⟩, rfl⟩
theorem ck7 : DefChk src.sg d7 := ⟨by decide +kernel, ⟨rfl, rfl, rfl, by decide +kernel, rfl, by decide +kernel, by decide +kernel⟩, rfl⟩
theorem ck8 : DefChk src.sg d8 := ⟨by decide +kernel, ⟨rfl, rfl, rfl, by decide +kernel, rfl, by decide +kernel, by decide +kernel⟩, rfl⟩
theorem ck9 : DefChk src.sg d9 := ⟨by decide +kernel, ⟨rfl, rfl, rfl, by decide +kernel, rfl, by decide +kernel, by decide +kernel⟩, rfl⟩
theorem ck10 : DefChk src.sg d10 := ⟨by decide +kernel, ⟨rfl, rfl, rfl, by decide +kernel, rfl, by decide +kernel, by decide +kernel⟩, rfl⟩
theorem ck11 : DefChk src.sg d11 := ⟨by decide +kernel, ⟨rfl, rfl, rfl, by decide +kernel, rfl, by decide +kernel, by decide +kernel⟩, rfl⟩
theorem src_chk : SrcChk src where
  defs := fun d h => by
    simp only [src, List.mem_cons, List.not_mem_nil, or_false] at h
    rcases h with rfl | rfl | rfl | rfl | rfl | rfl | rfl | rfl | rfl | rfl | rfl | rfl
    · exact ck0
    · exact ck1
    · exact ck2
    · exact ck3
    · exact ck4
    · exact ck5
    · exact ck6
    · exact ck7
    · exact ck8
    · exact ck9
    · exact ck10
    · exact ck11
  nd := by decide +kernel
  pl := by decide +kernel
  ne := by decide +kernel
  ms := by decide +kernel
theorem all_mk {l : PySem.W.OpenLaw} {w : World} {K : PySem.W.Frag} {h : Heap} {mg : Str → Option Value} {fa : Addr} (X : K.In h) (G : h.Ns mainGlobals mg) (hfa : mg "law" = some (.ref fa))
    {f0 : Addr} {od0 an0 : Option Addr} {sl0 : Array (Option Value)} {oc0 kV0 dc0 pm0 cd0 ct0 : Value}
    {f1 : Addr} {od1 an1 : Option Addr} {sl1 : Array (Option Value)} {oc1 kV1 dc1 pm1 cd1 ct1 : Value}
    {f2 : Addr} {od2 an2 : Option Addr} {sl2 : Array (Option Value)} {oc2 kV2 dc2 pm2 cd2 ct2 : Value}
    {f3 : Addr} {od3 an3 : Option Addr} {sl3 : Array (Option Value)} {oc3 kV3 dc3 pm3 cd3 ct3 : Value}
    {f4 : Addr} {od4 an4 : Option Addr} {sl4 : Array (Option Value)} {oc4 kV4 dc4 pm4 cd4 ct4 : Value}
    {f5 : Addr} {od5 an5 : Option Addr} {sl5 : Array (Option Value)} {oc5 kV5 dc5 pm5 cd5 ct5 : Value}
    {f6 : Addr} {od6 an6 : Option Addr} {sl6 : Array (Option Value)} {oc6 kV6 dc6 pm6 cd6 ct6 : Value}
    {f7 : Addr} {od7 an7 : Option Addr} {sl7 : Array (Option Value)} {oc7 kV7 dc7 pm7 cd7 ct7 : Value}
    {f8 : Addr} {od8 an8 : Option Addr} {sl8 : Array (Option Value)} {oc8 kV8 dc8 pm8 cd8 ct8 : Value}
    {f9 : Addr} {od9 an9 : Option Addr} {sl9 : Array (Option Value)} {oc9 kV9 dc9 pm9 cd9 ct9 : Value}
    {f10 : Addr} {od10 an10 : Option Addr} {sl10 : Array (Option Value)} {oc10 kV10 dc10 pm10 cd10 ct10 : Value}
    {f11 : Addr} {od11 an11 : Option Addr} {sl11 : Array (Option Value)} {oc11 kV11 dc11 pm11 cd11 ct11 : Value}
    (a0 : PySem.W.nsIn K mainGlobals "people_of" = some (some (.ref f0)))
    (l0 : K.lookup f0 = some ⟨oc0, od0, .func (PySem.W.fnOf "people_of" "people_of" (defArgs (d0).st) (defBody (d0).st) (defScope (d0).st) .none kV0 dc0 pm0 an0 cd0 ct0), sl0⟩) (c0 : PySem.W.codeIn K cd0 "people_of" = true) (k0 : PySem.W.keepIn K (.ref f0) = true)
    (a1 : PySem.W.nsIn K mainGlobals "words_of" = some (some (.ref f1)))
    (l1 : K.lookup f1 = some ⟨oc1, od1, .func (PySem.W.fnOf "words_of" "words_of" (defArgs (d1).st) (defBody (d1).st) (defScope (d1).st) .none kV1 dc1 pm1 an1 cd1 ct1), sl1⟩) (c1 : PySem.W.codeIn K cd1 "words_of" = true) (k1 : PySem.W.keepIn K (.ref f1) = true)
    (a2 : PySem.W.nsIn K mainGlobals "deeds_with" = some (some (.ref f2)))
    (l2 : K.lookup f2 = some ⟨oc2, od2, .func (PySem.W.fnOf "deeds_with" "deeds_with" (defArgs (d2).st) (defBody (d2).st) (defScope (d2).st) .none kV2 dc2 pm2 an2 cd2 ct2), sl2⟩) (c2 : PySem.W.codeIn K cd2 "deeds_with" = true) (k2 : PySem.W.keepIn K (.ref f2) = true)
    (a3 : PySem.W.nsIn K mainGlobals "role_of" = some (some (.ref f3)))
    (l3 : K.lookup f3 = some ⟨oc3, od3, .func (PySem.W.fnOf "role_of" "role_of" (defArgs (d3).st) (defBody (d3).st) (defScope (d3).st) .none kV3 dc3 pm3 an3 cd3 ct3), sl3⟩) (c3 : PySem.W.codeIn K cd3 "role_of" = true) (k3 : PySem.W.keepIn K (.ref f3) = true)
    (a4 : PySem.W.nsIn K mainGlobals "kinds_of" = some (some (.ref f4)))
    (l4 : K.lookup f4 = some ⟨oc4, od4, .func (PySem.W.fnOf "kinds_of" "kinds_of" (defArgs (d4).st) (defBody (d4).st) (defScope (d4).st) .none kV4 dc4 pm4 an4 cd4 ct4), sl4⟩) (c4 : PySem.W.codeIn K cd4 "kinds_of" = true) (k4 : PySem.W.keepIn K (.ref f4) = true)
    (a5 : PySem.W.nsIn K mainGlobals "_law_string" = some (some (.ref f5)))
    (l5 : K.lookup f5 = some ⟨oc5, od5, .func (PySem.W.fnOf "_law_string" "_law_string" (defArgs (d5).st) (defBody (d5).st) (defScope (d5).st) .none kV5 dc5 pm5 an5 cd5 ct5), sl5⟩) (c5 : PySem.W.codeIn K cd5 "_law_string" = true) (k5 : PySem.W.keepIn K (.ref f5) = true)
    (a6 : PySem.W.nsIn K mainGlobals "_law_bead" = some (some (.ref f6)))
    (l6 : K.lookup f6 = some ⟨oc6, od6, .func (PySem.W.fnOf "_law_bead" "_law_bead" (defArgs (d6).st) (defBody (d6).st) (defScope (d6).st) .none kV6 dc6 pm6 an6 cd6 ct6), sl6⟩) (c6 : PySem.W.codeIn K cd6 "_law_bead" = true) (k6 : PySem.W.keepIn K (.ref f6) = true)
    (a7 : PySem.W.nsIn K mainGlobals "_law_told" = some (some (.ref f7)))
    (l7 : K.lookup f7 = some ⟨oc7, od7, .func (PySem.W.fnOf "_law_told" "_law_told" (defArgs (d7).st) (defBody (d7).st) (defScope (d7).st) .none kV7 dc7 pm7 an7 cd7 ct7), sl7⟩) (c7 : PySem.W.codeIn K cd7 "_law_told" = true) (k7 : PySem.W.keepIn K (.ref f7) = true)
    (a8 : PySem.W.nsIn K mainGlobals "_law_same" = some (some (.ref f8)))
    (l8 : K.lookup f8 = some ⟨oc8, od8, .func (PySem.W.fnOf "_law_same" "_law_same" (defArgs (d8).st) (defBody (d8).st) (defScope (d8).st) .none kV8 dc8 pm8 an8 cd8 ct8), sl8⟩) (c8 : PySem.W.codeIn K cd8 "_law_same" = true) (k8 : PySem.W.keepIn K (.ref f8) = true)
    (a9 : PySem.W.nsIn K mainGlobals "_law_asked" = some (some (.ref f9)))
    (l9 : K.lookup f9 = some ⟨oc9, od9, .func (PySem.W.fnOf "_law_asked" "_law_asked" (defArgs (d9).st) (defBody (d9).st) (defScope (d9).st) .none kV9 dc9 pm9 an9 cd9 ct9), sl9⟩) (c9 : PySem.W.codeIn K cd9 "_law_asked" = true) (k9 : PySem.W.keepIn K (.ref f9) = true)
    (a10 : PySem.W.nsIn K mainGlobals "_law_hand" = some (some (.ref f10)))
    (l10 : K.lookup f10 = some ⟨oc10, od10, .func (PySem.W.fnOf "_law_hand" "_law_hand" (defArgs (d10).st) (defBody (d10).st) (defScope (d10).st) .none kV10 dc10 pm10 an10 cd10 ct10), sl10⟩) (c10 : PySem.W.codeIn K cd10 "_law_hand" = true) (k10 : PySem.W.keepIn K (.ref f10) = true)
    (a11 : PySem.W.nsIn K mainGlobals "law" = some (some (.ref f11)))
    (l11 : K.lookup f11 = some ⟨oc11, od11, .func (PySem.W.fnOf "law" "law" (defArgs (d11).st) (defBody (d11).st) (defScope (d11).st) .none kV11 dc11 pm11 an11 cd11 ct11), sl11⟩) (c11 : PySem.W.codeIn K cd11 "law" = true) (k11 : PySem.W.keepIn K (.ref f11) = true)
    (z0 : PySem.W.nsIn K mainGlobals "tuple" = some none)
    (z1 : PySem.W.nsIn K mainGlobals "sorted" = some none)
    (z2 : PySem.W.nsIn K mainGlobals "set" = some none)
    (z3 : PySem.W.nsIn K mainGlobals "enumerate" = some none)
    (z4 : PySem.W.nsIn K mainGlobals "abs" = some none)
    (z5 : PySem.W.nsIn K mainGlobals "int" = some none)
    (z6 : PySem.W.nsIn K mainGlobals "range" = some none)
    (z7 : PySem.W.nsIn K mainGlobals "sum" = some none)
    (z8 : PySem.W.nsIn K mainGlobals "len" = some none)
    (z9 : PySem.W.nsIn K mainGlobals "min" = some none)
    (z10 : PySem.W.nsIn K mainGlobals "isinstance" = some none)
    (z11 : PySem.W.nsIn K mainGlobals "str" = some none)
    (z12 : PySem.W.nsIn K mainGlobals "bool" = some none)
    (hl : ∀ ns : List Int, ns.length ≤ 63 → ∃ S', callN src.pg 16 11 [.lst (ns.map .int)] 0 [] = .ok (.bl true) S') :
    ∃ fd : FuncData, (∀ (s : Shared) (v : Value), BindsTo s fd ⟨[v], []⟩ [("script", v)]) ∧ ∀ base : Heap, K.In base → base.Ns mainGlobals mg → FnOk l.prog w K mg base (L2.CX l.prog w) (lev 16) fa fd ["script"] (spLaw K) := by
  obtain rfl : f11 = fa := by
    have e := hfa.symm.trans (PySem.W.mg_of X G a11)
    cases e; rfl
  have F0 := fun_mk (st := (d0).st) l0 c0 k0
  have D0 : DefOk K mg d0 f0 _ := ⟨F0, F0.binds (ps := (d0).ps) (fun _ _ _ _ _ _ us hl => match us, hl with | [_], _ => rfl), rfl, (fun _ => PySem.W.mg_of X G a0), (fun e he => by cases he)⟩
  have F1 := fun_mk (st := (d1).st) l1 c1 k1
  have D1 : DefOk K mg d1 f1 _ := ⟨F1, F1.binds (ps := (d1).ps) (fun _ _ _ _ _ _ us hl => match us, hl with | [_], _ => rfl), rfl, (fun _ => PySem.W.mg_of X G a1), (fun e he => by cases he)⟩
  have F2 := fun_mk (st := (d2).st) l2 c2 k2
  have W2 : ∀ e ∈ (d2).kws, e.2.2.length = (d2).fd.np ∧ ∀ (s : Shared) (us ws : List Value), us.length = e.1 → ws.length = e.2.1.length → BindsTo s (PySem.W.fnOf "deeds_with" "deeds_with" (defArgs (d2).st) (defBody (d2).st) (defScope (d2).st) .none kV2 dc2 pm2 an2 cd2 ct2) ⟨us, e.2.1.zip ws⟩ ((d2).ps.zip (pick e.2.2 .none (us ++ ws))) := by
    intro e he
    simp only [d2, List.mem_cons, List.not_mem_nil, or_false] at he
    subst he
    exact ⟨rfl, fun _ us ws hu hw => match us, ws, hu, hw with | [], [_, _], _, _ => .of_eq rfl⟩
  have D2 : DefOk K mg d2 f2 _ := ⟨F2, F2.binds (ps := (d2).ps) (fun _ _ _ _ _ _ us hl => match us, hl with | [_, _], _ => rfl), rfl, (fun _ => PySem.W.mg_of X G a2), W2⟩
  have F3 := fun_mk (st := (d3).st) l3 c3 k3
  have W3 : ∀ e ∈ (d3).kws, e.2.2.length = (d3).fd.np ∧ ∀ (s : Shared) (us ws : List Value), us.length = e.1 → ws.length = e.2.1.length → BindsTo s (PySem.W.fnOf "role_of" "role_of" (defArgs (d3).st) (defBody (d3).st) (defScope (d3).st) .none kV3 dc3 pm3 an3 cd3 ct3) ⟨us, e.2.1.zip ws⟩ ((d3).ps.zip (pick e.2.2 .none (us ++ ws))) := by
    intro e he
    simp only [d3, List.mem_cons, List.not_mem_nil, or_false] at he
    subst he
    exact ⟨rfl, fun _ us ws hu hw => match us, ws, hu, hw with | [], [_, _], _, _ => .of_eq rfl⟩
  have D3 : DefOk K mg d3 f3 _ := ⟨F3, F3.binds (ps := (d3).ps) (fun _ _ _ _ _ _ us hl => match us, hl with | [_, _], _ => rfl), rfl, (fun _ => PySem.W.mg_of X G a3), W3⟩
  have F4 := fun_mk (st := (d4).st) l4 c4 k4
  have W4 : ∀ e ∈ (d4).kws, e.2.2.length = (d4).fd.np ∧ ∀ (s : Shared) (us ws : List Value), us.length = e.1 → ws.length = e.2.1.length → BindsTo s (PySem.W.fnOf "kinds_of" "kinds_of" (defArgs (d4).st) (defBody (d4).st) (defScope (d4).st) .none kV4 dc4 pm4 an4 cd4 ct4) ⟨us, e.2.1.zip ws⟩ ((d4).ps.zip (pick e.2.2 .none (us ++ ws))) := by
    intro e he
    simp only [d4, List.mem_cons, List.not_mem_nil, or_false] at he
    subst he
    exact ⟨rfl, fun _ us ws hu hw => match us, ws, hu, hw with | [], [_], _, _ => .of_eq rfl⟩
  have D4 : DefOk K mg d4 f4 _ := ⟨F4, F4.binds (ps := (d4).ps) (fun _ _ _ _ _ _ us hl => match us, hl with | [_], _ => rfl), rfl, (fun _ => PySem.W.mg_of X G a4), W4⟩
  have F5 := fun_mk (st := (d5).st) l5 c5 k5
  have D5 : DefOk K mg d5 f5 _ := ⟨F5, F5.binds (ps := (d5).ps) (fun _ _ _ _ _ _ us hl => match us, hl with | [_], _ => rfl), rfl, (fun _ => PySem.W.mg_of X G a5), (fun e he => by cases he)⟩
  have F6 := fun_mk (st := (d6).st) l6 c6 k6
  have D6 : DefOk K mg d6 f6 _ := ⟨F6, F6.binds (ps := (d6).ps) (fun _ _ _ _ _ _ us hl => match us, hl with | [_, _], _ => rfl), rfl, (fun _ => PySem.W.mg_of X G a6), (fun e he => by cases he)⟩
  have F7 := fun_mk (st := (d7).st) l7 c7 k7
  have D7 : DefOk K mg d7 f7 _ := ⟨F7, F7.binds (ps := (d7).ps) (fun _ _ _ _ _ _ us hl => match us, hl with | [_, _], _ => rfl), rfl, (fun _ => PySem.W.mg_of X G a7), (fun e he => by cases he)⟩
  have F8 := fun_mk (st := (d8).st) l8 c8 k8
  have D8 : DefOk K mg d8 f8 _ := ⟨F8, F8.binds (ps := (d8).ps) (fun _ _ _ _ _ _ us hl => match us, hl with | [_, _], _ => rfl), rfl, (fun _ => PySem.W.mg_of X G a8), (fun e he => by cases he)⟩
  have F9 := fun_mk (st := (d9).st) l9 c9 k9
  have D9 : DefOk K mg d9 f9 _ := ⟨F9, F9.binds (ps := (d9).ps) (fun _ _ _ _ _ _ us hl => match us, hl with | [_, _], _ => rfl), rfl, (fun _ => PySem.W.mg_of X G a9), (fun e he => by cases he)⟩
  have F10 := fun_mk (st := (d10).st) l10 c10 k10
  have D10 : DefOk K mg d10 f10 _ := ⟨F10, F10.binds (ps := (d10).ps) (fun _ _ _ _ _ _ us hl => match us, hl with | [], _ => rfl), rfl, (fun _ => PySem.W.mg_of X G a10), (fun e he => by cases he)⟩
  have F11 := fun_mk (st := (d11).st) l11 c11 k11
  have D11 : DefOk K mg d11 f11 _ := ⟨F11, F11.binds (ps := (d11).ps) (fun _ _ _ _ _ _ us hl => match us, hl with | [_], _ => rfl), rfl, (fun _ => PySem.W.mg_of X G a11), (fun e he => by cases he)⟩
  have o : SrcOk src K mg [(f0, PySem.W.fnOf "people_of" "people_of" (defArgs (d0).st) (defBody (d0).st) (defScope (d0).st) .none kV0 dc0 pm0 an0 cd0 ct0), (f1, PySem.W.fnOf "words_of" "words_of" (defArgs (d1).st) (defBody (d1).st) (defScope (d1).st) .none kV1 dc1 pm1 an1 cd1 ct1), (f2, PySem.W.fnOf "deeds_with" "deeds_with" (defArgs (d2).st) (defBody (d2).st) (defScope (d2).st) .none kV2 dc2 pm2 an2 cd2 ct2), (f3, PySem.W.fnOf "role_of" "role_of" (defArgs (d3).st) (defBody (d3).st) (defScope (d3).st) .none kV3 dc3 pm3 an3 cd3 ct3), (f4, PySem.W.fnOf "kinds_of" "kinds_of" (defArgs (d4).st) (defBody (d4).st) (defScope (d4).st) .none kV4 dc4 pm4 an4 cd4 ct4), (f5, PySem.W.fnOf "_law_string" "_law_string" (defArgs (d5).st) (defBody (d5).st) (defScope (d5).st) .none kV5 dc5 pm5 an5 cd5 ct5), (f6, PySem.W.fnOf "_law_bead" "_law_bead" (defArgs (d6).st) (defBody (d6).st) (defScope (d6).st) .none kV6 dc6 pm6 an6 cd6 ct6), (f7, PySem.W.fnOf "_law_told" "_law_told" (defArgs (d7).st) (defBody (d7).st) (defScope (d7).st) .none kV7 dc7 pm7 an7 cd7 ct7), (f8, PySem.W.fnOf "_law_same" "_law_same" (defArgs (d8).st) (defBody (d8).st) (defScope (d8).st) .none kV8 dc8 pm8 an8 cd8 ct8), (f9, PySem.W.fnOf "_law_asked" "_law_asked" (defArgs (d9).st) (defBody (d9).st) (defScope (d9).st) .none kV9 dc9 pm9 an9 cd9 ct9), (f10, PySem.W.fnOf "_law_hand" "_law_hand" (defArgs (d10).st) (defBody (d10).st) (defScope (d10).st) .none kV10 dc10 pm10 an10 cd10 ct10), (f11, PySem.W.fnOf "law" "law" (defArgs (d11).st) (defBody (d11).st) (defScope (d11).st) .none kV11 dc11 pm11 an11 cd11 ct11)] [] := by
    refine ⟨⟨D0, D1, D2, D3, D4, D5, D6, D7, D8, D9, D10, D11, trivial⟩, fun x hx => ?_, trivial, fun x hx => ?_⟩
    · simp only [src, List.mem_cons, List.not_mem_nil, or_false] at hx
    · simp only [src, List.mem_cons, List.not_mem_nil, or_false] at hx
      rcases hx with rfl | rfl | rfl | rfl | rfl | rfl | rfl | rfl | rfl | rfl | rfl | rfl | rfl
      · exact PySem.W.mg_none_of X G z0
      · exact PySem.W.mg_none_of X G z1
      · exact PySem.W.mg_none_of X G z2
      · exact PySem.W.mg_none_of X G z3
      · exact PySem.W.mg_none_of X G z4
      · exact PySem.W.mg_none_of X G z5
      · exact PySem.W.mg_none_of X G z6
      · exact PySem.W.mg_none_of X G z7
      · exact PySem.W.mg_none_of X G z8
      · exact PySem.W.mg_none_of X G z9
      · exact PySem.W.mg_none_of X G z10
      · exact PySem.W.mg_none_of X G z11
      · exact PySem.W.mg_none_of X G z12
  refine ⟨_, fun s v => .of_eq rfl, fun base _ _ => law_ok (r := src) (fL := 11) (d := d11) (x := (f11, _)) o src_chk rfl rfl hl rfl⟩
end Mi

namespace Mi
/-! ## Plain laws of the interpreter -/
/-- a for that ends -/
theorem forL_inv {body : D → Env → Sto → SR} {items : List D} {env : Env} {S : Sto} (P : Nat → Env → Sto → Prop) (h0 : P 0 env S)
    (hs : ∀ (i : Nat) (d : D) (e : Env) (S : Sto), items[i]? = some d → P i e S → ∃ e' S', (body d e S = .nx e' S' ∨ body d e S = .ct e' S') ∧ P (i + 1) e' S') : ∃ e' S', forL body items env S = .nx e' S' ∧ P items.length e' S' := by
  have key : ∀ (l : List D) (i : Nat) (e : Env) (S : Sto), i ≤ items.length → items.drop i = l → P i e S → ∃ e' S', forL body l e S = .nx e' S' ∧ P items.length e' S' := by
    intro l
    induction l with
    | nil =>
      intro i e S hi hl hp
      have h2 : items.length ≤ i := by
        have := congrArg List.length hl
        rw [List.length_drop] at this
        simp at this; omega
      have : i = items.length := Nat.le_antisymm hi h2
      exact ⟨e, S, rfl, this ▸ hp⟩
    | cons d ds ih =>
      intro i e S hi hl hp
      have hd : items[i]? = some d := by
        have := congrArg List.head? hl
        rw [List.head?_drop] at this
        simpa using this
      have hlt : i < items.length := (List.getElem?_eq_some_iff.mp hd).1
      obtain ⟨e', S', h1, h2⟩ := hs i d e S hd hp
      have hl' : items.drop (i + 1) = ds := by
        have := congrArg List.tail hl
        rw [List.tail_drop] at this
        simpa using this
      obtain ⟨e2, S2, h3, h4⟩ := ih (i + 1) e' S' hlt hl' h2
      refine ⟨e2, S2, ?_, h4⟩
      unfold forL
      rcases h1 with h1 | h1 <;> rw [h1] <;> exact h3
  exact key items 0 env S (Nat.zero_le _) rfl h0
/-- a comprehension whose turns only tell -/
theorem compL_map {turn : D → List D → Sto → Rs (List D)} {S : Sto} (g : D → D) : ∀ (items acc : List D), (∀ d ∈ items, ∀ acc, acc.length < sizeLim → turn d acc S = .ok (acc ++ [g d]) S) → acc.length + items.length ≤ sizeLim → compL turn items acc S = .ok (acc ++ items.map g) S
  | [], acc, _, _ => by simp [compL]
  | d :: ds, acc, h, hl => by
    unfold compL
    rw [h d (List.mem_cons_self ..) acc (by simp at hl; omega)]
    show compL turn ds (acc ++ [g d]) S = _
    rw [compL_map g ds _ (fun d hd => h d (List.mem_cons_of_mem _ hd)) (by simp at hl ⊢; omega)]
    simp
theorem rangeOf_get {lo hi : Int} {i : Nat} {d : D} (h : (rangeOf lo hi)[i]? = some d) : d = .int (lo + i) ∧ i < (hi - lo).toNat := by
  unfold rangeOf at h
  rw [List.getElem?_map] at h
  obtain ⟨k, h1, h2⟩ := Option.map_eq_some_iff.mp h
  obtain ⟨h3, h4⟩ := List.getElem?_eq_some_iff.mp h1
  rw [List.getElem_range] at h4
  subst h4
  rw [List.length_range] at h3
  exact ⟨h2.symm, h3⟩
theorem rangeOf_len (lo hi : Int) : (rangeOf lo hi).length = (hi - lo).toNat := by simp [rangeOf]
theorem place_nat {n k : Nat} (h : k < n) : place n (k : Int) = some k := by
  unfold place
  rw [if_pos (by omega), if_pos (by omega)]
  simp
/-! ### steps -/
section
variable {α β : Type} {a : α} {S : Sto} {k : α → Sto → Rs β} {env : Env} {x : Xn} {d : D} {kd : D → Sto → SR} {ke : Env → Sto → SR} {n : Nat}
theorem r_to : (Rs.ok a S).to k = k a S := (rfl)
theorem r_toX : (Rs.ex x S : Rs α).to k = .ex x S := (rfl)
theorem r_ofE : ofE env (.ok d S) kd = kd d S := (rfl)
theorem r_ofX : ofE env (.ex x S) kd = .ex x env S := (rfl)
theorem r_ofT {e : Env} : ofT (.ok e S) ke = ke e S := (rfl)
theorem r_rets : rets (some d) S = .ok d S := (rfl)
theorem r_retb {b : Bool} : retb (some b) S = .ok (.bl b) S := (rfl)
theorem r_get0 {l : Env} : getV (some d :: l) 0 = some d := (rfl)
theorem r_getS {o : Option D} {l : Env} : getV (o :: l) (n + 1) = getV l n := (rfl)
theorem r_toB (r : Rs D) : toB r = r.to fun d S => match truth S d with
  | some b => .ok b S
  | none => .no := (rfl)
theorem v_non : D.val S .non = .non := (rfl)
theorem v_bl {b : Bool} : D.val S (.bl b) = .bl b := (rfl)
theorem v_int {i : Int} : D.val S (.int i) = .int i := (rfl)
theorem v_str {s : List Nat} : D.val S (.str s) = .str s := (rfl)
theorem v_tup {s : List D} : D.val S (.tup s) = .tup s := (rfl)
theorem v_lst {s : List D} : D.val S (.lst s) = .lst s := (rfl)
theorem v_dic {s : List (D × D)} : D.val S (.dic s) = .dic s := (rfl)
theorem v_ref : D.val S (.ref n) = match S[n]? with
  | some o => match o.here with
    | .lst l => .lst l
    | .dic l => .dic l
    | _ => .ref n
  | none => .ref n := (rfl)
theorem h_lst {l : List D} : (MO.lst l).here = .lst l := (rfl)
theorem h_dic {l : List (D × D)} : (MO.dic l).here = .dic l := (rfl)
theorem h_ins {c : Nat} {l : List (Nat × D)} : (MO.ins c l).here = .ins c l := (rfl)
theorem h_lck {o : MO} : (MO.lck o).here = o := (rfl)
theorem q_non : truth S .non = some false := (rfl)
theorem q_bl {b : Bool} : truth S (.bl b) = some b := (rfl)
theorem q_int {i : Int} : truth S (.int i) = some (i != 0) := (rfl)
theorem q_tup {l : List D} : truth S (.tup l) = some (!l.isEmpty) := (rfl)
theorem q_lst {l : List D} : truth S (.lst l) = some (!l.isEmpty) := (rfl)
theorem q_ref {l : List D} (h : S[n]? = some (.lst l)) : truth S (.ref n) = some (!l.isEmpty) := by simp only [truth, D.val, h, MO.here]
theorem l_int {i : Int} : D.lt n (.int i) = true := (rfl)
theorem l_bl {b : Bool} : D.lt n (.bl b) = true := (rfl)
theorem l_str {s : List Nat} : D.lt n (.str s) = true := (rfl)
theorem l_non : D.lt n .non = true := (rfl)
theorem fin_ok (h : d.lt n = true) : fin false n d S = .ok d (S.take n) := by unfold fin; rw [h]; rfl
theorem fin_keep : fin true n d S = .ok d S := (rfl)
end
theorem place_some {n : Nat} {i : Int} (h0 : 0 ≤ i) (h : i < n) : place n i = some i.toNat := by
  unfold place
  rw [if_pos h0, if_pos h]
theorem runF_nx {c : Ctx} {fd : FD} {args : List D} {base : Nat} {S S1 : Sto} {e : Env} (h : exs { c with base := if fd.keep then base else S.length } fd.body (args.map some ++ List.replicate (fd.nv - args.length) none) S = .nx e S1) : runF c fd args base S = fin fd.keep S.length .non S1 := by unfold runF; rw [h]
theorem runF_rt {c : Ctx} {fd : FD} {args : List D} {base : Nat} {S S1 : Sto} {d : D} (h : exs { c with base := if fd.keep then base else S.length } fd.body (args.map some ++ List.replicate (fd.nv - args.length) none) S = .rt d S1) : runF c fd args base S = fin fd.keep S.length d S1 := by unfold runF; rw [h]
theorem callN_run {P : Prog} {n f base : Nat} {args : List D} {S : Sto} {fd : FD} (h : P.fd f = some fd) (hl : args.length = fd.np) : callN P (n + 1) f args base S = runF ⟨callN P n, P.mth, P.gl, base, P.fuel⟩ fd args base S := by
  unfold callN
  rw [h]
  exact if_pos hl
theorem c_eqI {i j : Int} : cmpop .eq (.int i) (.int j) = some (i == j) := (rfl)
theorem c_neI {i j : Int} : cmpop .ne (.int i) (.int j) = some (!(i == j)) := (rfl)
theorem c_eqS {i j : List Nat} : cmpop .eq (.str i) (.str j) = some (i == j) := (rfl)
theorem c_neS {i j : List Nat} : cmpop .ne (.str i) (.str j) = some (!(i == j)) := (rfl)
theorem c_lt {i j : Int} : cmpop .lt (.int i) (.int j) = some (decide (i < j)) := (rfl)
theorem c_le {i j : Int} : cmpop .le (.int i) (.int j) = some (decide (i ≤ j)) := (rfl)
theorem c_gt {i j : Int} : cmpop .gt (.int i) (.int j) = some (decide (j < i)) := (rfl)
theorem c_ge {i j : Int} : cmpop .ge (.int i) (.int j) = some (decide (j ≤ i)) := (rfl)
theorem b_add {i j : Int} : binop .add (.int i) (.int j) = some (.int (i + j)) := (rfl)
theorem b_sub {i j : Int} : binop .sub (.int i) (.int j) = some (.int (i - j)) := (rfl)
theorem b_mul {i j : Int} (h : mulOk i j = true) : binop .mul (.int i) (.int j) = some (.int (i * j)) := if_pos h
theorem mulOk_l {i j : Int} (h : -18446744073709551616 < i) (h2 : i < 18446744073709551616) : mulOk i j = true := by simp [mulOk, h, h2]
theorem mulOk_r {i j : Int} (h : -18446744073709551616 < j) (h2 : j < 18446744073709551616) : mulOk i j = true := by simp [mulOk, h, h2]
theorem b_fdiv {i j : Int} (h : 0 < j) (h2 : j < 18446744073709551616) : binop .fdiv (.int i) (.int j) = some (.int (i / j)) := if_pos ⟨h, h2⟩
theorem b_mod {i j : Int} (h : 0 < j) : binop .mod (.int i) (.int j) = some (.int (i % j)) := if_pos h
theorem b_addT {x y : List D} (h : x.length + y.length ≤ sizeLim) : binop .add (.tup x) (.tup y) = some (.tup (x ++ y)) := if_pos h
theorem b_addL {x y : List D} (h : x.length + y.length ≤ sizeLim) : binop .add (.lst x) (.lst y) = some (.lst (x ++ y)) := if_pos h
theorem b_addS {x y : List Nat} (h : x.length + y.length ≤ sizeLim) : binop .add (.str x) (.str y) = some (.str (x ++ y)) := if_pos h
theorem i_tup {l : List D} {k j : Int} : index (.tup l) (.int k) = (place l.length k).bind fun j => l[j]? := (rfl)
theorem i_lst {l : List D} {k j : Int} : index (.lst l) (.int k) = (place l.length k).bind fun j => l[j]? := (rfl)
theorem i_tupN {l : List D} {k : Nat} {d : D} (h : l[k]? = some d) : index (.tup l) (.int (k : Int)) = some d := by
  show (place l.length k).bind _ = _
  rw [place_nat (List.getElem?_eq_some_iff.mp h).1]
  exact h
theorem i_lstN {l : List D} {k : Nat} {d : D} (h : l[k]? = some d) : index (.lst l) (.int (k : Int)) = some d := by
  show (place l.length k).bind _ = _
  rw [place_nat (List.getElem?_eq_some_iff.mp h).1]
  exact h
theorem p_lenT {s : List D} {S : Sto} {b : Nat} : prim b .len [.tup s] S = .ok (.int s.length) S := (rfl)
theorem p_lenL {s : List D} {S : Sto} {b : Nat} : prim b .len [.lst s] S = .ok (.int s.length) S := (rfl)
theorem p_lenS {s : List Nat} {S : Sto} {b : Nat} (h : s.length ≤ sizeLim) : prim b .len [.str s] S = .ok (.int s.length) S := if_pos h
theorem p_lenR {s : List D} {S : Sto} {b n : Nat} (h : S[n]? = some (.lst s)) : prim b .len [.ref n] S = .ok (.int s.length) S := by simp only [prim, pLen, D.val, h, MO.here]
theorem p_int {i : Int} {S : Sto} {b : Nat} : prim b .int [.int i] S = .ok (.int i) S := (rfl)
theorem p_intB {i : Bool} {S : Sto} {b : Nat} : prim b .int [.bl i] S = .ok (.int (b2i i)) S := (rfl)
theorem p_abs {i : Int} {S : Sto} {b : Nat} : prim b .abs [.int i] S = .ok (.int (if i < 0 then -i else i)) S := (rfl)
theorem p_min {i j : Int} {S : Sto} {b : Nat} : prim b .min2 [.int i, .int j] S = .ok (.int (if j < i then j else i)) S := (rfl)
theorem p_tupL {l : List D} {S : Sto} {b : Nat} : prim b .tuple [.lst l] S = .ok (.tup l) S := (rfl)
theorem p_tupT {l : List D} {S : Sto} {b : Nat} : prim b .tuple [.tup l] S = .ok (.tup l) S := (rfl)
theorem p_tupR {s : List D} {S : Sto} {b n : Nat} (h : S[n]? = some (.lst s)) : prim b .tuple [.ref n] S = .ok (.tup s) S := by simp only [prim, pTuple, D.val, h, MO.here]
theorem p_isStr {s : List Nat} {S : Sto} {b : Nat} : prim b (.isinst .str) [.str s] S = .ok (.bl true) S := (rfl)
theorem p_isTup {s : List D} {S : Sto} {b : Nat} : prim b (.isinst .tuple) [.tup s] S = .ok (.bl true) S := (rfl)
theorem p_isInt {i : Int} {S : Sto} {b : Nat} : prim b (.isinst .int) [.int i] S = .ok (.bl true) S := (rfl)
theorem p_isBool {i : Int} {S : Sto} {b : Nat} : prim b (.isinst .bool) [.int i] S = .ok (.bl false) S := (rfl)
theorem p_app {s : List D} {x : D} {S : Sto} {b n : Nat} (h : S[n]? = some (.lst s)) (hl : s.length < sizeLim) (hp : b ≤ n ∨ x.pure = true) : prim b .append [.ref n, x] S = .ok .non (S.set n (.lst (s ++ [x]))) := by
  simp only [prim, pAppend, h]
  exact if_pos ⟨hl, hp⟩
theorem p_popi {s : List D} {S : Sto} {b n k : Nat} {x : D} (h : S[n]? = some (.lst s)) (hk : s[k]? = some x) : prim b .popi [.ref n, .int (k : Int)] S = .ok x (S.set n (.lst (s.eraseIdx k))) := by
  simp only [prim, pPopi, h, place_nat (List.getElem?_eq_some_iff.mp hk).1, hk]
theorem p_pop {s : List D} {S : Sto} {b n : Nat} {x : D} (h : S[n]? = some (.lst (s ++ [x]))) : prim b .pop [.ref n] S = .ok x (S.set n (.lst s)) := by
  simp only [prim, pPop, h, List.getLast?_concat, List.dropLast_concat]
/-! ### the terms -/
section
variable {c : Ctx} {env : Env} {S : Sto} {d : D} {i k f m : Nat} {op : BOp} {co o1 o2 : COp} {a b e t : E} {es ks : List E} {mm : Bool} {lo hi : Option E} {p : Pr} {perm own : List Nat} {gs : List G} {tg : T} {it : I} {ts : List T} {ds : List D} {st : St} {ss B1 B2 : List St}
theorem e_lit : ev c (.lit d) env S = .ok d S := by simp only [ev]
theorem e_var : ev c (.var i) env S = rets (getV env i) S := by simp only [ev]
theorem e_gl : ev c (.gl k) env S = rets (c.gl k) S := by simp only [ev]
theorem e_bin : ev c (.bin op a b) env S = (ev c a env S).to fun x S1 => (ev c b env S1).to fun y S2 => rets (binop op (x.val S2) (y.val S2)) S2 := by simp only [ev]
theorem e_neg : ev c (.neg a) env S = (ev c a env S).to fun x S1 => match x with
    | .int i => .ok (.int (-i)) S1
    | _ => .no := by simp only [ev] <;> rfl
theorem e_not : ev c (.not a) env S = (ev c a env S).to fun x S1 => retb ((truth S1 x).map (!·)) S1 := by simp only [ev]
theorem e_cmp : ev c (.cmp co a b) env S = (ev c a env S).to fun x S1 => (ev c b env S1).to fun y S2 => retb (cmpop co (x.val S2) (y.val S2)) S2 := by simp only [ev]
theorem e_chain : ev c (.chain o1 o2 a b e) env S = (ev c a env S).to fun x S1 => (ev c b env S1).to fun y S2 => match cmpop o1 (x.val S2) (y.val S2) with
    | some true => (ev c e env S2).to fun z S3 => retb (cmpop o2 (y.val S3) (z.val S3)) S3
    | some false => .ok (.bl false) S2
    | none => .no := by simp only [ev] <;> rfl
theorem e_and : ev c (.and es) env S = evAnd c es env S := by simp only [ev]
theorem e_or : ev c (.or es) env S = evOr c es env S := by simp only [ev]
theorem e_ite : ev c (.ite t a b) env S = (ev c t env S).to fun x S1 => match truth S1 x with
    | some true => ev c a env S1
    | some false => ev c b env S1
    | none => .no := by simp only [ev] <;> rfl
theorem e_tup : ev c (.tup es) env S = (evs c es env S).to fun xs S1 => if xs.length ≤ sizeLim then .ok (.tup xs) S1 else .no := by simp only [ev]
theorem e_lst : ev c (.lst mm es) env S = (evs c es env S).to fun xs S1 => newL mm xs S1 := by simp only [ev]
theorem e_dic : ev c (.dic mm es) env S = newD mm (noEx (evs c es env S)) := by simp only [ev]
theorem e_ix : ev c (.ix a b) env S = (ev c a env S).to fun x S1 => (ev c b env S1).to fun y S2 => rets (index (x.val S2) y) S2 := by simp only [ev]
theorem e_sl : ev c (.sl a lo hi) env S = (ev c a env S).to fun x S1 => (evO c lo env S1).to fun l S2 => (evO c hi env S2).to fun h S3 => rets (slice (x.val S3) l h) S3 := by simp only [ev]
theorem e_call : ev c (.call f es) env S = (evs c es env S).to fun xs S1 => c.call f xs c.base S1 := by simp only [ev]
theorem e_callk : ev c (.callk f perm es ks) env S = (evs c es env S).to fun xs S1 => (evs c ks env S1).to fun ys S2 => c.call f (pick perm .non (xs ++ ys)) c.base S2 := by simp only [ev]
theorem e_rng : ev c (.rng k es) env S = (evs c es env S).to fun xs S1 => newR k xs S1 := by simp only [ev]
theorem e_pri : ev c (.pri p es) env S = (evs c es env S).to fun xs S1 => prim c.base p xs S1 := by simp only [ev]
theorem e_met : ev c (.met p e es) env S = (ev c e env S).to fun x S1 => if recvOk p (x.val S1) then (evs c es env S1).to fun xs S2 => prim c.base p (x :: xs) S2 else .no := by simp only [ev]
theorem e_mk : ev c (.mk k es) env S = (evs c es env S).to fun xs S1 => match c.mth k 0 with
    | some f => (c.call f (.ref S1.length :: xs) c.base (S1 ++ [.ins k []])).to fun d S2 => match d with
      | .non => .ok (.ref S1.length) S2
      | _ => .no
    | none => .no := by simp only [ev] <;> rfl
theorem e_mth : ev c (.mth m e es) env S = (ev c e env S).to fun x S1 => match recvM c.mth S1 x m with
    | some f => (evs c es env S1).to fun xs S2 => c.call f (x :: xs) c.base S2
    | none => .no := by simp only [ev] <;> rfl
theorem e_att : ev c (.att e f) env S = (ev c e env S).to fun x S1 => rets (attGet S1 x f) S1 := by simp only [ev]
theorem e_frz : ev c (.frz e) env S = (ev c e env S).to freeze := by simp only [ev]
theorem e_lc1 : ev c (.lc mm own e [.mk tg it es]) env S = (noEx ((evI c it (wipeE env own) S).to fun p S1 => match p.2 with
    | some _ => .no
    | none => compL (fun d acc S2 => (evT c tg d (wipeE (wipeE env own) tg.slots) S2).to fun e' S3 => (evIfs c es e' S3).to fun b S4 => if b then ((ev c e e' S4).to fun d S2 => if acc.length < sizeLim then .ok (acc ++ [d]) S2 else .no) else .ok acc S4) p.1 [] S1)).to fun l S1 => if mm then .ok (.ref S1.length) (S1 ++ [.lst l]) else .ok (.lst l) S1 := by simp only [ev, evG] <;> rfl
theorem e_nil : evs c [] env S = .ok [] S := by simp only [evs]
theorem e_cons : evs c (e :: es) env S = (ev c e env S).to fun x S1 => (evs c es env S1).to fun xs S2 => .ok (x :: xs) S2 := by simp only [evs]
theorem e_oN : evO c none env S = .ok none S := by simp only [evO]
theorem e_oS : evO c (some e) env S = (ev c e env S).to fun x S1 => match x with
    | .int i => .ok (some i) S1
    | _ => .no := by simp only [evO] <;> rfl
theorem e_and1 : evAnd c [e] env S = ev c e env S := by simp only [evAnd]
theorem e_and2 : evAnd c (a :: b :: es) env S = (ev c a env S).to fun x S1 => match truth S1 x with
    | some true => evAnd c (b :: es) env S1
    | some false => .ok x S1
    | none => .no := by simp only [evAnd] <;> rfl
theorem e_or1 : evOr c [e] env S = ev c e env S := by simp only [evOr]
theorem e_or2 : evOr c (a :: b :: es) env S = (ev c a env S).to fun x S1 => match truth S1 x with
    | some true => .ok x S1
    | some false => evOr c (b :: es) env S1
    | none => .no := by simp only [evOr] <;> rfl
theorem e_iE : evI c (.e e) env S = (ev c e env S).to fun x S1 => match itemsOf S1 x with
    | some p => .ok p S1
    | none => .no := by simp only [evI] <;> rfl
def rngI (xs : List D) (S1 : Sto) : Rs (List D × Option Nat) := match xs with
    | [.int j] => if -(2 ^ 62) ≤ j ∧ j < 2 ^ 62 then .ok (rangeOf 0 j, none) S1 else .no
    | [.int i, .int j] => if -(2 ^ 62) ≤ i ∧ i < 2 ^ 62 ∧ -(2 ^ 62) ≤ j ∧ j < 2 ^ 62 then .ok (rangeOf i j, none) S1 else .no
    | _ => .no
theorem e_iR : evI c (.range es) env S = (evs c es env S).to rngI := by simp only [evI, rngI] <;> rfl
theorem rngI1 {j : Int} (h : -4611686018427387904 ≤ j) (h2 : j < 4611686018427387904) : rngI [.int j] S = .ok (rangeOf 0 j, none) S := by
  unfold rngI
  exact if_pos ⟨by omega, by omega⟩
theorem rngI2 {i j : Int} (h : -4611686018427387904 ≤ i) (h2 : i < 4611686018427387904) (h3 : -4611686018427387904 ≤ j) (h4 : j < 4611686018427387904) : rngI [.int i, .int j] S = .ok (rangeOf i j, none) S := by
  unfold rngI
  exact if_pos ⟨by omega, by omega, by omega, by omega⟩
theorem e_tV : evT c (.var i) d env S = .ok (env.set i (some d)) S := by simp only [evT]
theorem e_tT : evT c (.tup ts) (.tup ds) env S = evTs c ts ds env S := by simp only [evT]
theorem e_tS : evT c (.sub a b) d env S = (ev c a env S).to fun o S1 => (ev c b env S1).to fun k S2 => match setItem c.base o k d S2 with
    | some S3 => .ok env S3
    | none => .no := by simp only [evT] <;> rfl
theorem e_tA : evT c (.att e f) d env S = (ev c e env S).to fun x S1 => match attSet c.base S1 x f d with
    | some S2 => .ok env S2
    | none => .no := by simp only [evT] <;> rfl
theorem e_ts0 : evTs c [] [] env S = .ok env S := by simp only [evTs]
theorem e_ts : evTs c (tg :: ts) (d :: ds) env S = (evT c tg d env S).to fun e S1 => evTs c ts ds e S1 := by simp only [evTs]
theorem e_if0 : evIfs c [] env S = .ok true S := by simp only [evIfs]
theorem e_if1 : evIfs c (e :: es) env S = (toB (ev c e env S)).to fun b S1 => if b then evIfs c es env S1 else .ok false S1 := by simp only [evIfs]
theorem s_asg : ex c (.asg tg e) env S = ofE env (ev c e env S) fun d S1 => ofT (evT c tg d env S1) .nx := by simp only [ex]
theorem s_asgc : ex c (.asgc i mm own e gs) env S = ofE env (ev c (.lc mm own e gs) env S) fun d S1 => ofT (Rs.ok (env.set i (some d)) S1) .nx := by simp only [ex]
theorem s_par : ex c (.par own es) env S = match evs c es env S with
    | .ok ds S1 => if own.length = ds.length then .nx ((own.zip ds).foldl (fun e p => e.set p.1 (some p.2)) env) S1 else .no
    | .ex x S1 => .ex x env S1
    | .no => .no := by simp only [ex] <;> rfl
theorem s_expr : ex c (.expr e) env S = ofE env (ev c e env S) fun _ S1 => .nx env S1 := by simp only [ex]
theorem s_iff : ex c (.iff t B1 B2) env S = ofE env (ev c t env S) fun x S1 => match truth S1 x with
    | some true => exs c B1 env S1
    | some false => exs c B2 env S1
    | none => .no := by simp only [ex] <;> rfl
def frW (c : Ctx) (tg : T) (B1 : List St) (env : Env) (S1 : Sto) (p : List D × Option Nat) : SR := (forL (fun d e S' => ofT (evT c tg d e S') fun e' S2 => exs c B1 e' S2) p.1 env (lockS S1 p.2)).unlock p.2
theorem s_fr : ex c (.fr tg it B1) env S = match evI c it env S with
    | .ok p S1 => frW c tg B1 env S1 p
    | .ex x S1 => .ex x env S1
    | .no => .no := by simp only [ex, frW] <;> rfl
theorem s_whl : ex c (.whl t B1) env S = whileL (fun e S' => toB (ev c t e S')) (fun e S' => exs c B1 e S') c.fuel env S := by simp only [ex]
theorem s_ret0 : ex c (.ret none) env S = .rt .non S := by simp only [ex]
theorem s_ret : ex c (.ret (some e)) env S = ofE env (ev c e env S) .rt := by simp only [ex]
theorem s_brk : ex c .brk env S = .bk env S := by simp only [ex]
theorem s_cnt : ex c .cnt env S = .ct env S := by simp only [ex]
theorem s_pass : ex c .pass env S = .nx env S := by simp only [ex]
theorem s_nil : exs c [] env S = .nx env S := by simp only [exs]
/-- then -/
def SR.thn (r : SR) (k : Env → Sto → SR) : SR := match r with
  | .nx e S1 => k e S1
  | r => r
theorem s_cons : exs c (st :: ss) env S = (ex c st env S).thn fun e S1 => exs c ss e S1 := by simp only [exs, SR.thn] <;> rfl
end
section
variable {env : Env} {S : Sto} {d : D} {k : Env → Sto → SR} {x : Xn}
theorem n_nx : (SR.nx env S).thn k = k env S := (rfl)
theorem n_rt : (SR.rt d S).thn k = .rt d S := (rfl)
theorem n_bk : (SR.bk env S).thn k = .bk env S := (rfl)
theorem n_ct : (SR.ct env S).thn k = .ct env S := (rfl)
theorem n_ex : (SR.ex x env S).thn k = .ex x env S := (rfl)
end
/-- a for over what is no object of the store -/
theorem frW_inv {c : Ctx} {tg : T} {B : List St} {env : Env} {S : Sto} {items : List D} (P : Nat → Env → Sto → Prop) (h0 : P 0 env S)
    (hs : ∀ (i : Nat) (d : D) (e : Env) (S : Sto), items[i]? = some d → P i e S → ∃ e' S', (ofT (evT c tg d e S) (fun e' S2 => exs c B e' S2) = .nx e' S' ∨ ofT (evT c tg d e S) (fun e' S2 => exs c B e' S2) = .ct e' S') ∧ P (i + 1) e' S') :
    ∃ e' S', frW c tg B env S (items, none) = .nx e' S' ∧ P items.length e' S' := by
  obtain ⟨e', S', h1, h2⟩ := forL_inv (body := fun d e S' => ofT (evT c tg d e S') fun e' S2 => exs c B e' S2) P h0 hs
  exact ⟨e', S', by unfold frW; show SR.unlock none (forL _ items env S) = _; rw [h1]; rfl, h2⟩
/-- a comprehension over a range, its turns only tell -/
theorem lc_range {c : Ctx} {env : Env} {S : Sto} {i m : Nat} {lo : Int} {e : E} {it : I} (h : Nat → D) (hI : evI c it (wipeE env [i]) S = .ok ((List.range m).map (fun (k : Nat) => D.int (lo + k)), none) S)
    (he : ∀ k : Nat, k < m → ev c e ((wipeE (wipeE env [i]) [i]).set i (some (.int (lo + k)))) S = .ok (h k) S) (hz : m ≤ sizeLim) : ev c (.lc false [i] e [.mk (.var i) it []]) env S = .ok (.lst ((List.range m).map h)) S := by
  rw [e_lc1, hI]
  simp only [r_to]
  have key := compL_map (S := S) (turn := fun d acc S2 => (evT c (.var i) d (wipeE (wipeE env [i]) (T.slots (.var i))) S2).to fun e' S3 => (evIfs c [] e' S3).to fun b S4 => if b then ((ev c e e' S4).to fun d S2 => if acc.length < sizeLim then .ok (acc ++ [d]) S2 else .no) else .ok acc S4)
    (fun d => match d with
      | .int z => h (z - lo).toNat
      | _ => .non) ((List.range m).map (fun (k : Nat) => D.int (lo + k))) [] (fun d hd acc ha => by
      obtain ⟨k, hk, rfl⟩ := List.mem_map.mp hd
      have hk : k < m := List.mem_range.mp hk
      have : (lo + (k : Int) - lo).toNat = k := by omega
      simp only [e_tV, r_to, e_if0, if_true, T.slots, he k hk, ha, this]) (by simpa using hz)
  rw [key]
  simp only [noEx, r_to, List.nil_append, List.map_map, Bool.false_eq_true, if_false]
  congr 2
  refine List.map_congr_left fun k _ => ?_
  show h (lo + (k : Int) - lo).toNat = h k
  congr 1; omega
end Mi

namespace Mi
/-! ## More plain laws: comprehensions with a test, texts, sorting -/
theorem compL_filt {α : Type} {turn : D → List D → Sto → Rs (List D)} {S : Sto} (inj : α → D) (q : α → Bool) (g : α → D) : ∀ (l : List α) (acc : List D),
    (∀ a ∈ l, ∀ acc, acc.length < sizeLim → turn (inj a) acc S = .ok (if q a then acc ++ [g a] else acc) S) → acc.length + l.length ≤ sizeLim → compL turn (l.map inj) acc S = .ok (acc ++ (l.filter q).map g) S
  | [], acc, _, _ => by simp [compL]
  | a :: l, acc, h, hl => by
    rw [List.map_cons]
    unfold compL
    rw [h a (List.mem_cons_self ..) acc (by simp at hl; omega)]
    show compL turn (l.map inj) _ S = _
    rw [compL_filt inj q g l (if q a then acc ++ [g a] else acc) (fun b hb => h b (List.mem_cons_of_mem _ hb)) (by
      simp only [List.length_cons] at hl
      cases q a <;> simp <;> omega)]
    cases e : q a <;> simp [e]
theorem compL_cat {α : Type} {turn : D → List D → Sto → Rs (List D)} {S : Sto} (inj : α → D) (h : α → List D) (m : Nat) : ∀ (l : List α) (acc : List D),
    (∀ a ∈ l, ∀ acc, acc.length + (h a).length ≤ m → turn (inj a) acc S = .ok (acc ++ h a) S) → acc.length + (l.flatMap h).length ≤ m → compL turn (l.map inj) acc S = .ok (acc ++ l.flatMap h) S
  | [], acc, _, _ => by simp [compL]
  | a :: l, acc, ht, hl => by
    rw [List.map_cons, List.flatMap_cons]
    rw [List.flatMap_cons, List.length_append] at hl
    unfold compL
    rw [ht a (List.mem_cons_self ..) acc (by omega)]
    show compL turn (l.map inj) _ S = _
    rw [compL_cat inj h m l _ (fun b hb => ht b (List.mem_cons_of_mem _ hb)) (by rw [List.length_append]; omega), List.append_assoc]
theorem compL_set {α : Type} {turn : D → List D → Sto → Rs (List D)} {S : Sto} (inj : α → D) (q : α → Bool) (g : α → D) (l : List α) : ∀ (acc : List D),
    (∀ a ∈ l, ∀ acc, acc.length < 4000 → turn (inj a) acc S = .ok (if q a then acc ++ [g a] else acc) S) → acc.length + l.length ≤ 4000 → compL turn (l.map inj) acc S = .ok (acc ++ (l.filter q).map g) S := by
  induction l with
  | nil => intro acc _ _; simp [compL]
  | cons a l ih =>
    intro acc h hl
    rw [List.map_cons]
    unfold compL
    rw [h a (List.mem_cons_self ..) acc (by simp at hl; omega)]
    show compL turn (l.map inj) _ S = _
    rw [ih (if q a then acc ++ [g a] else acc) (fun b hb => h b (List.mem_cons_of_mem _ hb)) (by
      simp only [List.length_cons] at hl
      cases q a <;> simp <;> omega)]
    cases e : q a <;> simp [e]
/-- [e for .. in .. if q] -/
theorem lc_filt {α : Type} {c : Ctx} {env : Env} {S : Sto} {own : List Nat} {tg : T} {it : I} {e cond : E} (l : List α) (inj : α → D) (q : α → Bool) (g : α → D) (e1 : α → Env)
    (hI : evI c it (wipeE env own) S = .ok (l.map inj, none) S) (ht : ∀ a ∈ l, evT c tg (inj a) (wipeE (wipeE env own) tg.slots) S = .ok (e1 a) S) (hc : ∀ a ∈ l, toB (ev c cond (e1 a) S) = .ok (q a) S) (he : ∀ a ∈ l, ev c e (e1 a) S = .ok (g a) S) (hz : l.length ≤ sizeLim) :
    ev c (.lc false own e [.mk tg it [cond]]) env S = .ok (.lst ((l.filter q).map g)) S := by
  rw [e_lc1, hI]
  simp only [r_to]
  rw [compL_filt inj q g l [] (fun a ha acc hacc => by
    simp only [ht a ha, r_to, e_if1, hc a ha, e_if0]
    cases hq : q a <;> simp [hq, he a ha, r_to, hacc]) (by simpa using hz)]
  simp only [noEx, r_to, List.nil_append, Bool.false_eq_true, if_false]
/-- [e for .. in ..] -/
theorem lc_all {α : Type} {c : Ctx} {env : Env} {S : Sto} {own : List Nat} {tg : T} {it : I} {e : E} (l : List α) (inj : α → D) (g : α → D) (e1 : α → Env)
    (hI : evI c it (wipeE env own) S = .ok (l.map inj, none) S) (ht : ∀ a ∈ l, evT c tg (inj a) (wipeE (wipeE env own) tg.slots) S = .ok (e1 a) S) (he : ∀ a ∈ l, ev c e (e1 a) S = .ok (g a) S) (hz : l.length ≤ sizeLim) :
    ev c (.lc false own e [.mk tg it []]) env S = .ok (.lst (l.map g)) S := by
  rw [e_lc1, hI]
  simp only [r_to]
  rw [compL_filt inj (fun _ => true) g l [] (fun a ha acc hacc => by
    simp only [ht a ha, r_to, e_if0, if_true, he a ha, hacc]) (by simpa using hz)]
  simp only [noEx, r_to, List.nil_append, Bool.false_eq_true, if_false]
  rw [List.filter_eq_self.mpr fun _ _ => rfl]
/-- a for that may be left -/
theorem forL_brk {body : D → Env → Sto → SR} {items : List D} {env : Env} {S : Sto} (P : Nat → Env → Sto → Prop) (Pe : Env → Sto → Prop) (h0 : P 0 env S)
    (hs : ∀ (i : Nat) (d : D) (e : Env) (S : Sto), items[i]? = some d → P i e S → ∃ e' S', (body d e S = .nx e' S' ∧ P (i + 1) e' S') ∨ (body d e S = .bk e' S' ∧ Pe e' S')) (he : ∀ e S, P items.length e S → Pe e S) : ∃ e' S', forL body items env S = .nx e' S' ∧ Pe e' S' := by
  have key : ∀ (l : List D) (i : Nat) (e : Env) (S : Sto), i ≤ items.length → items.drop i = l → P i e S → ∃ e' S', forL body l e S = .nx e' S' ∧ Pe e' S' := by
    intro l
    induction l with
    | nil =>
      intro i e S hi hl hp
      have h2 : items.length ≤ i := by
        have := congrArg List.length hl
        rw [List.length_drop] at this
        simp at this; omega
      have : i = items.length := Nat.le_antisymm hi h2
      exact ⟨e, S, rfl, he _ _ (this ▸ hp)⟩
    | cons d ds ih =>
      intro i e S hi hl hp
      have hd : items[i]? = some d := by
        have := congrArg List.head? hl
        rw [List.head?_drop] at this
        simpa using this
      have hlt : i < items.length := (List.getElem?_eq_some_iff.mp hd).1
      obtain ⟨e', S', ⟨h1, h2⟩ | ⟨h1, h2⟩⟩ := hs i d e S hd hp
      · have hl' : items.drop (i + 1) = ds := by
          have := congrArg List.tail hl
          rw [List.tail_drop] at this
          simpa using this
        obtain ⟨e2, S2, h3, h4⟩ := ih (i + 1) e' S' hlt hl' h2
        exact ⟨e2, S2, by unfold forL; rw [h1]; exact h3, h4⟩
      · exact ⟨e', S', by unfold forL; rw [h1], h2⟩
  exact key items 0 env S (Nat.zero_le _) rfl h0
theorem frW_brk {c : Ctx} {tg : T} {B : List St} {env : Env} {S : Sto} {items : List D} (P : Nat → Env → Sto → Prop) (Pe : Env → Sto → Prop) (h0 : P 0 env S)
    (hs : ∀ (i : Nat) (d : D) (e : Env) (S : Sto), items[i]? = some d → P i e S → ∃ e' S', (ofT (evT c tg d e S) (fun e' S2 => exs c B e' S2) = .nx e' S' ∧ P (i + 1) e' S') ∨ (ofT (evT c tg d e S) (fun e' S2 => exs c B e' S2) = .bk e' S' ∧ Pe e' S')) (he : ∀ e S, P items.length e S → Pe e S) :
    ∃ e' S', frW c tg B env S (items, none) = .nx e' S' ∧ Pe e' S' := by
  obtain ⟨e', S', h1, h2⟩ := forL_brk (body := fun d e S' => ofT (evT c tg d e S') fun e' S2 => exs c B e' S2) P Pe h0 hs he
  exact ⟨e', S', by unfold frW; show SR.unlock none (forL _ items env S) = _; rw [h1]; rfl, h2⟩
section
variable {c : Ctx} {env : Env} {S : Sto} {e : E} {lo hi : Option E} {m : Bool} {own : List Nat} {t t' : T} {i i' : I} {fs fs' : List E} {st : St} {n : Nat}
theorem e_cpy : ev c (.cpy e lo hi) env S = (ev c e env S).to fun x S1 => (evO c lo env S1).to fun l S2 => (evO c hi env S2).to fun h S3 => match x.val S3 with
    | .lst s => newL true (cut s l h) S3
    | _ => .no := by simp only [ev] <;> rfl
theorem e_rev : ev c (.rev m e) env S = (ev c e env S).to fun x S1 => match x.val S1 with
    | .lst l => newL m l.reverse S1
    | .tup l => .ok (.tup l.reverse) S1
    | _ => .no := by simp only [ev] <;> rfl
theorem e_dct : ev c .dct env S = .ok (.ref S.length) (S ++ [.dct []]) := by simp only [ev]
theorem e_get {es : List E} : ev c (.get e es) env S = (ev c e env S).to fun x S1 => if isDic S1 x then (evs c es env S1).to fun xs S2 => pGets S2 x xs else .no := by simp only [ev]
theorem e_slm {f : Pr} {x : E} : ev c (.slm f e lo hi x) env S = (ev c e env S).to fun v S1 => (evO c lo env S1).to fun l S2 => (evO c hi env S2).to fun h S3 => match v.val S3 with
    | .tup t => if cutAt t.length 0 l = 0 ∧ cutAt t.length t.length h = t.length then .no else (ev c x env S3).to fun y S4 => prim c.base f [.tup (cut t l h), y] S4
    | _ => .no := by simp only [ev] <;> rfl
theorem e_iK : evI c (.keys e) env S = (ev c e env S).to fun x S1 => match x with
    | .dic l => .ok (l.map (·.1), none) S1
    | _ => .no := by simp only [evI] <;> rfl
theorem e_iN : evI c (.enum e) env S = (ev c e env S).to fun x S1 => match itemsOf S1 x with
    | some (l, none) => .ok (enumD 0 l, none) S1
    | _ => .no := by simp only [evI] <;> rfl
def sc2 (c : Ctx) (e : E) (t t' : T) (i i' : I) (fs fs' : List E) (env : Env) (S : Sto) : Rs (List D) := (evI c i env S).to fun p S1 => match p.2 with
    | some _ => .no
    | none => compL (fun d acc S2 => (evT c t d (wipeE env t.slots) S2).to fun e1 S3 => (evIfs c fs e1 S3).to fun b S4 => if b then ((evI c i' e1 S4).to fun p S5 => match p.2 with
        | some _ => .no
        | none => compL (fun d acc S2 => (evT c t' d (wipeE e1 t'.slots) S2).to fun e2 S3 => (evIfs c fs' e2 S3).to fun b S4 => if b then ((ev c e e2 S4).to fun d S2 => setElt d acc S2) else .ok acc S4) p.1 acc S5) else .ok acc S4) p.1 [] S1
theorem e_sset : ev c (.sset m own e [.mk t i fs, .mk t' i' fs']) env S = newS m (sc2 c e t t' i i' fs fs' (wipeE env own) S) := by simp only [ev, evG, sc2] <;> rfl
theorem e_nset : ev c (.nset own e [.mk t i fs, .mk t' i' fs']) env S = lenS (sc2 c e t t' i i' fs fs' (wipeE env own) S) := by simp only [ev, evG, sc2] <;> rfl
theorem s_frz : ex c (.frz n) env S = match getV env n with
    | some d => ofE env (freeze d S) fun d' S1 => .nx (env.set n (some d')) S1
    | none => .no := by simp only [ex] <;> rfl
end
/-! ### texts -/
def dd (l : List (List Nat)) : List (List Nat) := l.foldl (fun a s => insS s a) []
theorem ddS_str (l : List (List Nat)) : ddS (l.map .str) = dd l := by
  unfold ddS dd
  rw [List.foldl_map] <;> rfl
theorem cut1 {α : Type} (l : List α) : cut l (some 1) none = l.tail := by
  cases l with
  | nil => rfl
  | cons a r =>
    have h : min (1 : Nat) (r.length + 1) = 1 := by omega
    simp [cut, cutAt, h]
theorem cutT1 {α : Type} (l : List α) : cut l none (some 1) = l.take 1 := by
  cases l with
  | nil => rfl
  | cons a r =>
    have h : min (1 : Nat) (r.length + 1) = 1 := by omega
    simp [cut, cutAt, h]
theorem cutA {α : Type} (l : List α) : cut l none none = l := by simp [cut, cutAt]
theorem sl_1 {l : List D} : slice (.tup l) (some 1) none = some (.tup l.tail) := by
  show some (D.tup (cut l (some 1) none)) = _
  rw [cut1]
theorem dats_str (k : Nat) : ∀ l : List (List Nat), D.dats k (l.map .str) = true
  | [] => rfl
  | s :: l => by
    show (D.dat k (.str s) && D.dats k (l.map .str)) = true
    rw [dats_str k l]; rfl
theorem memO_str (p : List Nat) (l : List (List Nat)) : memO (.str p) (l.map .str) = some (l.contains p) := by
  unfold memO
  rw [dats_str]
  show some (memD (.str p) (l.map .str)) = _
  congr 1
  induction l with
  | nil => rfl
  | cons s l ih =>
    show (D.eq (.str s) (.str p) || memD (.str p) (l.map .str)) = _
    rw [ih]
    show (s == p || l.contains p) = (p == s || l.contains p)
    rw [Bool.beq_comm]
theorem c_memT (p : List Nat) (l : List (List Nat)) : cmpop .mem (.str p) (.tup (l.map .str)) = some (l.contains p) := memO_str p l
theorem c_nmemL (p : List Nat) (l : List (List Nat)) : cmpop .nmem (.str p) (.lst (l.map .str)) = some (!l.contains p) := by
  show (memO (.str p) (l.map .str)).map (!·) = _
  rw [memO_str]; rfl
theorem c_memL (p : List Nat) (l : List (List Nat)) : cmpop .mem (.str p) (.lst (l.map .str)) = some (l.contains p) := memO_str p l
theorem tail_map {α β : Type} (f : α → β) (l : List α) : (l.map f).tail = l.tail.map f := by cases l <;> rfl
theorem strsD_map : ∀ l : List (List Nat), strsD (l.map .str) = some l
  | [] => rfl
  | s :: l => by
    show (strsD (l.map .str)).map (s :: ·) = _
    rw [strsD_map l]; rfl
theorem pure_strs : ∀ l : List (List Nat), D.pures (l.map .str) = true
  | [] => rfl
  | s :: l => pure_strs l
theorem frzL_pure {f : D → Sto → Option (D × Sto)} : ∀ (l : List D) (S : Sto), (∀ d ∈ l, ∀ S, f d S = some (d, S)) → frzL f l S = some (l, S)
  | [], S, _ => rfl
  | d :: l, S, h => by
    unfold frzL
    rw [h d (List.mem_cons_self ..) S]
    dsimp only
    rw [frzL_pure l S fun d hd => h d (List.mem_cons_of_mem _ hd)]
theorem freeze_strs {S : Sto} {n : Nat} {l : List (List Nat)} (h : S[n]? = some (.lst (l.map .str))) : freeze (.ref n) S = .ok (.lst (l.map .str)) (S.set n .dead) := by
  unfold freeze
  have : frz 4 (.ref n) S = some (.lst (l.map .str), S.set n .dead) := by
    simp only [frz, h]
    rw [frzL_pure _ _ fun d hd S => by
      obtain ⟨s, _, rfl⟩ := List.mem_map.mp hd
      rfl]
  rw [this]
theorem enumD_map {l : List D} : ∀ k, enumD k l = (l.zipIdx k).map fun p => .tup [.int p.2, p.1] := by
  induction l with
  | nil => intro k; rfl
  | cons d l ih => intro k; simp [enumD, ih]
end Mi

namespace Mi
open PySem L2 PySem.Spec PyProof.Rows
/-! ## _law_same -/
inductive Lk : Nat → D → Prop
  | non {n : Nat} : Lk n .non
  | int {n : Nat} {i : Int} : Lk n (.int i)
  | str {n : Nat} {s : List Nat} : Lk n (.str s)
  | tup {n : Nat} {l : List D} (h : ∀ d ∈ l, Lk n d) (hl : l.length ≤ 1000) : Lk (n + 1) (.tup l)
theorem Lk.up {n m : Nat} {d : D} (h : Lk n d) (hm : n ≤ m) : Lk m d := by
  induction h generalizing m with
  | non => exact .non
  | int => exact .int
  | str => exact .str
  | tup _ hl ih =>
    obtain ⟨k, rfl⟩ : ∃ k, m = k + 1 := ⟨m - 1, by omega⟩
    exact .tup (fun d hd => ih d hd (by omega)) hl
theorem c_isN : cmpop .is .non .non = some true := (rfl)
theorem c_isI {i : Int} : cmpop .is (.int i) .non = some false := (rfl)
theorem c_isS {i : List Nat} : cmpop .is (.str i) .non = some false := (rfl)
theorem c_isT {i : List D} : cmpop .is (.tup i) .non = some false := (rfl)
section
variable {S : Sto} {b : Nat} {s : List Nat} {l : List D} {i : Int}
theorem p_tS : prim b (.isinst .tuple) [.str s] S = .ok (.bl false) S := (rfl)
theorem p_tI : prim b (.isinst .tuple) [.int i] S = .ok (.bl false) S := (rfl)
theorem p_tN : prim b (.isinst .tuple) [.non] S = .ok (.bl false) S := (rfl)
theorem p_sI : prim b (.isinst .str) [.int i] S = .ok (.bl false) S := (rfl)
end
theorem lim' {m : Nat} (h : m ≤ 10000) : m ≤ sizeLim := Nat.le_trans h (by decide)
theorem bne_self {i : Int} : (!(i == i)) = false := by simp
theorem like {n : Nat} {d : D} (h : Lk n d) : ∀ (N b : Nat) (S : Sto), n < N → callN src.pg N 8 [d, d] b S = .ok (.bl true) S := by
  have fin1 : ∀ {S : Sto}, fin false S.length (.bl true) S = .ok (.bl true) S := fun {S} => by rw [fin_ok l_bl, List.take_length]
  induction h with
  | non =>
    intro N b S hN
    obtain ⟨k, rfl⟩ : ∃ k, N = k + 1 := ⟨N - 1, by omega⟩
    rw [callN_run (fd := ⟨2, 3, false, b8⟩) rfl rfl]
    refine (runF_rt (S1 := S) (d := .bl true) ?_).trans fin1
    simp only [b8, s_nil, s_cons, s_asg, s_asgc, s_par, s_expr, s_iff, s_fr, s_ret0, s_ret, s_brk, s_cnt, s_pass, n_nx, n_rt, n_bk, n_ct, n_ex, e_lit, e_var, e_gl, e_bin, e_neg, e_not, e_cmp, e_chain, e_and, e_or, e_ite, e_tup, e_lst, e_ix, e_sl, e_call, e_callk, e_rng, e_pri, e_met, e_mk, e_mth, e_att, e_nil, e_cons, e_oN, e_oS, e_and1, e_and2, e_or1, e_or2, e_iE, e_iR, e_tV, e_tT, e_tS, e_tA, e_ts0, e_ts, e_if0, e_if1, r_to, r_toX, r_ofE, r_ofX, r_ofT, r_rets, r_retb, r_get0, r_getS, r_toB, v_non, v_bl, v_int, v_str, v_tup, v_lst, v_dic, h_lst, h_dic, h_ins, h_lck, q_non, q_bl, q_int, q_tup, q_lst, c_eqI, c_neI, c_eqS, c_neS, c_lt, c_le, c_gt, c_ge, b_add, b_sub, p_lenT, p_lenL, p_int, p_intB, p_abs, p_min, p_tupL, p_tupT, p_isStr, p_isTup, p_isInt, p_isBool, List.set_cons_zero, List.set_cons_succ, List.map_cons, List.map_nil, List.cons_append, List.nil_append, List.length_cons, List.length_nil, List.length_map, List.replicate, Option.map_some, Option.map_none, beq_self_eq_true, Bool.not_true, Bool.not_false, p_tN, c_isN]
  | int =>
    intro N b S hN
    obtain ⟨k, rfl⟩ : ∃ k, N = k + 1 := ⟨N - 1, by omega⟩
    rw [callN_run (fd := ⟨2, 3, false, b8⟩) rfl rfl]
    refine (runF_rt (S1 := S) (d := .bl true) ?_).trans fin1
    simp only [b8, s_nil, s_cons, s_asg, s_asgc, s_par, s_expr, s_iff, s_fr, s_ret0, s_ret, s_brk, s_cnt, s_pass, n_nx, n_rt, n_bk, n_ct, n_ex, e_lit, e_var, e_gl, e_bin, e_neg, e_not, e_cmp, e_chain, e_and, e_or, e_ite, e_tup, e_lst, e_ix, e_sl, e_call, e_callk, e_rng, e_pri, e_met, e_mk, e_mth, e_att, e_nil, e_cons, e_oN, e_oS, e_and1, e_and2, e_or1, e_or2, e_iE, e_iR, e_tV, e_tT, e_tS, e_tA, e_ts0, e_ts, e_if0, e_if1, r_to, r_toX, r_ofE, r_ofX, r_ofT, r_rets, r_retb, r_get0, r_getS, r_toB, v_non, v_bl, v_int, v_str, v_tup, v_lst, v_dic, h_lst, h_dic, h_ins, h_lck, q_non, q_bl, q_int, q_tup, q_lst, c_eqI, c_neI, c_eqS, c_neS, c_lt, c_le, c_gt, c_ge, b_add, b_sub, p_lenT, p_lenL, p_int, p_intB, p_abs, p_min, p_tupL, p_tupT, p_isStr, p_isTup, p_isInt, p_isBool, List.set_cons_zero, List.set_cons_succ, List.map_cons, List.map_nil, List.cons_append, List.nil_append, List.length_cons, List.length_nil, List.length_map, List.replicate, Option.map_some, Option.map_none, beq_self_eq_true, Bool.not_true, Bool.not_false, p_tI, c_isI, p_sI]
  | str =>
    intro N b S hN
    obtain ⟨k, rfl⟩ : ∃ k, N = k + 1 := ⟨N - 1, by omega⟩
    rw [callN_run (fd := ⟨2, 3, false, b8⟩) rfl rfl]
    refine (runF_rt (S1 := S) (d := .bl true) ?_).trans fin1
    simp only [b8, s_nil, s_cons, s_asg, s_asgc, s_par, s_expr, s_iff, s_fr, s_ret0, s_ret, s_brk, s_cnt, s_pass, n_nx, n_rt, n_bk, n_ct, n_ex, e_lit, e_var, e_gl, e_bin, e_neg, e_not, e_cmp, e_chain, e_and, e_or, e_ite, e_tup, e_lst, e_ix, e_sl, e_call, e_callk, e_rng, e_pri, e_met, e_mk, e_mth, e_att, e_nil, e_cons, e_oN, e_oS, e_and1, e_and2, e_or1, e_or2, e_iE, e_iR, e_tV, e_tT, e_tS, e_tA, e_ts0, e_ts, e_if0, e_if1, r_to, r_toX, r_ofE, r_ofX, r_ofT, r_rets, r_retb, r_get0, r_getS, r_toB, v_non, v_bl, v_int, v_str, v_tup, v_lst, v_dic, h_lst, h_dic, h_ins, h_lck, q_non, q_bl, q_int, q_tup, q_lst, c_eqI, c_neI, c_eqS, c_neS, c_lt, c_le, c_gt, c_ge, b_add, b_sub, p_lenT, p_lenL, p_int, p_intB, p_abs, p_min, p_tupL, p_tupT, p_isStr, p_isTup, p_isInt, p_isBool, List.set_cons_zero, List.set_cons_succ, List.map_cons, List.map_nil, List.cons_append, List.nil_append, List.length_cons, List.length_nil, List.length_map, List.replicate, Option.map_some, Option.map_none, beq_self_eq_true, Bool.not_true, Bool.not_false, p_tS, c_isS]
  | @tup n l h hl ih =>
    intro N b S hN
    obtain ⟨k, rfl⟩ : ∃ k, N = k + 1 := ⟨N - 1, by omega⟩
    rw [callN_run (fd := ⟨2, 3, false, b8⟩) rfl rfl]
    refine (runF_rt (S1 := S) (d := .bl true) ?_).trans fin1
    obtain ⟨e', S', f1, x, rfl, rfl⟩ := frW_inv (c := ⟨callN src.pg k, src.pg.mth, src.pg.gl, if false = true then b else S.length, src.pg.fuel⟩) (tg := .var 2) (B := b8_0) (env := [some (.tup l), some (.tup l), none]) (S := S) (items := rangeOf 0 l.length)
      (fun i e S1 => ∃ x, e = [some (.tup l), some (.tup l), x] ∧ S1 = S) ⟨_, rfl, rfl⟩ (fun i d e S1 hd ⟨x, he, hS⟩ => by
        subst he; subst hS
        obtain ⟨rfl, hi⟩ := rangeOf_get hd
        have ha : i < l.length := by omega
        have hg : l[i]? = some l[i] := List.getElem?_eq_getElem ha
        refine ⟨_, _, .inl ?_, some (.int (i : Int)), rfl, rfl⟩
        simp only [b8_0, s_nil, s_cons, s_asg, s_asgc, s_par, s_expr, s_iff, s_fr, s_ret0, s_ret, s_brk, s_cnt, s_pass, n_nx, n_rt, n_bk, n_ct, n_ex, e_lit, e_var, e_gl, e_bin, e_neg, e_not, e_cmp, e_chain, e_and, e_or, e_ite, e_tup, e_lst, e_ix, e_sl, e_call, e_callk, e_rng, e_pri, e_met, e_mk, e_mth, e_att, e_nil, e_cons, e_oN, e_oS, e_and1, e_and2, e_or1, e_or2, e_iE, e_iR, e_tV, e_tT, e_tS, e_tA, e_ts0, e_ts, e_if0, e_if1, r_to, r_toX, r_ofE, r_ofX, r_ofT, r_rets, r_retb, r_get0, r_getS, r_toB, v_non, v_bl, v_int, v_str, v_tup, v_lst, v_dic, h_lst, h_dic, h_ins, h_lck, q_non, q_bl, q_int, q_tup, q_lst, c_eqI, c_neI, c_eqS, c_neS, c_lt, c_le, c_gt, c_ge, b_add, b_sub, p_lenT, p_lenL, p_int, p_intB, p_abs, p_min, p_tupL, p_tupT, p_isStr, p_isTup, p_isInt, p_isBool, List.set_cons_zero, List.set_cons_succ, List.map_cons, List.map_nil, List.cons_append, List.nil_append, List.length_cons, List.length_nil, List.length_map, List.replicate, Option.map_some, Option.map_none, beq_self_eq_true, Bool.not_true, Bool.not_false, Int.zero_add, i_tupN hg, ih l[i] (List.getElem_mem ha) k _ _ (show n < k by omega)])
    have hI : ∀ S, rngI [.int (l.length : Int)] S = .ok (rangeOf 0 l.length, none) S := fun S => rngI1 (by omega) (by omega)
    simp only [b8, s_nil, s_cons, s_asg, s_asgc, s_par, s_expr, s_iff, s_fr, s_ret0, s_ret, s_brk, s_cnt, s_pass, n_nx, n_rt, n_bk, n_ct, n_ex, e_lit, e_var, e_gl, e_bin, e_neg, e_not, e_cmp, e_chain, e_and, e_or, e_ite, e_tup, e_lst, e_ix, e_sl, e_call, e_callk, e_rng, e_pri, e_met, e_mk, e_mth, e_att, e_nil, e_cons, e_oN, e_oS, e_and1, e_and2, e_or1, e_or2, e_iE, e_iR, e_tV, e_tT, e_tS, e_tA, e_ts0, e_ts, e_if0, e_if1, r_to, r_toX, r_ofE, r_ofX, r_ofT, r_rets, r_retb, r_get0, r_getS, r_toB, v_non, v_bl, v_int, v_str, v_tup, v_lst, v_dic, h_lst, h_dic, h_ins, h_lck, q_non, q_bl, q_int, q_tup, q_lst, c_eqI, c_neI, c_eqS, c_neS, c_lt, c_le, c_gt, c_ge, b_add, b_sub, p_lenT, p_lenL, p_int, p_intB, p_abs, p_min, p_tupL, p_tupT, p_isStr, p_isTup, p_isInt, p_isBool, List.set_cons_zero, List.set_cons_succ, List.map_cons, List.map_nil, List.cons_append, List.nil_append, List.length_cons, List.length_nil, List.length_map, List.replicate, Option.map_some, Option.map_none, beq_self_eq_true, Bool.not_true, Bool.not_false, c_isT, bne_self, hI, f1]
/-! ## the beads -/
structure Bd where
  o : MO
  ps : List (Int × Int)
  a : Nat
  t : Int
  ht : -18446744073709551616 < t ∧ t < 18446744073709551616
def pairD (p : Int × Int) : D := .tup [.int p.1, .int p.2]
def CS (w : Bd) (J : Sto) : Sto := w.o :: .lst (w.ps.map pairD) :: .lst [.ref 1, .int w.a, .int w.t] :: J
section
variable {w : Bd} {J : Sto} {b : Nat}
theorem cs_v : D.val (CS w J) (.ref 2) = .lst [.ref 1, .int w.a, .int w.t] := (rfl)
theorem cs_v1 : D.val (CS w J) (.ref 1) = .lst (w.ps.map pairD) := (rfl)
theorem cs_0 {x y z : D} : index (.lst [x, y, z]) (.int 0) = some x := (rfl)
theorem cs_1 {x y z : D} : index (.lst [x, y, z]) (.int 1) = some y := (rfl)
theorem cs_2 {x y z : D} : index (.lst [x, y, z]) (.int 2) = some z := (rfl)
theorem cs_l : prim b .len [.ref 1] (CS w J) = .ok (.int w.ps.length) (CS w J) := by
  rw [p_lenR (s := w.ps.map pairD) rfl, List.length_map]
theorem cs_s1 {x : Nat} : setItem b (.ref 2) (.int 1) (.int (x : Int)) (CS w J) = some (CS { w with a := x } J) := if_pos (.inr rfl)
theorem cs_s2 {x : Int} (hx : -18446744073709551616 < x ∧ x < 18446744073709551616) : setItem b (.ref 2) (.int 2) (.int x) (CS w J) = some (CS { w with t := x, ht := hx } J) := if_pos (.inr rfl)
theorem cs_len : (CS w J).length = J.length + 3 := (rfl)
end
theorem pr_0 {x y : D} : index (.tup [x, y]) (.int 0) = some x := (rfl)
theorem pr_1 {x y : D} : index (.tup [x, y]) (.int 1) = some y := (rfl)
theorem lm2 : (0 + 1 + 1 ≤ sizeLim) = True := eq_true (by decide)
/-- a drawn number below many -/
theorem tick {n b : Nat} {w : Bd} {J : Sto} {many : Int} (hm : 0 < many) :
    ∃ v w', callN src.pg (n+1) 6 [.ref 2, .int many] b (CS w J) = .ok (.int v) (CS w' J) ∧ 0 ≤ v ∧ v < many := by
  rw [callN_run (fd := ⟨2, 4, false, b6⟩) rfl rfl]
  have fin3 : ∀ {v : Int} {w' : Bd}, fin false (CS w J).length (.int v) (CS w' J) = .ok (.int v) (CS w' J) := fun {v w'} => by
    rw [fin_ok l_int, show (CS w J).length = (CS w' J).length from rfl, List.take_length]
  have modm : ∀ i : Int, binop .mod (.int i) (.int many) = some (.int (i % many)) := fun i => b_mod hm
  have a1 : (w.a : Int) + 1 = ((w.a + 1 : Nat) : Int) := by omega
  by_cases c : w.a < w.ps.length
  · have c1 : decide ((w.a : Int) < (w.ps.length : Int)) = true := decide_eq_true (by omega)
    have ix : index (.lst (w.ps.map pairD)) (.int (w.a : Int)) = some (.tup [.int (w.ps[w.a]).1, .int (w.ps[w.a]).2]) := i_lstN (by rw [List.getElem?_map, List.getElem?_eq_getElem c]; rfl)
    refine ⟨(w.ps[w.a]).1 % many, { w with a := w.a + 1 }, (runF_rt (S1 := CS { w with a := w.a + 1 } J) (d := .int ((w.ps[w.a]).1 % many)) ?_).trans fin3, Int.emod_nonneg _ (Int.ne_of_gt hm), Int.emod_lt_of_pos _ hm⟩
    simp only [b6, s_nil, s_cons, s_asg, s_asgc, s_par, s_expr, s_iff, s_fr, s_ret0, s_ret, s_brk, s_cnt, s_pass, n_nx, n_rt, n_bk, n_ct, n_ex, e_lit, e_var, e_gl, e_bin, e_neg, e_not, e_cmp, e_chain, e_and, e_or, e_ite, e_tup, e_lst, e_ix, e_sl, e_call, e_callk, e_rng, e_pri, e_met, e_mk, e_mth, e_att, e_nil, e_cons, e_oN, e_oS, e_and1, e_and2, e_or1, e_or2, e_iE, e_iR, e_tV, e_tT, e_tS, e_tA, e_ts0, e_ts, e_if0, e_if1, r_to, r_toX, r_ofE, r_ofX, r_ofT, r_rets, r_retb, r_get0, r_getS, r_toB, v_non, v_bl, v_int, v_str, v_tup, v_lst, v_dic, h_lst, h_dic, h_ins, h_lck, q_non, q_bl, q_int, q_tup, q_lst, c_eqI, c_neI, c_eqS, c_neS, c_lt, c_le, c_gt, c_ge, b_add, b_sub, p_lenT, p_lenL, p_int, p_intB, p_abs, p_min, p_tupL, p_tupT, p_isStr, p_isTup, p_isInt, p_isBool, List.set_cons_zero, List.set_cons_succ, List.map_cons, List.map_nil, List.cons_append, List.nil_append, List.length_cons, List.length_nil, List.length_map, List.replicate, Option.map_some, Option.map_none, beq_self_eq_true, Bool.not_true, Bool.not_false, cs_v, cs_v1, cs_0, cs_1, cs_2, a1, cs_s1, cs_l, c1, ix, pr_0, modm]
  · have c1 : decide ((w.a : Int) < (w.ps.length : Int)) = false := decide_eq_false (by omega)
    have m1 : ∀ i : Int, binop .mod (.int i) (.int 7927) = some (.int (i % 7927)) := fun i => b_mod (by decide)
    have d3 : ∀ i : Int, binop .fdiv (.int i) (.int 3) = some (.int (i / 3)) := fun i => b_fdiv (by decide) (by decide)
    have u1 : ∀ i : Int, binop .mul (.int i) (.int 13) = some (.int (i * 13)) := fun i => b_mul (mulOk_r (by decide) (by decide))
    have ut : ∀ i : Int, binop .mul (.int w.t) (.int i) = some (.int (w.t * i)) := fun i => b_mul (mulOk_l w.ht.1 w.ht.2)
    have hm7 : ∀ i : Int, -18446744073709551616 < i % 7927 ∧ i % 7927 < 18446744073709551616 := fun i => by omega
    obtain ⟨x, y, hxy⟩ : ∃ x y : Int, ∀ S : Sto, (D.val S (.ref 1) = .lst (w.ps.map pairD)) → (∀ b, prim b .len [.ref 1] S = .ok (.int w.ps.length) S) → ∀ (c : Ctx), D.val S (.ref 2) = .lst [.ref 1, .int ((w.a + 1 : Nat) : Int), .int w.t] → 
        ev c (.ite (.cmp .gt (.pri .len [.ix (.var 0) (.lit (.int 0))]) (.lit (.int 0))) (.ix (.ix (.var 0) (.lit (.int 0))) (.bin .mod (.pri .int [.var 2]) (.pri .len [.ix (.var 0) (.lit (.int 0))]))) (.tup [.lit (.int 7), .lit (.int 2)])) [some (.ref 2), some (.int many), some (.int (w.a : Int)), none] S = .ok (.tup [.int x, .int y]) S := by
      by_cases z : w.ps.length = 0
      · refine ⟨7, 2, fun S h1 h2 c h3 => ?_⟩
        have z1 : decide ((0 : Int) < (w.ps.length : Int)) = false := decide_eq_false (by omega)
        simp only [s_nil, s_cons, s_asg, s_asgc, s_par, s_expr, s_iff, s_fr, s_ret0, s_ret, s_brk, s_cnt, s_pass, n_nx, n_rt, n_bk, n_ct, n_ex, e_lit, e_var, e_gl, e_bin, e_neg, e_not, e_cmp, e_chain, e_and, e_or, e_ite, e_tup, e_lst, e_ix, e_sl, e_call, e_callk, e_rng, e_pri, e_met, e_mk, e_mth, e_att, e_nil, e_cons, e_oN, e_oS, e_and1, e_and2, e_or1, e_or2, e_iE, e_iR, e_tV, e_tT, e_tS, e_tA, e_ts0, e_ts, e_if0, e_if1, r_to, r_toX, r_ofE, r_ofX, r_ofT, r_rets, r_retb, r_get0, r_getS, r_toB, v_non, v_bl, v_int, v_str, v_tup, v_lst, v_dic, h_lst, h_dic, h_ins, h_lck, q_non, q_bl, q_int, q_tup, q_lst, c_eqI, c_neI, c_eqS, c_neS, c_lt, c_le, c_gt, c_ge, b_add, b_sub, p_lenT, p_lenL, p_int, p_intB, p_abs, p_min, p_tupL, p_tupT, p_isStr, p_isTup, p_isInt, p_isBool, List.set_cons_zero, List.set_cons_succ, List.map_cons, List.map_nil, List.cons_append, List.nil_append, List.length_cons, List.length_nil, List.length_map, List.replicate, Option.map_some, Option.map_none, beq_self_eq_true, Bool.not_true, Bool.not_false, h1, h2, h3, cs_0, z1, lm2, if_true]
      · have z1 : decide ((0 : Int) < (w.ps.length : Int)) = true := decide_eq_true (by omega)
        have ml : ∀ i : Int, binop .mod (.int i) (.int (w.ps.length : Int)) = some (.int (i % (w.ps.length : Int))) := fun i => b_mod (by omega)
        have q := Int.emod_lt_of_pos (w.a : Int) (show (0 : Int) < w.ps.length by omega)
        have q0 := Int.emod_nonneg (w.a : Int) (show (w.ps.length : Int) ≠ 0 by omega)
        obtain ⟨k, hk⟩ : ∃ k : Nat, (w.a : Int) % (w.ps.length : Int) = k := ⟨((w.a : Int) % (w.ps.length : Int)).toNat, by omega⟩
        have hkl : k < w.ps.length := by omega
        have ix : index (.lst (w.ps.map pairD)) (.int (k : Int)) = some (.tup [.int (w.ps[k]).1, .int (w.ps[k]).2]) := i_lstN (by rw [List.getElem?_map, List.getElem?_eq_getElem hkl]; rfl)
        refine ⟨(w.ps[k]).1, (w.ps[k]).2, fun S h1 h2 c h3 => ?_⟩
        simp only [s_nil, s_cons, s_asg, s_asgc, s_par, s_expr, s_iff, s_fr, s_ret0, s_ret, s_brk, s_cnt, s_pass, n_nx, n_rt, n_bk, n_ct, n_ex, e_lit, e_var, e_gl, e_bin, e_neg, e_not, e_cmp, e_chain, e_and, e_or, e_ite, e_tup, e_lst, e_ix, e_sl, e_call, e_callk, e_rng, e_pri, e_met, e_mk, e_mth, e_att, e_nil, e_cons, e_oN, e_oS, e_and1, e_and2, e_or1, e_or2, e_iE, e_iR, e_tV, e_tT, e_tS, e_tA, e_ts0, e_ts, e_if0, e_if1, r_to, r_toX, r_ofE, r_ofX, r_ofT, r_rets, r_retb, r_get0, r_getS, r_toB, v_non, v_bl, v_int, v_str, v_tup, v_lst, v_dic, h_lst, h_dic, h_ins, h_lck, q_non, q_bl, q_int, q_tup, q_lst, c_eqI, c_neI, c_eqS, c_neS, c_lt, c_le, c_gt, c_ge, b_add, b_sub, p_lenT, p_lenL, p_int, p_intB, p_abs, p_min, p_tupL, p_tupT, p_isStr, p_isTup, p_isInt, p_isBool, List.set_cons_zero, List.set_cons_succ, List.map_cons, List.map_nil, List.cons_append, List.nil_append, List.length_cons, List.length_nil, List.length_map, List.replicate, Option.map_some, Option.map_none, beq_self_eq_true, Bool.not_true, Bool.not_false, h1, h2, h3, cs_0, z1, ml, hk, ix]
    have key := fun c => hxy (CS { w with a := w.a + 1 } J) cs_v1 (fun b => cs_l) c cs_v
    refine ⟨(w.t * (211 + y) + x + (w.a : Int) * 13) % 7927 / 3 % many, { w with a := w.a + 1, t := (w.t * (211 + y) + x + (w.a : Int) * 13) % 7927, ht := hm7 _ }, (runF_rt (S1 := CS { w with a := w.a + 1, t := (w.t * (211 + y) + x + (w.a : Int) * 13) % 7927, ht := hm7 _ } J) (d := .int ((w.t * (211 + y) + x + (w.a : Int) * 13) % 7927 / 3 % many)) ?_).trans fin3, Int.emod_nonneg _ (Int.ne_of_gt hm), Int.emod_lt_of_pos _ hm⟩
    generalize hE : (E.ite (.cmp .gt (.pri .len [.ix (.var 0) (.lit (.int 0))]) (.lit (.int 0))) (.ix (.ix (.var 0) (.lit (.int 0))) (.bin .mod (.pri .int [.var 2]) (.pri .len [.ix (.var 0) (.lit (.int 0))]))) (.tup [.lit (.int 7), .lit (.int 2)])) = EE at key
    simp only [b6, s_nil, s_cons, s_asg, s_asgc, s_par, s_expr, s_iff, s_fr, s_ret0, s_ret, s_brk, s_cnt, s_pass, n_nx, n_rt, n_bk, n_ct, n_ex, e_lit, e_var, e_gl, e_bin, e_neg, e_not, e_cmp, e_chain, e_and, e_or, e_ite, e_tup, e_lst, e_ix, e_sl, e_call, e_callk, e_rng, e_pri, e_met, e_mk, e_mth, e_att, e_nil, e_cons, e_oN, e_oS, e_and1, e_and2, e_or1, e_or2, e_iE, e_iR, e_tV, e_tT, e_tS, e_tA, e_ts0, e_ts, e_if0, e_if1, r_to, r_toX, r_ofE, r_ofX, r_ofT, r_rets, r_retb, r_get0, r_getS, r_toB, v_non, v_bl, v_int, v_str, v_tup, v_lst, v_dic, h_lst, h_dic, h_ins, h_lck, q_non, q_bl, q_int, q_tup, q_lst, c_eqI, c_neI, c_eqS, c_neS, c_lt, c_le, c_gt, c_ge, b_add, b_sub, p_lenT, p_lenL, p_int, p_intB, p_abs, p_min, p_tupL, p_tupT, p_isStr, p_isTup, p_isInt, p_isBool, List.set_cons_zero, List.set_cons_succ, List.map_cons, List.map_nil, List.cons_append, List.nil_append, List.length_cons, List.length_nil, List.length_map, List.replicate, Option.map_some, Option.map_none, beq_self_eq_true, Bool.not_true, Bool.not_false, cs_v, cs_v1, cs_0, cs_1, cs_2, a1, cs_s1, cs_l, c1, hE, key, pr_0, pr_1, modm, m1, d3, u1, ut, cs_s2 (hm7 _)]
end Mi

namespace Mi
open PySem L2 PySem.Spec PyProof.Rows
theorem k01_shl : binop .shl (.int 1) (.int 2000) = some (.int (2 ^ 2000)) := by kernel_rfl
theorem cut_le {α : Type} (l : List α) (lo hi : Option Int) : (cut l lo hi).length ≤ l.length := by
  unfold cut
  rw [List.length_take, List.length_drop]; omega
theorem cut_in {α : Type} {l : List α} {lo hi : Option Int} {x : α} (h : x ∈ cut l lo hi) : x ∈ l := by
  unfold cut at h
  exact List.mem_of_mem_drop (List.mem_of_mem_take h)
theorem cut_map {α β : Type} (f : α → β) (l : List α) (lo hi : Option Int) : cut (l.map f) lo hi = (cut l lo hi).map f := by
  simp [cut, List.map_take, List.map_drop]
theorem sum_ints : ∀ (l : List Int) (a : Int), ∃ r, sumInts (l.map .int) a = some r
  | [], a => ⟨a, rfl⟩
  | x :: l, a => sum_ints l (a + x)
/-- the turns within a cell -/
theorem str_in {c : Ctx} (hc : c.base = 0) {scr : D} {cell : Int} {i : Nat} (hi : i < 63) {r0 : Int} {xs0 : List (Int × Int)} {x0 : Option D} (h0 : xs0.length ≤ 2 + 200 * i) :
    ∃ e' S', frW c (.var 4) b5_0 [some scr, some (.ref 0), some (.int cell), some (.int r0), x0, none, none, none] [.lst (xs0.map pairD)] (rangeOf 0 200, none) = .nx e' S' ∧
      ∃ (r : Int) (x : Option D) (xs : List (Int × Int)), e' = [some scr, some (.ref 0), some (.int cell), some (.int r), x, none, none, none] ∧ S' = [.lst (xs.map pairD)] ∧ xs.length ≤ 2 + 200 * (i + 1) := by
  refine frW_brk (fun k e S => ∃ (r : Int) (x : Option D) (xs : List (Int × Int)), e = [some scr, some (.ref 0), some (.int cell), some (.int r), x, none, none, none] ∧ S = [.lst (xs.map pairD)] ∧ xs.length ≤ 2 + 200 * i + k) _ ⟨_, _, _, rfl, rfl, h0⟩ (fun k d e S hd ⟨r, x, xs, he, hS, hx⟩ => ?_) (fun e S ⟨r, x, xs, he, hS, hx⟩ => ⟨r, x, xs, he, hS, by rw [rangeOf_len] at hx; omega⟩)
  subst he; subst hS
  obtain ⟨rfl, hk⟩ := rangeOf_get hd
  have m1 : ∀ i : Int, binop .mod (.int i) (.int 1013) = some (.int (i % 1013)) := fun i => b_mod (by decide)
  have m2 : ∀ i : Int, binop .mod (.int i) (.int 17) = some (.int (i % 17)) := fun i => b_mod (by decide)
  have d1 : ∀ i : Int, binop .fdiv (.int i) (.int 1013) = some (.int (i / 1013)) := fun i => b_fdiv (by decide) (by decide)
  have rec2 : ∀ l' : List D, recvOk .append (.lst l') = true := fun _ => rfl
  have vv : ∀ l : List D, D.val [.lst l] (.ref 0) = .lst l := fun _ => rfl
  have happ : ∀ a b : Int, prim c.base .append [.ref 0, .tup [.int a, .int b]] [.lst (xs.map pairD)] = .ok .non [.lst ((xs ++ [(a, b)]).map pairD)] := fun a b => by
    rw [p_app (s := xs.map pairD) rfl (by rw [List.length_map]; exact Nat.lt_of_lt_of_le (show xs.length < 2 + 200 * 64 + 200 by omega) (by decide)) (.inr rfl)]
    simp [pairD]
  by_cases h : r / 1013 = 0
  · refine ⟨[some scr, some (.ref 0), some (.int cell), some (.int (r / 1013)), some (.int (0 + (k : Int))), none, none, none], [.lst ((xs ++ [(r % 1013, r % 17 + b2i (decide (cell < 0)))]).map pairD)], .inr ⟨?_, _, _, _, rfl, rfl, by simp; omega⟩⟩
    simp only [b5_0, s_nil, s_cons, s_asg, s_asgc, s_par, s_expr, s_iff, s_fr, s_ret0, s_ret, s_brk, s_cnt, s_pass, n_nx, n_rt, n_bk, n_ct, n_ex, e_lit, e_var, e_gl, e_bin, e_neg, e_not, e_cmp, e_chain, e_and, e_or, e_ite, e_tup, e_lst, e_ix, e_sl, e_call, e_callk, e_rng, e_pri, e_met, e_mk, e_mth, e_att, e_nil, e_cons, e_oN, e_oS, e_and1, e_and2, e_or1, e_or2, e_iE, e_iR, e_tV, e_tT, e_tS, e_tA, e_ts0, e_ts, e_if0, e_if1, r_to, r_toX, r_ofE, r_ofX, r_ofT, r_rets, r_retb, r_get0, r_getS, r_toB, v_non, v_bl, v_int, v_str, v_tup, v_lst, v_dic, h_lst, h_dic, h_ins, h_lck, q_non, q_bl, q_int, q_tup, q_lst, c_eqI, c_neI, c_eqS, c_neS, c_lt, c_le, c_gt, c_ge, b_add, b_sub, p_lenT, p_lenL, p_int, p_intB, p_abs, p_min, p_tupL, p_tupT, p_isStr, p_isTup, p_isInt, p_isBool, List.set_cons_zero, List.set_cons_succ, List.map_cons, List.map_nil, List.cons_append, List.nil_append, List.length_cons, List.length_nil, List.length_map, List.replicate, Option.map_some, Option.map_none, beq_self_eq_true, Bool.not_true, Bool.not_false, m1, m2, d1, rec2, vv, lm2, if_true, happ, h]
  · refine ⟨[some scr, some (.ref 0), some (.int cell), some (.int (r / 1013)), some (.int (0 + (k : Int))), none, none, none], [.lst ((xs ++ [(r % 1013, r % 17 + b2i (decide (cell < 0)))]).map pairD)], .inl ⟨?_, _, _, _, rfl, rfl, by simp; omega⟩⟩
    simp only [b5_0, s_nil, s_cons, s_asg, s_asgc, s_par, s_expr, s_iff, s_fr, s_ret0, s_ret, s_brk, s_cnt, s_pass, n_nx, n_rt, n_bk, n_ct, n_ex, e_lit, e_var, e_gl, e_bin, e_neg, e_not, e_cmp, e_chain, e_and, e_or, e_ite, e_tup, e_lst, e_ix, e_sl, e_call, e_callk, e_rng, e_pri, e_met, e_mk, e_mth, e_att, e_nil, e_cons, e_oN, e_oS, e_and1, e_and2, e_or1, e_or2, e_iE, e_iR, e_tV, e_tT, e_tS, e_tA, e_ts0, e_ts, e_if0, e_if1, r_to, r_toX, r_ofE, r_ofX, r_ofT, r_rets, r_retb, r_get0, r_getS, r_toB, v_non, v_bl, v_int, v_str, v_tup, v_lst, v_dic, h_lst, h_dic, h_ins, h_lck, q_non, q_bl, q_int, q_tup, q_lst, c_eqI, c_neI, c_eqS, c_neS, c_lt, c_le, c_gt, c_ge, b_add, b_sub, p_lenT, p_lenL, p_int, p_intB, p_abs, p_min, p_tupL, p_tupT, p_isStr, p_isTup, p_isInt, p_isBool, List.set_cons_zero, List.set_cons_succ, List.map_cons, List.map_nil, List.cons_append, List.nil_append, List.length_cons, List.length_nil, List.length_map, List.replicate, Option.map_some, Option.map_none, beq_self_eq_true, Bool.not_true, Bool.not_false, m1, m2, d1, rec2, vv, lm2, if_true, happ, beq_eq_false_iff_ne.mpr h]
theorem freeze_prs {S : Sto} {n : Nat} {l : List (Int × Int)} (h : S[n]? = some (.lst (l.map pairD))) : freeze (.ref n) S = .ok (.lst (l.map pairD)) (S.set n .dead) := by
  unfold freeze
  have : frz 4 (.ref n) S = some (.lst (l.map pairD), S.set n .dead) := by
    simp only [frz, h]
    rw [frzL_pure _ _ fun d hd S => by
      obtain ⟨s, _, rfl⟩ := List.mem_map.mp hd
      rfl]
  rw [this]
theorem v_tupA {S : Sto} {l : List D} : D.val S (.tup l) = .tup l := (rfl)
theorem string {n : Nat} {ns : List Int} (hn : ns.length ≤ 63) : ∃ w, callN src.pg (n+1) 5 [.lst (ns.map .int)] 0 [] = .ok (.ref 2) (CS w []) := by
  rw [callN_run (fd := ⟨1, 8, true, b5⟩) rfl rfl]
  obtain ⟨e', S', h1, h2⟩ := frW_inv (c := ⟨callN src.pg n, src.pg.mth, src.pg.gl, 0, src.pg.fuel⟩) (tg := .var 2) (B := b5_1) (env := [some (.lst (ns.map .int)), some (.ref 0), none, none, none, none, none, none]) (S := [.lst [.tup [.int 3, .int 1], .tup [.int 5, .int 4]]]) (items := cut (ns.map .int) none (some 40))
    (fun i e S => ∃ (r x y : Option D) (xs : List (Int × Int)), e = [some (.lst (ns.map .int)), some (.ref 0), r, x, y, none, none, none] ∧ S = [.lst (xs.map pairD)] ∧ xs.length ≤ 2 + 200 * i) ⟨_, _, _, [(3, 1), (5, 4)], rfl, rfl, Nat.le_refl _⟩ (fun i d e S hd ⟨r, x, y, xs, he, hS, hx⟩ => by
      subst he; subst hS
      have hlt : i < (cut (ns.map D.int) none (some 40)).length := (List.getElem?_eq_some_iff.mp hd).1
      have hle := cut_le (ns.map D.int) none (some 40)
      rw [List.length_map] at hle
      obtain ⟨z, _, rfl⟩ := List.mem_map.mp (cut_in (List.mem_of_getElem? hd))
      have m1 : ∀ i : Int, binop .mod (.int i) (.int (2 ^ 2000)) = some (.int (i % 2 ^ 2000)) := fun i => b_mod (by decide)
      generalize hsz : (if z < 0 then -z else z) % 2 ^ 2000 = sz at *
      have hI : ∀ S, rngI [.int 200] S = .ok (rangeOf 0 200, none) S := fun S => rngI1 (by decide) (by decide)
      obtain ⟨e2, S2, f1, r', x', xs', rfl, rfl, hx'⟩ := str_in (c := ⟨callN src.pg n, src.pg.mth, src.pg.gl, 0, src.pg.fuel⟩) rfl (scr := .lst (ns.map .int)) (cell := z) (i := i) (by omega) (r0 := sz) (xs0 := xs) (x0 := y) hx
      refine ⟨_, _, .inl ?_, some (.int z), some (.int r'), x', xs', rfl, rfl, hx'⟩
      simp only [b5_1, s_nil, s_cons, s_asg, s_asgc, s_par, s_expr, s_iff, s_fr, s_ret0, s_ret, s_brk, s_cnt, s_pass, n_nx, n_rt, n_bk, n_ct, n_ex, e_lit, e_var, e_gl, e_bin, e_neg, e_not, e_cmp, e_chain, e_and, e_or, e_ite, e_tup, e_lst, e_ix, e_sl, e_call, e_callk, e_rng, e_pri, e_met, e_mk, e_mth, e_att, e_nil, e_cons, e_oN, e_oS, e_and1, e_and2, e_or1, e_or2, e_iE, e_iR, e_tV, e_tT, e_tS, e_tA, e_ts0, e_ts, e_if0, e_if1, r_to, r_toX, r_ofE, r_ofX, r_ofT, r_rets, r_retb, r_get0, r_getS, r_toB, v_non, v_bl, v_int, v_str, v_tup, v_lst, v_dic, h_lst, h_dic, h_ins, h_lck, q_non, q_bl, q_int, q_tup, q_lst, c_eqI, c_neI, c_eqS, c_neS, c_lt, c_le, c_gt, c_ge, b_add, b_sub, p_lenT, p_lenL, p_int, p_intB, p_abs, p_min, p_tupL, p_tupT, p_isStr, p_isTup, p_isInt, p_isBool, List.set_cons_zero, List.set_cons_succ, List.map_cons, List.map_nil, List.cons_append, List.nil_append, List.length_cons, List.length_nil, List.length_map, List.replicate, Option.map_some, Option.map_none, beq_self_eq_true, Bool.not_true, Bool.not_false, k01_shl, m1, hsz, hI, f1])
  obtain ⟨r, x, y, xs, rfl, rfl, hx⟩ := h2
  have hle := cut_le (ns.map D.int) none (some 40)
  rw [List.length_map] at hle
  have hxl : xs.length ≤ 20000 := by omega
  have hxz : xs.length ≤ sizeLim := Nat.le_trans hxl (by decide)
  obtain ⟨tot, htot⟩ := sum_ints (xs.map fun p => p.1 * 31 + p.2) 0
  have u1 : ∀ i : Int, binop .mul (.int i) (.int 31) = some (.int (i * 31)) := fun i => b_mul (mulOk_r (by decide) (by decide))
  have hit : ∀ (l : List D) (S : Sto), itemsOf S (.lst l) = some (l, none) := fun _ _ => rfl
  have key := lc_all (c := ⟨callN src.pg n, src.pg.mth, src.pg.gl, 0, src.pg.fuel⟩) (env := [some (.lst (ns.map .int)), some (.lst (xs.map pairD)), r, x, y, none, none, none]) (S := [.dead]) (own := [6, 7]) (tg := .tup [.var 6, .var 7]) (it := .e (.var 1)) (e := e5_2)
    xs pairD (fun p => .int (p.1 * 31 + p.2)) (fun p => [some (.lst (ns.map .int)), some (.lst (xs.map pairD)), r, x, y, none, some (.int p.1), some (.int p.2)])
    (by simp only [wipeE, s_nil, s_cons, s_asg, s_asgc, s_par, s_expr, s_iff, s_fr, s_ret0, s_ret, s_brk, s_cnt, s_pass, n_nx, n_rt, n_bk, n_ct, n_ex, e_lit, e_var, e_gl, e_bin, e_neg, e_not, e_cmp, e_chain, e_and, e_or, e_ite, e_tup, e_lst, e_ix, e_sl, e_call, e_callk, e_rng, e_pri, e_met, e_mk, e_mth, e_att, e_nil, e_cons, e_oN, e_oS, e_and1, e_and2, e_or1, e_or2, e_iE, e_iR, e_tV, e_tT, e_tS, e_tA, e_ts0, e_ts, e_if0, e_if1, r_to, r_toX, r_ofE, r_ofX, r_ofT, r_rets, r_retb, r_get0, r_getS, r_toB, v_non, v_bl, v_int, v_str, v_tup, v_lst, v_dic, h_lst, h_dic, h_ins, h_lck, q_non, q_bl, q_int, q_tup, q_lst, c_eqI, c_neI, c_eqS, c_neS, c_lt, c_le, c_gt, c_ge, b_add, b_sub, p_lenT, p_lenL, p_int, p_intB, p_abs, p_min, p_tupL, p_tupT, p_isStr, p_isTup, p_isInt, p_isBool, List.set_cons_zero, List.set_cons_succ, List.map_cons, List.map_nil, List.cons_append, List.nil_append, List.length_cons, List.length_nil, List.length_map, List.replicate, Option.map_some, Option.map_none, beq_self_eq_true, Bool.not_true, Bool.not_false, hit]) (fun p _ => by simp only [T.slots, T.slotsL, wipeE, pairD, s_nil, s_cons, s_asg, s_asgc, s_par, s_expr, s_iff, s_fr, s_ret0, s_ret, s_brk, s_cnt, s_pass, n_nx, n_rt, n_bk, n_ct, n_ex, e_lit, e_var, e_gl, e_bin, e_neg, e_not, e_cmp, e_chain, e_and, e_or, e_ite, e_tup, e_lst, e_ix, e_sl, e_call, e_callk, e_rng, e_pri, e_met, e_mk, e_mth, e_att, e_nil, e_cons, e_oN, e_oS, e_and1, e_and2, e_or1, e_or2, e_iE, e_iR, e_tV, e_tT, e_tS, e_tA, e_ts0, e_ts, e_if0, e_if1, r_to, r_toX, r_ofE, r_ofX, r_ofT, r_rets, r_retb, r_get0, r_getS, r_toB, v_non, v_bl, v_int, v_str, v_tup, v_lst, v_dic, h_lst, h_dic, h_ins, h_lck, q_non, q_bl, q_int, q_tup, q_lst, c_eqI, c_neI, c_eqS, c_neS, c_lt, c_le, c_gt, c_ge, b_add, b_sub, p_lenT, p_lenL, p_int, p_intB, p_abs, p_min, p_tupL, p_tupT, p_isStr, p_isTup, p_isInt, p_isBool, List.set_cons_zero, List.set_cons_succ, List.map_cons, List.map_nil, List.cons_append, List.nil_append, List.length_cons, List.length_nil, List.length_map, List.replicate, Option.map_some, Option.map_none, beq_self_eq_true, Bool.not_true, Bool.not_false]) (fun p _ => by simp only [e5_2, s_nil, s_cons, s_asg, s_asgc, s_par, s_expr, s_iff, s_fr, s_ret0, s_ret, s_brk, s_cnt, s_pass, n_nx, n_rt, n_bk, n_ct, n_ex, e_lit, e_var, e_gl, e_bin, e_neg, e_not, e_cmp, e_chain, e_and, e_or, e_ite, e_tup, e_lst, e_ix, e_sl, e_call, e_callk, e_rng, e_pri, e_met, e_mk, e_mth, e_att, e_nil, e_cons, e_oN, e_oS, e_and1, e_and2, e_or1, e_or2, e_iE, e_iR, e_tV, e_tT, e_tS, e_tA, e_ts0, e_ts, e_if0, e_if1, r_to, r_toX, r_ofE, r_ofX, r_ofT, r_rets, r_retb, r_get0, r_getS, r_toB, v_non, v_bl, v_int, v_str, v_tup, v_lst, v_dic, h_lst, h_dic, h_ins, h_lck, q_non, q_bl, q_int, q_tup, q_lst, c_eqI, c_neI, c_eqS, c_neS, c_lt, c_le, c_gt, c_ge, b_add, b_sub, p_lenT, p_lenL, p_int, p_intB, p_abs, p_min, p_tupL, p_tupT, p_isStr, p_isTup, p_isInt, p_isBool, List.set_cons_zero, List.set_cons_succ, List.map_cons, List.map_nil, List.cons_append, List.nil_append, List.length_cons, List.length_nil, List.length_map, List.replicate, Option.map_some, Option.map_none, beq_self_eq_true, Bool.not_true, Bool.not_false, u1]) hxz
  have hfz : freeze (.ref 0) [.lst (xs.map pairD)] = .ok (.lst (xs.map pairD)) [.dead] := freeze_prs rfl
  have hsum : ∀ b, prim b .sum [.lst (xs.map fun p => .int (p.1 * 31 + p.2))] [.dead] = .ok (.int tot) [.dead] := fun b => by
    have e : (xs.map fun p => D.int (p.1 * 31 + p.2)) = (xs.map fun p => p.1 * 31 + p.2).map .int := by rw [List.map_map]; rfl
    simp only [prim, pSum, v_lst, e, htot]
  have hsl : slice (.lst (ns.map .int)) none (some 40) = some (.lst (cut (ns.map .int) none (some 40))) := rfl
  have nl0 : newL true [.tup [.int 3, .int 1], .tup [.int 5, .int 4]] [] = .ok (.ref 0) [.lst [.tup [.int 3, .int 1], .tup [.int 5, .int 4]]] := rfl
  have nl : newL true (cut (xs.map pairD) (some 2) none) [.dead] = .ok (.ref 1) [.dead, .lst ((cut xs (some 2) none).map pairD)] := by
    rw [cut_map]
    unfold newL
    rw [if_pos (by rw [List.length_map]; exact Nat.le_trans (cut_le ..) hxz)]; rfl
  have m1 : ∀ i : Int, binop .mod (.int i) (.int 7919) = some (.int (i % 7919)) := fun i => b_mod (by decide)
  have nd : newL true [.ref 1, .int 0, .int (tot % 7919 + 1)] [.dead, .lst ((cut xs (some 2) none).map pairD)] = .ok (.ref 2) (CS ⟨.dead, cut xs (some 2) none, 0, tot % 7919 + 1, by omega⟩ []) := rfl
  refine ⟨⟨.dead, cut xs (some 2) none, 0, tot % 7919 + 1, by omega⟩, (runF_rt (S1 := CS ⟨.dead, cut xs (some 2) none, 0, tot % 7919 + 1, by omega⟩ []) (d := .ref 2) ?_).trans fin_keep⟩
  show exs ⟨callN src.pg n, src.pg.mth, src.pg.gl, 0, src.pg.fuel⟩ b5 [some (.lst (ns.map .int)), none, none, none, none, none, none, none] [] = _
  simp only [b5, s_nil, s_cons, s_asg, s_asgc, s_par, s_expr, s_iff, s_fr, s_ret0, s_ret, s_brk, s_cnt, s_pass, n_nx, n_rt, n_bk, n_ct, n_ex, e_lit, e_var, e_gl, e_bin, e_neg, e_not, e_cmp, e_chain, e_and, e_or, e_ite, e_tup, e_lst, e_ix, e_sl, e_call, e_callk, e_rng, e_pri, e_met, e_mk, e_mth, e_att, e_nil, e_cons, e_oN, e_oS, e_and1, e_and2, e_or1, e_or2, e_iE, e_iR, e_tV, e_tT, e_tS, e_tA, e_ts0, e_ts, e_if0, e_if1, r_to, r_toX, r_ofE, r_ofX, r_ofT, r_rets, r_retb, r_get0, r_getS, r_toB, v_non, v_bl, v_int, v_str, v_tup, v_lst, v_dic, h_lst, h_dic, h_ins, h_lck, q_non, q_bl, q_int, q_tup, q_lst, c_eqI, c_neI, c_eqS, c_neS, c_lt, c_le, c_gt, c_ge, b_add, b_sub, p_lenT, p_lenL, p_int, p_intB, p_abs, p_min, p_tupL, p_tupT, p_isStr, p_isTup, p_isInt, p_isBool, List.set_cons_zero, List.set_cons_succ, List.map_cons, List.map_nil, List.cons_append, List.nil_append, List.length_cons, List.length_nil, List.length_map, List.replicate, Option.map_some, Option.map_none, beq_self_eq_true, Bool.not_true, Bool.not_false, lm2, if_true, nl0, hsl, hit, h1, s_frz, hfz, key, hsum, e_cpy, nl, m1, nd]
end Mi

namespace Mi
open PySem L2 PySem.Spec PyProof.Rows
theorem ltsOf {m : Nat} : ∀ {l : List D}, (∀ d ∈ l, d.lt m = true) → D.lts m l = true
  | [], _ => rfl
  | d :: r, h => by
    show (d.lt m && D.lts m r) = true
    rw [h d (List.mem_cons_self ..), ltsOf fun x hx => h x (List.mem_cons_of_mem _ hx)]; rfl
theorem lts_str {m : Nat} (l : List (List Nat)) : D.lts m (l.map .str) = true := ltsOf fun d hd => by
  obtain ⟨s, _, rfl⟩ := List.mem_map.mp hd; rfl
section
variable {x y : MO} {w w' : Bd} {J R : Sto} {k : Nat}
theorem cs_get (h : R[k]? = some x) : (CS w (J ++ R))[J.length + (k + 3)]? = some x := by
  show (J ++ R)[J.length + k]? = some x
  rw [List.getElem?_append_right (by omega)]; simpa using h
theorem cs_set : (CS w (J ++ R)).set (J.length + (k + 3)) y = CS w (J ++ R.set k y) := by
  show CS w ((J ++ R).set (J.length + k) y) = _
  congr 1
  rw [List.set_append_right _ _ (by omega)]; simp
theorem cs_val {l : List D} (h : R[k]? = some (.lst l)) : D.val (CS w (J ++ R)) (.ref (J.length + (k + 3))) = .lst l := by
  simp only [D.val, cs_get h, MO.here]
theorem cs_vald {l : List (D × D)} (h : R[k]? = some (.dic l)) : D.val (CS w (J ++ R)) (.ref (J.length + (k + 3))) = .dic l := by
  simp only [D.val, cs_get h, MO.here]
theorem cs_new : CS w J ++ [x] = CS w (J ++ [x]) := rfl
theorem cs_take : (CS w' (J ++ R)).take (CS w J).length = CS w' J := by
  show (CS w' (J ++ R)).take (J.length + 3) = _
  show w'.o :: .lst _ :: .lst _ :: (J ++ R).take J.length = _
  simp [CS]
end
theorem nl1 {m : Bool} {l : List D} {S : Sto} (h : l.length ≤ sizeLim) : newL m l S = if m then .ok (.ref S.length) (S ++ [.lst l]) else .ok (.lst l) S := if_pos h
theorem nl0 {S : Sto} : newL true [] S = .ok (.ref S.length) (S ++ [.lst []]) := rfl
theorem natOf {v : Int} (h : 0 ≤ v) : ∃ k : Nat, v = k := ⟨v.toNat, by omega⟩
theorem strs_ix {l : List (List Nat)} {v : Int} (h : 0 ≤ v) (h2 : v < l.length) : ∃ s ∈ l, index (.lst (l.map .str)) (.int v) = some (.str s) := by
  obtain ⟨k, rfl⟩ := natOf h
  have hk : k < l.length := by omega
  exact ⟨l[k], List.getElem_mem hk, i_lstN (by rw [List.getElem?_map, List.getElem?_eq_getElem hk]; rfl)⟩
theorem map_erase {α β : Type} (f : α → β) : ∀ (l : List α) (k : Nat), (l.map f).eraseIdx k = (l.eraseIdx k).map f
  | [], _ => by simp
  | _ :: _, 0 => rfl
  | a :: l, k + 1 => by simp [List.eraseIdx_cons_succ, map_erase f l k]
theorem erase_perm {α : Type} : ∀ (l : List α) (k : Nat) (h : k < l.length), (l[k] :: l.eraseIdx k).Perm l
  | a :: l, 0, _ => .refl _
  | a :: l, k + 1, h => by
    have h : k < l.length := by simpa using h
    show (l[k] :: a :: l.eraseIdx k).Perm (a :: l)
    exact (List.Perm.swap ..).trans ((erase_perm l k h).cons a)
def names7 : List (List Nat) := [[97,110,110], [98], [99,97,114,111,108,105,110,97], [100,111,116], [101,118,101], [102], [103,117,115]]
def pool : List (List Nat) := names7 ++ [[109,101,101,116], [104,105,116], [122]]
def tD (t : List (List Nat)) : D := .tup (t.map .str)
def rowD (l : List (List (List Nat))) : D := .tup (l.map tD)
/-- a deed of the law's -/
structure Deed (t : List (List Nat)) : Prop where
  ne : t ≠ []
  le : t.length ≤ 4
  nd : t.tail.Nodup
  po : ∀ s ∈ t, s ∈ pool
structure Cast (names : List (List Nat)) : Prop where
  nd : names.Nodup
  lo : 2 ≤ names.length
  le : names.length ≤ 7
  po : ∀ s ∈ names, s ∈ pool
def C7 (n : Nat) (J : Sto) : Ctx := ⟨callN src.pg (n+1), src.pg.mth, src.pg.gl, J.length + 3, src.pg.fuel⟩
theorem cutTo {α : Type} (l : List α) (k : Nat) : cut l none (some (k : Int)) = l.take k := by
  have e : cutAt l.length l.length (some (k : Int)) = min k l.length := by
    unfold cutAt
    dsimp only
    rw [if_neg (by omega)]; simp
  unfold cut
  rw [e]
  show ((l.drop 0).take (min k l.length - 0)) = _
  simp only [List.drop_zero, Nat.sub_zero]
  by_cases h : k ≤ l.length
  · rw [Nat.min_eq_left h]
  · rw [Nat.min_eq_right (by omega), List.take_of_length_le (Nat.le_refl _), List.take_of_length_le (by omega)]
section
variable {n : Nat} {w : Bd} {J : Sto}
/-- the shuffle -/
theorem shuffle {many : Option D} {x3 x4 x5 x6 x7 x8 x9 x10 x11 x12 : Option D} :
    ∃ e' S', frW (C7 n J) (.var 3) b7_0 [some (.ref 2), many, some (.ref (J.length + 3)), x3, x4, x5, x6, x7, x8, x9, x10, x11, x12] (CS w (J ++ [.lst (names7.map .str)])) (rangeOf 0 7, none) = .nx e' S' ∧
      ∃ (x3 : Option D) (names : List (List Nat)) (w' : Bd), e' = [some (.ref 2), many, some (.ref (J.length + 3)), x3, x4, x5, x6, x7, x8, x9, x10, x11, x12] ∧ S' = CS w' (J ++ [.lst (names.map .str)]) ∧ names.Perm names7 := by
  obtain ⟨e', S', f1, h⟩ := frW_inv (c := C7 n J) (tg := .var 3) (B := b7_0) (env := [some (.ref 2), many, some (.ref (J.length + 3)), x3, x4, x5, x6, x7, x8, x9, x10, x11, x12]) (S := CS w (J ++ [.lst (names7.map .str)])) (items := rangeOf 0 7)
    (fun i e S => ∃ (x3 : Option D) (names : List (List Nat)) (w' : Bd), e = [some (.ref 2), many, some (.ref (J.length + 3)), x3, x4, x5, x6, x7, x8, x9, x10, x11, x12] ∧ S = CS w' (J ++ [.lst (names.map .str)]) ∧ names.Perm names7) ⟨_, _, _, rfl, rfl, .refl _⟩ (fun i d e S hd ⟨x3, names, w, he, hS, hp⟩ => by
      subst he; subst hS
      obtain ⟨rfl, hi⟩ := rangeOf_get hd
      have hlen : names.length = 7 := hp.length_eq
      obtain ⟨v, w', e6, v0, v7⟩ := tick (n := n) (b := J.length + 3) (w := w) (J := J ++ [.lst (names.map .str)]) (many := 7) (by decide)
      obtain ⟨k, rfl⟩ := natOf v0
      have hkl : k < names.length := by omega
      have vv : ∀ (l : List D) (w : Bd), D.val (CS w (J ++ [.lst l])) (.ref (J.length + 3)) = .lst l := fun _ _ => cs_val (k := 0) rfl
      have rec2 : ∀ l' : List D, recvOk .append (.lst l') = true := fun _ => rfl
      have rec3 : ∀ l' : List D, recvOk .popi (.lst l') = true := fun _ => rfl
      have hpop : prim (J.length + 3) .popi [.ref (J.length + 3), .int (k : Int)] (CS w' (J ++ [.lst (names.map .str)])) = .ok (.str names[k]) (CS w' (J ++ [.lst ((names.eraseIdx k).map .str)])) := by
        rw [p_popi (cs_get (k := 0) rfl) (by rw [List.getElem?_map, List.getElem?_eq_getElem hkl]; rfl), map_erase]
        rw [show J.length + 3 = J.length + (0 + 3) from rfl, cs_set]; rfl
      have happ : prim (J.length + 3) .append [.ref (J.length + 3), .str names[k]] (CS w' (J ++ [.lst ((names.eraseIdx k).map .str)])) = .ok .non (CS w' (J ++ [.lst ((names.eraseIdx k ++ [names[k]]).map .str)])) := by
        rw [p_app (cs_get (k := 0) rfl) (by rw [List.length_map]; exact Nat.lt_of_le_of_lt (List.length_eraseIdx_le ..) (by rw [hlen]; decide)) (.inr rfl)]
        rw [show J.length + 3 = J.length + (0 + 3) from rfl, cs_set]; simp
      refine ⟨_, _, .inl ?_, some (.int (0 + (i : Int))), names.eraseIdx k ++ [names[k]], w', rfl, rfl, ?_⟩
      · simp only [C7] at *
        simp only [b7_0, s_nil, s_cons, s_asg, s_asgc, s_par, s_expr, s_iff, s_fr, s_ret0, s_ret, s_brk, s_cnt, s_pass, n_nx, n_rt, n_bk, n_ct, n_ex, e_lit, e_var, e_gl, e_bin, e_neg, e_not, e_cmp, e_chain, e_and, e_or, e_ite, e_tup, e_lst, e_ix, e_sl, e_call, e_callk, e_rng, e_pri, e_met, e_mk, e_mth, e_att, e_nil, e_cons, e_oN, e_oS, e_and1, e_and2, e_or1, e_or2, e_iE, e_iR, e_tV, e_tT, e_tS, e_tA, e_ts0, e_ts, e_if0, e_if1, r_to, r_toX, r_ofE, r_ofX, r_ofT, r_rets, r_retb, r_get0, r_getS, r_toB, v_non, v_bl, v_int, v_str, v_tup, v_lst, v_dic, h_lst, h_dic, h_ins, h_lck, q_non, q_bl, q_int, q_tup, q_lst, c_eqI, c_neI, c_eqS, c_neS, c_lt, c_le, c_gt, c_ge, b_add, b_sub, p_lenT, p_lenL, p_int, p_intB, p_abs, p_min, p_tupL, p_tupT, p_isStr, p_isTup, p_isInt, p_isBool, List.set_cons_zero, List.set_cons_succ, List.map_cons, List.map_nil, List.cons_append, List.nil_append, List.length_cons, List.length_nil, List.length_map, List.replicate, Option.map_some, Option.map_none, beq_self_eq_true, Bool.not_true, Bool.not_false, vv, rec2, rec3, e6, hpop, happ, if_true]
      · exact (List.perm_append_comm).trans ((erase_perm names k hkl).trans hp))
  exact ⟨e', S', f1, h⟩
end
end Mi

namespace Mi
open PySem L2 PySem.Spec PyProof.Rows
theorem lm1 : (0 + 1 ≤ sizeLim) = True := eq_true (by decide)
theorem idx1 : ∀ len, len < 8 → ∀ f, f < len → ∀ s, s < 4 → s ≤ len → (List.range s).Pairwise fun a b => (f + a * 1) % len ≠ (f + b * 1) % len := by decide
theorem idx3' : ∀ len, len < 8 → ∀ f, f < len → ∀ s, s < 4 → s ≤ len → (len == 3 || len == 6 || decide ((List.range s).Pairwise fun a b => (f + a * 3) % len ≠ (f + b * 3) % len)) = true := by decide
theorem idx3 (len : Nat) (h : len < 8) (h3 : len ≠ 3) (h6 : len ≠ 6) (f : Nat) (hf : f < len) (s : Nat) (hs : s < 4) (hs2 : s ≤ len) : (List.range s).Pairwise fun a b => (f + a * 3) % len ≠ (f + b * 3) % len := by
  have := idx3' len h f hf s hs hs2
  simp only [beq_eq_false_iff_ne.mpr h3, beq_eq_false_iff_ne.mpr h6, Bool.false_or, decide_eq_true_eq] at this
  exact this
def whoN (names : List (List Nat)) (f s st : Nat) : List (List Nat) := (List.range s).map fun k => names.getD ((f + k * st) % names.length) []
theorem getD_eq {α : Type} {l : List α} {k : Nat} {d : α} (h : k < l.length) : l.getD k d = l[k] := by
  rw [List.getD_eq_getElem?_getD, List.getElem?_eq_getElem h]; rfl
theorem who_nd {names : List (List Nat)} (hc : Cast names) {f s st : Nat} (hf : f < names.length) (hs : s < 4) (hs2 : s ≤ names.length) (hst : st = 1 ∨ (st = 3 ∧ names.length ≠ 3 ∧ names.length ≠ 6)) : (whoN names f s st).Nodup := by
  have h0 : 0 < names.length := by omega
  have key : (List.range s).Pairwise fun a b => (f + a * st) % names.length ≠ (f + b * st) % names.length := by
    rcases hst with rfl | ⟨rfl, h3, h6⟩
    · exact idx1 _ (by have := hc.le; omega) f hf s hs hs2
    · exact idx3 _ (by have := hc.le; omega) h3 h6 f hf s hs hs2
  unfold whoN List.Nodup
  refine List.pairwise_map.mpr (key.imp fun {a b} h e => h ?_)
  rw [getD_eq (Nat.mod_lt _ h0), getD_eq (Nat.mod_lt _ h0)] at e
  exact (List.getElem_inj hc.nd).mp e
theorem who_po {names : List (List Nat)} (hc : Cast names) {f s st : Nat} : ∀ x ∈ whoN names f s st, x ∈ pool := fun x hx => by
  obtain ⟨k, _, rfl⟩ := List.mem_map.mp hx
  have h0 : 0 < names.length := by have := hc.lo; omega
  rw [getD_eq (Nat.mod_lt _ h0)]
  exact hc.po _ (List.getElem_mem _)
theorem cut1' {l : List D} : slice (.tup l) (some 1) none = some (.tup l.tail) := sl_1
/-- what a story under way is -/
structure Words (ws : List (List Nat)) : Prop where
  lo : 1 ≤ ws.length
  le : ws.length ≤ 4
  po : ∀ s ∈ ws, s ∈ pool
section
variable {n : Nat} {w : Bd} {J : Sto} {names ws : List (List Nat)} {l : List (List (List Nat))} {i : Nat} {mny x6 x7 x8 x9 x10 x11 : Option D} {p0 : MO}
theorem told_app {t : List (List Nat)} (hl : l.length < 64) {p1 : MO} : prim (J.length + 3) .append [.ref (J.length + 5), .tup (t.map .str)] (CS w (J ++ [p0, p1, .lst (l.map tD)])) = .ok .non (CS w (J ++ [p0, p1, .lst ((l ++ [t]).map tD)])) := by
  rw [p_app (s := l.map tD) (cs_get (k := 2) rfl) (by rw [List.length_map]; exact Nat.lt_of_lt_of_le hl (by decide)) (.inl (by omega))]
  rw [show J.length + 5 = J.length + (2 + 3) from rfl, cs_set]
  simp [tD]
theorem rows_ix {v : Int} (h : 0 ≤ v) (h2 : v < l.length) : ∃ t ∈ l, index (.lst (l.map tD)) (.int v) = some (tD t) := by
  obtain ⟨k, rfl⟩ := natOf h
  have hk : k < l.length := by omega
  exact ⟨l[k], List.getElem_mem hk, i_lstN (by rw [List.getElem?_map, List.getElem?_eq_getElem hk]; rfl)⟩
theorem p_lenW {b : Nat} {S : Sto} : prim b .len [.lst (ws.map .str)] S = .ok (.int ws.length) S := by rw [p_lenL, List.length_map]
/-- one more deed -/
theorem lap1 (hc : Cast names) (hw : Words ws) (hl : ∀ t ∈ l, Deed t) (hi2 : l.length < 63) :
    ∃ (t : List (List Nat)) (w' : Bd) (y6 y7 y8 y9 y10 y11 : Option D), Deed t ∧
      exs (C7 n J) b7_2 [some (.ref 2), mny, some (.ref (J.length + 4)), some (.int (i : Int)), some (.lst (ws.map .str)), some (.ref (J.length + 5)), x6, x7, x8, x9, x10, x11, none] (CS w (J ++ [p0, .lst (names.map .str), .lst (l.map tD)])) =
        .nx [some (.ref 2), mny, some (.ref (J.length + 4)), some (.int (i : Int)), some (.lst (ws.map .str)), some (.ref (J.length + 5)), y6, y7, y8, y9, y10, y11, none] (CS w' (J ++ [p0, .lst (names.map .str), .lst ((l ++ [t]).map tD)])) := by
  have vv : ∀ (w : Bd) (l m : List D), D.val (CS w (J ++ [p0, .lst m, .lst l])) (.ref (J.length + 5)) = .lst l := fun _ _ _ => cs_val (k := 2) rfl
  have vp : ∀ (w : Bd) (l m : List D), D.val (CS w (J ++ [p0, .lst m, .lst l])) (.ref (J.length + 4)) = .lst m := fun _ _ _ => cs_val (k := 1) rfl
  have lnT : ∀ b (w : Bd), prim b .len [.ref (J.length + 5)] (CS w (J ++ [p0, .lst (names.map .str), .lst (l.map tD)])) = .ok (.int l.length) (CS w (J ++ [p0, .lst (names.map .str), .lst (l.map tD)])) := fun b w => by
    rw [p_lenR (cs_get (k := 2) rfl), List.length_map]
  have lnP : ∀ b (w : Bd), prim b .len [.ref (J.length + 4)] (CS w (J ++ [p0, .lst (names.map .str), .lst (l.map tD)])) = .ok (.int names.length) (CS w (J ++ [p0, .lst (names.map .str), .lst (l.map tD)])) := fun b w => by
    rw [p_lenR (cs_get (k := 1) rfl), List.length_map]
  have rec2 : ∀ l' : List D, recvOk .append (.lst l') = true := fun _ => rfl
  obtain ⟨v, w1, e1, v0, v5⟩ := tick (n := n) (b := J.length + 3) (w := w) (J := J ++ [p0, .lst (names.map .str), .lst (l.map tD)]) (many := 5) (by decide)
  have hand : ∀ (k : Int) env, getV env 6 = some (.int v) → getV env 5 = some (.ref (J.length + 5)) → ev (C7 n J) (.and [.cmp .eq (.var 6) (.lit (.int k)), .cmp .gt (.pri .len [.var 5]) (.lit (.int 0))]) env (CS w1 (J ++ [p0, .lst (names.map .str), .lst (l.map tD)])) = .ok (.bl (decide (v = k ∧ 0 < l.length))) (CS w1 (J ++ [p0, .lst (names.map .str), .lst (l.map tD)])) := fun k env h6 h5 => by
    cases e : v == k with
    | false =>
      have : v ≠ k := by simpa using e
      simp only [s_nil, s_cons, s_asg, s_asgc, s_par, s_expr, s_iff, s_fr, s_ret0, s_ret, s_brk, s_cnt, s_pass, n_nx, n_rt, n_bk, n_ct, n_ex, e_lit, e_var, e_gl, e_bin, e_neg, e_not, e_cmp, e_chain, e_and, e_or, e_ite, e_tup, e_lst, e_ix, e_sl, e_call, e_callk, e_rng, e_pri, e_met, e_mk, e_mth, e_att, e_nil, e_cons, e_oN, e_oS, e_and1, e_and2, e_or1, e_or2, e_iE, e_iR, e_tV, e_tT, e_tS, e_tA, e_ts0, e_ts, e_if0, e_if1, r_to, r_toX, r_ofE, r_ofX, r_ofT, r_rets, r_retb, r_get0, r_getS, r_toB, v_non, v_bl, v_int, v_str, v_tup, v_lst, v_dic, h_lst, h_dic, h_ins, h_lck, q_non, q_bl, q_int, q_tup, q_lst, c_eqI, c_neI, c_eqS, c_neS, c_lt, c_le, c_gt, c_ge, b_add, b_sub, p_lenT, p_lenL, p_int, p_intB, p_abs, p_min, p_tupL, p_tupT, p_isStr, p_isTup, p_isInt, p_isBool, List.set_cons_zero, List.set_cons_succ, List.map_cons, List.map_nil, List.cons_append, List.nil_append, List.length_cons, List.length_nil, List.length_map, List.replicate, Option.map_some, Option.map_none, beq_self_eq_true, Bool.not_true, Bool.not_false, h6, e, this, false_and, decide_false]
    | true =>
      have : v = k := by simpa using e
      simp only [s_nil, s_cons, s_asg, s_asgc, s_par, s_expr, s_iff, s_fr, s_ret0, s_ret, s_brk, s_cnt, s_pass, n_nx, n_rt, n_bk, n_ct, n_ex, e_lit, e_var, e_gl, e_bin, e_neg, e_not, e_cmp, e_chain, e_and, e_or, e_ite, e_tup, e_lst, e_ix, e_sl, e_call, e_callk, e_rng, e_pri, e_met, e_mk, e_mth, e_att, e_nil, e_cons, e_oN, e_oS, e_and1, e_and2, e_or1, e_or2, e_iE, e_iR, e_tV, e_tT, e_tS, e_tA, e_ts0, e_ts, e_if0, e_if1, r_to, r_toX, r_ofE, r_ofX, r_ofT, r_rets, r_retb, r_get0, r_getS, r_toB, v_non, v_bl, v_int, v_str, v_tup, v_lst, v_dic, h_lst, h_dic, h_ins, h_lck, q_non, q_bl, q_int, q_tup, q_lst, c_eqI, c_neI, c_eqS, c_neS, c_lt, c_le, c_gt, c_ge, b_add, b_sub, p_lenT, p_lenL, p_int, p_intB, p_abs, p_min, p_tupL, p_tupT, p_isStr, p_isTup, p_isInt, p_isBool, List.set_cons_zero, List.set_cons_succ, List.map_cons, List.map_nil, List.cons_append, List.nil_append, List.length_cons, List.length_nil, List.length_map, List.replicate, Option.map_some, Option.map_none, beq_self_eq_true, Bool.not_true, Bool.not_false, h6, h5, e, lnT, this, true_and]
      congr 3
      exact propext ⟨fun h => by omega, fun h => by omega⟩
  obtain ⟨wd, hwd⟩ : ∃ wd : List Nat → D, wd = D.str := ⟨_, rfl⟩
  by_cases c0 : v = 0 ∧ 0 < l.length
  · have h0 := hand 0
    rw [decide_eq_true c0] at h0
    obtain ⟨u, w2, e2, u0, u9⟩ := tick (n := n) (b := J.length + 3) (w := w1) (J := J ++ [p0, .lst (names.map .str), .lst (l.map tD)]) (many := (l.length : Int)) (by omega)
    obtain ⟨t, ht, ix⟩ := rows_ix u0 u9
    have ta := told_app (w := w2) (J := J) (p0 := p0) (p1 := .lst (names.map .str)) (l := l) (t := t) (by omega)
    refine ⟨t, w2, some (.int v), x7, x8, x9, x10, x11, hl t ht, ?_⟩
    generalize hE : (E.and [.cmp .eq (.var 6) (.lit (.int 0)), .cmp .gt (.pri .len [.var 5]) (.lit (.int 0))]) = EE at h0
    simp only [C7] at *
    simp only [b7_2, s_nil, s_cons, s_asg, s_asgc, s_par, s_expr, s_iff, s_fr, s_ret0, s_ret, s_brk, s_cnt, s_pass, n_nx, n_rt, n_bk, n_ct, n_ex, e_lit, e_var, e_gl, e_bin, e_neg, e_not, e_cmp, e_chain, e_and, e_or, e_ite, e_tup, e_lst, e_ix, e_sl, e_call, e_callk, e_rng, e_pri, e_met, e_mk, e_mth, e_att, e_nil, e_cons, e_oN, e_oS, e_and1, e_and2, e_or1, e_or2, e_iE, e_iR, e_tV, e_tT, e_tS, e_tA, e_ts0, e_ts, e_if0, e_if1, r_to, r_toX, r_ofE, r_ofX, r_ofT, r_rets, r_retb, r_get0, r_getS, r_toB, v_non, v_bl, v_int, v_str, v_tup, v_lst, v_dic, h_lst, h_dic, h_ins, h_lck, q_non, q_bl, q_int, q_tup, q_lst, c_eqI, c_neI, c_eqS, c_neS, c_lt, c_le, c_gt, c_ge, b_add, b_sub, p_lenT, p_lenL, p_int, p_intB, p_abs, p_min, p_tupL, p_tupT, p_isStr, p_isTup, p_isInt, p_isBool, List.set_cons_zero, List.set_cons_succ, List.map_cons, List.map_nil, List.cons_append, List.nil_append, List.length_cons, List.length_nil, List.length_map, List.replicate, Option.map_some, Option.map_none, beq_self_eq_true, Bool.not_true, Bool.not_false, hE, e1, h0, vv, rec2, lnT, e2, ix, if_true]
    rw [tD, ta]
    simp only [s_nil, s_cons, s_asg, s_asgc, s_par, s_expr, s_iff, s_fr, s_ret0, s_ret, s_brk, s_cnt, s_pass, n_nx, n_rt, n_bk, n_ct, n_ex, e_lit, e_var, e_gl, e_bin, e_neg, e_not, e_cmp, e_chain, e_and, e_or, e_ite, e_tup, e_lst, e_ix, e_sl, e_call, e_callk, e_rng, e_pri, e_met, e_mk, e_mth, e_att, e_nil, e_cons, e_oN, e_oS, e_and1, e_and2, e_or1, e_or2, e_iE, e_iR, e_tV, e_tT, e_tS, e_tA, e_ts0, e_ts, e_if0, e_if1, r_to, r_toX, r_ofE, r_ofX, r_ofT, r_rets, r_retb, r_get0, r_getS, r_toB, v_non, v_bl, v_int, v_str, v_tup, v_lst, v_dic, h_lst, h_dic, h_ins, h_lck, q_non, q_bl, q_int, q_tup, q_lst, c_eqI, c_neI, c_eqS, c_neS, c_lt, c_le, c_gt, c_ge, b_add, b_sub, p_lenT, p_lenL, p_int, p_intB, p_abs, p_min, p_tupL, p_tupT, p_isStr, p_isTup, p_isInt, p_isBool, List.set_cons_zero, List.set_cons_succ, List.map_cons, List.map_nil, List.cons_append, List.nil_append, List.length_cons, List.length_nil, List.length_map, List.replicate, Option.map_some, Option.map_none, beq_self_eq_true, Bool.not_true, Bool.not_false]
  · have h0 := hand 0
    rw [decide_eq_false c0] at h0
    by_cases c1 : v = 1 ∧ 0 < l.length
    · have h1 := hand 1
      rw [decide_eq_true c1] at h1
      obtain ⟨u, w2, e2, u0, u9⟩ := tick (n := n) (b := J.length + 3) (w := w1) (J := J ++ [p0, .lst (names.map .str), .lst (l.map tD)]) (many := (l.length : Int)) (by omega)
      obtain ⟨t, ht, ix⟩ := rows_ix u0 u9
      obtain ⟨z, w3, e3, z0, z9⟩ := tick (n := n) (b := J.length + 3) (w := w2) (J := J ++ [p0, .lst (names.map .str), .lst (l.map tD)]) (many := (ws.length : Int)) (by have := hw.lo; omega)
      obtain ⟨s, hs, ixw⟩ := strs_ix z0 z9
      have hd := hl t ht
      have hle := hd.le
      have tl : t.tail.length ≤ 3 := by rw [List.length_tail]; omega
      have sl : slice (tD t) (some 1) none = some (.tup (t.tail.map .str)) := by
        rw [tD, sl_1]; cases t <;> rfl
      have vt : ∀ S, D.val S (tD t) = tD t := fun _ => rfl
      have rv : (t.tail.map D.str).reverse = t.tail.reverse.map .str := by rw [List.map_reverse]
      have ad : binop .add (.tup [.str s]) (.tup (t.tail.reverse.map .str)) = some (.tup ((s :: t.tail.reverse).map .str)) := b_addT (lim' (by simp; omega))
      have ta := told_app (w := w3) (J := J) (p0 := p0) (p1 := .lst (names.map .str)) (l := l) (t := s :: t.tail.reverse) (by omega)
      refine ⟨s :: t.tail.reverse, w3, some (.int v), some (tD t), x8, x9, x10, x11, ⟨by simp, by simp; omega, ?_, ?_⟩, ?_⟩
      · show t.tail.reverse.Nodup
        exact (List.reverse_perm _).nodup_iff.mpr hd.nd
      · intro y hy
        rcases List.mem_cons.mp hy with rfl | hy
        · exact hw.po _ hs
        · exact hd.po y (List.mem_of_mem_tail (List.mem_reverse.mp hy))
      generalize hE : (E.and [.cmp .eq (.var 6) (.lit (.int 0)), .cmp .gt (.pri .len [.var 5]) (.lit (.int 0))]) = EE at h0
      generalize hF : (E.and [.cmp .eq (.var 6) (.lit (.int 1)), .cmp .gt (.pri .len [.var 5]) (.lit (.int 0))]) = FF at h1
      simp only [C7] at *
      simp only [List.map_cons] at ad ta
      simp only [b7_2, s_nil, s_cons, s_asg, s_asgc, s_par, s_expr, s_iff, s_fr, s_ret0, s_ret, s_brk, s_cnt, s_pass, n_nx, n_rt, n_bk, n_ct, n_ex, e_lit, e_var, e_gl, e_bin, e_neg, e_not, e_cmp, e_chain, e_and, e_or, e_ite, e_tup, e_lst, e_ix, e_sl, e_call, e_callk, e_rng, e_pri, e_met, e_mk, e_mth, e_att, e_nil, e_cons, e_oN, e_oS, e_and1, e_and2, e_or1, e_or2, e_iE, e_iR, e_tV, e_tT, e_tS, e_tA, e_ts0, e_ts, e_if0, e_if1, r_to, r_toX, r_ofE, r_ofX, r_ofT, r_rets, r_retb, r_get0, r_getS, r_toB, v_non, v_bl, v_int, v_str, v_tup, v_lst, v_dic, h_lst, h_dic, h_ins, h_lck, q_non, q_bl, q_int, q_tup, q_lst, c_eqI, c_neI, c_eqS, c_neS, c_lt, c_le, c_gt, c_ge, b_add, b_sub, p_lenT, p_lenL, p_int, p_intB, p_abs, p_min, p_tupL, p_tupT, p_isStr, p_isTup, p_isInt, p_isBool, List.set_cons_zero, List.set_cons_succ, List.map_cons, List.map_nil, List.cons_append, List.nil_append, List.length_cons, List.length_nil, List.length_map, List.replicate, Option.map_some, Option.map_none, beq_self_eq_true, Bool.not_true, Bool.not_false, hE, hF, e1, h0, h1, vv, rec2, lnT, e2, ix, if_true, p_lenW, e3, ixw, lm1, e_rev, vt, sl, rv, ad, ta]
    · have h1 := hand 1
      rw [decide_eq_false c1] at h1
      have hlo := hc.lo
      have hle := hc.le
      obtain ⟨f, w2, e2, f0, f9⟩ := tick (n := n) (b := J.length + 3) (w := w1) (J := J ++ [p0, .lst (names.map .str), .lst (l.map tD)]) (many := (names.length : Int)) (by omega)
      obtain ⟨f, rfl⟩ := natOf f0
      obtain ⟨u, w3, e3, u0, u9⟩ := tick (n := n) (b := J.length + 3) (w := w2) (J := J ++ [p0, .lst (names.map .str), .lst (l.map tD)]) (many := 3) (by decide)
      obtain ⟨sz, hsz, hs4, hsn⟩ : ∃ sz : Nat, (if 1 + u < (names.length : Int) then 1 + u else (names.length : Int)) = (sz : Int) ∧ sz < 4 ∧ sz ≤ names.length := by
        split
        · exact ⟨(1 + u).toNat, by omega, by omega, by omega⟩
        · exact ⟨names.length, rfl, by omega, by omega⟩
      have nm : cmpop .nmem (.int (names.length : Int)) (.tup [.int 3, .int 6]) = some (!decide (names.length = 3 ∨ names.length = 6)) := by
        show (memO (.int (names.length : Int)) [.int 3, .int 6]).map (!·) = _
        have : memO (.int (names.length : Int)) [.int 3, .int 6] = some (memD (.int (names.length : Int)) [.int 3, .int 6]) := rfl
        rw [this]
        show some (!((3 : Int) == (names.length : Int) || ((6 : Int) == (names.length : Int) || false))) = _
        congr 2
        rw [Bool.or_false, Bool.eq_iff_iff]
        simp only [Bool.or_eq_true, beq_iff_eq, decide_eq_true_eq]
        omega
      obtain ⟨st, w4, e4, hst⟩ : ∃ (st : Nat) (w4 : Bd), (∀ env, getV env 2 = some (.ref (J.length + 4)) → getV env 0 = some (.ref 2) → ev (C7 n J) (.ite (.cmp .nmem (.pri .len [.var 2]) (.tup [.lit (.int 3), .lit (.int 6)])) (.bin .add (.lit (.int 1)) (.bin .mul (.lit (.int 2)) (.call 6 [.var 0, .lit (.int 2)]))) (.lit (.int 1))) env (CS w3 (J ++ [p0, .lst (names.map .str), .lst (l.map tD)])) = .ok (.int (st : Int)) (CS w4 (J ++ [p0, .lst (names.map .str), .lst (l.map tD)]))) ∧ (st = 1 ∨ (st = 3 ∧ names.length ≠ 3 ∧ names.length ≠ 6)) := by
        by_cases c : names.length = 3 ∨ names.length = 6
        · refine ⟨1, w3, fun env g2 g0 => ?_, .inl rfl⟩
          rw [decide_eq_true c] at nm
          simp only [C7, s_nil, s_cons, s_asg, s_asgc, s_par, s_expr, s_iff, s_fr, s_ret0, s_ret, s_brk, s_cnt, s_pass, n_nx, n_rt, n_bk, n_ct, n_ex, e_lit, e_var, e_gl, e_bin, e_neg, e_not, e_cmp, e_chain, e_and, e_or, e_ite, e_tup, e_lst, e_ix, e_sl, e_call, e_callk, e_rng, e_pri, e_met, e_mk, e_mth, e_att, e_nil, e_cons, e_oN, e_oS, e_and1, e_and2, e_or1, e_or2, e_iE, e_iR, e_tV, e_tT, e_tS, e_tA, e_ts0, e_ts, e_if0, e_if1, r_to, r_toX, r_ofE, r_ofX, r_ofT, r_rets, r_retb, r_get0, r_getS, r_toB, v_non, v_bl, v_int, v_str, v_tup, v_lst, v_dic, h_lst, h_dic, h_ins, h_lck, q_non, q_bl, q_int, q_tup, q_lst, c_eqI, c_neI, c_eqS, c_neS, c_lt, c_le, c_gt, c_ge, b_add, b_sub, p_lenT, p_lenL, p_int, p_intB, p_abs, p_min, p_tupL, p_tupT, p_isStr, p_isTup, p_isInt, p_isBool, List.set_cons_zero, List.set_cons_succ, List.map_cons, List.map_nil, List.cons_append, List.nil_append, List.length_cons, List.length_nil, List.length_map, List.replicate, Option.map_some, Option.map_none, beq_self_eq_true, Bool.not_true, Bool.not_false, g2, lnP, lm2, if_true, nm]; rfl
        · rw [decide_eq_false c] at nm
          obtain ⟨z, w4, e4, z0, z9⟩ := tick (n := n) (b := J.length + 3) (w := w3) (J := J ++ [p0, .lst (names.map .str), .lst (l.map tD)]) (many := 2) (by decide)
          have u2 : ∀ i : Int, binop .mul (.int 2) (.int i) = some (.int (2 * i)) := fun i => b_mul (mulOk_l (by decide) (by decide))
          obtain ⟨z, rfl⟩ := natOf z0
          refine ⟨1 + 2 * z, w4, fun env g2 g0 => ?_, ?_⟩
          · simp only [C7] at *
            simp only [s_nil, s_cons, s_asg, s_asgc, s_par, s_expr, s_iff, s_fr, s_ret0, s_ret, s_brk, s_cnt, s_pass, n_nx, n_rt, n_bk, n_ct, n_ex, e_lit, e_var, e_gl, e_bin, e_neg, e_not, e_cmp, e_chain, e_and, e_or, e_ite, e_tup, e_lst, e_ix, e_sl, e_call, e_callk, e_rng, e_pri, e_met, e_mk, e_mth, e_att, e_nil, e_cons, e_oN, e_oS, e_and1, e_and2, e_or1, e_or2, e_iE, e_iR, e_tV, e_tT, e_tS, e_tA, e_ts0, e_ts, e_if0, e_if1, r_to, r_toX, r_ofE, r_ofX, r_ofT, r_rets, r_retb, r_get0, r_getS, r_toB, v_non, v_bl, v_int, v_str, v_tup, v_lst, v_dic, h_lst, h_dic, h_ins, h_lck, q_non, q_bl, q_int, q_tup, q_lst, c_eqI, c_neI, c_eqS, c_neS, c_lt, c_le, c_gt, c_ge, b_add, b_sub, p_lenT, p_lenL, p_int, p_intB, p_abs, p_min, p_tupL, p_tupT, p_isStr, p_isTup, p_isInt, p_isBool, List.set_cons_zero, List.set_cons_succ, List.map_cons, List.map_nil, List.cons_append, List.nil_append, List.length_cons, List.length_nil, List.length_map, List.replicate, Option.map_some, Option.map_none, beq_self_eq_true, Bool.not_true, Bool.not_false, g2, g0, lnP, lm2, if_true, nm, e4, u2]
            congr 2
          · have : z = 0 ∨ z = 1 := by omega
            rcases this with rfl | rfl
            · exact .inl rfl
            · exact .inr ⟨rfl, by omega, by omega⟩
      have mP : ∀ i : Int, binop .mod (.int i) (.int (names.length : Int)) = some (.int (i % (names.length : Int))) := fun i => b_mod (by omega)
      have uS : ∀ i : Int, binop .mul (.int i) (.int (st : Int)) = some (.int (i * (st : Int))) := fun i => b_mul (mulOk_r (by omega) (by omega))
      have key := lc_range (c := C7 n J) (env := [some (.ref 2), mny, some (.ref (J.length + 4)), some (.int (i : Int)), some (.lst (ws.map .str)), some (.ref (J.length + 5)), some (.int v), x7, some (.int (f : Int)), some (.int (sz : Int)), some (.int (st : Int)), x11, none]) (S := CS w4 (J ++ [p0, .lst (names.map .str), .lst (l.map tD)])) (i := 12) (m := sz) (lo := 0) (e := e7_1) (it := .range [.var 9])
        (fun k => .str (names.getD ((f + k * st) % names.length) [])) (by
          have hI : ∀ S, rngI [.int (sz : Int)] S = .ok (rangeOf 0 sz, none) S := fun S => rngI1 (by omega) (by omega)
          simp only [wipeE, s_nil, s_cons, s_asg, s_asgc, s_par, s_expr, s_iff, s_fr, s_ret0, s_ret, s_brk, s_cnt, s_pass, n_nx, n_rt, n_bk, n_ct, n_ex, e_lit, e_var, e_gl, e_bin, e_neg, e_not, e_cmp, e_chain, e_and, e_or, e_ite, e_tup, e_lst, e_ix, e_sl, e_call, e_callk, e_rng, e_pri, e_met, e_mk, e_mth, e_att, e_nil, e_cons, e_oN, e_oS, e_and1, e_and2, e_or1, e_or2, e_iE, e_iR, e_tV, e_tT, e_tS, e_tA, e_ts0, e_ts, e_if0, e_if1, r_to, r_toX, r_ofE, r_ofX, r_ofT, r_rets, r_retb, r_get0, r_getS, r_toB, v_non, v_bl, v_int, v_str, v_tup, v_lst, v_dic, h_lst, h_dic, h_ins, h_lck, q_non, q_bl, q_int, q_tup, q_lst, c_eqI, c_neI, c_eqS, c_neS, c_lt, c_le, c_gt, c_ge, b_add, b_sub, p_lenT, p_lenL, p_int, p_intB, p_abs, p_min, p_tupL, p_tupT, p_isStr, p_isTup, p_isInt, p_isBool, List.set_cons_zero, List.set_cons_succ, List.map_cons, List.map_nil, List.cons_append, List.nil_append, List.length_cons, List.length_nil, List.length_map, List.replicate, Option.map_some, Option.map_none, beq_self_eq_true, Bool.not_true, Bool.not_false, hI]
          simp [rangeOf]) (fun k hk => by
          have ix : index (.lst (names.map .str)) (.int (((f : Int) + (0 + (k : Int)) * (st : Int)) % (names.length : Int))) = some (.str (names.getD ((f + k * st) % names.length) [])) := by
            have h0 : 0 < names.length := by omega
            have : ((f : Int) + (0 + (k : Int)) * (st : Int)) % (names.length : Int) = (((f + k * st) % names.length : Nat) : Int) := by
              rw [Int.zero_add]; norm_cast
            rw [this, getD_eq (Nat.mod_lt _ h0)]
            exact i_lstN (by rw [List.getElem?_map, List.getElem?_eq_getElem (Nat.mod_lt _ h0)]; rfl)
          simp only [wipeE, e7_1, C7, s_nil, s_cons, s_asg, s_asgc, s_par, s_expr, s_iff, s_fr, s_ret0, s_ret, s_brk, s_cnt, s_pass, n_nx, n_rt, n_bk, n_ct, n_ex, e_lit, e_var, e_gl, e_bin, e_neg, e_not, e_cmp, e_chain, e_and, e_or, e_ite, e_tup, e_lst, e_ix, e_sl, e_call, e_callk, e_rng, e_pri, e_met, e_mk, e_mth, e_att, e_nil, e_cons, e_oN, e_oS, e_and1, e_and2, e_or1, e_or2, e_iE, e_iR, e_tV, e_tT, e_tS, e_tA, e_ts0, e_ts, e_if0, e_if1, r_to, r_toX, r_ofE, r_ofX, r_ofT, r_rets, r_retb, r_get0, r_getS, r_toB, v_non, v_bl, v_int, v_str, v_tup, v_lst, v_dic, h_lst, h_dic, h_ins, h_lck, q_non, q_bl, q_int, q_tup, q_lst, c_eqI, c_neI, c_eqS, c_neS, c_lt, c_le, c_gt, c_ge, b_add, b_sub, p_lenT, p_lenL, p_int, p_intB, p_abs, p_min, p_tupL, p_tupT, p_isStr, p_isTup, p_isInt, p_isBool, List.set_cons_zero, List.set_cons_succ, List.map_cons, List.map_nil, List.cons_append, List.nil_append, List.length_cons, List.length_nil, List.length_map, List.replicate, Option.map_some, Option.map_none, beq_self_eq_true, Bool.not_true, Bool.not_false, vp, uS, lnP, mP, ix]) (Nat.le_trans (Nat.le_of_lt hs4) (by decide))
      have hwho : (List.range sz).map (fun k => D.str (names.getD ((f + k * st) % names.length) [])) = (whoN names f sz st).map .str := by
        rw [whoN, List.map_map]; rfl
      rw [hwho] at key
      obtain ⟨z, w5, e5, z0, z9⟩ := tick (n := n) (b := J.length + 3) (w := w4) (J := J ++ [p0, .lst (names.map .str), .lst (l.map tD)]) (many := (ws.length : Int)) (by have := hw.lo; omega)
      obtain ⟨s, hs, ixw⟩ := strs_ix z0 z9
      have hwl : (whoN names f sz st).length = sz := by simp [whoN]
      have ad : binop .add (.tup [.str s]) (.tup ((whoN names f sz st).map .str)) = some (.tup ((s :: whoN names f sz st).map .str)) := b_addT (lim' (by simp; omega))
      have ta := told_app (w := w5) (J := J) (p0 := p0) (p1 := .lst (names.map .str)) (l := l) (t := s :: whoN names f sz st) (by omega)
      refine ⟨s :: whoN names f sz st, w5, some (.int v), x7, some (.int (f : Int)), some (.int (sz : Int)), some (.int (st : Int)), some (.lst ((whoN names f sz st).map .str)), ⟨by simp, by simp; omega, who_nd hc (by omega) hs4 hsn hst, ?_⟩, ?_⟩
      · intro y hy
        rcases List.mem_cons.mp hy with rfl | hy
        · exact hw.po _ hs
        · exact who_po hc y hy
      generalize hE : (E.and [.cmp .eq (.var 6) (.lit (.int 0)), .cmp .gt (.pri .len [.var 5]) (.lit (.int 0))]) = EE at h0
      generalize hF : (E.and [.cmp .eq (.var 6) (.lit (.int 1)), .cmp .gt (.pri .len [.var 5]) (.lit (.int 0))]) = FF at h1
      have g0 : ∀ (a b c d e g h i j k l m n : Option D), getV [a, b, some (.ref (J.length + 4)), d, e, g, h, i, j, k, l, m, n] 2 = some (.ref (J.length + 4)) := fun _ _ _ _ _ _ _ _ _ _ _ _ _ => rfl
      have g2 : ∀ (a b c d e g h i j k l m n : Option D), getV [some (.ref 2), b, c, d, e, g, h, i, j, k, l, m, n] 0 = some (.ref 2) := fun _ _ _ _ _ _ _ _ _ _ _ _ _ => rfl
      generalize hG : (E.ite (.cmp .nmem (.pri .len [.var 2]) (.tup [.lit (.int 3), .lit (.int 6)])) (.bin .add (.lit (.int 1)) (.bin .mul (.lit (.int 2)) (.call 6 [.var 0, .lit (.int 2)]))) (.lit (.int 1))) = GG at e4
      simp only [C7] at *
      simp only [List.map_cons] at ad ta
      simp only [b7_2, s_nil, s_cons, s_asg, s_asgc, s_par, s_expr, s_iff, s_fr, s_ret0, s_ret, s_brk, s_cnt, s_pass, n_nx, n_rt, n_bk, n_ct, n_ex, e_lit, e_var, e_gl, e_bin, e_neg, e_not, e_cmp, e_chain, e_and, e_or, e_ite, e_tup, e_lst, e_ix, e_sl, e_call, e_callk, e_rng, e_pri, e_met, e_mk, e_mth, e_att, e_nil, e_cons, e_oN, e_oS, e_and1, e_and2, e_or1, e_or2, e_iE, e_iR, e_tV, e_tT, e_tS, e_tA, e_ts0, e_ts, e_if0, e_if1, r_to, r_toX, r_ofE, r_ofX, r_ofT, r_rets, r_retb, r_get0, r_getS, r_toB, v_non, v_bl, v_int, v_str, v_tup, v_lst, v_dic, h_lst, h_dic, h_ins, h_lck, q_non, q_bl, q_int, q_tup, q_lst, c_eqI, c_neI, c_eqS, c_neS, c_lt, c_le, c_gt, c_ge, b_add, b_sub, p_lenT, p_lenL, p_int, p_intB, p_abs, p_min, p_tupL, p_tupT, p_isStr, p_isTup, p_isInt, p_isBool, List.set_cons_zero, List.set_cons_succ, List.map_cons, List.map_nil, List.cons_append, List.nil_append, List.length_cons, List.length_nil, List.length_map, List.replicate, Option.map_some, Option.map_none, beq_self_eq_true, Bool.not_true, Bool.not_false, hE, hF, hG, e1, h0, h1, vv, rec2, lnT, lnP, e2, e3, hsz, e4, key, if_true, p_lenW, e5, ixw, lm1, ad, ta]
end
end Mi

namespace Mi
open PySem L2 PySem.Spec PyProof.Rows
theorem tD_lt {k : Nat} (t : List (List Nat)) : (tD t).lt k = true := lts_str t
theorem rowD_lt {k : Nat} (l : List (List (List Nat))) : (rowD l).lt k = true := ltsOf fun d hd => by
  obtain ⟨t, _, rfl⟩ := List.mem_map.mp hd; exact tD_lt t
theorem lm4 : (0 + 1 + 1 + 1 + 1 ≤ sizeLim) = True := eq_true (by decide)
theorem story {n b : Nat} {w : Bd} {J : Sto} {many : Nat} (hm : many < 63) :
    ∃ l w', callN src.pg (n+2) 7 [.ref 2, .int many] b (CS w J) = .ok (rowD l) (CS w' J) ∧ l.length = many ∧ ∀ t ∈ l, Deed t := by
  rw [callN_run (fd := ⟨2, 13, false, b7⟩) rfl rfl]
  obtain ⟨e', S', f1, x3, names, w1, rfl, rfl, hp⟩ := shuffle (n := n) (w := w) (J := J) (many := some (.int many)) (x3 := none) (x4 := none) (x5 := none) (x6 := none) (x7 := none) (x8 := none) (x9 := none) (x10 := none) (x11 := none) (x12 := none)
  have hn7 : names.length = 7 := hp.length_eq
  obtain ⟨v, w2, e2, v0, v6⟩ := tick (n := n) (b := J.length + 3) (w := w1) (J := J ++ [.lst (names.map .str)]) (many := 6) (by decide)
  obtain ⟨k, rfl⟩ := natOf v0
  have hcut : cut (names.map D.str) none (some (2 + (k : Int))) = (names.take (2 + k)).map .str := by
    rw [show (2 + (k : Int)) = ((2 + k : Nat) : Int) from by omega, cutTo, List.map_take]
  have po7 : ∀ s ∈ names, s ∈ pool := fun s hs => List.mem_append_left _ (hp.mem_iff.mp hs)
  have hc : Cast (names.take (2 + k)) := ⟨(hp.nodup_iff.mpr (by decide)).sublist (List.take_sublist ..), by rw [List.length_take]; omega, by rw [List.length_take]; omega, fun s hs => po7 s (List.mem_of_mem_take hs)⟩
  generalize hcs : names.take (2 + k) = cs at *
  obtain ⟨z, w3, e3, z0, z4⟩ := tick (n := n) (b := J.length + 3) (w := w2) (J := J ++ [.lst (names.map .str), .lst (cs.map .str)]) (many := 4) (by decide)
  obtain ⟨z, rfl⟩ := natOf z0
  have hlo := hc.lo
  obtain ⟨ws, hws, hwsl⟩ : ∃ ws : List (List Nat), Words ws ∧ slice (.lst [.str [109,101,101,116], .str [104,105,116], .str cs[0], .str [122]]) none (some (1 + (z : Int))) = some (.lst (ws.map .str)) := by
    refine ⟨([[109,101,101,116], [104,105,116], cs[0], [122]] : List (List Nat)).take (1 + z), ⟨by rw [List.length_take]; simp; omega, by rw [List.length_take]; simp; omega, fun s hs => ?_⟩, ?_⟩
    · have := List.mem_of_mem_take hs
      simp only [List.mem_cons, List.not_mem_nil, or_false] at this
      rcases this with rfl | rfl | rfl | rfl
      · decide
      · decide
      · exact hc.po _ (List.getElem_mem _)
      · decide
    · show some (D.lst (cut ([[109,101,101,116], [104,105,116], cs[0], [122]].map D.str) none (some (1 + (z : Int))))) = _
      rw [show (1 + (z : Int)) = ((1 + z : Nat) : Int) from by omega, cutTo, List.map_take]
  obtain ⟨e', S', f2, f3⟩ := frW_inv (c := C7 n J) (tg := .var 3) (B := b7_2) (env := [some (.ref 2), some (.int many), some (.ref (J.length + 4)), x3, some (.lst (ws.map .str)), some (.ref (J.length + 5)), none, none, none, none, none, none, none]) (S := CS w3 (J ++ [.lst (names.map .str), .lst (cs.map .str), .lst []])) (items := rangeOf 0 many)
    (fun i e S => ∃ (l : List (List (List Nat))) (w : Bd) (x3 x6 x7 x8 x9 x10 x11 : Option D), e = [some (.ref 2), some (.int many), some (.ref (J.length + 4)), x3, some (.lst (ws.map .str)), some (.ref (J.length + 5)), x6, x7, x8, x9, x10, x11, none] ∧ S = CS w (J ++ [.lst (names.map .str), .lst (cs.map .str), .lst (l.map tD)]) ∧ l.length = i ∧ ∀ t ∈ l, Deed t)
    ⟨[], _, _, _, _, _, _, _, _, rfl, rfl, rfl, by simp⟩ (fun i d e S hd ⟨l, w, x3, x6, x7, x8, x9, x10, x11, he, hS, hi, hl⟩ => by
      subst he; subst hS
      obtain ⟨rfl, hk⟩ := rangeOf_get hd
      obtain ⟨t, w', y6, y7, y8, y9, y10, y11, ht, hx⟩ := lap1 (n := n) (mny := some (.int many)) (w := w) (J := J) (p0 := .lst (names.map .str)) (i := i) (x6 := x6) (x7 := x7) (x8 := x8) (x9 := x9) (x10 := x10) (x11 := x11) hc hws hl (by omega)
      refine ⟨_, _, .inl ?_, l ++ [t], w', some (.int (i : Int)), y6, y7, y8, y9, y10, y11, rfl, rfl, by simp [hi], ?_⟩
      · simp only [s_nil, s_cons, s_asg, s_asgc, s_par, s_expr, s_iff, s_fr, s_ret0, s_ret, s_brk, s_cnt, s_pass, n_nx, n_rt, n_bk, n_ct, n_ex, e_lit, e_var, e_gl, e_bin, e_neg, e_not, e_cmp, e_chain, e_and, e_or, e_ite, e_tup, e_lst, e_ix, e_sl, e_call, e_callk, e_rng, e_pri, e_met, e_mk, e_mth, e_att, e_nil, e_cons, e_oN, e_oS, e_and1, e_and2, e_or1, e_or2, e_iE, e_iR, e_tV, e_tT, e_tS, e_tA, e_ts0, e_ts, e_if0, e_if1, r_to, r_toX, r_ofE, r_ofX, r_ofT, r_rets, r_retb, r_get0, r_getS, r_toB, v_non, v_bl, v_int, v_str, v_tup, v_lst, v_dic, h_lst, h_dic, h_ins, h_lck, q_non, q_bl, q_int, q_tup, q_lst, c_eqI, c_neI, c_eqS, c_neS, c_lt, c_le, c_gt, c_ge, b_add, b_sub, p_lenT, p_lenL, p_int, p_intB, p_abs, p_min, p_tupL, p_tupT, p_isStr, p_isTup, p_isInt, p_isBool, List.set_cons_zero, List.set_cons_succ, List.map_cons, List.map_nil, List.cons_append, List.nil_append, List.length_cons, List.length_nil, List.length_map, List.replicate, Option.map_some, Option.map_none, beq_self_eq_true, Bool.not_true, Bool.not_false, Int.zero_add, hx]
      · intro u hu
        rcases List.mem_append.mp hu with hu | hu
        · exact hl u hu
        · simp at hu; subst hu; exact ht)
  obtain ⟨l, w4, y3, y6, y7, y8, y9, y10, y11, rfl, rfl, hi, hl⟩ := f3
  rw [rangeOf_len] at hi
  refine ⟨l, w4, (runF_rt (S1 := CS w4 (J ++ [.lst (names.map .str), .lst (cs.map .str), .lst (l.map tD)])) (d := rowD l) ?_).trans ?_, by omega, hl⟩
  · have hI : ∀ S, rngI [.int (many : Int)] S = .ok (rangeOf 0 many, none) S := fun S => rngI1 (by omega) (by omega)
    have hI7 : ∀ S, rngI [.int 7] S = .ok (rangeOf 0 7, none) S := fun S => rngI1 (by omega) (by omega)
    have nlA : newL true [.str [97,110,110], .str [98], .str [99,97,114,111,108,105,110,97], .str [100,111,116], .str [101,118,101], .str [102], .str [103,117,115]] (CS w J) = .ok (.ref (J.length + 3)) (CS w (J ++ [.lst (names7.map .str)])) := rfl
    have vv : D.val (CS w2 (J ++ [.lst (names.map .str)])) (.ref (J.length + 3)) = .lst (names.map .str) := cs_val (k := 0) rfl
    have v2 : ∀ S, D.val (CS w2 (J ++ .lst (names.map .str) :: .lst (cs.map .str) :: S)) (.ref (J.length + 4)) = .lst (cs.map .str) := fun S => cs_val (k := 1) rfl
    have nlB : newL true (cs.map .str) (CS w2 (J ++ [.lst (names.map .str)])) = .ok (.ref (J.length + 4)) (CS w2 (J ++ [.lst (names.map .str), .lst (cs.map .str)])) := by
      have e : (J ++ [MO.lst (names.map .str)]).length + 3 = J.length + 4 := by simp
      rw [nl1 (by rw [List.length_map]; exact lim' (Nat.le_trans hc.le (by decide))), cs_len, e, cs_new, List.append_assoc]; rfl
    have nlC : newL true [] (CS w3 (J ++ [.lst (names.map .str), .lst (cs.map .str)])) = .ok (.ref (J.length + 5)) (CS w3 (J ++ [.lst (names.map .str), .lst (cs.map .str), .lst []])) := by
      have e : (J ++ [MO.lst (names.map .str), .lst (cs.map .str)]).length + 3 = J.length + 5 := by simp
      rw [nl0, cs_len, e, cs_new, List.append_assoc]; rfl
    have nlD : ∀ a b c d S, newL false [a, b, c, d] S = .ok (.lst [a, b, c, d]) S := fun _ _ _ _ _ => rfl
    have ix0 : index (.lst (cs.map .str)) (.int 0) = some (.str cs[0]) := i_lstN (k := 0) (by rw [List.getElem?_map, List.getElem?_eq_getElem (by omega)]; rfl)
    have tupW : prim (J.length + 3) .tuple [.ref (J.length + 5)] (CS w4 (J ++ [.lst (names.map .str), .lst (cs.map .str), .lst (l.map tD)])) = .ok (rowD l) (CS w4 (J ++ [.lst (names.map .str), .lst (cs.map .str), .lst (l.map tD)])) := p_tupR (cs_get (k := 2) rfl)
    show exs (C7 n J) b7 [some (.ref 2), some (.int many), none, none, none, none, none, none, none, none, none, none, none] _ = _
    simp only [C7] at *
    simp only [b7, s_nil, s_cons, s_asg, s_asgc, s_par, s_expr, s_iff, s_fr, s_ret0, s_ret, s_brk, s_cnt, s_pass, n_nx, n_rt, n_bk, n_ct, n_ex, e_lit, e_var, e_gl, e_bin, e_neg, e_not, e_cmp, e_chain, e_and, e_or, e_ite, e_tup, e_lst, e_ix, e_sl, e_call, e_callk, e_rng, e_pri, e_met, e_mk, e_mth, e_att, e_nil, e_cons, e_oN, e_oS, e_and1, e_and2, e_or1, e_or2, e_iE, e_iR, e_tV, e_tT, e_tS, e_tA, e_ts0, e_ts, e_if0, e_if1, r_to, r_toX, r_ofE, r_ofX, r_ofT, r_rets, r_retb, r_get0, r_getS, r_toB, v_non, v_bl, v_int, v_str, v_tup, v_lst, v_dic, h_lst, h_dic, h_ins, h_lck, q_non, q_bl, q_int, q_tup, q_lst, c_eqI, c_neI, c_eqS, c_neS, c_lt, c_le, c_gt, c_ge, b_add, b_sub, p_lenT, p_lenL, p_int, p_intB, p_abs, p_min, p_tupL, p_tupT, p_isStr, p_isTup, p_isInt, p_isBool, List.set_cons_zero, List.set_cons_succ, List.map_cons, List.map_nil, List.cons_append, List.nil_append, List.length_cons, List.length_nil, List.length_map, List.replicate, Option.map_some, Option.map_none, beq_self_eq_true, Bool.not_true, Bool.not_false, nlA, hI7, f1, e_cpy, e2, vv, hcut, nlB, v2, ix0, nlD, e3, hwsl, nlC, hI, f2, tupW]
  · rw [fin_ok (rowD_lt l), cs_take (w := w)]
end Mi

namespace Mi
open PySem L2 PySem.Spec PyProof.Rows
/-! ## plain: each once -/
theorem nodup_le : ∀ (l m : List (List Nat)), l.Nodup → (∀ s ∈ l, s ∈ m) → l.length ≤ m.length
  | [], _, _, _ => Nat.zero_le _
  | a :: l, m, hn, hs => by
    obtain ⟨h1, h2⟩ := List.nodup_cons.mp hn
    have ha := hs a (List.mem_cons_self ..)
    have := nodup_le l (m.erase a) h2 fun s hx => (List.mem_erase_of_ne (show s ≠ a from fun e => h1 (e ▸ hx))).mpr (hs s (List.mem_cons_of_mem _ hx))
    rw [List.length_erase_of_mem ha] at this
    have : 0 < m.length := List.length_pos_of_mem ha
    rw [List.length_cons]; omega
section
variable {α : Type} [BEq α] [LawfulBEq α]
def insG (s : α) (l : List α) : List α := if l.contains s then l else l ++ [s]
def ddg (l : List α) : List α := l.foldl (fun a s => insG s a) []
theorem ddg_add (l : List α) (a : α) : ddg (l ++ [a]) = insG a (ddg l) := by
  unfold ddg
  rw [List.foldl_append]; rfl
theorem insG_mem {x a : α} {l : List α} : x ∈ insG a l ↔ x ∈ l ∨ x = a := by
  unfold insG
  cases e : l.contains a with
  | true =>
    rw [if_pos rfl]
    refine ⟨.inl, fun h => h.elim id fun h => ?_⟩
    subst h
    simpa using e
  | false =>
    rw [if_neg (by simp)]; simp
theorem ddg_mem (l : List α) : ∀ x, x ∈ ddg l ↔ x ∈ l := by
  unfold ddg
  suffices ∀ (l acc : List α), ∀ x, x ∈ l.foldl (fun a s => insG s a) acc ↔ x ∈ acc ∨ x ∈ l from fun x => by
    have := this l [] x; simpa using this
  intro l
  induction l with
  | nil => intro acc x; simp
  | cons a l ih =>
    intro acc x
    rw [List.foldl_cons, ih, insG_mem, List.mem_cons]
    exact ⟨fun h => by rcases h with (h | h) | h <;> simp [h], fun h => by rcases h with h | h | h <;> simp [h]⟩
theorem ddg_le (l : List α) : (ddg l).length ≤ l.length := by
  unfold ddg
  suffices ∀ (l acc : List α), (l.foldl (fun a s => insG s a) acc).length ≤ acc.length + l.length from by have := this l []; simpa using this
  intro l
  induction l with
  | nil => intro acc; simp
  | cons a l ih =>
    intro acc
    rw [List.foldl_cons]
    refine Nat.le_trans (ih _) ?_
    have : (insG a acc).length ≤ acc.length + 1 := by
      unfold insG
      split
      · omega
      · simp
    simp only [List.length_cons]; omega
theorem ddg_nodup (l : List α) : (ddg l).Nodup := by
  unfold ddg
  suffices ∀ (l acc : List α), acc.Nodup → (l.foldl (fun a s => insG s a) acc).Nodup from this l [] List.nodup_nil
  intro l
  induction l with
  | nil => intro acc h; exact h
  | cons a l ih =>
    intro acc h
    refine ih _ ?_
    show (insG a acc).Nodup
    unfold insG
    cases e : acc.contains a with
    | true => exact h
    | false =>
      refine List.nodup_append.mpr ⟨h, by simp, fun x hx y hy => ?_⟩
      simp at hy; subst hy
      intro hxy; subst hxy
      simp [hx] at e
end
theorem dd_g (l : List (List Nat)) : dd l = ddg l := rfl
theorem dd_le {l : List (List Nat)} (h : ∀ s ∈ l, s ∈ pool) : (dd l).length ≤ 10 := nodup_le _ pool (ddg_nodup l) fun s hs => h s ((ddg_mem l s).mp hs)
theorem insO_len (s : List Nat) : ∀ l : List (List Nat), (insO s l).length = l.length + 1
  | [] => rfl
  | t :: r => by
    unfold insO
    split
    · rw [List.length_cons, insO_len s r]; rfl
    · rfl
theorem sortS_len : ∀ l : List (List Nat), (sortS l).length = l.length
  | [] => rfl
  | s :: r => by
    unfold sortS
    rw [insO_len, sortS_len r]; rfl
theorem insO_mem {x s : List Nat} : ∀ l : List (List Nat), x ∈ insO s l → x = s ∨ x ∈ l
  | [], h => by simpa [insO] using h
  | t :: r, h => by
    unfold insO at h
    split at h
    · rcases List.mem_cons.mp h with h | h
      · simp [h]
      · rcases insO_mem r h with h | h <;> simp [h]
    · rcases List.mem_cons.mp h with h | h <;> simp_all
theorem sortS_mem {x : List Nat} : ∀ l : List (List Nat), x ∈ sortS l → x ∈ l
  | [], h => h
  | s :: r, h => by
    unfold sortS at h
    rcases insO_mem _ h with h | h
    · simp [h]
    · simp [sortS_mem r h]
/-! ## tables -/
section
variable {α : Type} [BEq α] [LawfulBEq α] {K : α → D}
def tab (K : α → D) (v : α → D) (ks : List α) : List (D × D) := ks.map fun a => (K a, v a)
theorem tab_get (hK : ∀ a b, keyEq (K a) (K b) = (a == b)) (v : α → D) (a : α) : ∀ ks : List α, getD (K a) (tab K v ks) = if ks.contains a then some (v a) else none
  | [] => rfl
  | b :: ks => by
    have ih := tab_get hK v a ks
    show (if keyEq (K b) (K a) then some (v b) else getD (K a) (tab K v ks)) = _
    rw [hK, ih, List.contains_cons]
    cases e : b == a with
    | true =>
      have : b = a := by simpa using e
      subst this; simp
    | false =>
      have : (a == b) = false := by
        have : b ≠ a := by simpa using e
        simpa using fun h => this h.symm
      simp [this]
theorem tab_any (hK : ∀ a b, keyEq (K a) (K b) = (a == b)) (v : α → D) (a : α) : ∀ ks : List α, (tab K v ks).any (fun p => keyEq p.1 (K a)) = ks.contains a
  | [] => rfl
  | b :: ks => by
    have ih := tab_any hK v a ks
    show (keyEq (K b) (K a) || (tab K v ks).any fun p => keyEq p.1 (K a)) = _
    rw [ih, hK, List.contains_cons, Bool.beq_comm]
theorem tab_put (hK : ∀ a b, keyEq (K a) (K b) = (a == b)) (v : α → D) (a : α) (x : D) (ks : List α) : putD (K a) x (tab K v ks) = tab K (fun y => if y == a then x else v y) (insG a ks) := by
  unfold putD insG
  rw [tab_any hK]
  cases e : ks.contains a with
  | true =>
    rw [if_pos rfl, if_pos rfl]
    unfold tab
    rw [List.map_map]
    refine List.map_congr_left fun y _ => ?_
    show (if keyEq (K y) (K a) then (K y, x) else (K y, v y)) = _
    rw [hK]
    cases e : y == a <;> simp [e]
  | false =>
    rw [if_neg (by simp), if_neg (by simp)]
    unfold tab
    rw [List.map_append]
    congr 1
    · refine List.map_congr_left fun y hy => ?_
      have : (y == a) = false := by
        refine beq_eq_false_iff_ne.mpr fun h => ?_
        subst h; simp [hy] at e
      simp [this]
    · simp
theorem tabT_get (hK : ∀ a b, D.eq (K a) (K b) = (a == b)) (v : α → D) (a : α) : ∀ ks : List α, getT (K a) (tab K v ks) = if ks.contains a then some (v a) else none
  | [] => rfl
  | b :: ks => by
    have ih := tabT_get hK v a ks
    show (if D.eq (K b) (K a) then some (v b) else getT (K a) (tab K v ks)) = _
    rw [hK, ih, List.contains_cons]
    cases e : b == a with
    | true =>
      have : b = a := by simpa using e
      subst this; simp
    | false =>
      have : (a == b) = false := by
        have : b ≠ a := by simpa using e
        simpa using fun h => this h.symm
      simp [this]
theorem tabT_any (hK : ∀ a b, D.eq (K a) (K b) = (a == b)) (v : α → D) (a : α) : ∀ ks : List α, (tab K v ks).any (fun p => D.eq p.1 (K a)) = ks.contains a
  | [] => rfl
  | b :: ks => by
    have ih := tabT_any hK v a ks
    show (D.eq (K b) (K a) || (tab K v ks).any fun p => D.eq p.1 (K a)) = _
    rw [ih, hK, List.contains_cons, Bool.beq_comm]
theorem tabT_put (hK : ∀ a b, D.eq (K a) (K b) = (a == b)) (v : α → D) (a : α) (x : D) (ks : List α) : putT (K a) x (tab K v ks) = tab K (fun y => if y == a then x else v y) (insG a ks) := by
  unfold putT insG
  rw [tabT_any hK]
  cases e : ks.contains a with
  | true =>
    rw [if_pos rfl, if_pos rfl]
    unfold tab
    rw [List.map_map]
    refine List.map_congr_left fun y _ => ?_
    show (if D.eq (K y) (K a) then (K y, x) else (K y, v y)) = _
    rw [hK]
    cases e : y == a <;> simp [e]
  | false =>
    rw [if_neg (by simp), if_neg (by simp)]
    unfold tab
    rw [List.map_append]
    congr 1
    · refine List.map_congr_left fun y hy => ?_
      have : (y == a) = false := by
        refine beq_eq_false_iff_ne.mpr fun h => ?_
        subst h; simp [hy] at e
      simp [this]
    · simp
end
theorem kStr (a b : List Nat) : keyEq (.str a) (.str b) = (a == b) := rfl
theorem eqs_str : ∀ a b : List (List Nat), D.eqs (a.map .str) (b.map .str) = (a == b)
  | [], [] => rfl
  | [], _ :: _ => rfl
  | _ :: _, [] => rfl
  | a :: r, b :: t => by
    show ((a == b) && D.eqs (r.map .str) (t.map .str)) = (a :: r == b :: t)
    rw [eqs_str r t, List.cons_beq_cons]
theorem kTup (a b : List (List Nat)) : D.eq (tD a) (tD b) = (a == b) := eqs_str a b
theorem tab_congr {α : Type} {K : α → D} {v v' : α → D} {ks : List α} (h : ∀ a ∈ ks, v a = v' a) : tab K v ks = tab K v' ks := List.map_congr_left fun a ha => by rw [h a ha]
theorem tab_len {α : Type} {K : α → D} {v : α → D} {ks : List α} : (tab K v ks).length = ks.length := List.length_map ..
theorem tab_keys {α : Type} {K : α → D} {v : α → D} {ks : List α} : (tab K v ks).map (·.1) = ks.map K := by
  unfold tab
  rw [List.map_map]; rfl
/-- d.get(k, x), where x is what is told of who is not there -/
theorem tab_getD {α : Type} [BEq α] [LawfulBEq α] {K : α → D} (hK : ∀ a b, keyEq (K a) (K b) = (a == b)) {v : α → D} {a : α} {ks : List α} {z : D} (h : a ∉ ks → v a = z) : (getD (K a) (tab K v ks)).getD z = v a := by
  rw [tab_get hK]
  cases e : ks.contains a with
  | true => rfl
  | false =>
    rw [if_neg (by simp)]
    exact (h (by simpa using e)).symm
theorem tabT_getD {α : Type} [BEq α] [LawfulBEq α] {K : α → D} (hK : ∀ a b, D.eq (K a) (K b) = (a == b)) {v : α → D} {a : α} {ks : List α} {z : D} (h : a ∉ ks → v a = z) : (getT (K a) (tab K v ks)).getD z = v a := by
  rw [tabT_get hK]
  cases e : ks.contains a with
  | true => rfl
  | false =>
    rw [if_neg (by simp)]
    exact (h (by simpa using e)).symm
end Mi

namespace Mi
open PySem L2 PySem.Spec PyProof.Rows
/-! ## two clauses over a story -/
theorem compL_setf {α : Type} {turn : D → List D → Sto → Rs (List D)} {S : Sto} (inj : α → D) (q : α → Bool) (g : α → D) (l : List α) : ∀ (acc : List D),
    (∀ a ∈ l, ∀ acc, (q a = true → acc.length < 4000) → turn (inj a) acc S = .ok (if q a then acc ++ [g a] else acc) S) → acc.length + (l.filter q).length ≤ 4000 → compL turn (l.map inj) acc S = .ok (acc ++ (l.filter q).map g) S := by
  induction l with
  | nil => intro acc _ _; simp [compL]
  | cons a l ih =>
    intro acc h hl
    rw [List.map_cons]
    unfold compL
    rw [h a (List.mem_cons_self ..) acc (fun hq => by rw [List.filter_cons, if_pos hq, List.length_cons] at hl; omega)]
    show compL turn (l.map inj) _ S = _
    rw [ih (if q a then acc ++ [g a] else acc) (fun b hb => h b (List.mem_cons_of_mem _ hb)) (by
      rw [List.filter_cons] at hl
      cases e : q a
      · simpa [e] using hl
      · simp [e] at hl ⊢; omega)]
    cases e : q a <;> simp [e]
theorem sc2_rows {c : Ctx} {env : Env} {S : Sto} {e : E} {a b : Nat} {i i' : I} {fs' : List E} {l : List (List (List Nat))} (q : List Nat → Bool) (e1 : List (List Nat) → Env) (e2 : List (List Nat) → List Nat → Env)
    (hI : evI c i env S = .ok (l.map tD, none) S) (he1 : ∀ t ∈ l, (wipeE env [a]).set a (some (tD t)) = e1 t) (he2 : ∀ t ∈ l, ∀ s ∈ t.tail, (wipeE (e1 t) [b]).set b (some (.str s)) = e2 t s)
    (hI2 : ∀ t ∈ l, evI c i' (e1 t) S = .ok (t.tail.map .str, none) S) (hf : ∀ t ∈ l, ∀ s ∈ t.tail, evIfs c fs' (e2 t s) S = .ok (q s) S) (he : ∀ t ∈ l, ∀ s ∈ t.tail, ev c e (e2 t s) S = .ok (.str s) S)
    (hl : (l.flatMap fun t => t.tail.filter q).length ≤ 4000) : sc2 c e (.var a) (.var b) i i' [] fs' env S = .ok ((l.flatMap fun t => t.tail.filter q).map .str) S := by
  have hfm : ((l.flatMap fun t => t.tail.filter q).map D.str) = l.flatMap fun t => (t.tail.filter q).map D.str := by rw [List.map_flatMap]
  unfold sc2
  rw [hI]
  simp only [r_to]
  rw [hfm, compL_cat tD (fun t => (t.tail.filter q).map .str) 4000 l [] (fun t ht acc hacc => ?_) (by rw [← hfm, List.length_map]; simpa using hl)]
  · simp
  · have h1 : evT c (.var a) (tD t) (wipeE env (T.slots (.var a))) S = .ok (e1 t) S := by
      rw [e_tV]; exact congrArg (Rs.ok · S) (he1 t ht)
    rw [List.length_map] at hacc
    simp only [h1, r_to, e_if0, if_true, hI2 t ht]
    exact compL_setf .str q .str t.tail acc (fun s hs acc hq => by
      have h2 : evT c (.var b) (.str s) (wipeE (e1 t) (T.slots (.var b))) S = .ok (e2 t s) S := by
        rw [e_tV]; exact congrArg (Rs.ok · S) (he2 t ht s hs)
      simp only [h2, r_to, hf t ht s hs]
      cases e : q s with
      | false => simp
      | true =>
        simp only [if_true, he t ht s hs, r_to]
        exact if_pos (hq e)) hacc
/-! ## what the functions answer -/
def tails (l : List (List (List Nat))) : List (List Nat) := l.flatMap fun t => t.tail
def heads (l : List (List (List Nat))) : List (List Nat) := l.map fun t => t.headD []
def folk (l : List (List (List Nat))) : List (List Nat) := sortS (dd (tails l))
def verbs (l : List (List (List Nat))) : List (List Nat) := sortS (dd (heads l))
def has (l : List (List (List Nat))) (p : List Nat) (k : Nat) : Bool := (l.getD k []).tail.contains p
def withP (l : List (List (List Nat))) (p : List Nat) (i : Nat) : List Nat := (List.range i).filter (has l p)
def oneOf (o : Option Nat) : D := match o with
  | some k => .int (k : Int)
  | none => .non
def placeN (p : List Nat) : List (List Nat) → Option Nat
  | [] => none
  | s :: r => if s == p then some 0 else (placeN p r).map (· + 1)
def verbD (l : List (List (List Nat))) (w : List Nat) : D := .tup [.str w, .int ((heads l).count w : Nat)]
def kindD (l : List (List (List Nat))) (k : Nat) : D := .tup [tD (l.getD k []), .int ((l.take k).count (l.getD k []) : Nat)]
structure OkRow (l : List (List (List Nat))) : Prop where
  le : l.length < 64
  de : ∀ t ∈ l, Deed t
theorem tails_len {l : List (List (List Nat))} (h : ∀ t ∈ l, Deed t) : (tails l).length ≤ 3 * l.length := by
  unfold tails
  induction l with
  | nil => exact Nat.zero_le _
  | cons t l ih =>
    rw [List.flatMap_cons, List.length_append, List.length_cons]
    have := ih fun t ht => h t (List.mem_cons_of_mem _ ht)
    have h2 := (h t (List.mem_cons_self ..)).le
    rw [List.length_tail]; omega
theorem tails_po {l : List (List (List Nat))} (h : ∀ t ∈ l, Deed t) : ∀ s ∈ tails l, s ∈ pool := fun s hs => by
  obtain ⟨t, ht, h1⟩ := List.mem_flatMap.mp hs
  exact (h t ht).po s (List.mem_of_mem_tail h1)
theorem heads_po {l : List (List (List Nat))} (h : ∀ t ∈ l, Deed t) : ∀ s ∈ heads l, s ∈ pool := fun s hs => by
  obtain ⟨t, ht, rfl⟩ := List.mem_map.mp hs
  have d := h t ht
  obtain ⟨a, r, rfl⟩ := List.exists_cons_of_ne_nil d.ne
  exact d.po a (List.mem_cons_self ..)
theorem it_row {l : List (List (List Nat))} {S : Sto} : itemsOf S (rowD l) = some (l.map tD, none) := (rfl)
theorem it_tup {l : List D} {S : Sto} : itemsOf S (.tup l) = some (l, none) := (rfl)
theorem it_lst {l : List D} {S : Sto} : itemsOf S (.lst l) = some (l, none) := (rfl)
theorem v_row {l : List (List (List Nat))} {S : Sto} : D.val S (rowD l) = rowD l := (rfl)
theorem v_tD {t : List (List Nat)} {S : Sto} : D.val S (tD t) = tD t := (rfl)
theorem sl_tD {t : List (List Nat)} : slice (tD t) (some 1) none = some (.tup (t.tail.map .str)) := by
  rw [tD, sl_1, tail_map]
theorem ix_row {l : List (List (List Nat))} {k : Nat} (h : k < l.length) : index (rowD l) (.int (k : Int)) = some (tD (l.getD k [])) := by
  rw [getD_eq h]
  exact i_tupN (by rw [List.getElem?_map, List.getElem?_eq_getElem h]; rfl)
theorem ix_head {t : List (List Nat)} (h : t ≠ []) : index (tD t) (.int 0) = some (.str (t.headD [])) := by
  obtain ⟨a, r, rfl⟩ := List.exists_cons_of_ne_nil h
  exact i_tupN (k := 0) rfl
theorem dat_str {k : Nat} {s : List Nat} : D.dat k (.str s) = true := by cases k <;> rfl
theorem dat_tD {k : Nat} {t : List (List Nat)} : D.dat (k + 1) (tD t) = true := dats_str k t
theorem dats_tD {k : Nat} : ∀ l : List (List (List Nat)), D.dats (k + 1) (l.map tD) = true
  | [] => rfl
  | t :: l => by
    show (D.dat (k + 1) (tD t) && D.dats (k + 1) (l.map tD)) = true
    rw [dat_tD, dats_tD l]; rfl
theorem placeD_str (p : List Nat) : ∀ l : List (List Nat), placeD (.str p) (l.map .str) = placeN p l
  | [] => rfl
  | s :: l => by
    show (if (s == p) = true then some 0 else (placeD (.str p) (l.map .str)).map (· + 1)) = _
    rw [placeD_str p l]; rfl
theorem placeN_some {p : List Nat} : ∀ {l : List (List Nat)}, l.contains p = true → ∃ k, placeN p l = some k
  | s :: l, h => by
    unfold placeN
    cases e : s == p with
    | true => exact ⟨0, rfl⟩
    | false =>
      have : l.contains p = true := by
        rw [List.contains_cons, Bool.beq_comm, e] at h
        simpa using h
      obtain ⟨k, hk⟩ := placeN_some this
      exact ⟨k + 1, by rw [hk]; rfl⟩
theorem placeN_none {p : List Nat} : ∀ {l : List (List Nat)}, l.contains p = false → placeN p l = none
  | [], _ => rfl
  | s :: l, h => by
    rw [List.contains_cons, Bool.beq_comm] at h
    unfold placeN
    cases e : s == p with
    | true => rw [e] at h; simp at h
    | false =>
      rw [e, Bool.false_or] at h
      rw [placeN_none h]; rfl
section
variable {n b : Nat} {S : Sto} {l : List (List (List Nat))} {p : List Nat} {t : List (List Nat)}
theorem f0 (h : OkRow l) : callN src.pg (n+1) 0 [rowD l] b S = .ok (.tup ((folk l).map .str)) S := by
  rw [callN_run (fd := ⟨1, 3, false, b0⟩) rfl rfl]
  refine (runF_rt (S1 := S) (d := .tup ((folk l).map .str)) ?_).trans (by rw [fin_ok (show D.lt _ (.tup _) = true from lts_str _), List.take_length])
  have eT : (l.flatMap fun t => t.tail.filter fun _ => true) = tails l := by
    unfold tails
    congr 1
    funext t
    exact List.filter_eq_self.mpr fun _ _ => rfl
  have key := sc2_rows (c := ⟨callN src.pg n, src.pg.mth, src.pg.gl, if false = true then b else S.length, src.pg.fuel⟩) (env := [some (rowD l), none, none]) (S := S) (e := e0_0) (a := 1) (b := 2) (i := .e (.var 0)) (i' := .e (.sl (.var 1) (some (.lit (.int 1))) none)) (fs' := []) (l := l) (fun _ => true)
    (fun t => [some (rowD l), some (tD t), none]) (fun t s => [some (rowD l), some (tD t), some (.str s)])
    (by simp only [s_nil, s_cons, s_asg, s_asgc, s_par, s_expr, s_iff, s_fr, s_ret0, s_ret, s_brk, s_cnt, s_pass, n_nx, n_rt, n_bk, n_ct, n_ex, e_lit, e_var, e_gl, e_bin, e_neg, e_not, e_cmp, e_chain, e_and, e_or, e_ite, e_tup, e_lst, e_ix, e_sl, e_call, e_callk, e_rng, e_pri, e_met, e_mk, e_mth, e_att, e_nil, e_cons, e_oN, e_oS, e_and1, e_and2, e_or1, e_or2, e_iE, e_iR, e_tV, e_tT, e_tS, e_tA, e_ts0, e_ts, e_if0, e_if1, r_to, r_toX, r_ofE, r_ofX, r_ofT, r_rets, r_retb, r_get0, r_getS, r_toB, v_non, v_bl, v_int, v_str, v_tup, v_lst, v_dic, h_lst, h_dic, h_ins, h_lck, q_non, q_bl, q_int, q_tup, q_lst, c_eqI, c_neI, c_eqS, c_neS, c_lt, c_le, c_gt, c_ge, b_add, b_sub, p_lenT, p_lenL, p_int, p_intB, p_abs, p_min, p_tupL, p_tupT, p_isStr, p_isTup, p_isInt, p_isBool, List.set_cons_zero, List.set_cons_succ, List.map_cons, List.map_nil, List.cons_append, List.nil_append, List.length_cons, List.length_nil, List.length_map, List.replicate, Option.map_some, Option.map_none, beq_self_eq_true, Bool.not_true, Bool.not_false, it_row]) (fun t _ => rfl) (fun t _ s _ => rfl) (fun t _ => by simp only [s_nil, s_cons, s_asg, s_asgc, s_par, s_expr, s_iff, s_fr, s_ret0, s_ret, s_brk, s_cnt, s_pass, n_nx, n_rt, n_bk, n_ct, n_ex, e_lit, e_var, e_gl, e_bin, e_neg, e_not, e_cmp, e_chain, e_and, e_or, e_ite, e_tup, e_lst, e_ix, e_sl, e_call, e_callk, e_rng, e_pri, e_met, e_mk, e_mth, e_att, e_nil, e_cons, e_oN, e_oS, e_and1, e_and2, e_or1, e_or2, e_iE, e_iR, e_tV, e_tT, e_tS, e_tA, e_ts0, e_ts, e_if0, e_if1, r_to, r_toX, r_ofE, r_ofX, r_ofT, r_rets, r_retb, r_get0, r_getS, r_toB, v_non, v_bl, v_int, v_str, v_tup, v_lst, v_dic, h_lst, h_dic, h_ins, h_lck, q_non, q_bl, q_int, q_tup, q_lst, c_eqI, c_neI, c_eqS, c_neS, c_lt, c_le, c_gt, c_ge, b_add, b_sub, p_lenT, p_lenL, p_int, p_intB, p_abs, p_min, p_tupL, p_tupT, p_isStr, p_isTup, p_isInt, p_isBool, List.set_cons_zero, List.set_cons_succ, List.map_cons, List.map_nil, List.cons_append, List.nil_append, List.length_cons, List.length_nil, List.length_map, List.replicate, Option.map_some, Option.map_none, beq_self_eq_true, Bool.not_true, Bool.not_false, v_tD, sl_tD, it_tup]) (fun t _ s _ => by simp only [s_nil, s_cons, s_asg, s_asgc, s_par, s_expr, s_iff, s_fr, s_ret0, s_ret, s_brk, s_cnt, s_pass, n_nx, n_rt, n_bk, n_ct, n_ex, e_lit, e_var, e_gl, e_bin, e_neg, e_not, e_cmp, e_chain, e_and, e_or, e_ite, e_tup, e_lst, e_ix, e_sl, e_call, e_callk, e_rng, e_pri, e_met, e_mk, e_mth, e_att, e_nil, e_cons, e_oN, e_oS, e_and1, e_and2, e_or1, e_or2, e_iE, e_iR, e_tV, e_tT, e_tS, e_tA, e_ts0, e_ts, e_if0, e_if1, r_to, r_toX, r_ofE, r_ofX, r_ofT, r_rets, r_retb, r_get0, r_getS, r_toB, v_non, v_bl, v_int, v_str, v_tup, v_lst, v_dic, h_lst, h_dic, h_ins, h_lck, q_non, q_bl, q_int, q_tup, q_lst, c_eqI, c_neI, c_eqS, c_neS, c_lt, c_le, c_gt, c_ge, b_add, b_sub, p_lenT, p_lenL, p_int, p_intB, p_abs, p_min, p_tupL, p_tupT, p_isStr, p_isTup, p_isInt, p_isBool, List.set_cons_zero, List.set_cons_succ, List.map_cons, List.map_nil, List.cons_append, List.nil_append, List.length_cons, List.length_nil, List.length_map, List.replicate, Option.map_some, Option.map_none, beq_self_eq_true, Bool.not_true, Bool.not_false]) (fun t _ s _ => by simp only [e0_0, s_nil, s_cons, s_asg, s_asgc, s_par, s_expr, s_iff, s_fr, s_ret0, s_ret, s_brk, s_cnt, s_pass, n_nx, n_rt, n_bk, n_ct, n_ex, e_lit, e_var, e_gl, e_bin, e_neg, e_not, e_cmp, e_chain, e_and, e_or, e_ite, e_tup, e_lst, e_ix, e_sl, e_call, e_callk, e_rng, e_pri, e_met, e_mk, e_mth, e_att, e_nil, e_cons, e_oN, e_oS, e_and1, e_and2, e_or1, e_or2, e_iE, e_iR, e_tV, e_tT, e_tS, e_tA, e_ts0, e_ts, e_if0, e_if1, r_to, r_toX, r_ofE, r_ofX, r_ofT, r_rets, r_retb, r_get0, r_getS, r_toB, v_non, v_bl, v_int, v_str, v_tup, v_lst, v_dic, h_lst, h_dic, h_ins, h_lck, q_non, q_bl, q_int, q_tup, q_lst, c_eqI, c_neI, c_eqS, c_neS, c_lt, c_le, c_gt, c_ge, b_add, b_sub, p_lenT, p_lenL, p_int, p_intB, p_abs, p_min, p_tupL, p_tupT, p_isStr, p_isTup, p_isInt, p_isBool, List.set_cons_zero, List.set_cons_succ, List.map_cons, List.map_nil, List.cons_append, List.nil_append, List.length_cons, List.length_nil, List.length_map, List.replicate, Option.map_some, Option.map_none, beq_self_eq_true, Bool.not_true, Bool.not_false])
    (by rw [eT]; exact Nat.le_trans (tails_len h.de) (by have := h.le; omega))
  rw [eT] at key
  have hw : wipeE [some (rowD l), none, none] [1, 2] = [some (rowD l), none, none] := rfl
  have hl : (dd (tails l)).length < 64 := Nat.lt_of_le_of_lt (dd_le (tails_po h.de)) (by decide)
  have hnl : newL false ((folk l).map .str) S = .ok (.lst ((folk l).map .str)) S := by
    rw [nl1 (by rw [List.length_map, folk, sortS_len]; exact lim' (by omega))]; rfl
  have hns : newS false (.ok ((tails l).map .str) S) = .ok (.lst ((folk l).map .str)) S := by
    unfold newS
    simp only [noEx, r_to, ddS_str]
    rw [if_pos hl]; exact hnl
  simp only [b0, s_nil, s_cons, s_asg, s_asgc, s_par, s_expr, s_iff, s_fr, s_ret0, s_ret, s_brk, s_cnt, s_pass, n_nx, n_rt, n_bk, n_ct, n_ex, e_lit, e_var, e_gl, e_bin, e_neg, e_not, e_cmp, e_chain, e_and, e_or, e_ite, e_tup, e_lst, e_ix, e_sl, e_call, e_callk, e_rng, e_pri, e_met, e_mk, e_mth, e_att, e_nil, e_cons, e_oN, e_oS, e_and1, e_and2, e_or1, e_or2, e_iE, e_iR, e_tV, e_tT, e_tS, e_tA, e_ts0, e_ts, e_if0, e_if1, r_to, r_toX, r_ofE, r_ofX, r_ofT, r_rets, r_retb, r_get0, r_getS, r_toB, v_non, v_bl, v_int, v_str, v_tup, v_lst, v_dic, h_lst, h_dic, h_ins, h_lck, q_non, q_bl, q_int, q_tup, q_lst, c_eqI, c_neI, c_eqS, c_neS, c_lt, c_le, c_gt, c_ge, b_add, b_sub, p_lenT, p_lenL, p_int, p_intB, p_abs, p_min, p_tupL, p_tupT, p_isStr, p_isTup, p_isInt, p_isBool, List.set_cons_zero, List.set_cons_succ, List.map_cons, List.map_nil, List.cons_append, List.nil_append, List.length_cons, List.length_nil, List.length_map, List.replicate, Option.map_some, Option.map_none, beq_self_eq_true, Bool.not_true, Bool.not_false, e_sset, hw, key, hns]
theorem cnt_str (w : List Nat) (l : List (List Nat)) : (l.map D.str).countP (fun d => D.eq d (.str w)) = l.count w := by
  rw [List.countP_map]; rfl
theorem cnt_tD (t : List (List Nat)) (l : List (List (List Nat))) : (l.map tD).countP (fun d => D.eq d (tD t)) = l.count t := by
  rw [List.countP_map]
  unfold List.count
  congr 1
  funext x
  exact kTup x t
theorem f1 (h : OkRow l) : callN src.pg (n+1) 1 [rowD l] b S = .ok (.tup ((verbs l).map (verbD l))) S := by
  rw [callN_run (fd := ⟨1, 4, false, b1⟩) rfl rfl]
  refine (runF_rt (S1 := S) (d := .tup ((verbs l).map (verbD l))) ?_).trans (by
    rw [fin_ok (show D.lt _ (.tup _) = true from ltsOf fun d hd => by
      obtain ⟨p, _, rfl⟩ := List.mem_map.mp hd; rfl), List.take_length])
  have hle := h.le
  have key1 := lc_all (c := ⟨callN src.pg n, src.pg.mth, src.pg.gl, if false = true then b else S.length, src.pg.fuel⟩) (env := [some (rowD l), none, none, none]) (S := S) (own := [2]) (tg := .var 2) (it := .e (.var 0)) (e := e1_0)
    l tD (fun t => .str (t.headD [])) (fun t => [some (rowD l), none, some (tD t), none])
    (by simp only [wipeE, s_nil, s_cons, s_asg, s_asgc, s_par, s_expr, s_iff, s_fr, s_ret0, s_ret, s_brk, s_cnt, s_pass, n_nx, n_rt, n_bk, n_ct, n_ex, e_lit, e_var, e_gl, e_bin, e_neg, e_not, e_cmp, e_chain, e_and, e_or, e_ite, e_tup, e_lst, e_ix, e_sl, e_call, e_callk, e_rng, e_pri, e_met, e_mk, e_mth, e_att, e_nil, e_cons, e_oN, e_oS, e_and1, e_and2, e_or1, e_or2, e_iE, e_iR, e_tV, e_tT, e_tS, e_tA, e_ts0, e_ts, e_if0, e_if1, r_to, r_toX, r_ofE, r_ofX, r_ofT, r_rets, r_retb, r_get0, r_getS, r_toB, v_non, v_bl, v_int, v_str, v_tup, v_lst, v_dic, h_lst, h_dic, h_ins, h_lck, q_non, q_bl, q_int, q_tup, q_lst, c_eqI, c_neI, c_eqS, c_neS, c_lt, c_le, c_gt, c_ge, b_add, b_sub, p_lenT, p_lenL, p_int, p_intB, p_abs, p_min, p_tupL, p_tupT, p_isStr, p_isTup, p_isInt, p_isBool, List.set_cons_zero, List.set_cons_succ, List.map_cons, List.map_nil, List.cons_append, List.nil_append, List.length_cons, List.length_nil, List.length_map, List.replicate, Option.map_some, Option.map_none, beq_self_eq_true, Bool.not_true, Bool.not_false, it_row]) (fun t _ => by simp only [T.slots, wipeE, s_nil, s_cons, s_asg, s_asgc, s_par, s_expr, s_iff, s_fr, s_ret0, s_ret, s_brk, s_cnt, s_pass, n_nx, n_rt, n_bk, n_ct, n_ex, e_lit, e_var, e_gl, e_bin, e_neg, e_not, e_cmp, e_chain, e_and, e_or, e_ite, e_tup, e_lst, e_ix, e_sl, e_call, e_callk, e_rng, e_pri, e_met, e_mk, e_mth, e_att, e_nil, e_cons, e_oN, e_oS, e_and1, e_and2, e_or1, e_or2, e_iE, e_iR, e_tV, e_tT, e_tS, e_tA, e_ts0, e_ts, e_if0, e_if1, r_to, r_toX, r_ofE, r_ofX, r_ofT, r_rets, r_retb, r_get0, r_getS, r_toB, v_non, v_bl, v_int, v_str, v_tup, v_lst, v_dic, h_lst, h_dic, h_ins, h_lck, q_non, q_bl, q_int, q_tup, q_lst, c_eqI, c_neI, c_eqS, c_neS, c_lt, c_le, c_gt, c_ge, b_add, b_sub, p_lenT, p_lenL, p_int, p_intB, p_abs, p_min, p_tupL, p_tupT, p_isStr, p_isTup, p_isInt, p_isBool, List.set_cons_zero, List.set_cons_succ, List.map_cons, List.map_nil, List.cons_append, List.nil_append, List.length_cons, List.length_nil, List.length_map, List.replicate, Option.map_some, Option.map_none, beq_self_eq_true, Bool.not_true, Bool.not_false]) (fun t ht => by simp only [e1_0, s_nil, s_cons, s_asg, s_asgc, s_par, s_expr, s_iff, s_fr, s_ret0, s_ret, s_brk, s_cnt, s_pass, n_nx, n_rt, n_bk, n_ct, n_ex, e_lit, e_var, e_gl, e_bin, e_neg, e_not, e_cmp, e_chain, e_and, e_or, e_ite, e_tup, e_lst, e_ix, e_sl, e_call, e_callk, e_rng, e_pri, e_met, e_mk, e_mth, e_att, e_nil, e_cons, e_oN, e_oS, e_and1, e_and2, e_or1, e_or2, e_iE, e_iR, e_tV, e_tT, e_tS, e_tA, e_ts0, e_ts, e_if0, e_if1, r_to, r_toX, r_ofE, r_ofX, r_ofT, r_rets, r_retb, r_get0, r_getS, r_toB, v_non, v_bl, v_int, v_str, v_tup, v_lst, v_dic, h_lst, h_dic, h_ins, h_lck, q_non, q_bl, q_int, q_tup, q_lst, c_eqI, c_neI, c_eqS, c_neS, c_lt, c_le, c_gt, c_ge, b_add, b_sub, p_lenT, p_lenL, p_int, p_intB, p_abs, p_min, p_tupL, p_tupT, p_isStr, p_isTup, p_isInt, p_isBool, List.set_cons_zero, List.set_cons_succ, List.map_cons, List.map_nil, List.cons_append, List.nil_append, List.length_cons, List.length_nil, List.length_map, List.replicate, Option.map_some, Option.map_none, beq_self_eq_true, Bool.not_true, Bool.not_false, v_tD, ix_head (h.de t ht).ne]) (lim' (by omega))
  have eH : l.map (fun t => D.str (t.headD [])) = (heads l).map .str := by rw [heads, List.map_map]; rfl
  rw [eH] at key1
  have hv : (dd (heads l)).length ≤ 10 := dd_le (heads_po h.de)
  have hvl : (verbs l).length ≤ 10 := by rw [verbs, sortS_len]; exact hv
  have hs : ∀ b, prim b (.sortset false) [.lst ((heads l).map .str)] S = .ok (.lst ((verbs l).map .str)) S := fun b => by
    simp only [prim, pSortset, v_lst, strsD_map, ddS_str]
    rw [if_pos ⟨by rw [heads, List.length_map]; omega, by omega⟩, nl1 (by rw [List.length_map, sortS_len]; exact lim' (by omega))]; rfl
  have hc : ∀ b w, prim b .count [.lst ((heads l).map .str), .str w] S = .ok (.int ((heads l).count w : Nat)) S := fun b w => by
    simp only [prim, pCount, v_lst, asLst, dat_str, dats_str, cnt_str, Bool.and_self, if_true]
  have rec1 : ∀ l, recvOk .count (.lst l) = true := fun _ => rfl
  have key2 := lc_all (c := ⟨callN src.pg n, src.pg.mth, src.pg.gl, if false = true then b else S.length, src.pg.fuel⟩) (env := [some (rowD l), some (.lst ((heads l).map .str)), none, none]) (S := S) (own := [3]) (tg := .var 3) (it := .e (.pri (.sortset false) [.var 1])) (e := e1_1)
    (verbs l) .str (verbD l) (fun w => [some (rowD l), some (.lst ((heads l).map .str)), none, some (.str w)])
    (by simp only [wipeE, s_nil, s_cons, s_asg, s_asgc, s_par, s_expr, s_iff, s_fr, s_ret0, s_ret, s_brk, s_cnt, s_pass, n_nx, n_rt, n_bk, n_ct, n_ex, e_lit, e_var, e_gl, e_bin, e_neg, e_not, e_cmp, e_chain, e_and, e_or, e_ite, e_tup, e_lst, e_ix, e_sl, e_call, e_callk, e_rng, e_pri, e_met, e_mk, e_mth, e_att, e_nil, e_cons, e_oN, e_oS, e_and1, e_and2, e_or1, e_or2, e_iE, e_iR, e_tV, e_tT, e_tS, e_tA, e_ts0, e_ts, e_if0, e_if1, r_to, r_toX, r_ofE, r_ofX, r_ofT, r_rets, r_retb, r_get0, r_getS, r_toB, v_non, v_bl, v_int, v_str, v_tup, v_lst, v_dic, h_lst, h_dic, h_ins, h_lck, q_non, q_bl, q_int, q_tup, q_lst, c_eqI, c_neI, c_eqS, c_neS, c_lt, c_le, c_gt, c_ge, b_add, b_sub, p_lenT, p_lenL, p_int, p_intB, p_abs, p_min, p_tupL, p_tupT, p_isStr, p_isTup, p_isInt, p_isBool, List.set_cons_zero, List.set_cons_succ, List.map_cons, List.map_nil, List.cons_append, List.nil_append, List.length_cons, List.length_nil, List.length_map, List.replicate, Option.map_some, Option.map_none, beq_self_eq_true, Bool.not_true, Bool.not_false, hs, it_lst]) (fun t _ => by simp only [T.slots, wipeE, s_nil, s_cons, s_asg, s_asgc, s_par, s_expr, s_iff, s_fr, s_ret0, s_ret, s_brk, s_cnt, s_pass, n_nx, n_rt, n_bk, n_ct, n_ex, e_lit, e_var, e_gl, e_bin, e_neg, e_not, e_cmp, e_chain, e_and, e_or, e_ite, e_tup, e_lst, e_ix, e_sl, e_call, e_callk, e_rng, e_pri, e_met, e_mk, e_mth, e_att, e_nil, e_cons, e_oN, e_oS, e_and1, e_and2, e_or1, e_or2, e_iE, e_iR, e_tV, e_tT, e_tS, e_tA, e_ts0, e_ts, e_if0, e_if1, r_to, r_toX, r_ofE, r_ofX, r_ofT, r_rets, r_retb, r_get0, r_getS, r_toB, v_non, v_bl, v_int, v_str, v_tup, v_lst, v_dic, h_lst, h_dic, h_ins, h_lck, q_non, q_bl, q_int, q_tup, q_lst, c_eqI, c_neI, c_eqS, c_neS, c_lt, c_le, c_gt, c_ge, b_add, b_sub, p_lenT, p_lenL, p_int, p_intB, p_abs, p_min, p_tupL, p_tupT, p_isStr, p_isTup, p_isInt, p_isBool, List.set_cons_zero, List.set_cons_succ, List.map_cons, List.map_nil, List.cons_append, List.nil_append, List.length_cons, List.length_nil, List.length_map, List.replicate, Option.map_some, Option.map_none, beq_self_eq_true, Bool.not_true, Bool.not_false]) (fun w _ => by simp only [e1_1, s_nil, s_cons, s_asg, s_asgc, s_par, s_expr, s_iff, s_fr, s_ret0, s_ret, s_brk, s_cnt, s_pass, n_nx, n_rt, n_bk, n_ct, n_ex, e_lit, e_var, e_gl, e_bin, e_neg, e_not, e_cmp, e_chain, e_and, e_or, e_ite, e_tup, e_lst, e_ix, e_sl, e_call, e_callk, e_rng, e_pri, e_met, e_mk, e_mth, e_att, e_nil, e_cons, e_oN, e_oS, e_and1, e_and2, e_or1, e_or2, e_iE, e_iR, e_tV, e_tT, e_tS, e_tA, e_ts0, e_ts, e_if0, e_if1, r_to, r_toX, r_ofE, r_ofX, r_ofT, r_rets, r_retb, r_get0, r_getS, r_toB, v_non, v_bl, v_int, v_str, v_tup, v_lst, v_dic, h_lst, h_dic, h_ins, h_lck, q_non, q_bl, q_int, q_tup, q_lst, c_eqI, c_neI, c_eqS, c_neS, c_lt, c_le, c_gt, c_ge, b_add, b_sub, p_lenT, p_lenL, p_int, p_intB, p_abs, p_min, p_tupL, p_tupT, p_isStr, p_isTup, p_isInt, p_isBool, List.set_cons_zero, List.set_cons_succ, List.map_cons, List.map_nil, List.cons_append, List.nil_append, List.length_cons, List.length_nil, List.length_map, List.replicate, Option.map_some, Option.map_none, beq_self_eq_true, Bool.not_true, Bool.not_false, rec1, if_true, hc, lm2]; rfl) (lim' (by omega))
  simp only [b1, s_nil, s_cons, s_asg, s_asgc, s_par, s_expr, s_iff, s_fr, s_ret0, s_ret, s_brk, s_cnt, s_pass, n_nx, n_rt, n_bk, n_ct, n_ex, e_lit, e_var, e_gl, e_bin, e_neg, e_not, e_cmp, e_chain, e_and, e_or, e_ite, e_tup, e_lst, e_ix, e_sl, e_call, e_callk, e_rng, e_pri, e_met, e_mk, e_mth, e_att, e_nil, e_cons, e_oN, e_oS, e_and1, e_and2, e_or1, e_or2, e_iE, e_iR, e_tV, e_tT, e_tS, e_tA, e_ts0, e_ts, e_if0, e_if1, r_to, r_toX, r_ofE, r_ofX, r_ofT, r_rets, r_retb, r_get0, r_getS, r_toB, v_non, v_bl, v_int, v_str, v_tup, v_lst, v_dic, h_lst, h_dic, h_ins, h_lck, q_non, q_bl, q_int, q_tup, q_lst, c_eqI, c_neI, c_eqS, c_neS, c_lt, c_le, c_gt, c_ge, b_add, b_sub, p_lenT, p_lenL, p_int, p_intB, p_abs, p_min, p_tupL, p_tupT, p_isStr, p_isTup, p_isInt, p_isBool, List.set_cons_zero, List.set_cons_succ, List.map_cons, List.map_nil, List.cons_append, List.nil_append, List.length_cons, List.length_nil, List.length_map, List.replicate, Option.map_some, Option.map_none, beq_self_eq_true, Bool.not_true, Bool.not_false, key1, key2]
theorem enumD_row : enumD 0 (l.map tD) = (List.range l.length).map fun (k : Nat) => D.tup [.int (k : Int), tD (l.getD k [])] := by
  rw [enumD_map]
  refine List.ext_getElem (by simp) fun k h1 h2 => ?_
  have hk : k < l.length := by simpa using h2
  simp [getD_eq hk, hk]
theorem f2 (h : OkRow l) : callN src.pg (n+1) 2 [rowD l, .str p] b S = .ok (.tup ((withP l p l.length).map fun (k : Nat) => D.int (k : Int))) S := by
  rw [callN_run (fd := ⟨2, 4, false, b2⟩) rfl rfl]
  refine (runF_rt (S1 := S) (d := .tup ((withP l p l.length).map fun (k : Nat) => D.int (k : Int))) ?_).trans (by
    rw [fin_ok (show D.lt _ (.tup _) = true from ltsOf fun d hd => by
      obtain ⟨p, _, rfl⟩ := List.mem_map.mp hd; rfl), List.take_length])
  have key := lc_filt (c := ⟨callN src.pg n, src.pg.mth, src.pg.gl, if false = true then b else S.length, src.pg.fuel⟩) (env := [some (rowD l), some (.str p), none, none]) (S := S) (own := [2, 3]) (tg := .tup [.var 2, .var 3]) (it := .enum (.var 0)) (e := e2_1) (cond := c2_0)
    (List.range l.length) (fun (k : Nat) => D.tup [.int (k : Int), tD (l.getD k [])]) (has l p) (fun (k : Nat) => D.int (k : Int)) (fun k => [some (rowD l), some (.str p), some (.int (k : Int)), some (tD (l.getD k []))])
    (by
      have hw : wipeE [some (rowD l), some (.str p), none, none] [2, 3] = [some (rowD l), some (.str p), none, none] := rfl
      simp only [hw, e_iN, s_nil, s_cons, s_asg, s_asgc, s_par, s_expr, s_iff, s_fr, s_ret0, s_ret, s_brk, s_cnt, s_pass, n_nx, n_rt, n_bk, n_ct, n_ex, e_lit, e_var, e_gl, e_bin, e_neg, e_not, e_cmp, e_chain, e_and, e_or, e_ite, e_tup, e_lst, e_ix, e_sl, e_call, e_callk, e_rng, e_pri, e_met, e_mk, e_mth, e_att, e_nil, e_cons, e_oN, e_oS, e_and1, e_and2, e_or1, e_or2, e_iE, e_iR, e_tV, e_tT, e_tS, e_tA, e_ts0, e_ts, e_if0, e_if1, r_to, r_toX, r_ofE, r_ofX, r_ofT, r_rets, r_retb, r_get0, r_getS, r_toB, v_non, v_bl, v_int, v_str, v_tup, v_lst, v_dic, h_lst, h_dic, h_ins, h_lck, q_non, q_bl, q_int, q_tup, q_lst, c_eqI, c_neI, c_eqS, c_neS, c_lt, c_le, c_gt, c_ge, b_add, b_sub, p_lenT, p_lenL, p_int, p_intB, p_abs, p_min, p_tupL, p_tupT, p_isStr, p_isTup, p_isInt, p_isBool, List.set_cons_zero, List.set_cons_succ, List.map_cons, List.map_nil, List.cons_append, List.nil_append, List.length_cons, List.length_nil, List.length_map, List.replicate, Option.map_some, Option.map_none, beq_self_eq_true, Bool.not_true, Bool.not_false, it_row, enumD_row]) (fun t _ => by
      have hw : wipeE (wipeE [some (rowD l), some (.str p), none, none] [2, 3]) (T.slots (.tup [.var 2, .var 3])) = [some (rowD l), some (.str p), none, none] := rfl
      simp only [hw, s_nil, s_cons, s_asg, s_asgc, s_par, s_expr, s_iff, s_fr, s_ret0, s_ret, s_brk, s_cnt, s_pass, n_nx, n_rt, n_bk, n_ct, n_ex, e_lit, e_var, e_gl, e_bin, e_neg, e_not, e_cmp, e_chain, e_and, e_or, e_ite, e_tup, e_lst, e_ix, e_sl, e_call, e_callk, e_rng, e_pri, e_met, e_mk, e_mth, e_att, e_nil, e_cons, e_oN, e_oS, e_and1, e_and2, e_or1, e_or2, e_iE, e_iR, e_tV, e_tT, e_tS, e_tA, e_ts0, e_ts, e_if0, e_if1, r_to, r_toX, r_ofE, r_ofX, r_ofT, r_rets, r_retb, r_get0, r_getS, r_toB, v_non, v_bl, v_int, v_str, v_tup, v_lst, v_dic, h_lst, h_dic, h_ins, h_lck, q_non, q_bl, q_int, q_tup, q_lst, c_eqI, c_neI, c_eqS, c_neS, c_lt, c_le, c_gt, c_ge, b_add, b_sub, p_lenT, p_lenL, p_int, p_intB, p_abs, p_min, p_tupL, p_tupT, p_isStr, p_isTup, p_isInt, p_isBool, List.set_cons_zero, List.set_cons_succ, List.map_cons, List.map_nil, List.cons_append, List.nil_append, List.length_cons, List.length_nil, List.length_map, List.replicate, Option.map_some, Option.map_none, beq_self_eq_true, Bool.not_true, Bool.not_false]) (fun t _ => by simp only [c2_0, s_nil, s_cons, s_asg, s_asgc, s_par, s_expr, s_iff, s_fr, s_ret0, s_ret, s_brk, s_cnt, s_pass, n_nx, n_rt, n_bk, n_ct, n_ex, e_lit, e_var, e_gl, e_bin, e_neg, e_not, e_cmp, e_chain, e_and, e_or, e_ite, e_tup, e_lst, e_ix, e_sl, e_call, e_callk, e_rng, e_pri, e_met, e_mk, e_mth, e_att, e_nil, e_cons, e_oN, e_oS, e_and1, e_and2, e_or1, e_or2, e_iE, e_iR, e_tV, e_tT, e_tS, e_tA, e_ts0, e_ts, e_if0, e_if1, r_to, r_toX, r_ofE, r_ofX, r_ofT, r_rets, r_retb, r_get0, r_getS, r_toB, v_non, v_bl, v_int, v_str, v_tup, v_lst, v_dic, h_lst, h_dic, h_ins, h_lck, q_non, q_bl, q_int, q_tup, q_lst, c_eqI, c_neI, c_eqS, c_neS, c_lt, c_le, c_gt, c_ge, b_add, b_sub, p_lenT, p_lenL, p_int, p_intB, p_abs, p_min, p_tupL, p_tupT, p_isStr, p_isTup, p_isInt, p_isBool, List.set_cons_zero, List.set_cons_succ, List.map_cons, List.map_nil, List.cons_append, List.nil_append, List.length_cons, List.length_nil, List.length_map, List.replicate, Option.map_some, Option.map_none, beq_self_eq_true, Bool.not_true, Bool.not_false, v_tD, sl_tD, c_memT]; rfl) (fun t _ => by simp only [e2_1, s_nil, s_cons, s_asg, s_asgc, s_par, s_expr, s_iff, s_fr, s_ret0, s_ret, s_brk, s_cnt, s_pass, n_nx, n_rt, n_bk, n_ct, n_ex, e_lit, e_var, e_gl, e_bin, e_neg, e_not, e_cmp, e_chain, e_and, e_or, e_ite, e_tup, e_lst, e_ix, e_sl, e_call, e_callk, e_rng, e_pri, e_met, e_mk, e_mth, e_att, e_nil, e_cons, e_oN, e_oS, e_and1, e_and2, e_or1, e_or2, e_iE, e_iR, e_tV, e_tT, e_tS, e_tA, e_ts0, e_ts, e_if0, e_if1, r_to, r_toX, r_ofE, r_ofX, r_ofT, r_rets, r_retb, r_get0, r_getS, r_toB, v_non, v_bl, v_int, v_str, v_tup, v_lst, v_dic, h_lst, h_dic, h_ins, h_lck, q_non, q_bl, q_int, q_tup, q_lst, c_eqI, c_neI, c_eqS, c_neS, c_lt, c_le, c_gt, c_ge, b_add, b_sub, p_lenT, p_lenL, p_int, p_intB, p_abs, p_min, p_tupL, p_tupT, p_isStr, p_isTup, p_isInt, p_isBool, List.set_cons_zero, List.set_cons_succ, List.map_cons, List.map_nil, List.cons_append, List.nil_append, List.length_cons, List.length_nil, List.length_map, List.replicate, Option.map_some, Option.map_none, beq_self_eq_true, Bool.not_true, Bool.not_false]) (lim' (by have := h.le; simp; omega))
  simp only [b2, s_nil, s_cons, s_asg, s_asgc, s_par, s_expr, s_iff, s_fr, s_ret0, s_ret, s_brk, s_cnt, s_pass, n_nx, n_rt, n_bk, n_ct, n_ex, e_lit, e_var, e_gl, e_bin, e_neg, e_not, e_cmp, e_chain, e_and, e_or, e_ite, e_tup, e_lst, e_ix, e_sl, e_call, e_callk, e_rng, e_pri, e_met, e_mk, e_mth, e_att, e_nil, e_cons, e_oN, e_oS, e_and1, e_and2, e_or1, e_or2, e_iE, e_iR, e_tV, e_tT, e_tS, e_tA, e_ts0, e_ts, e_if0, e_if1, r_to, r_toX, r_ofE, r_ofX, r_ofT, r_rets, r_retb, r_get0, r_getS, r_toB, v_non, v_bl, v_int, v_str, v_tup, v_lst, v_dic, h_lst, h_dic, h_ins, h_lck, q_non, q_bl, q_int, q_tup, q_lst, c_eqI, c_neI, c_eqS, c_neS, c_lt, c_le, c_gt, c_ge, b_add, b_sub, p_lenT, p_lenL, p_int, p_intB, p_abs, p_min, p_tupL, p_tupT, p_isStr, p_isTup, p_isInt, p_isBool, List.set_cons_zero, List.set_cons_succ, List.map_cons, List.map_nil, List.cons_append, List.nil_append, List.length_cons, List.length_nil, List.length_map, List.replicate, Option.map_some, Option.map_none, beq_self_eq_true, Bool.not_true, Bool.not_false, key]
  rfl
theorem f3 (h : Deed t) : callN src.pg (n+1) 3 [tD t, .str p] b S = .ok (oneOf (placeN p t.tail)) S := by
  rw [callN_run (fd := ⟨2, 2, false, b3⟩) rfl rfl]
  refine (runF_rt (S1 := S) (d := oneOf (placeN p t.tail)) ?_).trans (by rw [fin_ok (by cases placeN p t.tail <;> rfl), List.take_length])
  cases e : t.tail.contains p with
  | false =>
    rw [placeN_none e]
    simp only [b3, s_nil, s_cons, s_asg, s_asgc, s_par, s_expr, s_iff, s_fr, s_ret0, s_ret, s_brk, s_cnt, s_pass, n_nx, n_rt, n_bk, n_ct, n_ex, e_lit, e_var, e_gl, e_bin, e_neg, e_not, e_cmp, e_chain, e_and, e_or, e_ite, e_tup, e_lst, e_ix, e_sl, e_call, e_callk, e_rng, e_pri, e_met, e_mk, e_mth, e_att, e_nil, e_cons, e_oN, e_oS, e_and1, e_and2, e_or1, e_or2, e_iE, e_iR, e_tV, e_tT, e_tS, e_tA, e_ts0, e_ts, e_if0, e_if1, r_to, r_toX, r_ofE, r_ofX, r_ofT, r_rets, r_retb, r_get0, r_getS, r_toB, v_non, v_bl, v_int, v_str, v_tup, v_lst, v_dic, h_lst, h_dic, h_ins, h_lck, q_non, q_bl, q_int, q_tup, q_lst, c_eqI, c_neI, c_eqS, c_neS, c_lt, c_le, c_gt, c_ge, b_add, b_sub, p_lenT, p_lenL, p_int, p_intB, p_abs, p_min, p_tupL, p_tupT, p_isStr, p_isTup, p_isInt, p_isBool, List.set_cons_zero, List.set_cons_succ, List.map_cons, List.map_nil, List.cons_append, List.nil_append, List.length_cons, List.length_nil, List.length_map, List.replicate, Option.map_some, Option.map_none, beq_self_eq_true, Bool.not_true, Bool.not_false, v_tD, sl_tD, c_memT, e]; rfl
  | true =>
    obtain ⟨k, hk⟩ := placeN_some e
    have hn : 0 < t.length := List.length_pos_iff.mpr h.ne
    have hcut : ¬(cutAt t.length 0 (some 1) = 0 ∧ cutAt t.length t.length none = t.length) := fun hh => by
      have : cutAt t.length 0 (some 1) = min 1 t.length := rfl
      rw [this] at hh
      have := hh.1
      omega
    have hi : ∀ b, prim b .tindex [.tup (t.tail.map .str), .str p] S = .ok (.int (k : Int)) S := fun b => by
      simp only [prim, pIndex, v_tup, asTup, dat_str, dats_str, placeD_str, hk, Bool.and_self, if_true]
    rw [hk]
    have vt : D.val S (tD t) = .tup (t.map .str) := rfl
    have c1 : cut (t.map D.str) (some 1) none = t.tail.map .str := by rw [cut1, tail_map]
    have sl : slice (.tup (t.map D.str)) (some 1) none = some (.tup (t.tail.map .str)) := sl_tD
    simp only [b3, s_nil, s_cons, s_asg, s_asgc, s_par, s_expr, s_iff, s_fr, s_ret0, s_ret, s_brk, s_cnt, s_pass, n_nx, n_rt, n_bk, n_ct, n_ex, e_lit, e_var, e_gl, e_bin, e_neg, e_not, e_cmp, e_chain, e_and, e_or, e_ite, e_tup, e_lst, e_ix, e_sl, e_call, e_callk, e_rng, e_pri, e_met, e_mk, e_mth, e_att, e_nil, e_cons, e_oN, e_oS, e_and1, e_and2, e_or1, e_or2, e_iE, e_iR, e_tV, e_tT, e_tS, e_tA, e_ts0, e_ts, e_if0, e_if1, r_to, r_toX, r_ofE, r_ofX, r_ofT, r_rets, r_retb, r_get0, r_getS, r_toB, v_non, v_bl, v_int, v_str, v_tup, v_lst, v_dic, h_lst, h_dic, h_ins, h_lck, q_non, q_bl, q_int, q_tup, q_lst, c_eqI, c_neI, c_eqS, c_neS, c_lt, c_le, c_gt, c_ge, b_add, b_sub, p_lenT, p_lenL, p_int, p_intB, p_abs, p_min, p_tupL, p_tupT, p_isStr, p_isTup, p_isInt, p_isBool, List.set_cons_zero, List.set_cons_succ, List.map_cons, List.map_nil, List.cons_append, List.nil_append, List.length_cons, List.length_nil, List.length_map, List.replicate, Option.map_some, Option.map_none, beq_self_eq_true, Bool.not_true, Bool.not_false, e_slm, vt, sl, c_memT, e, if_neg hcut, c1, hi]; rfl
theorem f4 (h : OkRow l) : callN src.pg (n+1) 4 [rowD l] b S = .ok (.tup ((List.range l.length).map (kindD l))) S := by
  rw [callN_run (fd := ⟨1, 3, false, b4⟩) rfl rfl]
  refine (runF_rt (S1 := S) (d := .tup ((List.range l.length).map (kindD l))) ?_).trans (by
    rw [fin_ok (show D.lt _ (.tup _) = true from ltsOf fun d hd => by
      obtain ⟨p, _, rfl⟩ := List.mem_map.mp hd
      show (D.lt _ (tD _) && (true && true)) = true
      rw [tD_lt]; rfl), List.take_length])
  have hle := h.le
  have key := lc_all (c := ⟨callN src.pg n, src.pg.mth, src.pg.gl, if false = true then b else S.length, src.pg.fuel⟩) (env := [some (rowD l), none, none]) (S := S) (own := [1, 2]) (tg := .tup [.var 1, .var 2]) (it := .enum (.var 0)) (e := e4_0)
    (List.range l.length) (fun (k : Nat) => D.tup [.int (k : Int), tD (l.getD k [])]) (kindD l) (fun k => [some (rowD l), some (.int (k : Int)), some (tD (l.getD k []))])
    (by
      have hw : wipeE [some (rowD l), none, none] [1, 2] = [some (rowD l), none, none] := rfl
      simp only [hw, e_iN, s_nil, s_cons, s_asg, s_asgc, s_par, s_expr, s_iff, s_fr, s_ret0, s_ret, s_brk, s_cnt, s_pass, n_nx, n_rt, n_bk, n_ct, n_ex, e_lit, e_var, e_gl, e_bin, e_neg, e_not, e_cmp, e_chain, e_and, e_or, e_ite, e_tup, e_lst, e_ix, e_sl, e_call, e_callk, e_rng, e_pri, e_met, e_mk, e_mth, e_att, e_nil, e_cons, e_oN, e_oS, e_and1, e_and2, e_or1, e_or2, e_iE, e_iR, e_tV, e_tT, e_tS, e_tA, e_ts0, e_ts, e_if0, e_if1, r_to, r_toX, r_ofE, r_ofX, r_ofT, r_rets, r_retb, r_get0, r_getS, r_toB, v_non, v_bl, v_int, v_str, v_tup, v_lst, v_dic, h_lst, h_dic, h_ins, h_lck, q_non, q_bl, q_int, q_tup, q_lst, c_eqI, c_neI, c_eqS, c_neS, c_lt, c_le, c_gt, c_ge, b_add, b_sub, p_lenT, p_lenL, p_int, p_intB, p_abs, p_min, p_tupL, p_tupT, p_isStr, p_isTup, p_isInt, p_isBool, List.set_cons_zero, List.set_cons_succ, List.map_cons, List.map_nil, List.cons_append, List.nil_append, List.length_cons, List.length_nil, List.length_map, List.replicate, Option.map_some, Option.map_none, beq_self_eq_true, Bool.not_true, Bool.not_false, it_row, enumD_row]) (fun t _ => by
      have hw : wipeE (wipeE [some (rowD l), none, none] [1, 2]) (T.slots (.tup [.var 1, .var 2])) = [some (rowD l), none, none] := rfl
      simp only [hw, s_nil, s_cons, s_asg, s_asgc, s_par, s_expr, s_iff, s_fr, s_ret0, s_ret, s_brk, s_cnt, s_pass, n_nx, n_rt, n_bk, n_ct, n_ex, e_lit, e_var, e_gl, e_bin, e_neg, e_not, e_cmp, e_chain, e_and, e_or, e_ite, e_tup, e_lst, e_ix, e_sl, e_call, e_callk, e_rng, e_pri, e_met, e_mk, e_mth, e_att, e_nil, e_cons, e_oN, e_oS, e_and1, e_and2, e_or1, e_or2, e_iE, e_iR, e_tV, e_tT, e_tS, e_tA, e_ts0, e_ts, e_if0, e_if1, r_to, r_toX, r_ofE, r_ofX, r_ofT, r_rets, r_retb, r_get0, r_getS, r_toB, v_non, v_bl, v_int, v_str, v_tup, v_lst, v_dic, h_lst, h_dic, h_ins, h_lck, q_non, q_bl, q_int, q_tup, q_lst, c_eqI, c_neI, c_eqS, c_neS, c_lt, c_le, c_gt, c_ge, b_add, b_sub, p_lenT, p_lenL, p_int, p_intB, p_abs, p_min, p_tupL, p_tupT, p_isStr, p_isTup, p_isInt, p_isBool, List.set_cons_zero, List.set_cons_succ, List.map_cons, List.map_nil, List.cons_append, List.nil_append, List.length_cons, List.length_nil, List.length_map, List.replicate, Option.map_some, Option.map_none, beq_self_eq_true, Bool.not_true, Bool.not_false]) (fun k hk => by
      have hk : k < l.length := List.mem_range.mp hk
      have hcut : ¬(cutAt l.length 0 none = 0 ∧ cutAt l.length l.length (some (k : Int)) = l.length) := fun hh => by
        have : cutAt l.length l.length (some (k : Int)) = min k l.length := by
          unfold cutAt
          dsimp only
          rw [if_neg (by omega)]; simp
        rw [this] at hh
        have := hh.2
        omega
      have vt : D.val S (rowD l) = .tup (l.map tD) := rfl
      have c1 : cut (l.map tD) none (some (k : Int)) = (l.take k).map tD := by rw [cutTo, List.map_take]
      have hc : ∀ b, prim b .tcount [.tup ((l.take k).map tD), tD (l.getD k [])] S = .ok (.int ((l.take k).count (l.getD k []) : Nat)) S := fun b => by
        simp only [prim, pCount, v_tup, asTup, dat_tD, dats_tD, cnt_tD, Bool.and_self, if_true]
      simp only [e4_0, s_nil, s_cons, s_asg, s_asgc, s_par, s_expr, s_iff, s_fr, s_ret0, s_ret, s_brk, s_cnt, s_pass, n_nx, n_rt, n_bk, n_ct, n_ex, e_lit, e_var, e_gl, e_bin, e_neg, e_not, e_cmp, e_chain, e_and, e_or, e_ite, e_tup, e_lst, e_ix, e_sl, e_call, e_callk, e_rng, e_pri, e_met, e_mk, e_mth, e_att, e_nil, e_cons, e_oN, e_oS, e_and1, e_and2, e_or1, e_or2, e_iE, e_iR, e_tV, e_tT, e_tS, e_tA, e_ts0, e_ts, e_if0, e_if1, r_to, r_toX, r_ofE, r_ofX, r_ofT, r_rets, r_retb, r_get0, r_getS, r_toB, v_non, v_bl, v_int, v_str, v_tup, v_lst, v_dic, h_lst, h_dic, h_ins, h_lck, q_non, q_bl, q_int, q_tup, q_lst, c_eqI, c_neI, c_eqS, c_neS, c_lt, c_le, c_gt, c_ge, b_add, b_sub, p_lenT, p_lenL, p_int, p_intB, p_abs, p_min, p_tupL, p_tupT, p_isStr, p_isTup, p_isInt, p_isBool, List.set_cons_zero, List.set_cons_succ, List.map_cons, List.map_nil, List.cons_append, List.nil_append, List.length_cons, List.length_nil, List.length_map, List.replicate, Option.map_some, Option.map_none, beq_self_eq_true, Bool.not_true, Bool.not_false, e_slm, vt, if_neg hcut, c1, hc, lm2, if_true]; rfl) (lim' (by simp; omega))
  simp only [b4, s_nil, s_cons, s_asg, s_asgc, s_par, s_expr, s_iff, s_fr, s_ret0, s_ret, s_brk, s_cnt, s_pass, n_nx, n_rt, n_bk, n_ct, n_ex, e_lit, e_var, e_gl, e_bin, e_neg, e_not, e_cmp, e_chain, e_and, e_or, e_ite, e_tup, e_lst, e_ix, e_sl, e_call, e_callk, e_rng, e_pri, e_met, e_mk, e_mth, e_att, e_nil, e_cons, e_oN, e_oS, e_and1, e_and2, e_or1, e_or2, e_iE, e_iR, e_tV, e_tT, e_tS, e_tA, e_ts0, e_ts, e_if0, e_if1, r_to, r_toX, r_ofE, r_ofX, r_ofT, r_rets, r_retb, r_get0, r_getS, r_toB, v_non, v_bl, v_int, v_str, v_tup, v_lst, v_dic, h_lst, h_dic, h_ins, h_lck, q_non, q_bl, q_int, q_tup, q_lst, c_eqI, c_neI, c_eqS, c_neS, c_lt, c_le, c_gt, c_ge, b_add, b_sub, p_lenT, p_lenL, p_int, p_intB, p_abs, p_min, p_tupL, p_tupT, p_isStr, p_isTup, p_isInt, p_isBool, List.set_cons_zero, List.set_cons_succ, List.map_cons, List.map_nil, List.cons_append, List.nil_append, List.length_cons, List.length_nil, List.length_map, List.replicate, Option.map_some, Option.map_none, beq_self_eq_true, Bool.not_true, Bool.not_false, key]
end
end Mi

namespace Mi
open PySem L2 PySem.Spec PyProof.Rows
section
variable {S : Sto} {n b : Nat} {s : List (D × D)} {k x d : D}
theorem isDic_c (h : S[n]? = some (.dic s)) : isDic S (.ref n) = true := by simp only [isDic, h]
theorem isDic_t (h : S[n]? = some (.dct s)) : isDic S (.ref n) = true := by simp only [isDic, h]
theorem pGet_c (h : S[n]? = some (.dic s)) (hk : isKey k = true) : pGets S (.ref n) [k, x] = .ok ((getD k s).getD x) S := by
  simp only [pGets, pGet, h, hk, if_true]
theorem pGet_t (h : S[n]? = some (.dct s)) (hk : isKeyT k = true) : pGets S (.ref n) [k, x] = .ok ((getT k s).getD x) S := by
  simp only [pGets, pGet, h, hk, if_true]
theorem setI_c (h : S[n]? = some (.dic s)) (hk : isKey k = true) (hl : s.length < sizeLim) (hp : b ≤ n) : setItem b (.ref n) k d S = some (S.set n (.dic (putD k d s))) := by
  cases k <;> simp only [isKey, Bool.false_eq_true] at hk <;> simp only [setItem, h] <;> exact if_pos ⟨rfl, hl, .inl hp⟩
theorem setI_t (h : S[n]? = some (.dct s)) (hk : isKeyT k = true) (hl : s.length < sizeLim) (hp : b ≤ n) : setItem b (.ref n) k d S = some (S.set n (.dct (putT k d s))) := by
  cases k <;> simp only [isKeyT, Bool.false_eq_true] at hk
  simp only [setItem, h]
  exact if_pos ⟨hk, hl, .inl hp⟩
end
theorem lm0 : (0 ≤ sizeLim) = True := eq_true (by decide)
theorem keyT_tD : ∀ t : List (List Nat), isKeyT (tD t) = true := fun t => by
  show (t.map D.str).all isKey = true
  rw [List.all_map]
  exact List.all_eq_true.mpr fun _ _ => rfl
/-! ## the law's own tables -/
def pv (l : List (List (List Nat))) (i : Nat) (p : List Nat) : D := .tup ((withP l p i).map fun (k : Nat) => D.int (k : Int))
def wv (l : List (List (List Nat))) (i : Nat) (w : List Nat) : D := .int ((heads (l.take i)).count w : Nat)
def sv (l : List (List (List Nat))) (i : Nat) (t : List (List Nat)) : D := .int ((l.take i).count t : Nat)
def pvj (l : List (List (List Nat))) (i j : Nat) (t : List (List Nat)) (p : List Nat) : D := if (t.tail.take j).contains p then pv l (i + 1) p else pv l i p
def C9 (n : Nat) (J : Sto) : Ctx := ⟨callN src.pg (n+5), src.pg.mth, src.pg.gl, J.length + 3, src.pg.fuel⟩
theorem withP_succ (l : List (List (List Nat))) (p : List Nat) (i : Nat) : withP l p (i + 1) = withP l p i ++ if has l p i then [i] else [] := by
  unfold withP
  rw [List.range_succ, List.filter_append]
  congr 1
  cases h : has l p i <;> simp [h]
theorem withP_le (l : List (List (List Nat))) (p : List Nat) (i : Nat) : (withP l p i).length ≤ i := Nat.le_trans (List.length_filter_le ..) (by simp)
theorem tkg {α : Type} {l : List α} {i : Nat} {t : α} (h : l[i]? = some t) : l.take (i + 1) = l.take i ++ [t] := by rw [List.take_add_one, h]; rfl
/-- who is in no deed before -/
theorem withP_nil {l : List (List (List Nat))} {p : List Nat} : ∀ {i : Nat}, i ≤ l.length → p ∉ tails (l.take i) → withP l p i = []
  | 0, _, _ => rfl
  | i + 1, hi, h => by
    have hg : l[i]? = some l[i] := List.getElem?_eq_getElem (by omega)
    rw [tkg hg] at h
    unfold tails at h
    rw [List.flatMap_append, List.mem_append] at h
    have h1 : p ∉ tails (l.take i) := fun hh => h (.inl hh)
    rw [withP_succ, withP_nil (by omega) h1]
    have : has l p i = false := by
      unfold has
      rw [getD_eq (by omega)]
      cases e : (l[i].tail).contains p with
      | false => rfl
      | true => exact absurd (.inr (by simpa using e)) h
    rw [this]; rfl
section
variable {n : Nat} {w : Bd} {J : Sto} {l : List (List (List Nat))} {i : Nat} {t : List (List Nat)}
theorem inner (hl : OkRow l) (ht : l[i]? = some t) {A B C : MO} {x0 x1 x3 x4 x5 x7 x8 x9 x10 x11 x12 x13 x14 : Option D} :
    ∃ e' S', frW (C9 n J) (.var 8) b9_0 [x0, x1, some (.ref (J.length + 3)), x3, x4, x5, some (.int (i : Int)), x7, x8, x9, x10, x11, x12, x13, x14] (CS w (J ++ [.dic (tab .str (pv l i) (ddg (tails (l.take i)))), A, B, C])) (t.tail.map .str, none) = .nx e' S' ∧
      ∃ x8, e' = [x0, x1, some (.ref (J.length + 3)), x3, x4, x5, some (.int (i : Int)), x7, x8, x9, x10, x11, x12, x13, x14] ∧ S' = CS w (J ++ [.dic (tab .str (pv l (i + 1)) (ddg (tails (l.take (i + 1))))), A, B, C]) := by
  have hi : i < l.length := (List.getElem?_eq_some_iff.mp ht).1
  have htl : l.getD i [] = t := by rw [List.getD_eq_getElem?_getD, ht]; rfl
  have hd := hl.de t (List.mem_of_getElem? ht)
  have hle := hl.le
  have htail : t.tail.length ≤ 3 := by rw [List.length_tail]; have := hd.le; omega
  obtain ⟨e', S', f1, x8', f2, f3⟩ := frW_inv (c := C9 n J) (tg := .var 8) (B := b9_0) (env := [x0, x1, some (.ref (J.length + 3)), x3, x4, x5, some (.int (i : Int)), x7, x8, x9, x10, x11, x12, x13, x14]) (S := CS w (J ++ [.dic (tab .str (pv l i) (ddg (tails (l.take i)))), A, B, C])) (items := t.tail.map .str)
    (fun j e S => ∃ x8, e = [x0, x1, some (.ref (J.length + 3)), x3, x4, x5, some (.int (i : Int)), x7, x8, x9, x10, x11, x12, x13, x14] ∧ S = CS w (J ++ [.dic (tab .str (pvj l i j t) (ddg (tails (l.take i) ++ t.tail.take j))), A, B, C]))
    ⟨_, rfl, by rw [List.take_zero, List.append_nil]; congr 3⟩ (fun j d e S hj ⟨x8, he, hS⟩ => by
      subst he; subst hS
      rw [List.getElem?_map] at hj
      obtain ⟨p, hp, rfl⟩ := Option.map_eq_some_iff.mp hj
      have hjl : j < t.tail.length := (List.getElem?_eq_some_iff.mp hp).1
      have hpj : t.tail[j] = p := (List.getElem?_eq_some_iff.mp hp).2
      have hnew : (t.tail.take j).contains p = false := by
        cases e : (t.tail.take j).contains p with
        | false => rfl
        | true =>
          have hm : p ∈ t.tail.take j := by simpa using e
          obtain ⟨q, hq, hq2⟩ := List.getElem_of_mem hm
          rw [List.length_take] at hq
          rw [List.getElem_take] at hq2
          have := (List.getElem_inj hd.nd).mp (hq2.trans hpj.symm)
          omega
      have hhas : has l p i = true := by
        unfold has
        rw [htl]
        have : p ∈ t.tail := hpj ▸ List.getElem_mem hjl
        simpa using this
      have hval : pvj l i j t p = pv l i p := by unfold pvj; rw [hnew]; rfl
      have hlen : (ddg (tails (l.take i) ++ t.tail.take j)).length < sizeLim := by
        refine Nat.lt_of_le_of_lt (ddg_le _) (Nat.lt_of_le_of_lt (m := 1000) ?_ (by decide))
        rw [List.length_append, List.length_take]
        have := tails_len (l := l.take i) fun t ht => hl.de t (List.mem_of_mem_take ht)
        rw [List.length_take] at this
        omega
      have gk : (getD (.str p) (tab .str (pvj l i j t) (ddg (tails (l.take i) ++ t.tail.take j)))).getD (.tup []) = pv l i p := by
        rw [tab_getD kStr, hval]
        intro hh
        rw [hval]
        rw [ddg_mem, List.mem_append] at hh
        unfold pv
        rw [withP_nil (by omega) fun h => hh (.inl h)]; rfl
      have ad : binop .add (pv l i p) (.tup [.int (i : Int)]) = some (pv l (i + 1) p) := by
        unfold pv
        rw [b_addT (lim' (by rw [List.length_map]; have := withP_le l p i; simp; omega)), withP_succ, hhas, if_pos rfl, List.map_append]; rfl
      have vp : ∀ S, D.val S (pv l i p) = pv l i p := fun _ => rfl
      have hput : putD (.str p) (pv l (i + 1) p) (tab .str (pvj l i j t) (ddg (tails (l.take i) ++ t.tail.take j))) = tab .str (pvj l i (j + 1) t) (ddg (tails (l.take i) ++ t.tail.take (j + 1))) := by
        rw [tab_put kStr, tkg hp, ← List.append_assoc, ddg_add]
        refine tab_congr fun q _ => ?_
        unfold pvj
        rw [tkg hp]
        cases e : q == p with
        | true =>
          have : q = p := by simpa using e
          subst this; simp
        | false =>
          have hc : (t.tail.take j ++ [p]).contains q = (t.tail.take j).contains q := by
            rw [List.contains_eq_any_beq, List.contains_eq_any_beq, List.any_append]
            simp [e]
          rw [hc]; rfl
      have hg := fun (X : MO) => cs_get (w := w) (J := J) (R := [X, A, B, C]) (k := 0) (x := X) rfl
      have hset : setItem (J.length + 3) (.ref (J.length + 3)) (.str p) (pv l (i + 1) p) (CS w (J ++ [.dic (tab .str (pvj l i j t) (ddg (tails (l.take i) ++ t.tail.take j))), A, B, C])) = some (CS w (J ++ [.dic (tab .str (pvj l i (j + 1) t) (ddg (tails (l.take i) ++ t.tail.take (j + 1)))), A, B, C])) := by
        rw [setI_c (hg _) rfl (by rw [tab_len]; exact hlen) (by omega), hput, show J.length + 3 = J.length + (0 + 3) from rfl, cs_set]; rfl
      refine ⟨_, _, .inl ?_, some (.str p), rfl, rfl⟩
      simp only [C9] at *
      simp only [b9_0, s_nil, s_cons, s_asg, s_asgc, s_par, s_expr, s_iff, s_fr, s_ret0, s_ret, s_brk, s_cnt, s_pass, n_nx, n_rt, n_bk, n_ct, n_ex, e_lit, e_var, e_gl, e_bin, e_neg, e_not, e_cmp, e_chain, e_and, e_or, e_ite, e_tup, e_lst, e_ix, e_sl, e_call, e_callk, e_rng, e_pri, e_met, e_mk, e_mth, e_att, e_nil, e_cons, e_oN, e_oS, e_and1, e_and2, e_or1, e_or2, e_iE, e_iR, e_tV, e_tT, e_tS, e_tA, e_ts0, e_ts, e_if0, e_if1, r_to, r_toX, r_ofE, r_ofX, r_ofT, r_rets, r_retb, r_get0, r_getS, r_toB, v_non, v_bl, v_int, v_str, v_tup, v_lst, v_dic, h_lst, h_dic, h_ins, h_lck, q_non, q_bl, q_int, q_tup, q_lst, c_eqI, c_neI, c_eqS, c_neS, c_lt, c_le, c_gt, c_ge, b_add, b_sub, p_lenT, p_lenL, p_int, p_intB, p_abs, p_min, p_tupL, p_tupT, p_isStr, p_isTup, p_isInt, p_isBool, List.set_cons_zero, List.set_cons_succ, List.map_cons, List.map_nil, List.cons_append, List.nil_append, List.length_cons, List.length_nil, List.length_map, List.replicate, Option.map_some, Option.map_none, beq_self_eq_true, Bool.not_true, Bool.not_false, e_get, isDic_c (hg _), pGet_c (hg _) (show isKey (.str p) = true from rfl), gk, vp, lm0, lm1, ad, if_true, hset])
  refine ⟨e', S', f1, x8', f2, ?_⟩
  rw [f3, List.length_map, List.take_of_length_le (Nat.le_refl _), tkg ht]
  have eT : tails (l.take i ++ [t]) = tails (l.take i) ++ t.tail := by
    unfold tails
    rw [List.flatMap_append]; simp
  rw [eT]
  congr 4
  refine tab_congr fun q _ => ?_
  unfold pvj
  rw [List.take_of_length_le (Nat.le_refl _)]
  cases e : t.tail.contains q with
  | true => rfl
  | false =>
    unfold pv
    have : has l q i = false := by unfold has; rw [htl]; exact e
    rw [withP_succ, this]; simp
end
end Mi

namespace Mi
open PySem L2 PySem.Spec PyProof.Rows
section
variable {n : Nat} {w : Bd} {J : Sto} {l : List (List (List Nat))} {i : Nat} {t : List (List Nat)}
theorem heads_succ (ht : l[i]? = some t) : heads (l.take (i + 1)) = heads (l.take i) ++ [t.headD []] := by
  rw [tkg ht, heads, List.map_append]; rfl
theorem count_same {α : Type} [BEq α] [LawfulBEq α] (l : List α) (a : α) : (l ++ [a]).count a = l.count a + 1 := by simp [List.count_append]
theorem count_other {α : Type} [BEq α] [LawfulBEq α] (l : List α) {a b : α} (h : (b == a) = false) : (l ++ [a]).count b = l.count b := by
  have : a ≠ b := fun e => by subst e; simp at h
  simp [List.count_append, List.count_singleton, this]
theorem word_put (ht : l[i]? = some t) : putD (.str (t.headD [])) (wv l (i + 1) (t.headD [])) (tab .str (wv l i) (ddg (heads (l.take i)))) = tab .str (wv l (i + 1)) (ddg (heads (l.take (i + 1)))) := by
  rw [tab_put kStr, heads_succ ht, ddg_add]
  refine tab_congr fun q _ => ?_
  cases e : q == t.headD [] with
  | true =>
    have : q = t.headD [] := by simpa using e
    subst this; rfl
  | false =>
    unfold wv
    rw [heads_succ ht, count_other _ e]; rfl
theorem seen_put (ht : l[i]? = some t) : putT (tD t) (sv l (i + 1) t) (tab tD (sv l i) (ddg (l.take i))) = tab tD (sv l (i + 1)) (ddg (l.take (i + 1))) := by
  rw [tabT_put kTup, tkg ht, ddg_add]
  refine tab_congr fun q _ => ?_
  cases e : q == t with
  | true =>
    have : q = t := by simpa using e
    subst this; rfl
  | false =>
    unfold sv
    rw [tkg ht, count_other _ e]; rfl
theorem word_get : (getD (.str (t.headD [])) (tab .str (wv l i) (ddg (heads (l.take i))))).getD (.int 0) = wv l i (t.headD []) := by
  refine tab_getD kStr fun h => ?_
  rw [ddg_mem] at h
  unfold wv
  rw [List.count_eq_zero_of_not_mem h]; rfl
theorem seen_get : (getT (tD t) (tab tD (sv l i) (ddg (l.take i)))).getD (.int 0) = sv l i t := by
  refine tabT_getD kTup fun h => ?_
  rw [ddg_mem] at h
  unfold sv
  rw [List.count_eq_zero_of_not_mem h]; rfl
theorem word_add (ht : l[i]? = some t) : binop .add (wv l i (t.headD [])) (.int 1) = some (wv l (i + 1) (t.headD [])) := by
  unfold wv
  rw [heads_succ ht, count_same]; rfl
theorem seen_add (ht : l[i]? = some t) : binop .add (sv l i t) (.int 1) = some (sv l (i + 1) t) := by
  unfold sv
  rw [tkg ht, count_same]; rfl
def St9 (w : Bd) (J : Sto) (l : List (List (List Nat))) (i : Nat) : Sto := CS w (J ++ [.dic (tab .str (pv l i) (ddg (tails (l.take i)))), .dic (tab .str (wv l i) (ddg (heads (l.take i)))), .lst ((List.range i).map (kindD l)), .dct (tab tD (sv l i) (ddg (l.take i)))])
theorem small {m : Nat} (h : m ≤ 1000) : m < sizeLim := Nat.lt_of_le_of_lt h (by decide)
theorem turn1 (hl : OkRow l) (ht : l[i]? = some t) {x0 x7 x8 x9 x10 x11 x12 x13 x14 : Option D} : ∃ x8', exs (C9 n J) b9_1 [x0, some (rowD l), some (.ref (J.length + 3)), some (.ref (J.length + 4)), some (.ref (J.length + 5)), some (.ref (J.length + 6)), some (.int (i : Int)), x7, x8, x9, x10, x11, x12, x13, x14] (St9 w J l i) =
    .nx [x0, some (rowD l), some (.ref (J.length + 3)), some (.ref (J.length + 4)), some (.ref (J.length + 5)), some (.ref (J.length + 6)), some (.int (i : Int)), some (tD t), x8', x9, x10, x11, x12, x13, x14] (St9 w J l (i + 1)) := by
  have hi : i < l.length := (List.getElem?_eq_some_iff.mp ht).1
  have htl : l.getD i [] = t := by rw [List.getD_eq_getElem?_getD, ht]; rfl
  have hd := hl.de t (List.mem_of_getElem? ht)
  have hle := hl.le
  have ix : index (rowD l) (.int (i : Int)) = some (tD t) := by rw [ix_row hi, htl]
  have hh := ix_head hd.ne
  have hg : ∀ (A B C D : MO), (CS w (J ++ [A, B, C, D]))[J.length + 4]? = some B := fun A B C D => cs_get (k := 1) rfl
  have hg2 : ∀ (A B C D : MO), (CS w (J ++ [A, B, C, D]))[J.length + 5]? = some C := fun A B C D => cs_get (k := 2) rfl
  have hg3 : ∀ (A B C D : MO), (CS w (J ++ [A, B, C, D]))[J.length + 6]? = some D := fun A B C D => cs_get (k := 3) rfl
  generalize hP : MO.dic (tab .str (pv l i) (ddg (tails (l.take i)))) = P
  have lenT : (l.take i).length ≤ 64 := by rw [List.length_take]; omega
  have set1 : ∀ C D, setItem (J.length + 3) (.ref (J.length + 4)) (.str (t.headD [])) (wv l (i + 1) (t.headD [])) (CS w (J ++ [P, .dic (tab .str (wv l i) (ddg (heads (l.take i)))), C, D])) = some (CS w (J ++ [P, .dic (tab .str (wv l (i + 1)) (ddg (heads (l.take (i + 1))))), C, D])) := fun C D => by
    rw [setI_c (hg ..) rfl (by rw [tab_len]; refine small (Nat.le_trans (ddg_le _) ?_); rw [heads, List.length_map]; omega) (by omega), word_put ht, show J.length + 4 = J.length + (1 + 3) from rfl, cs_set]; rfl
  have set2 : ∀ B C, setItem (J.length + 3) (.ref (J.length + 6)) (tD t) (sv l (i + 1) t) (CS w (J ++ [P, B, C, .dct (tab tD (sv l i) (ddg (l.take i)))])) = some (CS w (J ++ [P, B, C, .dct (tab tD (sv l (i + 1)) (ddg (l.take (i + 1))))])) := fun B C => by
    rw [setI_t (hg3 ..) (keyT_tD t) (by rw [tab_len]; exact small (Nat.le_trans (ddg_le _) (by omega))) (by omega), seen_put ht, show J.length + 6 = J.length + (3 + 3) from rfl, cs_set]; rfl
  have app : ∀ B D, prim (J.length + 3) .append [.ref (J.length + 5), .tup [tD t, sv l i t]] (CS w (J ++ [P, B, .lst ((List.range i).map (kindD l)), D])) = .ok .non (CS w (J ++ [P, B, .lst ((List.range (i + 1)).map (kindD l)), D])) := fun B D => by
    rw [p_app (hg2 ..) (by rw [List.length_map, List.length_range]; exact small (by omega)) (.inl (by omega)), show J.length + 5 = J.length + (2 + 3) from rfl, cs_set, List.range_succ, List.map_append]
    have : kindD l i = .tup [tD t, sv l i t] := by unfold kindD sv; rw [htl]
    simp only [List.map_cons, List.map_nil, this]; rfl
  have vw : ∀ S, D.val S (wv l i (t.headD [])) = wv l i (t.headD []) := fun _ => rfl
  have vs : ∀ S, D.val S (sv l i t) = sv l i t := fun _ => rfl
  have vk : ∀ A B F l, D.val (CS w (J ++ [A, B, .lst l, F])) (.ref (J.length + 5)) = .lst l := fun A B F l => cs_val (k := 2) rfl
  have rec2 : ∀ l' : List D, recvOk .append (.lst l') = true := fun _ => rfl
  have kT : isKeyT (tD t) = true := keyT_tD t
  obtain ⟨e', S', f1, x8', rfl, rfl⟩ := inner (n := n) (w := w) (J := J) hl ht (A := .dic (tab .str (wv l (i + 1)) (ddg (heads (l.take (i + 1)))))) (B := .lst ((List.range (i + 1)).map (kindD l))) (C := .dct (tab tD (sv l (i + 1)) (ddg (l.take (i + 1))))) (x0 := x0) (x1 := some (rowD l)) (x3 := some (.ref (J.length + 4))) (x4 := some (.ref (J.length + 5))) (x5 := some (.ref (J.length + 6))) (x7 := some (tD t)) (x8 := x8) (x9 := x9) (x10 := x10) (x11 := x11) (x12 := x12) (x13 := x13) (x14 := x14)
  rw [hP] at f1
  refine ⟨x8', ?_⟩
  simp only [C9] at *
  simp only [St9, hP, b9_1, s_nil, s_cons, s_asg, s_asgc, s_par, s_expr, s_iff, s_fr, s_ret0, s_ret, s_brk, s_cnt, s_pass, n_nx, n_rt, n_bk, n_ct, n_ex, e_lit, e_var, e_gl, e_bin, e_neg, e_not, e_cmp, e_chain, e_and, e_or, e_ite, e_tup, e_lst, e_ix, e_sl, e_call, e_callk, e_rng, e_pri, e_met, e_mk, e_mth, e_att, e_nil, e_cons, e_oN, e_oS, e_and1, e_and2, e_or1, e_or2, e_iE, e_iR, e_tV, e_tT, e_tS, e_tA, e_ts0, e_ts, e_if0, e_if1, r_to, r_toX, r_ofE, r_ofX, r_ofT, r_rets, r_retb, r_get0, r_getS, r_toB, v_non, v_bl, v_int, v_str, v_tup, v_lst, v_dic, h_lst, h_dic, h_ins, h_lck, q_non, q_bl, q_int, q_tup, q_lst, c_eqI, c_neI, c_eqS, c_neS, c_lt, c_le, c_gt, c_ge, b_add, b_sub, p_lenT, p_lenL, p_int, p_intB, p_abs, p_min, p_tupL, p_tupT, p_isStr, p_isTup, p_isInt, p_isBool, List.set_cons_zero, List.set_cons_succ, List.map_cons, List.map_nil, List.cons_append, List.nil_append, List.length_cons, List.length_nil, List.length_map, List.replicate, Option.map_some, Option.map_none, beq_self_eq_true, Bool.not_true, Bool.not_false, v_row, ix, v_tD, hh, e_get, isDic_c (hg ..), isDic_t (hg3 ..), if_true, pGet_c (hg ..) (show isKey (.str (t.headD [])) = true from rfl), pGet_t (hg3 ..) kT, word_get, seen_get, vw, vs, word_add ht, seen_add ht, set1, set2, vk, rec2, lm2, app, sl_tD, it_tup, f1]
theorem loop1 (hl : OkRow l) {x0 x6 x7 x8 x9 x10 x11 x12 x13 x14 : Option D} : ∃ e' S', frW (C9 n J) (.var 6) b9_1 [x0, some (rowD l), some (.ref (J.length + 3)), some (.ref (J.length + 4)), some (.ref (J.length + 5)), some (.ref (J.length + 6)), x6, x7, x8, x9, x10, x11, x12, x13, x14] (CS w (J ++ [.dic [], .dic [], .lst [], .dct []])) (rangeOf 0 l.length, none) = .nx e' S' ∧
    ∃ x6 x7 x8, e' = [x0, some (rowD l), some (.ref (J.length + 3)), some (.ref (J.length + 4)), some (.ref (J.length + 5)), some (.ref (J.length + 6)), x6, x7, x8, x9, x10, x11, x12, x13, x14] ∧ S' = St9 w J l l.length := by
  obtain ⟨e', S', f1, x6, x7, x8, f2, f3⟩ := frW_inv (c := C9 n J) (tg := .var 6) (B := b9_1) (env := [x0, some (rowD l), some (.ref (J.length + 3)), some (.ref (J.length + 4)), some (.ref (J.length + 5)), some (.ref (J.length + 6)), x6, x7, x8, x9, x10, x11, x12, x13, x14]) (S := CS w (J ++ [.dic [], .dic [], .lst [], .dct []])) (items := rangeOf 0 l.length)
    (fun i e S => ∃ x6 x7 x8, e = [x0, some (rowD l), some (.ref (J.length + 3)), some (.ref (J.length + 4)), some (.ref (J.length + 5)), some (.ref (J.length + 6)), x6, x7, x8, x9, x10, x11, x12, x13, x14] ∧ S = St9 w J l i) ⟨_, _, _, rfl, rfl⟩ (fun i d e S hd ⟨x6, x7, x8, he, hS⟩ => by
      subst he; subst hS
      obtain ⟨rfl, hk⟩ := rangeOf_get hd
      have hi : i < l.length := by omega
      obtain ⟨x8', hx⟩ := turn1 (n := n) (w := w) (J := J) hl (List.getElem?_eq_getElem hi) (x0 := x0) (x7 := x7) (x8 := x8) (x9 := x9) (x10 := x10) (x11 := x11) (x12 := x12) (x13 := x13) (x14 := x14)
      refine ⟨_, _, .inl ?_, some (.int (i : Int)), some (tD l[i]), x8', rfl, rfl⟩
      simp only [s_nil, s_cons, s_asg, s_asgc, s_par, s_expr, s_iff, s_fr, s_ret0, s_ret, s_brk, s_cnt, s_pass, n_nx, n_rt, n_bk, n_ct, n_ex, e_lit, e_var, e_gl, e_bin, e_neg, e_not, e_cmp, e_chain, e_and, e_or, e_ite, e_tup, e_lst, e_ix, e_sl, e_call, e_callk, e_rng, e_pri, e_met, e_mk, e_mth, e_att, e_nil, e_cons, e_oN, e_oS, e_and1, e_and2, e_or1, e_or2, e_iE, e_iR, e_tV, e_tT, e_tS, e_tA, e_ts0, e_ts, e_if0, e_if1, r_to, r_toX, r_ofE, r_ofX, r_ofT, r_rets, r_retb, r_get0, r_getS, r_toB, v_non, v_bl, v_int, v_str, v_tup, v_lst, v_dic, h_lst, h_dic, h_ins, h_lck, q_non, q_bl, q_int, q_tup, q_lst, c_eqI, c_neI, c_eqS, c_neS, c_lt, c_le, c_gt, c_ge, b_add, b_sub, p_lenT, p_lenL, p_int, p_intB, p_abs, p_min, p_tupL, p_tupT, p_isStr, p_isTup, p_isInt, p_isBool, List.set_cons_zero, List.set_cons_succ, List.map_cons, List.map_nil, List.cons_append, List.nil_append, List.length_cons, List.length_nil, List.length_map, List.replicate, Option.map_some, Option.map_none, beq_self_eq_true, Bool.not_true, Bool.not_false, Int.zero_add, hx])
  rw [rangeOf_len] at f3
  exact ⟨e', S', f1, x6, x7, x8, f2, by rw [f3]; congr 1⟩
end
end Mi

namespace Mi
open PySem L2 PySem.Spec PyProof.Rows
theorem frzP_pure {f : D → Sto → Option (D × Sto)} : ∀ (l : List (D × D)) (S : Sto), (∀ d ∈ l, ∀ S, f d.2 S = some (d.2, S)) → frzP f l S = some (l, S)
  | [], S, _ => rfl
  | d :: l, S, h => by
    obtain ⟨k, d⟩ := d
    unfold frzP
    rw [h (k, d) (List.mem_cons_self ..) S]
    dsimp only
    rw [frzP_pure l S fun d hd => h d (List.mem_cons_of_mem _ hd)]
theorem pures_int : ∀ l : List Nat, D.pures (l.map fun (k : Nat) => D.int (k : Int)) = true
  | [] => rfl
  | s :: l => pures_int l
theorem freeze_pv {S : Sto} {n : Nat} {l : List (List (List Nat))} {m : Nat} {ks : List (List Nat)} (h : S[n]? = some (.dic (tab .str (pv l m) ks))) : freeze (.ref n) S = .ok (.dic (tab .str (pv l m) ks)) (S.set n .dead) := by
  unfold freeze
  have : frz 4 (.ref n) S = some (.dic (tab .str (pv l m) ks), S.set n .dead) := by
    simp only [frz, h]
    rw [frzP_pure _ _ fun d hd S => by
      obtain ⟨s, _, rfl⟩ := List.mem_map.mp hd
      show frz 3 (pv l m s) S = some (pv l m s, S)
      unfold pv
      exact if_pos (pures_int _)]
  rw [this]
theorem own_head (p : List Nat) : ∀ l : List (List Nat), ((List.range l.length).filter fun r => l.getD r [] == p).head? = placeN p l
  | [] => rfl
  | s :: l => by
    have ih := own_head p l
    rw [List.length_cons, List.range_succ_eq_map, List.filter_cons]
    unfold placeN
    show (if (s == p) = true then _ else _ : List Nat).head? = _
    cases e : s == p with
    | true => rfl
    | false =>
      rw [if_neg (by simp), if_neg (by simp), List.filter_map, List.head?_map, ← ih]
      rfl
theorem place_own : ∀ {l : List (List Nat)} {r : Nat} (h : r < l.length), l.Nodup → placeN l[r] l = some r
  | s :: l, 0, _, _ => by
    unfold placeN
    simp
  | s :: l, r + 1, h, nd => by
    obtain ⟨h1, h2⟩ := List.nodup_cons.mp nd
    have h : r < l.length := by simpa using h
    have : (s == l[r]) = false := beq_eq_false_iff_ne.mpr fun e => h1 (e ▸ List.getElem_mem h)
    show (if (s == l[r]) = true then some 0 else (placeN l[r] l).map (· + 1)) = _
    rw [this, place_own h h2]; rfl
theorem lk_str {n : Nat} {l : List (List Nat)} (h : l.length ≤ 1000) : Lk (n + 1) (.tup (l.map .str)) := .tup (fun d hd => by
  obtain ⟨s, _, rfl⟩ := List.mem_map.mp hd; exact .str) (by rw [List.length_map]; exact h)
theorem lk_pv {n : Nat} {l : List (List (List Nat))} {i : Nat} {p : List Nat} (h : i ≤ 1000) : Lk (n + 1) (pv l i p) := .tup (fun d hd => by
  obtain ⟨s, _, rfl⟩ := List.mem_map.mp hd; exact .int) (by rw [List.length_map]; exact Nat.le_trans (withP_le ..) h)
section
variable {n b : Nat} {w : Bd} {J R S : Sto} {l : List (List (List Nat))} {i : Nat} {t : List (List Nat)}
theorem folk_le (hl : OkRow l) : (folk l).length ≤ 10 := by rw [folk, sortS_len]; exact dd_le (tails_po hl.de)
theorem verbs_le (hl : OkRow l) : (verbs l).length ≤ 10 := by rw [verbs, sortS_len]; exact dd_le (heads_po hl.de)
def dueD (l : List (List (List Nat))) : D := .tup [.tup ((folk l).map .str), .tup ((verbs l).map (verbD l)), .tup ((List.range l.length).map (kindD l))]
theorem lk_due (hl : OkRow l) : Lk 4 (dueD l) := by
  have hle := hl.le
  refine .tup (fun d hd => ?_) (by show 3 ≤ 1000; decide)
  simp only [List.mem_cons, List.not_mem_nil, or_false] at hd
  rcases hd with rfl | rfl | rfl
  · exact lk_str (Nat.le_trans (folk_le hl) (by decide))
  · refine .tup (fun d hd => ?_) (by rw [List.length_map]; exact Nat.le_trans (verbs_le hl) (by decide))
    obtain ⟨s, _, rfl⟩ := List.mem_map.mp hd
    refine .tup (fun d hd => ?_) (by show 2 ≤ 1000; decide)
    simp only [List.mem_cons, List.not_mem_nil, or_false] at hd
    rcases hd with rfl | rfl
    · exact .str
    · exact .int
  · refine .tup (fun d hd => ?_) (by rw [List.length_map, List.length_range]; omega)
    obtain ⟨k, hk, rfl⟩ := List.mem_map.mp hd
    have hk : k < l.length := List.mem_range.mp hk
    refine .tup (fun d hd => ?_) (by show 2 ≤ 1000; decide)
    simp only [List.mem_cons, List.not_mem_nil, or_false] at hd
    rcases hd with rfl | rfl
    · refine lk_str ?_
      rw [getD_eq hk]
      exact Nat.le_trans (hl.de _ (List.getElem_mem hk)).le (by decide)
    · exact .int
/-- what the people's rows are -/
theorem loop2 (hl : OkRow l) {x0 x3 x4 x5 x6 x7 x8 x9 x10 x11 x12 x13 x14 : Option D} : ∃ e', frW (C9 n J) (.var 8) b9_3 [x0, some (rowD l), some (.dic (tab .str (pv l l.length) (ddg (tails l)))), x3, x4, x5, x6, x7, x8, x9, x10, x11, x12, x13, x14] S ((ddg (tails l)).map .str, none) = .nx e' S ∧
    ∃ x8, e' = [x0, some (rowD l), some (.dic (tab .str (pv l l.length) (ddg (tails l)))), x3, x4, x5, x6, x7, x8, x9, x10, x11, x12, x13, x14] := by
  have hle := hl.le
  obtain ⟨e', S', f1, x8', f2, rfl⟩ := frW_inv (c := C9 n J) (tg := .var 8) (B := b9_3) (env := [x0, some (rowD l), some (.dic (tab .str (pv l l.length) (ddg (tails l)))), x3, x4, x5, x6, x7, x8, x9, x10, x11, x12, x13, x14]) (S := S) (items := (ddg (tails l)).map .str)
    (fun _ e S1 => ∃ x8, e = [x0, some (rowD l), some (.dic (tab .str (pv l l.length) (ddg (tails l)))), x3, x4, x5, x6, x7, x8, x9, x10, x11, x12, x13, x14] ∧ S1 = S) ⟨_, rfl, rfl⟩ (fun j d e S1 hj ⟨x8, he, hS⟩ => by
      subst he; subst hS
      rw [List.getElem?_map] at hj
      obtain ⟨p, hp, rfl⟩ := Option.map_eq_some_iff.mp hj
      have hm : (ddg (tails l)).contains p = true := by simpa using List.mem_of_getElem? hp
      have ix : index (.dic (tab .str (pv l l.length) (ddg (tails l)))) (.str p) = some (pv l l.length p) := by
        show getD (.str p) _ = _
        rw [tab_get kStr, if_pos hm]
      have g2 : ∀ b S, callN src.pg (n + 5) 2 [rowD l, .str p] b S = .ok (pv l l.length p) S := fun b S => f2 hl
      have lk := fun b S => like (lk_pv (n := 0) (l := l) (i := l.length) (p := p) (by omega)) (n + 5) b S (by omega)
      refine ⟨_, _, .inl ?_, some (.str p), rfl, rfl⟩
      simp only [C9, b9_3, s_nil, s_cons, s_asg, s_asgc, s_par, s_expr, s_iff, s_fr, s_ret0, s_ret, s_brk, s_cnt, s_pass, n_nx, n_rt, n_bk, n_ct, n_ex, e_lit, e_var, e_gl, e_bin, e_neg, e_not, e_cmp, e_chain, e_and, e_or, e_ite, e_tup, e_lst, e_ix, e_sl, e_call, e_callk, e_rng, e_pri, e_met, e_mk, e_mth, e_att, e_nil, e_cons, e_oN, e_oS, e_and1, e_and2, e_or1, e_or2, e_iE, e_iR, e_tV, e_tT, e_tS, e_tA, e_ts0, e_ts, e_if0, e_if1, r_to, r_toX, r_ofE, r_ofX, r_ofT, r_rets, r_retb, r_get0, r_getS, r_toB, v_non, v_bl, v_int, v_str, v_tup, v_lst, v_dic, h_lst, h_dic, h_ins, h_lck, q_non, q_bl, q_int, q_tup, q_lst, c_eqI, c_neI, c_eqS, c_neS, c_lt, c_le, c_gt, c_ge, b_add, b_sub, p_lenT, p_lenL, p_int, p_intB, p_abs, p_min, p_tupL, p_tupT, p_isStr, p_isTup, p_isInt, p_isBool, List.set_cons_zero, List.set_cons_succ, List.map_cons, List.map_nil, List.cons_append, List.nil_append, List.length_cons, List.length_nil, List.length_map, List.replicate, Option.map_some, Option.map_none, beq_self_eq_true, Bool.not_true, Bool.not_false, g2, ix, lk])
  exact ⟨e', f1, x8', f2⟩
end
end Mi

namespace Mi
open PySem L2 PySem.Spec PyProof.Rows
section
variable {n b : Nat} {w : Bd} {J J' R S : Sto} {l : List (List (List Nat))} {i : Nat} {t : List (List Nat)}
theorem ix_tl (h : t ≠ []) {r : Nat} (hr : r < t.tail.length) : index (tD t) (.int (1 + (r : Int))) = some (.str (t.tail.getD r [])) := by
  obtain ⟨a, u, rfl⟩ := List.exists_cons_of_ne_nil h
  rw [show (1 + (r : Int)) = ((r + 1 : Nat) : Int) from by omega]
  exact i_tupN (by
    rw [List.getElem?_map, List.getElem?_cons_succ, getD_eq hr]
    have hr : r < u.length := hr
    rw [List.getElem?_eq_getElem hr]; rfl)
theorem len_tl (h : t ≠ []) : binop .sub (.int (t.length : Int)) (.int 1) = some (.int (t.tail.length : Int)) := by
  obtain ⟨a, u, rfl⟩ := List.exists_cons_of_ne_nil h
  show some (D.int ((u.length + 1 : Nat) - 1 : Int)) = some (D.int (u.length : Int))
  congr 2; omega
theorem p_lenD {S : Sto} {b : Nat} : prim b .len [tD t] S = .ok (.int t.length) S := by
  show prim b .len [.tup (t.map .str)] S = _
  rw [p_lenT, List.length_map]
theorem p_lenRow {S : Sto} {b : Nat} : prim b .len [rowD l] S = .ok (.int l.length) S := by
  show prim b .len [.tup (l.map tD)] S = _
  rw [p_lenT, List.length_map]
/-- each role of a deed -/
theorem loop3 (hd : Deed t) {x0 x1 x2 x3 x4 x5 x6 x8 x9 x10 x11 x12 x13 x14 : Option D} : ∃ e', frW (C9 n J) (.var 12) b9_4 [x0, x1, x2, x3, x4, x5, x6, some (tD t), x8, x9, x10, x11, x12, x13, x14] S (rangeOf 0 t.tail.length, none) = .nx e' S ∧
    ∃ x12, e' = [x0, x1, x2, x3, x4, x5, x6, some (tD t), x8, x9, x10, x11, x12, x13, x14] := by
  obtain ⟨e', S', f1, x12', f2, rfl⟩ := frW_inv (c := C9 n J) (tg := .var 12) (B := b9_4) (env := [x0, x1, x2, x3, x4, x5, x6, some (tD t), x8, x9, x10, x11, x12, x13, x14]) (S := S) (items := rangeOf 0 t.tail.length)
    (fun _ e S1 => ∃ x12, e = [x0, x1, x2, x3, x4, x5, x6, some (tD t), x8, x9, x10, x11, x12, x13, x14] ∧ S1 = S) ⟨_, rfl, rfl⟩ (fun r d e S1 hj ⟨x12, he, hS⟩ => by
      subst he; subst hS
      obtain ⟨rfl, hk⟩ := rangeOf_get hj
      have hr : r < t.tail.length := by omega
      have g3 : ∀ b S, callN src.pg (n + 5) 3 [tD t, .str (t.tail.getD r [])] b S = .ok (.int (r : Int)) S := fun b S => by
        rw [f3 hd, getD_eq hr, place_own hr hd.nd]; rfl
      have lk := fun b S => like (Lk.int (n := 0) (i := (r : Int))) (n + 5) b S (by omega)
      refine ⟨_, _, .inl ?_, some (.int (r : Int)), rfl, rfl⟩
      simp only [C9, b9_4, s_nil, s_cons, s_asg, s_asgc, s_par, s_expr, s_iff, s_fr, s_ret0, s_ret, s_brk, s_cnt, s_pass, n_nx, n_rt, n_bk, n_ct, n_ex, e_lit, e_var, e_gl, e_bin, e_neg, e_not, e_cmp, e_chain, e_and, e_or, e_ite, e_tup, e_lst, e_ix, e_sl, e_call, e_callk, e_rng, e_pri, e_met, e_mk, e_mth, e_att, e_nil, e_cons, e_oN, e_oS, e_and1, e_and2, e_or1, e_or2, e_iE, e_iR, e_tV, e_tT, e_tS, e_tA, e_ts0, e_ts, e_if0, e_if1, r_to, r_toX, r_ofE, r_ofX, r_ofT, r_rets, r_retb, r_get0, r_getS, r_toB, v_non, v_bl, v_int, v_str, v_tup, v_lst, v_dic, h_lst, h_dic, h_ins, h_lck, q_non, q_bl, q_int, q_tup, q_lst, c_eqI, c_neI, c_eqS, c_neS, c_lt, c_le, c_gt, c_ge, b_add, b_sub, p_lenT, p_lenL, p_int, p_intB, p_abs, p_min, p_tupL, p_tupT, p_isStr, p_isTup, p_isInt, p_isBool, List.set_cons_zero, List.set_cons_succ, List.map_cons, List.map_nil, List.cons_append, List.nil_append, List.length_cons, List.length_nil, List.length_map, List.replicate, Option.map_some, Option.map_none, beq_self_eq_true, Bool.not_true, Bool.not_false, Int.zero_add, v_tD, ix_tl hd.ne hr, g3, lk])
  exact ⟨e', f1, x12', f2⟩
theorem lap7 (hl : OkRow l) (hn : 0 < l.length) {x2 x3 x4 x5 x6 x7 x8 x9 x10 x11 x12 x13 x14 : Option D} :
    ∃ w' x7' x12' x13' x14', exs (C9 n J) b9_7 [some (.ref 2), some (rowD l), x2, x3, x4, x5, x6, x7, x8, x9, x10, x11, x12, x13, x14] (CS w J') =
      .nx [some (.ref 2), some (rowD l), x2, x3, x4, x5, x6, x7', x8, x9, x10, x11, x12', x13', x14'] (CS w' J') := by
  obtain ⟨v, w1, e1, v0, v9⟩ := tick (n := n + 4) (b := J.length + 3) (w := w) (J := J') (many := (l.length : Int)) (by omega)
  obtain ⟨k, rfl⟩ := natOf v0
  have hk : k < l.length := by omega
  have ix := ix_row hk
  obtain ⟨t, ht⟩ : ∃ t, l.getD k [] = t := ⟨_, rfl⟩
  rw [ht] at ix
  have hd : Deed t := ht ▸ (getD_eq hk ▸ hl.de _ (List.getElem_mem hk))
  have htl : t.tail.length ≤ 3 := by rw [List.length_tail]; have := hd.le; omega
  obtain ⟨e', f1, x12', rfl⟩ := loop3 (n := n) (J := J) (S := CS w1 J') hd (x0 := some (.ref 2)) (x1 := some (rowD l)) (x2 := x2) (x3 := x3) (x4 := x4) (x5 := x5) (x6 := x6) (x8 := x8) (x9 := x9) (x10 := x10) (x11 := x11) (x12 := x12) (x13 := x13) (x14 := x14)
  obtain ⟨u, w2, e2, u0, u9⟩ := tick (n := n + 4) (b := J.length + 3) (w := w1) (J := J') (many := 6) (by decide)
  obtain ⟨s, _, ixs⟩ := strs_ix (l := [[97,110,110], [98], [102], [110,111,98,111,100,121], t.headD [], [109,101,101,116]]) u0 u9
  simp only [List.map_cons, List.map_nil] at ixs
  have nl6 : ∀ a b c d e f S, newL false [a, b, c, d, e, f] S = .ok (.lst [a, b, c, d, e, f]) S := fun _ _ _ _ _ _ _ => rfl
  have hI : ∀ S, rngI [.int (t.tail.length : Int)] S = .ok (rangeOf 0 t.tail.length, none) S := fun S => rngI1 (by omega) (by omega)
  have key := lc_filt (c := C9 n J) (env := [some (.ref 2), some (rowD l), x2, x3, x4, x5, x6, some (tD t), x8, x9, x10, x11, x12', some (.str s), x14]) (S := CS w2 J') (own := [12]) (tg := .var 12) (it := .range [.bin .sub (.pri .len [.var 7]) (.lit (.int 1))]) (e := e9_6) (cond := c9_5)
    (List.range t.tail.length) (fun (k : Nat) => D.int (k : Int)) (fun r => t.tail.getD r [] == s) (fun (k : Nat) => D.int (k : Int)) (fun (r : Nat) => [some (.ref 2), some (rowD l), x2, x3, x4, x5, x6, some (tD t), x8, x9, x10, x11, some (.int (r : Int)), some (.str s), x14])
    (by
      simp only [wipeE, s_nil, s_cons, s_asg, s_asgc, s_par, s_expr, s_iff, s_fr, s_ret0, s_ret, s_brk, s_cnt, s_pass, n_nx, n_rt, n_bk, n_ct, n_ex, e_lit, e_var, e_gl, e_bin, e_neg, e_not, e_cmp, e_chain, e_and, e_or, e_ite, e_tup, e_lst, e_ix, e_sl, e_call, e_callk, e_rng, e_pri, e_met, e_mk, e_mth, e_att, e_nil, e_cons, e_oN, e_oS, e_and1, e_and2, e_or1, e_or2, e_iE, e_iR, e_tV, e_tT, e_tS, e_tA, e_ts0, e_ts, e_if0, e_if1, r_to, r_toX, r_ofE, r_ofX, r_ofT, r_rets, r_retb, r_get0, r_getS, r_toB, v_non, v_bl, v_int, v_str, v_tup, v_lst, v_dic, h_lst, h_dic, h_ins, h_lck, q_non, q_bl, q_int, q_tup, q_lst, c_eqI, c_neI, c_eqS, c_neS, c_lt, c_le, c_gt, c_ge, b_add, b_sub, p_lenT, p_lenL, p_int, p_intB, p_abs, p_min, p_tupL, p_tupT, p_isStr, p_isTup, p_isInt, p_isBool, List.set_cons_zero, List.set_cons_succ, List.map_cons, List.map_nil, List.cons_append, List.nil_append, List.length_cons, List.length_nil, List.length_map, List.replicate, Option.map_some, Option.map_none, beq_self_eq_true, Bool.not_true, Bool.not_false, p_lenD, len_tl hd.ne, hI]
      simp [rangeOf]) (fun r _ => by simp only [T.slots, wipeE, s_nil, s_cons, s_asg, s_asgc, s_par, s_expr, s_iff, s_fr, s_ret0, s_ret, s_brk, s_cnt, s_pass, n_nx, n_rt, n_bk, n_ct, n_ex, e_lit, e_var, e_gl, e_bin, e_neg, e_not, e_cmp, e_chain, e_and, e_or, e_ite, e_tup, e_lst, e_ix, e_sl, e_call, e_callk, e_rng, e_pri, e_met, e_mk, e_mth, e_att, e_nil, e_cons, e_oN, e_oS, e_and1, e_and2, e_or1, e_or2, e_iE, e_iR, e_tV, e_tT, e_tS, e_tA, e_ts0, e_ts, e_if0, e_if1, r_to, r_toX, r_ofE, r_ofX, r_ofT, r_rets, r_retb, r_get0, r_getS, r_toB, v_non, v_bl, v_int, v_str, v_tup, v_lst, v_dic, h_lst, h_dic, h_ins, h_lck, q_non, q_bl, q_int, q_tup, q_lst, c_eqI, c_neI, c_eqS, c_neS, c_lt, c_le, c_gt, c_ge, b_add, b_sub, p_lenT, p_lenL, p_int, p_intB, p_abs, p_min, p_tupL, p_tupT, p_isStr, p_isTup, p_isInt, p_isBool, List.set_cons_zero, List.set_cons_succ, List.map_cons, List.map_nil, List.cons_append, List.nil_append, List.length_cons, List.length_nil, List.length_map, List.replicate, Option.map_some, Option.map_none, beq_self_eq_true, Bool.not_true, Bool.not_false]) (fun r hr => by
      have hr : r < t.tail.length := List.mem_range.mp hr
      simp only [c9_5, s_nil, s_cons, s_asg, s_asgc, s_par, s_expr, s_iff, s_fr, s_ret0, s_ret, s_brk, s_cnt, s_pass, n_nx, n_rt, n_bk, n_ct, n_ex, e_lit, e_var, e_gl, e_bin, e_neg, e_not, e_cmp, e_chain, e_and, e_or, e_ite, e_tup, e_lst, e_ix, e_sl, e_call, e_callk, e_rng, e_pri, e_met, e_mk, e_mth, e_att, e_nil, e_cons, e_oN, e_oS, e_and1, e_and2, e_or1, e_or2, e_iE, e_iR, e_tV, e_tT, e_tS, e_tA, e_ts0, e_ts, e_if0, e_if1, r_to, r_toX, r_ofE, r_ofX, r_ofT, r_rets, r_retb, r_get0, r_getS, r_toB, v_non, v_bl, v_int, v_str, v_tup, v_lst, v_dic, h_lst, h_dic, h_ins, h_lck, q_non, q_bl, q_int, q_tup, q_lst, c_eqI, c_neI, c_eqS, c_neS, c_lt, c_le, c_gt, c_ge, b_add, b_sub, p_lenT, p_lenL, p_int, p_intB, p_abs, p_min, p_tupL, p_tupT, p_isStr, p_isTup, p_isInt, p_isBool, List.set_cons_zero, List.set_cons_succ, List.map_cons, List.map_nil, List.cons_append, List.nil_append, List.length_cons, List.length_nil, List.length_map, List.replicate, Option.map_some, Option.map_none, beq_self_eq_true, Bool.not_true, Bool.not_false, v_tD, ix_tl hd.ne hr]) (fun r _ => by simp only [e9_6, s_nil, s_cons, s_asg, s_asgc, s_par, s_expr, s_iff, s_fr, s_ret0, s_ret, s_brk, s_cnt, s_pass, n_nx, n_rt, n_bk, n_ct, n_ex, e_lit, e_var, e_gl, e_bin, e_neg, e_not, e_cmp, e_chain, e_and, e_or, e_ite, e_tup, e_lst, e_ix, e_sl, e_call, e_callk, e_rng, e_pri, e_met, e_mk, e_mth, e_att, e_nil, e_cons, e_oN, e_oS, e_and1, e_and2, e_or1, e_or2, e_iE, e_iR, e_tV, e_tT, e_tS, e_tA, e_ts0, e_ts, e_if0, e_if1, r_to, r_toX, r_ofE, r_ofX, r_ofT, r_rets, r_retb, r_get0, r_getS, r_toB, v_non, v_bl, v_int, v_str, v_tup, v_lst, v_dic, h_lst, h_dic, h_ins, h_lck, q_non, q_bl, q_int, q_tup, q_lst, c_eqI, c_neI, c_eqS, c_neS, c_lt, c_le, c_gt, c_ge, b_add, b_sub, p_lenT, p_lenL, p_int, p_intB, p_abs, p_min, p_tupL, p_tupT, p_isStr, p_isTup, p_isInt, p_isBool, List.set_cons_zero, List.set_cons_succ, List.map_cons, List.map_nil, List.cons_append, List.nil_append, List.length_cons, List.length_nil, List.length_map, List.replicate, Option.map_some, Option.map_none, beq_self_eq_true, Bool.not_true, Bool.not_false]) (by rw [List.length_range]; exact lim' (by omega))
  have oh := own_head s t.tail
  have g3 : ∀ b S, callN src.pg (n + 5) 3 [tD t, .str s] b S = .ok (oneOf (placeN s t.tail)) S := fun b S => f3 hd
  have pk : pick [1, 0] D.non [.str s, tD t] = [tD t, .str s] := rfl
  have lkI := fun (r : Int) b S => like (Lk.int (n := 0) (i := r)) (n + 5) b S (by omega)
  have lkN := fun b S => like (Lk.non (n := 0)) (n + 5) b S (by omega)
  generalize (List.range t.tail.length).filter (fun r => t.tail.getD r [] == s) = own at key oh
  cases own with
  | nil =>
    have oh : none = placeN s t.tail := oh
    rw [← oh] at g3
    have g3 : ∀ b S, callN src.pg (n + 5) 3 [tD t, .str s] b S = .ok .non S := g3
    have z1 : decide ((0 : Int) < ((0 : Nat) : Int)) = false := rfl
    simp only [List.map_nil] at key
    refine ⟨w2, some (tD t), x12', some (.str s), some (.lst []), ?_⟩
    simp only [C9] at *
    simp only [b9_7, s_nil, s_cons, s_asg, s_asgc, s_par, s_expr, s_iff, s_fr, s_ret0, s_ret, s_brk, s_cnt, s_pass, n_nx, n_rt, n_bk, n_ct, n_ex, e_lit, e_var, e_gl, e_bin, e_neg, e_not, e_cmp, e_chain, e_and, e_or, e_ite, e_tup, e_lst, e_ix, e_sl, e_call, e_callk, e_rng, e_pri, e_met, e_mk, e_mth, e_att, e_nil, e_cons, e_oN, e_oS, e_and1, e_and2, e_or1, e_or2, e_iE, e_iR, e_tV, e_tT, e_tS, e_tA, e_ts0, e_ts, e_if0, e_if1, r_to, r_toX, r_ofE, r_ofX, r_ofT, r_rets, r_retb, r_get0, r_getS, r_toB, v_non, v_bl, v_int, v_str, v_tup, v_lst, v_dic, h_lst, h_dic, h_ins, h_lck, q_non, q_bl, q_int, q_tup, q_lst, c_eqI, c_neI, c_eqS, c_neS, c_lt, c_le, c_gt, c_ge, b_add, b_sub, p_lenT, p_lenL, p_int, p_intB, p_abs, p_min, p_tupL, p_tupT, p_isStr, p_isTup, p_isInt, p_isBool, List.set_cons_zero, List.set_cons_succ, List.map_cons, List.map_nil, List.cons_append, List.nil_append, List.length_cons, List.length_nil, List.length_map, List.replicate, Option.map_some, Option.map_none, beq_self_eq_true, Bool.not_true, Bool.not_false, p_lenRow, e1, v_row, ix, p_lenD, len_tl hd.ne, hI, f1, v_tD, ix_head hd.ne, nl6, e2, ixs, key, pk, g3, z1, lkN]
  | cons a r =>
    have oh : some a = placeN s t.tail := oh
    rw [← oh] at g3
    have g3 : ∀ b S, callN src.pg (n + 5) 3 [tD t, .str s] b S = .ok (.int (a : Int)) S := g3
    have z1 : decide ((0 : Int) < ((r.length + 1 : Nat) : Int)) = true := decide_eq_true (by omega)
    have ix0 : ∀ (x : D) l, index (.lst (x :: l)) (.int 0) = some x := fun x l => i_lstN (k := 0) rfl
    simp only [List.map_cons] at key
    refine ⟨w2, some (tD t), x12', some (.str s), some (.lst (.int (a : Int) :: r.map fun (k : Nat) => D.int (k : Int))), ?_⟩
    simp only [C9] at *
    simp only [b9_7, s_nil, s_cons, s_asg, s_asgc, s_par, s_expr, s_iff, s_fr, s_ret0, s_ret, s_brk, s_cnt, s_pass, n_nx, n_rt, n_bk, n_ct, n_ex, e_lit, e_var, e_gl, e_bin, e_neg, e_not, e_cmp, e_chain, e_and, e_or, e_ite, e_tup, e_lst, e_ix, e_sl, e_call, e_callk, e_rng, e_pri, e_met, e_mk, e_mth, e_att, e_nil, e_cons, e_oN, e_oS, e_and1, e_and2, e_or1, e_or2, e_iE, e_iR, e_tV, e_tT, e_tS, e_tA, e_ts0, e_ts, e_if0, e_if1, r_to, r_toX, r_ofE, r_ofX, r_ofT, r_rets, r_retb, r_get0, r_getS, r_toB, v_non, v_bl, v_int, v_str, v_tup, v_lst, v_dic, h_lst, h_dic, h_ins, h_lck, q_non, q_bl, q_int, q_tup, q_lst, c_eqI, c_neI, c_eqS, c_neS, c_lt, c_le, c_gt, c_ge, b_add, b_sub, p_lenT, p_lenL, p_int, p_intB, p_abs, p_min, p_tupL, p_tupT, p_isStr, p_isTup, p_isInt, p_isBool, List.set_cons_zero, List.set_cons_succ, List.map_cons, List.map_nil, List.cons_append, List.nil_append, List.length_cons, List.length_nil, List.length_map, List.replicate, Option.map_some, Option.map_none, beq_self_eq_true, Bool.not_true, Bool.not_false, p_lenRow, e1, v_row, ix, p_lenD, len_tl hd.ne, hI, f1, v_tD, ix_head hd.ne, nl6, e2, ixs, key, pk, g3, z1, ix0, lkI]
end
end Mi

namespace Mi
open PySem L2 PySem.Spec PyProof.Rows
section
variable {n b : Nat} {w : Bd} {J R S : Sto} {l : List (List (List Nat))}
theorem pSortd_tab {b : Nat} {m : Nat} {f : List (List (List Nat)) → Nat → List Nat → D} {ks : List (List Nat)} (h : D.val S (.ref m) = .dic (tab .str (f l l.length) ks)) (hk : ks.length ≤ 10) : prim b (.sortd false) [.ref m] S = .ok (.lst ((sortS ks).map .str)) S := by
  simp only [prim, pSortd, h, tab_keys, strsD_map]
  rw [if_pos (by omega), nl1 (by rw [List.length_map, sortS_len]; exact lim' (by omega))]; rfl
/-- all that is asked of a story -/
theorem asked (hl : OkRow l) : ∃ w', callN src.pg (n+6) 9 [.ref 2, rowD l] b (CS w J) = .ok (.bl true) (CS w' J) := by
  rw [callN_run (fd := ⟨2, 15, false, b9⟩) rfl rfl]
  have hle := hl.le
  obtain ⟨e1, S1, f1, y6, y7, y8, rfl, rfl⟩ := loop1 (n := n) (w := w) (J := J) hl (x0 := some (.ref 2)) (x6 := none) (x7 := none) (x8 := none) (x9 := none) (x10 := none) (x11 := none) (x12 := none) (x13 := none) (x14 := none)
  have eS : St9 w J l l.length = CS w (J ++ [.dic (tab .str (pv l l.length) (ddg (tails l))), .dic (tab .str (wv l l.length) (ddg (heads l))), .lst ((List.range l.length).map (kindD l)), .dct (tab tD (sv l l.length) (ddg l))]) := by
    unfold St9; rw [List.take_length]
  rw [eS] at f1
  have hF : (folk l) = sortS (ddg (tails l)) := rfl
  have hV : (verbs l) = sortS (ddg (heads l)) := rfl
  have lF : (ddg (tails l)).length ≤ 10 := dd_le (tails_po hl.de)
  have lV : (ddg (heads l)).length ≤ 10 := dd_le (heads_po hl.de)
  generalize hA : MO.dic (tab .str (pv l l.length) (ddg (tails l))) = A at f1
  generalize hB : MO.dic (tab .str (wv l l.length) (ddg (heads l))) = B at f1
  generalize hC : MO.dct (tab tD (sv l l.length) (ddg l)) = C at f1
  have v3 : D.val (CS w (J ++ [A, B, .lst ((List.range l.length).map (kindD l)), C])) (.ref (J.length + 3)) = .dic (tab .str (pv l l.length) (ddg (tails l))) := by rw [← hA]; exact cs_vald (k := 0) rfl
  have v4 : D.val (CS w (J ++ [A, B, .lst ((List.range l.length).map (kindD l)), C])) (.ref (J.length + 4)) = .dic (tab .str (wv l l.length) (ddg (heads l))) := by rw [← hB]; exact cs_vald (k := 1) rfl
  have so3 : ∀ b, prim b (.sortd false) [.ref (J.length + 3)] (CS w (J ++ [A, B, .lst ((List.range l.length).map (kindD l)), C])) = .ok (.lst ((folk l).map .str)) (CS w (J ++ [A, B, .lst ((List.range l.length).map (kindD l)), C])) := fun b => pSortd_tab v3 lF
  have so4 : ∀ b, prim b (.sortd false) [.ref (J.length + 4)] (CS w (J ++ [A, B, .lst ((List.range l.length).map (kindD l)), C])) = .ok (.lst ((verbs l).map .str)) (CS w (J ++ [A, B, .lst ((List.range l.length).map (kindD l)), C])) := fun b => pSortd_tab v4 lV
  have key := lc_all (c := C9 n J) (env := [some (.ref 2), some (rowD l), some (.ref (J.length + 3)), some (.ref (J.length + 4)), some (.ref (J.length + 5)), some (.ref (J.length + 6)), y6, y7, y8, none, none, none, none, none, none]) (S := CS w (J ++ [A, B, .lst ((List.range l.length).map (kindD l)), C])) (own := [10]) (tg := .var 10) (it := .e (.pri (.sortd false) [.var 3])) (e := e9_2)
    (verbs l) .str (verbD l) (fun p => [some (.ref 2), some (rowD l), some (.ref (J.length + 3)), some (.ref (J.length + 4)), some (.ref (J.length + 5)), some (.ref (J.length + 6)), y6, y7, y8, none, some (.str p), none, none, none, none])
    (by simp only [C9, wipeE, s_nil, s_cons, s_asg, s_asgc, s_par, s_expr, s_iff, s_fr, s_ret0, s_ret, s_brk, s_cnt, s_pass, n_nx, n_rt, n_bk, n_ct, n_ex, e_lit, e_var, e_gl, e_bin, e_neg, e_not, e_cmp, e_chain, e_and, e_or, e_ite, e_tup, e_lst, e_ix, e_sl, e_call, e_callk, e_rng, e_pri, e_met, e_mk, e_mth, e_att, e_nil, e_cons, e_oN, e_oS, e_and1, e_and2, e_or1, e_or2, e_iE, e_iR, e_tV, e_tT, e_tS, e_tA, e_ts0, e_ts, e_if0, e_if1, r_to, r_toX, r_ofE, r_ofX, r_ofT, r_rets, r_retb, r_get0, r_getS, r_toB, v_non, v_bl, v_int, v_str, v_tup, v_lst, v_dic, h_lst, h_dic, h_ins, h_lck, q_non, q_bl, q_int, q_tup, q_lst, c_eqI, c_neI, c_eqS, c_neS, c_lt, c_le, c_gt, c_ge, b_add, b_sub, p_lenT, p_lenL, p_int, p_intB, p_abs, p_min, p_tupL, p_tupT, p_isStr, p_isTup, p_isInt, p_isBool, List.set_cons_zero, List.set_cons_succ, List.map_cons, List.map_nil, List.cons_append, List.nil_append, List.length_cons, List.length_nil, List.length_map, List.replicate, Option.map_some, Option.map_none, beq_self_eq_true, Bool.not_true, Bool.not_false, so4, it_lst]) (fun p _ => by simp only [T.slots, wipeE, s_nil, s_cons, s_asg, s_asgc, s_par, s_expr, s_iff, s_fr, s_ret0, s_ret, s_brk, s_cnt, s_pass, n_nx, n_rt, n_bk, n_ct, n_ex, e_lit, e_var, e_gl, e_bin, e_neg, e_not, e_cmp, e_chain, e_and, e_or, e_ite, e_tup, e_lst, e_ix, e_sl, e_call, e_callk, e_rng, e_pri, e_met, e_mk, e_mth, e_att, e_nil, e_cons, e_oN, e_oS, e_and1, e_and2, e_or1, e_or2, e_iE, e_iR, e_tV, e_tT, e_tS, e_tA, e_ts0, e_ts, e_if0, e_if1, r_to, r_toX, r_ofE, r_ofX, r_ofT, r_rets, r_retb, r_get0, r_getS, r_toB, v_non, v_bl, v_int, v_str, v_tup, v_lst, v_dic, h_lst, h_dic, h_ins, h_lck, q_non, q_bl, q_int, q_tup, q_lst, c_eqI, c_neI, c_eqS, c_neS, c_lt, c_le, c_gt, c_ge, b_add, b_sub, p_lenT, p_lenL, p_int, p_intB, p_abs, p_min, p_tupL, p_tupT, p_isStr, p_isTup, p_isInt, p_isBool, List.set_cons_zero, List.set_cons_succ, List.map_cons, List.map_nil, List.cons_append, List.nil_append, List.length_cons, List.length_nil, List.length_map, List.replicate, Option.map_some, Option.map_none, beq_self_eq_true, Bool.not_true, Bool.not_false]) (fun p hp => by
      have hm' : p ∈ ddg (heads l) := sortS_mem _ hp
      have hm : (ddg (heads l)).contains p = true := by simpa using hm'
      have ix : index (.dic (tab .str (wv l l.length) (ddg (heads l)))) (.str p) = some (.int ((heads l).count p : Nat)) := by
        show getD (.str p) _ = _
        rw [tab_get kStr, if_pos hm, wv, List.take_length]
      simp only [e9_2, C9, s_nil, s_cons, s_asg, s_asgc, s_par, s_expr, s_iff, s_fr, s_ret0, s_ret, s_brk, s_cnt, s_pass, n_nx, n_rt, n_bk, n_ct, n_ex, e_lit, e_var, e_gl, e_bin, e_neg, e_not, e_cmp, e_chain, e_and, e_or, e_ite, e_tup, e_lst, e_ix, e_sl, e_call, e_callk, e_rng, e_pri, e_met, e_mk, e_mth, e_att, e_nil, e_cons, e_oN, e_oS, e_and1, e_and2, e_or1, e_or2, e_iE, e_iR, e_tV, e_tT, e_tS, e_tA, e_ts0, e_ts, e_if0, e_if1, r_to, r_toX, r_ofE, r_ofX, r_ofT, r_rets, r_retb, r_get0, r_getS, r_toB, v_non, v_bl, v_int, v_str, v_tup, v_lst, v_dic, h_lst, h_dic, h_ins, h_lck, q_non, q_bl, q_int, q_tup, q_lst, c_eqI, c_neI, c_eqS, c_neS, c_lt, c_le, c_gt, c_ge, b_add, b_sub, p_lenT, p_lenL, p_int, p_intB, p_abs, p_min, p_tupL, p_tupT, p_isStr, p_isTup, p_isInt, p_isBool, List.set_cons_zero, List.set_cons_succ, List.map_cons, List.map_nil, List.cons_append, List.nil_append, List.length_cons, List.length_nil, List.length_map, List.replicate, Option.map_some, Option.map_none, beq_self_eq_true, Bool.not_true, Bool.not_false, v4, ix, lm2, if_true]; rfl) (lim' (Nat.le_trans (verbs_le hl) (by decide)))
  have tk : ∀ b, prim b .tuple [.ref (J.length + 5)] (CS w (J ++ [A, B, .lst ((List.range l.length).map (kindD l)), C])) = .ok (.tup ((List.range l.length).map (kindD l))) (CS w (J ++ [A, B, .lst ((List.range l.length).map (kindD l)), C])) := fun b => p_tupR (cs_get (k := 2) rfl)
  have g0 : ∀ b S, callN src.pg (n + 5) 0 [rowD l] b S = .ok (.tup ((folk l).map .str)) S := fun b S => f0 hl
  have g1 : ∀ b S, callN src.pg (n + 5) 1 [rowD l] b S = .ok (.tup ((verbs l).map (verbD l))) S := fun b S => Mi.f1 hl
  have g4 : ∀ b S, callN src.pg (n + 5) 4 [rowD l] b S = .ok (.tup ((List.range l.length).map (kindD l))) S := fun b S => f4 hl
  have lk := fun b S => like (lk_due hl) (n + 5) b S (by omega)
  have hfz : freeze (.ref (J.length + 3)) (CS w (J ++ [A, B, .lst ((List.range l.length).map (kindD l)), C])) = .ok (.dic (tab .str (pv l l.length) (ddg (tails l)))) (CS w (J ++ [.dead, B, .lst ((List.range l.length).map (kindD l)), C])) := by
    rw [freeze_pv (l := l) (m := l.length) (ks := ddg (tails l)) (by rw [hA]; exact cs_get (k := 0) rfl), show J.length + 3 = J.length + (0 + 3) from rfl, cs_set]; rfl
  obtain ⟨e2, f2, z8, rfl⟩ := loop2 (n := n) (J := J) (S := CS w (J ++ [.dead, B, .lst ((List.range l.length).map (kindD l)), C])) hl (x0 := some (.ref 2)) (x3 := some (.ref (J.length + 4))) (x4 := some (.ref (J.length + 5))) (x5 := some (.ref (J.length + 6))) (x6 := y6) (x7 := y7) (x8 := y8) (x9 := some (dueD l)) (x10 := none) (x11 := none) (x12 := none) (x13 := none) (x14 := none)
  obtain ⟨m, hm, hm2⟩ : ∃ m : Nat, (if (l.length : Int) < 6 then (l.length : Int) else 6) = (m : Int) ∧ (0 < m → 0 < l.length) ∧ m ≤ 6 := by
    split
    · exact ⟨l.length, rfl, id, by omega⟩
    · exact ⟨6, rfl, fun _ => by omega, by omega⟩
  obtain ⟨e3, S3, f3, w3, z7, z11, z12, z13, z14, rfl, rfl⟩ := frW_inv (c := C9 n J) (tg := .var 11) (B := b9_7) (env := [some (.ref 2), some (rowD l), some (.dic (tab .str (pv l l.length) (ddg (tails l)))), some (.ref (J.length + 4)), some (.ref (J.length + 5)), some (.ref (J.length + 6)), y6, y7, z8, some (dueD l), none, none, none, none, none]) (S := CS w (J ++ [.dead, B, .lst ((List.range l.length).map (kindD l)), C])) (items := rangeOf 0 m)
    (fun i e S => ∃ w x7 x11 x12 x13 x14, e = [some (.ref 2), some (rowD l), some (.dic (tab .str (pv l l.length) (ddg (tails l)))), some (.ref (J.length + 4)), some (.ref (J.length + 5)), some (.ref (J.length + 6)), y6, x7, z8, some (dueD l), none, x11, x12, x13, x14] ∧ S = CS w (J ++ [.dead, B, .lst ((List.range l.length).map (kindD l)), C])) ⟨_, _, _, _, _, _, rfl, rfl⟩ (fun i d e S hd ⟨w, x7, x11, x12, x13, x14, he, hS⟩ => by
      subst he; subst hS
      obtain ⟨rfl, hk⟩ := rangeOf_get hd
      obtain ⟨w', x7', x12', x13', x14', hx⟩ := lap7 (n := n) (w := w) (J := J) (J' := J ++ [.dead, B, .lst ((List.range l.length).map (kindD l)), C]) hl (hm2.1 (by omega)) (x2 := some (.dic (tab .str (pv l l.length) (ddg (tails l))))) (x3 := some (.ref (J.length + 4))) (x4 := some (.ref (J.length + 5))) (x5 := some (.ref (J.length + 6))) (x6 := y6) (x7 := x7) (x8 := z8) (x9 := some (dueD l)) (x10 := none) (x11 := some (.int (i : Int))) (x12 := x12) (x13 := x13) (x14 := x14)
      refine ⟨_, _, .inl ?_, w', x7', some (.int (i : Int)), x12', x13', x14', rfl, rfl⟩
      simp only [s_nil, s_cons, s_asg, s_asgc, s_par, s_expr, s_iff, s_fr, s_ret0, s_ret, s_brk, s_cnt, s_pass, n_nx, n_rt, n_bk, n_ct, n_ex, e_lit, e_var, e_gl, e_bin, e_neg, e_not, e_cmp, e_chain, e_and, e_or, e_ite, e_tup, e_lst, e_ix, e_sl, e_call, e_callk, e_rng, e_pri, e_met, e_mk, e_mth, e_att, e_nil, e_cons, e_oN, e_oS, e_and1, e_and2, e_or1, e_or2, e_iE, e_iR, e_tV, e_tT, e_tS, e_tA, e_ts0, e_ts, e_if0, e_if1, r_to, r_toX, r_ofE, r_ofX, r_ofT, r_rets, r_retb, r_get0, r_getS, r_toB, v_non, v_bl, v_int, v_str, v_tup, v_lst, v_dic, h_lst, h_dic, h_ins, h_lck, q_non, q_bl, q_int, q_tup, q_lst, c_eqI, c_neI, c_eqS, c_neS, c_lt, c_le, c_gt, c_ge, b_add, b_sub, p_lenT, p_lenL, p_int, p_intB, p_abs, p_min, p_tupL, p_tupT, p_isStr, p_isTup, p_isInt, p_isBool, List.set_cons_zero, List.set_cons_succ, List.map_cons, List.map_nil, List.cons_append, List.nil_append, List.length_cons, List.length_nil, List.length_map, List.replicate, Option.map_some, Option.map_none, beq_self_eq_true, Bool.not_true, Bool.not_false, Int.zero_add, hx])
  have hI : ∀ S, rngI [.int (l.length : Int)] S = .ok (rangeOf 0 l.length, none) S := fun S => rngI1 (by omega) (by omega)
  have hI2 : ∀ S, rngI [.int (m : Int)] S = .ok (rangeOf 0 m, none) S := fun S => rngI1 (by omega) (by omega)
  have nd : ∀ S, newD true (noEx (Rs.ok [] S)) = .ok (.ref S.length) (S ++ [.dic []]) := fun _ => rfl
  have nw : ∀ X : Sto, (CS w (J ++ X)).length = J.length + (X.length + 3) := fun X => by
    rw [cs_len, List.length_append]; omega
  have nwa : ∀ (X : Sto) y, CS w (J ++ X) ++ [y] = CS w (J ++ (X ++ [y])) := fun X y => by rw [cs_new, List.append_assoc]
  have n0 : ev (C9 n J) (.tup [.dic true [], .dic true [], .lst true [], .dct]) [some (.ref 2), some (rowD l), none, none, none, none, none, none, none, none, none, none, none, none, none] (CS w J) = .ok (.tup [.ref (J.length + 3), .ref (J.length + 4), .ref (J.length + 5), .ref (J.length + 6)]) (CS w (J ++ [.dic [], .dic [], .lst [], .dct []])) := by
    have e0 : CS w J ++ [MO.dic []] = CS w (J ++ [.dic []]) := rfl
    have l4 : (0 + 1 + 1 + 1 + 1 ≤ sizeLim) = True := eq_true (by decide)
    simp only [s_nil, s_cons, s_asg, s_asgc, s_par, s_expr, s_iff, s_fr, s_ret0, s_ret, s_brk, s_cnt, s_pass, n_nx, n_rt, n_bk, n_ct, n_ex, e_lit, e_var, e_gl, e_bin, e_neg, e_not, e_cmp, e_chain, e_and, e_or, e_ite, e_tup, e_lst, e_ix, e_sl, e_call, e_callk, e_rng, e_pri, e_met, e_mk, e_mth, e_att, e_nil, e_cons, e_oN, e_oS, e_and1, e_and2, e_or1, e_or2, e_iE, e_iR, e_tV, e_tT, e_tS, e_tA, e_ts0, e_ts, e_if0, e_if1, r_to, r_toX, r_ofE, r_ofX, r_ofT, r_rets, r_retb, r_get0, r_getS, r_toB, v_non, v_bl, v_int, v_str, v_tup, v_lst, v_dic, h_lst, h_dic, h_ins, h_lck, q_non, q_bl, q_int, q_tup, q_lst, c_eqI, c_neI, c_eqS, c_neS, c_lt, c_le, c_gt, c_ge, b_add, b_sub, p_lenT, p_lenL, p_int, p_intB, p_abs, p_min, p_tupL, p_tupT, p_isStr, p_isTup, p_isInt, p_isBool, List.set_cons_zero, List.set_cons_succ, List.map_cons, List.map_nil, List.cons_append, List.nil_append, List.length_cons, List.length_nil, List.length_map, List.replicate, Option.map_some, Option.map_none, beq_self_eq_true, Bool.not_true, Bool.not_false, e_dic, e_dct, nd, nl0, e0, nw, nwa, cs_len, l4, if_true]
  have lm3 : (0 + 1 + 1 + 1 ≤ sizeLim) = True := eq_true (by decide)
  refine ⟨w3, (runF_rt (S1 := CS w3 (J ++ [.dead, B, .lst ((List.range l.length).map (kindD l)), C])) (d := .bl true) ?_).trans (by rw [fin_ok l_bl, cs_take (w := w)])⟩
  show exs (C9 n J) b9 [some (.ref 2), some (rowD l), none, none, none, none, none, none, none, none, none, none, none, none, none] _ = _
  generalize hE : E.tup [.dic true [], .dic true [], .lst true [], .dct] = EE at n0
  have dueE : dueD l = .tup [.tup ((folk l).map .str), .tup ((verbs l).map (verbD l)), .tup ((List.range l.length).map (kindD l))] := rfl
  rw [dueE] at lk f2 f3
  have kk : ∀ S, evI (C9 n J) (.keys (.var 2)) [some (.ref 2), some (rowD l), some (.dic (tab .str (pv l l.length) (ddg (tails l)))), some (.ref (J.length + 4)), some (.ref (J.length + 5)), some (.ref (J.length + 6)), y6, y7, y8, some (.tup [.tup ((folk l).map .str), .tup ((verbs l).map (verbD l)), .tup ((List.range l.length).map (kindD l))]), none, none, none, none, none] S = .ok ((ddg (tails l)).map .str, none) S := fun S => by
    simp only [e_iK, s_nil, s_cons, s_asg, s_asgc, s_par, s_expr, s_iff, s_fr, s_ret0, s_ret, s_brk, s_cnt, s_pass, n_nx, n_rt, n_bk, n_ct, n_ex, e_lit, e_var, e_gl, e_bin, e_neg, e_not, e_cmp, e_chain, e_and, e_or, e_ite, e_tup, e_lst, e_ix, e_sl, e_call, e_callk, e_rng, e_pri, e_met, e_mk, e_mth, e_att, e_nil, e_cons, e_oN, e_oS, e_and1, e_and2, e_or1, e_or2, e_iE, e_iR, e_tV, e_tT, e_tS, e_tA, e_ts0, e_ts, e_if0, e_if1, r_to, r_toX, r_ofE, r_ofX, r_ofT, r_rets, r_retb, r_get0, r_getS, r_toB, v_non, v_bl, v_int, v_str, v_tup, v_lst, v_dic, h_lst, h_dic, h_ins, h_lck, q_non, q_bl, q_int, q_tup, q_lst, c_eqI, c_neI, c_eqS, c_neS, c_lt, c_le, c_gt, c_ge, b_add, b_sub, p_lenT, p_lenL, p_int, p_intB, p_abs, p_min, p_tupL, p_tupT, p_isStr, p_isTup, p_isInt, p_isBool, List.set_cons_zero, List.set_cons_succ, List.map_cons, List.map_nil, List.cons_append, List.nil_append, List.length_cons, List.length_nil, List.length_map, List.replicate, Option.map_some, Option.map_none, beq_self_eq_true, Bool.not_true, Bool.not_false, tab_keys]
  simp only [C9] at *
  simp only [b9, s_nil, s_cons, s_asg, s_asgc, s_par, s_expr, s_iff, s_fr, s_ret0, s_ret, s_brk, s_cnt, s_pass, n_nx, n_rt, n_bk, n_ct, n_ex, e_lit, e_var, e_gl, e_bin, e_neg, e_not, e_cmp, e_chain, e_and, e_or, e_ite, e_tup, e_lst, e_ix, e_sl, e_call, e_callk, e_rng, e_pri, e_met, e_mk, e_mth, e_att, e_nil, e_cons, e_oN, e_oS, e_and1, e_and2, e_or1, e_or2, e_iE, e_iR, e_tV, e_tT, e_tS, e_tA, e_ts0, e_ts, e_if0, e_if1, r_to, r_toX, r_ofE, r_ofX, r_ofT, r_rets, r_retb, r_get0, r_getS, r_toB, v_non, v_bl, v_int, v_str, v_tup, v_lst, v_dic, h_lst, h_dic, h_ins, h_lck, q_non, q_bl, q_int, q_tup, q_lst, c_eqI, c_neI, c_eqS, c_neS, c_lt, c_le, c_gt, c_ge, b_add, b_sub, p_lenT, p_lenL, p_int, p_intB, p_abs, p_min, p_tupL, p_tupT, p_isStr, p_isTup, p_isInt, p_isBool, List.set_cons_zero, List.set_cons_succ, List.map_cons, List.map_nil, List.cons_append, List.nil_append, List.length_cons, List.length_nil, List.length_map, List.replicate, Option.map_some, Option.map_none, beq_self_eq_true, Bool.not_true, Bool.not_false, hE, n0, p_lenRow, hI, f1, so3, key, tk, lm3, if_true, g0, g1, g4, lk, s_frz, hfz, kk, f2, hm, hI2, f3]
end
end Mi

namespace Mi
open PySem L2 PySem.Spec PyProof.Rows
theorem hand (n b : Nat) (o1 o2 o3 : MO) : callN src.pg (n+7) 10 [] b [o1, o2, o3] = .ok (.bl true) [o1, o2, o3] := by kernel_rfl
theorem law_true : ∀ ns : List Int, ns.length ≤ 63 → ∃ S', callN src.pg 16 11 [.lst (ns.map .int)] 0 [] = .ok (.bl true) S' := by
  intro ns hn
  obtain ⟨w0, e5⟩ := string (n := 14) hn
  have e10 : callN src.pg 15 10 [] 0 (CS w0 []) = .ok (.bl true) (CS w0 []) := hand 8 0 _ _ _
  have go2 : ∀ (w : Bd) (k : Nat), k < 63 → ∃ l w1 w2, callN src.pg 15 7 [.ref 2, .int (k : Int)] 0 (CS w []) = .ok (rowD l) (CS w1 []) ∧ callN src.pg 15 9 [.ref 2, rowD l] 0 (CS w1 []) = .ok (.bl true) (CS w2 []) := fun w k hk => by
    obtain ⟨l, w1, h1, h2, h3⟩ := story (n := 13) (b := 0) (w := w) (J := []) (many := k) hk
    obtain ⟨w2, h4⟩ := asked (n := 9) (b := 0) (w := w1) (J := []) (l := l) ⟨by omega, h3⟩
    exact ⟨l, w1, w2, h1, h4⟩
  obtain ⟨e1, S1, f1, y2, w1, rfl, rfl⟩ := frW_inv (c := ⟨callN src.pg 15, src.pg.mth, src.pg.gl, 0, src.pg.fuel⟩) (tg := .var 2) (B := b11_0) (env := [some (.lst (ns.map .int)), some (.ref 2), none]) (S := CS w0 []) (items := rangeOf 0 4)
    (fun i e S => ∃ x w, e = [some (.lst (ns.map .int)), some (.ref 2), x] ∧ S = CS w []) ⟨_, _, rfl, rfl⟩ (fun i d e S hd ⟨x, w, he, hS⟩ => by
      subst he; subst hS
      obtain ⟨rfl, hi⟩ := rangeOf_get hd
      obtain ⟨v, w2, e6, v0, v9⟩ := tick (n := 14) (b := 0) (w := w) (J := []) (many := 9) (by decide)
      obtain ⟨k, rfl⟩ := natOf v0
      obtain ⟨l, w3, w4, e7, e9⟩ := go2 w2 k (by omega)
      have e6 : callN src.pg 15 6 [.ref 2, .int 9] 0 (CS w []) = _ := e6
      refine ⟨_, _, .inl ?_, some (.int (0 + (i : Int))), w4, rfl, rfl⟩
      simp only [b11_0, s_nil, s_cons, s_asg, s_asgc, s_par, s_expr, s_iff, s_fr, s_ret0, s_ret, s_brk, s_cnt, s_pass, n_nx, n_rt, n_bk, n_ct, n_ex, e_lit, e_var, e_gl, e_bin, e_neg, e_not, e_cmp, e_chain, e_and, e_or, e_ite, e_tup, e_lst, e_ix, e_sl, e_call, e_callk, e_rng, e_pri, e_met, e_mk, e_mth, e_att, e_nil, e_cons, e_oN, e_oS, e_and1, e_and2, e_or1, e_or2, e_iE, e_iR, e_tV, e_tT, e_tS, e_tA, e_ts0, e_ts, e_if0, e_if1, r_to, r_toX, r_ofE, r_ofX, r_ofT, r_rets, r_retb, r_get0, r_getS, r_toB, v_non, v_bl, v_int, v_str, v_tup, v_lst, v_dic, h_lst, h_dic, h_ins, h_lck, q_non, q_bl, q_int, q_tup, q_lst, c_eqI, c_neI, c_eqS, c_neS, c_lt, c_le, c_gt, c_ge, b_add, b_sub, p_lenT, p_lenL, p_int, p_intB, p_abs, p_min, p_tupL, p_tupT, p_isStr, p_isTup, p_isInt, p_isBool, List.set_cons_zero, List.set_cons_succ, List.map_cons, List.map_nil, List.cons_append, List.nil_append, List.length_cons, List.length_nil, List.length_map, List.replicate, Option.map_some, Option.map_none, beq_self_eq_true, Bool.not_true, Bool.not_false, e6, e7, e9])
  have hI : ∀ S, rngI [.int 4] S = .ok (rangeOf 0 4, none) S := fun S => rngI1 (by omega) (by omega)
  obtain ⟨v, w2, e6, v0, v9⟩ := tick (n := 14) (b := 0) (w := w1) (J := []) (many := 13) (by decide)
  have e6 : callN src.pg 15 6 [.ref 2, .int 13] 0 (CS w1 []) = _ := e6
  have e5 : callN src.pg 15 5 [.lst (ns.map .int)] 0 [] = _ := e5
  have go : ∀ d S1, exs ⟨callN src.pg 15, src.pg.mth, src.pg.gl, 0, src.pg.fuel⟩ b11 [some (.lst (ns.map .int)), none, none] [] = .rt d S1 → d.lt 0 = true → callN src.pg 16 11 [.lst (ns.map .int)] 0 [] = .ok d (S1.take 0) := fun d S1 h hd => by
    rw [callN_run (fd := ⟨1, 3, false, b11⟩) rfl rfl]
    exact (runF_rt h).trans (fin_ok hd)
  by_cases c : v = 6
  · subst c
    obtain ⟨l, w3, w4, e7, e9⟩ := go2 w2 60 (by omega)
    have e7 : callN src.pg 15 7 [.ref 2, .int 60] 0 (CS w2 []) = _ := e7
    refine ⟨_, go (.bl true) (CS w4 []) ?_ rfl⟩
    simp only [b11, s_nil, s_cons, s_asg, s_asgc, s_par, s_expr, s_iff, s_fr, s_ret0, s_ret, s_brk, s_cnt, s_pass, n_nx, n_rt, n_bk, n_ct, n_ex, e_lit, e_var, e_gl, e_bin, e_neg, e_not, e_cmp, e_chain, e_and, e_or, e_ite, e_tup, e_lst, e_ix, e_sl, e_call, e_callk, e_rng, e_pri, e_met, e_mk, e_mth, e_att, e_nil, e_cons, e_oN, e_oS, e_and1, e_and2, e_or1, e_or2, e_iE, e_iR, e_tV, e_tT, e_tS, e_tA, e_ts0, e_ts, e_if0, e_if1, r_to, r_toX, r_ofE, r_ofX, r_ofT, r_rets, r_retb, r_get0, r_getS, r_toB, v_non, v_bl, v_int, v_str, v_tup, v_lst, v_dic, h_lst, h_dic, h_ins, h_lck, q_non, q_bl, q_int, q_tup, q_lst, c_eqI, c_neI, c_eqS, c_neS, c_lt, c_le, c_gt, c_ge, b_add, b_sub, p_lenT, p_lenL, p_int, p_intB, p_abs, p_min, p_tupL, p_tupT, p_isStr, p_isTup, p_isInt, p_isBool, List.set_cons_zero, List.set_cons_succ, List.map_cons, List.map_nil, List.cons_append, List.nil_append, List.length_cons, List.length_nil, List.length_map, List.replicate, Option.map_some, Option.map_none, beq_self_eq_true, Bool.not_true, Bool.not_false, e5, e10, hI, f1, e6, e7, e9]
  · have hc := beq_eq_false_iff_ne.mpr c
    refine ⟨_, go (.bl true) (CS w2 []) ?_ rfl⟩
    simp only [b11, s_nil, s_cons, s_asg, s_asgc, s_par, s_expr, s_iff, s_fr, s_ret0, s_ret, s_brk, s_cnt, s_pass, n_nx, n_rt, n_bk, n_ct, n_ex, e_lit, e_var, e_gl, e_bin, e_neg, e_not, e_cmp, e_chain, e_and, e_or, e_ite, e_tup, e_lst, e_ix, e_sl, e_call, e_callk, e_rng, e_pri, e_met, e_mk, e_mth, e_att, e_nil, e_cons, e_oN, e_oS, e_and1, e_and2, e_or1, e_or2, e_iE, e_iR, e_tV, e_tT, e_tS, e_tA, e_ts0, e_ts, e_if0, e_if1, r_to, r_toX, r_ofE, r_ofX, r_ofT, r_rets, r_retb, r_get0, r_getS, r_toB, v_non, v_bl, v_int, v_str, v_tup, v_lst, v_dic, h_lst, h_dic, h_ins, h_lck, q_non, q_bl, q_int, q_tup, q_lst, c_eqI, c_neI, c_eqS, c_neS, c_lt, c_le, c_gt, c_ge, b_add, b_sub, p_lenT, p_lenL, p_int, p_intB, p_abs, p_min, p_tupL, p_tupT, p_isStr, p_isTup, p_isInt, p_isBool, List.set_cons_zero, List.set_cons_succ, List.map_cons, List.map_nil, List.cons_append, List.nil_append, List.length_cons, List.length_nil, List.length_map, List.replicate, Option.map_some, Option.map_none, beq_self_eq_true, Bool.not_true, Bool.not_false, e5, e10, hI, f1, e6, hc]
end Mi

open PySem PySem.W PyProof.Rows
set_option maxRecDepth 100000 in
set_option maxHeartbeats 0 in
theorem PySem.Challenge.cw_samestory_k01_facts_of_stories_holds : PySem.Challenge.rw_samestory_k01_facts_of_stories.Holds := by
  w_on; o_law; k_head; (case hw => w_witness2)
  k_fill
  refine Mi.mi_walk (l := PySem.Challenge.rw_samestory_k01_facts_of_stories) (k := Mi.lev 16) rfl rfl ⟨rfl, by decide, by decide⟩ (fun w h Y => PySem.W.kIn_of Y) ?F
  case F =>
    intro w mg fa h KX G hmg
    refine' Mi.all_mk KX G hmg ?a0 ?l0 ?c0 ?k0 ?a1 ?l1 ?c1 ?k1 ?a2 ?l2 ?c2 ?k2 ?a3 ?l3 ?c3 ?k3 ?a4 ?l4 ?c4 ?k4 ?a5 ?l5 ?c5 ?k5 ?a6 ?l6 ?c6 ?k6 ?a7 ?l7 ?c7 ?k7 ?a8 ?l8 ?c8 ?k8 ?a9 ?l9 ?c9 ?k9 ?a10 ?l10 ?c10 ?k10 ?a11 ?l11 ?c11 ?k11 ?z0 ?z1 ?z2 ?z3 ?z4 ?z5 ?z6 ?z7 ?z8 ?z9 ?z10 ?z11 ?z12 Mi.law_true
    (case a0 => k_is)
    (case a1 => k_is)
    (case a2 => k_is)
    (case a3 => k_is)
    (case a4 => k_is)
    (case a5 => k_is)
    (case a6 => k_is)
    (case a7 => k_is)
    (case a8 => k_is)
    (case a9 => k_is)
    (case a10 => k_is)
    (case a11 => k_is)
    (case l0 => k_is)
    (case c0 => k_is)
    (case k0 => k_is)
    (case l1 => k_is)
    (case c1 => k_is)
    (case k1 => k_is)
    (case l2 => k_is)
    (case c2 => k_is)
    (case k2 => k_is)
    (case l3 => k_is)
    (case c3 => k_is)
    (case k3 => k_is)
    (case l4 => k_is)
    (case c4 => k_is)
    (case k4 => k_is)
    (case l5 => k_is)
    (case c5 => k_is)
    (case k5 => k_is)
    (case l6 => k_is)
    (case c6 => k_is)
    (case k6 => k_is)
    (case l7 => k_is)
    (case c7 => k_is)
    (case k7 => k_is)
    (case l8 => k_is)
    (case c8 => k_is)
    (case k8 => k_is)
    (case l9 => k_is)
    (case c9 => k_is)
    (case k9 => k_is)
    (case l10 => k_is)
    (case c10 => k_is)
    (case k10 => k_is)
    (case l11 => k_is)
    (case c11 => k_is)
    (case k11 => k_is)
    (case z0 => k_is)
    (case z1 => k_is)
    (case z2 => k_is)
    (case z3 => k_is)
    (case z4 => k_is)
    (case z5 => k_is)
    (case z6 => k_is)
    (case z7 => k_is)
    (case z8 => k_is)
    (case z9 => k_is)
    (case z10 => k_is)
    (case z11 => k_is)
    (case z12 => k_is)
