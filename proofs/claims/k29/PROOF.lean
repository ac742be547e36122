import PyProof.Rows.All
import PySem.Str
import HandS.ForMost
import HandS.Exc
import HandS.CallSlots
import HandS.TupAny
import HandS.Flow
import HandS.Deep
import HandS.Style
import HandS.Small
import KE.SortData
import HandS.WordsExc
import HandS.Rev
import HandS.More
import PySem.Challenge.RW_patchyard_k29_rights_that_grow_and_shrin
set_option Elab.async false
set_option linter.all false
set_option maxRecDepth 100000
set_option maxHeartbeats 2000000
set_option autoImplicit false

section
namespace D
open PySem (Str)

/-- values: tuples, frozen lists and frozen dicts by value; mutable things by number -/
inductive AV where
  | non
  | bl (b : Bool)
  | int (i : Int)
  | str (s : Str)
  | tup (xs : List AV)
  | lst (xs : List AV)
  | dct (kvs : List (AV × AV))
  | ref (i : Nat)
  | ro (xs : List AV)
  deriving Inhabited

/-- mutable things -/
inductive AO where
  | lst (xs : List AV)
  | dct (kvs : List (AV × AV))
  | ins (c : Nat) (fs : List (Str × AV))
  deriving Inhabited

abbrev AH := List AO
abbrev AS := List (Option AV)
abbrev XF := Option (List (Str × AV))

inductive ER where
  | ok (v : AV) (h : AH)
  | exc (c : Nat) (f : XF) (h : AH)
  | stuck
inductive LR where
  | ok (vs : List AV) (h : AH)
  | exc (c : Nat) (f : XF) (h : AH)
  | stuck
inductive SR where
  | nx (s : AS) (h : AH)
  | rt (v : AV) (h : AH)
  | bk (s : AS) (h : AH)
  | ct (s : AS) (h : AH)
  | exc (c : Nat) (f : XF) (s : AS) (h : AH)
  | stuck

abbrev EV := AS → AH → ER
abbrev LV := AS → AH → LR
abbrev SV := AS → AH → SR
abbrev FV := List AV → AH → ER

def ER.bind (r : ER) (k : AV → AH → ER) : ER :=
  match r with | .ok v h => k v h | .exc c f h => .exc c f h | .stuck => .stuck
def ER.bindL (r : ER) (k : AV → AH → LR) : LR :=
  match r with | .ok v h => k v h | .exc c f h => .exc c f h | .stuck => .stuck
def LR.bind (r : LR) (k : List AV → AH → ER) : ER :=
  match r with | .ok v h => k v h | .exc c f h => .exc c f h | .stuck => .stuck
def LR.bindL (r : LR) (k : List AV → AH → LR) : LR :=
  match r with | .ok v h => k v h | .exc c f h => .exc c f h | .stuck => .stuck
def ER.toS (r : ER) (s : AS) (k : AV → AH → SR) : SR :=
  match r with | .ok v h => k v h | .exc c f h => .exc c f s h | .stuck => .stuck
def LR.toS (r : LR) (s : AS) (k : List AV → AH → SR) : SR :=
  match r with | .ok v h => k v h | .exc c f h => .exc c f s h | .stuck => .stuck

@[simp] theorem ER.bind_ok (v : AV) (h : AH) (k : AV → AH → ER) : (ER.ok v h).bind k = k v h := rfl
@[simp] theorem ER.bind_exc (c : Nat) (f : XF) (h : AH) (k : AV → AH → ER) : (ER.exc c f h).bind k = .exc c f h := rfl
@[simp] theorem ER.bind_stuck (k : AV → AH → ER) : ER.stuck.bind k = .stuck := rfl
@[simp] theorem ER.bindL_ok (v : AV) (h : AH) (k : AV → AH → LR) : (ER.ok v h).bindL k = k v h := rfl
@[simp] theorem ER.bindL_exc (c : Nat) (f : XF) (h : AH) (k : AV → AH → LR) : (ER.exc c f h).bindL k = .exc c f h := rfl
@[simp] theorem ER.bindL_stuck (k : AV → AH → LR) : ER.stuck.bindL k = .stuck := rfl
@[simp] theorem LR.bind_ok (v : List AV) (h : AH) (k : List AV → AH → ER) : (LR.ok v h).bind k = k v h := rfl
@[simp] theorem LR.bind_exc (c : Nat) (f : XF) (h : AH) (k : List AV → AH → ER) : (LR.exc c f h).bind k = .exc c f h := rfl
@[simp] theorem LR.bind_stuck (k : List AV → AH → ER) : LR.stuck.bind k = .stuck := rfl
@[simp] theorem LR.bindL_ok (v : List AV) (h : AH) (k : List AV → AH → LR) : (LR.ok v h).bindL k = k v h := rfl
@[simp] theorem LR.bindL_exc (c : Nat) (f : XF) (h : AH) (k : List AV → AH → LR) : (LR.exc c f h).bindL k = .exc c f h := rfl
@[simp] theorem LR.bindL_stuck (k : List AV → AH → LR) : LR.stuck.bindL k = .stuck := rfl
@[simp] theorem ER.toS_ok (v : AV) (h : AH) (s : AS) (k : AV → AH → SR) : (ER.ok v h).toS s k = k v h := rfl
@[simp] theorem ER.toS_exc (c : Nat) (f : XF) (h : AH) (s : AS) (k : AV → AH → SR) : (ER.exc c f h).toS s k = .exc c f s h := rfl
@[simp] theorem ER.toS_stuck (s : AS) (k : AV → AH → SR) : ER.stuck.toS s k = .stuck := rfl
@[simp] theorem LR.toS_ok (v : List AV) (h : AH) (s : AS) (k : List AV → AH → SR) : (LR.ok v h).toS s k = k v h := rfl
@[simp] theorem LR.toS_exc (c : Nat) (f : XF) (h : AH) (s : AS) (k : List AV → AH → SR) : (LR.exc c f h).toS s k = .exc c f s h := rfl
@[simp] theorem LR.toS_stuck (s : AS) (k : List AV → AH → SR) : LR.stuck.toS s k = .stuck := rfl

/-- the greatest length of a list, a text -/
def LIM : Nat := 16777216

/-- the items of a list, frozen or in the heap -/
def lv (h : AH) : AV → Option (List AV)
  | .lst xs => some xs
  | .ref i => match h[i]? with | some (.lst xs) => some xs | _ => none
  | _ => none
/-- .. or the script -/
def rl (h : AH) : AV → Option (List AV)
  | .ro xs => some xs
  | o => lv h o
def dv (h : AH) : AV → Option (List (AV × AV))
  | .dct kvs => some kvs
  | .ref i => match h[i]? with | some (.dct kvs) => some kvs | _ => none
  | _ => none

mutual
def AV.eq : AV → AV → Bool
  | .non, .non => true
  | .bl a, .bl b => a == b
  | .bl a, .int j => (if a then 1 else 0) == j
  | .int i, .bl b => i == (if b then 1 else 0)
  | .int i, .int j => i == j
  | .str x, .str y => x == y
  | .lst xs, .lst ys => AV.eqL xs ys
  | .tup xs, .tup ys => AV.eqL xs ys
  | _, _ => false
def AV.eqL : List AV → List AV → Bool
  | [], [] => true
  | x :: xs, y :: ys => AV.eq x y && AV.eqL xs ys
  | _, _ => false
end
/-- a text of code points -/
def sOk (s : Str) : Bool := s.cps.all (· < 0x110000)
/-- data (no mutable things, no dicts) no deeper than so -/
def AV.dl : Nat → AV → Bool
  | _, .non => true
  | _, .bl _ => true
  | _, .int _ => true
  | _, .str s => sOk s
  | n + 1, .tup xs => xs.all (AV.dl n)
  | n + 1, .lst xs => xs.all (AV.dl n)
  | _, _ => false
def DEPTH : Nat := 50
mutual
def AV.lt : AV → AV → Bool
  | .bl i, .bl j => !i && j
  | .int i, .int j => decide (i < j)
  | .str x, .str y => decide (x.cps.toList < y.cps.toList)
  | .lst xs, .lst ys => AV.ltL xs ys
  | .tup xs, .tup ys => AV.ltL xs ys
  | _, _ => false
def AV.ltL : List AV → List AV → Bool
  | x :: xs, y :: ys => if AV.eq x y then AV.ltL xs ys else AV.lt x y
  | [], _ :: _ => true
  | _, _ => false
end

def varD (i : Nat) : EV := fun σ h => match σ[i]? with | some (some v) => .ok v h | _ => .stuck
def cD (v : AV) : EV := fun _ h => .ok v h
def un (f : AV → AH → ER) (a : EV) : EV := fun σ h => (a σ h).bind f
def bin (f : AV → AV → AH → ER) (a b : EV) : EV := fun σ h => (a σ h).bind fun x h1 => (b σ h1).bind fun y h2 => f x y h2
def evs : List EV → LV
  | [] => fun _ h => .ok [] h
  | e :: es => fun σ h => (e σ h).bindL fun v h1 => (evs es σ h1).bindL fun vs h2 => .ok (v :: vs) h2
def tupD (es : List EV) : EV := fun σ h => (evs es σ h).bind fun vs h1 => .ok (.tup vs) h1
/-- a list display: frozen (or taken by a name that owns it) -/
def lstD (es : List EV) : EV := fun σ h => (evs es σ h).bind fun vs h1 => .ok (.lst vs) h1
/-- a list display in the heap -/
def newL (es : List EV) : EV := fun σ h => (evs es σ h).bind fun vs h1 => .ok (.ref h1.length) (h1 ++ [.lst vs])
def newD : EV := fun _ h => .ok (.ref h.length) (h ++ [.dct []])
def callD (f : FV) (es : List EV) : EV := fun σ h => (evs es σ h).bind f
/-- an expression made anew in the heap: the frozen list that a makes -/
def heapL (a : EV) : EV := fun σ h => (a σ h).bind fun v h1 => match v with | .lst xs => .ok (.ref h1.length) (h1 ++ [.lst xs]) | .dct kvs => .ok (.ref h1.length) (h1 ++ [.dct kvs]) | _ => .stuck

def isB : ER → Option Bool
  | .ok (.bl b) _ => some b
  | _ => none
/-- the truth of a test -/
def ER.tst (r : ER) (k : Bool → AH → ER) : ER :=
  match r with | .ok (.bl b) h => k b h | .ok _ _ => .stuck | .exc c f h => .exc c f h | .stuck => .stuck
def ER.tstS (r : ER) (s : AS) (k : Bool → AH → SR) : SR :=
  match r with | .ok (.bl b) h => k b h | .ok _ _ => .stuck | .exc c f h => .exc c f s h | .stuck => .stuck
@[simp] theorem ER.tst_ok (b : Bool) (h : AH) (k : Bool → AH → ER) : (ER.ok (.bl b) h).tst k = k b h := rfl
@[simp] theorem ER.tstS_ok (b : Bool) (h : AH) (s : AS) (k : Bool → AH → SR) : (ER.ok (.bl b) h).tstS s k = k b h := rfl
def andD (a b : EV) : EV := fun σ h => (a σ h).tst fun c h1 => if c = true then b σ h1 else .ok (.bl false) h1
def orD (a b : EV) : EV := fun σ h => (a σ h).tst fun c h1 => if c = true then .ok (.bl true) h1 else b σ h1
def notD (a : EV) : EV := fun σ h => (a σ h).tst fun c h1 => .ok (.bl (!c)) h1
def ifD (c a b : EV) : EV := fun σ h => (c σ h).tst fun t h1 => if t = true then a σ h1 else b σ h1

def b2i (b : Bool) : Int := if b then 1 else 0
def addV : AV → AV → AH → ER
  | .int i, .int j, h => .ok (.int (i + j)) h
  | .str x, .str y, h => if x.length + y.length ≤ LIM then .ok (.str (x ++ y)) h else .stuck
  | .tup xs, .tup ys, h => if xs.length + ys.length ≤ LIM then .ok (.tup (xs ++ ys)) h else .stuck
  | x, y, h => match lv h x, lv h y with
    | some xs, some ys => if xs.length + ys.length ≤ LIM then .ok (.lst (xs ++ ys)) h else .stuck
    | _, _ => .stuck
def iaddV : AV → AV → AH → ER
  | .int i, .int j, h => .ok (.int (i + j)) h
  | _, _, _ => .stuck
def subV : AV → AV → AH → ER
  | .int i, .int j, h => .ok (.int (i - j)) h
  | _, _, _ => .stuck
def smallI (i : Int) : Bool := decide (-(2 ^ 64) < i) && decide (i < 2 ^ 64)
def mulV : AV → AV → AH → ER
  | .int i, .int j, h => if smallI i || smallI j then .ok (.int (i * j)) h else .stuck
  | .lst xs, .int k, h => if k < 1000000 ∧ xs.length * k.toNat ≤ LIM ∧ -1000000 < k then .ok (.lst (List.replicate k.toNat xs).flatten) h else .stuck
  | _, _, _ => .stuck
/-- list * int, list + list alone -/
def lmulV : AV → AV → AH → ER
  | .lst xs, .int k, h => if k < 1000000 ∧ xs.length * k.toNat ≤ LIM ∧ -1000000 < k then .ok (.lst (List.replicate k.toNat xs).flatten) h else .stuck
  | _, _, _ => .stuck
def laddV (x y : AV) (h : AH) : ER := match lv h x, lv h y with
  | some xs, some ys => if xs.length + ys.length ≤ LIM then .ok (.lst (xs ++ ys)) h else .stuck
  | _, _ => .stuck
def fdivV : AV → AV → AH → ER
  | .int i, .int j, h => if j ≠ 0 ∧ j.natAbs < 1073741824 then .ok (.int (i.fdiv j)) h else .stuck
  | _, _, _ => .stuck
def modV : AV → AV → AH → ER
  | .int i, .int j, h => if j ≠ 0 then .ok (.int (i.fmod j)) h else .stuck
  | _, _, _ => .stuck
def powV : AV → AV → AH → ER
  | .int i, .int j, h => if 0 ≤ j ∧ j ≤ 1000000 ∧ i.natAbs < 2 ^ 64 then .ok (.int (i ^ j.toNat)) h else .stuck
  | _, _, _ => .stuck
def negV : AV → AH → ER
  | .int i, h => .ok (.int (-i)) h
  | _, _ => .stuck

def cmpI (p : Int → Int → Bool) : AV → AV → AH → ER
  | .int i, .int j, h => .ok (.bl (p i j)) h
  | _, _, _ => .stuck
/-- < <= > >= on intsA; < of texts -/
def ltV : AV → AV → AH → ER
  | .int i, .int j, h => .ok (.bl (decide (i < j))) h
  | .str x, .str y, h => .ok (.bl (decide (x.cps.toList < y.cps.toList))) h
  | _, _, _ => .stuck
def leV : AV → AV → AH → ER := cmpI fun i j => decide (i ≤ j)
def gtV : AV → AV → AH → ER := cmpI fun i j => decide (j < i)
def geV : AV → AV → AH → ER := cmpI fun i j => decide (j ≤ i)
/-- a list in the heap is read as the list it is -/
def thaw (h : AH) (x : AV) : AV := match x with
  | .ref i => match h[i]? with | some (.lst xs) => .lst xs | _ => .ref i
  | x => x
def isFlat : AV → Bool
  | .non => true
  | .bl _ => true
  | .int _ => true
  | .str _ => true
  | _ => false
/-- plain values that == tells apart as they are -/
def scalA : AV → AV → Bool
  | .str _, .str _ => true
  | .int _, .int _ => true
  | .bl _, .bl _ => true
  | .non, .non => true
  | .non, .str _ => true
  | .str _, .non => true
  | .non, .int _ => true
  | .int _, .non => true
  | .int _, .str _ => true
  | .str _, .int _ => true
  | .bl _, .str _ => true
  | .str _, .bl _ => true
  | _, _ => false
def eqOk (x y : AV) : Bool := scalA x y || (x.dl DEPTH && y.dl DEPTH)
def eqV (x y : AV) (h : AH) : ER :=
  if eqOk (thaw h x) (thaw h y) then .ok (.bl ((thaw h x).eq (thaw h y))) h else .stuck
def neV (x y : AV) (h : AH) : ER :=
  if eqOk (thaw h x) (thaw h y) then .ok (.bl (!(thaw h x).eq (thaw h y))) h else .stuck
def isNonA : AV → Bool
  | .non => true
  | _ => false
def isNoneV (x : AV) (h : AH) : ER := .ok (.bl (isNonA x)) h
def notNoneV (x : AV) (h : AH) : ER := .ok (.bl (!isNonA x)) h

def chainD (f g : AV → AV → AH → ER) (a b c : EV) : EV := fun σ h =>
  (a σ h).bind fun x h1 => (b σ h1).bind fun y h2 => (f x y h2).tst fun t h3 => if t = true then (c σ h3).bind fun z h4 => g y z h4 else .ok (.bl false) h3

def ixI (n : Nat) (i : Int) : Option Nat := if 0 ≤ i then (if i < n then some i.toNat else none) else if -(n : Int) ≤ i then some (i + n).toNat else none
def atI {α : Type} (xs : List α) (i : Int) : Option α := (ixI xs.length i).bind fun j => xs[j]?
def dlook (kvs : List (AV × AV)) (k : AV) : Option AV := (kvs.find? fun kv => AV.eq kv.1 k).map (·.2)
/-- keys: intsA, texts, tuples of these -/
def flatK : AV → Bool
  | .int _ => true
  | .str _ => true
  | _ => false
def keyOk : AV → Bool := flatK
def optE (o : Option AV) (h : AH) : ER := match o with | some v => .ok v h | none => .stuck
@[simp] theorem optE_some (v : AV) (h : AH) : optE (some v) h = .ok v h := rfl
@[simp] theorem optE_none (h : AH) : optE none h = .stuck := rfl
/-- an int -/
def iOf : AV → Option Int
  | .int i => some i
  | _ => none
@[simp] theorem iOf_int (i : Int) : iOf (.int i) = some i := rfl
def atA (xs : List AV) (i : AV) : Option AV := (iOf i).bind fun k => atI xs k
def atS (s : Str) (i : AV) : Option AV := if s.length ≤ LIM then (iOf i).bind fun k => (atI s.cps.toList k).map fun c => .str ⟨#[c]⟩ else none
def atK (kvs : List (AV × AV)) (i : AV) : Option AV := if keyOk i then dlook kvs i else none
/-- the item of a list, a dict in the heap or not -/
def getH (o i : AV) (h : AH) : Option AV := match rl h o with
  | some xs => atA xs i
  | none => (dv h o).bind fun kvs => atK kvs i
def getO (o i : AV) (h : AH) : Option AV := match o with
  | .tup xs => atA xs i
  | .str s => atS s i
  | o => getH o i h
def getV (o i : AV) (h : AH) : ER := optE (getO o i h) h
/-- a part of a slice -/
def partD (e : Option EV) : AS → AH → LR := match e with
  | none => fun _ h => .ok [] h
  | some m => fun σ h => (m σ h).bindL fun v h1 => match v with | .int i => .ok [.int i] h1 | _ => .stuck
def pI : List AV → Option Int
  | [.int i] => some i
  | _ => none
def sIx (n d : Nat) : Option Int → Nat
  | none => d
  | some i => if i < 0 then (i + n).toNat else min i.toNat n
def cut {α : Type} (xs : List α) (lo hi : Option Int) : List α := (xs.drop (sIx xs.length 0 lo)).take (sIx xs.length xs.length hi - sIx xs.length 0 lo)
def sliceV (o : AV) (lo hi : Option Int) (h : AH) : ER :=
  match o with
  | .tup xs => .ok (.tup (cut xs lo hi)) h
  | .str s => if s.length ≤ LIM then .ok (.str ⟨(cut s.cps.toList lo hi).toArray⟩) h else .stuck
  | o => match rl h o with | some xs => .ok (.lst (cut xs lo hi)) h | none => .stuck
def sliceD (o : EV) (lo hi : Option EV) : EV := fun σ h =>
  (o σ h).bind fun v h1 => (partD lo σ h1).bind fun l h2 => (partD hi σ h2).bind fun u h3 => sliceV v (pI l) (pI u) h3

/-- every one of a row may be compared with x -/
def inOk (x : AV) (xs : List AV) : Bool := (isFlat x && xs.all isFlat) || (x.dl DEPTH && xs.all (AV.dl DEPTH))
/-- whether z stands in y, as texts -/
def subS (z y : List Nat) : Bool := match y with
  | [] => z.isEmpty
  | c :: r => (y.take z.length == z) || subS z r
def inRow (x : AV) (xs : List AV) : Option Bool := if inOk x xs then some (xs.any fun z => AV.eq z x) else none
def inStr (x : AV) (s : Str) : Option Bool := match x with
  | .str z => if z.cps.size = 1 then some (s.cps.toList.contains (z.cps.getD 0 0)) else none
  | _ => none
def inDic (x : AV) (kvs : List (AV × AV)) : Option Bool := if keyOk x then some (dlook kvs x).isSome else none
def inH (x y : AV) (h : AH) : Option Bool := match rl h y with
  | some xs => inRow x xs
  | none => (dv h y).bind (inDic x)
def inV (x y : AV) (h : AH) : Option Bool :=
  match y with
  | .tup xs => inRow x xs
  | .str s => inStr x s
  | y => inH x y h
def inD (x y : AV) (h : AH) : ER := match inV x y h with | some b => .ok (.bl b) h | none => .stuck
def notInD (x y : AV) (h : AH) : ER := match inV x y h with | some b => .ok (.bl (!b)) h | none => .stuck

/-- list(x), tuple(x) of a list or tuple -/
def seqOf (h : AH) : AV → Option (List AV)
  | .tup xs => some xs
  | o => rl h o
def lenS (s : Str) : Option Nat := if s.length ≤ LIM then some s.length else none
def lenV (o : AV) (h : AH) : Option Nat := match o with
  | .str s => lenS s
  | o => match seqOf h o with
    | some xs => some xs.length
    | none => (dv h o).map List.length
def lenF : FV := fun vs h => match vs with
  | [o] => optE ((lenV o h).map fun (n : Nat) => AV.int (n : Int)) h
  | _ => .stuck
def absF : FV := fun vs h => match vs with | [.int i] => .ok (.int (if i < 0 then -i else i)) h | _ => .stuck
def intF : FV := fun vs h => match vs with | [.int i] => .ok (.int i) h | [.bl b] => .ok (.int (b2i b)) h | _ => .stuck
def strF : FV := fun vs h => match vs with | [.int i] => if i.natAbs < 1000000000000000000 then .ok (.str (toString i)) h else .stuck | _ => .stuck
def max2F : FV := fun vs h => match vs with | [.int i, .int j] => .ok (.int (if j > i then j else i)) h | _ => .stuck
def min2F : FV := fun vs h => match vs with | [.int i, .int j] => .ok (.int (if j < i then j else i)) h | _ => .stuck
def listF : FV := fun vs h => match vs with | [o] => optE ((seqOf h o).map .lst) h | _ => .stuck
def tupleF : FV := fun vs h => match vs with | [o] => optE ((seqOf h o).map .tup) h | _ => .stuck
def intsA : List AV → Option (List Int)
  | [] => some []
  | .int i :: r => (intsA r).map (i :: ·)
  | _ => none
def bls : List AV → Option (List Bool)
  | [] => some []
  | .bl b :: r => (bls r).map (b :: ·)
  | _ => none
def sumF : FV := fun vs h => match vs with
  | [o] => optE (((rl h o).bind intsA).map fun ns => .int ns.sum) h
  | _ => .stuck
def anyF : FV := fun vs h => match vs with
  | [o] => optE (((rl h o).bind bls).map fun bs => .bl (bs.any id)) h
  | _ => .stuck
def allF : FV := fun vs h => match vs with
  | [o] => optE (((rl h o).bind bls).map fun bs => .bl (bs.all id)) h
  | _ => .stuck
/-- stable sorting -/
def leA (x y : AV) : Bool := !AV.lt y x
def sortA (xs : List AV) : List AV := xs.mergeSort leA
/- may be compared by < with each other -/
mutual
def AV.co : AV → AV → Bool
  | .non, .non => true
  | .bl _, .bl _ => true
  | .int _, .int _ => true
  | .str _, .str _ => true
  | .tup xs, .tup ys => AV.coL xs ys
  | .lst xs, .lst ys => AV.coL xs ys
  | _, _ => false
def AV.coL : List AV → List AV → Bool
  | x :: xs, y :: ys => AV.co x y && AV.coL xs ys
  | [], _ => true
  | _ :: _, [] => true
end
def coAll (xs : List AV) : Bool := xs.all fun x => xs.all fun y => AV.co x y
def isTup1 : AV → Bool
  | .tup (_ :: _) => true
  | _ => false
def notTup : AV → Bool
  | .non => false
  | .tup _ => false
  | _ => true
def sortOk (xs : List AV) : Bool := coAll xs && xs.all (AV.dl DEPTH) && (xs.all isTup1 || xs.all notTup)
def sortedF : FV := fun vs h => match vs with
  | [o] => optE ((seqOf h o).bind fun xs => if sortOk xs then some (.lst (sortA xs)) else none) h
  | _ => .stuck

/-- a frozen list, a tuple, a text -/
def iterV : AV → Option (List AV)
  | .tup xs => some xs
  | .str s => some (s.cps.toList.map fun c => .str ⟨#[c]⟩)
  | .lst xs => some xs
  | .ro xs => some xs
  | _ => none
def optL (o : Option (List AV)) (h : AH) : LR := match o with | some v => .ok v h | none => .stuck
@[simp] theorem optL_some (v : List AV) (h : AH) : optL (some v) h = .ok v h := rfl
@[simp] theorem optL_none (h : AH) : optL none h = .stuck := rfl
def itD (e : EV) : LV := fun σ h => (e σ h).bindL fun v h1 => optL (iterV v) h1
/-- .. or a list of the heap -/
def iterH (h : AH) : AV → Option (List AV)
  | .ref i => lv h (.ref i)
  | o => iterV o
def itH (e : EV) : LV := fun σ h => (e σ h).bindL fun v h1 => optL (iterH h1 v) h1
def rangeL (lo : Int) (n : Nat) : List AV := (List.range n).map fun k => .int (lo + (k : Nat))
def B62 (i : Int) : Bool := decide (-(2 ^ 62) ≤ i) && decide (i < 2 ^ 62)
def range1F : List AV → Option (List AV)
  | [.int j] => if B62 j then some (rangeL 0 j.toNat) else none
  | _ => none
def range2F : List AV → Option (List AV)
  | [.int i, .int j] => if B62 i && B62 j then some (rangeL i (j - i).toNat) else none
  | _ => none
/-- down by ones -/
def range3F : List AV → Option (List AV)
  | [.int i, .int j, .int k] => if B62 i && B62 j && k == -1 then some ((List.range (i - j).toNat).map fun k => .int (i - (k : Nat))) else none
  | _ => none
def rangeD (f : List AV → Option (List AV)) (es : List EV) : LV := fun σ h => (evs es σ h).bindL fun vs h1 => optL (f vs) h1
def enumL (xs : List AV) : List AV := xs.zipIdx.map fun p => .tup [.int (p.2 : Nat), p.1]
/-- .. of frozen lists -/
def frzL : AV → Option (List AV)
  | .lst xs => some xs
  | .ro xs => some xs
  | _ => none
def enumD (e : EV) : LV := fun σ h => (e σ h).bindL fun v h1 => optL ((frzL v).map enumL) h1
def zipL (xs ys : List AV) : List AV := (xs.zip ys).map fun p => .tup [p.1, p.2]
def zipD (a b : EV) : LV := fun σ h => (a σ h).bindL fun v h1 => (b σ h1).bindL fun w h2 => optL ((frzL v).bind fun xs => (frzL w).map fun ys => zipL xs ys) h2
def frzT : AV → Option (List AV)
  | .tup xs => some xs
  | v => frzL v
def revD (e : EV) : LV := fun σ h => (e σ h).bindL fun v h1 => optL ((frzT v).map List.reverse) h1

abbrev TGT := AV → AS → Option AS
def nameT (i : Nat) : TGT := fun v σ => some (σ.set i (some v))
def tupTs : List TGT → List AV → AS → Option AS
  | [], [], σ => some σ
  | t :: ts, v :: vs, σ => (t v σ).bind fun σ1 => tupTs ts vs σ1
  | _, _, _ => none
/-- (a, b, ..) = a tuple of that length -/
def tupT (ts : List TGT) : TGT := fun v σ => match v with | .tup xs => tupTs ts xs σ | _ => none

def wipeA (σ : AS) : List Nat → AS
  | [] => σ
  | v :: vs => (wipeA σ vs).set v none
/-- the items of [e for t in xs if c] -/
def compL (t : TGT) (c e : EV) (σ : AS) : List AV → AH → LR
  | [], h => .ok [] h
  | x :: r, h => match t x σ with
    | none => .stuck
    | some σ1 => match c σ1 h with
      | .ok (.bl true) h1 => (match e σ1 h1 with
        | .ok v h2 => (match compL t c e σ r h2 with | .ok vs h3 => .ok (v :: vs) h3 | _ => .stuck)
        | _ => .stuck)
      | .ok (.bl false) h1 => compL t c e σ r h1
      | _ => .stuck
def compD (own : List Nat) (t : TGT) (it : LV) (c e : EV) : EV := fun σ h =>
  (it σ h).bind fun xs h1 => match compL t c e (wipeA σ own) xs h1 with
    | .ok vs h2 => if vs.length ≤ LIM then .ok (.lst vs) h2 else .stuck
    | _ => .stuck

def seqS (a b : SV) : SV := fun σ h => match a σ h with | .nx σ1 h1 => b σ1 h1 | r => r
def nxS : SV := fun σ h => .nx σ h
def bkS : SV := fun σ h => .bk σ h
def ctS : SV := fun σ h => .ct σ h
def setS (i : Nat) (e : EV) : SV := fun σ h => (e σ h).toS σ fun v h1 => .nx (σ.set i (some v)) h1
def asgS (t : TGT) (e : EV) : SV := fun σ h => (e σ h).toS σ fun v h1 => match t v σ with | some σ1 => .nx σ1 h1 | none => .stuck
def exprS (e : EV) : SV := fun σ h => (e σ h).toS σ fun _ h1 => .nx σ h1
def retS (e : EV) : SV := fun σ h => (e σ h).toS σ fun v h1 => .rt v h1
def ifS (c : EV) (a b : SV) : SV := fun σ h => (c σ h).tstS σ fun t h1 => if t = true then a σ h1 else b σ h1
def augS (i : Nat) (f : AV → AV → AH → ER) (e : EV) : SV := fun σ h => match σ[i]? with
  | some (some x) => (e σ h).toS σ fun y h1 => (f x y h1).toS σ fun z h2 => .nx (σ.set i (some z)) h2
  | _ => .stuck
def forL (t : TGT) (b : SV) : List AV → SV
  | [], σ, h => .nx σ h
  | x :: r, σ, h => match t x σ with
    | none => .stuck
    | some σ1 => match b σ1 h with
      | .nx σ2 h2 => forL t b r σ2 h2
      | .ct σ2 h2 => forL t b r σ2 h2
      | .bk σ2 h2 => .nx σ2 h2
      | .rt v h2 => .rt v h2
      | .exc c f σ2 h2 => .exc c f σ2 h2
      | .stuck => .stuck
def forS (t : TGT) (it : LV) (b : SV) : SV := fun σ h => (it σ h).toS σ fun xs h1 => forL t b xs σ h1
def whileS : Nat → EV → SV → SV
  | 0, _, _, _, _ => .stuck
  | n + 1, c, b, σ, h => (c σ h).tstS σ fun t h1 => if t = true then
      match b σ h1 with
      | .nx σ2 h2 => whileS n c b σ2 h2
      | .ct σ2 h2 => whileS n c b σ2 h2
      | .bk σ2 h2 => .nx σ2 h2
      | .rt v h2 => .rt v h2
      | .exc c f σ2 h2 => .exc c f σ2 h2
      | .stuck => .stuck
    else .nx σ h1

def setAll {α : Type} : List (Option α) → List Nat → List α → List (Option α)
  | σ, i :: is, v :: vs => setAll (σ.set i (some v)) is vs
  | σ, _, _ => σ
def parS (is : List Nat) (ms : List EV) : SV := fun σ h => (evs ms σ h).toS σ fun vs h1 => .nx (setAll σ is vs) h1

def ownL (σ : AS) (i : Nat) : Option (List AV) := match σ[i]? with | some (some (.lst xs)) => some xs | _ => none
def ownDc (σ : AS) (i : Nat) : Option (List (AV × AV)) := match σ[i]? with | some (some (.dct kvs)) => some kvs | _ => none
def appendS (i : Nat) (e : EV) : SV := fun σ h => match ownL σ i with
  | some xs => (e σ h).toS σ fun v h1 => if xs.length < LIM then .nx (σ.set i (some (.lst (xs ++ [v])))) h1 else .stuck
  | none => .stuck
/-- dicts -/
def dput (kvs : List (AV × AV)) (k v : AV) : List (AV × AV) :=
  if kvs.any (fun kv => AV.eq kv.1 k) then kvs.map (fun kv => if AV.eq kv.1 k then (kv.1, v) else kv) else kvs ++ [(k, v)]
def ownPut (σ : AS) (i : Nat) (kv v : AV) : Option AS := match σ[i]? with
  | some (some (.lst xs)) => (iOf kv).bind fun z => (ixI xs.length z).map fun j => σ.set i (some (.lst (xs.set j v)))
  | some (some (.dct kvs)) => if flatK kv && decide (kvs.length < LIM) then some (σ.set i (some (.dct (dput kvs kv v)))) else none
  | _ => none
def ownGet (σ : AS) (i : Nat) (kv : AV) : Option AV := match σ[i]? with
  | some (some (.lst xs)) => atA xs kv
  | some (some (.dct kvs)) => atK kvs kv
  | _ => none
def optS (o : Option AS) (h : AH) : SR := match o with | some σ => .nx σ h | none => .stuck
@[simp] theorem optS_some (σ : AS) (h : AH) : optS (some σ) h = .nx σ h := rfl
@[simp] theorem optS_none (h : AH) : optS none h = .stuck := rfl
/-- xs[k] = v -/
def putS (i : Nat) (k e : EV) : SV := fun σ h => (e σ h).toS σ fun v h1 => (k σ h1).toS σ fun kv h2 => optS (ownPut σ i kv v) h2
/-- xs[k] op= v -/
def putAugS (i : Nat) (f : AV → AV → AH → ER) (k e : EV) : SV := fun σ h => (k σ h).toS σ fun kv h1 => match ownGet σ i kv with
  | some x => (e σ h1).toS σ fun y h2 => (f x y h2).toS σ fun w h3 => optS (ownPut σ i kv w) h3
  | none => .stuck

def hset (h : AH) (i : Nat) (o : AO) : AH := h.set i o
def hput1 (i : Nat) (kv w : AV) (h : AH) : Option AH := match h[i]? with
  | some (.lst xs) => (iOf kv).bind fun z => (ixI xs.length z).map fun j => hset h i (.lst (xs.set j w))
  | some (.dct kvs) => if flatK kv && decide (kvs.length < LIM) then some (hset h i (.dct (dput kvs kv w))) else none
  | _ => none
def rfOf : AV → Option Nat
  | .ref i => some i
  | _ => none
@[simp] theorem rfOf_ref (i : Nat) : rfOf (.ref i) = some i := rfl
def optH (o : Option AH) (σ : AS) : SR := match o with | some h => .nx σ h | none => .stuck
@[simp] theorem optH_some (σ : AS) (h : AH) : optH (some h) σ = .nx σ h := rfl
@[simp] theorem optH_none (σ : AS) : optH none σ = .stuck := rfl
/-- o[k] = v -/
def hputS (o k e : EV) : SV := fun σ h => (e σ h).toS σ fun v h1 => (o σ h1).toS σ fun ov h2 => (k σ h2).toS σ fun kv h3 => optH ((rfOf ov).bind fun i => hput1 i kv v h3) σ
/-- o[k] op= v -/
def hputAugS (f : AV → AV → AH → ER) (o k e : EV) : SV := fun σ h => (o σ h).toS σ fun ov h1 => (k σ h1).toS σ fun kv h2 => match (rfOf ov).bind fun i => getH (.ref i) kv h2 with
  | some x => (e σ h2).toS σ fun y h3 => (f x y h3).toS σ fun w h4 => optH ((rfOf ov).bind fun i => hput1 i kv w h4) σ
  | none => .stuck
/-- a list of the heap -/
def isHL (h : AH) (i : Nat) : Bool := match h[i]? with
  | some (.lst _) => true
  | _ => false
/-- o.append(v) as an expression -/
def happV (o v : AV) (h : AH) : ER := match o with
  | .ref i => (match h[i]? with
    | some (.lst xs) => if xs.length < LIM then .ok .non (hset h i (.lst (xs ++ [v]))) else .stuck
    | _ => .stuck)
  | _ => .stuck
def happD (o e : EV) : EV := fun σ h => (o σ h).bind fun ov h1 => match (rfOf ov).bind fun i => if isHL h1 i then some i else none with
  | some i => (e σ h1).bind fun v h2 => happV (.ref i) v h2
  | none => .stuck

/-- a def's body: n names -/
def body (n : Nat) (m : SV) : FV := fun vs h => match m (vs.map some ++ List.replicate (n - vs.length) none) h with
  | .nx _ h' => .ok .non h'
  | .rt v h' => .ok v h'
  | .exc c f _ h' => .exc c f h'
  | _ => .stuck

/-- the law's answer is true for each script of at most n intsA -/
def Law (n : Nat) (f : FV) : Prop := ∀ ns : List Int, ns.length ≤ n → ∃ h', f [.ro (ns.map AV.int)] [] = .ok (.bl true) h'

end D
end

section
namespace D
open PySem L2

/-- what a proof is over: the written part; the classes of instances; the classes of exceptions -/
structure Pm where
  K : PySem.W.Frag
  cl : Nat → Addr
  ex : Nat → Value

/-- a thing that stands still: no mutable one of ours -/
def FrzAt (ρ : List Addr) (B : Addr → Prop) (H : Hp) (a : Addr) (u : HO) : Prop := a ∉ ρ ∧ ¬ B a ∧ Rd H a u
def StL (K : PySem.W.Frag) (a : Addr) (vs : List V) : Prop := ∃ (o : Obj) (its : Array Value) (n : Nat), K.lookup a = some o ∧ o.cls = .type "list" ∧ o.dict = none ∧ o.data = .seq its n ∧ its.size ≤ sizeLine ∧ Vals vs its.toList
def StT (K : PySem.W.Frag) (a : Addr) (vs : List V) : Prop := ∃ (o : Obj) (its : Array Value) (n : Nat), K.lookup a = some o ∧ o.cls = .type "tuple" ∧ o.data = .seq its n ∧ its.size ≤ sizeLine ∧ Vals vs its.toList

def keyOf : AV → Option Key
  | .int i => some (.inl i)
  | .str s => some (.inr s)
  | _ => none

mutual
def RV (K : PySem.W.Frag) (ρ : List Addr) (B : Addr → Prop) (H : Hp) : AV → V → Prop
  | .non, v => v = .non
  | .bl b, v => v = .bl b
  | .int i, v => v = .int i
  | .str s, v => v = .str s
  | .tup xs, v => ∃ a vs, v = .ref a ∧ (FrzAt ρ B H a (.tup vs) ∨ StT K a vs) ∧ RVs K ρ B H xs vs
  | .lst xs, v => ∃ a vs, v = .ref a ∧ a ∉ ρ ∧ ¬ B a ∧ H a = some (.lst vs) ∧ RVs K ρ B H xs vs
  | .dct kvs, v => ∃ a us, v = .ref a ∧ FrzAt ρ B H a (.dK us) ∧ RKs K ρ B H kvs us
  | .ref i, v => ∃ a, v = .ref a ∧ ρ[i]? = some a
  | .ro xs, v => ∃ a vs, v = .ref a ∧ (FrzAt ρ B H a (.lst vs) ∨ StL K a vs) ∧ RVs K ρ B H xs vs
def RVs (K : PySem.W.Frag) (ρ : List Addr) (B : Addr → Prop) (H : Hp) : List AV → List V → Prop
  | [], vs => vs = []
  | x :: xs, vs => ∃ v r, vs = v :: r ∧ RV K ρ B H x v ∧ RVs K ρ B H xs r
def RKs (K : PySem.W.Frag) (ρ : List Addr) (B : Addr → Prop) (H : Hp) : List (AV × AV) → List (Key × V) → Prop
  | [], us => us = []
  | (k, x) :: r, us => ∃ k' v t, us = (k', v) :: t ∧ keyOf k = some k' ∧ RV K ρ B H x v ∧ RKs K ρ B H r t
end

/-- the heap has grown; what stands still stays; b: nothing of ours is changed either -/
structure Ext (b : Bool) (ρ : List Addr) (H : Hp) (ρ' : List Addr) (H' : Hp) : Prop where
  pre : ∃ l, ρ' = ρ ++ l ∧ ∀ a ∈ l, H a = none
  keep : ∀ a o, (b = true ∨ a ∉ ρ) → H a = some o → H' a = some o
  live : ∀ a, H a ≠ none → H' a ≠ none

theorem Ext.refl (b : Bool) (ρ : List Addr) (H : Hp) : Ext b ρ H ρ H := ⟨⟨[], by simp, by simp⟩, fun _ _ _ h => h, fun _ h => h⟩
theorem Ext.trans {b : Bool} {ρ ρ1 ρ2 : List Addr} {H H1 H2 : Hp} (e : Ext b ρ H ρ1 H1) (f : Ext b ρ1 H1 ρ2 H2) : Ext b ρ H ρ2 H2 := by
  obtain ⟨l, rfl, hl⟩ := e.pre
  obtain ⟨m, rfl, hm⟩ := f.pre
  refine ⟨⟨l ++ m, by simp, fun a ha => ?_⟩, fun a o h k => ?_, fun a h => f.live a (e.live a h)⟩
  · rcases List.mem_append.mp ha with ha | ha
    · exact hl a ha
    · cases q : H a with
      | none => rfl
      | some o => exact absurd (hm a ha) (e.live a (by rw [q]; simp))
  · refine f.keep a o ?_ (e.keep a o h k)
    rcases h with h | h
    · exact .inl h
    · refine .inr fun z => ?_
      rcases List.mem_append.mp z with z | z
      · exact h z
      · rw [hl a z] at k; cases k
theorem Ext.weak {b : Bool} {ρ ρ' : List Addr} {H H' : Hp} (e : Ext true ρ H ρ' H') : Ext b ρ H ρ' H' := ⟨e.pre, fun a o _ h => e.keep a o (.inl rfl) h, e.live⟩
/-- a new thing -/
theorem Ext.new {b : Bool} {ρ : List Addr} {H : Hp} {p : Addr} {o : HO} (h : H p = none) : Ext b ρ H ρ (upd H p o) :=
  ⟨⟨[], by simp, by simp⟩, fun a u _ e => by rw [upd_ne (ne_of_none e h)]; exact e, fun a e => by
    by_cases z : a = p
    · subst z; exact absurd h e
    · rw [upd_ne z]; exact e⟩
/-- a new thing of ours -/
theorem Ext.newR {b : Bool} {ρ : List Addr} {H : Hp} {p : Addr} {o : HO} (h : H p = none) : Ext b ρ H (ρ ++ [p]) (upd H p o) :=
  ⟨⟨[p], rfl, fun a ha => by rw [List.mem_singleton.mp ha]; exact h⟩, (Ext.new (b := b) (ρ := ρ) (o := o) h).keep, (Ext.new (b := b) (ρ := ρ) (o := o) h).live⟩
/-- a thing of ours is changed -/
theorem Ext.put {ρ : List Addr} {H : Hp} {p : Addr} {o : HO} (h : p ∈ ρ) : Ext false ρ H ρ (upd H p o) :=
  ⟨⟨[], by simp, by simp⟩, fun a u k e => by
    rcases k with k | k
    · cases k
    · rw [upd_ne (fun z => k (by rw [z]; exact h))]; exact e, fun a e => by
    by_cases z : a = p
    · subst z; rw [upd_same]; simp
    · rw [upd_ne z]; exact e⟩

section
variable {K : PySem.W.Frag} {b : Bool} {ρ ρ' : List Addr} {B B' : Addr → Prop} {H H' : Hp}
theorem Ext.notin (e : Ext b ρ H ρ' H') {a : Addr} (h : a ∉ ρ) (k : H a ≠ none) : a ∉ ρ' := by
  obtain ⟨l, rfl, hl⟩ := e.pre
  intro z
  rcases List.mem_append.mp z with z | z
  · exact h z
  · exact k (hl a z)
theorem Ext.get (e : Ext b ρ H ρ' H') {i : Nat} {a : Addr} (h : ρ[i]? = some a) : ρ'[i]? = some a := by
  obtain ⟨l, rfl, hl⟩ := e.pre
  rw [List.getElem?_append_left (List.getElem?_eq_some_iff.mp h).1]
  exact h
theorem Ext.sub (e : Ext b ρ H ρ' H') {a : Addr} (h : a ∈ ρ) : a ∈ ρ' := by
  obtain ⟨l, rfl, hl⟩ := e.pre
  exact List.mem_append_left _ h
theorem rd_ne {a : Addr} {u : HO} (h : Rd H a u) : H a ≠ none := by
  rcases h with h | ⟨o, h⟩ <;> (rw [h]; simp)
theorem FrzAt.ext {a : Addr} {u : HO} (h : FrzAt ρ B H a u) (e : Ext b ρ H ρ' H') : FrzAt ρ' B H' a u := by
  obtain ⟨h1, h2, h3⟩ := h
  refine ⟨e.notin h1 (rd_ne h3), h2, ?_⟩
  rcases h3 with h3 | ⟨o, h3⟩
  · exact .inl (e.keep _ _ (.inr h1) h3)
  · exact .inr ⟨o, e.keep _ _ (.inr h1) h3⟩
theorem FrzAt.anti {a : Addr} {u : HO} (h : FrzAt ρ B H a u) (hB : ∀ a, B' a → B a) : FrzAt ρ B' H a u := ⟨h.1, fun z => h.2.1 (hB _ z), h.2.2⟩
mutual
theorem RV.ext (e : Ext b ρ H ρ' H') : ∀ (x : AV) {v : V}, RV K ρ B H x v → RV K ρ' B H' x v
  | .non, _, h => h
  | .bl _, _, h => h
  | .int _, _, h => h
  | .str _, _, h => h
  | .tup xs, v, h => by
    unfold RV at h ⊢
    obtain ⟨a, vs, rfl, h1, h2⟩ := h
    exact ⟨a, vs, rfl, h1.imp_left (·.ext e), RVs.ext e xs h2⟩
  | .lst xs, v, h => by
    unfold RV at h ⊢
    obtain ⟨a, vs, rfl, h1, h2, h3, h4⟩ := h
    exact ⟨a, vs, rfl, e.notin h1 (by rw [h3]; simp), h2, e.keep _ _ (.inr h1) h3, RVs.ext e xs h4⟩
  | .dct kvs, v, h => by
    unfold RV at h ⊢
    obtain ⟨a, us, rfl, h1, h4⟩ := h
    exact ⟨a, us, rfl, h1.ext e, RKs.ext e kvs h4⟩
  | .ref i, v, h => by
    unfold RV at h ⊢
    obtain ⟨a, rfl, h1⟩ := h
    exact ⟨a, rfl, e.get h1⟩
  | .ro xs, v, h => by
    unfold RV at h ⊢
    obtain ⟨a, vs, rfl, h1, h2⟩ := h
    exact ⟨a, vs, rfl, h1.imp_left (·.ext e), RVs.ext e xs h2⟩
theorem RVs.ext (e : Ext b ρ H ρ' H') : ∀ (xs : List AV) {vs : List V}, RVs K ρ B H xs vs → RVs K ρ' B H' xs vs
  | [], _, h => by unfold RVs at h ⊢; exact h
  | x :: xs, vs, h => by
    unfold RVs at h ⊢
    obtain ⟨v, r, rfl, h1, h2⟩ := h
    exact ⟨v, r, rfl, RV.ext e x h1, RVs.ext e xs h2⟩
theorem RKs.ext (e : Ext b ρ H ρ' H') : ∀ (kvs : List (AV × AV)) {us : List (Key × V)}, RKs K ρ B H kvs us → RKs K ρ' B H' kvs us
  | [], _, h => by unfold RKs at h ⊢; exact h
  | (k, x) :: r, us, h => by
    unfold RKs at h ⊢
    obtain ⟨k', v, t, rfl, h1, h2, h3⟩ := h
    exact ⟨k', v, t, rfl, h1, RV.ext e x h2, RKs.ext e r h3⟩
end
mutual
theorem RV.anti (hB : ∀ a, B' a → B a) : ∀ (x : AV) {v : V}, RV K ρ B H x v → RV K ρ B' H x v
  | .non, _, h => h
  | .bl _, _, h => h
  | .int _, _, h => h
  | .str _, _, h => h
  | .tup xs, v, h => by
    unfold RV at h ⊢
    obtain ⟨a, vs, rfl, h1, h2⟩ := h
    exact ⟨a, vs, rfl, h1.imp_left (·.anti hB), RVs.anti hB xs h2⟩
  | .lst xs, v, h => by
    unfold RV at h ⊢
    obtain ⟨a, vs, rfl, h1, h2, h3, h4⟩ := h
    exact ⟨a, vs, rfl, h1, fun z => h2 (hB _ z), h3, RVs.anti hB xs h4⟩
  | .dct kvs, v, h => by
    unfold RV at h ⊢
    obtain ⟨a, us, rfl, h1, h4⟩ := h
    exact ⟨a, us, rfl, h1.anti hB, RKs.anti hB kvs h4⟩
  | .ref i, v, h => h
  | .ro xs, v, h => by
    unfold RV at h ⊢
    obtain ⟨a, vs, rfl, h1, h2⟩ := h
    exact ⟨a, vs, rfl, h1.imp_left (·.anti hB), RVs.anti hB xs h2⟩
theorem RVs.anti (hB : ∀ a, B' a → B a) : ∀ (xs : List AV) {vs : List V}, RVs K ρ B H xs vs → RVs K ρ B' H xs vs
  | [], _, h => by unfold RVs at h ⊢; exact h
  | x :: xs, vs, h => by
    unfold RVs at h ⊢
    obtain ⟨v, r, rfl, h1, h2⟩ := h
    exact ⟨v, r, rfl, RV.anti hB x h1, RVs.anti hB xs h2⟩
theorem RKs.anti (hB : ∀ a, B' a → B a) : ∀ (kvs : List (AV × AV)) {us : List (Key × V)}, RKs K ρ B H kvs us → RKs K ρ B' H kvs us
  | [], _, h => by unfold RKs at h ⊢; exact h
  | (k, x) :: r, us, h => by
    unfold RKs at h ⊢
    obtain ⟨k', v, t, rfl, h1, h2, h3⟩ := h
    exact ⟨k', v, t, rfl, h1, RV.anti hB x h2, RKs.anti hB r h3⟩
end
end

section
variable {K : PySem.W.Frag} {ρ : List Addr} {B : Addr → Prop} {H : Hp}
theorem RVs.nil : RVs K ρ B H [] [] := by unfold RVs; rfl
theorem RVs.cons {x : AV} {v : V} {xs : List AV} {vs : List V} (h : RV K ρ B H x v) (t : RVs K ρ B H xs vs) : RVs K ρ B H (x :: xs) (v :: vs) := by unfold RVs; exact ⟨v, vs, rfl, h, t⟩
theorem RVs.len : ∀ {xs : List AV} {vs : List V}, RVs K ρ B H xs vs → xs.length = vs.length
  | [], _, h => by unfold RVs at h; subst h; rfl
  | x :: xs, vs, h => by
    unfold RVs at h
    obtain ⟨v, r, rfl, _, h2⟩ := h
    simp [RVs.len h2]
theorem RVs.get : ∀ {xs : List AV} {vs : List V} {i : Nat} {x : AV}, RVs K ρ B H xs vs → xs[i]? = some x → ∃ v, vs[i]? = some v ∧ RV K ρ B H x v
  | [], _, _, _, _, e => by simp at e
  | x :: xs, vs, i, y, h, e => by
    unfold RVs at h
    obtain ⟨v, r, rfl, h1, h2⟩ := h
    cases i with
    | zero => simp at e; subst e; exact ⟨v, rfl, h1⟩
    | succ i =>
      obtain ⟨w, e1, e2⟩ := RVs.get (i := i) h2 (by simpa using e)
      exact ⟨w, by simpa using e1, e2⟩
theorem RVs.get' : ∀ {xs : List AV} {vs : List V} {i : Nat} {v : V}, RVs K ρ B H xs vs → vs[i]? = some v → ∃ x, xs[i]? = some x ∧ RV K ρ B H x v := fun {xs vs i v} h e => by
  have hl := h.len
  have hi : i < xs.length := by rw [hl]; exact (List.getElem?_eq_some_iff.mp e).1
  obtain ⟨w, e1, e2⟩ := h.get (List.getElem?_eq_getElem hi)
  rw [e] at e1
  cases e1
  exact ⟨_, List.getElem?_eq_getElem hi, e2⟩
theorem RVs.app : ∀ {xs ys : List AV} {vs ws : List V}, RVs K ρ B H xs vs → RVs K ρ B H ys ws → RVs K ρ B H (xs ++ ys) (vs ++ ws)
  | [], _, _, _, h, k => by unfold RVs at h; subst h; exact k
  | x :: xs, ys, vs, ws, h, k => by
    unfold RVs at h
    obtain ⟨v, r, rfl, h1, h2⟩ := h
    exact RVs.cons h1 (RVs.app h2 k)
theorem RVs.set {x : AV} {v : V} (hx : RV K ρ B H x v) : ∀ {xs : List AV} {vs : List V} (i : Nat), RVs K ρ B H xs vs → RVs K ρ B H (xs.set i x) (vs.set i v)
  | [], _, _, h => by unfold RVs at h; subst h; exact RVs.nil
  | y :: xs, vs, i, h => by
    unfold RVs at h
    obtain ⟨w, r, rfl, h1, h2⟩ := h
    cases i with
    | zero => exact RVs.cons hx h2
    | succ i => exact RVs.cons h1 (RVs.set hx i h2)
theorem RVs.take : ∀ {xs : List AV} {vs : List V} (n : Nat), RVs K ρ B H xs vs → RVs K ρ B H (xs.take n) (vs.take n)
  | _, _, 0, _ => by simp only [List.take_zero]; exact RVs.nil
  | [], _, _ + 1, h => by unfold RVs at h; subst h; exact RVs.nil
  | x :: xs, vs, n + 1, h => by
    unfold RVs at h
    obtain ⟨w, r, rfl, h1, h2⟩ := h
    exact RVs.cons h1 (RVs.take n h2)
theorem RVs.drop : ∀ {xs : List AV} {vs : List V} (n : Nat), RVs K ρ B H xs vs → RVs K ρ B H (xs.drop n) (vs.drop n)
  | _, _, 0, h => h
  | [], _, _ + 1, h => by unfold RVs at h; subst h; exact RVs.nil
  | x :: xs, vs, n + 1, h => by
    unfold RVs at h
    obtain ⟨w, r, rfl, h1, h2⟩ := h
    exact RVs.drop n h2
theorem RVs.rev {xs : List AV} {vs : List V} (h : RVs K ρ B H xs vs) : RVs K ρ B H xs.reverse vs.reverse := by
  induction xs generalizing vs with
  | nil => unfold RVs at h; subst h; exact RVs.nil
  | cons x xs ih =>
    unfold RVs at h
    obtain ⟨w, r, rfl, h1, h2⟩ := h
    rw [List.reverse_cons, List.reverse_cons]
    exact (ih h2).app (RVs.cons h1 RVs.nil)
theorem RVs.rep {xs : List AV} {vs : List V} (h : RVs K ρ B H xs vs) : ∀ k : Nat, RVs K ρ B H (List.replicate k xs).flatten (List.replicate k vs).flatten
  | 0 => RVs.nil
  | k + 1 => by
    rw [List.replicate_succ, List.replicate_succ, List.flatten_cons, List.flatten_cons]
    exact h.app (RVs.rep h k)
theorem RVs.intsA : ∀ (ns : List Int), RVs K ρ B H (ns.map AV.int) (ns.map V.int)
  | [] => RVs.nil
  | n :: ns => RVs.cons (by unfold RV; rfl) (RVs.intsA ns)
theorem ints_of : ∀ {xs : List AV} {ns : List Int} {vs : List V}, D.intsA xs = some ns → RVs K ρ B H xs vs → vs = ns.map V.int
  | [], ns, vs, e, h => by
    unfold D.intsA at e; cases e
    unfold RVs at h; exact h
  | .int i :: r, ns, vs, e, h => by
    unfold D.intsA at e
    cases q : D.intsA r with
    | none => rw [q] at e; cases e
    | some ms =>
      rw [q] at e
      simp at e
      subst e
      unfold RVs at h
      obtain ⟨v, t, rfl, h1, h2⟩ := h
      unfold RV at h1
      rw [h1, ints_of q h2]
      rfl
  | .non :: _, _, _, e, _ => by simp [D.intsA] at e
  | .bl _ :: _, _, _, e, _ => by simp [D.intsA] at e
  | .str _ :: _, _, _, e, _ => by simp [D.intsA] at e
  | .tup _ :: _, _, _, e, _ => by simp [D.intsA] at e
  | .lst _ :: _, _, _, e, _ => by simp [D.intsA] at e
  | .dct _ :: _, _, _, e, _ => by simp [D.intsA] at e
  | .ref _ :: _, _, _, e, _ => by simp [D.intsA] at e
  | .ro _ :: _, _, _, e, _ => by simp [D.intsA] at e
theorem bls_of : ∀ {xs : List AV} {ns : List Bool} {vs : List V}, D.bls xs = some ns → RVs K ρ B H xs vs → vs = ns.map V.bl
  | [], ns, vs, e, h => by
    unfold D.bls at e; cases e
    unfold RVs at h; exact h
  | .bl i :: r, ns, vs, e, h => by
    unfold D.bls at e
    cases q : D.bls r with
    | none => rw [q] at e; cases e
    | some ms =>
      rw [q] at e
      simp at e
      subst e
      unfold RVs at h
      obtain ⟨v, t, rfl, h1, h2⟩ := h
      unfold RV at h1
      rw [h1, bls_of q h2]
      rfl
  | .non :: _, _, _, e, _ => by simp [D.bls] at e
  | .int _ :: _, _, _, e, _ => by simp [D.bls] at e
  | .str _ :: _, _, _, e, _ => by simp [D.bls] at e
  | .tup _ :: _, _, _, e, _ => by simp [D.bls] at e
  | .lst _ :: _, _, _, e, _ => by simp [D.bls] at e
  | .dct _ :: _, _, _, e, _ => by simp [D.bls] at e
  | .ref _ :: _, _, _, e, _ => by simp [D.bls] at e
  | .ro _ :: _, _, _, e, _ => by simp [D.bls] at e
end

def RFs (K : PySem.W.Frag) (ρ : List Addr) (B : Addr → Prop) (H : Hp) : List (Str × AV) → List (Str × V) → Prop
  | [], us => us = []
  | (k, x) :: r, us => ∃ v t, us = (k, v) :: t ∧ RV K ρ B H x v ∧ RFs K ρ B H r t
theorem RFs.ext {K : PySem.W.Frag} {b : Bool} {ρ ρ' : List Addr} {B : Addr → Prop} {H H' : Hp} (e : Ext b ρ H ρ' H') : ∀ (fs : List (Str × AV)) {us : List (Str × V)}, RFs K ρ B H fs us → RFs K ρ' B H' fs us
  | [], _, h => h
  | (k, x) :: r, us, h => by
    obtain ⟨v, t, rfl, h1, h2⟩ := h
    exact ⟨v, t, rfl, h1.ext e x, RFs.ext e r h2⟩
theorem RFs.anti {K : PySem.W.Frag} {ρ : List Addr} {B B' : Addr → Prop} {H : Hp} (hB : ∀ a, B' a → B a) : ∀ (fs : List (Str × AV)) {us : List (Str × V)}, RFs K ρ B H fs us → RFs K ρ B' H fs us
  | [], _, h => h
  | (k, x) :: r, us, h => by
    obtain ⟨v, t, rfl, h1, h2⟩ := h
    exact ⟨v, t, rfl, h1.anti hB x, RFs.anti hB r h2⟩
def RO (P : Pm) (ρ : List Addr) (B : Addr → Prop) (H : Hp) : AO → HO → Prop
  | .lst xs, u => ∃ vs, u = .lst vs ∧ RVs P.K ρ B H xs vs
  | .dct kvs, u => ∃ us, u = .dK us ∧ RKs P.K ρ B H kvs us
  | .ins c fs, u => ∃ dx us, u = .ins (P.cl c) dx us ∧ RFs P.K ρ B H fs us
theorem RO.ext {P : Pm} {b : Bool} {ρ ρ' : List Addr} {B : Addr → Prop} {H H' : Hp} (e : Ext b ρ H ρ' H') : ∀ (o : AO) {u : HO}, RO P ρ B H o u → RO P ρ' B H' o u
  | .lst xs, _, ⟨vs, h1, h2⟩ => ⟨vs, h1, h2.ext e xs⟩
  | .dct kvs, _, ⟨vs, h1, h2⟩ => ⟨vs, h1, h2.ext e kvs⟩
  | .ins c fs, _, ⟨dx, vs, h1, h2⟩ => ⟨dx, vs, h1, h2.ext e fs⟩
theorem RO.anti {P : Pm} {ρ : List Addr} {B B' : Addr → Prop} {H : Hp} (hB : ∀ a, B' a → B a) : ∀ (o : AO) {u : HO}, RO P ρ B H o u → RO P ρ B' H o u
  | .lst xs, _, ⟨vs, h1, h2⟩ => ⟨vs, h1, h2.anti hB xs⟩
  | .dct kvs, _, ⟨vs, h1, h2⟩ => ⟨vs, h1, h2.anti hB kvs⟩
  | .ins c fs, _, ⟨dx, vs, h1, h2⟩ => ⟨dx, vs, h1, h2.anti hB fs⟩

structure RH (P : Pm) (ρ : List Addr) (B : Addr → Prop) (H : Hp) (h : AH) : Prop where
  len : ρ.length = h.length
  nd : ρ.Nodup
  out : ∀ a ∈ ρ, ¬ B a
  lvB : ∀ a, B a → H a ≠ none
  obj : ∀ (i : Nat) (o : AO), h[i]? = some o → ∃ a u, ρ[i]? = some a ∧ H a = some u ∧ RO P ρ B H o u

section
variable {P : Pm} {b : Bool} {ρ ρ' : List Addr} {B B' : Addr → Prop} {H H' : Hp} {h h' : AH}
theorem RH.lvR (r : RH P ρ B H h) : ∀ a ∈ ρ, H a ≠ none := fun a ha => by
  obtain ⟨i, hi, rfl⟩ := List.getElem_of_mem ha
  have hi' : i < h.length := by rw [← r.len]; exact hi
  obtain ⟨a', u, e1, e2, _⟩ := r.obj i _ (List.getElem?_eq_getElem hi')
  rw [List.getElem?_eq_getElem hi] at e1
  cases e1
  rw [e2]; simp
theorem RH.anti (r : RH P ρ B H h) (hB : ∀ a, B' a → B a) : RH P ρ B' H h :=
  ⟨r.len, r.nd, fun a ha z => r.out a ha (hB a z), fun a ha => r.lvB a (hB a ha), fun i o e => by
    obtain ⟨a, u, e1, e2, e3⟩ := r.obj i o e
    exact ⟨a, u, e1, e2, e3.anti hB o⟩⟩
/-- what stands still, and a new thing of no name -/
theorem RH.frz (r : RH P ρ B H h) {p : Addr} {u : HO} (hp : H p = none) : RH P ρ B (upd H p u) h := by
  have e : Ext true ρ H ρ (upd H p u) := Ext.new hp
  refine ⟨r.len, r.nd, r.out, fun a ha => e.live a (r.lvB a ha), fun i o he => ?_⟩
  obtain ⟨a, w, e1, e2, e3⟩ := r.obj i o he
  exact ⟨a, w, e1, e.keep a w (.inl rfl) e2, e3.ext e o⟩
/-- a new thing of ours -/
theorem RH.new (r : RH P ρ B H h) {p : Addr} {u : HO} {o : AO} (hp : H p = none) (ho : RO P ρ B H o u) : RH P (ρ ++ [p]) B (upd H p u) (h ++ [o]) := by
  have e : Ext true ρ H (ρ ++ [p]) (upd H p u) := Ext.newR hp
  have np : p ∉ ρ := fun z => r.lvR p z hp
  refine ⟨by simp [r.len], ?_, fun a ha => ?_, fun a ha => e.live a (r.lvB a ha), fun i q he => ?_⟩
  · exact List.nodup_append.mpr ⟨r.nd, by simp, fun a ha b hb z => by
      have hb' := List.mem_singleton.mp hb
      subst hb' z
      exact np ha⟩
  · rcases List.mem_append.mp ha with ha | ha
    · exact r.out a ha
    · rw [List.mem_singleton.mp ha]
      intro z
      exact r.lvB p z hp
  · by_cases hi : i < h.length
    · rw [List.getElem?_append_left hi] at he
      obtain ⟨a, w, e1, e2, e3⟩ := r.obj i q he
      exact ⟨a, w, e.get e1, e.keep a w (.inl rfl) e2, e3.ext e q⟩
    · have hl : i = h.length := by
        have := (List.getElem?_eq_some_iff.mp he).1
        simp at this
        omega
      subst hl
      rw [List.getElem?_append_right (Nat.le_refl _)] at he
      simp at he
      subst he
      exact ⟨p, u, by rw [← r.len]; simp, upd_same, ho.ext e o⟩
/-- a thing of ours is changed -/
theorem RH.put (r : RH P ρ B H h) {i : Nat} {a : Addr} {u : HO} {o : AO} (ha : ρ[i]? = some a) (ho : RO P ρ B H o u) : RH P ρ B (upd H a u) (h.set i o) := by
  have hm : a ∈ ρ := List.mem_of_getElem? ha
  have e : Ext false ρ H ρ (upd H a u) := Ext.put hm
  refine ⟨by simp [r.len], r.nd, r.out, fun b hb => e.live b (r.lvB b hb), fun j q he => ?_⟩
  by_cases hj : j = i
  · subst hj
    have hl : j < h.length := by
      have := (List.getElem?_eq_some_iff.mp he).1
      simpa using this
    rw [List.getElem?_set_self hl] at he
    cases he
    exact ⟨a, u, ha, upd_same, ho.ext e _⟩
  · rw [List.getElem?_set_ne (Ne.symm hj)] at he
    obtain ⟨c, w, e1, e2, e3⟩ := r.obj j q he
    have nc : c ≠ a := fun z => by
      subst z
      obtain ⟨h1, g1⟩ := List.getElem?_eq_some_iff.mp e1
      obtain ⟨h2, g2⟩ := List.getElem?_eq_some_iff.mp ha
      exact hj ((List.getElem_inj r.nd).mp (g1.trans g2.symm))
    exact ⟨c, w, e1, by rw [upd_ne nc]; exact e2, e3.ext e q⟩
/-- something that is not ours nor of what it knows is changed -/
theorem RH.at {i : Nat} {a : Addr} {o : AO} (r : RH P ρ B H h) (ha : ρ[i]? = some a) (ho : h[i]? = some o) : ∃ u, H a = some u ∧ RO P ρ B H o u := by
  obtain ⟨a', u, e1, e2, e3⟩ := r.obj i o ho
  rw [ha] at e1
  cases e1
  exact ⟨u, e2, e3⟩
end
end D
end

section
namespace D
open PySem L2

/-- the foreign mutable things and the names' own ones -/
def Bo (B : Addr → Prop) (ow : List (Nat × Addr)) : Addr → Prop := fun a => B a ∨ a ∈ ow.map (·.2)
/-- a name's own list or dict -/
def OV (K : PySem.W.Frag) (ρ : List Addr) (B : Addr → Prop) (H : Hp) : AV → HO → Prop
  | .lst xs, u => ∃ vs, u = .lst vs ∧ RVs K ρ B H xs vs
  | .dct kvs, u => ∃ us, u = .dK us ∧ RKs K ρ B H kvs us
  | _, _ => False
structure RS (P : Pm) (ρ : List Addr) (B : Addr → Prop) (ow : List (Nat × Addr)) (H : Hp) (σa : AS) (σ : St) : Prop where
  len : σa.length = σ.length
  nd1 : (ow.map (·.1)).Nodup
  nd2 : (ow.map (·.2)).Nodup
  out : ∀ p ∈ ow, p.2 ∉ ρ ∧ ¬ B p.2
  val : ∀ (i : Nat) (av : AV), σa[i]? = some (some av) → i ∉ ow.map (·.1) → ∃ v, σ[i]? = some (some v) ∧ RV P.K ρ (Bo B ow) H av v
  own : ∀ p ∈ ow, ∃ av u, σa[p.1]? = some (some av) ∧ σ[p.1]? = some (some (.ref p.2)) ∧ H p.2 = some u ∧ OV P.K ρ (Bo B ow) H av u

/-- the heap has grown, over statements: the names' own things may change, new ones may be had -/
structure ExtS (b : Bool) (ρ : List Addr) (ow : List (Nat × Addr)) (H : Hp) (ρ' : List Addr) (ow' : List (Nat × Addr)) (H' : Hp) : Prop where
  pre : ∃ l, ρ' = ρ ++ l ∧ ∀ a ∈ l, H a = none
  keep : ∀ a o, (b = true ∨ a ∉ ρ) → a ∉ ow.map (·.2) → H a = some o → H' a = some o
  live : ∀ a, H a ≠ none → H' a ≠ none
  own : ∀ a ∈ ow'.map (·.2), a ∈ ow.map (·.2) ∨ H a = none

section
variable {P : Pm} {K : PySem.W.Frag} {b : Bool} {ρ ρ' ρ1 ρ2 : List Addr} {B B' : Addr → Prop} {H H' H1 H2 : Hp} {ow ow' ow1 ow2 : List (Nat × Addr)} {σa σa' : AS} {σ σ' : St} {h h' : AH}
theorem ExtS.refl : ExtS b ρ ow H ρ ow H := ⟨⟨[], by simp, by simp⟩, fun _ _ _ _ h => h, fun _ h => h, fun _ h => .inl h⟩
theorem ExtS.of (e : Ext b ρ H ρ' H') : ExtS b ρ ow H ρ' ow H' := ⟨e.pre, fun a o h _ k => e.keep a o h k, e.live, fun _ h => .inl h⟩
theorem ExtS.trans (e : ExtS b ρ ow H ρ1 ow1 H1) (f : ExtS b ρ1 ow1 H1 ρ2 ow2 H2) : ExtS b ρ ow H ρ2 ow2 H2 := by
  obtain ⟨l, rfl, hl⟩ := e.pre
  obtain ⟨m, rfl, hm⟩ := f.pre
  have back : ∀ a, H1 a = none → H a = none := fun a z => by
    cases q : H a with
    | none => rfl
    | some o => exact absurd z (e.live a (by rw [q]; simp))
  refine ⟨⟨l ++ m, by simp, fun a ha => ?_⟩, fun a o h w k => ?_, fun a h => f.live a (e.live a h), fun a ha => ?_⟩
  · rcases List.mem_append.mp ha with ha | ha
    · exact hl a ha
    · exact back a (hm a ha)
  · refine f.keep a o ?_ (fun z => ?_) (e.keep a o h w k)
    · rcases h with h | h
      · exact .inl h
      · refine .inr fun z => ?_
        rcases List.mem_append.mp z with z | z
        · exact h z
        · rw [hl a z] at k; cases k
    · rcases e.own a z with z | z
      · exact w z
      · rw [z] at k; cases k
  · rcases f.own a ha with z | z
    · exact e.own a z
    · exact .inr (back a z)
theorem ExtS.fewer (e : ExtS b ρ ow H ρ' ow' H') (hs : ∀ a ∈ ow1.map (·.2), a ∈ ow'.map (·.2)) : ExtS b ρ ow H ρ' ow1 H' := ⟨e.pre, e.keep, e.live, fun a ha => e.own a (hs a ha)⟩
theorem ExtS.toNil (e : ExtS b ρ ow H ρ' ow' H') : ExtS b ρ ow H ρ' [] H' := e.fewer (by simp)
/-- forgetting owned ones at the start -/
theorem ExtS.start (e : ExtS b ρ ow1 H ρ' ow' H') (hs : ∀ a ∈ ow1.map (·.2), a ∈ ow.map (·.2)) : ExtS b ρ ow H ρ' ow' H' :=
  ⟨e.pre, fun a o h w k => e.keep a o h (fun z => w (hs a z)) k, e.live, fun a ha => (e.own a ha).imp_left (hs a)⟩
theorem ExtS.ext (e : ExtS b ρ [] H ρ' ow' H') : Ext b ρ H ρ' H' := ⟨e.pre, fun a o h k => e.keep a o h (by simp) k, e.live⟩
theorem ExtS.notin (e : ExtS b ρ ow H ρ' ow' H') {a : Addr} (h : a ∉ ρ) (k : H a ≠ none) : a ∉ ρ' := by
  obtain ⟨l, rfl, hl⟩ := e.pre
  intro z
  rcases List.mem_append.mp z with z | z
  · exact h z
  · exact k (hl a z)
theorem ExtS.notow (e : ExtS b ρ ow H ρ' ow' H') {a : Addr} (h : ¬ Bo B ow a) (k : H a ≠ none) : ¬ Bo B ow' a := fun z => by
  rcases z with z | z
  · exact h (.inl z)
  · rcases e.own a z with z | z
    · exact h (.inr z)
    · exact k z
theorem Bo.nil : ∀ a, B a → Bo B [] a := fun _ h => .inl h

mutual
theorem RV.extS (e : ExtS b ρ ow H ρ' ow' H') : ∀ (x : AV) {v : V}, RV K ρ (Bo B ow) H x v → RV K ρ' (Bo B ow') H' x v
  | .non, _, h => h
  | .bl _, _, h => h
  | .int _, _, h => h
  | .str _, _, h => h
  | .tup xs, v, h => by
    unfold RV at h ⊢
    obtain ⟨a, vs, rfl, h1, h2⟩ := h
    refine ⟨a, vs, rfl, h1.imp_left fun ⟨g1, g2, g3⟩ => ⟨e.notin g1 (rd_ne g3), e.notow g2 (rd_ne g3), ?_⟩, RVs.extS e xs h2⟩
    rcases g3 with g3 | ⟨o, g3⟩
    · exact .inl (e.keep _ _ (.inr g1) (fun z => g2 (.inr z)) g3)
    · exact .inr ⟨o, e.keep _ _ (.inr g1) (fun z => g2 (.inr z)) g3⟩
  | .lst xs, v, h => by
    unfold RV at h ⊢
    obtain ⟨a, vs, rfl, h1, h2, h3, h4⟩ := h
    exact ⟨a, vs, rfl, e.notin h1 (by rw [h3]; simp), e.notow h2 (by rw [h3]; simp), e.keep _ _ (.inr h1) (fun z => h2 (.inr z)) h3, RVs.extS e xs h4⟩
  | .dct kvs, v, h => by
    unfold RV at h ⊢
    obtain ⟨a, us, rfl, ⟨g1, g2, g3⟩, h2⟩ := h
    refine ⟨a, us, rfl, ⟨e.notin g1 (rd_ne g3), e.notow g2 (rd_ne g3), ?_⟩, RKs.extS e kvs h2⟩
    rcases g3 with g3 | ⟨o, g3⟩
    · exact .inl (e.keep _ _ (.inr g1) (fun z => g2 (.inr z)) g3)
    · exact .inr ⟨o, e.keep _ _ (.inr g1) (fun z => g2 (.inr z)) g3⟩
  | .ref i, v, h => by
    unfold RV at h ⊢
    obtain ⟨a, rfl, h1⟩ := h
    obtain ⟨l, rfl, hl⟩ := e.pre
    exact ⟨a, rfl, by rw [List.getElem?_append_left (List.getElem?_eq_some_iff.mp h1).1]; exact h1⟩
  | .ro xs, v, h => by
    unfold RV at h ⊢
    obtain ⟨a, vs, rfl, h1, h2⟩ := h
    refine ⟨a, vs, rfl, h1.imp_left fun ⟨g1, g2, g3⟩ => ⟨e.notin g1 (rd_ne g3), e.notow g2 (rd_ne g3), ?_⟩, RVs.extS e xs h2⟩
    rcases g3 with g3 | ⟨o, g3⟩
    · exact .inl (e.keep _ _ (.inr g1) (fun z => g2 (.inr z)) g3)
    · exact .inr ⟨o, e.keep _ _ (.inr g1) (fun z => g2 (.inr z)) g3⟩
theorem RVs.extS (e : ExtS b ρ ow H ρ' ow' H') : ∀ (xs : List AV) {vs : List V}, RVs K ρ (Bo B ow) H xs vs → RVs K ρ' (Bo B ow') H' xs vs
  | [], _, h => by unfold RVs at h ⊢; exact h
  | x :: xs, vs, h => by
    unfold RVs at h ⊢
    obtain ⟨v, r, rfl, h1, h2⟩ := h
    exact ⟨v, r, rfl, RV.extS e x h1, RVs.extS e xs h2⟩
theorem RKs.extS (e : ExtS b ρ ow H ρ' ow' H') : ∀ (kvs : List (AV × AV)) {us : List (Key × V)}, RKs K ρ (Bo B ow) H kvs us → RKs K ρ' (Bo B ow') H' kvs us
  | [], _, h => by unfold RKs at h ⊢; exact h
  | (k, x) :: r, us, h => by
    unfold RKs at h ⊢
    obtain ⟨k', v, t, rfl, h1, h2, h3⟩ := h
    exact ⟨k', v, t, rfl, h1, RV.extS e x h2, RKs.extS e r h3⟩
end

theorem RFs.extS (e : ExtS b ρ ow H ρ' ow' H') : ∀ (fs : List (Str × AV)) {us : List (Str × V)}, RFs K ρ (Bo B ow) H fs us → RFs K ρ' (Bo B ow') H' fs us
  | [], _, h => h
  | (k, x) :: r, us, h => by
    obtain ⟨v, t, rfl, h1, h2⟩ := h
    exact ⟨v, t, rfl, h1.extS e x, RFs.extS e r h2⟩
theorem OV.ext (e : Ext b ρ H ρ' H') : ∀ (x : AV) {u : HO}, OV K ρ B H x u → OV K ρ' B H' x u
  | .lst xs, _, ⟨vs, h1, h2⟩ => ⟨vs, h1, h2.ext e xs⟩
  | .dct xs, _, ⟨vs, h1, h2⟩ => ⟨vs, h1, h2.ext e xs⟩
theorem OV.anti (hB : ∀ a, B' a → B a) : ∀ (x : AV) {u : HO}, OV K ρ B H x u → OV K ρ B' H x u
  | .lst xs, _, ⟨vs, h1, h2⟩ => ⟨vs, h1, h2.anti hB xs⟩
  | .dct xs, _, ⟨vs, h1, h2⟩ => ⟨vs, h1, h2.anti hB xs⟩
theorem RS.ext (r : RS P ρ B ow H σa σ) (e : Ext b ρ H ρ' H') : RS P ρ' B ow H' σa σ := by
  refine ⟨r.len, r.nd1, r.nd2, fun p hp => ?_, fun i av h1 h2 => ?_, fun p hp => ?_⟩
  · obtain ⟨av, u, _, _, h3, _⟩ := r.own p hp
    exact ⟨e.notin (r.out p hp).1 (by rw [h3]; simp), (r.out p hp).2⟩
  · obtain ⟨v, h3, h4⟩ := r.val i av h1 h2
    exact ⟨v, h3, h4.ext e av⟩
  · obtain ⟨av, u, h1, h2, h3, h4⟩ := r.own p hp
    exact ⟨av, u, h1, h2, e.keep _ _ (.inr (r.out p hp).1) h3, h4.ext e av⟩
theorem mem_fst {p : Nat × Addr} (h : p ∈ ow) : p.1 ∈ ow.map (·.1) := List.mem_map_of_mem h
theorem mem_snd {p : Nat × Addr} (h : p ∈ ow) : p.2 ∈ ow.map (·.2) := List.mem_map_of_mem h
/-- a name that owns nothing is given a value -/
theorem RS.set (r : RS P ρ B ow H σa σ) {i : Nat} {av : AV} {v : V} (hi : i ∉ ow.map (·.1)) (hv : RV P.K ρ (Bo B ow) H av v) : RS P ρ B ow H (σa.set i (some av)) (σ.set i (some v)) := by
  refine ⟨by simp [r.len], r.nd1, r.nd2, r.out, fun j x h1 h2 => ?_, fun p hp => ?_⟩
  · by_cases hj : j = i
    · subst hj
      have hl : j < σa.length := by
        have := (List.getElem?_eq_some_iff.mp h1).1
        simpa using this
      rw [List.getElem?_set_self hl] at h1
      cases h1
      exact ⟨v, by rw [List.getElem?_set_self (by rw [← r.len]; exact hl)], hv⟩
    · rw [List.getElem?_set_ne (Ne.symm hj)] at h1
      obtain ⟨w, h3, h4⟩ := r.val j x h1 h2
      exact ⟨w, by rw [List.getElem?_set_ne (Ne.symm hj)]; exact h3, h4⟩
  · have hj : i ≠ p.1 := fun z => hi (by rw [z]; exact mem_fst hp)
    obtain ⟨x, u, h1, h2, h3, h4⟩ := r.own p hp
    exact ⟨x, u, by rw [List.getElem?_set_ne hj]; exact h1, by rw [List.getElem?_set_ne hj]; exact h2, h3, h4⟩
/-- a name's value is forgotten -/
theorem RS.wipe1 (r : RS P ρ B ow H σa σ) {i : Nat} (hi : i ∉ ow.map (·.1)) : RS P ρ B ow H (σa.set i none) (σ.set i none) := by
  refine ⟨by simp [r.len], r.nd1, r.nd2, r.out, fun j x h1 h2 => ?_, fun p hp => ?_⟩
  · by_cases hj : j = i
    · subst hj
      have hl : j < σa.length := by
        have := (List.getElem?_eq_some_iff.mp h1).1
        simpa using this
      rw [List.getElem?_set_self hl] at h1
      cases h1
    · rw [List.getElem?_set_ne (Ne.symm hj)] at h1
      obtain ⟨w, h3, h4⟩ := r.val j x h1 h2
      exact ⟨w, by rw [List.getElem?_set_ne (Ne.symm hj)]; exact h3, h4⟩
  · have hj : i ≠ p.1 := fun z => hi (by rw [z]; exact mem_fst hp)
    obtain ⟨x, u, h1, h2, h3, h4⟩ := r.own p hp
    exact ⟨x, u, by rw [List.getElem?_set_ne hj]; exact h1, by rw [List.getElem?_set_ne hj]; exact h2, h3, h4⟩
theorem RS.wipe (r : RS P ρ B ow H σa σ) : ∀ {vs : List Nat}, (∀ i ∈ vs, i ∉ ow.map (·.1)) → RS P ρ B ow H (wipeA σa vs) (wipe σ vs)
  | [], _ => r
  | v :: vs, h => (RS.wipe r (vs := vs) fun i hi => h i (List.mem_cons_of_mem _ hi)).wipe1 (h v List.mem_cons_self)
/-- names that own things are known no longer as owners: what they own stands still from now on -/
theorem RS.drop (r : RS P ρ B ow H σa σ) (q : Nat → Bool) : RS P ρ B (ow.filter fun p => q p.1) H σa σ := by
  have sub : ∀ p, p ∈ ow.filter (fun p => q p.1) → p ∈ ow := fun p hp => (List.mem_filter.mp hp).1
  have hB : ∀ a, Bo B (ow.filter fun p => q p.1) a → Bo B ow a := fun a z => by
    rcases z with z | z
    · exact .inl z
    · obtain ⟨p, hp, rfl⟩ := List.mem_map.mp z
      exact .inr (mem_snd (sub p hp))
  refine ⟨r.len, r.nd1.sublist (List.filter_sublist.map _), r.nd2.sublist (List.filter_sublist.map _), fun p hp => r.out p (sub p hp), fun i av h1 h2 => ?_, fun p hp => ?_⟩
  · by_cases hi : i ∈ ow.map (·.1)
    · obtain ⟨p, hp, rfl⟩ := List.mem_map.mp hi
      obtain ⟨x, u, h3, h4, h5, h6⟩ := r.own p hp
      rw [h1] at h3
      cases h3
      refine ⟨_, h4, ?_⟩
      have np : ¬ Bo B (ow.filter fun p => q p.1) p.2 := fun z => by
        rcases z with z | z
        · exact (r.out p hp).2 z
        · obtain ⟨p', hp', e⟩ := List.mem_map.mp z
          have e1 : p' = p := by
            obtain ⟨i, hi1, g1⟩ := List.getElem_of_mem (sub p' hp')
            obtain ⟨j, hj1, g2⟩ := List.getElem_of_mem hp
            have n2 := r.nd2
            have e2 : (ow.map (·.2))[i]'(by simpa using hi1) = (ow.map (·.2))[j]'(by simpa using hj1) := by simp [g1, g2, e]
            have e3 := (List.getElem_inj n2).mp e2
            subst e3
            rw [← g1, ← g2]
          subst e1
          exact h2 (mem_fst hp')
      have h6' := h6.anti hB
      cases av with
      | lst xs =>
        obtain ⟨vs, rfl, g⟩ := h6'
        unfold RV
        exact ⟨_, vs, rfl, (r.out p hp).1, np, h5, g⟩
      | dct xs =>
        obtain ⟨vs, rfl, g⟩ := h6'
        unfold RV
        exact ⟨_, vs, rfl, ⟨(r.out p hp).1, np, .inl h5⟩, g⟩
      | non => exact h6'.elim
      | bl _ => exact h6'.elim
      | int _ => exact h6'.elim
      | str _ => exact h6'.elim
      | tup _ => exact h6'.elim
      | ref _ => exact h6'.elim
      | ro _ => exact h6'.elim
    · obtain ⟨v, h3, h4⟩ := r.val i av h1 hi
      exact ⟨v, h3, h4.anti hB av⟩
  · obtain ⟨av, u, h1, h2, h3, h4⟩ := r.own p (sub p hp)
    exact ⟨av, u, h1, h2, h3, h4.anti hB av⟩
theorem filter_fst (q : Nat → Bool) : ∀ ow : List (Nat × Addr), (ow.filter fun p => q p.1).map (·.1) = (ow.map (·.1)).filter q
  | [] => rfl
  | p :: r => by
    by_cases h : q p.1 = true
    · simp [List.filter_cons, h, filter_fst q r]
    · simp [List.filter_cons, h, filter_fst q r]
theorem filter_snd (q : Nat → Bool) : ∀ a ∈ (ow.filter fun p => q p.1).map (·.2), a ∈ ow.map (·.2) := fun a ha => by
  obtain ⟨p, hp, rfl⟩ := List.mem_map.mp ha
  exact mem_snd (List.mem_filter.mp hp).1
theorem RH.drop (r : RH P ρ (Bo B ow) H h) (q : Nat → Bool) : RH P ρ (Bo B (ow.filter fun p => q p.1)) H h := r.anti fun a z => by
  rcases z with z | z
  · exact .inl z
  · exact .inr (filter_snd q a z)
/-- a name gets a new thing of its own -/
theorem RS.take (r : RS P ρ B ow H σa σ) {i : Nat} {a : Addr} {av : AV} {u : HO} (hi : i ∉ ow.map (·.1)) (hl : i < σa.length) (ha : H a = none) (hr : a ∉ ρ) (hb : ¬ B a) (ho : OV P.K ρ (Bo B ow) H av u) :
    RS P ρ B ((i, a) :: ow) (upd H a u) (σa.set i (some av)) (σ.set i (some (.ref a))) := by
  have e : Ext true ρ H ρ (upd H a u) := Ext.new ha
  have r1 := r.ext e
  have na : a ∉ ow.map (·.2) := fun z => by
    obtain ⟨p, hp, rfl⟩ := List.mem_map.mp z
    obtain ⟨_, _, _, _, h3, _⟩ := r.own p hp
    rw [ha] at h3; cases h3
  have up : ∀ x v, RV P.K ρ (Bo B ow) H x v → RV P.K ρ (Bo B ((i, a) :: ow)) (upd H a u) x v := fun x v hx => by
    have ee : ExtS true ρ ow H ρ ((i, a) :: ow) (upd H a u) := ⟨e.pre, fun c o h1 _ h2 => e.keep c o h1 h2, e.live, fun c hc => by
      rcases List.mem_cons.mp hc with rfl | hc
      · exact .inr ha
      · exact .inl hc⟩
    exact hx.extS ee x
  have upO : ∀ x w, OV P.K ρ (Bo B ow) H x w → OV P.K ρ (Bo B ((i, a) :: ow)) (upd H a u) x w := fun x w hx => by
    have ee : ExtS true ρ ow H ρ ((i, a) :: ow) (upd H a u) := ⟨e.pre, fun c o h1 _ h2 => e.keep c o h1 h2, e.live, fun c hc => by
      rcases List.mem_cons.mp hc with rfl | hc
      · exact .inr ha
      · exact .inl hc⟩
    cases x with
    | lst xs =>
      obtain ⟨vs, h1, h2⟩ := hx
      exact ⟨vs, h1, h2.extS ee xs⟩
    | dct xs =>
      obtain ⟨vs, h1, h2⟩ := hx
      exact ⟨vs, h1, h2.extS ee xs⟩
    | non => exact hx.elim
    | bl _ => exact hx.elim
    | int _ => exact hx.elim
    | str _ => exact hx.elim
    | tup _ => exact hx.elim
    | ref _ => exact hx.elim
    | ro _ => exact hx.elim
  refine ⟨by simp [r.len], List.nodup_cons.mpr ⟨hi, r.nd1⟩, List.nodup_cons.mpr ⟨na, r.nd2⟩, fun p hp => ?_, fun j x h1 h2 => ?_, fun p hp => ?_⟩
  · rcases List.mem_cons.mp hp with rfl | hp
    · exact ⟨hr, hb⟩
    · exact r.out p hp
  · have hj : j ≠ i := fun z => h2 (by rw [z]; exact List.mem_cons_self)
    have hj2 : j ∉ ow.map (·.1) := fun z => h2 (List.mem_cons_of_mem _ z)
    rw [List.getElem?_set_ne (Ne.symm hj)] at h1
    obtain ⟨w, h3, h4⟩ := r.val j x h1 hj2
    exact ⟨w, by rw [List.getElem?_set_ne (Ne.symm hj)]; exact h3, up x w h4⟩
  · rcases List.mem_cons.mp hp with rfl | hp
    · exact ⟨av, u, by rw [List.getElem?_set_self hl], by rw [List.getElem?_set_self (by rw [← r.len]; exact hl)], upd_same, upO av u ho⟩
    · have hj : i ≠ p.1 := fun z => hi (by rw [z]; exact mem_fst hp)
      obtain ⟨x, w, h1, h2, h3, h4⟩ := r.own p hp
      exact ⟨x, w, by rw [List.getElem?_set_ne hj]; exact h1, by rw [List.getElem?_set_ne hj]; exact h2, e.keep _ _ (.inl rfl) h3, upO x w h4⟩
/-- a name's own thing is changed -/
theorem RS.chg (r : RS P ρ B ow H σa σ) {i : Nat} {a : Addr} {av : AV} {u : HO} (hm : (i, a) ∈ ow) (ho : OV P.K ρ (Bo B ow) H av u) :
    RS P ρ B ow (upd H a u) (σa.set i (some av)) σ ∧ ExtS true ρ ow H ρ ow (upd H a u) := by
  have ee : ExtS true ρ ow H ρ ow (upd H a u) := ⟨⟨[], by simp, by simp⟩, fun c o _ h2 h3 => by
      rw [upd_ne (fun z => h2 (by rw [z]; exact mem_snd hm))]; exact h3, fun c hc => by
      by_cases z : c = a
      · subst z; rw [upd_same]; simp
      · rw [upd_ne z]; exact hc, fun c hc => .inl hc⟩
  have upO : ∀ x w, OV P.K ρ (Bo B ow) H x w → OV P.K ρ (Bo B ow) (upd H a u) x w := fun x w hx => by
    cases x with
    | lst xs =>
      obtain ⟨vs, h1, h2⟩ := hx
      exact ⟨vs, h1, h2.extS ee xs⟩
    | dct xs =>
      obtain ⟨vs, h1, h2⟩ := hx
      exact ⟨vs, h1, h2.extS ee xs⟩
    | non => exact hx.elim
    | bl _ => exact hx.elim
    | int _ => exact hx.elim
    | str _ => exact hx.elim
    | tup _ => exact hx.elim
    | ref _ => exact hx.elim
    | ro _ => exact hx.elim
  refine ⟨⟨by simp [r.len], r.nd1, r.nd2, r.out, fun j x h1 h2 => ?_, fun p hp => ?_⟩, ee⟩
  · have hj : j ≠ i := fun z => h2 (by rw [z]; exact mem_fst hm)
    rw [List.getElem?_set_ne (Ne.symm hj)] at h1
    obtain ⟨w, h3, h4⟩ := r.val j x h1 h2
    exact ⟨w, h3, h4.extS ee x⟩
  · by_cases hj : p.1 = i
    · have e1 : p = (i, a) := by
        obtain ⟨k, hk1, g1⟩ := List.getElem_of_mem hp
        obtain ⟨j, hj1, g2⟩ := List.getElem_of_mem hm
        have e2 : (ow.map (·.1))[k]'(by simpa using hk1) = (ow.map (·.1))[j]'(by simpa using hj1) := by simp [g1, g2, hj]
        have e3 := (List.getElem_inj r.nd1).mp e2
        subst e3
        rw [← g1, ← g2]
      subst e1
      obtain ⟨x, w, h1, h2, h3, h4⟩ := r.own _ hp
      exact ⟨av, u, by rw [List.getElem?_set_self (List.getElem?_eq_some_iff.mp h1).1], h2, upd_same, upO av u ho⟩
    · obtain ⟨x, w, h1, h2, h3, h4⟩ := r.own p hp
      have na : p.2 ≠ a := fun z => by
        obtain ⟨k, hk1, g1⟩ := List.getElem_of_mem hp
        obtain ⟨j, hj1, g2⟩ := List.getElem_of_mem hm
        have e2 : (ow.map (·.2))[k]'(by simpa using hk1) = (ow.map (·.2))[j]'(by simpa using hj1) := by simp [g1, g2, z]
        have e3 := (List.getElem_inj r.nd2).mp e2
        subst e3
        exact hj (by rw [← g1, g2])
      exact ⟨x, w, by rw [List.getElem?_set_ne (fun z => hj z.symm)]; exact h1, h2, by rw [upd_ne na]; exact h3, upO x w h4⟩
theorem RH.chg (r : RH P ρ (Bo B ow) H h) (rs : RS P ρ B ow H σa σ) {i : Nat} {a : Addr} {u : HO} (hm : (i, a) ∈ ow) : RH P ρ (Bo B ow) (upd H a u) h := by
  have ee : ExtS true ρ ow H ρ ow (upd H a u) := ⟨⟨[], by simp, by simp⟩, fun c o _ h2 h3 => by
      rw [upd_ne (fun z => h2 (by rw [z]; exact mem_snd hm))]; exact h3, fun c hc => by
      by_cases z : c = a
      · subst z; rw [upd_same]; simp
      · rw [upd_ne z]; exact hc, fun c hc => .inl hc⟩
  refine ⟨r.len, r.nd, r.out, fun c hc => ee.live c (r.lvB c hc), fun j o he => ?_⟩
  obtain ⟨c, w, e1, e2, e3⟩ := r.obj j o he
  have nc : c ≠ a := fun z => (rs.out _ hm).1 (by rw [← z]; exact List.mem_of_getElem? e1)
  refine ⟨c, w, e1, by rw [upd_ne nc]; exact e2, ?_⟩
  cases o with
  | lst xs =>
    obtain ⟨vs, h1, h2⟩ := e3
    exact ⟨vs, h1, h2.extS ee xs⟩
  | dct xs =>
    obtain ⟨vs, h1, h2⟩ := e3
    exact ⟨vs, h1, h2.extS ee xs⟩
  | ins c fs =>
    obtain ⟨dx, us, h1, h2⟩ := e3
    exact ⟨dx, us, h1, RFs.extS ee fs h2⟩
end

def RX (K : PySem.W.Frag) (ρ : List Addr) (B : Addr → Prop) (H : Hp) : XF → Option Addr → Prop
  | none, d => d = none
  | some fs, d => ∃ dx us, d = some dx ∧ dx ∉ ρ ∧ ¬ B dx ∧ H dx = some (.xd us) ∧ RFs K ρ B H fs us

/-- a value that may be read only: also a name's own list or dict -/
def RVb (K : PySem.W.Frag) (ρ : List Addr) (B : Addr → Prop) (H : Hp) (av : AV) (v : V) : Prop :=
  RV K ρ B H av v ∨ (∃ a u, v = .ref a ∧ a ∉ ρ ∧ H a = some u ∧ OV K ρ B H av u)
theorem RVb.ext {K : PySem.W.Frag} {b : Bool} {ρ ρ' : List Addr} {B : Addr → Prop} {H H' : Hp} {av : AV} {v : V} (h : RVb K ρ B H av v) (e : Ext b ρ H ρ' H') : RVb K ρ' B H' av v := by
  rcases h with h | ⟨a, u, h1, h2, h3, h4⟩
  · exact .inl (h.ext e av)
  · exact .inr ⟨a, u, h1, e.notin h2 (by rw [h3]; simp), e.keep _ _ (.inr h2) h3, h4.ext e av⟩
def RVbs (K : PySem.W.Frag) (ρ : List Addr) (B : Addr → Prop) (H : Hp) : List AV → List V → Prop
  | [], vs => vs = []
  | x :: xs, vs => ∃ v r, vs = v :: r ∧ RVb K ρ B H x v ∧ RVbs K ρ B H xs r
theorem RVbs.ext {K : PySem.W.Frag} {b : Bool} {ρ ρ' : List Addr} {B : Addr → Prop} {H H' : Hp} (e : Ext b ρ H ρ' H') : ∀ (xs : List AV) {vs : List V}, RVbs K ρ B H xs vs → RVbs K ρ' B H' xs vs
  | [], _, h => h
  | x :: xs, vs, h => by
    obtain ⟨v, r, rfl, h1, h2⟩ := h
    exact ⟨v, r, rfl, h1.ext e, RVbs.ext e xs h2⟩

def EPostB (P : Pm) (b : Bool) (W : WX) (ρ : List Addr) (B : Addr → Prop) (σ : St) (H : Hp) (Q : VK) : ER → Prop
  | .ok av h' => ∀ ρ' H' v, Ext b ρ H ρ' H' → RH P ρ' B H' h' → RVb P.K ρ' B H' av v → Q v H'
  | .exc c f h' => ∀ ρ' H' d, Ext b ρ H ρ' H' → RH P ρ' B H' h' → RX P.K ρ' B H' f d → W (P.ex c) d σ H'
  | .stuck => False
def LPostB (P : Pm) (b : Bool) (W : WX) (ρ : List Addr) (B : Addr → Prop) (σ : St) (H : Hp) (Q : List V → Hp → Prop) : LR → Prop
  | .ok avs h' => ∀ ρ' H' vs, Ext b ρ H ρ' H' → RH P ρ' B H' h' → RVbs P.K ρ' B H' avs vs → Q vs H'
  | .exc c f h' => ∀ ρ' H' d, Ext b ρ H ρ' H' → RH P ρ' B H' h' → RX P.K ρ' B H' f d → W (P.ex c) d σ H'
  | .stuck => False
def EPost (P : Pm) (b : Bool) (W : WX) (ρ : List Addr) (B : Addr → Prop) (σ : St) (H : Hp) (Q : VK) : ER → Prop
  | .ok av h' => ∀ ρ' H' v, Ext b ρ H ρ' H' → RH P ρ' B H' h' → RV P.K ρ' B H' av v → Q v H'
  | .exc c f h' => ∀ ρ' H' d, Ext b ρ H ρ' H' → RH P ρ' B H' h' → RX P.K ρ' B H' f d → W (P.ex c) d σ H'
  | .stuck => False
def LPost (P : Pm) (b : Bool) (W : WX) (ρ : List Addr) (B : Addr → Prop) (σ : St) (H : Hp) (Q : List V → Hp → Prop) : LR → Prop
  | .ok avs h' => ∀ ρ' H' vs, Ext b ρ H ρ' H' → RH P ρ' B H' h' → RVs P.K ρ' B H' avs vs → Q vs H'
  | .exc c f h' => ∀ ρ' H' d, Ext b ρ H ρ' H' → RH P ρ' B H' h' → RX P.K ρ' B H' f d → W (P.ex c) d σ H'
  | .stuck => False
def SPost (P : Pm) (b : Bool) (W : WX) (Nb Nx N' : List Nat) (ρ : List Addr) (B : Addr → Prop) (ow : List (Nat × Addr)) (H : Hp) (D : Ends) : SR → Prop
  | .nx σa' h' => ∀ ρ' ow' H' σ', ExtS b ρ ow H ρ' ow' H' → RH P ρ' (Bo B ow') H' h' → RS P ρ' B ow' H' σa' σ' → ow'.map (·.1) = N' → D.nx σ' H'
  | .bk σa' h' => ∀ ρ' ow' H' σ', ExtS b ρ ow H ρ' ow' H' → RH P ρ' (Bo B ow') H' h' → RS P ρ' B ow' H' σa' σ' → ow'.map (·.1) = Nb → D.bk σ' H'
  | .ct σa' h' => ∀ ρ' ow' H' σ', ExtS b ρ ow H ρ' ow' H' → RH P ρ' (Bo B ow') H' h' → RS P ρ' B ow' H' σa' σ' → ow'.map (·.1) = Nb → D.ct σ' H'
  | .rt av h' => ∀ ρ' H' v, ExtS b ρ ow H ρ' [] H' → RH P ρ' B H' h' → RV P.K ρ' B H' av v → D.rt v H'
  | .exc c f σa' h' => ∀ ρ' ow' H' σ' d, ExtS b ρ ow H ρ' ow' H' → RH P ρ' (Bo B ow') H' h' → RS P ρ' B ow' H' σa' σ' → ow'.map (·.1) = Nx → RX P.K ρ' (Bo B ow') H' f d → W (P.ex c) d σ' H'
  | .stuck => False

section
variable {P : Pm} {b : Bool} {W : WX} {ρ ρ1 : List Addr} {B : Addr → Prop} {σ : St} {H H1 : Hp} {Q : VK} {ow ow1 : List (Nat × Addr)} {Nb Nx N' : List Nat} {D : Ends}
theorem EPost.ext {r : ER} (h : EPost P b W ρ B σ H Q r) (e : Ext b ρ H ρ1 H1) : EPost P b W ρ1 B σ H1 Q r := by
  cases r with
  | ok av h' => exact fun ρ' H' v f => h ρ' H' v (e.trans f)
  | exc c x h' => exact fun ρ' H' v f => h ρ' H' v (e.trans f)
  | stuck => exact h
theorem LPost.ext {r : LR} {Q : List V → Hp → Prop} (h : LPost P b W ρ B σ H Q r) (e : Ext b ρ H ρ1 H1) : LPost P b W ρ1 B σ H1 Q r := by
  cases r with
  | ok av h' => exact fun ρ' H' v f => h ρ' H' v (e.trans f)
  | exc c x h' => exact fun ρ' H' v f => h ρ' H' v (e.trans f)
  | stuck => exact h
theorem SPost.ext {r : SR} (h : SPost P b W Nb Nx N' ρ B ow H D r) (e : ExtS b ρ ow H ρ1 ow1 H1) : SPost P b W Nb Nx N' ρ1 B ow1 H1 D r := by
  cases r with
  | nx _ _ => exact fun ρ' ow' H' σ' f => h ρ' ow' H' σ' (e.trans f)
  | bk _ _ => exact fun ρ' ow' H' σ' f => h ρ' ow' H' σ' (e.trans f)
  | ct _ _ => exact fun ρ' ow' H' σ' f => h ρ' ow' H' σ' (e.trans f)
  | rt _ _ => exact fun ρ' H' v f => h ρ' H' v (e.trans f)
  | exc _ _ _ _ => exact fun ρ' ow' H' σ' d f => h ρ' ow' H' σ' d (e.trans f)
  | stuck => exact h
theorem EPost.bind {r : ER} {k : AV → AH → ER} (h : EPost P b W ρ B σ H Q (r.bind k)) :
    EPost P b W ρ B σ H (fun v H1 => ∃ ρ1 av h1, Ext b ρ H ρ1 H1 ∧ RH P ρ1 B H1 h1 ∧ RV P.K ρ1 B H1 av v ∧ EPost P b W ρ1 B σ H1 Q (k av h1)) r := by
  cases r with
  | ok av h' => exact fun ρ' H' v e rh rv => ⟨ρ', av, h', e, rh, rv, EPost.ext h e⟩
  | exc c x h' => exact h
  | stuck => exact h
theorem EPost.bindL {r : ER} {k : AV → AH → LR} {Q : List V → Hp → Prop} (h : LPost P b W ρ B σ H Q (r.bindL k)) :
    EPost P b W ρ B σ H (fun v H1 => ∃ ρ1 av h1, Ext b ρ H ρ1 H1 ∧ RH P ρ1 B H1 h1 ∧ RV P.K ρ1 B H1 av v ∧ LPost P b W ρ1 B σ H1 Q (k av h1)) r := by
  cases r with
  | ok av h' => exact fun ρ' H' v e rh rv => ⟨ρ', av, h', e, rh, rv, LPost.ext h e⟩
  | exc c x h' => exact h
  | stuck => exact h
theorem LPost.bind {r : LR} {k : List AV → AH → ER} (h : EPost P b W ρ B σ H Q (r.bind k)) :
    LPost P b W ρ B σ H (fun v H1 => ∃ ρ1 av h1, Ext b ρ H ρ1 H1 ∧ RH P ρ1 B H1 h1 ∧ RVs P.K ρ1 B H1 av v ∧ EPost P b W ρ1 B σ H1 Q (k av h1)) r := by
  cases r with
  | ok av h' => exact fun ρ' H' v e rh rv => ⟨ρ', av, h', e, rh, rv, EPost.ext h e⟩
  | exc c x h' => exact h
  | stuck => exact h
theorem LPost.bindL {r : LR} {k : List AV → AH → LR} {Q : List V → Hp → Prop} (h : LPost P b W ρ B σ H Q (r.bindL k)) :
    LPost P b W ρ B σ H (fun v H1 => ∃ ρ1 av h1, Ext b ρ H ρ1 H1 ∧ RH P ρ1 B H1 h1 ∧ RVs P.K ρ1 B H1 av v ∧ LPost P b W ρ1 B σ H1 Q (k av h1)) r := by
  cases r with
  | ok av h' => exact fun ρ' H' v e rh rv => ⟨ρ', av, h', e, rh, rv, LPost.ext h e⟩
  | exc c x h' => exact h
  | stuck => exact h
theorem EPost.bindB {r : ER} {k : AV → AH → ER} (h : EPost P b W ρ B σ H Q (r.bind k)) :
    EPostB P b W ρ B σ H (fun v H1 => ∃ ρ1 av h1, Ext b ρ H ρ1 H1 ∧ RH P ρ1 B H1 h1 ∧ RVb P.K ρ1 B H1 av v ∧ EPost P b W ρ1 B σ H1 Q (k av h1)) r := by
  cases r with
  | ok av h' => exact fun ρ' H' v e rh rv => ⟨ρ', av, h', e, rh, rv, EPost.ext h e⟩
  | exc c x h' => exact h
  | stuck => exact h
theorem EPost.bindLB {r : ER} {k : AV → AH → LR} {Q : List V → Hp → Prop} (h : LPostB P b W ρ B σ H Q (r.bindL k)) :
    EPostB P b W ρ B σ H (fun v H1 => ∃ ρ1 av h1, Ext b ρ H ρ1 H1 ∧ RH P ρ1 B H1 h1 ∧ RVb P.K ρ1 B H1 av v ∧ LPostB P b W ρ1 B σ H1 Q (k av h1)) r := by
  cases r with
  | ok av h' => exact fun ρ' H' v e rh rv => ⟨ρ', av, h', e, rh, rv, by
      cases g : k av h' with
      | ok a1 h1 => exact fun ρ2 H2 vs f => (by simp only [ER.bindL, g] at h; exact h ρ2 H2 vs (e.trans f))
      | exc c x h1 => exact fun ρ2 H2 d f => (by simp only [ER.bindL, g] at h; exact h ρ2 H2 d (e.trans f))
      | stuck => simp only [ER.bindL, g] at h; exact h⟩
  | exc c x h' => exact h
  | stuck => exact h
theorem LPostB.bind {r : LR} {k : List AV → AH → ER} (h : EPost P b W ρ B σ H Q (r.bind k)) :
    LPostB P b W ρ B σ H (fun v H1 => ∃ ρ1 av h1, Ext b ρ H ρ1 H1 ∧ RH P ρ1 B H1 h1 ∧ RVbs P.K ρ1 B H1 av v ∧ EPost P b W ρ1 B σ H1 Q (k av h1)) r := by
  cases r with
  | ok av h' => exact fun ρ' H' v e rh rv => ⟨ρ', av, h', e, rh, rv, EPost.ext h e⟩
  | exc c x h' => exact h
  | stuck => exact h
theorem EPostB.imp {r : ER} {Q' : VK} (h : EPostB P b W ρ B σ H Q r) (hq : ∀ v H, Q v H → Q' v H) : EPostB P b W ρ B σ H Q' r := by
  cases r with
  | ok av h' => exact fun ρ' H' v e rh rv => hq _ _ (h ρ' H' v e rh rv)
  | exc c x h' => exact h
  | stuck => exact h
theorem EPostB.up {r : ER} (h : EPostB P b W ρ B σ H Q r) : EPost P b W ρ B σ H Q r := by
  cases r with
  | ok av h' => exact fun ρ' H' v e rh rv => h ρ' H' v e rh (.inl rv)
  | exc c x h' => exact h
  | stuck => exact h
theorem EPost.imp {r : ER} {Q' : VK} (h : EPost P b W ρ B σ H Q r) (hq : ∀ v H, Q v H → Q' v H) : EPost P b W ρ B σ H Q' r := by
  cases r with
  | ok av h' => exact fun ρ' H' v e rh rv => hq _ _ (h ρ' H' v e rh rv)
  | exc c x h' => exact h
  | stuck => exact h
end

def tDE (P : Pm) (b : Bool) (W : WX) (N : List Nat) (m : EV) : TE := fun σ H Q =>
  ∃ ρ B ow σa h, RH P ρ (Bo B ow) H h ∧ RS P ρ B ow H σa σ ∧ ow.map (·.1) = N ∧ EPost P b W ρ (Bo B ow) σ H Q (m σa h)
def tDB (P : Pm) (b : Bool) (W : WX) (N : List Nat) (m : EV) : TE := fun σ H Q =>
  ∃ ρ B ow σa h, RH P ρ (Bo B ow) H h ∧ RS P ρ B ow H σa σ ∧ ow.map (·.1) = N ∧ EPostB P b W ρ (Bo B ow) σ H Q (m σa h)
def tDAB (P : Pm) (b : Bool) (W : WX) (N : List Nat) (m : LV) : TA := fun σ H Q =>
  ∃ ρ B ow σa h, RH P ρ (Bo B ow) H h ∧ RS P ρ B ow H σa σ ∧ ow.map (·.1) = N ∧ LPostB P b W ρ (Bo B ow) σ H Q (m σa h)
def tDA (P : Pm) (b : Bool) (W : WX) (N : List Nat) (m : LV) : TA := fun σ H Q =>
  ∃ ρ B ow σa h, RH P ρ (Bo B ow) H h ∧ RS P ρ B ow H σa σ ∧ ow.map (·.1) = N ∧ LPost P b W ρ (Bo B ow) σ H Q (m σa h)
def TPost (P : Pm) (b : Bool) (W : WX) (ρ : List Addr) (B : Addr → Prop) (σ : St) (H : Hp) (Q : Bool → Hp → Prop) : ER → Prop
  | .ok (.bl c) h' => ∀ ρ' H', Ext b ρ H ρ' H' → RH P ρ' B H' h' → Q c H'
  | .ok _ _ => False
  | .exc c f h' => ∀ ρ' H' d, Ext b ρ H ρ' H' → RH P ρ' B H' h' → RX P.K ρ' B H' f d → W (P.ex c) d σ H'
  | .stuck => False
def tDT (P : Pm) (b : Bool) (W : WX) (N : List Nat) (m : EV) : TT := fun σ H Q =>
  ∃ ρ B ow σa h, RH P ρ (Bo B ow) H h ∧ RS P ρ B ow H σa σ ∧ ow.map (·.1) = N ∧ TPost P b W ρ (Bo B ow) σ H Q (m σa h)
def tDS (P : Pm) (b : Bool) (W : WX) (N Nb Nx N' : List Nat) (m : SV) : TS := fun D σ H =>
  ∃ ρ B ow σa h, RH P ρ (Bo B ow) H h ∧ RS P ρ B ow H σa σ ∧ ow.map (·.1) = N ∧ SPost P b W Nb Nx N' ρ B ow H D (m σa h)

structure DE (P : Pm) (X : Cx) (b : Bool) (W : WX) (N : List Nat) (e : Expr) (m : EV) : Prop where
  pe : PE X e (tDE P b W N m)
/-- .. whose value is only read -/
structure DB (P : Pm) (X : Cx) (b : Bool) (W : WX) (N : List Nat) (e : Expr) (m : EV) : Prop where
  pe : PE X e (tDB P b W N m)
structure DAB (P : Pm) (X : Cx) (b : Bool) (W : WX) (N : List Nat) (es : List Expr) (m : LV) : Prop where
  pa : PA X es (tDAB P b W N m)
structure DT (P : Pm) (X : Cx) (b : Bool) (W : WX) (N : List Nat) (e : Expr) (m : EV) : Prop where
  pt : PT X e (tDT P b W N m)
structure DA (P : Pm) (X : Cx) (b : Bool) (W : WX) (N : List Nat) (es : List Expr) (m : LV) : Prop where
  pa : PA X es (tDA P b W N m)
structure DS (P : Pm) (X : Cx) (b : Bool) (W : WX) (N Nb Nx N' : List Nat) (st : Stmt) (m : SV) : Prop where
  ps : PS X st (tDS P b W N Nb Nx N' m)
structure DSs (P : Pm) (X : Cx) (b : Bool) (W : WX) (N Nb Nx N' : List Nat) (sts : List Stmt) (m : SV) : Prop where
  ps : PSs X sts (tDS P b W N Nb Nx N' m)

section
variable {X : Cx} {e : Expr} {es : List Expr} {st : Stmt} {sts : List Stmt}
theorem pe_weak {t t' : TE} (h : PE X e t) (w : ∀ σ H Q, t' σ H Q → t σ H Q) : PE X e t' := ⟨fun pins s σ H Q I q => h.run pins s σ H Q I (w σ H Q q)⟩
theorem pt_weak {t t' : TT} (h : PT X e t) (w : ∀ σ H Q, t' σ H Q → t σ H Q) : PT X e t' := ⟨fun pins s σ H Q I q => h.run pins s σ H Q I (w σ H Q q)⟩
theorem pw_weak {t t' : TT} (h : PW X e t) (w : ∀ σ H Q, t' σ H Q → t σ H Q) : PW X e t' := ⟨fun wh pins s σ H Q I q => h.run wh pins s σ H Q I (w σ H Q q)⟩
theorem pa_weak {t t' : TA} (h : PA X es t) (w : ∀ σ H Q, t' σ H Q → t σ H Q) : PA X es t' := ⟨fun pos pins s σ H Q I q => h.run pos pins s σ H Q I (w σ H Q q)⟩
theorem ps_weak {t t' : TS} (h : PS X st t) (w : ∀ D σ H, t' D σ H → t D σ H) : PS X st t' := ⟨fun pins s σ H D I q => h.run pins s σ H D I (w D σ H q)⟩
theorem DE.b {P : Pm} {b : Bool} {W : WX} {N : List Nat} {m : EV} (h : DE P X b W N e m) : DB P X b W N e m := ⟨pe_weak h.pe fun σ H Q ⟨ρ, B, ow, σa, hh, rh, rs, hN, q⟩ => ⟨ρ, B, ow, σa, hh, rh, rs, hN, q.up⟩⟩
theorem pss_weak {t t' : TS} (h : PSs X sts t) (w : ∀ D σ H, t' D σ H → t D σ H) : PSs X sts t' := ⟨fun pins s σ H D I q => h.run pins s σ H D I (w D σ H q)⟩
end
end D
end

section
namespace D
open PySem L2

section
variable {P : Pm} {X : Cx} {b : Bool} {W : WX} {N : List Nat} {e a c : Expr} {es : List Expr} {pos : Pos} {ma mb mc : EV} {ms : List EV}

theorem de_var (i : Nat) {x : Str} (hK : P.K = X.K := by rfl) (hn : i ∉ N := by decide) (hN : X.N[i]? = some x := by rfl) (hv : Vis X.env.scope x := by first | exact Or.inl rfl | exact Or.inr (Or.inl rfl) | exact Or.inr (Or.inr rfl)) (hd : (x == ("__debug__" : Str)) = false := by decide)
    (hcd : (x == ("__classdict__" : Str)) = false := by decide) : DE P X b W N (.Name x pos) (varD i) := by
  refine ⟨pe_weak (pe_var hN hv hd hcd) ?_⟩
  rintro σ H Q ⟨ρ, B, ow, σa, h, rh, rs, rfl, q⟩
  unfold varD at q
  split at q
  · rename_i v hv
    obtain ⟨w, h1, h2⟩ := rs.val i v hv hn
    exact ⟨w, h1, q ρ H w (Ext.refl b ρ H) rh h2⟩
  · exact q.elim
/-- a name whose value is only read -/
theorem db_var (i : Nat) {x : Str} (hK : P.K = X.K := by rfl) (hN : X.N[i]? = some x := by rfl) (hv : Vis X.env.scope x := by first | exact Or.inl rfl | exact Or.inr (Or.inl rfl) | exact Or.inr (Or.inr rfl)) (hd : (x == ("__debug__" : Str)) = false := by decide)
    (hcd : (x == ("__classdict__" : Str)) = false := by decide) : DB P X b W N (.Name x pos) (varD i) := by
  refine ⟨pe_weak (pe_var hN hv hd hcd) ?_⟩
  rintro σ H Q ⟨ρ, B, ow, σa, h, rh, rs, rfl, q⟩
  unfold varD at q
  split at q
  · rename_i v hv
    by_cases hi : i ∈ ow.map (·.1)
    · obtain ⟨p, hp, rfl⟩ := List.mem_map.mp hi
      obtain ⟨av, u, h1, h2, h3, h4⟩ := rs.own p hp
      rw [hv] at h1
      cases h1
      exact ⟨_, h2, q ρ H _ (Ext.refl b ρ H) rh (.inr ⟨p.2, u, rfl, (rs.out p hp).1, h3, h4⟩)⟩
    · obtain ⟨w, h1, h2⟩ := rs.val i v hv hi
      exact ⟨w, h1, q ρ H w (Ext.refl b ρ H) rh (.inl h2)⟩
  · exact q.elim
theorem de_c {v : AV} {w : V} (h : PE X e (tC w)) (hv : ∀ ρ B H, RV P.K ρ B H v w) : DE P X b W N e (cD v) := by
  refine ⟨pe_weak h ?_⟩
  rintro σ H Q ⟨ρ, B, ow, σa, h, rh, rs, rfl, q⟩
  exact q ρ H w (Ext.refl b ρ H) rh (hv _ _ _)
theorem de_int {i : Int} {j : Nat} : DE P X b W N (.Constant (.int i) j pos) (cD (.int i)) := de_c pe_int fun _ _ _ => by unfold RV; rfl
theorem de_bl {i : Bool} {j : Nat} : DE P X b W N (.Constant (.bool i) j pos) (cD (.bl i)) := de_c pe_bl fun _ _ _ => by unfold RV; rfl
theorem de_non {j : Nat} : DE P X b W N (.Constant .none j pos) (cD .non) := de_c pe_non fun _ _ _ => by unfold RV; rfl
theorem de_str {i : Str} {j : Nat} : DE P X b W N (.Constant (.str i) j pos) (cD (.str i)) := de_c pe_str fun _ _ _ => by unfold RV; rfl

/-- a rule by values -/
def V2 (P : Pm) (b : Bool) (f : AV → AV → AH → ER) (r : R2) : Prop := ∀ (W : WX) ρ B σ H av bv h x y Q, RH P ρ B H h → RVb P.K ρ B H av x → RVb P.K ρ B H bv y → EPost P b W ρ B σ H Q (f av bv h) → r x y H Q
def V1 (P : Pm) (b : Bool) (f : AV → AH → ER) (r : V → Hp → VK → Prop) : Prop := ∀ (W : WX) ρ B σ H av h x Q, RH P ρ B H h → RVb P.K ρ B H av x → EPost P b W ρ B σ H Q (f av h) → r x H Q
def VN (P : Pm) (b : Bool) (f : FV) (r : List V → Hp → VK → Prop) : Prop := ∀ (W : WX) ρ B σ H avs h xs Q, RH P ρ B H h → RVbs P.K ρ B H avs xs → EPost P b W ρ B σ H Q (f avs h) → r xs H Q
/-- two in a row, from what is wanted of the whole -/
theorem seq2 {f : AV → AV → AH → ER} {R : V → V → Hp → Prop} {σ : St} {H : Hp} {Q : VK}
    (hq : tDE P b W N (bin f ma mb) σ H Q)
    (k : ∀ ρ B H1 av bv h x y, RH P ρ B H1 h → RVb P.K ρ B H1 av x → RVb P.K ρ B H1 bv y → EPost P b W ρ B σ H1 Q (f av bv h) → R x y H1) :
    tDB P b W N ma σ H fun x H1 => tDB P b W N mb σ H1 fun y H2 => R x y H2 := by
  obtain ⟨ρ, B, ow, σa, h, rh, rs, hN, q⟩ := hq
  refine ⟨ρ, B, ow, σa, h, rh, rs, hN, (EPost.bindB q).imp ?_⟩
  rintro x H1 ⟨ρ1, av, h1, e1, rh1, rv1, q1⟩
  refine ⟨ρ1, B, ow, σa, h1, rh1, rs.ext e1, hN, (EPost.bindB q1).imp ?_⟩
  rintro y H2 ⟨ρ2, bv, h2, e2, rh2, rv2, q2⟩
  exact k ρ2 (Bo B ow) H2 av bv h2 x y rh2 (rv1.ext e2) rv2 q2
theorem bin_weak {r : R2} {f : AV → AV → AH → ER} (hr : V2 P b f r) : ∀ σ H Q, tDE P b W N (bin f ma mb) σ H Q → tOp r (tDB P b W N ma) (tDB P b W N mb) σ H Q :=
  fun σ H Q hq => seq2 hq fun ρ B H1 av bv h x y rh r1 r2 q => hr W ρ B σ H1 av bv h x y Q rh r1 r2 q
theorem un_weak {r : V → Hp → VK → Prop} {f : AV → AH → ER} (hr : V1 P b f r) : ∀ σ H Q, tDE P b W N (un f ma) σ H Q → tUn r (tDB P b W N ma) σ H Q := by
  rintro σ H Q ⟨ρ, B, ow, σa, h, rh, rs, hN, q⟩
  refine ⟨ρ, B, ow, σa, h, rh, rs, hN, (EPost.bindB q).imp ?_⟩
  rintro x H1 ⟨ρ1, av, h1, e1, rh1, rv1, q1⟩
  exact hr W ρ1 (Bo B ow) σ H1 av h1 x Q rh1 rv1 q1
theorem de_op {op : Operator} {r : R2} {f : AV → AV → AH → ER} (ho : OpR X (binaryOp op) r) (hr : V2 P b f r) (ha : DB P X b W N a ma) (hc : DB P X b W N c mb) : DE P X b W N (.BinOp a op c pos) (bin f ma mb) :=
  ⟨pe_weak (pe_op ho ha.pe hc.pe) (bin_weak hr)⟩
theorem de_cmp {op : CmpOp} {r : R2} {f : AV → AV → AH → ER} (ho : OpR X (compareOp op) r) (hr : V2 P b f r) (ha : DB P X b W N a ma) (hc : DB P X b W N c mb) (hm : behindInMarks op c = false) : DE P X b W N (.Compare a [op] [c] pos) (bin f ma mb) :=
  ⟨pe_weak (pe_cmpR ho ha.pe hc.pe hm) (bin_weak hr)⟩
/-- a test from an expression -/
theorem tst_weak {t : TE} {tt : TT} (ht : ∀ σ H Q, (t σ H fun x H' => ∃ k, x = .bl k ∧ Q k H') → tt σ H Q) (hw : ∀ σ H Q, tDE P b W N ma σ H Q → t σ H Q) : ∀ σ H Q, tDT P b W N ma σ H Q → tt σ H Q := by
  rintro σ H Q ⟨ρ, B, ow, σa, h, rh, rs, hN, q⟩
  refine ht σ H Q (hw σ H _ ⟨ρ, B, ow, σa, h, rh, rs, hN, ?_⟩)
  cases g : ma σa h with
  | ok av h' =>
    rw [g] at q
    cases av with
    | bl c =>
      intro ρ' H' v e1 r1 r2
      unfold RV at r2
      exact ⟨c, r2, q ρ' H' e1 r1⟩
    | non => exact q.elim
    | int _ => exact q.elim
    | str _ => exact q.elim
    | tup _ => exact q.elim
    | lst _ => exact q.elim
    | dct _ => exact q.elim
    | ref _ => exact q.elim
    | ro _ => exact q.elim
  | exc c f h' => rw [g] at q; exact q
  | stuck => rw [g] at q; exact q.elim
theorem dt_cmp {op : CmpOp} {r : R2} {f : AV → AV → AH → ER} (ho : OpR X (compareOp op) r) (hr : V2 P b f r) (ha : DB P X b W N a ma) (hc : DB P X b W N c mb) (hm : behindInMarks op c = false) : DT P X b W N (.Compare a [op] [c] pos) (bin f ma mb) :=
  ⟨pt_weak (pt_cmpR ho ha.pe hc.pe hm) (tst_weak (fun _ _ _ h => h) (bin_weak hr))⟩
theorem dt_val (ha : DE P X b W N e ma) (he : ∀ whole, isTrue e X.env whole = (do let v ← whole; standAt e.pos; holding [v] (truthy v)) := by intro _; rfl) : DT P X b W N e ma :=
  ⟨pt_weak (pt_val ha.pe he) (tst_weak (fun _ _ _ h => h) fun _ _ _ h => h)⟩

theorem rv_int {K : PySem.W.Frag} {ρ : List Addr} {B : Addr → Prop} {H : Hp} {i : Int} {v : V} (h : RVb K ρ B H (.int i) v) : v = .int i := by
  rcases h with h | ⟨_, _, _, _, _, h⟩
  · unfold RV at h; exact h
  · exact h.elim
theorem rv_bl {K : PySem.W.Frag} {ρ : List Addr} {B : Addr → Prop} {H : Hp} {i : Bool} {v : V} (h : RVb K ρ B H (.bl i) v) : v = .bl i := by
  rcases h with h | ⟨_, _, _, _, _, h⟩
  · unfold RV at h; exact h
  · exact h.elim
theorem rv_str {K : PySem.W.Frag} {ρ : List Addr} {B : Addr → Prop} {H : Hp} {i : Str} {v : V} (h : RVb K ρ B H (.str i) v) : v = .str i := by
  rcases h with h | ⟨_, _, _, _, _, h⟩
  · unfold RV at h; exact h
  · exact h.elim
theorem rv_non {K : PySem.W.Frag} {ρ : List Addr} {B : Addr → Prop} {H : Hp} {v : V} (h : RVb K ρ B H .non v) : v = .non := by
  rcases h with h | ⟨_, _, _, _, _, h⟩
  · unfold RV at h; exact h
  · exact h.elim
theorem mk_int {K : PySem.W.Frag} {ρ : List Addr} {B : Addr → Prop} {H : Hp} {i : Int} : RV K ρ B H (.int i) (.int i) := by unfold RV; rfl
theorem mk_bl {K : PySem.W.Frag} {ρ : List Addr} {B : Addr → Prop} {H : Hp} {i : Bool} : RV K ρ B H (.bl i) (.bl i) := by unfold RV; rfl
theorem mk_str {K : PySem.W.Frag} {ρ : List Addr} {B : Addr → Prop} {H : Hp} {i : Str} : RV K ρ B H (.str i) (.str i) := by unfold RV; rfl
theorem mk_non {K : PySem.W.Frag} {ρ : List Addr} {B : Addr → Prop} {H : Hp} : RV K ρ B H .non .non := by unfold RV; rfl
theorem SqT.ofF {K : PySem.W.Frag} {ρ : List Addr} {B : Addr → Prop} {H : Hp} {a : Addr} {vs : List V} (h : FrzAt ρ B H a (.tup vs) ∨ StT K a vs) : SqT K H a vs := h.imp (·.2.2) id
theorem SqL.ofF {K : PySem.W.Frag} {ρ : List Addr} {B : Addr → Prop} {H : Hp} {a : Addr} {vs : List V} (h : FrzAt ρ B H a (.lst vs) ∨ StL K a vs) : SqL K H a vs := h.imp (·.2.2) id
theorem rv_tup {K : PySem.W.Frag} {ρ : List Addr} {B : Addr → Prop} {H : Hp} {xs : List AV} {v : V} (h : RVb K ρ B H (.tup xs) v) : ∃ a vs, v = .ref a ∧ SqT K H a vs ∧ RVs K ρ B H xs vs := by
  rcases h with h | ⟨_, _, _, _, _, h⟩
  · unfold RV at h
    obtain ⟨a, vs, e, h1, h2⟩ := h
    exact ⟨a, vs, e, SqT.ofF h1, h2⟩
  · exact h.elim
/-- a list that may be read -/
theorem rv_lv {ρ : List Addr} {B : Addr → Prop} {H : Hp} {h : AH} {x : AV} {xs : List AV} {v : V} (rh : RH P ρ B H h) (hx : RVb P.K ρ B H x v) (e : lv h x = some xs) : ∃ a vs, v = .ref a ∧ H a = some (.lst vs) ∧ RVs P.K ρ B H xs vs := by
  cases x with
  | lst ys =>
    cases e
    rcases hx with hx | ⟨a, u, h1, h2, h3, h4⟩
    · unfold RV at hx
      obtain ⟨a, vs, e1, _, _, h3, h4⟩ := hx
      exact ⟨a, vs, e1, h3, h4⟩
    · obtain ⟨vs, rfl, h5⟩ := h4
      exact ⟨a, vs, h1, h3, h5⟩
  | ref i =>
    rcases hx with hx | ⟨_, _, _, _, _, hx⟩
    case inr => exact hx.elim
    unfold RV at hx
    obtain ⟨a, e1, h1⟩ := hx
    simp only [lv] at e
    split at e
    · rename_i ys hy
      cases e
      obtain ⟨u, g1, g2⟩ := rh.at h1 hy
      obtain ⟨vs, rfl, g3⟩ := g2
      exact ⟨a, vs, e1, g1, g3⟩
    · cases e
  | non => cases e
  | bl _ => cases e
  | int _ => cases e
  | str _ => cases e
  | tup _ => cases e
  | dct _ => cases e
  | ro _ => cases e
theorem rv_rl {ρ : List Addr} {B : Addr → Prop} {H : Hp} {h : AH} {x : AV} {xs : List AV} {v : V} (rh : RH P ρ B H h) (hx : RVb P.K ρ B H x v) (e : rl h x = some xs) : ∃ a vs, v = .ref a ∧ SqL P.K H a vs ∧ RVs P.K ρ B H xs vs := by
  cases x with
  | ro ys =>
    cases e
    rcases hx with hx | ⟨_, _, _, _, _, hx⟩
    case inr => exact hx.elim
    unfold RV at hx
    obtain ⟨a, vs, e1, h3, h4⟩ := hx
    exact ⟨a, vs, e1, SqL.ofF h3, h4⟩
  | lst ys =>
    obtain ⟨a, vs, e1, h3, h4⟩ := rv_lv rh hx e
    exact ⟨a, vs, e1, SqL.of h3, h4⟩
  | ref i =>
    obtain ⟨a, vs, e1, h3, h4⟩ := rv_lv rh hx e
    exact ⟨a, vs, e1, SqL.of h3, h4⟩
  | non => cases e
  | bl _ => cases e
  | int _ => cases e
  | str _ => cases e
  | tup _ => cases e
  | dct _ => cases e
theorem rv_seq {ρ : List Addr} {B : Addr → Prop} {H : Hp} {h : AH} {x : AV} {xs : List AV} {v : V} (rh : RH P ρ B H h) (hx : RVb P.K ρ B H x v) (e : seqOf h x = some xs) : ∃ a vs, v = .ref a ∧ (SqL P.K H a vs ∨ SqT P.K H a vs) ∧ RVs P.K ρ B H xs vs := by
  cases x with
  | tup ys =>
    cases e
    obtain ⟨a, vs, e1, h3, h4⟩ := rv_tup hx
    exact ⟨a, vs, e1, .inr h3, h4⟩
  | ro ys =>
    obtain ⟨a, vs, e1, h3, h4⟩ := rv_rl rh hx e
    exact ⟨a, vs, e1, .inl h3, h4⟩
  | lst ys =>
    obtain ⟨a, vs, e1, h3, h4⟩ := rv_rl rh hx e
    exact ⟨a, vs, e1, .inl h3, h4⟩
  | ref i =>
    obtain ⟨a, vs, e1, h3, h4⟩ := rv_rl rh hx e
    exact ⟨a, vs, e1, .inl h3, h4⟩
  | non => cases e
  | bl _ => cases e
  | int _ => cases e
  | str _ => cases e
  | dct _ => cases e
theorem rv_dv {ρ : List Addr} {B : Addr → Prop} {H : Hp} {h : AH} {x : AV} {kvs : List (AV × AV)} {v : V} (rh : RH P ρ B H h) (hx : RVb P.K ρ B H x v) (e : dv h x = some kvs) : ∃ a us, v = .ref a ∧ Rd H a (.dK us) ∧ RKs P.K ρ B H kvs us := by
  cases x with
  | dct ys =>
    cases e
    rcases hx with hx | ⟨a, u, h1, h2, h3, h4⟩
    · unfold RV at hx
      obtain ⟨a, vs, e1, ⟨_, _, h3⟩, h4⟩ := hx
      exact ⟨a, vs, e1, h3, h4⟩
    · obtain ⟨vs, rfl, h5⟩ := h4
      exact ⟨a, vs, h1, .inl h3, h5⟩
  | ref i =>
    rcases hx with hx | ⟨_, _, _, _, _, hx⟩
    case inr => exact hx.elim
    unfold RV at hx
    obtain ⟨a, e1, h1⟩ := hx
    simp only [dv] at e
    split at e
    · rename_i ys hy
      cases e
      obtain ⟨u, g1, g2⟩ := rh.at h1 hy
      obtain ⟨vs, rfl, g3⟩ := g2
      exact ⟨a, vs, e1, .inl g1, g3⟩
    · cases e
  | non => cases e
  | bl _ => cases e
  | int _ => cases e
  | str _ => cases e
  | tup _ => cases e
  | lst _ => cases e
  | ro _ => cases e
/-- new things that stand still -/
theorem new_lst {ρ : List Addr} {B : Addr → Prop} {H : Hp} {h : AH} {xs : List AV} {vs : List V} {p : Addr} (rh : RH P ρ B H h) (hp : H p = none) (hv : RVs P.K ρ B H xs vs) : RV P.K ρ B (upd H p (.lst vs)) (.lst xs) (.ref p) := by
  have e : Ext true ρ H ρ (upd H p (.lst vs)) := Ext.new hp
  unfold RV
  exact ⟨p, vs, rfl, fun z => rh.lvR p z hp, fun z => rh.lvB p z hp, upd_same, hv.ext e xs⟩
theorem new_tup {ρ : List Addr} {B : Addr → Prop} {H : Hp} {h : AH} {xs : List AV} {vs : List V} {p : Addr} (rh : RH P ρ B H h) (hp : H p = none) (hv : RVs P.K ρ B H xs vs) : RV P.K ρ B (upd H p (.tup vs)) (.tup xs) (.ref p) := by
  have e : Ext true ρ H ρ (upd H p (.tup vs)) := Ext.new hp
  unfold RV
  exact ⟨p, vs, rfl, .inl ⟨fun z => rh.lvR p z hp, fun z => rh.lvB p z hp, .inl upd_same⟩, hv.ext e xs⟩
theorem lim_line {n : Nat} (h : n ≤ LIM) : n ≤ sizeLine := h
end
end D
end

section
namespace D
open PySem L2

mutual
def AV.toD : AV → PyData
  | .non => .none
  | .bl b => .bool b
  | .int i => .int i
  | .str s => .str s
  | .tup xs => .tuple (AV.toDs xs)
  | .lst xs => .list (AV.toDs xs)
  | .ro xs => .list (AV.toDs xs)
  | .dct _ => .none
  | .ref _ => .none
def AV.toDs : List AV → List PyData
  | [] => []
  | x :: r => AV.toD x :: AV.toDs r
end
theorem dl_cases {n : Nat} {x : AV} (h : x.dl n = true) : x = .non ∨ (∃ b, x = .bl b) ∨ (∃ i, x = .int i) ∨ (∃ s, x = .str s) ∨ (∃ m xs, n = m + 1 ∧ x = .tup xs ∧ xs.all (AV.dl m) = true) ∨ (∃ m xs, n = m + 1 ∧ x = .lst xs ∧ xs.all (AV.dl m) = true) := by
  cases x with
  | non => exact .inl rfl
  | bl b => exact .inr (.inl ⟨b, rfl⟩)
  | int i => exact .inr (.inr (.inl ⟨i, rfl⟩))
  | str s => exact .inr (.inr (.inr (.inl ⟨s, rfl⟩)))
  | tup xs =>
    cases n with
    | zero => simp [AV.dl] at h
    | succ m => exact .inr (.inr (.inr (.inr (.inl ⟨m, xs, rfl, rfl, by simpa [AV.dl] using h⟩))))
  | lst xs =>
    cases n with
    | zero => simp [AV.dl] at h
    | succ m => exact .inr (.inr (.inr (.inr (.inr ⟨m, xs, rfl, rfl, by simpa [AV.dl] using h⟩))))
  | dct _ => cases n <;> simp [AV.dl] at h
  | ref _ => cases n <;> simp [AV.dl] at h
  | ro _ => cases n <;> simp [AV.dl] at h
section
variable {P : Pm} {ρ : List Addr} {B : Addr → Prop} {H : Hp} {h : AH}
mutual
theorem dp_of (rh : RH P ρ B H h) : ∀ (n : Nat) (x : AV) {v : V}, x.dl n = true → RV P.K ρ B H x v → Dp P.K H v x.toD
  | _, .non, v, _, r => by rw [rv_non (.inl r)]; unfold AV.toD; exact .non
  | _, .bl b, v, _, r => by rw [rv_bl (.inl r)]; unfold AV.toD; exact .bl b
  | _, .int b, v, _, r => by rw [rv_int (.inl r)]; unfold AV.toD; exact .int b
  | _, .str b, v, _, r => by rw [rv_str (.inl r)]; unfold AV.toD; exact .str b
  | 0, .tup xs, v, e, r => by simp [AV.dl] at e
  | n + 1, .tup xs, v, e, r => by
    obtain ⟨a, vs, rfl, h1, h2⟩ := rv_tup (.inl r)
    unfold AV.toD
    exact .tup h1 (dps_of rh n xs (by simpa [AV.dl] using e) h2)
  | 0, .lst xs, v, e, r => by simp [AV.dl] at e
  | n + 1, .lst xs, v, e, r => by
    obtain ⟨a, vs, rfl, h1, h2⟩ := rv_lv rh (.inl r) (show lv h (.lst xs) = some xs from rfl)
    unfold AV.toD
    exact .lst (SqL.of h1) (dps_of rh n xs (by simpa [AV.dl] using e) h2)
  | n, .dct _, v, e, r => by cases n <;> simp [AV.dl] at e
  | n, .ref _, v, e, r => by cases n <;> simp [AV.dl] at e
  | n, .ro _, v, e, r => by cases n <;> simp [AV.dl] at e
theorem dps_of (rh : RH P ρ B H h) : ∀ (n : Nat) (xs : List AV) {vs : List V}, (∀ x ∈ xs, x.dl n = true) → RVs P.K ρ B H xs vs → DpAll P.K H vs (AV.toDs xs)
  | _, [], vs, _, r => by unfold RVs at r; subst r; unfold AV.toDs; exact .nil
  | n, x :: xs, vs, e, r => by
    unfold RVs at r
    obtain ⟨v, t, rfl, h1, h2⟩ := r
    unfold AV.toDs
    exact .cons (dp_of rh n x (e x List.mem_cons_self) h1) (dps_of rh n xs (fun y hy => e y (List.mem_cons_of_mem _ hy)) h2)
end
end
mutual
theorem lay_of : ∀ (n : Nat) (x : AV), x.dl n = true → x.toD.canLay0 = true ∧ x.toD.depth ≤ n
  | _, .non, _ => by simp [AV.toD, PyData.canLay0, PyData.depth]
  | _, .bl b, _ => by simp [AV.toD, PyData.canLay0, PyData.depth]
  | _, .int b, _ => by simp [AV.toD, PyData.canLay0, PyData.depth]
  | _, .str b, e => by
    have e' : sOk b = true := by simpa [AV.dl] using e
    simp only [AV.toD, PyData.canLay0, PyData.depth]
    exact ⟨e', Nat.zero_le _⟩
  | 0, .tup xs, e => by simp [AV.dl] at e
  | n + 1, .tup xs, e => by
    have q := lays_of n xs (by simpa [AV.dl] using e)
    simp only [AV.toD, PyData.canLay0, PyData.depth]
    exact ⟨q.1, by omega⟩
  | 0, .lst xs, e => by simp [AV.dl] at e
  | n + 1, .lst xs, e => by
    have q := lays_of n xs (by simpa [AV.dl] using e)
    simp only [AV.toD, PyData.canLay0, PyData.depth]
    exact ⟨q.1, by omega⟩
  | n, .dct _, e => by cases n <;> simp [AV.dl] at e
  | n, .ref _, e => by cases n <;> simp [AV.dl] at e
  | n, .ro _, e => by cases n <;> simp [AV.dl] at e
theorem lays_of : ∀ (n : Nat) (xs : List AV), (∀ x ∈ xs, x.dl n = true) → PyData.canLayAll0 (AV.toDs xs) = true ∧ PyData.depthAll (AV.toDs xs) ≤ n
  | _, [], _ => by simp [AV.toDs, PyData.canLayAll0, PyData.depthAll]
  | n, x :: xs, e => by
    have q1 := lay_of n x (e x List.mem_cons_self)
    have q2 := lays_of n xs fun y hy => e y (List.mem_cons_of_mem _ hy)
    simp only [AV.toDs, PyData.canLayAll0, PyData.depthAll, Bool.and_eq_true]
    exact ⟨⟨q1.1, q2.1⟩, by omega⟩
end
theorem shaped_of {n : Nat} {x : AV} (h : x.dl n = true) (hn : n ≤ 64) : SeqAt.shaped x.toD = true := by
  have q := lay_of n x h
  unfold SeqAt.shaped
  rw [q.1, Bool.true_and]
  exact decide_eq_true (by omega)
mutual
theorem eqv_of : ∀ (n m : Nat) (x y : AV), x.dl n = true → y.dl m = true → PyData.eqv x.toD y.toD = x.eq y
  | n, m, x, y, hx, hy => by
    rcases dl_cases hx with rfl | ⟨b, rfl⟩ | ⟨i, rfl⟩ | ⟨s, rfl⟩ | ⟨n', xs, rfl, rfl, hx'⟩ | ⟨n', xs, rfl, rfl, hx'⟩ <;>
      rcases dl_cases hy with rfl | ⟨b', rfl⟩ | ⟨i', rfl⟩ | ⟨s', rfl⟩ | ⟨m', ys, rfl, rfl, hy'⟩ | ⟨m', ys, rfl, rfl, hy'⟩ <;>
      first
      | (simp only [AV.toD, PyData.eqv, AV.eq]; done)
      | (simp only [AV.toD, PyData.eqv, AV.eq]; exact eqvs_of n' m' xs ys (List.all_eq_true.mp hx') (List.all_eq_true.mp hy'))
theorem eqvs_of : ∀ (n m : Nat) (xs ys : List AV), (∀ x ∈ xs, x.dl n = true) → (∀ y ∈ ys, y.dl m = true) → PyData.eqvAll (AV.toDs xs) (AV.toDs ys) = AV.eqL xs ys
  | _, _, [], [], _, _ => by simp [AV.toDs, PyData.eqvAll, AV.eqL]
  | _, _, [], _ :: _, _, _ => by simp [AV.toDs, PyData.eqvAll, AV.eqL]
  | _, _, _ :: _, [], _, _ => by simp [AV.toDs, PyData.eqvAll, AV.eqL]
  | n, m, x :: xs, y :: ys, hx, hy => by
    simp only [AV.toDs, PyData.eqvAll, AV.eqL]
    rw [eqv_of n m x y (hx x List.mem_cons_self) (hy y List.mem_cons_self), eqvs_of n m xs ys (fun z hz => hx z (List.mem_cons_of_mem _ hz)) fun z hz => hy z (List.mem_cons_of_mem _ hz)]
end

section
variable {P : Pm} {X : Cx} {b : Bool}
theorem ok_post {W : WX} {ρ : List Addr} {B : Addr → Prop} {σ : St} {H : Hp} {Q : VK} {h : AH} {av : AV} {v : V} (q : EPost P b W ρ B σ H Q (.ok av h)) (rh : RH P ρ B H h) (rv : RV P.K ρ B H av v) : Q v H := q ρ H v (Ext.refl b ρ H) rh rv
theorem ok_new {W : WX} {ρ : List Addr} {B : Addr → Prop} {σ : St} {H : Hp} {Q : VK} {h : AH} {xs : List AV} {vs : List V} {p : Addr} (q : EPost P b W ρ B σ H Q (.ok (.lst xs) h)) (rh : RH P ρ B H h) (hp : H p = none) (rv : RVs P.K ρ B H xs vs) : Q (.ref p) (upd H p (.lst vs)) :=
  q ρ _ _ (Ext.new hp) (rh.frz hp) (new_lst rh hp rv)
theorem ok_newT {W : WX} {ρ : List Addr} {B : Addr → Prop} {σ : St} {H : Hp} {Q : VK} {h : AH} {xs : List AV} {vs : List V} {p : Addr} (q : EPost P b W ρ B σ H Q (.ok (.tup xs) h)) (rh : RH P ρ B H h) (hp : H p = none) (rv : RVs P.K ρ B H xs vs) : Q (.ref p) (upd H p (.tup vs)) :=
  q ρ _ _ (Ext.new hp) (rh.frz hp) (new_tup rh hp rv)
def rAdd4 (K : PySem.W.Frag) : R2 := fun x y H Q => (rI0 fun i j => .int (i + j)) x y H Q ∨ (∃ i j, x = .str i ∧ y = .str j ∧ i.length + j.length ≤ sizeLine ∧ Q (.str (i ++ j)) H) ∨ rCatA K x y H Q ∨ rCat x y H Q
theorem op_add4 : OpR X (binaryOp .Add) (rAdd4 X.K) := op_add.or (op_add_str.or (op_catA.or op_cat))
theorem RVs.ne {K : PySem.W.Frag} {ρ : List Addr} {B : Addr → Prop} {H : Hp} {xs : List AV} {vs : List V} (h : RVs K ρ B H xs vs) : vs = [] ↔ xs = [] := by
  have := h.len
  cases xs <;> cases vs <;> simp_all
theorem rvb_tup {ρ : List Addr} {B : Addr → Prop} {H : Hp} {xs : List AV} {v : V} (h : RVb P.K ρ B H (.tup xs) v) : RV P.K ρ B H (.tup xs) v := by
  rcases h with h | ⟨_, _, _, _, _, h⟩
  · exact h
  · exact h.elim
theorem v_add : V2 P b addV (rAdd4 P.K) := by
  intro W ρ B σ H av bv h x y Q rh r1 r2 q
  unfold addV at q
  split at q
  · exact .inl ⟨_, _, rv_int r1, rv_int r2, ok_post q rh mk_int⟩
  · split at q
    · rename_i hz
      exact .inr (.inl ⟨_, _, rv_str r1, rv_str r2, hz, ok_post q rh mk_str⟩)
    · exact q.elim
  · split at q
    · rename_i xs ys _ hz
      obtain ⟨a1, vs, e1, h1, g1⟩ := rv_tup r1
      obtain ⟨a2, ws, e2, h2, g2⟩ := rv_tup r2
      refine .inr (.inr (.inl ⟨a1, a2, vs, ws, e1, e2, h1, h2, by rw [← g1.len, ← g2.len]; exact hz, fun e => ?_, fun e e' => ?_, fun e e' p hp => ok_newT q rh hp (g1.app g2)⟩))
      · have z := g1.ne.mp e
        subst z
        rw [← e2]
        exact ok_post q rh (rvb_tup r2)
      · have z := g2.ne.mp e'
        subst z
        rw [List.append_nil] at q
        rw [← e1]
        exact ok_post q rh (rvb_tup r1)
    · exact q.elim
  · split at q
    · rename_i xs ys ex ey
      split at q
      · rename_i hz
        obtain ⟨a1, vs, e1, h1, g1⟩ := rv_lv rh r1 ex
        obtain ⟨a2, ws, e2, h2, g2⟩ := rv_lv rh r2 ey
        exact .inr (.inr (.inr ⟨a1, a2, vs, ws, e1, e2, h1, h2, by rw [← g1.len, ← g2.len]; exact hz, fun p hp => ok_new q rh hp (g1.app g2)⟩))
      · exact q.elim
    · exact q.elim
theorem v_sub : V2 P b subV (rI0 fun i j => .int (i - j)) := by
  intro W ρ B σ H av bv h x y Q rh r1 r2 q
  unfold subV at q
  split at q
  · exact ⟨_, _, rv_int r1, rv_int r2, ok_post q rh mk_int⟩
  · exact q.elim
def rMul2 : R2 := fun x y H Q => rI CMul (fun i j => .int (i * j)) x y H Q ∨ rRep x y H Q
theorem op_mul2 : OpR X (binaryOp .Mult) rMul2 := op_mul.or op_rep
theorem v_mul : V2 P b mulV rMul2 := by
  intro W ρ B σ H av bv h x y Q rh r1 r2 q
  unfold mulV at q
  split at q
  · split at q
    · rename_i hs
      refine .inl ⟨_, _, rv_int r1, rv_int r2, ?_, ok_post q rh mk_int⟩
      rw [Bool.or_eq_true] at hs
      unfold smallI at hs
      simp only [Bool.and_eq_true, decide_eq_true_eq] at hs
      exact hs
    · exact q.elim
  · split at q
    · rename_i hz
      obtain ⟨a1, vs, e1, h1, g1⟩ := rv_lv rh r1 (show lv h (.lst _) = some _ from rfl)
      exact .inr ⟨a1, _, vs, e1, rv_int r2, h1, by omega, by omega, by rw [← g1.len]; exact hz.2.1, fun p hp => ok_new q rh hp (g1.rep _)⟩
    · exact q.elim
  · exact q.elim
theorem v_fdiv : V2 P b fdivV (rI CDivN fun i j => .int (i.fdiv j)) := by
  intro W ρ B σ H av bv h x y Q rh r1 r2 q
  unfold fdivV at q
  split at q
  · split at q
    · rename_i hs
      exact ⟨_, _, rv_int r1, rv_int r2, hs, ok_post q rh mk_int⟩
    · exact q.elim
  · exact q.elim
theorem v_mod : V2 P b modV (rI (fun _ j => j ≠ 0) fun i j => .int (i.fmod j)) := by
  intro W ρ B σ H av bv h x y Q rh r1 r2 q
  unfold modV at q
  split at q
  · split at q
    · rename_i hs
      exact ⟨_, _, rv_int r1, rv_int r2, hs, ok_post q rh mk_int⟩
    · exact q.elim
  · exact q.elim
theorem v_pow : V2 P b powV (rI CPow fun i j => .int (i ^ j.toNat)) := by
  intro W ρ B σ H av bv h x y Q rh r1 r2 q
  unfold powV at q
  split at q
  · split at q
    · rename_i hs
      exact ⟨_, _, rv_int r1, rv_int r2, hs, ok_post q rh mk_int⟩
    · exact q.elim
  · exact q.elim
theorem v_neg : V1 P b negV (rU fun i => .int (-i)) := by
  intro W ρ B σ H av h x Q rh r1 q
  unfold negV at q
  split at q
  · exact ⟨_, rv_int r1, ok_post q rh mk_int⟩
  · exact q.elim
def rLt2 : R2 := fun x y H Q => (rI0 fun i j => .bl (decide (i < j))) x y H Q ∨ (∃ i j, x = .str i ∧ y = .str j ∧ Q (.bl (decide (i.cps.toList < j.cps.toList))) H)
theorem op_lt2 : OpR X (compareOp .Lt) rLt2 := op_lt.or op_lt_str
theorem v_lt : V2 P b ltV rLt2 := by
  intro W ρ B σ H av bv h x y Q rh r1 r2 q
  unfold ltV at q
  split at q
  · exact .inl ⟨_, _, rv_int r1, rv_int r2, ok_post q rh mk_bl⟩
  · exact .inr ⟨_, _, rv_str r1, rv_str r2, ok_post q rh mk_bl⟩
  · exact q.elim
theorem v_cmpI {p : Int → Int → Bool} : V2 P b (cmpI p) (rI0 fun i j => .bl (p i j)) := by
  intro W ρ B σ H av bv h x y Q rh r1 r2 q
  unfold cmpI at q
  split at q
  · exact ⟨_, _, rv_int r1, rv_int r2, ok_post q rh mk_bl⟩
  · exact q.elim
theorem thaw_rv {ρ : List Addr} {B : Addr → Prop} {H : Hp} {h : AH} {x : AV} {v : V} (rh : RH P ρ B H h) (r : RVb P.K ρ B H x v) : (∃ s, thaw h x = .str s ∧ v = .str s) ∨ (∃ s, thaw h x = .int s ∧ v = .int s) ∨ (∃ s, thaw h x = .bl s ∧ v = .bl s) ∨ (thaw h x = .non ∧ v = .non) ∨ scalA (thaw h x) (thaw h x) = false := by
  cases x with
  | non => exact .inr (.inr (.inr (.inl ⟨rfl, rv_non r⟩)))
  | bl s => exact .inr (.inr (.inl ⟨s, rfl, rv_bl r⟩))
  | int s => exact .inr (.inl ⟨s, rfl, rv_int r⟩)
  | str s => exact .inl ⟨s, rfl, rv_str r⟩
  | tup _ => exact .inr (.inr (.inr (.inr rfl)))
  | lst _ => exact .inr (.inr (.inr (.inr rfl)))
  | dct _ => exact .inr (.inr (.inr (.inr rfl)))
  | ro _ => exact .inr (.inr (.inr (.inr rfl)))
  | ref i =>
    refine .inr (.inr (.inr (.inr ?_)))
    simp only [thaw]
    split <;> rfl
theorem thaw_dp {ρ : List Addr} {B : Addr → Prop} {H : Hp} {h : AH} {x : AV} {v : V} (rh : RH P ρ B H h) (r : RVb P.K ρ B H x v) {n : Nat} (hd : (thaw h x).dl n = true) : Dp P.K H v (thaw h x).toD := by
  have lst : ∀ xs, lv h x = some xs → (AV.lst xs).dl n = true → Dp P.K H v (AV.lst xs).toD := fun xs e hd => by
    obtain ⟨a, vs, e1, h1, h2⟩ := rv_lv rh r e
    subst e1
    cases n with
    | zero => simp [AV.dl] at hd
    | succ m =>
      unfold AV.toD
      exact .lst (SqL.of h1) (dps_of rh m xs (by simpa [AV.dl] using hd) h2)
  cases x with
  | ref i =>
    simp only [thaw] at hd ⊢
    split at hd
    · rename_i xs hx
      exact lst xs (by simp only [lv]; rw [hx]) hd
    · cases n <;> simp [AV.dl] at hd
  | non => rcases r with r | ⟨_, _, _, _, _, r⟩ <;> first | exact dp_of rh n _ hd r | exact r.elim
  | bl _ => rcases r with r | ⟨_, _, _, _, _, r⟩ <;> first | exact dp_of rh n _ hd r | exact r.elim
  | int _ => rcases r with r | ⟨_, _, _, _, _, r⟩ <;> first | exact dp_of rh n _ hd r | exact r.elim
  | str _ => rcases r with r | ⟨_, _, _, _, _, r⟩ <;> first | exact dp_of rh n _ hd r | exact r.elim
  | tup _ => rcases r with r | ⟨_, _, _, _, _, r⟩ <;> first | exact dp_of rh n _ hd r | exact r.elim
  | lst xs => exact lst xs rfl hd
  | dct _ => have hd' : AV.dl n (.dct _) = true := hd; cases n <;> simp [AV.dl] at hd'
  | ro _ => have hd' : AV.dl n (.ro _) = true := hd; cases n <;> simp [AV.dl] at hd'
def rEq2 (K : PySem.W.Frag) : R2 := fun x y H Q => rEq x y H Q ∨ rEqD K x y H Q
def rNe2 (K : PySem.W.Frag) : R2 := fun x y H Q => rNe x y H Q ∨ rNeD K x y H Q
theorem op_eq2 (hu : X.A.units + 64 < cLine) : OpR X (compareOp .Eq) (rEq2 X.K) := op_eq.or (op_eqD hu)
theorem op_ne2 (hu : X.A.units + 64 < cLine) : OpR X (compareOp .NotEq) (rNe2 X.K) := op_ne.or (op_neD hu)
theorem scal_eq {ρ : List Addr} {B : Addr → Prop} {H : Hp} {h : AH} {x y : AV} {v w : V} (rh : RH P ρ B H h) (r1 : RVb P.K ρ B H x v) (r2 : RVb P.K ρ B H y w) (hs : scalA (thaw h x) (thaw h y) = true) :
    scal v w = true ∧ decide (v = w) = (thaw h x).eq (thaw h y) := by
  rcases thaw_rv rh r1 with ⟨s, e1, rfl⟩ | ⟨s, e1, rfl⟩ | ⟨s, e1, rfl⟩ | ⟨e1, rfl⟩ | e1 <;> rcases thaw_rv rh r2 with ⟨t, e2, rfl⟩ | ⟨t, e2, rfl⟩ | ⟨t, e2, rfl⟩ | ⟨e2, rfl⟩ | e2 <;>
    first
    | (rw [e1, e2]; refine ⟨rfl, ?_⟩; unfold AV.eq; first | exact dec_str | exact dec_int | exact dec_bl | exact decide_eq_true rfl | exact decide_eq_false (fun z => by cases z))
    | (rw [e1, e2] at hs; simp [scalA] at hs; done)
    | (exfalso; revert hs e1 e2; generalize thaw h x = p; generalize thaw h y = q; cases p <;> cases q <;> simp [scalA])
theorem v_eq : V2 P b eqV (rEq2 P.K) := by
  intro W ρ B σ H av bv h x y Q rh r1 r2 q
  unfold eqV at q
  split at q
  · rename_i hok
    unfold eqOk at hok
    by_cases hs : scalA (thaw h av) (thaw h bv) = true
    · obtain ⟨g1, g2⟩ := scal_eq rh r1 r2 hs
      exact .inl ⟨g1, by rw [g2]; exact ok_post q rh mk_bl⟩
    · have hs' : scalA (thaw h av) (thaw h bv) = false := by simpa using hs
      rw [hs', Bool.false_or, Bool.and_eq_true] at hok
      exact .inr ⟨_, _, thaw_dp rh r1 hok.1, thaw_dp rh r2 hok.2, shaped_of hok.1 (by decide), shaped_of hok.2 (by decide), by rw [eqv_of _ _ _ _ hok.1 hok.2]; exact ok_post q rh mk_bl⟩
  · exact q.elim
theorem v_ne : V2 P b neV (rNe2 P.K) := by
  intro W ρ B σ H av bv h x y Q rh r1 r2 q
  unfold neV at q
  split at q
  · rename_i hok
    unfold eqOk at hok
    by_cases hs : scalA (thaw h av) (thaw h bv) = true
    · obtain ⟨g1, g2⟩ := scal_eq rh r1 r2 hs
      exact .inl ⟨g1, by rw [g2]; exact ok_post q rh mk_bl⟩
    · have hs' : scalA (thaw h av) (thaw h bv) = false := by simpa using hs
      rw [hs', Bool.false_or, Bool.and_eq_true] at hok
      exact .inr ⟨_, _, thaw_dp rh r1 hok.1, thaw_dp rh r2 hok.2, shaped_of hok.1 (by decide), shaped_of hok.2 (by decide), by rw [eqv_of _ _ _ _ hok.1 hok.2]; exact ok_post q rh mk_bl⟩
  · exact q.elim
theorem isNon_of {ρ : List Addr} {B : Addr → Prop} {H : Hp} {x : AV} {v : V} (r : RVb P.K ρ B H x v) : decide (v = V.non) = isNonA x := by
  rcases r with r | ⟨a, u, rfl, _, _, r⟩
  · cases x with
    | non => rw [rv_non (.inl r)]; rfl
    | bl s => rw [rv_bl (.inl r)]; rfl
    | int s => rw [rv_int (.inl r)]; rfl
    | str s => rw [rv_str (.inl r)]; rfl
    | tup _ => unfold RV at r; obtain ⟨a, _, rfl, _⟩ := r; rfl
    | lst _ => unfold RV at r; obtain ⟨a, _, rfl, _⟩ := r; rfl
    | dct _ => unfold RV at r; obtain ⟨a, _, rfl, _⟩ := r; rfl
    | ref _ => unfold RV at r; obtain ⟨a, rfl, _⟩ := r; rfl
    | ro _ => unfold RV at r; obtain ⟨a, _, rfl, _⟩ := r; rfl
  · cases x with
    | lst _ => rfl
    | dct _ => rfl
    | non => exact r.elim
    | bl _ => exact r.elim
    | int _ => exact r.elim
    | str _ => exact r.elim
    | tup _ => exact r.elim
    | ref _ => exact r.elim
    | ro _ => exact r.elim
end
end D
end

section
namespace D
open PySem L2

section
variable {P : Pm} {X : Cx} {b : Bool} {W : WX} {N : List Nat} {e a c o i : Expr} {es : List Expr} {pos : Pos} {ma mb mc mo mi : EV} {ms : List EV}

theorem key_kv {ρ : List Addr} {B : Addr → Prop} {H : Hp} {k : AV} {v : V} (hk : flatK k = true) (r : RVb P.K ρ B H k v) : ∃ k', keyOf k = some k' ∧ v = kV k' := by
  cases k with
  | int i => exact ⟨.inl i, rfl, rv_int r⟩
  | str s => exact ⟨.inr s, rfl, rv_str r⟩
  | non => cases hk
  | bl _ => cases hk
  | tup _ => cases hk
  | lst _ => cases hk
  | dct _ => cases hk
  | ref _ => cases hk
  | ro _ => cases hk
theorem key_eq {k l : AV} {k' l' : Key} (h1 : keyOf k = some k') (h2 : keyOf l = some l') : AV.eq k l = decide (k' = l') := by
  cases k <;> first | (cases h1; done) | skip
  all_goals cases l <;> first | (cases h2; done) | skip
  · cases h1; cases h2; unfold AV.eq; rw [key_ll]
  · cases h1; cases h2; unfold AV.eq; rw [key_lr]
  · cases h1; cases h2; unfold AV.eq; rw [key_rl]
  · cases h1; cases h2; unfold AV.eq; rw [key_rr]; exact Bool.beq_eq_decide_eq ..
theorem dlook_val {ρ : List Addr} {B : Addr → Prop} {H : Hp} {k : AV} {k' : Key} (hk : keyOf k = some k') : ∀ {kvs : List (AV × AV)} {us : List (Key × V)}, RKs P.K ρ B H kvs us →
    (∀ x, dlook kvs k = some x → ∃ v, valV us k' = some v ∧ RV P.K ρ B H x v) ∧ (dlook kvs k = none → valV us k' = none)
  | [], us, h => by
    unfold RKs at h
    subst h
    exact ⟨fun x e => by simp [dlook] at e, fun _ => rfl⟩
  | (l, y) :: r, us, h => by
    unfold RKs at h
    obtain ⟨l', v, t, rfl, h1, h2, h3⟩ := h
    have ih := dlook_val hk h3
    have q := key_eq h1 hk
    by_cases e : l' = k'
    · have e1 : AV.eq l k = true := by rw [q]; exact decide_eq_true e
      refine ⟨fun x ex => ?_, fun ex => ?_⟩
      · simp [dlook, List.find?_cons, e1] at ex
        subst ex
        exact ⟨v, valV_pos (p := (l', v)) e, h2⟩
      · simp [dlook, List.find?_cons, e1] at ex
    · have e1 : AV.eq l k = false := by rw [q]; exact decide_eq_false e
      refine ⟨fun x ex => ?_, fun ex => ?_⟩
      · have ex' : dlook r k = some x := by simpa [dlook, List.find?_cons, e1] using ex
        obtain ⟨w, g1, g2⟩ := ih.1 x ex'
        exact ⟨w, by rw [valV_neg (p := (l', v)) e]; exact g1, g2⟩
      · have ex' : dlook r k = none := by simpa [dlook, List.find?_cons, e1] using ex
        rw [valV_neg (p := (l', v)) e]
        exact ih.2 ex'
theorem RKs.len {ρ : List Addr} {B : Addr → Prop} {H : Hp} : ∀ {kvs : List (AV × AV)} {us : List (Key × V)}, RKs P.K ρ B H kvs us → kvs.length = us.length
  | [], us, h => by unfold RKs at h; subst h; rfl
  | (l, y) :: r, us, h => by
    unfold RKs at h
    obtain ⟨l', v, t, rfl, h1, h2, h3⟩ := h
    simp [RKs.len h3]
theorem dput_val {ρ : List Addr} {B : Addr → Prop} {H : Hp} {k x : AV} {k' : Key} {w : V} (hk : keyOf k = some k') (hx : RV P.K ρ B H x w) {kvs : List (AV × AV)} {us : List (Key × V)} (h : RKs P.K ρ B H kvs us) : RKs P.K ρ B H (dput kvs k x) (putK us k' w) := by
  have hany : ∀ {kvs : List (AV × AV)} {us : List (Key × V)}, RKs P.K ρ B H kvs us → (kvs.any fun kv => AV.eq kv.1 k) = us.any fun kv => decide (kv.1 = k') := by
    intro kvs
    induction kvs with
    | nil => intro us h; unfold RKs at h; subst h; rfl
    | cons p r ih =>
      intro us h
      obtain ⟨l, y⟩ := p
      unfold RKs at h
      obtain ⟨l', v, t, rfl, h1, h2, h3⟩ := h
      simp only [List.any_cons]
      rw [ih h3, key_eq h1 hk]
  have hmap : ∀ {kvs : List (AV × AV)} {us : List (Key × V)}, RKs P.K ρ B H kvs us → RKs P.K ρ B H (kvs.map fun kv => if AV.eq kv.1 k then (kv.1, x) else kv) (us.map fun kv => if kv.1 = k' then (kv.1, w) else kv) := by
    intro kvs
    induction kvs with
    | nil => intro us h; unfold RKs at h; subst h; unfold RKs; rfl
    | cons p r ih =>
      intro us h
      obtain ⟨l, y⟩ := p
      unfold RKs at h
      obtain ⟨l', v, t, rfl, h1, h2, h3⟩ := h
      simp only [List.map_cons]
      rw [key_eq h1 hk]
      by_cases e : l' = k'
      · rw [decide_eq_true e, if_pos rfl, if_pos e]
        unfold RKs
        exact ⟨l', w, _, rfl, h1, hx, ih h3⟩
      · rw [decide_eq_false e, if_neg (by decide), if_neg e]
        unfold RKs
        exact ⟨l', v, _, rfl, h1, h2, ih h3⟩
  have happ : ∀ {kvs : List (AV × AV)} {us : List (Key × V)}, RKs P.K ρ B H kvs us → RKs P.K ρ B H (kvs ++ [(k, x)]) (us ++ [(k', w)]) := by
    intro kvs
    induction kvs with
    | nil => intro us h; unfold RKs at h; subst h; unfold RKs; exact ⟨k', w, [], rfl, hk, hx, by unfold RKs; rfl⟩
    | cons p r ih =>
      intro us h
      obtain ⟨l, y⟩ := p
      unfold RKs at h
      obtain ⟨l', v, t, rfl, h1, h2, h3⟩ := h
      rw [List.cons_append, List.cons_append]
      unfold RKs
      exact ⟨l', v, _, rfl, h1, h2, ih h3⟩
  unfold dput putK
  rw [hany h]
  split
  · exact hmap h
  · exact happ h

def rIxD : R2 := fun x y H Q => ∃ a v, x = .ref a ∧ DGet H a y (some v) ∧ Q v H
theorem ix_dict (hu : X.A.units + 1 < cLine) : IxR X rIxD := by
  intro value slice pins s σ H x y v u Q I rx ry h hs
  obtain ⟨p, z, rfl, g, q⟩ := h
  cases rx
  exact PyProof.Rows.tail_any (dict_typeIs I g) PySem.F.slot_dict_getitem.lookup (d_getItem hu I g ry fun w' s' I' rw' => ⟨z, H, I', rw', q⟩) hs
def rIx4 (K : PySem.W.Frag) : R2 := fun x y H Q => rIx K x y H Q ∨ rIxD x y H Q
theorem ix4 (hu : X.A.units + 1 < cLine) : IxR X (rIx4 X.K) := ix_seq.or (ix_dict hu)
theorem at_rv {ρ : List Addr} {B : Addr → Prop} {H : Hp} {xs : List AV} {vs : List V} {k : Int} {x : AV} (h : RVs P.K ρ B H xs vs) (e : atI xs k = some x) : ∃ v, L2.atI vs k = some v ∧ RV P.K ρ B H x v := by
  unfold atI at e
  have el : ixI xs.length k = L2.ixN vs.length k := by rw [h.len]; rfl
  rw [el] at e
  unfold L2.atI
  cases g : L2.ixN vs.length k with
  | none => rw [g] at e; cases e
  | some j =>
    rw [g] at e
    exact h.get (i := j) e
theorem v_get : V2 P b getV (rIx4 P.K) := by
  intro W ρ B σ H av bv h x y Q rh r1 r2 q
  unfold getV at q
  cases g : getO av bv h with
  | none => rw [g] at q; exact q.elim
  | some w =>
    rw [g] at q
    have seq : ∀ (xs : List AV) (a1 : Addr) (vs : List V), RVs P.K ρ B H xs vs → atA xs bv = some w → ∃ k u, y = .int k ∧ L2.atI vs k = some u ∧ Q u H := fun xs a1 vs g1 e => by
      unfold atA at e
      cases ek : iOf bv with
      | none => rw [ek] at e; cases e
      | some k =>
        rw [ek] at e
        have eb : bv = .int k := by cases bv <;> first | (cases ek; rfl) | cases ek
        subst eb
        obtain ⟨u, e2, g2⟩ := at_rv g1 (show atI xs k = some w from e)
        exact ⟨k, u, rv_int r2, e2, ok_post q rh g2⟩
    have heap : getH av bv h = some w → rIx4 P.K x y H Q := fun e => by
      unfold getH at e
      cases er : rl h av with
      | some xs =>
        rw [er] at e
        obtain ⟨a1, vs, e1, h1, g1⟩ := rv_rl rh r1 er
        obtain ⟨k, u, e2, e3, e4⟩ := seq xs a1 vs g1 e
        exact .inl (.inl ⟨a1, vs, k, u, e1, e2, h1, e3, e4⟩)
      | none =>
        rw [er] at e
        cases ed : dv h av with
        | none => rw [ed] at e; cases e
        | some kvs =>
          rw [ed] at e
          have e' : atK kvs bv = some w := e
          unfold atK at e'
          split at e'
          · rename_i hk
            obtain ⟨a1, us, e1, h1, g1⟩ := rv_dv rh r1 ed
            obtain ⟨k', hk', e2⟩ := key_kv hk r2
            obtain ⟨u, g3, g4⟩ := (dlook_val hk' g1).1 w e'
            refine .inr ⟨a1, u, e1, ?_, ok_post q rh g4⟩
            rw [e2, ← g3]
            exact .inl ⟨us, k', h1, rfl, rfl⟩
          · cases e'
    cases av with
    | tup xs =>
      obtain ⟨a1, vs, e1, h1, g1⟩ := rv_tup r1
      obtain ⟨k, u, e2, e3, e4⟩ := seq xs a1 vs g1 g
      exact .inl (.inr (.inl ⟨a1, vs, k, u, e1, e2, h1, e3, e4⟩))
    | str s =>
      have e : atS s bv = some w := g
      unfold atS at e
      split at e
      · rename_i hz
        cases ek : iOf bv with
        | none => rw [ek] at e; cases e
        | some k =>
          rw [ek] at e
          have eb : bv = .int k := by cases bv <;> first | (cases ek; rfl) | cases ek
          subst eb
          have e' : ((atI s.cps.toList k).map fun c => AV.str ⟨#[c]⟩) = some w := e
          cases ec : atI s.cps.toList k with
          | none => rw [ec] at e'; cases e'
          | some cc =>
            rw [ec] at e'
            cases e'
            exact .inl (.inr (.inr ⟨s, k, cc, rv_str r1, rv_int r2, hz, ec, ok_post q rh mk_str⟩))
      · cases e
    | non => exact heap g
    | bl _ => exact heap g
    | int _ => exact heap g
    | lst _ => exact heap g
    | dct _ => exact heap g
    | ref _ => exact heap g
    | ro _ => exact heap g
theorem de_get (hK : P.K = X.K) (hu : X.A.units + 1 < cLine) (ho : DB P X b W N o mo) (hi : DB P X b W N i mi) (hs : PlainIx i := by intro _ _; rfl) : DE P X b W N (.Subscript o i pos) (bin getV mo mi) :=
  ⟨pe_weak (pe_ix (ix4 hu) ho.pe hi.pe hs) (bin_weak (hK ▸ v_get))⟩

theorem sIx_eq (n d : Nat) (o : Option Int) : sIx n d o = HT.sIx n d o := by cases o <;> rfl
theorem cut_eq {α : Type} (xs : List α) (lo hi : Option Int) : cut xs lo hi = (xs.drop (HT.sIx xs.length 0 lo)).take (HT.sIx xs.length xs.length hi - HT.sIx xs.length 0 lo) := by
  unfold cut
  rw [sIx_eq, sIx_eq]
def tDO (P : Pm) (b : Bool) (W : WX) (N : List Nat) (m : LV) : TO := fun σ H Q =>
  ∃ ρ B ow σa h, RH P ρ (Bo B ow) H h ∧ RS P ρ B ow H σa σ ∧ ow.map (·.1) = N ∧ LPostB P b W ρ (Bo B ow) σ H (fun vs H1 => ∃ av, LR.ok av h = .ok av h ∧ ∀ i, (vs = [] ∧ i = none) ∨ (∃ k, vs = [.int k] ∧ i = some k) → Q i H1) (m σa h)
/-- a part of a slice -/
structure DO (P : Pm) (X : Cx) (b : Bool) (W : WX) (N : List Nat) (e : Option Expr) (m : Option EV) : Prop where
  run : ∀ σ H (R : Option Int → Hp → Prop), tDAB P b W N (partD m) σ H (fun vs H1 => (∀ i, (vs = [] ∧ i = none) ∨ (∃ k : Int, vs = [.int k] ∧ i = some k) → R i H1)) → True
  po : ∃ t, PO X e t ∧ ∀ σ H (R : Option Int → Hp → Prop), tDAB P b W N (partD m) σ H (fun vs H1 => (vs = [] ∧ R none H1) ∨ ∃ k : Int, vs = [.int k] ∧ R (some k) H1) → t σ H R
theorem do_none : DO P X b W N none none := by
  refine ⟨fun _ _ _ _ => trivial, tNoPart, po_none, ?_⟩
  rintro σ H R ⟨ρ, B, ow, σa, h, rh, rs, hN, q⟩
  have := q ρ H [] (Ext.refl b ρ H) rh rfl
  rcases this with ⟨_, g⟩ | ⟨k, e, _⟩
  · exact g
  · cases e
theorem do_some (he : DB P X b W N e ma) : DO P X b W N (some e) (some ma) := by
  refine ⟨fun _ _ _ _ => trivial, _, po_some he.pe, ?_⟩
  rintro σ H R ⟨ρ, B, ow, σa, h, rh, rs, hN, q⟩
  refine ⟨ρ, B, ow, σa, h, rh, rs, hN, (EPost.bindLB q).imp ?_⟩
  rintro x H1 ⟨ρ1, av, h1, e1, rh1, rv1, q1⟩
  cases av with
  | int k =>
    have := q1 ρ1 H1 [.int k] (Ext.refl b ρ1 H1) rh1 ⟨.int k, [], rfl, .inl mk_int, rfl⟩
    rcases this with ⟨e, _⟩ | ⟨k', e, g⟩
    · cases e
    · cases e
      exact ⟨k, rv_int rv1, g⟩
  | non => exact q1.elim
  | bl _ => exact q1.elim
  | str _ => exact q1.elim
  | tup _ => exact q1.elim
  | lst _ => exact q1.elim
  | dct _ => exact q1.elim
  | ref _ => exact q1.elim
  | ro _ => exact q1.elim
def rSl3 (K : PySem.W.Frag) : V → Option Int → Option Int → Hp → VK → Prop := fun x lo hi H Q => rSlL K x lo hi H Q ∨ rSlA K x lo hi H Q ∨ rSlS x lo hi H Q
theorem sl3 : SlR X (rSl3 X.K) := sl_list.or (sl_tupA.or sl_str)
theorem RVs.cut {ρ : List Addr} {B : Addr → Prop} {H : Hp} {xs : List AV} {vs : List V} (h : RVs P.K ρ B H xs vs) (lo hi : Option Int) : RVs P.K ρ B H (D.cut xs lo hi) (cutV vs lo hi) := by
  rw [cut_eq]
  unfold cutV
  rw [← h.len]
  exact (h.drop _).take _
theorem cut_whole {α : Type} {xs : List α} {lo hi : Option Int} (h : HT.sIx xs.length 0 lo = 0 ∧ HT.sIx xs.length xs.length hi = xs.length) : cut xs lo hi = xs := by
  rw [cut_eq, h.1, h.2]
  simp
theorem v_slice {ρ : List Addr} {B : Addr → Prop} {σ : St} {H : Hp} {av : AV} {h : AH} {x : V} {lo hi : Option Int} {Q : VK} (rh : RH P ρ B H h) (r : RVb P.K ρ B H av x) (q : EPost P b W ρ B σ H Q (sliceV av lo hi h)) : rSl3 P.K x lo hi H Q := by
  unfold sliceV at q
  split at q
  · rename_i xs
    obtain ⟨a1, vs, e1, h1, g1⟩ := rv_tup r
    refine .inr (.inl ⟨a1, vs, e1, h1, fun hw => ?_, fun _ p hp => ok_newT q rh hp (g1.cut lo hi)⟩)
    rw [← g1.len] at hw
    rw [cut_whole hw] at q
    rw [← e1]
    exact ok_post q rh (rvb_tup r)
  · split at q
    · rename_i s hz
      refine .inr (.inr ⟨s, rv_str r, hz, ?_⟩)
      rw [cut_eq, Array.length_toList] at q
      exact ok_post q rh mk_str
    · exact q.elim
  · split at q
    · rename_i xs ex
      obtain ⟨a1, vs, e1, h1, g1⟩ := rv_rl rh r ex
      exact .inl ⟨a1, vs, e1, h1, fun p hp => ok_new q rh hp (g1.cut lo hi)⟩
    · exact q.elim
theorem LPostB.ext {ρ ρ1 : List Addr} {B : Addr → Prop} {σ : St} {H H1 : Hp} {r : LR} {Q : List V → Hp → Prop} (h : LPostB P b W ρ B σ H Q r) (e : Ext b ρ H ρ1 H1) : LPostB P b W ρ1 B σ H1 Q r := by
  cases r with
  | ok av h' => exact fun ρ' H' v f => h ρ' H' v (e.trans f)
  | exc c x h' => exact fun ρ' H' v f => h ρ' H' v (e.trans f)
  | stuck => exact h
theorem LPostB.imp {ρ : List Addr} {B : Addr → Prop} {σ : St} {H : Hp} {r : LR} {Q Q' : List V → Hp → Prop} (h : LPostB P b W ρ B σ H Q r) (hq : ∀ v H, Q v H → Q' v H) : LPostB P b W ρ B σ H Q' r := by
  cases r with
  | ok av h' => exact fun ρ' H' v e rh rv => hq _ _ (h ρ' H' v e rh rv)
  | exc c x h' => exact h
  | stuck => exact h
theorem part_pI {m : Option EV} {σa : AS} {h h' : AH} {av : List AV} (e : partD m σa h = .ok av h') : av = [] ∨ ∃ k, av = [.int k] := by
  unfold partD at e
  cases m with
  | none => cases e; exact .inl rfl
  | some m =>
    dsimp only at e
    cases g : m σa h with
    | ok v h1 =>
      rw [g] at e
      cases v <;> first | (simp only [ER.bindL] at e; cases e; exact .inr ⟨_, rfl⟩) | (simp only [ER.bindL] at e; cases e)
    | exc _ _ _ => rw [g] at e; cases e
    | stuck => rw [g] at e; cases e
theorem de_slice {p2 : Pos} {lo hi : Option Expr} {ml mh : Option EV} (hK : P.K = X.K) (ho : DB P X b W N o mo) (hl : DO P X b W N lo ml) (hh : DO P X b W N hi mh) : DE P X b W N (.Subscript o (.Slice lo hi none p2) pos) (sliceD mo ml mh) := by
  obtain ⟨_, tl, pl, wl⟩ := hl
  obtain ⟨_, th, ph, wh⟩ := hh
  refine ⟨pe_weak (pe_slice sl3 ho.pe pl ph) ?_⟩
  rintro σ H Q ⟨ρ, B, ow, σa, h, rh, rs, hN, q⟩
  refine ⟨ρ, B, ow, σa, h, rh, rs, hN, (EPost.bindB q).imp ?_⟩
  rintro x H1 ⟨ρ1, av, h1, e1, rh1, rv1, q1⟩
  refine wl σ H1 _ ⟨ρ1, B, ow, σa, h1, rh1, rs.ext e1, hN, ?_⟩
  have q1' := LPostB.bind q1
  cases g1 : partD ml σa h1 with
  | exc c f h' => rw [g1] at q1; exact q1
  | stuck => rw [g1] at q1; exact q1.elim
  | ok lv h2 =>
    rw [g1] at q1'
    intro ρ2 H2 vs f2 rh2 rv2
    obtain ⟨ρ3, lv', h3, f3, rh3, rv3, q3⟩ := q1' ρ2 H2 vs f2 rh2 rv2
    have q2 : EPost P b W ρ2 (Bo B ow) σ H2 Q ((partD mh σa h2).bind fun u h3 => sliceV av (pI lv) (pI u) h3) := by
      have : EPost P b W ρ1 (Bo B ow) σ H1 Q ((partD mh σa h2).bind fun u h3 => sliceV av (pI lv) (pI u) h3) := by rw [g1] at q1; exact q1
      exact this.ext f2
    have fin : ∀ R2 : Option Int, pI lv = R2 → th σ H2 fun u H3 => rSl3 X.K x R2 u H3 Q := fun R2 eR => by
      refine wh σ H2 _ ⟨ρ2, B, ow, σa, h2, rh2, (rs.ext e1).ext f2, hN, ?_⟩
      have q2' := LPostB.bind q2
      cases g2 : partD mh σa h2 with
      | exc c f h' => rw [g2] at q2; exact q2
      | stuck => rw [g2] at q2; exact q2.elim
      | ok uv h4 =>
        intro ρ4 H4 ws f4 rh4 rv4
        have q4 : EPost P b W ρ4 (Bo B ow) σ H4 Q (sliceV av (pI lv) (pI uv) h4) := by
          have : EPost P b W ρ2 (Bo B ow) σ H2 Q (sliceV av (pI lv) (pI uv) h4) := by rw [g2] at q2; exact q2
          exact this.ext f4
        have rvx := (rv1.ext f2).ext f4
        have q5 := v_slice rh4 rvx q4
        rw [hK, eR] at q5
        rcases part_pI g2 with rfl | ⟨k, rfl⟩
        · exact .inl ⟨rv4, q5⟩
        · obtain ⟨w, t, rfl, g, rfl⟩ := rv4
          exact .inr ⟨k, by rw [rv_int g], q5⟩
    rcases part_pI g1 with rfl | ⟨k, rfl⟩
    · exact .inl ⟨rv2, fin none rfl⟩
    · obtain ⟨w, t, rfl, g, rfl⟩ := rv2
      exact .inr ⟨k, by rw [rv_int g], fin (some k) rfl⟩
end
end D
end

section
namespace D
open PySem L2

section
variable {P : Pm} {X : Cx} {b : Bool} {W : WX} {N : List Nat} {e a c o i : Expr} {es : List Expr} {pos : Pos} {ma mb mc mo mi : EV} {ms : List EV} {m : LV}

def rDIn : R2 := fun x y H Q => ∃ a o, y = .ref a ∧ DGet H a x o ∧ Q (.bl o.isSome) H
def rDNotIn : R2 := fun x y H Q => ∃ a o, y = .ref a ∧ DGet H a x o ∧ Q (.bl (!o.isSome)) H
theorem op_dIn (hu : X.A.units + 1 < cLine) : OpR X (compareOp .In) rDIn := by
  intro pins s σ H x y v u Q I rx ry h
  obtain ⟨a, ov, rfl, g, q⟩ := h
  cases ry
  exact d_in hu I g rx fun s3 I3 => ⟨.bl ov.isSome, H, I3, rfl, q⟩
theorem op_dNotIn (hu : X.A.units + 1 < cLine) : OpR X (compareOp .NotIn) rDNotIn := by
  intro pins s σ H x y v u Q I rx ry h
  obtain ⟨a, ov, rfl, g, q⟩ := h
  cases ry
  exact d_notIn hu I g rx fun s3 I3 => ⟨.bl (!ov.isSome), H, I3, rfl, q⟩
/-- in a tuple, data of any depth -/
def rInT (K : PySem.W.Frag) (neg : Bool) : R2 := fun x y H Q => ∃ d ds, Dp K H x d ∧ Dp K H y (.tuple ds) ∧ SeqAt.shaped d = true ∧ SeqAt.shaped (.tuple ds) = true ∧ Q (.bl (if neg then !ds.any fun z => PyData.eqv z d else ds.any fun z => PyData.eqv z d)) H
theorem room_inT {A : Around} {ds : List PyData} {d : PyData} (h : SeqAt.shaped d = true) (hu : A.units + 65 < cLine) : A.units + 1 + min (PyData.depthAll ds) d.depth < cLine := by
  have h1 := SeqAt.depth_of_shaped h
  have h2 : min (PyData.depthAll ds) d.depth ≤ d.depth := Nat.min_le_right _ _
  omega
theorem op_inT (hu : X.A.units + 65 < cLine) : OpR X (compareOp .In) (rInT X.K false) := by
  intro pins s σ H x y v u Q I rx ry h
  obtain ⟨d, ds, hd, he, sd, se, q⟩ := h
  obtain ⟨as, r1⟩ := Dp.reads I d x v hd rx
  obtain ⟨bs, r2⟩ := Dp.reads I (.tuple ds) y u he ry
  exact SeqAt.in_tuple_reads r2 r1 (SeqAt.canLay_of_shaped se) (SeqAt.canLay_of_shaped sd) (room_inT sd hu) ⟨.bl _, H, I, rfl, q⟩
theorem op_notInT (hu : X.A.units + 65 < cLine) : OpR X (compareOp .NotIn) (rInT X.K true) := by
  intro pins s σ H x y v u Q I rx ry h
  obtain ⟨d, ds, hd, he, sd, se, q⟩ := h
  obtain ⟨as, r1⟩ := Dp.reads I d x v hd rx
  obtain ⟨bs, r2⟩ := Dp.reads I (.tuple ds) y u he ry
  exact SeqAt.notIn_tuple_reads r2 r1 (SeqAt.canLay_of_shaped se) (SeqAt.canLay_of_shaped sd) (room_inT sd hu) ⟨.bl _, H, I, rfl, q⟩
def rIn5 (K : PySem.W.Frag) : R2 := fun x y H Q => rIn K false x y H Q ∨ rInD K x y H Q ∨ rInT K false x y H Q ∨ rDIn x y H Q ∨ (∃ (c : Nat) (z : Str), x = .str ⟨#[c]⟩ ∧ y = .str z ∧ Q (.bl (decide (c ∈ z.cps.toList))) H)
def rNotIn5 (K : PySem.W.Frag) : R2 := fun x y H Q => rIn K true x y H Q ∨ rNotInD K x y H Q ∨ rInT K true x y H Q ∨ rDNotIn x y H Q ∨ (∃ (c : Nat) (z : Str), x = .str ⟨#[c]⟩ ∧ y = .str z ∧ Q (.bl (!decide (c ∈ z.cps.toList))) H)
theorem op_in5 (hu : X.A.units + 65 < cLine) : OpR X (compareOp .In) (rIn5 X.K) := op_in_seq.or ((op_inD hu).or ((op_inT hu).or ((op_dIn (by omega)).or op_in_sign)))
theorem op_notIn5 (hu : X.A.units + 65 < cLine) : OpR X (compareOp .NotIn) (rNotIn5 X.K) := op_notIn_seq.or ((op_notInD hu).or ((op_notInT hu).or ((op_dNotIn (by omega)).or op_notIn_sign)))
theorem flat_rv {ρ : List Addr} {B : Addr → Prop} {H : Hp} {x : AV} {v : V} (hf : isFlat x = true) (r : RVb P.K ρ B H x v) : flatV v = true ∧ ∀ {y : AV} {w : V}, isFlat y = true → RVb P.K ρ B H y w → L2.eqV w v = AV.eq y x := by
  cases x with
  | non =>
    rw [rv_non r]
    refine ⟨rfl, fun {y w} hy ry => ?_⟩
    cases y <;> first | (cases hy; done) | skip
    · rw [rv_non ry]; rfl
    · rw [rv_bl ry]; rfl
    · rw [rv_int ry]; rfl
    · rw [rv_str ry]; rfl
  | bl s =>
    rw [rv_bl r]
    refine ⟨rfl, fun {y w} hy ry => ?_⟩
    cases y <;> first | (cases hy; done) | skip
    · rw [rv_non ry]; rfl
    · rw [rv_bl ry]; rfl
    · rw [rv_int ry]; rfl
    · rw [rv_str ry]; rfl
  | int s =>
    rw [rv_int r]
    refine ⟨rfl, fun {y w} hy ry => ?_⟩
    cases y <;> first | (cases hy; done) | skip
    · rw [rv_non ry]; rfl
    · rw [rv_bl ry]; rfl
    · rw [rv_int ry]; rfl
    · rw [rv_str ry]; rfl
  | str s =>
    rw [rv_str r]
    refine ⟨rfl, fun {y w} hy ry => ?_⟩
    cases y <;> first | (cases hy; done) | skip
    · rw [rv_non ry]; rfl
    · rw [rv_bl ry]; rfl
    · rw [rv_int ry]; rfl
    · rw [rv_str ry]; rfl
  | tup _ => cases hf
  | lst _ => cases hf
  | dct _ => cases hf
  | ref _ => cases hf
  | ro _ => cases hf
theorem flats_rv {ρ : List Addr} {B : Addr → Prop} {H : Hp} {x : AV} {v : V} (hf : isFlat x = true) (r : RVb P.K ρ B H x v) : ∀ {xs : List AV} {vs : List V}, xs.all isFlat = true → RVs P.K ρ B H xs vs → vs.all flatV = true ∧ L2.inV v vs = xs.any fun z => AV.eq z x
  | [], vs, _, h => by unfold RVs at h; subst h; exact ⟨rfl, rfl⟩
  | y :: ys, vs, hy, h => by
    unfold RVs at h
    obtain ⟨w, t, rfl, h1, h2⟩ := h
    rw [List.all_cons, Bool.and_eq_true] at hy
    obtain ⟨g1, g2⟩ := flats_rv hf r hy.2 h2
    refine ⟨by rw [List.all_cons, (flat_rv hy.1 (.inl h1)).1, g1]; rfl, ?_⟩
    unfold L2.inV at g2 ⊢
    rw [List.any_cons, List.any_cons, g2, (flat_rv hf r).2 hy.1 (.inl h1)]
theorem toDs_map (xs : List AV) : AV.toDs xs = xs.map AV.toD := by
  induction xs with
  | nil => simp [AV.toDs]
  | cons x r ih => simp [AV.toDs, ih]
theorem any_toDs {n m : Nat} {x : AV} (hx : x.dl m = true) : ∀ {xs : List AV}, (∀ y ∈ xs, y.dl n = true) → ((AV.toDs xs).any fun z => PyData.eqv z x.toD) = xs.any fun z => AV.eq z x
  | [], _ => by simp [AV.toDs]
  | y :: ys, h => by
    simp only [AV.toDs, List.any_cons]
    rw [eqv_of n m y x (h y List.mem_cons_self) hx, any_toDs hx fun z hz => h z (List.mem_cons_of_mem _ hz)]
theorem dep_le {n : Nat} {x : AV} : ∀ {m : Nat}, n ≤ m → x.dl n = true → x.dl m = true := by
  intro m hm h
  induction n generalizing x m with
  | zero =>
    cases m with
    | zero => exact h
    | succ m => cases x <;> simp [AV.dl] at h ⊢ <;> exact h
  | succ n ih =>
    cases m with
    | zero => omega
    | succ m =>
      cases x with
      | tup xs =>
        simp only [AV.dl, List.all_eq_true] at h ⊢
        exact fun y hy => ih (by omega) (h y hy)
      | lst xs =>
        simp only [AV.dl, List.all_eq_true] at h ⊢
        exact fun y hy => ih (by omega) (h y hy)
      | non => simp [AV.dl]
      | bl _ => simp [AV.dl]
      | int _ => simp [AV.dl]
      | str _ => simp only [AV.dl] at h ⊢; exact h
      | dct _ => simp [AV.dl] at h
      | ref _ => simp [AV.dl] at h
      | ro _ => simp [AV.dl] at h
def InC (K : PySem.W.Frag) (H : Hp) (x y : V) (t : Bool) : Prop :=
    (∃ p xs, y = .ref p ∧ (SqL K H p xs ∨ SqT K H p xs) ∧ flatV x = true ∧ xs.all flatV = true ∧ L2.inV x xs = t) ∨
    (∃ d ds, Dp K H x d ∧ Dp K H y (.list ds) ∧ SeqAt.shaped d = true ∧ SeqAt.shaped (.list ds) = true ∧ (ds.any fun z => PyData.eqv z d) = t) ∨
    (∃ d ds, Dp K H x d ∧ Dp K H y (.tuple ds) ∧ SeqAt.shaped d = true ∧ SeqAt.shaped (.tuple ds) = true ∧ (ds.any fun z => PyData.eqv z d) = t) ∨
    (∃ a o, y = .ref a ∧ DGet H a x o ∧ o.isSome = t) ∨
    ∃ (c : Nat) (z : Str), x = .str ⟨#[c]⟩ ∧ y = .str z ∧ decide (c ∈ z.cps.toList) = t
/-- the two readings of in, at once -/
theorem in_core {ρ : List Addr} {B : Addr → Prop} {H : Hp} {av bv : AV} {h : AH} {x y : V} {t : Bool} (rh : RH P ρ B H h) (r1 : RVb P.K ρ B H av x) (r2 : RVb P.K ρ B H bv y) (e : inV av bv h = some t) : InC P.K H x y t := by
  have dpx : ∀ n, av.dl n = true → Dp P.K H x av.toD := fun n hd => by
    rcases r1 with r1 | ⟨a, u, rfl, _, hu, r1⟩
    · exact dp_of rh n av hd r1
    · cases av with
      | lst xs =>
        obtain ⟨vs, rfl, g⟩ := r1
        cases n with
        | zero => simp [AV.dl] at hd
        | succ m =>
          unfold AV.toD
          exact .lst (SqL.of hu) (dps_of rh m xs (by simpa [AV.dl] using hd) g)
      | dct _ => cases n <;> simp [AV.dl] at hd
      | non => exact r1.elim
      | bl _ => exact r1.elim
      | int _ => exact r1.elim
      | str _ => exact r1.elim
      | tup _ => exact r1.elim
      | ref _ => exact r1.elim
      | ro _ => exact r1.elim
  have row : ∀ (xs : List AV) (p : Addr) (vs : List V), y = .ref p → (SqL P.K H p vs ∨ SqT P.K H p vs) → RVs P.K ρ B H xs vs → inRow av xs = some t →
      (∃ p xs, y = .ref p ∧ (SqL P.K H p xs ∨ SqT P.K H p xs) ∧ flatV x = true ∧ xs.all flatV = true ∧ L2.inV x xs = t) ∨ (av.dl DEPTH = true ∧ xs.all (AV.dl DEPTH) = true ∧ (xs.any fun z => AV.eq z av) = t) := fun xs p vs ey hs g e => by
    unfold inRow at e
    split at e
    · rename_i hok
      cases e
      unfold inOk at hok
      rw [Bool.or_eq_true, Bool.and_eq_true, Bool.and_eq_true] at hok
      rcases hok with hok | hok
      · obtain ⟨g1, g2⟩ := flats_rv hok.1 r1 hok.2 g
        exact .inl ⟨p, vs, ey, hs, (flat_rv hok.1 r1).1, g1, g2⟩
      · exact .inr ⟨hok.1, hok.2, rfl⟩
    · cases e
  have shp : ∀ (xs : List AV), xs.all (AV.dl DEPTH) = true → SeqAt.shaped (.list (AV.toDs xs)) = true ∧ SeqAt.shaped (.tuple (AV.toDs xs)) = true := fun xs hx => by
    have hd : (AV.lst xs).dl (DEPTH + 1) = true := by simpa [AV.dl] using hx
    have hd2 : (AV.tup xs).dl (DEPTH + 1) = true := by simpa [AV.dl] using hx
    have s1 := shaped_of hd (by decide)
    have s2 := shaped_of hd2 (by decide)
    simp only [AV.toD] at s1 s2
    exact ⟨s1, s2⟩
  have heap : inH av bv h = some t → InC P.K H x y t := fun e => by
    unfold inH at e
    cases ex : rl h bv with
    | some xs =>
      rw [ex] at e
      obtain ⟨a1, vs, e1, h1, g1⟩ := rv_rl rh r2 ex
      rcases row xs a1 vs e1 (.inl h1) g1 e with g | ⟨g, g2, g3⟩
      · exact .inl g
      · exact .inr (.inl ⟨av.toD, AV.toDs xs, dpx _ g, by rw [e1]; exact .lst h1 (dps_of rh DEPTH xs (List.all_eq_true.mp g2) g1), shaped_of g (by decide), (shp xs g2).1, by rw [any_toDs g (List.all_eq_true.mp g2)]; exact g3⟩)
    | none =>
      rw [ex] at e
      cases ed : dv h bv with
      | none => rw [ed] at e; cases e
      | some kvs =>
        rw [ed] at e
        have e' : inDic av kvs = some t := e
        unfold inDic at e'
        split at e'
        · rename_i hk
          have e3 := Option.some.inj e'
          obtain ⟨a1, us, e1, h1, g1⟩ := rv_dv rh r2 ed
          obtain ⟨k', hk', e2⟩ := key_kv hk r1
          have lk := dlook_val hk' g1
          refine .inr (.inr (.inr (.inl ⟨a1, valV us k', e1, by rw [e2]; exact .inl ⟨us, k', h1, rfl, rfl⟩, ?_⟩)))
          rw [← e3]
          cases q : dlook kvs av with
          | none => rw [lk.2 q]; rfl
          | some w =>
            obtain ⟨u, g3, _⟩ := lk.1 w q
            rw [g3]; rfl
        · cases e'
  cases bv with
  | tup xs =>
    obtain ⟨a1, vs, e1, h1, g1⟩ := rv_tup r2
    rcases row xs a1 vs e1 (.inr h1) g1 e with g | ⟨g, g2, g3⟩
    · exact .inl g
    · exact .inr (.inr (.inl ⟨av.toD, AV.toDs xs, dpx _ g, by rw [e1]; exact .tup h1 (dps_of rh DEPTH xs (List.all_eq_true.mp g2) g1), shaped_of g (by decide), (shp xs g2).2, by rw [any_toDs g (List.all_eq_true.mp g2)]; exact g3⟩))
  | str s =>
    cases av with
    | str z =>
      have e' : (if z.cps.size = 1 then some (s.cps.toList.contains (z.cps.getD 0 0)) else none) = some t := e
      split at e'
      · rename_i hz
        have e3 := Option.some.inj e'
        obtain ⟨zc⟩ := z
        obtain ⟨l⟩ := zc
        have hl : l.length = 1 := hz
        match l, hl with
        | [cc], _ =>
          refine .inr (.inr (.inr (.inr ⟨cc, s, rv_str r1, rv_str r2, ?_⟩)))
          rw [← e3]
          show decide (cc ∈ s.cps.toList) = s.cps.toList.contains cc
          rw [Bool.eq_iff_iff]
          simp
      · cases e'
    | non => cases e
    | bl _ => cases e
    | int _ => cases e
    | tup _ => cases e
    | lst _ => cases e
    | dct _ => cases e
    | ref _ => cases e
    | ro _ => cases e
  | lst xs => exact heap e
  | dct xs => exact heap e
  | ref xs => exact heap e
  | ro xs => exact heap e
  | non => cases e
  | bl _ => cases e
  | int _ => cases e
theorem v_in : V2 P b inD (rIn5 P.K) := by
  intro W ρ B σ H av bv h x y Q rh r1 r2 q
  unfold inD at q
  split at q
  · rename_i t e
    have q' := ok_post q rh mk_bl
    rcases in_core rh r1 r2 e with ⟨p, xs, h1, h2, h3, h4, h5⟩ | ⟨d, ds, h1, h2, h3, h4, h5⟩ | ⟨d, ds, h1, h2, h3, h4, h5⟩ | ⟨a, o, h1, h2, h3⟩ | ⟨c, z, h1, h2, h3⟩
    · exact .inl ⟨p, xs, h1, h2, h3, h4, by rw [if_neg (by decide), h5]; exact q'⟩
    · exact .inr (.inl ⟨d, ds, h1, h2, h3, h4, by rw [h5]; exact q'⟩)
    · exact .inr (.inr (.inl ⟨d, ds, h1, h2, h3, h4, by rw [if_neg (by decide), h5]; exact q'⟩))
    · exact .inr (.inr (.inr (.inl ⟨a, o, h1, h2, by rw [h3]; exact q'⟩)))
    · exact .inr (.inr (.inr (.inr ⟨c, z, h1, h2, by rw [h3]; exact q'⟩)))
  · exact q.elim
theorem v_notIn : V2 P b notInD (rNotIn5 P.K) := by
  intro W ρ B σ H av bv h x y Q rh r1 r2 q
  unfold notInD at q
  split at q
  · rename_i t e
    have q' := ok_post q rh mk_bl
    rcases in_core rh r1 r2 e with ⟨p, xs, h1, h2, h3, h4, h5⟩ | ⟨d, ds, h1, h2, h3, h4, h5⟩ | ⟨d, ds, h1, h2, h3, h4, h5⟩ | ⟨a, o, h1, h2, h3⟩ | ⟨c, z, h1, h2, h3⟩
    · exact .inl ⟨p, xs, h1, h2, h3, h4, by rw [if_pos rfl, h5]; exact q'⟩
    · exact .inr (.inl ⟨d, ds, h1, h2, h3, h4, by rw [h5]; exact q'⟩)
    · exact .inr (.inr (.inl ⟨d, ds, h1, h2, h3, h4, by rw [if_pos rfl, h5]; exact q'⟩))
    · exact .inr (.inr (.inr (.inl ⟨a, o, h1, h2, by rw [h3]; exact q'⟩)))
    · exact .inr (.inr (.inr (.inr ⟨c, z, h1, h2, by rw [h3]; exact q'⟩)))
  · exact q.elim

theorem dab_nil : DAB P X b W N [] (evs []) := by
  refine ⟨pa_weak pa_nil ?_⟩
  rintro σ H Q ⟨ρ, B, ow, σa, h, rh, rs, hN, q⟩
  exact q ρ H [] (Ext.refl b ρ H) rh rfl
theorem dab_cons (he : DB P X b W N e ma) (hr : DAB P X b W N es (evs ms)) (hs : starEach (e :: es) X.env = (false, eval e X.env) :: starEach es X.env := by rfl) : DAB P X b W N (e :: es) (evs (ma :: ms)) := by
  refine ⟨pa_weak (pa_cons he.pe hr.pa hs) ?_⟩
  rintro σ H Q ⟨ρ, B, ow, σa, h, rh, rs, hN, q⟩
  refine ⟨ρ, B, ow, σa, h, rh, rs, hN, (EPost.bindLB (k := fun v h1 => (evs ms σa h1).bindL fun vs h2 => .ok (v :: vs) h2) q).imp ?_⟩
  rintro x H1 ⟨ρ1, av, h1, e1, rh1, rv1, q1⟩
  refine ⟨ρ1, B, ow, σa, h1, rh1, rs.ext e1, hN, ?_⟩
  cases g : evs ms σa h1 with
  | ok avs h2 =>
    rw [g] at q1
    exact fun ρ2 H2 vs f2 rh2 rv2 => q1 ρ2 H2 (x :: vs) f2 rh2 ⟨x, vs, rfl, rv1.ext f2, rv2⟩
  | exc cc f h2 => rw [g] at q1; exact q1
  | stuck => rw [g] at q1; exact q1.elim
theorem da_nil : DA P X b W N [] (evs []) := by
  refine ⟨pa_weak pa_nil ?_⟩
  rintro σ H Q ⟨ρ, B, ow, σa, h, rh, rs, hN, q⟩
  exact q ρ H [] (Ext.refl b ρ H) rh RVs.nil
theorem da_cons (he : DE P X b W N e ma) (hr : DA P X b W N es (evs ms)) (hs : starEach (e :: es) X.env = (false, eval e X.env) :: starEach es X.env := by rfl) : DA P X b W N (e :: es) (evs (ma :: ms)) := by
  refine ⟨pa_weak (pa_cons he.pe hr.pa hs) ?_⟩
  rintro σ H Q ⟨ρ, B, ow, σa, h, rh, rs, hN, q⟩
  refine ⟨ρ, B, ow, σa, h, rh, rs, hN, (EPost.bindL (k := fun v h1 => (evs ms σa h1).bindL fun vs h2 => .ok (v :: vs) h2) q).imp ?_⟩
  rintro x H1 ⟨ρ1, av, h1, e1, rh1, rv1, q1⟩
  refine ⟨ρ1, B, ow, σa, h1, rh1, rs.ext e1, hN, ?_⟩
  cases g : evs ms σa h1 with
  | ok avs h2 =>
    rw [g] at q1
    exact fun ρ2 H2 vs f2 rh2 rv2 => q1 ρ2 H2 (x :: vs) f2 rh2 (RVs.cons (rv1.ext f2 av) rv2)
  | exc cc f h2 => rw [g] at q1; exact q1
  | stuck => rw [g] at q1; exact q1.elim

theorem LPost.imp {ρ : List Addr} {B : Addr → Prop} {σ : St} {H : Hp} {r : LR} {Q Q' : List V → Hp → Prop} (h : LPost P b W ρ B σ H Q r) (hq : ∀ v H, Q v H → Q' v H) : LPost P b W ρ B σ H Q' r := by
  cases r with
  | ok av h' => exact fun ρ' H' v e rh rv => hq _ _ (h ρ' H' v e rh rv)
  | exc c x h' => exact h
  | stuck => exact h
theorem evs_len : ∀ {ms : List EV} {σ : AS} {h h' : AH} {vs : List AV}, evs ms σ h = .ok vs h' → vs.length = ms.length
  | [], _, _, _, _, e => by cases e; rfl
  | m :: ms, σ, h, h', vs, e => by
    simp only [evs] at e
    cases g : m σ h with
    | ok v h1 =>
      rw [g] at e
      simp only [ER.bindL] at e
      cases g2 : evs ms σ h1 with
      | ok ws h2 =>
        rw [g2] at e
        cases e
        simp [evs_len g2]
      | exc _ _ _ => rw [g2] at e; cases e
      | stuck => rw [g2] at e; cases e
    | exc _ _ _ => rw [g] at e; cases e
    | stuck => rw [g] at e; cases e
theorem disp {R : List V → Hp → Prop} {σ : St} {H : Hp} {Q : VK} {con : List AV → AV}
    (hq : tDE P b W N (fun σ h => (evs ms σ h).bind fun vs h1 => .ok (con vs) h1) σ H Q)
    (k : ∀ ρ B H1 avs h vs, avs.length = ms.length → RH P ρ B H1 h → RVs P.K ρ B H1 avs vs → EPost P b W ρ B σ H1 Q (.ok (con avs) h) → R vs H1) : tDA P b W N (evs ms) σ H R := by
  obtain ⟨ρ, B, ow, σa, h, rh, rs, hN, q⟩ := hq
  refine ⟨ρ, B, ow, σa, h, rh, rs, hN, ?_⟩
  have q' := LPost.bind (k := fun vs h1 => .ok (con vs) h1) q
  cases g : evs ms σa h with
  | ok avs h1 =>
    have q2 : EPost P b W ρ (Bo B ow) σ H Q (.ok (con avs) h1) := by
      have : EPost P b W ρ (Bo B ow) σ H Q ((evs ms σa h).bind fun vs h1 => .ok (con vs) h1) := q
      rw [g] at this
      exact this
    exact fun ρ1 H1 vs e1 rh1 rv1 => k ρ1 (Bo B ow) H1 avs h1 vs (evs_len g) rh1 rv1 (q2.ext e1)
  | exc c x h' => rw [g] at q'; exact q'
  | stuck => rw [g] at q'; exact q'
theorem de_tup {x1 : Nat} (h : DA P X b W N es (evs ms)) (hl : ms.length ≤ LIM := by decide) : DE P X b W N (.Tuple es x1 pos) (tupD ms) :=
  ⟨pe_weak (pe_tup h.pa) fun σ H Q hq => disp (con := .tup) hq fun ρ B H1 avs hh vs el rh rv q => ⟨by rw [← rv.len, el]; exact hl, fun p hp => ok_newT q rh hp rv⟩⟩
theorem de_lst (h : DA P X b W N es (evs ms)) (hl : ms.length ≤ LIM := by decide) : DE P X b W N (.List es pos) (lstD ms) :=
  ⟨pe_weak (pe_lst h.pa) fun σ H Q hq => disp (con := .lst) hq fun ρ B H1 avs hh vs el rh rv q => ⟨by rw [← rv.len, el]; exact hl, fun p hp => ok_new q rh hp rv⟩⟩
/-- a list display in the heap -/
theorem de_newL (h : DA P X b W N es (evs ms)) (hl : ms.length ≤ LIM := by decide) : DE P X b W N (.List es pos) (newL ms) := by
  refine ⟨pe_weak (pe_lst h.pa) ?_⟩
  rintro σ H Q ⟨ρ, B, ow, σa, hh, rh, rs, hN, q⟩
  refine ⟨ρ, B, ow, σa, hh, rh, rs, hN, ?_⟩
  have q' : EPost P b W ρ (Bo B ow) σ H Q ((evs ms σa hh).bind fun vs h1 => .ok (.ref h1.length) (h1 ++ [.lst vs])) := q
  cases g : evs ms σa hh with
  | ok avs h1 =>
    rw [g] at q'
    intro ρ1 H1 vs e1 rh1 rv1
    refine ⟨by rw [← rv1.len, evs_len g]; exact hl, fun p hp => ?_⟩
    refine q' (ρ1 ++ [p]) _ _ (e1.trans (Ext.newR hp)) (rh1.new hp ⟨vs, rfl, rv1⟩) ?_
    unfold RV
    exact ⟨p, rfl, by rw [← rh1.len]; simp⟩
  | exc c x h' => rw [g] at q'; exact q'
  | stuck => rw [g] at q'; exact q'
theorem de_newD : DE P X b W N (.Dict [] [] pos) newD := by
  refine ⟨pe_weak pe_dnewK ?_⟩
  rintro σ H Q ⟨ρ, B, ow, σa, hh, rh, rs, hN, q⟩
  intro p hp
  refine q (ρ ++ [p]) _ _ (Ext.newR hp) (rh.new hp ⟨[], rfl, by unfold RKs; rfl⟩) ?_
  unfold RV
  exact ⟨p, rfl, by rw [← rh.len]; simp⟩
theorem de_newF : DE P X b W N (.Dict [] [] pos) (cD (.dct [])) := by
  refine ⟨pe_weak pe_dnewK ?_⟩
  rintro σ H Q ⟨ρ, B, ow, σa, hh, rh, rs, hN, q⟩
  intro p hp
  refine q ρ _ _ (Ext.new hp) (rh.frz hp) ?_
  unfold RV
  exact ⟨p, [], rfl, ⟨fun z => rh.lvR p z hp, fun z => rh.lvB p z hp, .inl upd_same⟩, by unfold RKs; rfl⟩
end
end D
end

section
namespace D
open PySem L2

section
variable {P : Pm} {X : Cx} {b : Bool} {W : WX} {N : List Nat} {e a c o i d : Expr} {es : List Expr} {pos : Pos} {ma mb mc mo mi : EV} {ms : List EV} {m : LV} {f : FV}

theorem callB_weak {r : List V → Hp → VK → Prop} (hv : VN P b f r) : ∀ σ H Q, tDE P b W N (callD f ms) σ H Q → tCB r (tDAB P b W N (evs ms)) σ H Q := by
  rintro σ H Q ⟨ρ, B, ow, σa, h, rh, rs, hN, q⟩
  refine ⟨ρ, B, ow, σa, h, rh, rs, hN, (LPostB.bind (k := f) q).imp ?_⟩
  rintro vs H1 ⟨ρ1, av, h1, e1, rh1, rv1, q1⟩
  exact hv W ρ1 (Bo B ow) σ H1 av h1 vs Q rh1 rv1 q1
theorem de_callB {id : String} {x : Str} {p : Pos} {r : List V → Hp → VK → Prop} (hc : CallR X (.builtin id) r) (hv : VN P b f r) (hg : Gl X x) (hm : X.mg x = none) (hb : bootBuiltins x = some (.builtin id)) (ha : DAB P X b W N (e :: es) (evs ms)) (hn : x ≠ "__name__" := by decide) (hdb : (x == ("__debug__" : Str)) = false := by decide)
    (he : starEach (e :: es) X.env = (false, eval e X.env) :: starEach es X.env := by rfl) (hpl : (backTo pos (starEach es X.env)).any (·.1) = false := by rfl) : DE P X b W N (.Call (.Name x p) (e :: es) [] pos) (callD f ms) :=
  ⟨pe_weak (pe_callB hc hg hm hb ha.pa hn hdb he hpl) (callB_weak hv)⟩
theorem de_callTy {T : String} {x : Str} {p : Pos} {r : List V → Hp → VK → Prop} (hc : CallR X (.type T) r) (hv : VN P b f r) (hg : Gl X x) (hm : X.mg x = none) (hb : bootBuiltins x = some (.type T)) (ha : DAB P X b W N (e :: es) (evs ms)) (hn : x ≠ "__name__" := by decide) (hdb : (x == ("__debug__" : Str)) = false := by decide)
    (he : starEach (e :: es) X.env = (false, eval e X.env) :: starEach es X.env := by rfl) (hpl : (backTo pos (starEach es X.env)).any (·.1) = false := by rfl) : DE P X b W N (.Call (.Name x p) (e :: es) [] pos) (callD f ms) :=
  ⟨pe_weak (pe_callTy hc hg hm hb ha.pa hn hdb he hpl) (callB_weak hv)⟩

theorem optE_ok {ρ : List Addr} {B : Addr → Prop} {σ : St} {H : Hp} {Q : VK} {ov : Option AV} {h : AH} (q : EPost P b W ρ B σ H Q (optE ov h)) : ∃ w, ov = some w ∧ EPost P b W ρ B σ H Q (.ok w h) := by
  cases ov with
  | none => exact q.elim
  | some w => exact ⟨w, rfl, q⟩
theorem one_of {ρ : List Addr} {B : Addr → Prop} {H : Hp} {x : AV} {vs : List V} (h : RVbs P.K ρ B H [x] vs) : ∃ v, vs = [v] ∧ RVb P.K ρ B H x v := by
  obtain ⟨v, r, rfl, h1, rfl⟩ := h
  exact ⟨v, rfl, h1⟩
theorem two_of {ρ : List Addr} {B : Addr → Prop} {H : Hp} {x y : AV} {vs : List V} (h : RVbs P.K ρ B H [x, y] vs) : ∃ v w, vs = [v, w] ∧ RVb P.K ρ B H x v ∧ RVb P.K ρ B H y w := by
  obtain ⟨v, r, rfl, h1, w, t, rfl, h2, rfl⟩ := h
  exact ⟨v, w, rfl, h1, h2⟩
def rLen2 (K : PySem.W.Frag) : List V → Hp → VK → Prop := fun xs H Q => (∃ x n, xs = [x] ∧ LenV K x H n ∧ Q (.int n) H) ∨ (∃ a kvs, xs = [V.ref a] ∧ Rd H a (.dK kvs) ∧ Q (.int kvs.length) H)
theorem call_lenR : CallR X (.builtin "len") (fun xs H Q => ∃ a kvs, xs = [V.ref a] ∧ Rd H a (.dK kvs) ∧ Q (.int kvs.length) H) := by
  intro pins s σ H xs us Q I r h
  obtain ⟨a, kvs, rfl, ha, q⟩ := h
  obtain ⟨u, rfl, ru⟩ := vals1 r
  cases ru
  exact d_len I ha fun t s' I' => ⟨.int kvs.length, H, I', ⟨t, rfl⟩, q⟩
theorem call_len2 : CallR X (.builtin "len") (rLen2 X.K) := call_len.or call_lenR
theorem v_len : VN P b lenF (rLen2 P.K) := by
  intro W ρ B σ H avs h xs Q rh r q
  unfold lenF at q
  split at q
  · rename_i o
    obtain ⟨v, rfl, r1⟩ := one_of r
    obtain ⟨w, ew, q'⟩ := optE_ok q
    obtain ⟨n, en, rfl⟩ := Option.map_eq_some_iff.mp ew
    have q2 := ok_post q' rh mk_int
    have oth : (match seqOf h o with | some xs => some xs.length | none => (dv h o).map List.length) = some n → rLen2 P.K [v] H Q := fun en => by
      cases es : seqOf h o with
      | some xs =>
        rw [es] at en
        cases en
        obtain ⟨a1, vs, rfl, h1, g1⟩ := rv_seq rh r1 es
        exact .inl ⟨_, _, rfl, h1.imp (fun z => ⟨vs, z, g1.len⟩) (fun z => ⟨vs, z, g1.len⟩), q2⟩
      | none =>
        rw [es] at en
        obtain ⟨kvs, ek, rfl⟩ := Option.map_eq_some_iff.mp en
        obtain ⟨a1, us, rfl, h1, g1⟩ := rv_dv rh r1 ek
        exact .inr ⟨a1, us, rfl, h1, by rw [← g1.len]; exact q2⟩
    cases o with
    | str s =>
      have en' : lenS s = some n := en
      unfold lenS at en'
      split at en'
      · rename_i hz
        cases en'
        exact .inl ⟨_, _, rfl, by rw [rv_str r1]; exact ⟨hz, rfl⟩, q2⟩
      · cases en'
    | non => exact oth en
    | bl _ => exact oth en
    | int _ => exact oth en
    | tup _ => exact oth en
    | lst _ => exact oth en
    | dct _ => exact oth en
    | ref _ => exact oth en
    | ro _ => exact oth en
  · exact q.elim
theorem v_abs : VN P b absF (fun xs H Q => ∃ i, xs = [.int i] ∧ Q (.int (if i < 0 then -i else i)) H) := by
  intro W ρ B σ H avs h xs Q rh r q
  unfold absF at q
  split at q
  · obtain ⟨v, rfl, r1⟩ := one_of r
    exact ⟨_, by rw [rv_int r1], ok_post q rh mk_int⟩
  · exact q.elim
theorem v_int : VN P b intF (fun xs H Q => (∃ i, xs = [.int i] ∧ Q (.int i) H) ∨ ∃ k, xs = [.bl k] ∧ Q (.int (if k then 1 else 0)) H) := by
  intro W ρ B σ H avs h xs Q rh r q
  unfold intF at q
  split at q
  · obtain ⟨v, rfl, r1⟩ := one_of r
    exact .inl ⟨_, by rw [rv_int r1], ok_post q rh mk_int⟩
  · obtain ⟨v, rfl, r1⟩ := one_of r
    exact .inr ⟨_, by rw [rv_bl r1], ok_post q rh mk_int⟩
  · exact q.elim
theorem v_str : VN P b strF (fun xs H Q => ∃ i, xs = [.int i] ∧ i.natAbs.log2 < 1920 ∧ Q (.str (toString i)) H) := by
  intro W ρ B σ H avs h xs Q rh r q
  unfold strF at q
  split at q
  · rename_i i
    obtain ⟨v, rfl, r1⟩ := one_of r
    split at q
    · rename_i hi
      refine ⟨i, by rw [rv_int r1], ?_, ok_post q rh mk_str⟩
      by_cases h0 : i.natAbs = 0
      · rw [h0]; decide
      · exact (Nat.log2_lt h0).mpr (Nat.lt_of_lt_of_le hi (by decide))
    · exact q.elim
  · exact q.elim
theorem v_max2 : VN P b max2F (fun xs H Q => ∃ i j, xs = [.int i, .int j] ∧ Q (.int (if j > i then j else i)) H) := by
  intro W ρ B σ H avs h xs Q rh r q
  unfold max2F at q
  split at q
  · obtain ⟨v, w, rfl, r1, r2⟩ := two_of r
    exact ⟨_, _, by rw [rv_int r1, rv_int r2], ok_post q rh mk_int⟩
  · exact q.elim
theorem v_min2 : VN P b min2F (fun xs H Q => ∃ i j, xs = [.int i, .int j] ∧ Q (.int (if j < i then j else i)) H) := by
  intro W ρ B σ H avs h xs Q rh r q
  unfold min2F at q
  split at q
  · obtain ⟨v, w, rfl, r1, r2⟩ := two_of r
    exact ⟨_, _, by rw [rv_int r1, rv_int r2], ok_post q rh mk_int⟩
  · exact q.elim
theorem v_list : VN P b listF (fun xs H Q => ∃ p ys, xs = [.ref p] ∧ (SqL P.K H p ys ∨ SqT P.K H p ys) ∧ ∀ l, H l = none → Q (.ref l) (upd H l (.lst ys))) := by
  intro W ρ B σ H avs h xs Q rh r q
  unfold listF at q
  split at q
  · obtain ⟨v, rfl, r1⟩ := one_of r
    obtain ⟨w, ew, q'⟩ := optE_ok q
    obtain ⟨ys, ey, rfl⟩ := Option.map_eq_some_iff.mp ew
    obtain ⟨a1, vs, rfl, h1, g1⟩ := rv_seq rh r1 ey
    exact ⟨a1, vs, rfl, h1, fun l hl => ok_new q' rh hl g1⟩
  · exact q.elim
theorem v_tuple : VN P b tupleF (fun xs H Q => ∃ p ys, xs = [.ref p] ∧ ((SqL P.K H p ys ∧ ∀ l, H l = none → Q (.ref l) (upd H l (.tup ys))) ∨ (SqT P.K H p ys ∧ Q (.ref p) H))) := by
  intro W ρ B σ H avs h xs Q rh r q
  unfold tupleF at q
  split at q
  · rename_i o
    obtain ⟨v, rfl, r1⟩ := one_of r
    obtain ⟨w, ew, q'⟩ := optE_ok q
    obtain ⟨ys, ey, rfl⟩ := Option.map_eq_some_iff.mp ew
    have oth : rl h o = some ys → _ := fun ey => rv_rl rh r1 ey
    cases o with
    | tup zs =>
      cases ey
      obtain ⟨a1, vs, rfl, h1, g1⟩ := rv_tup r1
      exact ⟨a1, vs, rfl, .inr ⟨h1, ok_post q' rh (rvb_tup r1)⟩⟩
    | _ =>
      obtain ⟨a1, vs, rfl, h1, g1⟩ := oth ey
      exact ⟨a1, vs, rfl, .inl ⟨h1, fun l hl => ok_newT q' rh hl g1⟩⟩
  · exact q.elim
theorem v_sum : VN P b sumF (rSum P.K) := by
  intro W ρ B σ H avs h xs Q rh r q
  unfold sumF at q
  split at q
  · obtain ⟨v, rfl, r1⟩ := one_of r
    obtain ⟨w, ew, q'⟩ := optE_ok q
    obtain ⟨ns, en, rfl⟩ := Option.map_eq_some_iff.mp ew
    obtain ⟨ys, ey, en⟩ := Option.bind_eq_some_iff.mp en
    obtain ⟨a1, vs, rfl, h1, g1⟩ := rv_rl rh r1 ey
    have := ints_of en g1
    subst this
    exact ⟨a1, ns, rfl, h1, ok_post q' rh mk_int⟩
  · exact q.elim
theorem v_any : VN P b anyF (rAny P.K) := by
  intro W ρ B σ H avs h xs Q rh r q
  unfold anyF at q
  split at q
  · obtain ⟨v, rfl, r1⟩ := one_of r
    obtain ⟨w, ew, q'⟩ := optE_ok q
    obtain ⟨ns, en, rfl⟩ := Option.map_eq_some_iff.mp ew
    obtain ⟨ys, ey, en⟩ := Option.bind_eq_some_iff.mp en
    obtain ⟨a1, vs, rfl, h1, g1⟩ := rv_rl rh r1 ey
    have := bls_of en g1
    subst this
    exact ⟨a1, ns, rfl, h1, ok_post q' rh mk_bl⟩
  · exact q.elim
theorem v_all : VN P b allF (rAll P.K) := by
  intro W ρ B σ H avs h xs Q rh r q
  unfold allF at q
  split at q
  · obtain ⟨v, rfl, r1⟩ := one_of r
    obtain ⟨w, ew, q'⟩ := optE_ok q
    obtain ⟨ns, en, rfl⟩ := Option.map_eq_some_iff.mp ew
    obtain ⟨ys, ey, en⟩ := Option.bind_eq_some_iff.mp en
    obtain ⟨a1, vs, rfl, h1, g1⟩ := rv_rl rh r1 ey
    have := bls_of en g1
    subst this
    exact ⟨a1, ns, rfl, h1, ok_post q' rh mk_bl⟩
  · exact q.elim

theorem TPost.ext {ρ ρ1 : List Addr} {B : Addr → Prop} {σ : St} {H H1 : Hp} {r : ER} {Q : Bool → Hp → Prop} (h : TPost P b W ρ B σ H Q r) (e : Ext b ρ H ρ1 H1) : TPost P b W ρ1 B σ H1 Q r := by
  cases r with
  | ok av h' =>
    cases av with
    | bl c => exact fun ρ' H' f => h ρ' H' (e.trans f)
    | _ => exact h
  | exc c x h' => exact fun ρ' H' v f => h ρ' H' v (e.trans f)
  | stuck => exact h
theorem TPost.imp {ρ : List Addr} {B : Addr → Prop} {σ : St} {H : Hp} {r : ER} {Q Q' : Bool → Hp → Prop} (h : TPost P b W ρ B σ H Q r) (hq : ∀ v H, Q v H → Q' v H) : TPost P b W ρ B σ H Q' r := by
  cases r with
  | ok av h' =>
    cases av with
    | bl c => exact fun ρ' H' f g => hq _ _ (h ρ' H' f g)
    | _ => exact h
  | exc c x h' => exact h
  | stuck => exact h
theorem TPost.tst {ρ : List Addr} {B : Addr → Prop} {σ : St} {H : Hp} {r : ER} {k : Bool → AH → ER} {Q : Bool → Hp → Prop} (h : TPost P b W ρ B σ H Q (r.tst k)) :
    TPost P b W ρ B σ H (fun c H1 => ∃ ρ1 h1, Ext b ρ H ρ1 H1 ∧ RH P ρ1 B H1 h1 ∧ TPost P b W ρ1 B σ H1 Q (k c h1)) r := by
  cases r with
  | ok av h' =>
    cases av with
    | bl c => exact fun ρ' H' e rh => ⟨ρ', h', e, rh, TPost.ext h e⟩
    | _ => exact h
  | exc c x h' => exact h
  | stuck => exact h
theorem EPost.tst {ρ : List Addr} {B : Addr → Prop} {σ : St} {H : Hp} {r : ER} {k : Bool → AH → ER} {Q : VK} (h : EPost P b W ρ B σ H Q (r.tst k)) :
    TPost P b W ρ B σ H (fun c H1 => ∃ ρ1 h1, Ext b ρ H ρ1 H1 ∧ RH P ρ1 B H1 h1 ∧ EPost P b W ρ1 B σ H1 Q (k c h1)) r := by
  cases r with
  | ok av h' =>
    cases av with
    | bl c => exact fun ρ' H' e rh => ⟨ρ', h', e, rh, EPost.ext h e⟩
    | _ => exact h
  | exc c x h' => exact h
  | stuck => exact h
theorem EPostB.tst {ρ : List Addr} {B : Addr → Prop} {σ : St} {H : Hp} {r : ER} {k : Bool → AH → ER} {Q : VK} (h : EPost P b W ρ B σ H Q (r.tst k)) :
    EPostB P b W ρ B σ H (fun v H1 => ∃ c ρ1 h1, v = .bl c ∧ Ext b ρ H ρ1 H1 ∧ RH P ρ1 B H1 h1 ∧ EPost P b W ρ1 B σ H1 Q (k c h1)) r := by
  cases r with
  | ok av h' =>
    cases av with
    | bl c => exact fun ρ' H' v e rh rv => ⟨c, ρ', h', rv_bl rv, e, rh, EPost.ext h e⟩
    | _ => exact h.elim
  | exc c x h' => exact h
  | stuck => exact h
/-- .. of and, or -/
structure DW (P : Pm) (X : Cx) (b : Bool) (W : WX) (N : List Nat) (e : Expr) (m : EV) : Prop where
  pw : PW X e (tDT P b W N m)
theorem DW.dt (h : DW P X b W N e ma) : DT P X b W N e ma := ⟨h.pw.pt⟩
theorem dw_and1 (h : DT P X b W N a ma) : DW P X b W N (.BoolOp .And [a] pos) ma := ⟨pw_and1 h.pt⟩
theorem dw_or1 (h : DT P X b W N a ma) : DW P X b W N (.BoolOp .Or [a] pos) ma := ⟨pw_or1 h.pt⟩
theorem dw_and {rest : List Expr} (ha : DT P X b W N a ma) (hb : DW P X b W N (.BoolOp .And (c :: rest) pos) mb) : DW P X b W N (.BoolOp .And (a :: c :: rest) pos) (andD ma mb) := by
  refine ⟨pw_weak (pw_and ha.pt hb.pw) ?_⟩
  rintro σ H Q ⟨ρ, B, ow, σa, h, rh, rs, hN, q⟩
  refine ⟨ρ, B, ow, σa, h, rh, rs, hN, (TPost.tst q).imp ?_⟩
  rintro t H1 ⟨ρ1, h1, e1, rh1, q1⟩
  cases t with
  | true => exact ⟨ρ1, B, ow, σa, h1, rh1, rs.ext e1, hN, q1⟩
  | false => exact q1 ρ1 H1 (Ext.refl b ρ1 H1) rh1
theorem dw_or {rest : List Expr} (ha : DT P X b W N a ma) (hb : DW P X b W N (.BoolOp .Or (c :: rest) pos) mb) : DW P X b W N (.BoolOp .Or (a :: c :: rest) pos) (orD ma mb) := by
  refine ⟨pw_weak (pw_or ha.pt hb.pw) ?_⟩
  rintro σ H Q ⟨ρ, B, ow, σa, h, rh, rs, hN, q⟩
  refine ⟨ρ, B, ow, σa, h, rh, rs, hN, (TPost.tst q).imp ?_⟩
  rintro t H1 ⟨ρ1, h1, e1, rh1, q1⟩
  cases t with
  | true => exact q1 ρ1 H1 (Ext.refl b ρ1 H1) rh1
  | false => exact ⟨ρ1, B, ow, σa, h1, rh1, rs.ext e1, hN, q1⟩
theorem dt_not (ha : DT P X b W N a ma) : DT P X b W N (.UnaryOp .Not a pos) (notD ma) := by
  refine ⟨pt_weak (pt_not ha.pt) ?_⟩
  rintro σ H Q ⟨ρ, B, ow, σa, h, rh, rs, hN, q⟩
  refine ⟨ρ, B, ow, σa, h, rh, rs, hN, (TPost.tst q).imp ?_⟩
  rintro t H1 ⟨ρ1, h1, e1, rh1, q1⟩
  exact q1 ρ1 H1 (Ext.refl b ρ1 H1) rh1
/-- .. as values -/
theorem de_one {op : BoolOp} (h : DE P X b W N a ma) : DE P X b W N (.BoolOp op [a] pos) ma := ⟨pe_one h.pe⟩
theorem de_and {rest : List Expr} (ha : DB P X b W N a ma) (hb : DE P X b W N (.BoolOp .And (c :: rest) pos) mb) : DE P X b W N (.BoolOp .And (a :: c :: rest) pos) (andD ma mb) := by
  refine ⟨pe_weak (pe_and ha.pe hb.pe) ?_⟩
  rintro σ H Q ⟨ρ, B, ow, σa, h, rh, rs, hN, q⟩
  refine ⟨ρ, B, ow, σa, h, rh, rs, hN, (EPostB.tst q).imp ?_⟩
  rintro v H1 ⟨t, ρ1, h1, rfl, e1, rh1, q1⟩
  refine ⟨t, rfl, ?_⟩
  cases t with
  | true => exact ⟨ρ1, B, ow, σa, h1, rh1, rs.ext e1, hN, q1⟩
  | false => exact q1 ρ1 H1 _ (Ext.refl b ρ1 H1) rh1 mk_bl
theorem de_or {rest : List Expr} (ha : DB P X b W N a ma) (hb : DE P X b W N (.BoolOp .Or (c :: rest) pos) mb) : DE P X b W N (.BoolOp .Or (a :: c :: rest) pos) (orD ma mb) := by
  refine ⟨pe_weak (pe_or ha.pe hb.pe) ?_⟩
  rintro σ H Q ⟨ρ, B, ow, σa, h, rh, rs, hN, q⟩
  refine ⟨ρ, B, ow, σa, h, rh, rs, hN, (EPostB.tst q).imp ?_⟩
  rintro v H1 ⟨t, ρ1, h1, rfl, e1, rh1, q1⟩
  refine ⟨t, rfl, ?_⟩
  cases t with
  | true => exact q1 ρ1 H1 _ (Ext.refl b ρ1 H1) rh1 mk_bl
  | false => exact ⟨ρ1, B, ow, σa, h1, rh1, rs.ext e1, hN, q1⟩
theorem de_not (ha : DB P X b W N a ma) : DE P X b W N (.UnaryOp .Not a pos) (notD ma) := by
  refine ⟨pe_weak (pe_not ha.pe) ?_⟩
  rintro σ H Q ⟨ρ, B, ow, σa, h, rh, rs, hN, q⟩
  refine ⟨ρ, B, ow, σa, h, rh, rs, hN, (EPostB.tst q).imp ?_⟩
  rintro v H1 ⟨t, ρ1, h1, rfl, e1, rh1, q1⟩
  exact ⟨t, rfl, q1 ρ1 H1 _ (Ext.refl b ρ1 H1) rh1 mk_bl⟩
theorem de_if {t : Expr} (ht : DT P X b W N t mc) (ha : DE P X b W N a ma) (hb : DE P X b W N c mb) : DE P X b W N (.IfExp t a c pos) (ifD mc ma mb) := by
  refine ⟨pe_weak (pe_ifExp ht.pt ha.pe hb.pe) ?_⟩
  rintro σ H Q ⟨ρ, B, ow, σa, h, rh, rs, hN, q⟩
  refine ⟨ρ, B, ow, σa, h, rh, rs, hN, (EPost.tst q).imp ?_⟩
  rintro t H1 ⟨ρ1, h1, e1, rh1, q1⟩
  cases t with
  | true => exact ⟨ρ1, B, ow, σa, h1, rh1, rs.ext e1, hN, q1⟩
  | false => exact ⟨ρ1, B, ow, σa, h1, rh1, rs.ext e1, hN, q1⟩

theorem de_isN {j : Nat} {pos' : Pos} (ha : DB P X b W N a ma) : DE P X b W N (.Compare a [.Is] [.Constant .none j pos'] pos) (un isNoneV ma) := by
  refine ⟨pe_weak (pe_cmp (pc_isN ha.pe)) ?_⟩
  rintro σ H Q ⟨ρ, B, ow, σa, h, rh, rs, hN, q⟩
  refine ⟨ρ, B, ow, σa, h, rh, rs, hN, (EPost.bindB q).imp ?_⟩
  rintro x H1 ⟨ρ1, av, h1, e1, rh1, rv1, q1⟩
  rw [isNon_of rv1]
  exact ok_post q1 rh1 mk_bl
theorem de_notN {j : Nat} {pos' : Pos} (ha : DB P X b W N a ma) : DE P X b W N (.Compare a [.IsNot] [.Constant .none j pos'] pos) (un notNoneV ma) := by
  refine ⟨pe_weak (pe_cmp (pc_notN ha.pe)) ?_⟩
  rintro σ H Q ⟨ρ, B, ow, σa, h, rh, rs, hN, q⟩
  refine ⟨ρ, B, ow, σa, h, rh, rs, hN, (EPost.bindB q).imp ?_⟩
  rintro x H1 ⟨ρ1, av, h1, e1, rh1, rv1, q1⟩
  rw [isNon_of rv1]
  exact ok_post q1 rh1 mk_bl
theorem tDT_of {t : TE} (h : PE X e t) (hw : ∀ σ H Q, tDE P b W N ma σ H Q → t σ H Q) (he : ∀ whole, isTrue e X.env whole = (do let v ← whole; standAt e.pos; holding [v] (truthy v))) : DT P X b W N e ma :=
  dt_val ⟨pe_weak h hw⟩ he
theorem dt_isN {j : Nat} {pos' : Pos} (ha : DB P X b W N a ma) : DT P X b W N (.Compare a [.Is] [.Constant .none j pos'] pos) (un isNoneV ma) :=
  ⟨pt_weak (pt_cmp (pc_isN ha.pe)) (tst_weak (fun _ _ _ h => h) fun σ H Q hq => by
    obtain ⟨ρ, B, ow, σa, h, rh, rs, hN, q⟩ := hq
    refine ⟨ρ, B, ow, σa, h, rh, rs, hN, (EPost.bindB q).imp ?_⟩
    rintro x H1 ⟨ρ1, av, h1, e1, rh1, rv1, q1⟩
    rw [isNon_of rv1]
    exact ok_post q1 rh1 mk_bl)⟩
theorem dt_notN {j : Nat} {pos' : Pos} (ha : DB P X b W N a ma) : DT P X b W N (.Compare a [.IsNot] [.Constant .none j pos'] pos) (un notNoneV ma) :=
  ⟨pt_weak (pt_cmp (pc_notN ha.pe)) (tst_weak (fun _ _ _ h => h) fun σ H Q hq => by
    obtain ⟨ρ, B, ow, σa, h, rh, rs, hN, q⟩ := hq
    refine ⟨ρ, B, ow, σa, h, rh, rs, hN, (EPost.bindB q).imp ?_⟩
    rintro x H1 ⟨ρ1, av, h1, e1, rh1, rv1, q1⟩
    rw [isNon_of rv1]
    exact ok_post q1 rh1 mk_bl)⟩

theorem chain_weak {f g : AV → AV → AH → ER} {r r' : R2} (hr : V2 P b f r) (hr' : V2 P b g r') : ∀ σ H Q, tDE P b W N (chainD f g ma mb mc) σ H Q → tChain r r' (tDB P b W N ma) (tDB P b W N mb) (tDB P b W N mc) σ H Q := by
  rintro σ H Q ⟨ρ, B, ow, σa, h, rh, rs, hN, q⟩
  refine ⟨ρ, B, ow, σa, h, rh, rs, hN, (EPost.bindB q).imp ?_⟩
  rintro x H1 ⟨ρ1, av, h1, e1, rh1, rv1, q1⟩
  refine ⟨ρ1, B, ow, σa, h1, rh1, rs.ext e1, hN, (EPost.bindB q1).imp ?_⟩
  rintro y H2 ⟨ρ2, bv, h2, e2, rh2, rv2, q2⟩
  refine hr W ρ2 (Bo B ow) σ H2 av bv h2 x y _ rh2 (rv1.ext e2) rv2 ?_
  refine EPostB.up ((EPostB.tst q2).imp ?_)
  rintro v H3 ⟨t, ρ3, h3, rfl, e3, rh3, q3⟩
  refine ⟨t, rfl, ?_⟩
  cases t with
  | false => exact q3 ρ3 H3 _ (Ext.refl b ρ3 H3) rh3 mk_bl
  | true =>
    refine ⟨ρ3, B, ow, σa, h3, rh3, ((rs.ext e1).ext e2).ext e3, hN, (EPost.bindB q3).imp ?_⟩
    rintro z H4 ⟨ρ4, cv, h4, e4, rh4, rv4, q4⟩
    exact hr' W ρ4 (Bo B ow) σ H4 bv cv h4 y z Q rh4 ((rv2.ext e3).ext e4) rv4 q4
theorem de_chain {op op' : CmpOp} {f g : AV → AV → AH → ER} {r r' : R2} (ho : OpR X (compareOp op) r) (ho' : OpR X (compareOp op') r') (hr : V2 P b f r) (hr' : V2 P b g r') (ha : DB P X b W N a ma) (hb : DB P X b W N c mb) (hc : DB P X b W N d mc)
    (hm : lastMarks [op, op'] [c, d] = false := by with_unfolding_all rfl) : DE P X b W N (.Compare a [op, op'] [c, d] pos) (chainD f g ma mb mc) := ⟨pe_weak (pe_chain ho ho' ha.pe hb.pe hc.pe hm) (chain_weak hr hr')⟩
theorem dt_chain {op op' : CmpOp} {f g : AV → AV → AH → ER} {r r' : R2} (ho : OpR X (compareOp op) r) (ho' : OpR X (compareOp op') r') (hr : V2 P b f r) (hr' : V2 P b g r') (ha : DB P X b W N a ma) (hb : DB P X b W N c mb) (hc : DB P X b W N d mc)
    (hm : lastMarks [op, op'] [c, d] = false := by with_unfolding_all rfl) : DT P X b W N (.Compare a [op, op'] [c, d] pos) (chainD f g ma mb mc) :=
  ⟨pt_weak (pt_chain ho ho' ha.pe hb.pe hc.pe hm) (tst_weak (fun _ _ _ h => h) (chain_weak hr hr'))⟩

/-- a def's promise by its denotation -/
def spD (P : Pm) (b : Bool) (n : Nat) (f : FV) : Sp := fun vs H Q E => vs.length = n ∧ ∃ ρ B avs h, RH P ρ B H h ∧ RVs P.K ρ B H avs vs ∧
  match f avs h with
  | .ok av h' => ∀ ρ' H' v, Ext b ρ H ρ' H' → RH P ρ' B H' h' → RV P.K ρ' B H' av v → Q v H'
  | .exc c x h' => ∀ ρ' H' d, Ext b ρ H ρ' H' → RH P ρ' B H' h' → RX P.K ρ' B H' x d → E (P.ex c) d H'
  | .stuck => False
structure FnD (P : Pm) (Pg : Program) (w : World) (mg : Str → Option Value) (base : Heap) (b : Bool) (k : Nat) (x : Str) (ps : List Str) (f : FV) : Prop where
  ok : ∃ (a : Addr) (fd : FuncData), FnOk Pg w P.K mg base (L2.CX Pg w) k a fd ps (spD P b ps.length f) ∧ mg x = some (.ref a) ∧ PySem.W.keepIn P.K (.ref a) = true ∧ Binds P.K fd ps []
theorem Ext.bup {b b' : Bool} {ρ ρ' : List Addr} {H H' : Hp} (hb : b' = true → b = true) (e : Ext b ρ H ρ' H') : Ext b' ρ H ρ' H' := ⟨e.pre, fun a o h k => e.keep a o (h.imp_left hb) k, e.live⟩
theorem de_call {b' : Bool} {k : Nat} {x : Str} {ps : List Str} {p : Pos} (F : FnD P X.prog X.w X.mg X.base b' k x ps f) (hK : P.K = X.K) (hr : Room k X.A) (tk : Takes X W) (hg : Gl X x) (ha : DA P X b W N (e :: es) (evs ms)) (hl : (e :: es).length = ps.length := by rfl) (hml : ms.length = (e :: es).length := by rfl) (hb : b = true → b' = true := by decide)
    (hdb : (x == ("__debug__" : Str)) = false := by decide) (he : starEach (e :: es) X.env = (false, eval e X.env) :: starEach es X.env := by rfl) (hpl : (backTo pos (starEach es X.env)).any (·.1) = false := by rfl) :
    DE P X b W N (.Call (.Name x p) (e :: es) [] pos) (callD f ms) := by
  obtain ⟨fa, fd, Fo, hm, hk, hbi⟩ := F.ok
  rw [hK] at Fo hk hbi
  refine ⟨pe_weak (pe_callSD (E := fun σ => WE W σ) Fo hr hg hm hk hbi .nil (fun σ => passAt tk σ) ha.pa hdb he hpl) ?_⟩
  rintro σ H Q ⟨ρ, B, ow, σa, h, rh, rs, hN, q⟩
  refine ⟨ρ, B, ow, σa, h, rh, rs, hN, ?_⟩
  have q' : EPost P b W ρ (Bo B ow) σ H Q ((evs ms σa h).bind f) := q
  cases g : evs ms σa h with
  | exc c x h' => rw [g] at q'; exact q'
  | stuck => rw [g] at q'; exact q'
  | ok avs h1 =>
    rw [g] at q'
    intro ρ1 H1 vs e1 rh1 rv1
    refine ⟨by rw [List.append_nil, ← rv1.len, evs_len g, hml, hl], ρ1, Bo B ow, avs, h1, rh1, by rw [List.append_nil]; exact rv1, ?_⟩
    have q2 : EPost P b W ρ (Bo B ow) σ H Q (f avs h1) := q'
    cases g2 : f avs h1 with
    | ok av h2 =>
      rw [g2] at q2
      exact fun ρ2 H2 v e2 rh2 rv2 => q2 ρ2 H2 v (e1.trans (e2.bup hb)) rh2 rv2
    | exc c x h2 =>
      rw [g2] at q2
      exact fun ρ2 H2 v e2 rh2 rv2 => q2 ρ2 H2 v (e1.trans (e2.bup hb)) rh2 rv2
    | stuck => rw [g2] at q2; exact q2
end
end D
end

section
namespace D
open PySem L2

section
variable {P : Pm} {X : Cx} {b : Bool} {W : WX} {N Nb Nx N' N1 : List Nat} {e a c o i d : Expr} {es : List Expr} {pos : Pos} {ma mb mc mo mi : EV} {ms : List EV} {st : Stmt} {sts sts' : List Stmt} {m m1 m2 : SV}

theorem exc_restrict {ρ : List Addr} {B : Addr → Prop} {ow : List (Nat × Addr)} {σa : AS} {σ : St} {H : Hp} {D : Ends} {c : Nat} {x : XF} {h' : AH} (rs : RS P ρ B ow H σa σ) (hx : (ow.map (·.1)).filter (fun i => Nx.contains i) = Nx)
    (q : SPost P b W Nb Nx N' ρ B ow H D (.exc c x σa h')) : ∀ ρ' H' d, Ext b ρ H ρ' H' → RH P ρ' (Bo B ow) H' h' → RX P.K ρ' (Bo B ow) H' x d → W (P.ex c) d σ H' := by
  intro ρ' H' d e rh rx
  refine q ρ' (ow.filter fun p => Nx.contains p.1) H' σ d ((ExtS.of e).fewer (filter_snd (fun i => Nx.contains i))) (rh.drop _) ((rs.ext e).drop _) (by rw [filter_fst (fun i => Nx.contains i)]; exact hx) ?_
  cases x with
  | none => exact rx
  | some fs =>
    obtain ⟨dx, us, h1, h2, h3, h4, h5⟩ := rx
    refine ⟨dx, us, h1, h2, fun z => h3 ?_, h4, h5.anti (fun a z => ?_) fs⟩
    · rcases z with z | z
      · exact .inl z
      · exact .inr (filter_snd (fun i => Nx.contains i) _ z)
    · rcases z with z | z
      · exact .inl z
      · exact .inr (filter_snd (fun i => Nx.contains i) _ z)
/-- Nx is kept at each raise -/
abbrev Kept (N Nx : List Nat) : Prop := N.filter (fun i => Nx.contains i) = Nx
theorem toS_post {ρ : List Addr} {B : Addr → Prop} {ow : List (Nat × Addr)} {σa : AS} {σ : St} {H : Hp} {D : Ends} {r : ER} {k : AV → AH → SR} (rs : RS P ρ B ow H σa σ) (hN : ow.map (·.1) = N) (hx : Kept N Nx)
    (q : SPost P b W Nb Nx N' ρ B ow H D (r.toS σa k)) :
    EPost P b W ρ (Bo B ow) σ H (fun v H1 => ∃ ρ1 av h1, Ext b ρ H ρ1 H1 ∧ RH P ρ1 (Bo B ow) H1 h1 ∧ RV P.K ρ1 (Bo B ow) H1 av v ∧ SPost P b W Nb Nx N' ρ1 B ow H1 D (k av h1)) r := by
  cases r with
  | ok av h' => exact fun ρ' H' v e rh rv => ⟨ρ', av, h', e, rh, rv, SPost.ext q (ExtS.of e)⟩
  | exc c x h' => exact exc_restrict rs (by rw [hN]; exact hx) q
  | stuck => exact q
theorem toS_postB {ρ : List Addr} {B : Addr → Prop} {ow : List (Nat × Addr)} {σa : AS} {σ : St} {H : Hp} {D : Ends} {r : ER} {k : AV → AH → SR} (rs : RS P ρ B ow H σa σ) (hN : ow.map (·.1) = N) (hx : Kept N Nx)
    (q : SPost P b W Nb Nx N' ρ B ow H D (r.toS σa k)) :
    EPostB P b W ρ (Bo B ow) σ H (fun v H1 => ∃ ρ1 av h1, Ext b ρ H ρ1 H1 ∧ RH P ρ1 (Bo B ow) H1 h1 ∧ RVb P.K ρ1 (Bo B ow) H1 av v ∧ SPost P b W Nb Nx N' ρ1 B ow H1 D (k av h1)) r := by
  cases r with
  | ok av h' => exact fun ρ' H' v e rh rv => ⟨ρ', av, h', e, rh, rv, SPost.ext q (ExtS.of e)⟩
  | exc c x h' => exact exc_restrict rs (by rw [hN]; exact hx) q
  | stuck => exact q
theorem tstS_post {ρ : List Addr} {B : Addr → Prop} {ow : List (Nat × Addr)} {σa : AS} {σ : St} {H : Hp} {D : Ends} {r : ER} {k : Bool → AH → SR} (rs : RS P ρ B ow H σa σ) (hN : ow.map (·.1) = N) (hx : Kept N Nx)
    (q : SPost P b W Nb Nx N' ρ B ow H D (r.tstS σa k)) :
    TPost P b W ρ (Bo B ow) σ H (fun c H1 => ∃ ρ1 h1, Ext b ρ H ρ1 H1 ∧ RH P ρ1 (Bo B ow) H1 h1 ∧ SPost P b W Nb Nx N' ρ1 B ow H1 D (k c h1)) r := by
  cases r with
  | ok av h' =>
    cases av with
    | bl c => exact fun ρ' H' e rh => ⟨ρ', h', e, rh, SPost.ext q (ExtS.of e)⟩
    | _ => exact q.elim
  | exc c x h' => exact exc_restrict rs (by rw [hN]; exact hx) q
  | stuck => exact q

theorem weak_start {D : Ends} {σ : St} {H : Hp} (hs : N.filter (fun i => N1.contains i) = N1) (q : tDS P b W N Nb Nx N' m D σ H) : tDS P b W N1 Nb Nx N' m D σ H := by
  obtain ⟨ρ, B, ow, σa, h, rh, rs, rfl, q⟩ := q
  refine ⟨ρ, B, ow.filter fun p => N1.contains p.1, σa, h, rh.drop _, rs.drop _, by rw [filter_fst (fun i => N1.contains i)]; exact hs, ?_⟩
  have st : ∀ a ∈ (ow.filter fun p => N1.contains p.1).map (·.2), a ∈ ow.map (·.2) := filter_snd (fun i => N1.contains i)
  cases g : m σa h with
  | nx _ _ => rw [g] at q; exact fun ρ' ow' H' σ' e => q ρ' ow' H' σ' (e.start st)
  | bk _ _ => rw [g] at q; exact fun ρ' ow' H' σ' e => q ρ' ow' H' σ' (e.start st)
  | ct _ _ => rw [g] at q; exact fun ρ' ow' H' σ' e => q ρ' ow' H' σ' (e.start st)
  | rt _ _ => rw [g] at q; exact fun ρ' H' v e => q ρ' H' v (e.start st)
  | exc _ _ _ _ => rw [g] at q; exact fun ρ' ow' H' σ' d e => q ρ' ow' H' σ' d (e.start st)
  | stuck => rw [g] at q; exact q
/-- from N the names of N1 alone are kept as owners -/
theorem dss_weak (h : DSs P X b W N1 Nb Nx N' sts m) (hs : N.filter (fun i => N1.contains i) = N1 := by decide) : DSs P X b W N Nb Nx N' sts m := ⟨pss_weak h.ps fun D σ H q => weak_start hs q⟩
theorem ds_weak (h : DS P X b W N1 Nb Nx N' st m) (hs : N.filter (fun i => N1.contains i) = N1 := by decide) : DS P X b W N Nb Nx N' st m := ⟨ps_weak h.ps fun D σ H q => weak_start hs q⟩
/-- at the end N1 alone -/
theorem weak_end (hs : N'.filter (fun i => N1.contains i) = N1) {ρ : List Addr} {B : Addr → Prop} {ow : List (Nat × Addr)} {H : Hp} {D : Ends} {r : SR} (q : SPost P b W Nb Nx N1 ρ B ow H D r) : SPost P b W Nb Nx N' ρ B ow H D r := by
  cases r with
  | nx σa' h' =>
    intro ρ' ow' H' σ' e rh rs hN
    refine q ρ' (ow'.filter fun p => N1.contains p.1) H' σ' (e.fewer (filter_snd (fun i => N1.contains i))) (rh.drop _) (rs.drop _) ?_
    rw [filter_fst (fun i => N1.contains i), hN]
    exact hs
  | bk _ _ => exact q
  | ct _ _ => exact q
  | rt _ _ => exact q
  | exc _ _ _ _ => exact q
  | stuck => exact q
theorem dss_end (h : DSs P X b W N Nb Nx N' sts m) (hs : N'.filter (fun i => N1.contains i) = N1 := by decide) : DSs P X b W N Nb Nx N1 sts m := ⟨pss_weak h.ps fun D σ H ⟨ρ, B, ow, σa, hh, rh, rs, hN, q⟩ => ⟨ρ, B, ow, σa, hh, rh, rs, hN, weak_end hs q⟩⟩
theorem ds_end (h : DS P X b W N Nb Nx N' st m) (hs : N'.filter (fun i => N1.contains i) = N1 := by decide) : DS P X b W N Nb Nx N1 st m := ⟨ps_weak h.ps fun D σ H ⟨ρ, B, ow, σa, hh, rh, rs, hN, q⟩ => ⟨ρ, B, ow, σa, hh, rh, rs, hN, weak_end hs q⟩⟩

theorem dss_nil : DSs P X b W N Nb Nx N [] nxS := by
  refine ⟨pss_weak pss_nil ?_⟩
  rintro D σ H ⟨ρ, B, ow, σa, h, rh, rs, hN, q⟩
  exact q ρ ow H σ ExtS.refl rh rs hN
theorem seq_post {ρ : List Addr} {B : Addr → Prop} {ow : List (Nat × Addr)} {H : Hp} {D : Ends} {σa : AS} {h : AH} (q : SPost P b W Nb Nx N' ρ B ow H D (seqS m1 m2 σa h)) :
    SPost P b W Nb Nx N1 ρ B ow H { D with nx := tDS P b W N1 Nb Nx N' m2 D } (m1 σa h) := by
  unfold seqS at q
  cases g : m1 σa h with
  | nx σ1 h1 =>
    rw [g] at q
    exact fun ρ' ow' H' σ' e rh rs hN => ⟨ρ', B, ow', σ1, h1, rh, rs, hN, SPost.ext q e⟩
  | bk _ _ => rw [g] at q; exact q
  | ct _ _ => rw [g] at q; exact q
  | rt _ _ => rw [g] at q; exact q
  | exc _ _ _ _ => rw [g] at q; exact q
  | stuck => rw [g] at q; exact q
theorem dss_cons (h1 : DS P X b W N Nb Nx N1 st m1) (h2 : DSs P X b W N1 Nb Nx N' sts m2) : DSs P X b W N Nb Nx N' (st :: sts) (seqS m1 m2) := by
  refine ⟨pss_weak (pss_cons h1.ps h2.ps) ?_⟩
  rintro D σ H ⟨ρ, B, ow, σa, h, rh, rs, hN, q⟩
  exact ⟨ρ, B, ow, σa, h, rh, rs, hN, seq_post q⟩
theorem dss_one (h1 : DS P X b W N Nb Nx N' st m1) : DSs P X b W N Nb Nx N' [st] m1 := ⟨pss_one h1.ps⟩
/-- code that is never come to: a statement whose denotation is stuck -/
def stuckS : SV := fun _ _ => .stuck
theorem ds_never : DS P X b W N Nb Nx N' st stuckS := ⟨ps_weak ps_never fun _ _ _ ⟨_, _, _, _, _, _, _, _, q⟩ => q⟩
theorem dss_never : DSs P X b W N Nb Nx N' sts stuckS := ⟨pss_weak pss_never fun _ _ _ ⟨_, _, _, _, _, _, _, _, q⟩ => q⟩
def stuckD : EV := fun _ _ => .stuck
theorem ds_pass : DS P X b W N Nb Nx N (.Pass pos) nxS := by
  refine ⟨ps_weak ps_pass ?_⟩
  rintro D σ H ⟨ρ, B, ow, σa, h, rh, rs, hN, q⟩
  exact q ρ ow H σ ExtS.refl rh rs hN
theorem ds_break (hb : N = Nb := by rfl) : DS P X b W N Nb Nx N' (.Break pos) bkS := by
  refine ⟨ps_weak ps_break ?_⟩
  rintro D σ H ⟨ρ, B, ow, σa, h, rh, rs, hN, q⟩
  exact q ρ ow H σ ExtS.refl rh rs (hN.trans hb)
theorem ds_continue (hb : N = Nb := by rfl) : DS P X b W N Nb Nx N' (.Continue pos) ctS := by
  refine ⟨ps_weak ps_continue ?_⟩
  rintro D σ H ⟨ρ, B, ow, σa, h, rh, rs, hN, q⟩
  exact q ρ ow H σ ExtS.refl rh rs (hN.trans hb)
theorem ds_expr (he : DB P X b W N e ma) (hx : Kept N Nx := by decide) (hs : swapsWith e none pos.line X.env = pure false := by rfl) : DS P X b W N Nb Nx N (.Expr e pos) (exprS ma) := by
  refine ⟨ps_weak (ps_expr he.pe hs) ?_⟩
  rintro D σ H ⟨ρ, B, ow, σa, h, rh, rs, hN, q⟩
  refine ⟨ρ, B, ow, σa, h, rh, rs, hN, (toS_postB rs hN hx q).imp ?_⟩
  rintro v H1 ⟨ρ1, av, h1, e1, rh1, rv1, q1⟩
  exact q1 ρ1 ow H1 σ ExtS.refl rh1 (rs.ext e1) hN
theorem ds_ret (he : DE P X b W [] e ma) (hx : Kept [] Nx := by decide) : DS P X b W N Nb Nx N' (.Return (some e) pos) (retS ma) := by
  refine ⟨ps_weak (ps_ret he.pe) ?_⟩
  intro D σ H hq
  obtain ⟨ρ, B, ow, σa, h, rh, rs, hN, q⟩ := weak_start (N1 := []) (by simp) hq
  have ho : ow = [] := by simpa using hN
  subst ho
  refine ⟨ρ, B, [], σa, h, rh, rs, rfl, (toS_post rs rfl hx q).imp ?_⟩
  rintro v H1 ⟨ρ1, av, h1, e1, rh1, rv1, q1⟩
  exact q1 ρ1 H1 v ExtS.refl (rh1.anti Bo.nil) (rv1.anti Bo.nil av)
theorem ds_retN : DS P X b W N Nb Nx N' (.Return none pos) (retS (cD .non)) := by
  refine ⟨ps_weak ps_retN ?_⟩
  intro D σ H hq
  obtain ⟨ρ, B, ow, σa, h, rh, rs, hN, q⟩ := weak_start (N1 := []) (by simp) hq
  have ho : ow = [] := by simpa using hN
  subst ho
  exact q ρ H .non ExtS.refl (rh.anti Bo.nil) mk_non
theorem ds_if {t : Expr} {s1 s2 : List Stmt} (ht : DT P X b W N t mc) (h1 : DSs P X b W N Nb Nx N' s1 m1) (h2 : DSs P X b W N Nb Nx N' s2 m2) (hx : Kept N Nx := by decide) : DS P X b W N Nb Nx N' (.If t s1 s2 pos) (ifS mc m1 m2) := by
  refine ⟨ps_weak (ps_if ht.pt h1.ps h2.ps) ?_⟩
  rintro D σ H ⟨ρ, B, ow, σa, h, rh, rs, hN, q⟩
  refine ⟨ρ, B, ow, σa, h, rh, rs, hN, (tstS_post rs hN hx q).imp ?_⟩
  rintro c H1 ⟨ρ1, h1, e1, rh1, q1⟩
  cases c with
  | true => exact ⟨ρ1, B, ow, σa, h1, rh1, rs.ext e1, hN, q1⟩
  | false => exact ⟨ρ1, B, ow, σa, h1, rh1, rs.ext e1, hN, q1⟩

theorem ds_set {j : Nat} {x : Str} {pos' : Pos} (hn : X.N.Nodup) (hj : X.N[j]? = some x) (hx' : Loc X.env.scope x) (he : DE P X b W N e ma) (hNj : j ∉ N := by decide) (hx : Kept N Nx := by decide) (hs : swapsWith e (some (.Name x pos')) pos.line X.env = pure false := by rfl)
    (hf : X.fn x = true ∨ X.env.scope.names.lookup x = some .local := by first | exact .inl rfl | exact .inr rfl | assumption) : DS P X b W N Nb Nx N (.Assign [.Name x pos'] e pos) (setS j ma) := by
  refine ⟨ps_weak (ps_set hn hj hx' he.pe hs hf) ?_⟩
  rintro D σ H ⟨ρ, B, ow, σa, h, rh, rs, rfl, q⟩
  refine ⟨ρ, B, ow, σa, h, rh, rs, rfl, (toS_post rs rfl hx q).imp ?_⟩
  rintro v H1 ⟨ρ1, av, h1, e1, rh1, rv1, q1⟩
  exact q1 ρ1 ow H1 _ ExtS.refl rh1 ((rs.ext e1).set hNj rv1) rfl
/-- what is wanted of an expression that makes a new list or dict: nobody else has it -/
def FPost (P : Pm) (b : Bool) (W : WX) (ρ : List Addr) (B : Addr → Prop) (σ : St) (H : Hp) (Q : VK) : ER → Prop
  | .ok av h' => ∀ ρ' H' p u, Ext b ρ H ρ' H' → RH P ρ' B H' h' → OV P.K ρ' B H' av u → H' p = none → Q (.ref p) (upd H' p u)
  | .exc c f h' => ∀ ρ' H' d, Ext b ρ H ρ' H' → RH P ρ' B H' h' → RX P.K ρ' B H' f d → W (P.ex c) d σ H'
  | .stuck => False
theorem FPost.ext {ρ ρ1 : List Addr} {B : Addr → Prop} {σ : St} {H H1 : Hp} {Q : VK} {r : ER} (h : FPost P b W ρ B σ H Q r) (e : Ext b ρ H ρ1 H1) : FPost P b W ρ1 B σ H1 Q r := by
  cases r with
  | ok av h' => exact fun ρ' H' p u f => h ρ' H' p u (e.trans f)
  | exc c x h' => exact fun ρ' H' v f => h ρ' H' v (e.trans f)
  | stuck => exact h
theorem FPost.bindB {ρ : List Addr} {B : Addr → Prop} {σ : St} {H : Hp} {Q : VK} {r : ER} {k : AV → AH → ER} (h : FPost P b W ρ B σ H Q (r.bind k)) :
    EPostB P b W ρ B σ H (fun v H1 => ∃ ρ1 av h1, Ext b ρ H ρ1 H1 ∧ RH P ρ1 B H1 h1 ∧ RVb P.K ρ1 B H1 av v ∧ FPost P b W ρ1 B σ H1 Q (k av h1)) r := by
  cases r with
  | ok av h' => exact fun ρ' H' v e rh rv => ⟨ρ', av, h', e, rh, rv, FPost.ext h e⟩
  | exc c x h' => exact h
  | stuck => exact h
theorem FPost.bindL {ρ : List Addr} {B : Addr → Prop} {σ : St} {H : Hp} {Q : VK} {r : LR} {k : List AV → AH → ER} (h : FPost P b W ρ B σ H Q (r.bind k)) :
    LPostB P b W ρ B σ H (fun v H1 => ∃ ρ1 av h1, Ext b ρ H ρ1 H1 ∧ RH P ρ1 B H1 h1 ∧ RVbs P.K ρ1 B H1 av v ∧ FPost P b W ρ1 B σ H1 Q (k av h1)) r := by
  cases r with
  | ok av h' => exact fun ρ' H' v e rh rv => ⟨ρ', av, h', e, rh, rv, FPost.ext h e⟩
  | exc c x h' => exact h
  | stuck => exact h
def tDF (P : Pm) (b : Bool) (W : WX) (N : List Nat) (m : EV) : TE := fun σ H Q =>
  ∃ ρ B ow σa h, RH P ρ (Bo B ow) H h ∧ RS P ρ B ow H σa σ ∧ ow.map (·.1) = N ∧ FPost P b W ρ (Bo B ow) σ H Q (m σa h)
/-- an expression that makes a new list or dict -/
structure DF (P : Pm) (X : Cx) (b : Bool) (W : WX) (N : List Nat) (e : Expr) (m : EV) : Prop where
  pe : PE X e (tDF P b W N m)
theorem f_lst {ρ : List Addr} {B : Addr → Prop} {σ : St} {H : Hp} {Q : VK} {h : AH} {xs : List AV} {vs : List V} (q : FPost P b W ρ B σ H Q (.ok (.lst xs) h)) (rh : RH P ρ B H h) (rv : RVs P.K ρ B H xs vs) : ∀ p, H p = none → Q (.ref p) (upd H p (.lst vs)) :=
  fun p hp => q ρ H p (.lst vs) (Ext.refl b ρ H) rh ⟨vs, rfl, rv⟩ hp
/-- a name gets a list or dict of its own -/
theorem ds_setF {j : Nat} {x : Str} {pos' : Pos} (hn : X.N.Nodup) (hj : X.N[j]? = some x) (hx' : Loc X.env.scope x) (he : DF P X b W N e ma) (hNj : j ∉ N := by decide) (hx : Kept N Nx := by decide) (hs : swapsWith e (some (.Name x pos')) pos.line X.env = pure false := by rfl)
    (hf : X.fn x = true ∨ X.env.scope.names.lookup x = some .local := by first | exact .inl rfl | exact .inr rfl | assumption) (hl : j < X.N.length := by decide) : DS P X b W N Nb Nx (j :: N) (.Assign [.Name x pos'] e pos) (setS j ma) := by
  refine ⟨⟨fun pins s σ H D I hq => ?_⟩⟩
  refine (ps_weak (t' := fun D σ H => σ.length = X.N.length ∧ tDS P b W N Nb Nx (j :: N) (setS j ma) D σ H) (ps_set hn hj hx' he.pe hs hf) ?_).run pins s σ H D I ⟨I.len, hq⟩
  rintro D σ H ⟨hlen, ρ, B, ow, σa, h, rh, rs, rfl, q⟩
  refine ⟨ρ, B, ow, σa, h, rh, rs, rfl, ?_⟩
  have q0 : SPost P b W Nb Nx (j :: ow.map (·.1)) ρ B ow H D ((ma σa h).toS σa fun v h1 => .nx (σa.set j (some v)) h1) := q
  cases g : ma σa h with
  | stuck => rw [g] at q0; exact q0
  | exc c x h' => rw [g] at q0; exact exc_restrict rs hx q0
  | ok av h' =>
    rw [g] at q0
    intro ρ' H' p u e rh' ov hp
    have rs' := rs.ext e
    have np : p ∉ ρ' := fun z => rh'.lvR p z hp
    have nb : ¬ B p := fun z => rh'.lvB p (.inl z) hp
    have hl' : j < σa.length := by rw [rs.len, hlen]; exact hl
    have rs2 := rs'.take hNj hl' hp np nb ov
    have no : ¬ Bo B ow p := fun z => rh'.lvB p z hp
    have rh2 : RH P ρ' (Bo B ((j, p) :: ow)) (upd H' p u) h' := by
      have r := rh'.frz (u := u) hp
      refine ⟨r.len, r.nd, fun a ha z => ?_, fun a z => ?_, fun k ob hk => ?_⟩
      · rcases z with z | z
        · exact r.out a ha (.inl z)
        · rcases List.mem_cons.mp z with z | z
          · exact np (by have z' : a = p := z; rw [← z']; exact ha)
          · exact r.out a ha (.inr z)
      · rcases z with z | z
        · exact r.lvB a (.inl z)
        · rcases List.mem_cons.mp z with z | z
          · subst z; rw [upd_same]; simp
          · exact r.lvB a (.inr z)
      · obtain ⟨a, w, h1, h2, h3⟩ := rh'.obj k ob hk
        have na : a ≠ p := fun z => np (by rw [← z]; exact List.mem_of_getElem? h1)
        have ee : ExtS true ρ' ow H' ρ' ((j, p) :: ow) (upd H' p u) := ⟨⟨[], by simp, by simp⟩, fun c o _ _ k2 => by rw [upd_ne (ne_of_none k2 hp)]; exact k2, (Ext.new (b := true) (ρ := ρ') (o := u) hp).live, fun c hc => by
          rcases List.mem_cons.mp hc with rfl | hc
          · exact .inr hp
          · exact .inl hc⟩
        refine ⟨a, w, h1, by rw [upd_ne na]; exact h2, ?_⟩
        cases ob with
        | lst xs => obtain ⟨vs, k1, k2⟩ := h3; exact ⟨vs, k1, k2.extS ee xs⟩
        | dct xs => obtain ⟨vs, k1, k2⟩ := h3; exact ⟨vs, k1, k2.extS ee xs⟩
        | ins cc fs => obtain ⟨dx, us, k1, k2⟩ := h3; exact ⟨dx, us, k1, k2.extS ee fs⟩
    have eS : ExtS b ρ ow H ρ' ((j, p) :: ow) (upd H' p u) := by
      refine ⟨e.pre, fun a o h1 _ h2 => ?_, fun a ha => ?_, fun a ha => ?_⟩
      · have h3 := e.keep a o h1 h2
        rw [upd_ne (ne_of_none h3 hp)]
        exact h3
      · exact (Ext.new (b := true) (ρ := ρ') (o := u) hp).live a (e.live a ha)
      · rcases List.mem_cons.mp ha with z1 | ha
        · right
          have z2 : a = p := z1
          subst z2
          cases z : H a with
          | none => rfl
          | some w => exact absurd hp (e.live a (by rw [z]; simp))
        · exact .inl ha
    exact q0 ρ' ((j, p) :: ow) (upd H' p u) _ eS rh2 rs2 rfl
theorem df_lst (h : DA P X b W N es (evs ms)) (hl : ms.length ≤ LIM := by decide) : DF P X b W N (.List es pos) (lstD ms) := by
  refine ⟨pe_weak (pe_lst h.pa) ?_⟩
  rintro σ H Q ⟨ρ, B, ow, σa, hh, rh, rs, hN, q⟩
  refine ⟨ρ, B, ow, σa, hh, rh, rs, hN, ?_⟩
  unfold lstD at q
  cases g : evs ms σa hh with
  | ok avs h1 =>
    rw [g] at q
    exact fun ρ1 H1 vs e1 rh1 rv1 => ⟨by rw [← rv1.len, evs_len g]; exact hl, f_lst (FPost.ext q e1) rh1 rv1⟩
  | exc c x h' => rw [g] at q; exact q
  | stuck => rw [g] at q; exact q
theorem df_dct : DF P X b W N (.Dict [] [] pos) (cD (.dct [])) := by
  refine ⟨pe_weak pe_dnewK ?_⟩
  rintro σ H Q ⟨ρ, B, ow, σa, hh, rh, rs, hN, q⟩
  exact fun p hp => q ρ H p (.dK []) (Ext.refl b ρ H) rh ⟨[], rfl, by unfold RKs; rfl⟩ hp
def V2F (P : Pm) (b : Bool) (f : AV → AV → AH → ER) (r : R2) : Prop := ∀ (W : WX) ρ B σ H av bv h x y Q, RH P ρ B H h → RVb P.K ρ B H av x → RVb P.K ρ B H bv y → FPost P b W ρ B σ H Q (f av bv h) → r x y H Q
def VNF (P : Pm) (b : Bool) (f : FV) (r : List V → Hp → VK → Prop) : Prop := ∀ (W : WX) ρ B σ H avs h xs Q, RH P ρ B H h → RVbs P.K ρ B H avs xs → FPost P b W ρ B σ H Q (f avs h) → r xs H Q
theorem df_op {op : Operator} {r : R2} {f : AV → AV → AH → ER} (ho : OpR X (binaryOp op) r) (hr : V2F P b f r) (ha : DB P X b W N a ma) (hc : DB P X b W N c mb) : DF P X b W N (.BinOp a op c pos) (bin f ma mb) := by
  refine ⟨pe_weak (pe_op ho ha.pe hc.pe) ?_⟩
  rintro σ H Q ⟨ρ, B, ow, σa, h, rh, rs, hN, q⟩
  refine ⟨ρ, B, ow, σa, h, rh, rs, hN, (FPost.bindB q).imp ?_⟩
  rintro x H1 ⟨ρ1, av, h1, e1, rh1, rv1, q1⟩
  refine ⟨ρ1, B, ow, σa, h1, rh1, rs.ext e1, hN, (FPost.bindB q1).imp ?_⟩
  rintro y H2 ⟨ρ2, bv, h2, e2, rh2, rv2, q2⟩
  exact hr W ρ2 (Bo B ow) σ H2 av bv h2 x y Q rh2 (rv1.ext e2) rv2 q2
theorem df_callTy {T : String} {f : FV} {x : Str} {p : Pos} {r : List V → Hp → VK → Prop} (hc : CallR X (.type T) r) (hv : VNF P b f r) (hg : Gl X x) (hm : X.mg x = none) (hb : bootBuiltins x = some (.type T)) (ha : DAB P X b W N (e :: es) (evs ms)) (hn : x ≠ "__name__" := by decide) (hdb : (x == ("__debug__" : Str)) = false := by decide)
    (he : starEach (e :: es) X.env = (false, eval e X.env) :: starEach es X.env := by rfl) (hpl : (backTo pos (starEach es X.env)).any (·.1) = false := by rfl) : DF P X b W N (.Call (.Name x p) (e :: es) [] pos) (callD f ms) := by
  refine ⟨pe_weak (pe_callTy hc hg hm hb ha.pa hn hdb he hpl) ?_⟩
  rintro σ H Q ⟨ρ, B, ow, σa, h, rh, rs, hN, q⟩
  refine ⟨ρ, B, ow, σa, h, rh, rs, hN, (FPost.bindL (k := f) q).imp ?_⟩
  rintro vs H1 ⟨ρ1, av, h1, e1, rh1, rv1, q1⟩
  exact hv W ρ1 (Bo B ow) σ H1 av h1 vs Q rh1 rv1 q1
theorem df_callB {id : String} {f : FV} {x : Str} {p : Pos} {r : List V → Hp → VK → Prop} (hc : CallR X (.builtin id) r) (hv : VNF P b f r) (hg : Gl X x) (hm : X.mg x = none) (hb : bootBuiltins x = some (.builtin id)) (ha : DAB P X b W N (e :: es) (evs ms)) (hn : x ≠ "__name__" := by decide) (hdb : (x == ("__debug__" : Str)) = false := by decide)
    (he : starEach (e :: es) X.env = (false, eval e X.env) :: starEach es X.env := by rfl) (hpl : (backTo pos (starEach es X.env)).any (·.1) = false := by rfl) : DF P X b W N (.Call (.Name x p) (e :: es) [] pos) (callD f ms) := by
  refine ⟨pe_weak (pe_callB hc hg hm hb ha.pa hn hdb he hpl) ?_⟩
  rintro σ H Q ⟨ρ, B, ow, σa, h, rh, rs, hN, q⟩
  refine ⟨ρ, B, ow, σa, h, rh, rs, hN, (FPost.bindL (k := f) q).imp ?_⟩
  rintro vs H1 ⟨ρ1, av, h1, e1, rh1, rv1, q1⟩
  exact hv W ρ1 (Bo B ow) σ H1 av h1 vs Q rh1 rv1 q1
theorem f_no {ρ : List Addr} {B : Addr → Prop} {σ : St} {H : Hp} {Q : VK} {h : AH} {av : AV} (q : FPost P b W ρ B σ H Q (.ok av h)) : True := trivial
theorem vf_mul : V2F P b lmulV rRep := by
  intro W ρ B σ H av bv h x y Q rh r1 r2 q
  unfold lmulV at q
  split at q
  · split at q
    · rename_i hz
      obtain ⟨a1, vs, e1, h1, g1⟩ := rv_lv rh r1 (show lv h (.lst _) = some _ from rfl)
      exact ⟨a1, _, vs, e1, rv_int r2, h1, by omega, by omega, by rw [← g1.len]; exact hz.2.1, f_lst q rh (g1.rep _)⟩
    · exact q.elim
  · exact q.elim
theorem vf_add : V2F P b laddV rCat := by
  intro W ρ B σ H av bv h x y Q rh r1 r2 q
  unfold laddV at q
  split at q
  · rename_i xs ys ex ey
    split at q
    · rename_i hz
      obtain ⟨a1, vs, e1, h1, g1⟩ := rv_lv rh r1 ex
      obtain ⟨a2, ws, e2, h2, g2⟩ := rv_lv rh r2 ey
      exact ⟨a1, a2, vs, ws, e1, e2, h1, h2, by rw [← g1.len, ← g2.len]; exact hz, f_lst q rh (g1.app g2)⟩
    · exact q.elim
  · exact q.elim
theorem vf_list : VNF P b listF (fun xs H Q => ∃ p ys, xs = [.ref p] ∧ (SqL P.K H p ys ∨ SqT P.K H p ys) ∧ ∀ l, H l = none → Q (.ref l) (upd H l (.lst ys))) := by
  intro W ρ B σ H avs h xs Q rh r q
  unfold listF at q
  split at q
  · rename_i o
    obtain ⟨v, rfl, r1⟩ := one_of r
    cases g : seqOf h o with
    | none => rw [g] at q; exact q.elim
    | some ys =>
      rw [g] at q
      obtain ⟨a1, vs, rfl, h1, g1⟩ := rv_seq rh r1 g
      exact ⟨a1, vs, rfl, h1, f_lst q rh g1⟩
  · exact q.elim
end
end D
end

section
namespace D
open PySem L2

def Yld (K : PySem.W.Frag) (ρ : List Addr) (B : Addr → Prop) (H1 H2 : Hp) (y : AV) (x : V) (H3 : Hp) : Prop :=
  (H3 = H2 ∧ RV K ρ B H1 y x) ∨ (∃ T ys vs, y = .tup ys ∧ x = .ref T ∧ H2 T = none ∧ H3 = upd H2 T (.tup vs) ∧ RVs K ρ B H1 ys vs)
/-- J goes over xs as long as the places of S stay as they are -/
def ItOk (K : PySem.W.Frag) (ρ : List Addr) (B : Addr → Prop) (H1 : Hp) (S : Addr → Prop) (J : It) (xs : List AV) : Prop :=
  ∀ H2, (∀ a, S a → H2 a = H1 a) → ∀ i : Nat, (xs.length ≤ i → J.stop i H2) ∧ ∀ y, xs[i]? = some y → J.go i H2 ∧ ∀ x H3, J.yld i H2 x H3 → Yld K ρ B H1 H2 y x H3
/-- c: within an expression (what names own stays), else over statements -/
def SOk (c b : Bool) (ρ : List Addr) (B : Addr → Prop) (ow : List (Nat × Addr)) (H : Hp) (S : Addr → Prop) : Prop :=
  ∀ a, S a → H a ≠ none ∧ (if c = true then b = true ∨ a ∉ ρ else a ∉ ρ ∧ ¬ Bo B ow a)
def IPost (P : Pm) (c b : Bool) (W : WX) (ρ : List Addr) (B : Addr → Prop) (ow : List (Nat × Addr)) (σ : St) (H : Hp) (R : It → Hp → Prop) : LR → Prop
  | .ok xs h' => ∀ ρ' H' J S, Ext b ρ H ρ' H' → RH P ρ' (Bo B ow) H' h' → ItOk P.K ρ' (Bo B ow) H' S J xs → SOk c b ρ' B ow H' S → R J H'
  | .exc cc f h' => ∀ ρ' H' d, Ext b ρ H ρ' H' → RH P ρ' (Bo B ow) H' h' → RX P.K ρ' (Bo B ow) H' f d → W (P.ex cc) d σ H'
  | .stuck => False
def tDI (P : Pm) (c b : Bool) (W : WX) (N : List Nat) (m : LV) : TI := fun σ H R =>
  ∃ ρ B ow σa h, RH P ρ (Bo B ow) H h ∧ RS P ρ B ow H σa σ ∧ ow.map (·.1) = N ∧ IPost P c b W ρ B ow σ H R (m σa h)
structure DI (P : Pm) (X : Cx) (c b : Bool) (W : WX) (N : List Nat) (tg e : Expr) (m : LV) : Prop where
  pi : PI X tg e (tDI P c b W N m)
theorem pi_weak {X : Cx} {tg e : Expr} {t t' : TI} (h : PI X tg e t) (w : ∀ σ H R, t' σ H R → t σ H R) : PI X tg e t' := ⟨fun pins s σ H R I q => h.run pins s σ H R I (w σ H R q)⟩

section
variable {P : Pm} {X : Cx} {c b : Bool} {W : WX} {N : List Nat} {tg e a d : Expr} {es : List Expr} {pos : Pos} {ma mb : EV} {ms : List EV} {m : LV}
theorem rd_eq {H1 H2 : Hp} {p : Addr} {u : HO} (h : Rd H1 p u) (e : H2 p = H1 p) : Rd H2 p u := by
  rcases h with h | ⟨o, h⟩
  · exact .inl (e.trans h)
  · exact .inr ⟨o, e.trans h⟩
/-- the library's walks over a list, a tuple, a text, a range -/
theorem itl_ok {ρ : List Addr} {B : Addr → Prop} {H1 : Hp} {K : PySem.W.Frag} {p : Addr} {xs : List AV} {vs : List V} {S : Addr → Prop} (hq : ∀ H2, (∀ a, S a → H2 a = H1 a) → SqL K H2 p vs) (hv : RVs P.K ρ B H1 xs vs) : ItOk P.K ρ B H1 S (Itl K p) xs := by
  intro H2 hS i
  have q := hq H2 hS
  refine ⟨fun hi => ⟨vs, q, by rw [← hv.len]; exact hi⟩, fun y hy => ?_⟩
  obtain ⟨v, h1, h2⟩ := hv.get hy
  refine ⟨⟨vs, v, q, h1⟩, fun x H3 hz => ?_⟩
  obtain ⟨rfl, g⟩ := hz
  have g' := g vs q
  rw [h1] at g'
  cases g'
  exact .inl ⟨rfl, h2⟩
theorem itt_ok {ρ : List Addr} {B : Addr → Prop} {H1 : Hp} {K : PySem.W.Frag} {p : Addr} {xs : List AV} {vs : List V} {S : Addr → Prop} (hq : ∀ H2, (∀ a, S a → H2 a = H1 a) → SqT K H2 p vs) (hv : RVs P.K ρ B H1 xs vs) : ItOk P.K ρ B H1 S (Itt K p) xs := by
  intro H2 hS i
  have q := hq H2 hS
  refine ⟨fun hi => ⟨vs, q, by rw [← hv.len]; exact hi⟩, fun y hy => ?_⟩
  obtain ⟨v, h1, h2⟩ := hv.get hy
  refine ⟨⟨vs, v, q, h1⟩, fun x H3 hz => ?_⟩
  obtain ⟨rfl, g⟩ := hz
  have g' := g vs q
  rw [h1] at g'
  cases g'
  exact .inl ⟨rfl, h2⟩
theorem its_ok {ρ : List Addr} {B : Addr → Prop} {H1 : Hp} {s : Str} : ItOk P.K ρ B H1 (fun _ => False) (Its s) (s.cps.toList.map fun k => AV.str ⟨#[k]⟩) := by
  intro H2 hS i
  refine ⟨fun hi => (by show s.cps.size ≤ i; simpa using hi), fun y hy => ?_⟩
  rw [List.getElem?_map] at hy
  obtain ⟨k, h1, rfl⟩ := Option.map_eq_some_iff.mp hy
  refine ⟨(by show i < s.cps.size; simpa using (List.getElem?_eq_some_iff.mp h1).1), fun x H3 hz => ?_⟩
  obtain ⟨rfl, k', g, rfl⟩ := hz
  rw [Array.getElem?_toList] at h1
  rw [h1] at g
  cases g
  exact .inl ⟨rfl, mk_str⟩
theorem itr_ok {ρ : List Addr} {B : Addr → Prop} {H1 : Hp} {lo : Int} {n : Nat} : ItOk P.K ρ B H1 (fun _ => False) (Itr lo n) (rangeL lo n) := by
  intro H2 hS i
  refine ⟨fun hi => (by show n ≤ i; simpa [rangeL] using hi), fun y hy => ?_⟩
  unfold rangeL at hy
  rw [List.getElem?_map] at hy
  obtain ⟨k, h1, rfl⟩ := Option.map_eq_some_iff.mp hy
  obtain ⟨h2, h3⟩ := List.getElem?_eq_some_iff.mp h1
  rw [List.getElem_range] at h3
  subst h3
  refine ⟨(by show i < n; simpa using h2), fun x H3 hz => ?_⟩
  obtain ⟨rfl, rfl⟩ := hz
  exact .inl ⟨rfl, mk_int⟩
theorem itc_ok {ρ : List Addr} {B : Addr → Prop} {H1 : Hp} {lo : Int} {n : Nat} : ItOk P.K ρ B H1 (fun _ => False) (Itc lo (-1) n) ((List.range n).map fun k => AV.int (lo - (k : Nat))) := by
  intro H2 hS i
  refine ⟨fun hi => (by show n ≤ i; simpa using hi), fun y hy => ?_⟩
  rw [List.getElem?_map] at hy
  obtain ⟨k, h1, rfl⟩ := Option.map_eq_some_iff.mp hy
  obtain ⟨h2, h3⟩ := List.getElem?_eq_some_iff.mp h1
  rw [List.getElem_range] at h3
  subst h3
  refine ⟨(by show i < n; simpa using h2), fun x H3 hz => ?_⟩
  obtain ⟨rfl, rfl⟩ := hz
  refine .inl ⟨rfl, ?_⟩
  have e : lo + (i : Int) * -1 = lo - i := by omega
  rw [e]
  exact mk_int
/-- for over a list, a tuple, a text, whichever comes -/
def iSq (K : PySem.W.Frag) (te : TE) : TI := fun σ H R => te σ H fun x H1 =>
  (∃ p vs, x = .ref p ∧ SqL K H1 p vs ∧ R (Itl K p) H1) ∨ (∃ p vs, x = .ref p ∧ SqT K H1 p vs ∧ R (Itt K p) H1) ∨ ∃ z, x = .str z ∧ R (Its z) H1
theorem pi_sq {te : TE} (he : PE X e te) : PI X tg e (iSq X.K te) := by
  refine ⟨fun pl s0 σ0 H0 R0 I0 h0 => thn (he.run pl s0 σ0 H0 _ I0 h0) fun u s1 hu => ?_⟩
  obtain ⟨x, H1, I1, r1, hx⟩ := hu
  rcases hx with ⟨p, vs, rfl, hq, q⟩ | ⟨p, vs, rfl, hq, q⟩ | ⟨z, rfl, q⟩
  · cases r1
    obtain ⟨its, _, pl1, _⟩ := I1.list hq
    exact wpAny_pyIter_list pl1.isList (pi_one (tk := s1.toks) I1 _ (turn_list p _) ⟨_, Heap.get?_push_size _ rfl, rfl, rfl⟩ q)
  · cases r1
    obtain ⟨its, _, pl1, _⟩ := I1.tuple hq
    exact wpAny_pyIter_tuple pl1 (pi_one (tk := s1.toks) I1 _ (turn_tuple p _) ⟨_, Heap.get?_push_size _ rfl, rfl, rfl⟩ q)
  · obtain ⟨t, rfl⟩ := r1
    by_cases hw : z.cps.all (· < 128) = true
    · exact wpAny_pyIter_ascii hw (pi_one (tk := s1.toks) I1 _ (turn_str _ z t _ (.inl rfl)) ⟨_, Heap.get?_push_size _ rfl, rfl, rfl⟩ q)
    · have hw' : z.cps.all (· < 128) = false := by simpa using hw
      exact wpAny_pyIter_wide hw' (pi_one (tk := s1.toks) I1 _ (turn_str _ z t _ (.inr rfl)) ⟨_, Heap.get?_push_size _ rfl, rfl, rfl⟩ q)
theorem IPost.bindB {ρ : List Addr} {B : Addr → Prop} {ow : List (Nat × Addr)} {σ : St} {H : Hp} {R : It → Hp → Prop} {r : ER} {k : AV → AH → LR} (h : IPost P c b W ρ B ow σ H R (r.bindL k)) :
    EPostB P b W ρ (Bo B ow) σ H (fun v H1 => ∃ ρ1 av h1, Ext b ρ H ρ1 H1 ∧ RH P ρ1 (Bo B ow) H1 h1 ∧ RVb P.K ρ1 (Bo B ow) H1 av v ∧ IPost P c b W ρ B ow σ H R (k av h1)) r := by
  cases r with
  | ok av h' => exact fun ρ' H' v e rh rv => ⟨ρ', av, h', e, rh, rv, h⟩
  | exc c x h' => exact h
  | stuck => exact h
theorem IPost.bindE {ρ : List Addr} {B : Addr → Prop} {ow : List (Nat × Addr)} {σ : St} {H : Hp} {R : It → Hp → Prop} {r : ER} {k : AV → AH → LR} (h : IPost P c b W ρ B ow σ H R (r.bindL k)) :
    EPost P b W ρ (Bo B ow) σ H (fun v H1 => ∃ ρ1 av h1, Ext b ρ H ρ1 H1 ∧ RH P ρ1 (Bo B ow) H1 h1 ∧ RV P.K ρ1 (Bo B ow) H1 av v ∧ IPost P c b W ρ B ow σ H R (k av h1)) r := by
  cases r with
  | ok av h' => exact fun ρ' H' v e rh rv => ⟨ρ', av, h', e, rh, rv, h⟩
  | exc c x h' => exact h
  | stuck => exact h
theorem optL_ok {ρ : List Addr} {B : Addr → Prop} {ow : List (Nat × Addr)} {σ : St} {H : Hp} {R : It → Hp → Prop} {o : Option (List AV)} {h : AH} (q : IPost P c b W ρ B ow σ H R (optL o h)) : ∃ w, o = some w ∧ IPost P c b W ρ B ow σ H R (.ok w h) := by
  cases o with
  | none => exact q.elim
  | some w => exact ⟨w, rfl, q⟩
theorem rd_S {H1 H2 : Hp} {p : Addr} (h : ∀ a, (a = p) → H2 a = H1 a) : H2 p = H1 p := h p rfl
/-- a sequence that is read: where it stands, what its walk hangs on -/
theorem seq_at {ρ : List Addr} {B : Addr → Prop} {ow : List (Nat × Addr)} {H : Hp} {h : AH} {av : AV} {xs : List AV} {v : V} (rh : RH P ρ (Bo B ow) H h) (hK : P.K = X.K) (r : if c = true then RVb P.K ρ (Bo B ow) H av v else RV P.K ρ (Bo B ow) H av v) (e : iterV av = some xs) :
    ∃ J S, ItOk P.K ρ (Bo B ow) H S J xs ∧ SOk c b ρ B ow H S ∧ ((∃ p vs, v = .ref p ∧ SqL X.K H p vs ∧ J = Itl X.K p) ∨ (∃ p vs, v = .ref p ∧ SqT X.K H p vs ∧ J = Itt X.K p) ∨ ∃ z, v = .str z ∧ J = Its z) := by
  have rb : RVb P.K ρ (Bo B ow) H av v := by
    split at r
    · exact r
    · exact .inl r
  have ok1 : ∀ p, p ∉ ρ → H p ≠ none → (c = false → ¬ Bo B ow p) → SOk c b ρ B ow H (fun a => a = p) := fun p h1 h2 h3 a ha => by
    have ha' : a = p := ha
    subst ha'
    refine ⟨h2, ?_⟩
    split
    · exact .inr h1
    · rename_i hc
      exact ⟨h1, h3 (by simpa using hc)⟩
  have ok0 : SOk c b ρ B ow H (fun _ => False) := fun a ha => ha.elim
  cases av with
  | tup ys =>
    cases e
    rcases rb with r | ⟨_, _, _, _, _, r⟩
    case inr => exact r.elim
    unfold RV at r
    obtain ⟨p, vs, rfl, h1, h2⟩ := r
    rcases h1 with ⟨g1, g2, g3⟩ | h1
    · refine ⟨Itt X.K p, fun a => a = p, itt_ok (fun H2 hS => ?_) h2, ok1 p g1 (rd_ne g3) fun _ => g2, .inr (.inl ⟨p, vs, rfl, ?_, rfl⟩)⟩
      · exact .inl (rd_eq g3 (rd_S hS))
      · exact .inl g3
    · refine ⟨Itt X.K p, fun _ => False, itt_ok (fun H2 hS => ?_) h2, ok0, .inr (.inl ⟨p, vs, rfl, ?_, rfl⟩)⟩
      · exact .inr (hK ▸ h1)
      · exact .inr (hK ▸ h1)
  | str s =>
    cases e
    exact ⟨Its s, fun _ => False, its_ok, ok0, .inr (.inr ⟨s, rv_str rb, rfl⟩)⟩
  | lst ys =>
    cases e
    rcases rb with r' | ⟨p, u, rfl, h1, h2, u', rfl, h3⟩
    · unfold RV at r'
      obtain ⟨p, vs, rfl, g1, g2, g3, g4⟩ := r'
      exact ⟨Itl X.K p, fun a => a = p, itl_ok (fun H2 hS => .inl (.inl ((rd_S hS).trans g3))) g4, ok1 p g1 (by rw [g3]; simp) fun _ => g2, .inl ⟨p, vs, rfl, .inl (.inl g3), rfl⟩⟩
    · by_cases hc : c = true
      · exact ⟨Itl X.K p, fun a => a = p, itl_ok (fun H2 hS => .inl (.inl ((rd_S hS).trans h2))) h3, ok1 p h1 (by rw [h2]; simp) (fun z => by rw [hc] at z; cases z), .inl ⟨p, u', rfl, .inl (.inl h2), rfl⟩⟩
      · rw [if_neg hc] at r
        unfold RV at r
        obtain ⟨p', vs, e1, g1, g2, g3, g4⟩ := r
        cases e1
        exact ⟨Itl X.K p, fun a => a = p, itl_ok (fun H2 hS => .inl (.inl ((rd_S hS).trans g3))) g4, ok1 p g1 (by rw [g3]; simp) fun _ => g2, .inl ⟨p, vs, rfl, .inl (.inl g3), rfl⟩⟩
  | ro ys =>
    cases e
    rcases rb with r | ⟨_, _, _, _, _, r⟩
    case inr => exact r.elim
    unfold RV at r
    obtain ⟨p, vs, rfl, h1, h2⟩ := r
    rcases h1 with ⟨g1, g2, g3⟩ | h1
    · exact ⟨Itl X.K p, fun a => a = p, itl_ok (fun H2 hS => .inl (rd_eq g3 (rd_S hS))) h2, ok1 p g1 (rd_ne g3) fun _ => g2, .inl ⟨p, vs, rfl, .inl g3, rfl⟩⟩
    · exact ⟨Itl X.K p, fun _ => False, itl_ok (fun H2 hS => .inr (hK ▸ h1)) h2, ok0, .inl ⟨p, vs, rfl, .inr (hK ▸ h1), rfl⟩⟩
  | non => cases e
  | bl _ => cases e
  | int _ => cases e
  | dct _ => cases e
  | ref _ => cases e
/-- for x in e, in a comprehension -/
theorem di_sqC (hK : P.K = X.K) (he : DB P X b W N e ma) : DI P X true b W N tg e (itD ma) := by
  refine ⟨pi_weak (pi_sq he.pe) ?_⟩
  rintro σ H R ⟨ρ, B, ow, σa, h, rh, rs, hN, q⟩
  refine ⟨ρ, B, ow, σa, h, rh, rs, hN, (IPost.bindB q).imp ?_⟩
  rintro v H1 ⟨ρ1, av, h1, e1, rh1, rv1, q1⟩
  obtain ⟨xs, ex, q2⟩ := optL_ok q1
  obtain ⟨J, S, hi, hs, hv⟩ := seq_at (X := X) (c := true) (b := b) rh1 hK (by rw [if_pos rfl]; exact rv1) ex
  have q3 := q2 ρ1 H1 J S e1 rh1 hi hs
  rcases hv with ⟨p, vs, h1, h2, rfl⟩ | ⟨p, vs, h1, h2, rfl⟩ | ⟨z, h1, rfl⟩
  · exact .inl ⟨p, vs, h1, h2, q3⟩
  · exact .inr (.inl ⟨p, vs, h1, h2, q3⟩)
  · exact .inr (.inr ⟨z, h1, q3⟩)
/-- .. in a statement -/
theorem di_sq (hK : P.K = X.K) (he : DE P X b W N e ma) : DI P X false b W N tg e (itD ma) := by
  refine ⟨pi_weak (pi_sq he.pe) ?_⟩
  rintro σ H R ⟨ρ, B, ow, σa, h, rh, rs, hN, q⟩
  refine ⟨ρ, B, ow, σa, h, rh, rs, hN, (IPost.bindE q).imp ?_⟩
  rintro v H1 ⟨ρ1, av, h1, e1, rh1, rv1, q1⟩
  obtain ⟨xs, ex, q2⟩ := optL_ok q1
  obtain ⟨J, S, hi, hs, hv⟩ := seq_at (X := X) (c := false) (b := b) rh1 hK (by rw [if_neg (by decide)]; exact rv1) ex
  have q3 := q2 ρ1 H1 J S e1 rh1 hi hs
  rcases hv with ⟨p, vs, h1, h2, rfl⟩ | ⟨p, vs, h1, h2, rfl⟩ | ⟨z, h1, rfl⟩
  · exact .inl ⟨p, vs, h1, h2, q3⟩
  · exact .inr (.inl ⟨p, vs, h1, h2, q3⟩)
  · exact .inr (.inr ⟨z, h1, q3⟩)
/-- ranges -/
theorem IPost.bindL {ρ : List Addr} {B : Addr → Prop} {ow : List (Nat × Addr)} {σ : St} {H : Hp} {R : It → Hp → Prop} {r : LR} {k : List AV → AH → LR} (h : IPost P c b W ρ B ow σ H R (r.bindL k)) :
    LPostB P b W ρ (Bo B ow) σ H (fun v H1 => ∃ ρ1 av h1, Ext b ρ H ρ1 H1 ∧ RH P ρ1 (Bo B ow) H1 h1 ∧ RVbs P.K ρ1 (Bo B ow) H1 av v ∧ IPost P c b W ρ B ow σ H R (k av h1)) r := by
  cases r with
  | ok av h' => exact fun ρ' H' v e rh rv => ⟨ρ', av, h', e, rh, rv, h⟩
  | exc c x h' => exact h
  | stuck => exact h
theorem s0 {ρ : List Addr} {B : Addr → Prop} {ow : List (Nat × Addr)} {H : Hp} : SOk c b ρ B ow H (fun _ => False) := fun a ha => ha.elim
theorem b62 {i : Int} (h : B62 i = true) : -(2 ^ 62) ≤ i ∧ i < 2 ^ 62 := by
  unfold B62 at h
  simp only [Bool.and_eq_true, decide_eq_true_eq] at h
  exact h
theorem di_range1 {p : Pos} (hg : Gl X "range") (hm : X.mg "range" = none) (ha : DAB P X b W N [a] (evs ms)) (hs : starEach [a] X.env = [(false, eval a X.env)] := by rfl) : DI P X c b W N tg (.Call (.Name "range" p) [a] [] pos) (rangeD range1F ms) := by
  refine ⟨pi_weak (pi_range1 hg hm ha.pa hs) ?_⟩
  rintro σ H R ⟨ρ, B, ow, σa, h, rh, rs, hN, q⟩
  refine ⟨ρ, B, ow, σa, h, rh, rs, hN, (IPost.bindL (r := evs ms σa h) (k := fun vs h1 => optL (range1F vs) h1) q).imp ?_⟩
  rintro vs H1 ⟨ρ1, av, h1, e1, rh1, rv1, q1⟩
  obtain ⟨xs, ex, q2⟩ := optL_ok q1
  unfold range1F at ex
  split at ex
  · split at ex
    · rename_i hb
      cases ex
      obtain ⟨v, rfl, g⟩ := one_of rv1
      obtain ⟨h3, h4⟩ := b62 hb
      exact ⟨_, by rw [rv_int g], h3, h4, q2 ρ1 H1 _ _ e1 rh1 itr_ok s0⟩
    · cases ex
  · cases ex
theorem di_range2 {a2 : Expr} {p : Pos} (hg : Gl X "range") (hm : X.mg "range" = none) (ha : DAB P X b W N [a, a2] (evs ms)) (hs : starEach [a, a2] X.env = [(false, eval a X.env), (false, eval a2 X.env)] := by rfl) (hs2 : starEach [a2] X.env = [(false, eval a2 X.env)] := by rfl) : DI P X c b W N tg (.Call (.Name "range" p) [a, a2] [] pos) (rangeD range2F ms) := by
  refine ⟨pi_weak (pi_range2 hg hm ha.pa hs hs2) ?_⟩
  rintro σ H R ⟨ρ, B, ow, σa, h, rh, rs, hN, q⟩
  refine ⟨ρ, B, ow, σa, h, rh, rs, hN, (IPost.bindL (r := evs ms σa h) (k := fun vs h1 => optL (range2F vs) h1) q).imp ?_⟩
  rintro vs H1 ⟨ρ1, av, h1, e1, rh1, rv1, q1⟩
  obtain ⟨xs, ex, q2⟩ := optL_ok q1
  unfold range2F at ex
  split at ex
  · split at ex
    · rename_i hb
      cases ex
      rw [Bool.and_eq_true] at hb
      obtain ⟨v, w, rfl, g1, g2⟩ := two_of rv1
      obtain ⟨h3, h4⟩ := b62 hb.1
      obtain ⟨h5, h6⟩ := b62 hb.2
      exact ⟨_, _, by rw [rv_int g1, rv_int g2], ⟨h3, h4, h5, h6⟩, q2 ρ1 H1 _ _ e1 rh1 itr_ok s0⟩
    · cases ex
  · cases ex
theorem di_range3 {a2 a3 : Expr} {p : Pos} (hg : Gl X "range") (hm : X.mg "range" = none) (ha : DAB P X b W N [a, a2, a3] (evs ms)) (hs : starEach [a, a2, a3] X.env = (false, eval a X.env) :: starEach [a2, a3] X.env := by rfl) (hpl : (backTo pos (starEach [a2, a3] X.env)).any (·.1) = false := by rfl) :
    DI P X c b W N tg (.Call (.Name "range" p) [a, a2, a3] [] pos) (rangeD range3F ms) := by
  refine ⟨pi_weak (pi_range3 hg hm ha.pa hs hpl) ?_⟩
  rintro σ H R ⟨ρ, B, ow, σa, h, rh, rs, hN, q⟩
  refine ⟨ρ, B, ow, σa, h, rh, rs, hN, (IPost.bindL (r := evs ms σa h) (k := fun vs h1 => optL (range3F vs) h1) q).imp ?_⟩
  rintro vs H1 ⟨ρ1, av, h1, e1, rh1, rv1, q1⟩
  obtain ⟨xs, ex, q2⟩ := optL_ok q1
  unfold range3F at ex
  split at ex
  · split at ex
    · rename_i hb
      cases ex
      rw [Bool.and_eq_true, Bool.and_eq_true] at hb
      obtain ⟨v, t, rfl, g1, w, t2, rfl, g2, z, t3, rfl, g3, rfl⟩ := rv1
      obtain ⟨h3, h4⟩ := b62 hb.1.1
      obtain ⟨h5, h6⟩ := b62 hb.1.2
      have hk := beq_iff_eq.mp hb.2
      subst hk
      exact ⟨_, _, _, _, by rw [rv_int g1, rv_int g2, rv_int g3], RgC.neg h3 h4 h5 h6, q2 ρ1 H1 _ _ e1 rh1 itc_ok s0⟩
    · cases ex
  · cases ex
/-- enumerate of a frozen list -/
theorem frzL_at {ρ : List Addr} {B : Addr → Prop} {ow : List (Nat × Addr)} {H : Hp} {av : AV} {xs : List AV} {v : V} (hK : P.K = X.K) (r : if c = true then RVb P.K ρ (Bo B ow) H av v else RV P.K ρ (Bo B ow) H av v) (e : frzL av = some xs) :
    ∃ p vs S, v = .ref p ∧ (∀ H2, (∀ a, S a → H2 a = H a) → SqL X.K H2 p vs) ∧ RVs P.K ρ (Bo B ow) H xs vs ∧ SOk c b ρ B ow H S := by
  have rb : RVb P.K ρ (Bo B ow) H av v := by
    split at r
    · exact r
    · exact .inl r
  have ok1 : ∀ p, p ∉ ρ → H p ≠ none → (c = false → ¬ Bo B ow p) → SOk c b ρ B ow H (fun a => a = p) := fun p h1 h2 h3 a ha => by
    have ha' : a = p := ha
    subst ha'
    refine ⟨h2, ?_⟩
    split
    · exact .inr h1
    · rename_i hc
      exact ⟨h1, h3 (by simpa using hc)⟩
  cases av with
  | lst ys =>
    cases e
    rcases rb with r' | ⟨p, u, rfl, h1, h2, u', rfl, h3⟩
    · unfold RV at r'
      obtain ⟨p, vs, rfl, g1, g2, g3, g4⟩ := r'
      exact ⟨p, vs, fun a => a = p, rfl, fun H2 hS => .inl (.inl ((rd_S hS).trans g3)), g4, ok1 p g1 (by rw [g3]; simp) fun _ => g2⟩
    · by_cases hc : c = true
      · exact ⟨p, u', fun a => a = p, rfl, fun H2 hS => .inl (.inl ((rd_S hS).trans h2)), h3, ok1 p h1 (by rw [h2]; simp) (fun z => by rw [hc] at z; cases z)⟩
      · rw [if_neg hc] at r
        unfold RV at r
        obtain ⟨p', vs, e1, g1, g2, g3, g4⟩ := r
        cases e1
        exact ⟨p, vs, fun a => a = p, rfl, fun H2 hS => .inl (.inl ((rd_S hS).trans g3)), g4, ok1 p g1 (by rw [g3]; simp) fun _ => g2⟩
  | ro ys =>
    cases e
    rcases rb with r | ⟨_, _, _, _, _, r⟩
    case inr => exact r.elim
    unfold RV at r
    obtain ⟨p, vs, rfl, h1, h2⟩ := r
    rcases h1 with ⟨g1, g2, g3⟩ | h1
    · exact ⟨p, vs, fun a => a = p, rfl, fun H2 hS => .inl (rd_eq g3 (rd_S hS)), h2, ok1 p g1 (rd_ne g3) fun _ => g2⟩
    · exact ⟨p, vs, fun _ => False, rfl, fun H2 hS => .inr (hK ▸ h1), h2, s0⟩
  | non => cases e
  | bl _ => cases e
  | int _ => cases e
  | str _ => cases e
  | tup _ => cases e
  | dct _ => cases e
  | ref _ => cases e
theorem ite_ok {ρ : List Addr} {B : Addr → Prop} {H1 : Hp} {K : PySem.W.Frag} {p : Addr} {xs : List AV} {vs : List V} {S : Addr → Prop} (hq : ∀ H2, (∀ a, S a → H2 a = H1 a) → SqL K H2 p vs) (hv : RVs P.K ρ B H1 xs vs) : ItOk P.K ρ B H1 S (Ite K p) (enumL xs) := by
  intro H2 hS i
  have q := hq H2 hS
  refine ⟨fun hi => ⟨vs, q, by rw [← hv.len]; simpa [enumL] using hi⟩, fun y hy => ?_⟩
  unfold enumL at hy
  rw [List.getElem?_map] at hy
  obtain ⟨pr, h1, rfl⟩ := Option.map_eq_some_iff.mp hy
  obtain ⟨x, k⟩ := pr
  obtain ⟨h2, h3⟩ := List.getElem?_eq_some_iff.mp h1
  have h4 : xs[i]? = some x ∧ k = i := by
    rw [List.getElem_zipIdx] at h3
    cases h3
    exact ⟨List.getElem?_eq_getElem _, by omega⟩
  obtain ⟨h4, rfl⟩ := h4
  obtain ⟨v, h5, h6⟩ := hv.get h4
  refine ⟨⟨vs, v, q, h5⟩, fun z H3 hz => ?_⟩
  obtain ⟨T, w, rfl, hT, rfl, g⟩ := hz
  have g' := g vs q
  rw [h5] at g'
  cases g'
  exact .inr ⟨T, _, _, rfl, rfl, hT, rfl, .cons mk_int (.cons h6 .nil)⟩
theorem di_enum {p tpos : Pos} {elts : List Expr} {kk : Nat} (hK : P.K = X.K) (hg : Gl X "enumerate") (hm : X.mg "enumerate" = none) (he : DE P X b W N e ma) (hs : starEach [e] X.env = [(false, eval e X.env)] := by rfl) (hs1 : starEach (e :: []) X.env = (false, eval e X.env) :: starEach [] X.env := by rfl) :
    DI P X false b W N (.Tuple elts kk tpos) (.Call (.Name "enumerate" p) [e] [] pos) (enumD ma) := by
  refine ⟨pi_weak (pi_enum hg hm (pa_cons he.pe pa_nil hs1) hs) ?_⟩
  rintro σ H R ⟨ρ, B, ow, σa, h, rh, rs, hN, q⟩
  refine ⟨ρ, B, ow, σa, h, rh, rs, hN, (IPost.bindE q).imp ?_⟩
  rintro v H1 ⟨ρ1, av, h1, e1, rh1, rv1, q1⟩
  obtain ⟨xs, ex, q2⟩ := optL_ok q1
  obtain ⟨ys, ey, rfl⟩ := Option.map_eq_some_iff.mp ex
  obtain ⟨p1, vs, S, rfl, hq, hv, hs⟩ := frzL_at (c := false) (b := b) (X := X) (P := P) hK (by rw [if_neg (by decide)]; exact rv1) ey
  exact ⟨p1, vs, rfl, hq H1 fun _ _ => rfl, q2 ρ1 H1 _ S e1 rh1 (ite_ok hq hv) hs⟩
theorem di_enumC {p tpos : Pos} {elts : List Expr} {kk : Nat} (hK : P.K = X.K) (hg : Gl X "enumerate") (hm : X.mg "enumerate" = none) (he : DB P X b W N e ma) (hs : starEach [e] X.env = [(false, eval e X.env)] := by rfl) (hs1 : starEach (e :: []) X.env = (false, eval e X.env) :: starEach [] X.env := by rfl) :
    DI P X true b W N (.Tuple elts kk tpos) (.Call (.Name "enumerate" p) [e] [] pos) (enumD ma) := by
  refine ⟨pi_weak (pi_enum hg hm (pa_cons he.pe pa_nil hs1) hs) ?_⟩
  rintro σ H R ⟨ρ, B, ow, σa, h, rh, rs, hN, q⟩
  refine ⟨ρ, B, ow, σa, h, rh, rs, hN, (IPost.bindB q).imp ?_⟩
  rintro v H1 ⟨ρ1, av, h1, e1, rh1, rv1, q1⟩
  obtain ⟨xs, ex, q2⟩ := optL_ok q1
  obtain ⟨ys, ey, rfl⟩ := Option.map_eq_some_iff.mp ex
  obtain ⟨p1, vs, S, rfl, hq, hv, hs⟩ := frzL_at (c := true) (b := b) (X := X) (P := P) hK (by rw [if_pos rfl]; exact rv1) ey
  exact ⟨p1, vs, rfl, hq H1 fun _ _ => rfl, q2 ρ1 H1 _ S e1 rh1 (ite_ok hq hv) hs⟩
end

theorem wipe_set {σ : St} {i : Nat} {x : Option V} : ∀ {vs : List Nat}, i ∈ vs → wipe (σ.set i x) vs = wipe σ vs
  | [], h => by cases h
  | v :: vs, h => by
    have key : ∀ vs : List Nat, i ∉ vs → wipe (σ.set i x) vs = (wipe σ vs).set i x := fun vs => by
      induction vs with
      | nil => intro _; rfl
      | cons w ws ih =>
        intro h
        have hw : w ≠ i := fun z => h (by rw [z]; exact List.mem_cons_self)
        show (wipe (σ.set i x) ws).set w none = ((wipe σ ws).set w none).set i x
        rw [ih (fun z => h (List.mem_cons_of_mem _ z)), List.set_comm _ _ hw.symm]
    show (wipe (σ.set i x) vs).set v none = (wipe σ vs).set v none
    by_cases hv : i ∈ vs
    · rw [wipe_set hv]
    · have : i = v := by
        rcases List.mem_cons.mp h with h | h
        · exact h
        · exact absurd h hv
      subst this
      rw [key vs hv, List.set_set]
/-- vs: the slots that the target may change -/
def tDG (P : Pm) (N vs : List Nat) (t : TGT) : TG := fun v σ H Q =>
  ∃ ρ B ow σa av h, RH P ρ (Bo B ow) H h ∧ RS P ρ B ow H σa σ ∧ ow.map (·.1) = N ∧ RV P.K ρ (Bo B ow) H av v ∧
    match t av σa with
    | some σa' => ∀ σ', RS P ρ B ow H σa' σ' → wipe σ' vs = wipe σ vs → Q σ' H
    | none => False
def tDGs (P : Pm) (N vs : List Nat) (ts : List TGT) : TGs := fun us σ H Q =>
  ∃ ρ B ow σa avs h, RH P ρ (Bo B ow) H h ∧ RS P ρ B ow H σa σ ∧ ow.map (·.1) = N ∧ RVs P.K ρ (Bo B ow) H avs us ∧
    match tupTs ts avs σa with
    | some σa' => ∀ σ', RS P ρ B ow H σa' σ' → wipe σ' vs = wipe σ vs → Q σ' H
    | none => False
structure DG (P : Pm) (X : Cx) (N vs : List Nat) (tg : Expr) (t : TGT) : Prop where
  pg : PG X tg (tDG P N vs t)
structure DGs (P : Pm) (X : Cx) (N vs : List Nat) (tgs : List Expr) (ts : List TGT) : Prop where
  pg : PGs X tgs (tDGs P N vs ts)
section
variable {P : Pm} {X : Cx} {N vs : List Nat} {pos : Pos} {tg : Expr} {tgs : List Expr} {t : TGT} {ts : List TGT}
theorem pg_weak {g g' : TG} (h : PG X tg g) (w : ∀ v σ H Q, g' v σ H Q → g v σ H Q) : PG X tg g' := ⟨fun pins s σ H v u Q I r q => h.run pins s σ H v u Q I r (w v σ H Q q)⟩
theorem pgs_weak {g g' : TGs} (h : PGs X tgs g) (w : ∀ v σ H Q, g' v σ H Q → g v σ H Q) : PGs X tgs g' := ⟨fun pins s σ H v u Q I r q => h.run pins s σ H v u Q I r (w v σ H Q q)⟩
theorem dg_name (i : Nat) {x : Str} (hN : X.N.Nodup) (hi : X.N[i]? = some x := by rfl) (hx : L2.Loc X.env.scope x := by first | exact Or.inl rfl | exact Or.inr rfl) (hn : i ∉ N := by decide) (hv : i ∈ vs := by decide) (hf : X.fn x = true ∨ X.env.scope.names.lookup x = some .local := by first | exact .inl rfl | exact .inr rfl | assumption) : DG P X N vs (.Name x pos) (nameT i) := by
  refine ⟨pg_weak (pg_name hN hi hx hf) ?_⟩
  rintro v σ H Q ⟨ρ, B, ow, σa, av, h, rh, rs, rfl, rv, q⟩
  exact q _ (rs.set hn rv) (wipe_set hv)
theorem dgs_nil : DGs P X N vs [] [] := by
  refine ⟨pgs_weak pgs_nil ?_⟩
  rintro us σ H Q ⟨ρ, B, ow, σa, avs, h, rh, rs, rfl, rv, q⟩
  cases avs with
  | nil => unfold RVs at rv; exact ⟨rv, q σ rs rfl⟩
  | cons x r => exact q.elim
theorem dgs_cons (h1 : DG P X N vs tg t) (h2 : DGs P X N vs tgs ts) (hs : (assignEach (tg :: tgs) X.env).map (·.2) = assign tg X.env :: (assignEach tgs X.env).map (·.2) := by rfl) : DGs P X N vs (tg :: tgs) (t :: ts) := by
  refine ⟨pgs_weak (pgs_cons h1.pg h2.pg hs) ?_⟩
  rintro us σ H Q ⟨ρ, B, ow, σa, avs, h, rh, rs, hN, rv, q⟩
  cases avs with
  | nil => exact q.elim
  | cons x r =>
    unfold RVs at rv
    obtain ⟨v, t', rfl, g1, g2⟩ := rv
    refine ⟨v, t', rfl, ρ, B, ow, σa, x, h, rh, rs, hN, g1, ?_⟩
    have q' : (match (t x σa).bind fun σ1 => tupTs ts r σ1 with
      | some σa' => ∀ σ', RS P ρ B ow H σa' σ' → wipe σ' vs = wipe σ vs → Q σ' H
      | none => False) := q
    cases e : t x σa with
    | none => rw [e] at q'; exact q'
    | some σ1 =>
      rw [e] at q'
      intro σ' rs' w
      refine ⟨ρ, B, ow, σ1, r, h, rh, rs', hN, g2, ?_⟩
      have q2 : (match tupTs ts r σ1 with
        | some σa' => ∀ σ', RS P ρ B ow H σa' σ' → wipe σ' vs = wipe σ vs → Q σ' H
        | none => False) := q'
      cases e2 : tupTs ts r σ1 with
      | none => rw [e2] at q2; exact q2
      | some σ2 => rw [e2] at q2; exact fun σ3 rs3 w3 => q2 σ3 rs3 (w3.trans w)
theorem tupTs_len : ∀ {ts : List TGT} {xs : List AV} {σ σ' : AS}, tupTs ts xs σ = some σ' → xs.length = ts.length
  | [], [], _, _, _ => rfl
  | [], _ :: _, _, _, e => by cases e
  | _ :: _, [], _, _, e => by cases e
  | t :: ts, x :: xs, σ, σ', e => by
    have e' : ((t x σ).bind fun σ1 => tupTs ts xs σ1) = some σ' := e
    obtain ⟨σ1, _, e2⟩ := Option.bind_eq_some_iff.mp e'
    simp [tupTs_len e2]
theorem dg_tup {k : Nat} (hc : X.calm = true) (hK : P.K = X.K) (h : DGs P X N vs tgs ts) (hn : (assignEach tgs X.env).length = ts.length := by rfl) (hst : (assignEach tgs X.env).findIdx? (·.1) = none := by rfl) : DG P X N vs (.Tuple tgs k pos) (tupT ts) := by
  refine ⟨pg_weak (pg_tup hc h.pg hn hst) ?_⟩
  rintro v σ H Q ⟨ρ, B, ow, σa, av, h, rh, rs, hN, rv, q⟩
  unfold tupT at q
  cases av with
  | tup xs =>
    obtain ⟨p, us, rfl, h1, h2⟩ := rv_tup (.inl rv)
    have hl : xs.length = ts.length := by
      cases e : tupTs ts xs σa with
      | none => simp only [e] at q
      | some σ1 => exact tupTs_len e
    exact ⟨p, us, rfl, hK ▸ h1, by rw [← h2.len]; exact hl, ρ, B, ow, σa, xs, h, rh, rs, hN, h2, q⟩
  | non => exact q.elim
  | bl _ => exact q.elim
  | int _ => exact q.elim
  | str _ => exact q.elim
  | lst _ => exact q.elim
  | dct _ => exact q.elim
  | ref _ => exact q.elim
  | ro _ => exact q.elim
end
end D
end

section
namespace D
open PySem L2

section
variable {P : Pm} {X : Cx} {b : Bool} {W : WX} {N Nb Nx N' N1 : List Nat} {e a c o i d tg : Expr} {es : List Expr} {pos : Pos} {ma mb mc mo mi : EV} {ms : List EV} {st : Stmt} {sts sts' : List Stmt} {m m1 m2 : SV} {t : TGT} {it : LV} {vs : List Nat}

theorem RH.extNew {ρ : List Addr} {B : Addr → Prop} {H : Hp} {h : AH} {T : Addr} {u : HO} (r : RH P ρ B H h) (hT : H T = none) : RH P ρ B (upd H T u) h := r.frz hT
/-- an item of a walk, in the loop's state -/
theorem yld_at {ρ ρ1 : List Addr} {B : Addr → Prop} {ow ow1 : List (Nat × Addr)} {H H1 H3 : Hp} {h : AH} {σa : AS} {σ : St} {y : AV} {x : V} (e : ExtS b ρ1 ow1 H1 ρ ow H) (rh : RH P ρ (Bo B ow) H h) (rs : RS P ρ B ow H σa σ)
    (q : Yld P.K ρ1 (Bo B ow1) H1 H y x H3) : Ext b ρ H ρ H3 ∧ RH P ρ (Bo B ow) H3 h ∧ RS P ρ B ow H3 σa σ ∧ RV P.K ρ (Bo B ow) H3 y x := by
  rcases q with ⟨rfl, rv⟩ | ⟨T, ys, vs, rfl, rfl, hT, rfl, rv⟩
  · exact ⟨Ext.refl _ _ _, rh, rs, rv.extS e y⟩
  · have ee : Ext b ρ H ρ (upd H T (.tup vs)) := Ext.new hT
    exact ⟨ee, rh.frz hT, rs.ext ee, new_tup rh hT (rv.extS e ys)⟩
theorem forL_drop {ρ : List Addr} {B : Addr → Prop} {ow : List (Nat × Addr)} {H : Hp} {D : Ends} {xs : List AV} {i : Nat} {x : AV} {σa : AS} {h : AH} (hx : xs[i]? = some x) (q : SPost P b W Nb Nx N' ρ B ow H D (forL t m (xs.drop i) σa h)) :
    ∃ σ1, t x σa = some σ1 ∧ SPost P b W Nb Nx N' ρ B ow H D (match m σ1 h with
      | .nx σ2 h2 => forL t m (xs.drop (i + 1)) σ2 h2
      | .ct σ2 h2 => forL t m (xs.drop (i + 1)) σ2 h2
      | .bk σ2 h2 => .nx σ2 h2
      | .rt v h2 => .rt v h2
      | .exc c f σ2 h2 => .exc c f σ2 h2
      | .stuck => .stuck) := by
  obtain ⟨hi, g⟩ := List.getElem?_eq_some_iff.mp hx
  rw [List.drop_eq_getElem_cons hi, g] at q
  have q' : SPost P b W Nb Nx N' ρ B ow H D (match t x σa with
    | none => .stuck
    | some σ1 => match m σ1 h with
      | .nx σ2 h2 => forL t m (xs.drop (i + 1)) σ2 h2
      | .ct σ2 h2 => forL t m (xs.drop (i + 1)) σ2 h2
      | .bk σ2 h2 => .nx σ2 h2
      | .rt v h2 => .rt v h2
      | .exc c f σ2 h2 => .exc c f σ2 h2
      | .stuck => .stuck) := q
  cases et : t x σa with
  | none => rw [et] at q'; exact q'.elim
  | some σ1 => rw [et] at q'; exact ⟨σ1, rfl, q'⟩
theorem for_weak (hx : Kept N Nx) : ∀ D σ H, tDS P b W N Nb Nx N (forS t it m) D σ H → tFor (tDI P false b W N it) (tDG P N vs t) (tDS P b W N N Nx N m) D σ H := by
  rintro D σ H ⟨ρ, B, ow, σa, h, rh, rs, hN, q⟩
  refine ⟨ρ, B, ow, σa, h, rh, rs, hN, ?_⟩
  unfold forS at q
  cases g : it σa h with
  | stuck => rw [g] at q; exact q
  | exc c x h' => rw [g] at q; exact exc_restrict rs (by rw [hN]; exact hx) q
  | ok xs h1 =>
    rw [g] at q
    have q : SPost P b W Nb Nx N ρ B ow H D (forL t m xs σa h1) := q
    intro ρ1 H1 J S e1 rh1 hi hs
    refine ⟨fun i mm σ' H' => mm = xs.length - i ∧ i ≤ xs.length ∧ ∃ ρ' ow' σa' h', ExtS b ρ1 ow H1 ρ' ow' H' ∧ RH P ρ' (Bo B ow') H' h' ∧ RS P ρ' B ow' H' σa' σ' ∧ ow'.map (·.1) = N ∧ SPost P b W Nb Nx N ρ' B ow' H' D (forL t m (xs.drop i) σa' h'), ⟨xs.length, by simp, Nat.zero_le _, ρ1, ow, σa, h1, ExtS.refl, rh1, rs.ext e1, hN, SPost.ext q (ExtS.of e1)⟩, ?_⟩
    rintro i mm σ' H' ⟨rfl, hle, ρ', ow', σa', h', e2, rh2, rs2, hN2, q2⟩
    have hS : ∀ a, S a → H' a = H1 a := fun a ha => by
      obtain ⟨s1, s2⟩ := hs a ha
      rw [if_neg (by decide)] at s2
      cases z : H1 a with
      | none => exact absurd z s1
      | some o => exact e2.keep a o (.inr s2.1) (fun w => s2.2 (.inr w)) z
    obtain ⟨hstop, hgo⟩ := hi H' hS i
    by_cases hlt : i < xs.length
    · have hxi : xs[i]? = some xs[i] := List.getElem?_eq_getElem hlt
      obtain ⟨go, yl⟩ := hgo _ hxi
      refine .inr ⟨go, fun σ'' H'' => xs.length - (i + 1) = xs.length - (i + 1) ∧ i + 1 ≤ xs.length ∧ ∃ ρ' ow' σa' h', ExtS b ρ1 ow H1 ρ' ow' H'' ∧ RH P ρ' (Bo B ow') H'' h' ∧ RS P ρ' B ow' H'' σa' σ'' ∧ ow'.map (·.1) = N ∧ SPost P b W Nb Nx N ρ' B ow' H'' D (forL t m (xs.drop (i + 1)) σa' h'), fun σ'' H'' z => ⟨_, by omega, z⟩, fun x H3 hy => ?_⟩
      obtain ⟨ee, rh3, rs3, rv3⟩ := yld_at e2 rh2 rs2 (yl x H3 hy)
      obtain ⟨σ1, et, q3⟩ := forL_drop hxi q2
      refine ⟨ρ', B, ow', σa', xs[i], h', rh3, rs3, hN2, rv3, ?_⟩
      rw [et]
      intro σ4 rs4 _
      refine ⟨ρ', B, ow', σ1, h', rh3, rs4, hN2, ?_⟩
      have q4 := SPost.ext q3 (ExtS.of ee)
      cases gm : m σ1 h' with
      | nx σ2 h2 =>
        rw [gm] at q4
        exact fun ρ5 ow5 H5 σ5 e5 rh5 rs5 hN5 => ⟨rfl, hlt, ρ5, ow5, σ2, h2, e2.trans ((ExtS.of ee).trans e5), rh5, rs5, hN5, SPost.ext q4 e5⟩
      | ct σ2 h2 =>
        rw [gm] at q4
        exact fun ρ5 ow5 H5 σ5 e5 rh5 rs5 hN5 => ⟨rfl, hlt, ρ5, ow5, σ2, h2, e2.trans ((ExtS.of ee).trans e5), rh5, rs5, hN5, SPost.ext q4 e5⟩
      | bk σ2 h2 =>
        rw [gm] at q4
        exact q4
      | rt v h2 => rw [gm] at q4; exact q4
      | exc c f σ2 h2 => rw [gm] at q4; exact q4
      | stuck => rw [gm] at q4; exact q4
    · have e : i = xs.length := by omega
      refine .inl ⟨hstop (by omega), ?_⟩
      rw [e, List.drop_length] at q2
      exact q2 ρ' ow' H' σ' ExtS.refl rh2 rs2 hN2
theorem ds_for {iter : Expr} {body : List Stmt} (hp : PassesOwn (model X.prog X.w) X.A X.env X.xe) (hc : X.calm = true) (hi : DI P X false b W N tg iter it) (hg : DG P X N vs tg t) (hb : DSs P X b W N N Nx N body m) (hx : Kept N Nx := by decide) (hs : ∀ x, foldedSetIterable iter X.env x = pure x := by intro _; rfl) :
    DS P X b W N Nb Nx N (.For tg iter body [] pos) (forS t it m) :=
  ⟨ps_weak (ps_for hp hc hi.pi hg.pg hb.ps hs) (for_weak hx)⟩

theorem while_weak (hx : Kept N Nx) {k : Nat} : ∀ D σ H, tDS P b W N Nb Nx N (whileS k mc m) D σ H → tWhile (tDT P b W N mc) (tDS P b W N N Nx N m) D σ H := by
  rintro D σ H ⟨ρ, B, ow, σa, h, rh, rs, hN, q⟩
  refine ⟨fun k σ H => ∃ ρ ow σa h, RH P ρ (Bo B ow) H h ∧ RS P ρ B ow H σa σ ∧ ow.map (·.1) = N ∧ SPost P b W Nb Nx N ρ B ow H D (whileS k mc m σa h), ⟨k, ρ, ow, σa, h, rh, rs, hN, q⟩, ?_⟩
  clear q rh rs hN
  rintro k σ H ⟨ρ, ow, σa, h, rh, rs, hN, q⟩
  cases k with
  | zero => exact q.elim
  | succ k =>
    refine ⟨ρ, B, ow, σa, h, rh, rs, hN, (tstS_post rs hN hx q).imp ?_⟩
    rintro c H1 ⟨ρ1, h1, e1, rh1, q1⟩
    cases c with
    | true =>
      rw [if_pos rfl] at q1 ⊢
      refine ⟨_, fun σ' H' z => ⟨k, Nat.lt_succ_self _, z⟩, ρ1, B, ow, σa, h1, rh1, rs.ext e1, hN, ?_⟩
      cases g : m σa h1 with
      | nx σ2 h2 =>
        rw [g] at q1
        exact fun ρ' ow' H' σ' e' rh' rs' hN' => ⟨ρ', ow', σ2, h2, rh', rs', hN', SPost.ext q1 e'⟩
      | ct σ2 h2 =>
        rw [g] at q1
        exact fun ρ' ow' H' σ' e' rh' rs' hN' => ⟨ρ', ow', σ2, h2, rh', rs', hN', SPost.ext q1 e'⟩
      | bk σ2 h2 => rw [g] at q1; exact q1
      | rt v h2 => rw [g] at q1; exact q1
      | exc c f σ2 h2 => rw [g] at q1; exact q1
      | stuck => rw [g] at q1; exact q1
    | false =>
      rw [if_neg Bool.false_ne_true] at q1 ⊢
      exact q1 ρ1 ow H1 σ ExtS.refl rh1 (rs.ext e1) hN
theorem ds_while (k : Nat) {body : List Stmt} (hp : PassesOwn (model X.prog X.w) X.A X.env X.xe) (hc : DT P X b W N c mc) (hb : DSs P X b W N N Nx N body m) (hx : Kept N Nx := by decide) : DS P X b W N Nb Nx N (.While c body [] pos) (whileS k mc m) :=
  ⟨ps_weak (ps_while hp hc.pt hb.ps) (while_weak hx)⟩

def VIp (P : Pm) (b : Bool) (f : AV → AV → AH → ER) (r : TIp) : Prop := ∀ (W : WX) ρ B σ H av bv h x y Q, RH P ρ B H h → RV P.K ρ B H av x → RVb P.K ρ B H bv y → EPost P b W ρ B σ H Q (f av bv h) → r x y H Q
theorem SPost.toE {ρ : List Addr} {B : Addr → Prop} {ow : List (Nat × Addr)} {σa : AS} {σ : St} {H : Hp} {D : Ends} {r : ER} {k : AV → AH → SR} (rs : RS P ρ B ow H σa σ) (hN : ow.map (·.1) = N) (hx : Kept N Nx)
    (q : SPost P b W Nb Nx N' ρ B ow H D (r.toS σa k)) :
    EPost P b W ρ (Bo B ow) σ H (fun v H1 => ∃ ρ1 av h1, Ext b ρ H ρ1 H1 ∧ RH P ρ1 (Bo B ow) H1 h1 ∧ RV P.K ρ1 (Bo B ow) H1 av v ∧ SPost P b W Nb Nx N' ρ1 B ow H1 D (k av h1)) r := toS_post rs hN hx q
theorem ds_aug {j : Nat} {x : Str} {op : Operator} {ti : TIp} {f : AV → AV → AH → ER} {pos' : Pos} (hn : X.N.Nodup) (hj : X.N[j]? = some x) (hx' : Loc X.env.scope x) (he : DB P X b W N e ma) (ho : PIp X op ti) (hv : VIp P b f ti) (hNj : j ∉ N := by decide) (hx : Kept N Nx := by decide)
    (hf : X.fn x = true ∨ X.env.scope.names.lookup x = some .local := by first | exact .inl rfl | exact .inr rfl | assumption) : DS P X b W N Nb Nx N (.AugAssign (.Name x pos') op e pos) (augS j f ma) := by
  refine ⟨ps_weak (ps_aug hn hj hx' he.pe ho hf) ?_⟩
  rintro D σ H ⟨ρ, B, ow, σa, h, rh, rs, rfl, q⟩
  unfold augS at q
  split at q
  · rename_i av hav
    obtain ⟨v, h1, h2⟩ := rs.val j av hav hNj
    refine ⟨v, h1, ρ, B, ow, σa, h, rh, rs, rfl, (toS_postB rs rfl hx q).imp ?_⟩
    rintro y H1 ⟨ρ1, bv, h3, e1, rh1, rv1, q1⟩
    refine hv W ρ1 (Bo B ow) σ H1 av bv h3 v y _ rh1 (h2.ext e1 av) rv1 ((toS_post (rs.ext e1) rfl hx q1).imp ?_)
    rintro z H2 ⟨ρ2, cv, h4, e2, rh2, rv2, q2⟩
    exact q2 ρ2 ow H2 _ ExtS.refl rh2 (((rs.ext e1).ext e2).set hNj rv2) rfl
  · exact q.elim
theorem vip_add : VIp P b iaddV (ipI fun i j => i + j) := by
  intro W ρ B σ H av bv h x y Q rh r1 r2 q
  unfold iaddV at q
  split at q
  · exact ⟨_, _, rv_int (.inl r1), rv_int r2, ok_post q rh mk_int⟩
  · exact q.elim
theorem vip_sub : VIp P b subV (ipI fun i j => i - j) := by
  intro W ρ B σ H av bv h x y Q rh r1 r2 q
  unfold subV at q
  split at q
  · exact ⟨_, _, rv_int (.inl r1), rv_int r2, ok_post q rh mk_int⟩
  · exact q.elim
theorem ds_asg (hc : X.calm = true) (he : DE P X b W N e ma) (hg : DG P X N vs tg t) (hx : Kept N Nx := by decide) (hs : swapsWithSole [tg] e pos.line X.env = pure false := by rfl) (hw : swappedStores [tg] e X.env = pure none := by rfl)
    (h1 : (assignEach [tg] X.env).map (·.2) = [assign tg X.env] := by rfl) : DS P X b W N Nb Nx N (.Assign [tg] e pos) (asgS t ma) := by
  refine ⟨ps_weak (ps_asg he.pe hg.pg hs hw h1) ?_⟩
  rintro D σ H ⟨ρ, B, ow, σa, h, rh, rs, rfl, q⟩
  refine ⟨ρ, B, ow, σa, h, rh, rs, rfl, (toS_post rs rfl hx q).imp ?_⟩
  rintro v H1 ⟨ρ1, av, h1, e1, rh1, rv1, q1⟩
  refine ⟨ρ1, B, ow, σa, av, h1, rh1, rs.ext e1, rfl, rv1, ?_⟩
  cases g : t av σa with
  | none => rw [g] at q1; exact q1
  | some σ1 =>
    rw [g] at q1
    exact fun σ' rs' _ => q1 ρ1 ow H1 σ' ExtS.refl rh1 rs' rfl
end
end D
end

section
namespace D
open PySem L2

section
variable {P : Pm} {K : PySem.W.Frag} {ρ : List Addr} {B B' : Addr → Prop} {H H' : Hp} {ow : List (Nat × Addr)} {σa : AS} {σ : St} {h : AH} {D : Addr}
/-- the rest is as it was -/
structure Off (D : Addr) (H H' : Hp) : Prop where
  keep : ∀ a o, a ≠ D → H a = some o → H' a = some o
  live : ∀ a, H a ≠ none → H' a ≠ none
theorem Off.ext {b : Bool} (f : Off D H H') : ExtS b ρ [(0, D)] H ρ [(0, D)] H' := ⟨⟨[], by simp, by simp⟩, fun a o _ h1 h2 => f.keep a o (fun z => h1 (by rw [z]; simp)) h2, f.live, fun _ h => .inl h⟩
theorem Off.upd {u : HO} : Off D H (upd H D u) := ⟨fun a o h1 h2 => by rw [upd_ne h1]; exact h2, fun a h => by
  by_cases z : a = D
  · subst z; rw [upd_same]; simp
  · rw [upd_ne z]; exact h⟩
theorem bo_in (hD : B D) : ∀ a, Bo B [(0, D)] a → B a := fun a z => by
  rcases z with z | z
  · exact z
  · have : a = D := by simpa using z
    rw [this]; exact hD
theorem bo_up : ∀ a, B a → Bo B [(0, D)] a := fun a z => .inl z
theorem RV.off (hD : B D) (f : Off D H H') {x : AV} {v : V} (r : RV K ρ B H x v) : RV K ρ B H' x v := (RV.extS (Off.ext (b := true) f) x (r.anti (bo_in hD) x)).anti bo_up x
theorem RVs.off (hD : B D) (f : Off D H H') {x : List AV} {v : List V} (r : RVs K ρ B H x v) : RVs K ρ B H' x v := (RVs.extS (Off.ext (b := true) f) x (r.anti (bo_in hD) x)).anti bo_up x
theorem RKs.off (hD : B D) (f : Off D H H') {x : List (AV × AV)} {v : List (Key × V)} (r : RKs K ρ B H x v) : RKs K ρ B H' x v := (RKs.extS (Off.ext (b := true) f) x (r.anti (bo_in hD) x)).anti bo_up x
theorem RFs.off (hD : B D) (f : Off D H H') {x : List (Str × AV)} {v : List (Str × V)} (r : RFs K ρ B H x v) : RFs K ρ B H' x v := (RFs.extS (Off.ext (b := true) f) x (r.anti (bo_in hD) x)).anti bo_up x
theorem OV.off (hD : B D) (f : Off D H H') : ∀ {x : AV} {v : HO}, OV K ρ B H x v → OV K ρ B H' x v
  | .lst xs, _, ⟨vs, h1, h2⟩ => ⟨vs, h1, h2.off hD f⟩
  | .dct xs, _, ⟨vs, h1, h2⟩ => ⟨vs, h1, h2.off hD f⟩
theorem RO.off (hD : B D) (f : Off D H H') : ∀ {x : AO} {v : HO}, RO P ρ B H x v → RO P ρ B H' x v
  | .lst xs, _, ⟨vs, h1, h2⟩ => ⟨vs, h1, h2.off hD f⟩
  | .dct xs, _, ⟨vs, h1, h2⟩ => ⟨vs, h1, h2.off hD f⟩
  | .ins c fs, _, ⟨dx, us, h1, h2⟩ => ⟨dx, us, h1, h2.off hD f⟩
theorem RH.off (hD : B D) (f : Off D H H') (r : RH P ρ B H h) : RH P ρ B H' h := by
  refine ⟨r.len, r.nd, r.out, fun a ha => f.live a (r.lvB a ha), fun i o e => ?_⟩
  obtain ⟨a, u, h1, h2, h3⟩ := r.obj i o e
  exact ⟨a, u, h1, f.keep a u (fun z => r.out a (List.mem_of_getElem? h1) (by rw [z]; exact hD)) h2, h3.off hD f⟩
theorem RS.off (hD : B D) (f : Off D H H') (r : RS P ρ B ow H σa σ) : RS P ρ B ow H' σa σ := by
  have hD' : Bo B ow D := .inl hD
  refine ⟨r.len, r.nd1, r.nd2, r.out, fun i av h1 h2 => ?_, fun p hp => ?_⟩
  · obtain ⟨v, h3, h4⟩ := r.val i av h1 h2
    exact ⟨v, h3, h4.off hD' f⟩
  · obtain ⟨av, u, h1, h2, h3, h4⟩ := r.own p hp
    exact ⟨av, u, h1, h2, f.keep _ _ (fun z => (r.out p hp).2 (by rw [z]; exact hD)) h3, h4.off hD' f⟩

theorem RV.fgn {u : HO} (hp : H D = none) {x : AV} {v : V} (r : RV K ρ (Bo B ow) H x v) : RV K ρ (Bo (fun a => B a ∨ a = D) ow) (upd H D u) x v := by
  have e : ExtS true ρ [] H ρ [(0, D)] (upd H D u) := ⟨⟨[], by simp, by simp⟩, fun c o _ _ k => by rw [upd_ne (ne_of_none k hp)]; exact k, (Ext.new (b := true) (ρ := ρ) (o := u) hp).live, fun c hc => .inr (by
    have : c = D := by simpa using hc
    rw [this]; exact hp)⟩
  have r1 : RV K ρ (Bo (Bo B ow) []) H x v := r.anti (fun a z => by
    rcases z with z | z
    · exact z
    · simp at z) x
  refine (RV.extS e x r1).anti (fun a z => ?_) x
  rcases z with (z | z) | z
  · exact .inl (.inl z)
  · exact .inr (by simp [z])
  · exact .inl (.inr z)
end
theorem fgn_ext {b : Bool} {ρ : List Addr} {H : Hp} {D : Addr} {u : HO} (hp : H D = none) : ExtS b ρ [] H ρ [(0, D)] (upd H D u) :=
  ⟨⟨[], by simp, by simp⟩, fun c o _ _ k => by rw [upd_ne (ne_of_none k hp)]; exact k, (Ext.new (b := true) (ρ := ρ) (o := u) hp).live, fun c hc => .inr (by
    have : c = D := by simpa using hc
    rw [this]; exact hp)⟩
abbrev plus (B : Addr → Prop) (D : Addr) : Addr → Prop := fun a => B a ∨ a = D
section
variable {P : Pm} {K : PySem.W.Frag} {ρ : List Addr} {B B' : Addr → Prop} {H H' : Hp} {ow : List (Nat × Addr)} {σa : AS} {σ : St} {h : AH} {D : Addr} {u : HO}
theorem bo_plus : ∀ a, Bo (plus B D) ow a → Bo (Bo B ow) [(0, D)] a := fun a z => by
  rcases z with (z | z) | z
  · exact .inl (.inl z)
  · exact .inr (by simp [z])
  · exact .inl (.inr z)
theorem bo_minus : ∀ a, Bo B ow a → Bo (plus B D) ow a := fun a z => by
  rcases z with z | z
  · exact .inl (.inl z)
  · exact .inr z
theorem bo_nil : ∀ a, Bo (Bo B ow) [] a → Bo B ow a := fun a z => by
  rcases z with z | z
  · exact z
  · simp at z
theorem RVs.fgn (hp : H D = none) {x : List AV} {v : List V} (r : RVs K ρ (Bo B ow) H x v) : RVs K ρ (Bo (plus B D) ow) (upd H D u) x v := (RVs.extS (fgn_ext (b := true) hp) x (r.anti bo_nil x)).anti bo_plus x
theorem RKs.fgn (hp : H D = none) {x : List (AV × AV)} {v : List (Key × V)} (r : RKs K ρ (Bo B ow) H x v) : RKs K ρ (Bo (plus B D) ow) (upd H D u) x v := (RKs.extS (fgn_ext (b := true) hp) x (r.anti bo_nil x)).anti bo_plus x
theorem RFs.fgn (hp : H D = none) {x : List (Str × AV)} {v : List (Str × V)} (r : RFs K ρ (Bo B ow) H x v) : RFs K ρ (Bo (plus B D) ow) (upd H D u) x v := (RFs.extS (fgn_ext (b := true) hp) x (r.anti bo_nil x)).anti bo_plus x
theorem OV.fgn (hp : H D = none) : ∀ {x : AV} {v : HO}, OV K ρ (Bo B ow) H x v → OV K ρ (Bo (plus B D) ow) (upd H D u) x v
  | .lst xs, _, ⟨vs, h1, h2⟩ => ⟨vs, h1, h2.fgn hp⟩
  | .dct xs, _, ⟨vs, h1, h2⟩ => ⟨vs, h1, h2.fgn hp⟩
theorem RO.fgn (hp : H D = none) : ∀ {x : AO} {v : HO}, RO P ρ (Bo B ow) H x v → RO P ρ (Bo (plus B D) ow) (upd H D u) x v
  | .lst xs, _, ⟨vs, h1, h2⟩ => ⟨vs, h1, h2.fgn hp⟩
  | .dct xs, _, ⟨vs, h1, h2⟩ => ⟨vs, h1, h2.fgn hp⟩
  | .ins c fs, _, ⟨dx, us, h1, h2⟩ => ⟨dx, us, h1, h2.fgn hp⟩
theorem RH.fgn (hp : H D = none) (r : RH P ρ (Bo B ow) H h) : RH P ρ (Bo (plus B D) ow) (upd H D u) h := by
  have nr : ∀ a ∈ ρ, a ≠ D := fun a ha z => r.lvR a ha (by rw [z]; exact hp)
  refine ⟨r.len, r.nd, fun a ha z => ?_, fun a z => ?_, fun i o e => ?_⟩
  · rcases z with (z | z) | z
    · exact r.out a ha (.inl z)
    · exact nr a ha z
    · exact r.out a ha (.inr z)
  · by_cases q : a = D
    · subst q; rw [upd_same]; simp
    · rw [upd_ne q]
      rcases z with (z | z) | z
      · exact r.lvB a (.inl z)
      · exact absurd z q
      · exact r.lvB a (.inr z)
  · obtain ⟨a, w, h1, h2, h3⟩ := r.obj i o e
    exact ⟨a, w, h1, by rw [upd_ne (nr a (List.mem_of_getElem? h1))]; exact h2, h3.fgn hp⟩
theorem RS.fgn (hp : H D = none) (r : RS P ρ B ow H σa σ) : RS P ρ (plus B D) ow (upd H D u) σa σ := by
  have no : ∀ p ∈ ow, p.2 ≠ D := fun p hp' z => by
    obtain ⟨_, _, _, _, h3, _⟩ := r.own p hp'
    rw [z, hp] at h3; cases h3
  refine ⟨r.len, r.nd1, r.nd2, fun p hp' => ⟨(r.out p hp').1, fun z => ?_⟩, fun i av h1 h2 => ?_, fun p hp' => ?_⟩
  · rcases z with z | z
    · exact (r.out p hp').2 z
    · exact no p hp' z
  · obtain ⟨v, h3, h4⟩ := r.val i av h1 h2
    exact ⟨v, h3, h4.fgn hp⟩
  · obtain ⟨av, w, h1, h2, h3, h4⟩ := r.own p hp'
    exact ⟨av, w, h1, h2, by rw [upd_ne (no p hp')]; exact h3, h4.fgn hp⟩
theorem RH.unfgn (r : RH P ρ (Bo (plus B D) ow) H h) : RH P ρ (Bo B ow) H h := r.anti bo_minus
/-- .. taken out of the heap: as if it were not there -/
def hole (H : Hp) (D : Addr) : Hp := fun a => if a = D then none else H a
theorem hole_same : hole H D D = none := if_pos rfl
theorem hole_ne {a : Addr} (h : a ≠ D) : hole H D a = H a := if_neg h
theorem hole_upd (h : H D = some u) : upd (hole H D) D u = H := by
  funext a
  by_cases z : a = D
  · subst z; rw [upd_same, h]
  · rw [upd_ne z, hole_ne z]
end

section
variable {K : PySem.W.Frag} {ρ : List Addr} {B : Addr → Prop} {H : Hp} {D : Addr}
mutual
theorem RV.out (hD : B D) : ∀ (x : AV) {v : V}, RV K ρ B H x v → RV K ρ B (hole H D) x v
  | .non, _, h => h
  | .bl _, _, h => h
  | .int _, _, h => h
  | .str _, _, h => h
  | .tup xs, v, h => by
    unfold RV at h ⊢
    obtain ⟨a, vs, rfl, h1, h2⟩ := h
    refine ⟨a, vs, rfl, h1.imp_left fun ⟨g1, g2, g3⟩ => ⟨g1, g2, ?_⟩, RVs.out hD xs h2⟩
    have ne : a ≠ D := fun z => g2 (by rw [z]; exact hD)
    unfold Rd at g3 ⊢
    rw [hole_ne ne]; exact g3
  | .lst xs, v, h => by
    unfold RV at h ⊢
    obtain ⟨a, vs, rfl, h1, h2, h3, h4⟩ := h
    have ne : a ≠ D := fun z => h2 (by rw [z]; exact hD)
    exact ⟨a, vs, rfl, h1, h2, by rw [hole_ne ne]; exact h3, RVs.out hD xs h4⟩
  | .dct kvs, v, h => by
    unfold RV at h ⊢
    obtain ⟨a, us, rfl, ⟨g1, g2, g3⟩, h2⟩ := h
    refine ⟨a, us, rfl, ⟨g1, g2, ?_⟩, RKs.out hD kvs h2⟩
    have ne : a ≠ D := fun z => g2 (by rw [z]; exact hD)
    unfold Rd at g3 ⊢
    rw [hole_ne ne]; exact g3
  | .ref i, v, h => by
    unfold RV at h ⊢
    exact h
  | .ro xs, v, h => by
    unfold RV at h ⊢
    obtain ⟨a, vs, rfl, h1, h2⟩ := h
    refine ⟨a, vs, rfl, h1.imp_left fun ⟨g1, g2, g3⟩ => ⟨g1, g2, ?_⟩, RVs.out hD xs h2⟩
    have ne : a ≠ D := fun z => g2 (by rw [z]; exact hD)
    unfold Rd at g3 ⊢
    rw [hole_ne ne]; exact g3
theorem RVs.out (hD : B D) : ∀ (xs : List AV) {vs : List V}, RVs K ρ B H xs vs → RVs K ρ B (hole H D) xs vs
  | [], _, h => by unfold RVs at h ⊢; exact h
  | x :: xs, vs, h => by
    unfold RVs at h ⊢
    obtain ⟨v, r, rfl, h1, h2⟩ := h
    exact ⟨v, r, rfl, RV.out hD x h1, RVs.out hD xs h2⟩
theorem RKs.out (hD : B D) : ∀ (kvs : List (AV × AV)) {us : List (Key × V)}, RKs K ρ B H kvs us → RKs K ρ B (hole H D) kvs us
  | [], _, h => by unfold RKs at h ⊢; exact h
  | (k, x) :: r, us, h => by
    unfold RKs at h ⊢
    obtain ⟨k', v, t, rfl, h1, h2, h3⟩ := h
    exact ⟨k', v, t, rfl, h1, RV.out hD x h2, RKs.out hD r h3⟩
end
theorem RFs.out (hD : B D) : ∀ (fs : List (Str × AV)) {us : List (Str × V)}, RFs K ρ B H fs us → RFs K ρ B (hole H D) fs us
  | [], _, h => h
  | (k, x) :: r, us, h => by
    obtain ⟨v, t, rfl, h1, h2⟩ := h
    exact ⟨v, t, rfl, h1.out hD x, RFs.out hD r h2⟩
theorem OV.out (hD : B D) : ∀ {x : AV} {v : HO}, OV K ρ B H x v → OV K ρ B (hole H D) x v
  | .lst xs, _, ⟨vs, h1, h2⟩ => ⟨vs, h1, h2.out hD xs⟩
  | .dct xs, _, ⟨vs, h1, h2⟩ => ⟨vs, h1, h2.out hD xs⟩
theorem RO.out {P : Pm} (hD : B D) : ∀ {x : AO} {v : HO}, RO P ρ B H x v → RO P ρ B (hole H D) x v
  | .lst xs, _, ⟨vs, h1, h2⟩ => ⟨vs, h1, h2.out hD xs⟩
  | .dct xs, _, ⟨vs, h1, h2⟩ => ⟨vs, h1, h2.out hD xs⟩
  | .ins c fs, _, ⟨dx, us, h1, h2⟩ => ⟨dx, us, h1, h2.out hD fs⟩
end
/-- .. let go: B is what it was, the thing as if it were not there -/
theorem RH.back {P : Pm} {ρ : List Addr} {B : Addr → Prop} {ow : List (Nat × Addr)} {H : Hp} {h : AH} {D : Addr} (r : RH P ρ (Bo (plus B D) ow) H h) (hb : ¬ Bo B ow D) : RH P ρ (Bo B ow) (hole H D) h := by
  have hD : Bo (plus B D) ow D := .inl (.inr rfl)
  refine ⟨r.len, r.nd, fun a ha z => r.out a ha (bo_minus a z), fun a z => ?_, fun i o e => ?_⟩
  · have ne : a ≠ D := fun q => hb (by rw [← q]; exact z)
    rw [hole_ne ne]
    exact r.lvB a (bo_minus a z)
  · obtain ⟨a, w, h1, h2, h3⟩ := r.obj i o e
    have ne : a ≠ D := fun q => r.out a (List.mem_of_getElem? h1) (by rw [q]; exact hD)
    exact ⟨a, w, h1, by rw [hole_ne ne]; exact h2, (h3.out hD).anti bo_minus o⟩
end D
end

section
namespace D
open PySem L2

abbrev WF : WX := fun _ _ _ _ => False
theorem wipe_idem {σ : St} : ∀ vs : List Nat, wipe (wipe σ vs) vs = wipe σ vs
  | [] => rfl
  | v :: vs => by
    show wipe ((wipe σ vs).set v none) (v :: vs) = (wipe σ vs).set v none
    rw [wipe_set List.mem_cons_self]
    show (wipe (wipe σ vs) vs).set v none = (wipe σ vs).set v none
    rw [wipe_idem vs]
theorem compL_cons {t : TGT} {c e : EV} {σ : AS} {x : AV} {r rest : List AV} {h h2 : AH} (q : compL t c e σ (x :: r) h = .ok rest h2) :
    ∃ σ1, t x σ = some σ1 ∧ ((∃ h1 v h3 r', c σ1 h = .ok (.bl true) h1 ∧ e σ1 h1 = .ok v h3 ∧ compL t c e σ r h3 = .ok r' h2 ∧ rest = v :: r') ∨ (∃ h1, c σ1 h = .ok (.bl false) h1 ∧ compL t c e σ r h1 = .ok rest h2)) := by
  unfold compL at q
  split at q
  · cases q
  · rename_i σ1 h1
    refine ⟨σ1, h1, ?_⟩
    split at q
    · rename_i g1 e1
      split at q
      · rename_i v h3 e2
        split at q
        · rename_i vs h4 e3
          cases q
          exact .inl ⟨_, _, _, _, e1, e2, e3, rfl⟩
        · cases q
      · cases q
    · rename_i g1 e1
      exact .inr ⟨_, e1, q⟩
    · cases q

section
variable {P : Pm} {X : Cx} {b : Bool} {W : WX} {N own : List Nat} {t : TGT} {it : LV} {c e : EV}
theorem comp_weak (ho : ∀ i ∈ own, i ∉ N) : ∀ σ H Q, tDF P b W N (compD own t it c e) σ H Q → tLc (tDI P true b W N it) (tDG P N own t) (tDT P b WF N c) (tDE P b WF N e) own σ H Q := by
  rintro σ H Q ⟨ρ, B, ow, σa, h, rh, rs, rfl, q⟩
  refine ⟨ρ, B, ow, σa, h, rh, rs, rfl, ?_⟩
  unfold compD at q
  cases g : it σa h with
  | stuck => rw [g] at q; exact q
  | exc cc x h' => rw [g] at q; exact q
  | ok xs h1 =>
    rw [g] at q
    intro ρ1 H1 J S e1 rh1 hi hs D hD
    have q : FPost P b W ρ (Bo B ow) σ H Q (match compL t c e (wipeA σa own) xs h1 with
      | .ok vs h2 => if vs.length ≤ LIM then .ok (.lst vs) h2 else .stuck
      | _ => .stuck) := q
    cases g2 : compL t c e (wipeA σa own) xs h1 with
    | stuck => rw [g2] at q; exact q.elim
    | exc cc x h' => rw [g2] at q; exact q.elim
    | ok vs h2 =>
      rw [g2] at q
      have q : FPost P b W ρ (Bo B ow) σ H Q (if vs.length ≤ LIM then .ok (.lst vs) h2 else .stuck) := q
      by_cases hl : vs.length ≤ LIM
      case neg => rw [if_neg hl] at q; exact q.elim
      rw [if_pos hl] at q
      have nD : ¬ Bo B ow D := fun z => rh1.lvB D z hD
      have rsw : RS P ρ B ow H (wipeA σa own) (wipe σ own) := rs.wipe ho
      refine ⟨fun i mm H' => mm = xs.length - i ∧ i ≤ xs.length ∧ ∃ ρ' h' acc ws rest, ExtS b ρ1 [] H1 ρ' [(0, D)] H' ∧ RH P ρ' (Bo (plus B D) ow) H' h' ∧ RS P ρ' (plus B D) ow H' (wipeA σa own) (wipe σ own) ∧ H' D = some (.lst ws) ∧ RVs P.K ρ' (Bo (plus B D) ow) H' acc ws ∧ compL t c e (wipeA σa own) (xs.drop i) h' = .ok rest h2 ∧ vs = acc ++ rest,
        ⟨xs.length, by simp, Nat.zero_le _, ρ1, h1, [], [], vs, fgn_ext hD, rh1.fgn hD, (rsw.ext e1).fgn hD, upd_same, RVs.nil, g2, rfl⟩, ?_⟩
      rintro i mm H' ⟨rfl, hle, ρ', h', acc, ws, rest, E, rh2, rs2, hDw, rva, hcl, hvs⟩
      have hS : ∀ a, S a → H' a = H1 a := fun a ha => by
        obtain ⟨s1, s2⟩ := hs a ha
        rw [if_pos rfl] at s2
        cases z : H1 a with
        | none => exact absurd z s1
        | some o => exact E.keep a o s2 (by simp) z
      obtain ⟨hstop, hgo⟩ := hi H' hS i
      by_cases hlt : i < xs.length
      · have hxi : xs[i]? = some xs[i] := List.getElem?_eq_getElem hlt
        obtain ⟨go, yl⟩ := hgo _ hxi
        rw [List.drop_eq_getElem_cons hlt] at hcl
        obtain ⟨σ1, et, hcl⟩ := compL_cons hcl
        have bD : Bo (plus B D) ow D := .inl (.inr rfl)
        have nρ : D ∉ ρ' := fun z => rh2.out D z bD
        refine .inr ⟨go, fun H'' => xs.length - (i + 1) = xs.length - (i + 1) ∧ i + 1 ≤ xs.length ∧ ∃ ρ' h' acc ws rest, ExtS b ρ1 [] H1 ρ' [(0, D)] H'' ∧ RH P ρ' (Bo (plus B D) ow) H'' h' ∧ RS P ρ' (plus B D) ow H'' (wipeA σa own) (wipe σ own) ∧ H'' D = some (.lst ws) ∧ RVs P.K ρ' (Bo (plus B D) ow) H'' acc ws ∧ compL t c e (wipeA σa own) (xs.drop (i + 1)) h' = .ok rest h2 ∧ vs = acc ++ rest, fun H'' z => ⟨_, by omega, z⟩, fun x H3 hy => ?_⟩
        have y3 : Ext b ρ' H' ρ' H3 ∧ RH P ρ' (Bo (plus B D) ow) H3 h' ∧ RV P.K ρ' (Bo (plus B D) ow) H3 xs[i] x := by
          rcases yl x H3 hy with ⟨rfl, rv⟩ | ⟨T, ys, us, e2, rfl, hT, rfl, rv⟩
          · exact ⟨Ext.refl _ _ _, rh2, (RV.extS E _ (rv.anti bo_nil _)).anti bo_plus _⟩
          · rw [e2]
            have ee : Ext b ρ' H' ρ' (upd H' T (.tup us)) := Ext.new hT
            exact ⟨ee, rh2.frz hT, new_tup rh2 hT ((RVs.extS E _ (rv.anti bo_nil _)).anti bo_plus _)⟩
        obtain ⟨e3, rh3, rv3⟩ := y3
        refine ⟨ρ', plus B D, ow, wipeA σa own, xs[i], h', rh3, rs2.ext e3, rfl, rv3, ?_⟩
        rw [et]
        intro σ2 rsσ2 hw
        refine ⟨hw.trans (wipe_idem own), ρ', plus B D, ow, σ1, h', rh3, rsσ2, rfl, ?_⟩
        rcases hcl with ⟨h4, v, h5, r', ec, ee, er, hr⟩ | ⟨h4, ec, er⟩
        · rw [ec]
          intro ρ4 H4 e4 rh4
          rw [if_pos rfl]
          refine ⟨ρ4, plus B D, ow, σ1, h4, rh4, rsσ2.ext e4, rfl, ?_⟩
          rw [ee]
          intro ρ5 H5 y e5 rh5 rv5
          have e35 : Ext b ρ' H' ρ5 H5 := e3.trans (e4.trans e5)
          have hD5 : H5 D = some (.lst ws) := e35.keep D _ (.inr nρ) hDw
          have hlen : ws.length < sizeLine := by
            have : vs.length ≤ sizeLine := hl
            rw [hvs, hr] at this
            rw [← rva.len]
            simp only [List.length_append, List.length_cons] at this
            omega
          refine ⟨ws, hD5, hlen, rfl, hlt, ρ5, h5, acc ++ [v], ws ++ [y], r', E.trans ((ExtS.of e35).trans Off.upd.ext), rh5.off bD Off.upd, (rs2.ext e35).off (.inr rfl) Off.upd, upd_same, ((rva.ext e35).app (RVs.cons rv5 RVs.nil)).off bD Off.upd, er, by rw [hvs, hr, List.append_assoc]; rfl⟩
        · rw [ec]
          intro ρ4 H4 e4 rh4
          rw [if_neg Bool.false_ne_true]
          have e34 : Ext b ρ' H' ρ4 H4 := e3.trans e4
          exact ⟨rfl, hlt, ρ4, h4, acc, ws, rest, E.trans (ExtS.of e34), rh4, rs2.ext e34, e34.keep D _ (.inr nρ) hDw, rva.ext e34, er, hvs⟩
      · have ei : i = xs.length := by omega
        refine .inl ⟨hstop (by omega), ?_⟩
        rw [ei, List.drop_length] at hcl
        unfold compL at hcl
        cases hcl
        rw [List.append_nil] at hvs
        subst hvs
        have eo : Ext b ρ1 H1 ρ' (hole H' D) := ⟨E.pre, fun a o z k => by
          rw [hole_ne (fun q => by rw [q, hD] at k; cases k)]
          exact E.keep a o z (by simp) k, fun a z => by
          rw [hole_ne (fun q => z (by rw [q]; exact hD))]
          exact E.live a z⟩
        have bD : Bo (plus B D) ow D := .inl (.inr rfl)
        have r := q ρ' (hole H' D) D (.lst ws) (e1.trans eo) (rh2.back nD) ⟨ws, rfl, (RVs.out bD _ rva).anti bo_minus _⟩ hole_same
        rw [hole_upd hDw] at r
        exact r

/-- tests of a comprehension -/
structure DTs (P : Pm) (X : Cx) (b : Bool) (W : WX) (N : List Nat) (ifs : List Expr) (m : EV) : Prop where
  pt : PTs X ifs (tDT P b W N m)
theorem dts_nil : DTs P X b W N [] (cD (.bl true)) := ⟨⟨fun pins s σ H Q I h => pts_nil.run pins s σ H Q I (by
  obtain ⟨ρ, B, ow, σa, h, rh, rs, hN, q⟩ := h
  exact q ρ H (Ext.refl b ρ H) rh)⟩⟩
theorem dts_one {a : Expr} {m : EV} (h : DT P X b W N a m) : DTs P X b W N [a] m := ⟨pts_one h.pt⟩
end
section
variable {P : Pm} {X : Cx} {b : Bool} {W : WX} {N Nb Nx N' : List Nat} {t : TGT} {it : LV} {mc me ma : EV} {elt tg iter e : Expr} {ifs : List Expr} {scope : Scope} {own : List (Str × Nat)} {pos spos : Pos}
theorem EPost.f {ρ : List Addr} {B : Addr → Prop} {σ : St} {H : Hp} {Q : VK} {r : ER} (h : EPost P b W ρ B σ H Q r) : FPost P b W ρ B σ H Q r := by
  cases r with
  | stuck => exact h
  | exc c x h' => exact h
  | ok av h' =>
    intro ρ' H' p u e rh ov hp
    have ee : Ext b ρ' H' ρ' (upd H' p u) := Ext.new hp
    cases av with
    | lst xs =>
      obtain ⟨vs, rfl, rv⟩ := ov
      exact h ρ' _ _ (e.trans ee) (rh.frz hp) (new_lst rh hp rv)
    | dct kvs =>
      obtain ⟨us, rfl, rv⟩ := ov
      refine h ρ' _ _ (e.trans ee) (rh.frz hp) ?_
      unfold RV
      exact ⟨p, us, rfl, ⟨fun z => rh.lvR p z hp, fun z => rh.lvB p z hp, .inl upd_same⟩, rv.ext ee _⟩
    | non => exact ov.elim
    | bl _ => exact ov.elim
    | int _ => exact ov.elim
    | str _ => exact ov.elim
    | tup _ => exact ov.elim
    | ref _ => exact ov.elim
    | ro _ => exact ov.elim
theorem DF.de (h : DF P X b W N e ma) : DE P X b W N e ma := ⟨pe_weak h.pe fun σ H Q ⟨ρ, B, ow, σa, hh, rh, rs, hN, q⟩ => ⟨ρ, B, ow, σa, hh, rh, rs, hN, q.f⟩⟩
/-- [elt for tg in iter if ..] -/
theorem df_comp (hc : X.calm = true) (hN : X.N.Nodup) (hi : DI P X true b W N tg iter it) (ok : BlkOk X.N X.env.scope scope own)
    (hg : ∀ (s : Shared) (H : Hp) (C : Addr) (cl : List (Str × Addr)) (fp : List Addr), DG P (X.blk s H scope (compEnvC scope cl C X.env) fp) N (own.map (·.2)) tg t)
    (ht : ∀ (s : Shared) (H : Hp) (C : Addr) (cl : List (Str × Addr)) (fp : List Addr), DTs P (X.blk s H scope (compEnvC scope cl C X.env) fp) b WF N ifs mc)
    (he : ∀ (s : Shared) (H : Hp) (C : Addr) (cl : List (Str × Addr)) (fp : List Addr), DE P (X.blk s H scope (compEnvC scope cl C X.env) fp) b WF N elt me)
    (ho : ∀ i ∈ own.map (·.2), i ∉ N := by decide) (hs : ∀ x, foldedSetIterable iter X.env x = pure x := by intro _; rfl) :
    DF P X b W N (.ListComp elt [⟨tg, iter, ifs, 0⟩] scope pos) (compD (own.map (·.2)) t it mc me) :=
  ⟨pe_weak (pe_lc hc hN hi.pi ok (fun s H C cl fp => (hg s H C cl fp).pg) (fun s H C cl fp => (ht s H C cl fp).pt) (fun s H C cl fp => (he s H C cl fp).pe) hs) (comp_weak ho)⟩
/-- name = [..] -/
theorem ds_setLc {j : Nat} {y : Str} {py : Pos} (hc : X.calm = true) (hN : X.N.Nodup) (hy : X.N[j]? = some y) (hyl : X.env.scope.names.lookup y = some .local)
    (hsw : swapsWith (.ListComp elt [⟨tg, iter, ifs, 0⟩] scope pos) (some (.Name y py)) spos.line X.env = pure true) (hi : DI P X true b W N tg iter it) (ok : BlkOk X.N X.env.scope scope own)
    (hg : ∀ (s : Shared) (H : Hp) (C : Addr) (cl : List (Str × Addr)) (fp : List Addr), DG P (X.blk s H scope (compEnvC scope cl C X.env) fp) N (own.map (·.2)) tg t)
    (ht : ∀ (s : Shared) (H : Hp) (C : Addr) (cl : List (Str × Addr)) (fp : List Addr), DTs P (X.blk s H scope (compEnvC scope cl C X.env) fp) b WF N ifs mc)
    (he : ∀ (s : Shared) (H : Hp) (C : Addr) (cl : List (Str × Addr)) (fp : List Addr), DE P (X.blk s H scope (compEnvC scope cl C X.env) fp) b WF N elt me)
    (ho : ∀ i ∈ own.map (·.2), i ∉ N := by decide) (hNj : j ∉ N := by decide) (hx : Kept N Nx := by decide) (hs : ∀ x, foldedSetIterable iter X.env x = pure x := by intro _; rfl) :
    DS P X b W N Nb Nx N (.Assign [.Name y py] (.ListComp elt [⟨tg, iter, ifs, 0⟩] scope pos) spos) (setS j (compD (own.map (·.2)) t it mc me)) := by
  refine ⟨ps_weak (ps_setLc hc hN hy hyl hsw hi.pi ok (fun s H C cl fp => (hg s H C cl fp).pg) (fun s H C cl fp => (ht s H C cl fp).pt) (fun s H C cl fp => (he s H C cl fp).pe) hs) ?_⟩
  rintro D σ H ⟨ρ, B, ow, σa, h, rh, rs, rfl, q⟩
  refine comp_weak ho σ H _ ⟨ρ, B, ow, σa, h, rh, rs, rfl, EPost.f ((toS_post rs rfl hx q).imp ?_)⟩
  rintro v H1 ⟨ρ1, av, h1, e1, rh1, rv1, q1⟩
  exact q1 ρ1 ow H1 _ ExtS.refl rh1 ((rs.ext e1).set hNj rv1) rfl
/-- a new thing of the heap -/
theorem de_heap (h : DF P X b W N e ma) : DE P X b W N e (heapL ma) := by
  refine ⟨pe_weak h.pe ?_⟩
  rintro σ H Q ⟨ρ, B, ow, σa, hh, rh, rs, hN, q⟩
  refine ⟨ρ, B, ow, σa, hh, rh, rs, hN, ?_⟩
  unfold heapL at q
  cases g : ma σa hh with
  | stuck => rw [g] at q; exact q
  | exc c x h' => rw [g] at q; exact q
  | ok av h' =>
    rw [g] at q
    intro ρ' H' p u e rh' ov hp
    have key : ∀ o : AO, RO P ρ' (Bo B ow) H' o u → EPost P b W ρ (Bo B ow) σ H Q (.ok (.ref h'.length) (h' ++ [o])) → Q (.ref p) (upd H' p u) := fun o ro q => by
      refine q (ρ' ++ [p]) _ _ (e.trans (Ext.newR hp)) (rh'.new hp ro) ?_
      unfold RV
      exact ⟨p, rfl, by rw [← rh'.len]; simp⟩
    cases av with
    | lst xs => exact key (.lst xs) ov q
    | dct kvs => exact key (.dct kvs) ov q
    | non => exact q.elim
    | bl _ => exact q.elim
    | int _ => exact q.elim
    | str _ => exact q.elim
    | tup _ => exact q.elim
    | ref _ => exact q.elim
    | ro _ => exact q.elim
end
end D
end

section
namespace D
open PySem L2

abbrev plusL (B : Addr → Prop) (F : List Addr) : Addr → Prop := fun a => B a ∨ a ∈ F
theorem plusL_cons {B : Addr → Prop} {p : Addr} {F : List Addr} : plusL (plus B p) F = plusL B (p :: F) := by
  funext a
  apply propext
  constructor
  · rintro ((h | rfl) | h)
    · exact .inl h
    · exact .inr List.mem_cons_self
    · exact .inr (List.mem_cons_of_mem _ h)
  · rintro (h | h)
    · exact .inl (.inl h)
    · rcases List.mem_cons.mp h with rfl | h
      · exact .inl (.inr rfl)
      · exact .inr h
theorem plusL_nil {B : Addr → Prop} : plusL B [] = B := by
  funext a
  apply propext
  constructor
  · rintro (h | h)
    · exact h
    · cases h
  · exact .inl
/-- flags: which are new -/
def RVm (K : PySem.W.Frag) (ρ : List Addr) (B : Addr → Prop) (H : Hp) : List Bool → List Addr → List AV → List V → Prop
  | [], F, avs, vs => F = [] ∧ avs = [] ∧ vs = []
  | true :: fl, F, avs, vs => ∃ p F' av avs' vs' u, F = p :: F' ∧ avs = av :: avs' ∧ vs = .ref p :: vs' ∧ H p = some u ∧ OV K ρ B H av u ∧ p ∉ ρ ∧ RVm K ρ B H fl F' avs' vs'
  | false :: fl, F, avs, vs => ∃ av v avs' vs', avs = av :: avs' ∧ vs = v :: vs' ∧ RV K ρ B H av v ∧ RVm K ρ B H fl F avs' vs'
def MPost (P : Pm) (b : Bool) (W : WX) (ρ : List Addr) (B : Addr → Prop) (ow : List (Nat × Addr)) (σ : St) (H : Hp) (fl : List Bool) (Q : List V → Hp → Prop) : LR → Prop
  | .ok avs h' => ∀ ρ' H' vs F, Ext b ρ H ρ' H' → RH P ρ' (Bo (plusL B F) ow) H' h' → RVm P.K ρ' (Bo (plusL B F) ow) H' fl F avs vs → (∀ a ∈ F, H a = none) → F.Nodup → Q vs H'
  | .exc c f h' => ∀ ρ' H' d, Ext b ρ H ρ' H' → RH P ρ' (Bo B ow) H' h' → RX P.K ρ' (Bo B ow) H' f d → W (P.ex c) d σ H'
  | .stuck => False
def tDM (P : Pm) (b : Bool) (W : WX) (N : List Nat) (fl : List Bool) (m : LV) : TA := fun σ H Q =>
  ∃ ρ B ow σa h, RH P ρ (Bo B ow) H h ∧ RS P ρ B ow H σa σ ∧ ow.map (·.1) = N ∧ MPost P b W ρ B ow σ H fl Q (m σa h)
structure DM (P : Pm) (X : Cx) (b : Bool) (W : WX) (N : List Nat) (fl : List Bool) (es : List Expr) (m : LV) : Prop where
  pa : PA X es (tDM P b W N fl m)

section
variable {P : Pm} {K : PySem.W.Frag} {b : Bool} {W : WX} {ρ ρ' : List Addr} {B : Addr → Prop} {ow : List (Nat × Addr)} {H H' : Hp} {F : List Addr}
theorem ext_F (e : Ext b ρ H ρ' H') (hF : ∀ a ∈ F, H a = none) : ExtS b ρ [] H ρ' (F.map fun a => (0, a)) H' := ⟨e.pre, fun a o h _ k => e.keep a o h k, e.live, fun a ha => by
  obtain ⟨p, hp, rfl⟩ := List.mem_map.mp ha
  obtain ⟨c, hc, rfl⟩ := List.mem_map.mp hp
  exact .inr (hF c hc)⟩
theorem bo_F : ∀ a, Bo (plusL B F) ow a → Bo (Bo B ow) (F.map fun a => (0, a)) a := fun a z => by
  rcases z with (z | z) | z
  · exact .inl (.inl z)
  · exact .inr (by simpa using z)
  · exact .inl (.inr z)
theorem RV.toF (e : Ext b ρ H ρ' H') (hF : ∀ a ∈ F, H a = none) {x : AV} {v : V} (r : RV K ρ (Bo B ow) H x v) : RV K ρ' (Bo (plusL B F) ow) H' x v := (RV.extS (ext_F e hF) x (r.anti bo_nil x)).anti bo_F x
theorem RVs.toF (e : Ext b ρ H ρ' H') (hF : ∀ a ∈ F, H a = none) {x : List AV} {v : List V} (r : RVs K ρ (Bo B ow) H x v) : RVs K ρ' (Bo (plusL B F) ow) H' x v := (RVs.extS (ext_F e hF) x (r.anti bo_nil x)).anti bo_F x
theorem RKs.toF (e : Ext b ρ H ρ' H') (hF : ∀ a ∈ F, H a = none) {x : List (AV × AV)} {v : List (Key × V)} (r : RKs K ρ (Bo B ow) H x v) : RKs K ρ' (Bo (plusL B F) ow) H' x v := (RKs.extS (ext_F e hF) x (r.anti bo_nil x)).anti bo_F x
theorem OV.toF (e : Ext b ρ H ρ' H') (hF : ∀ a ∈ F, H a = none) : ∀ {x : AV} {v : HO}, OV K ρ (Bo B ow) H x v → OV K ρ' (Bo (plusL B F) ow) H' x v
  | .lst xs, _, ⟨vs, h1, h2⟩ => ⟨vs, h1, h2.toF e hF⟩
  | .dct xs, _, ⟨vs, h1, h2⟩ => ⟨vs, h1, h2.toF e hF⟩
theorem RS.toF {σa : AS} {σ : St} (e : Ext b ρ H ρ' H') (hF : ∀ a ∈ F, H a = none) (r : RS P ρ B ow H σa σ) : RS P ρ' (plusL B F) ow H' σa σ := by
  have no : ∀ p ∈ ow, H p.2 ≠ none := fun p hp z => by
    obtain ⟨_, _, _, _, h3, _⟩ := r.own p hp
    rw [z] at h3; cases h3
  refine ⟨r.len, r.nd1, r.nd2, fun p hp => ⟨e.notin (r.out p hp).1 (no p hp), fun z => ?_⟩, fun i av h1 h2 => ?_, fun p hp => ?_⟩
  · rcases z with z | z
    · exact (r.out p hp).2 z
    · exact no p hp (hF _ z)
  · obtain ⟨v, h3, h4⟩ := r.val i av h1 h2
    exact ⟨v, h3, h4.toF e hF⟩
  · obtain ⟨av, w, h1, h2, h3, h4⟩ := r.own p hp
    exact ⟨av, w, h1, h2, e.keep _ _ (.inr (r.out p hp).1) h3, h4.toF e hF⟩
end

section
variable {P : Pm} {X : Cx} {b : Bool} {W : WX} {N Nb Nx N' : List Nat} {e : Expr} {es : List Expr} {ma : EV} {ms : List EV} {fl : List Bool} {pos : Pos}
theorem RX.anti {K : PySem.W.Frag} {ρ : List Addr} {B B' : Addr → Prop} {H : Hp} (hB : ∀ a, B' a → B a) : ∀ {f : XF} {d : Option Addr}, RX K ρ B H f d → RX K ρ B' H f d
  | none, _, h => h
  | some fs, _, ⟨dx, us, h1, h2, h3, h4, h5⟩ => ⟨dx, us, h1, h2, fun z => h3 (hB _ z), h4, h5.anti hB fs⟩
theorem dm_nil : DM P X b W N [] [] (evs []) := by
  refine ⟨pa_weak pa_nil ?_⟩
  rintro σ H Q ⟨ρ, B, ow, σa, h, rh, rs, hN, q⟩
  exact q ρ H [] [] (Ext.refl b ρ H) (by rw [plusL_nil]; exact rh) ⟨rfl, rfl, rfl⟩ (by simp) List.nodup_nil
theorem dm_new (he : DF P X b W N e ma) (ht : DM P X b W N fl es (evs ms)) (hs : starEach (e :: es) X.env = (false, eval e X.env) :: starEach es X.env := by rfl) : DM P X b W N (true :: fl) (e :: es) (evs (ma :: ms)) := by
  refine ⟨pa_weak (pa_cons he.pe ht.pa hs) ?_⟩
  rintro σ H Q ⟨ρ, B, ow, σa, h, rh, rs, hN, q⟩
  refine ⟨ρ, B, ow, σa, h, rh, rs, hN, ?_⟩
  unfold evs at q
  cases g : ma σa h with
  | stuck => rw [g] at q; exact q
  | exc c x h' => rw [g] at q; exact q
  | ok av h1 =>
    rw [g] at q
    intro ρ1 H1 p u e1 rh1 ov hp
    refine ⟨ρ1, plus B p, ow, σa, h1, rh1.fgn hp, (rs.ext e1).fgn hp, hN, ?_⟩
    have q : MPost P b W ρ B ow σ H (true :: fl) Q ((evs ms σa h1).bindL fun vs h2 => .ok (av :: vs) h2) := q
    have ee : Ext b ρ H ρ1 (upd H1 p u) := e1.trans (Ext.new hp)
    cases g2 : evs ms σa h1 with
    | stuck => rw [g2] at q; exact q
    | exc c x h' =>
      rw [g2] at q
      intro ρ2 H2 d e2 rh2 rx
      exact q ρ2 H2 d (ee.trans e2) (rh2.anti bo_minus) (rx.anti bo_minus)
    | ok avs h2 =>
      rw [g2] at q
      intro ρ2 H2 vs F e2 rh2 rv2 hF hnd
      have np : p ∉ F := fun z => by
        have := hF p z
        rw [upd_same] at this; cases this
      have npr : p ∉ ρ1 := fun z => rh1.lvR p z hp
      refine q ρ2 H2 (.ref p :: vs) (p :: F) (ee.trans e2) (by rw [← plusL_cons]; exact rh2) ⟨p, F, av, avs, vs, u, rfl, rfl, rfl, e2.keep p u (.inr npr) upd_same, ?_, e2.notin npr (by rw [upd_same]; simp), by rw [← plusL_cons]; exact rv2⟩ (fun a ha => ?_) (List.nodup_cons.mpr ⟨np, hnd⟩)
      · rw [← plusL_cons]
        exact OV.toF e2 hF (ov.fgn hp)
      · have z : H1 a = none := by
          rcases List.mem_cons.mp ha with rfl | ha
          · exact hp
          · have := hF a ha
            by_cases q : a = p
            · subst q; exact hp
            · rw [upd_ne q] at this; exact this
        cases q : H a with
        | none => rfl
        | some o => exact absurd z (e1.live a (by rw [q]; simp))
theorem dm_val (he : DE P X b W N e ma) (ht : DM P X b W N fl es (evs ms)) (hs : starEach (e :: es) X.env = (false, eval e X.env) :: starEach es X.env := by rfl) : DM P X b W N (false :: fl) (e :: es) (evs (ma :: ms)) := by
  refine ⟨pa_weak (pa_cons he.pe ht.pa hs) ?_⟩
  rintro σ H Q ⟨ρ, B, ow, σa, h, rh, rs, hN, q⟩
  refine ⟨ρ, B, ow, σa, h, rh, rs, hN, ?_⟩
  unfold evs at q
  cases g : ma σa h with
  | stuck => rw [g] at q; exact q
  | exc c x h' => rw [g] at q; exact q
  | ok av h1 =>
    rw [g] at q
    intro ρ1 H1 v e1 rh1 rv
    refine ⟨ρ1, B, ow, σa, h1, rh1, rs.ext e1, hN, ?_⟩
    have q : MPost P b W ρ B ow σ H (false :: fl) Q ((evs ms σa h1).bindL fun vs h2 => .ok (av :: vs) h2) := q
    cases g2 : evs ms σa h1 with
    | stuck => rw [g2] at q; exact q
    | exc c x h' =>
      rw [g2] at q
      exact fun ρ2 H2 d e2 => q ρ2 H2 d (e1.trans e2)
    | ok avs h2 =>
      rw [g2] at q
      intro ρ2 H2 vs F e2 rh2 rv2 hF hnd
      refine q ρ2 H2 (v :: vs) F (e1.trans e2) rh2 ⟨av, v, avs, vs, rfl, rfl, RV.toF e2 hF rv, rv2⟩ (fun a ha => ?_) hnd
      cases q : H a with
      | none => rfl
      | some o => exact absurd (hF a ha) (e1.live a (by rw [q]; simp))

def ownN : List Nat → List Bool → List Nat → List Nat
  | i :: is, true :: fl, N => ownN is fl (i :: N)
  | i :: is, false :: fl, N => ownN is fl N
  | _, _, N => N
/-- .. is taken by a name -/
theorem bo_own {B : Addr → Prop} {p : Addr} {i : Nat} {ow : List (Nat × Addr)} : Bo (plus B p) ow = Bo B ((i, p) :: ow) := by
  funext a
  apply propext
  constructor
  · rintro ((h | rfl) | h)
    · exact .inl h
    · exact .inr (by simp)
    · exact .inr (by rw [List.map_cons]; exact List.mem_cons_of_mem _ h)
  · rintro (h | h)
    · exact .inl (.inl h)
    · rw [List.map_cons] at h
      rcases List.mem_cons.mp h with h | h
      · exact .inl (.inr h)
      · exact .inr h
theorem RS.own1 {ρ : List Addr} {B : Addr → Prop} {ow : List (Nat × Addr)} {H : Hp} {σa : AS} {σ : St} {p : Addr} {i : Nat} {av : AV} {u : HO} (r : RS P ρ (plus B p) ow H σa σ) (hi : i ∉ ow.map (·.1)) (hl : i < σa.length) (hr : p ∉ ρ) (hb : ¬ B p) (hH : H p = some u) (ho : OV P.K ρ (Bo (plus B p) ow) H av u) :
    RS P ρ B ((i, p) :: ow) H (σa.set i (some av)) (σ.set i (some (.ref p))) := by
  have np : p ∉ ow.map (·.2) := fun z => by
    obtain ⟨q, hq, e⟩ := List.mem_map.mp z
    exact (r.out q hq).2 (.inr e)
  refine ⟨by simp [r.len], List.nodup_cons.mpr ⟨hi, r.nd1⟩, List.nodup_cons.mpr ⟨np, r.nd2⟩, fun q hq => ?_, fun j x h1 h2 => ?_, fun q hq => ?_⟩
  · rcases List.mem_cons.mp hq with rfl | hq
    · exact ⟨hr, hb⟩
    · exact ⟨(r.out q hq).1, fun z => (r.out q hq).2 (.inl z)⟩
  · have hj : j ≠ i := fun z => h2 (by rw [z]; exact List.mem_cons_self)
    have hj2 : j ∉ ow.map (·.1) := fun z => h2 (List.mem_cons_of_mem _ z)
    rw [List.getElem?_set_ne (Ne.symm hj)] at h1
    obtain ⟨w, h3, h4⟩ := r.val j x h1 hj2
    exact ⟨w, by rw [List.getElem?_set_ne (Ne.symm hj)]; exact h3, by rw [← bo_own]; exact h4⟩
  · rcases List.mem_cons.mp hq with rfl | hq
    · exact ⟨av, u, by rw [List.getElem?_set_self hl], by rw [List.getElem?_set_self (by rw [← r.len]; exact hl)], hH, by rw [← bo_own]; exact ho⟩
    · have hj : i ≠ q.1 := fun z => hi (by rw [z]; exact mem_fst hq)
      obtain ⟨x, w, h1, h2, h3, h4⟩ := r.own q hq
      exact ⟨x, w, by rw [List.getElem?_set_ne hj]; exact h1, by rw [List.getElem?_set_ne hj]; exact h2, h3, by rw [← bo_own]; exact h4⟩
/-- all of them -/
theorem RS.ownM : ∀ {is : List Nat} {fl : List Bool} {F : List Addr} {avs : List AV} {vs : List V} {ρ : List Addr} {B : Addr → Prop} {ow : List (Nat × Addr)} {H : Hp} {σa : AS} {σ : St}, RS P ρ (plusL B F) ow H σa σ → RVm P.K ρ (Bo (plusL B F) ow) H fl F avs vs →
    (∀ a ∈ F, ¬ B a) → F.Nodup → is.Nodup → (∀ i ∈ is, i ∉ ow.map (·.1)) → (∀ i ∈ is, i < σa.length) → is.length = fl.length →
    ∃ ow', ow'.map (·.1) = ownN is fl (ow.map (·.1)) ∧ Bo (plusL B F) ow = Bo B ow' ∧ RS P ρ B ow' H (setAll σa is avs) (setAll σ is vs) ∧ (∀ a ∈ ow'.map (·.2), a ∈ ow.map (·.2) ∨ a ∈ F)
  | [], [], F, avs, vs, ρ, B, ow, H, σa, σ, r, rv, hB, hnd, hi, hn, hl, hlen => by
    obtain ⟨rfl, rfl, rfl⟩ := rv
    rw [plusL_nil] at r ⊢
    exact ⟨ow, rfl, rfl, r, fun a ha => .inl ha⟩
  | [], _ :: _, _, _, _, _, _, _, _, _, _, _, _, _, _, _, _, _, hlen => by cases hlen
  | _ :: _, [], _, _, _, _, _, _, _, _, _, _, _, _, _, _, _, _, hlen => by cases hlen
  | i :: is, true :: fl, F, avs, vs, ρ, B, ow, H, σa, σ, r, rv, hB, hnd, hi, hn, hl, hlen => by
    obtain ⟨p, F', av, avs', vs', u, rfl, rfl, rfl, hH, ho, hr, rv⟩ := rv
    obtain ⟨np, hnd⟩ := List.nodup_cons.mp hnd
    obtain ⟨ni, hi⟩ := List.nodup_cons.mp hi
    have e1 : plus (plusL B F') p = plusL B (p :: F') := by
      funext a
      apply propext
      constructor
      · rintro ((h | h) | rfl)
        · exact .inl h
        · exact .inr (List.mem_cons_of_mem _ h)
        · exact .inr List.mem_cons_self
      · rintro (h | h)
        · exact .inl (.inl h)
        · rcases List.mem_cons.mp h with rfl | h
          · exact .inr rfl
          · exact .inl (.inr h)
    rw [← e1] at r ho rv
    have r1 := r.own1 (hn i List.mem_cons_self) (hl i List.mem_cons_self) hr (fun z => by
      rcases z with z | z
      · exact hB p List.mem_cons_self z
      · exact np z) hH ho
    have e2 : Bo (plus (plusL B F') p) ow = Bo (plusL B F') ((i, p) :: ow) := bo_own
    rw [e2] at rv
    obtain ⟨ow', g1, g2, g3, g4⟩ := RS.ownM r1 rv (fun a ha => hB a (List.mem_cons_of_mem _ ha)) hnd hi (fun j hj z => by
      rcases List.mem_cons.mp z with z | z
      · have z' : j = i := z
        exact ni (by rw [← z']; exact hj)
      · exact hn j (List.mem_cons_of_mem _ hj) z) (fun j hj => by rw [List.length_set]; exact hl j (List.mem_cons_of_mem _ hj)) (Nat.succ.inj hlen)
    refine ⟨ow', g1, by rw [← e1, e2]; exact g2, g3, fun a ha => ?_⟩
    rcases g4 a ha with z | z
    · rcases List.mem_cons.mp z with z | z
      · exact .inr (by have : a = p := z
                       rw [this]; exact List.mem_cons_self)
      · exact .inl z
    · exact .inr (List.mem_cons_of_mem _ z)
  | i :: is, false :: fl, F, avs, vs, ρ, B, ow, H, σa, σ, r, rv, hB, hnd, hi, hn, hl, hlen => by
    obtain ⟨av, v, avs', vs', rfl, rfl, h1, rv⟩ := rv
    obtain ⟨ni, hi⟩ := List.nodup_cons.mp hi
    exact RS.ownM (is := is) (fl := fl) (σa := σa.set i (some av)) (r.set (hn i List.mem_cons_self) h1) rv hB hnd hi (fun j hj => hn j (List.mem_cons_of_mem _ hj)) (fun j hj => by rw [List.length_set]; exact hl j (List.mem_cons_of_mem _ hj)) (Nat.succ.inj hlen)
/-- the statement's end -/
theorem par_end {is : List Nat} {D : Ends} {σ : St} {H : Hp} {ρ : List Addr} {B : Addr → Prop} {ow : List (Nat × Addr)} {σa : AS} {h : AH} (rh : RH P ρ (Bo B ow) H h) (rs : RS P ρ B ow H σa σ) (hx : Kept (ow.map (·.1)) Nx) (hi : is.Nodup) (hn : ∀ i ∈ is, i ∉ ow.map (·.1)) (hl : ∀ i ∈ is, i < σa.length) (hlen : is.length = fl.length)
    (q : SPost P b W Nb Nx (ownN is fl (ow.map (·.1))) ρ B ow H D (parS is ms σa h)) (T : Hp → Hp → Prop) (hT : ∀ H1 H2, T H1 H2 → H2 = H1 ∨ ∃ p vs, H1 p = none ∧ H2 = upd H1 p (.tup vs)) :
    MPost P b W ρ B ow σ H fl (fun vs H1 => ∀ H2, T H1 H2 → D.nx (setAll σ is vs) H2) (evs ms σa h) := by
  unfold parS at q
  cases g : evs ms σa h with
  | stuck => rw [g] at q; exact q
  | exc c x h' => rw [g] at q; exact exc_restrict rs hx q
  | ok avs h1 =>
    rw [g] at q
    intro ρ1 H1 vs F e1 rh1 rv1 hF hnd H2 ht
    have nB : ∀ a ∈ F, ¬ B a := fun a ha z => rh.lvB a (.inl z) (hF a ha)
    have rs1 := rs.toF e1 hF
    obtain ⟨ow', g1, g2, g3, g4⟩ := RS.ownM rs1 rv1 nB hnd hi hn hl hlen
    rw [g2] at rh1
    have q : ∀ ρ' ow' H' σ', ExtS b ρ ow H ρ' ow' H' → RH P ρ' (Bo B ow') H' h1 → RS P ρ' B ow' H' (setAll σa is avs) σ' → ow'.map (·.1) = ownN is fl (ow.map (·.1)) → D.nx σ' H' := q
    have eS : ExtS b ρ ow H ρ1 ow' H1 := ⟨e1.pre, fun a o z _ k => e1.keep a o z k, e1.live, fun a ha => by
      rcases g4 a ha with z | z
      · exact .inl z
      · exact .inr (hF a z)⟩
    rcases hT H1 H2 ht with rfl | ⟨p, us, hp, rfl⟩
    · exact q ρ1 ow' _ _ eS rh1 g3 g1
    · have e3 : Ext b ρ1 H1 ρ1 (upd H1 p (.tup us)) := Ext.new hp
      exact q ρ1 ow' _ _ (eS.trans (ExtS.of e3)) (rh1.frz hp) (g3.ext e3) g1

theorem ds_par2 {i j : Nat} {x y : Str} {a c : Expr} {px py pt : Pos} {kt k2 : Nat} {pt2 : Pos} (hc : X.calm = true) (hN : X.N.Nodup) (hi : X.N[i]? = some x) (hj : X.N[j]? = some y) (hx' : X.env.scope.names.lookup x = some .local) (hy' : X.env.scope.names.lookup y = some .local) (ha : DM P X b W N fl [a, c] (evs ms))
    (hw : swappedStores [.Tuple [.Name x px, .Name y py] kt pt] (.Tuple [a, c] k2 pt2) X.env = pure (some [x, y]))
    (hs : swapsWithSole [.Tuple [.Name x px, .Name y py] kt pt] (.Tuple [a, c] k2 pt2) pos.line X.env = pure false := by rfl) (hx : Kept N Nx := by decide) (hnd : [i, j].Nodup := by decide) (hn : ∀ l ∈ [i, j], l ∉ N := by decide) (hl : ∀ l ∈ [i, j], l < X.N.length := by decide) (hlen : [i, j].length = fl.length := by rfl) :
    DS P X b W N Nb Nx (ownN [i, j] fl N) (.Assign [.Tuple [.Name x px, .Name y py] kt pt] (.Tuple [a, c] k2 pt2) pos) (parS [i, j] ms) := by
  have hij : i ≠ j := fun z => by subst z; simp at hnd
  refine ⟨⟨fun pins s σ H D I hq => ?_⟩⟩
  refine (ps_weak (t' := fun D σ H => σ.length = X.N.length ∧ tDS P b W N Nb Nx (ownN [i, j] fl N) (parS [i, j] ms) D σ H) (ps_par hc hN hi hj hij hx' hy' ha.pa hw hs) ?_).run pins s σ H D I ⟨I.len, hq⟩
  rintro D σ H ⟨hlen', ρ, B, ow, σa, h, rh, rs, rfl, q⟩
  refine ⟨ρ, B, ow, σa, h, rh, rs, rfl, ?_⟩
  have r := par_end rh rs hx hnd hn (fun l hh => by rw [rs.len, hlen']; exact hl l hh) hlen q (fun H1 H2 => H2 = H1) fun _ _ h => .inl h
  cases g : evs ms σa h with
  | stuck => rw [g] at r; exact r
  | exc c x h' => rw [g] at r; exact r
  | ok avs h1 =>
    rw [g] at r
    intro ρ1 H1 vs F e1 rh1 rv1 hF hnd'
    have q1 := r ρ1 H1 vs F e1 rh1 rv1 hF hnd' H1 rfl
    have : ∃ v w, vs = [v, w] := by
      match fl, hlen with
      | [f1, f2], _ =>
        cases f1 <;> cases f2 <;> (simp only [RVm] at rv1)
        · obtain ⟨_, v, _, _, _, rfl, _, _, w, _, _, _, rfl, _, _, _, rfl⟩ := rv1; exact ⟨_, _, rfl⟩
        · obtain ⟨_, v, _, _, _, rfl, _, _, _, _, _, _, _, _, _, rfl, _, _, _, _, _, rfl⟩ := rv1; exact ⟨_, _, rfl⟩
        · obtain ⟨_, _, _, _, _, _, _, _, rfl, _, _, _, _, w, _, _, _, rfl, _, _, _, rfl⟩ := rv1; exact ⟨_, _, rfl⟩
        · obtain ⟨_, _, _, _, _, _, _, _, rfl, _, _, _, _, _, _, _, _, _, _, _, rfl, _, _, _, _, _, rfl⟩ := rv1; exact ⟨_, _, rfl⟩
    obtain ⟨v, w, rfl⟩ := this
    exact ⟨v, w, rfl, q1⟩
theorem rvm_len {K : PySem.W.Frag} {ρ : List Addr} {B : Addr → Prop} {H : Hp} : ∀ {fl : List Bool} {F : List Addr} {avs : List AV} {vs : List V}, RVm K ρ B H fl F avs vs → vs.length = fl.length
  | [], _, _, _, ⟨_, _, e⟩ => by rw [e]; rfl
  | true :: fl, _, _, _, ⟨_, _, _, _, _, _, _, _, e, _, _, _, r⟩ => by rw [e, List.length_cons, rvm_len r]; rfl
  | false :: fl, _, _, _, ⟨_, _, _, _, _, e, _, r⟩ => by rw [e, List.length_cons, rvm_len r]; rfl
theorem ds_par3 {i j l : Nat} {x y z : Str} {a c d : Expr} {px py pz pt : Pos} {kt k2 : Nat} {pt2 : Pos} (hc : X.calm = true) (hN : X.N.Nodup) (hi : X.N[i]? = some x) (hj : X.N[j]? = some y) (hk : X.N[l]? = some z) (hx' : X.env.scope.names.lookup x = some .local) (hy' : X.env.scope.names.lookup y = some .local) (hz' : X.env.scope.names.lookup z = some .local) (ha : DM P X b W N fl [a, c, d] (evs ms))
    (hw : swappedStores [.Tuple [.Name x px, .Name y py, .Name z pz] kt pt] (.Tuple [a, c, d] k2 pt2) X.env = pure (some [x, y, z]))
    (hs : swapsWithSole [.Tuple [.Name x px, .Name y py, .Name z pz] kt pt] (.Tuple [a, c, d] k2 pt2) pos.line X.env = pure false := by rfl) (hx : Kept N Nx := by decide) (hnd : [i, j, l].Nodup := by decide) (hn : ∀ q ∈ [i, j, l], q ∉ N := by decide) (hl : ∀ q ∈ [i, j, l], q < X.N.length := by decide) (hlen : [i, j, l].length = fl.length := by rfl) :
    DS P X b W N Nb Nx (ownN [i, j, l] fl N) (.Assign [.Tuple [.Name x px, .Name y py, .Name z pz] kt pt] (.Tuple [a, c, d] k2 pt2) pos) (parS [i, j, l] ms) := by
  have hij : i ≠ j := fun z => by subst z; simp at hnd
  have hil : i ≠ l := fun z => by subst z; simp at hnd
  have hjl : j ≠ l := fun z => by subst z; simp at hnd
  refine ⟨⟨fun pins s σ H D I hq => ?_⟩⟩
  refine (ps_weak (t' := fun D σ H => σ.length = X.N.length ∧ tDS P b W N Nb Nx (ownN [i, j, l] fl N) (parS [i, j, l] ms) D σ H) (ps_par3 hc hN hi hj hk hij hil hjl hx' hy' hz' ha.pa hw hs) ?_).run pins s σ H D I ⟨I.len, hq⟩
  rintro D σ H ⟨hlen', ρ, B, ow, σa, h, rh, rs, rfl, q⟩
  refine ⟨ρ, B, ow, σa, h, rh, rs, rfl, ?_⟩
  have r := par_end rh rs hx hnd hn (fun l hh => by rw [rs.len, hlen']; exact hl l hh) hlen q (fun H1 H2 => H2 = H1) fun _ _ h => .inl h
  cases g : evs ms σa h with
  | stuck => rw [g] at r; exact r
  | exc c x h' => rw [g] at r; exact r
  | ok avs h1 =>
    rw [g] at r
    intro ρ1 H1 vs F e1 rh1 rv1 hF hnd'
    have q1 := r ρ1 H1 vs F e1 rh1 rv1 hF hnd' H1 rfl
    have hv := rvm_len rv1
    rw [← hlen] at hv
    match vs, hv with
    | [u, v, w], _ => exact ⟨u, v, w, rfl, q1⟩

def gsN (is : List Nat) : TGs := fun vs σ H Q => vs.length = is.length ∧ Q (setAll σ is vs) H
structure DGn (X : Cx) (is : List Nat) (tgs : List Expr) : Prop where
  pg : PGs X tgs (gsN is)
theorem dgn_nil : DGn X [] [] := ⟨pgs_weak pgs_nil fun vs σ H Q ⟨h1, h2⟩ => by
  have : vs = [] := List.eq_nil_of_length_eq_zero h1
  subst this
  exact ⟨rfl, h2⟩⟩
theorem dgn_cons (i : Nat) {x : Str} {is : List Nat} {tgs : List Expr} (hN : X.N.Nodup) (h2 : DGn X is tgs) (hi : X.N[i]? = some x := by rfl) (hx : L2.Loc X.env.scope x := by first | exact Or.inl rfl | exact Or.inr rfl) (hf : X.fn x = true ∨ X.env.scope.names.lookup x = some .local := by first | exact .inl rfl | exact .inr rfl | assumption)
    (hs : (assignEach (.Name x pos :: tgs) X.env).map (·.2) = assign (.Name x pos) X.env :: (assignEach tgs X.env).map (·.2) := by rfl) : DGn X (i :: is) (.Name x pos :: tgs) := by
  refine ⟨pgs_weak (pgs_cons (pg_name hN hi hx hf) h2.pg hs) ?_⟩
  rintro vs σ H Q ⟨hl, q⟩
  cases vs with
  | nil => cases hl
  | cons v r => exact ⟨v, r, rfl, Nat.succ.inj hl, q⟩
theorem ds_parT {is : List Nat} {tgs : List Expr} {pt : Pos} {kt k2 : Nat} {pt2 : Pos} (hc : X.calm = true) (hg : DGn X is tgs) (ha : DM P X b W N fl es (evs ms)) (hx : Kept N Nx := by decide) (hnd : is.Nodup := by decide) (hn : ∀ l ∈ is, l ∉ N := by decide) (hl : ∀ l ∈ is, l < X.N.length := by decide) (hlen : is.length = fl.length := by rfl)
    (hne : (assignEach tgs X.env).length = is.length := by rfl) (hst : (assignEach tgs X.env).findIdx? (·.1) = none := by rfl) (hs : swapsWithSole [.Tuple tgs kt pt] (.Tuple es k2 pt2) pos.line X.env = pure false := by rfl) (hw : swappedStores [.Tuple tgs kt pt] (.Tuple es k2 pt2) X.env = pure none := by rfl)
    (h1 : (assignEach [.Tuple tgs kt pt] X.env).map (·.2) = [assign (.Tuple tgs kt pt) X.env] := by rfl) (hsmall : fl.length ≤ LIM := by decide) :
    DS P X b W N Nb Nx (ownN is fl N) (.Assign [.Tuple tgs kt pt] (.Tuple es k2 pt2) pos) (parS is ms) := by
  refine ⟨⟨fun pins s σ H D I hq => ?_⟩⟩
  refine (ps_weak (t' := fun D σ H => σ.length = X.N.length ∧ tDS P b W N Nb Nx (ownN is fl N) (parS is ms) D σ H) (ps_asg (pe_tup ha.pa) (pg_tup hc hg.pg hne hst) hs hw h1) ?_).run pins s σ H D I ⟨I.len, hq⟩
  rintro D σ H ⟨hlen', ρ, B, ow, σa, h, rh, rs, rfl, q⟩
  refine ⟨ρ, B, ow, σa, h, rh, rs, rfl, ?_⟩
  have r := par_end rh rs hx hnd hn (fun l hh => by rw [rs.len, hlen']; exact hl l hh) hlen q (fun H1 H2 => ∃ p vs, H1 p = none ∧ H2 = upd H1 p (.tup vs)) fun _ _ h => .inr h
  cases g : evs ms σa h with
  | stuck => rw [g] at r; exact r
  | exc c x h' => rw [g] at r; exact r
  | ok avs h1 =>
    rw [g] at r
    intro ρ1 H1 vs F e1 rh1 rv1 hF hnd'
    have hv := rvm_len rv1
    refine ⟨by rw [hv]; exact hsmall, fun p hp => ⟨p, vs, rfl, .inl (.inl upd_same), by rw [hv, hlen], by rw [hv, hlen], r ρ1 H1 vs F e1 rh1 rv1 hF hnd' _ ⟨p, vs, hp, rfl⟩⟩⟩
end
end D
end

section
namespace D
open PySem L2

theorem ExtS.wk {b : Bool} {ρ ρ' : List Addr} {ow ow' : List (Nat × Addr)} {H H' : Hp} (e : ExtS true ρ ow H ρ' ow' H') : ExtS b ρ ow H ρ' ow' H' := ⟨e.pre, fun a o _ w k => e.keep a o (.inl rfl) w k, e.live, e.own⟩

section
open PyProof.Rows
variable {X : Cx}
def rGet2 (K : PySem.W.Frag) : R2 := fun x y H Q => rIxL K x y H Q ∨ rIxD x y H Q
theorem get2 (hu : X.A.units + 1 < cLine) : PGet X (rGet2 X.K) := by
  intro pins s σ H x y v u Q I rx ry h
  rcases h with h | h
  · obtain ⟨p, xs, i, z, rfl, rfl, hq, he, q⟩ := h
    cases rx
    obtain ⟨t, rfl⟩ := ry
    obtain ⟨its, r, pl, hz⟩ := I.list hq
    obtain ⟨j, h1, h2, h3, h4, h5⟩ := atI_get he
    obtain ⟨w, ew, rw'⟩ := r.get h2
    have hl := r.length
    have hn := line63
    have fin : EP X pins σ Q w s := ⟨z, H, I, rw', q⟩
    by_cases h0 : 0 ≤ i
    · have hj : i.toNat = j := by
        rw [seqIndex_of h0 h5] at h1
        exact Option.some.inj h1
      exact wpAny_getItem_list pl.isList h0 (by omega) (by rw [hj]; simpa using ew) fin
    · have hj : (i + (its.toArray.size : Int)).toNat = j := by
        rw [seqIndex_neg (by omega) h4] at h1
        rw [List.size_toArray, ← hl]
        exact Option.some.inj h1
      exact wpAny_getItem_list_neg pl.isList (by omega) (by rw [List.size_toArray] <;> omega) (by omega) (by rw [hj]; simpa using ew) fin
  · obtain ⟨p, z, rfl, g, q⟩ := h
    cases rx
    exact d_getItem hu I g ry fun w' s' I' rw' => ⟨z, H, I', rw', q⟩
def rSet2 : TSet := fun o i v H Q => rSetL o i v H Q ∨ rSetD o i v H Q
theorem set2 (hu : X.A.units + 1 < cLine) : PSet X rSet2 := by
  intro pins s σ H o i v ov iv u Q I ro ri rv h
  rcases h with h | h
  · exact set_list pins s σ H o i v ov iv u Q I ro ri rv h
  · exact set_dict hu pins s σ H o i v ov iv u Q I ro ri rv h
end
section
variable {P : Pm} {ρ : List Addr} {B : Addr → Prop} {H : Hp} {h h' : AH} {i : Nat} {kv w : AV} {x y v : V} {Qh : Hp → Prop}
theorem key_of {k : AV} {u : V} (hk : flatK k = true) (r : RVb P.K ρ B H k u) : ∃ k', keyOf k = some k' ∧ u = kV k' := by
  cases k with
  | int i => exact ⟨.inl i, rfl, rv_int r⟩
  | str s => exact ⟨.inr s, rfl, rv_str r⟩
  | _ => cases hk
theorem put_at (rh : RH P ρ B H h) (rx : RVb P.K ρ B H (.ref i) x) (ry : RVb P.K ρ B H kv y) (rv : RV P.K ρ B H w v) (e : hput1 i kv w h = some h') (q : ∀ H', Ext false ρ H ρ H' → RH P ρ B H' h' → Qh H') : rSet2 x y v H Qh := by
  rcases rx with rx | ⟨_, _, _, _, _, rx⟩
  case inr => exact rx.elim
  unfold RV at rx
  obtain ⟨a, rfl, ha⟩ := rx
  have hm : a ∈ ρ := List.mem_of_getElem? ha
  unfold hput1 at e
  split at e
  · rename_i xs hx
    obtain ⟨z, ez, e⟩ := Option.bind_eq_some_iff.mp e
    obtain ⟨j, ej, rfl⟩ := Option.map_eq_some_iff.mp e
    obtain ⟨u, hH, vs, rfl, rvs⟩ := rh.at ha hx
    have : kv = .int z := by
      cases kv <;> simp [iOf] at ez
      rw [ez]
    subst this
    refine .inl ⟨a, vs, z, j, rfl, rv_int ry, hH, by rw [← rvs.len]; exact ej, q _ (Ext.put hm) (rh.put ha ⟨_, rfl, RVs.set rv j rvs⟩)⟩
  · rename_i kvs hx
    split at e
    · rename_i hc
      cases e
      rw [Bool.and_eq_true, decide_eq_true_eq] at hc
      obtain ⟨u, hH, us, rfl, rks⟩ := rh.at ha hx
      obtain ⟨k', hk, rfl⟩ := key_of hc.1 ry
      exact .inr ⟨a, _, rfl, DPut.k hH (by rw [← rks.len]; exact hc.2), q _ (Ext.put hm) (rh.put ha ⟨_, rfl, dput_val hk rv rks⟩)⟩
    · cases e
  · cases e
theorem get_b {av xv : AV} {Q : VK} (rh : RH P ρ B H h) (rx : RVb P.K ρ B H av x) (ry : RVb P.K ρ B H kv y) (e : getH av kv h = some xv) (q : ∀ z, RV P.K ρ B H xv z → Q z H) : rGet2 P.K x y H Q := by
  unfold getH at e
  cases er : rl h av with
  | some xs =>
    rw [er] at e
    obtain ⟨a1, vs, e1, h1, g1⟩ := rv_rl rh rx er
    have e' : atA xs kv = some xv := e
    unfold atA at e'
    cases ek : iOf kv with
    | none => rw [ek] at e'; cases e'
    | some k =>
      rw [ek] at e'
      have eb : kv = .int k := by cases kv <;> first | (cases ek; rfl) | cases ek
      subst eb
      obtain ⟨u, e2, g2⟩ := at_rv g1 (show atI xs k = some xv from e')
      exact .inl ⟨a1, vs, k, u, e1, rv_int ry, h1, e2, q u g2⟩
  | none =>
    rw [er] at e
    cases ed : dv h av with
    | none => rw [ed] at e; cases e
    | some kvs =>
      rw [ed] at e
      have e' : atK kvs kv = some xv := e
      unfold atK at e'
      split at e'
      · rename_i hk
        obtain ⟨a1, us, e1, h1, g1⟩ := rv_dv rh rx ed
        obtain ⟨k', hk', e2⟩ := key_kv hk ry
        obtain ⟨u, g3, g4⟩ := (dlook_val hk' g1).1 xv e'
        refine .inr ⟨a1, u, e1, ?_, q u g4⟩
        rw [e2, ← g3]
        exact .inl ⟨us, k', h1, rfl, rfl⟩
      · cases e'
end
section
variable {P : Pm} {X : Cx} {W : WX} {N Nb Nx N' : List Nat} {e k o i d : Expr} {es : List Expr} {pos tpos : Pos} {ma mb mc mo mk : EV} {f : AV → AV → AH → ER}
theorem rf_of {ov : AV} {kv w : AV} {h h' : AH} (e : ((rfOf ov).bind fun i => hput1 i kv w h) = some h') : ∃ i, ov = .ref i ∧ hput1 i kv w h = some h' := by
  cases ov with
  | ref i => exact ⟨i, rfl, e⟩
  | _ => cases e
theorem ds_hput (hu : X.A.units + 1 < cLine) (he : DE P X false W N e ma) (ho : DE P X false W N o mo) (hk : DB P X false W N k mk) (hx : Kept N Nx := by decide)
    (hs : swapsWithSole [.Subscript o k tpos] e pos.line X.env = pure false := by rfl) (hw : swappedStores [.Subscript o k tpos] e X.env = pure none := by rfl)
    (h1 : (assignEach [.Subscript o k tpos] X.env).map (·.2) = [assign (.Subscript o k tpos) X.env] := by rfl)
    (ha : ∀ v, assign (.Subscript o k tpos) X.env v = (do
      let ov ← holding [v] (eval o X.env)
      let iv ← holding [v, ov] (eval k X.env)
      standAt (Expr.pos (.Subscript o k tpos))
      holding [v, ov, iv] (setItem ov iv v)
      release [v, ov, iv] []) := by intro _; rfl) :
    DS P X false W N Nb Nx N (.Assign [.Subscript o k tpos] e pos) (hputS mo mk ma) := by
  refine ⟨ps_weak (ps_asg he.pe (pg_sub ho.pe hk.pe (set2 hu) ha) hs hw h1) ?_⟩
  rintro D σ H ⟨ρ, B, ow, σa, h, rh, rs, rfl, q⟩
  refine ⟨ρ, B, ow, σa, h, rh, rs, rfl, (toS_post rs rfl hx q).imp ?_⟩
  rintro v H1 ⟨ρ1, av, h1, e1, rh1, rv1, q1⟩
  refine ⟨ρ1, B, ow, σa, h1, rh1, rs.ext e1, rfl, (toS_post (rs.ext e1) rfl hx q1).imp ?_⟩
  rintro ov H2 ⟨ρ2, oa, h2, e2, rh2, rv2, q2⟩
  have rs2 := (rs.ext e1).ext e2
  refine ⟨ρ2, B, ow, σa, h2, rh2, rs2, rfl, (toS_postB rs2 rfl hx q2).imp ?_⟩
  rintro kv H3 ⟨ρ3, ka, h3, e3, rh3, rv3, q3⟩
  cases g : (rfOf oa).bind fun i => hput1 i ka av h3 with
  | none => rw [g] at q3; exact q3.elim
  | some h4 =>
    rw [g] at q3
    obtain ⟨i, rfl, e4⟩ := rf_of g
    refine put_at rh3 (.inl (rv2.ext e3)) rv3 ((rv1.ext e2).ext e3) e4 fun H4 ee rh4 => ?_
    exact q3 ρ3 ow H4 σ (ExtS.of ee) rh4 ((rs2.ext e3).ext ee) rfl
theorem ds_haug {op : Operator} {ti : TIp} (hu : X.A.units + 1 < cLine) (hK : P.K = X.K) (hp : PIp X op ti) (hv : VIp P false f ti) (ho : DE P X false W N o mo) (hk : DE P X false W N k mk) (he : DB P X false W N e ma) (hx : Kept N Nx := by decide)
    (ha : ∀ ov iv new, augStore k ov iv new = (do holding [new, ov, iv] (setItem ov iv new); release [new, ov, iv] []; pure .next) := by intros; rfl) :
    DS P X false W N Nb Nx N (.AugAssign (.Subscript o k tpos) op e pos) (hputAugS f mo mk ma) := by
  refine ⟨ps_weak (ps_augS ho.pe hk.pe (get2 hu) he.pe hp (set2 hu) ha) ?_⟩
  rintro D σ H ⟨ρ, B, ow, σa, h, rh, rs, rfl, q⟩
  refine ⟨ρ, B, ow, σa, h, rh, rs, rfl, (toS_post rs rfl hx q).imp ?_⟩
  rintro ov H1 ⟨ρ1, oa, h1, e1, rh1, rv1, q1⟩
  refine ⟨ρ1, B, ow, σa, h1, rh1, rs.ext e1, rfl, (toS_post (rs.ext e1) rfl hx q1).imp ?_⟩
  rintro kv H2 ⟨ρ2, ka, h2, e2, rh2, rv2, q2⟩
  have rs2 := (rs.ext e1).ext e2
  cases g : (rfOf oa).bind fun i => getH (.ref i) ka h2 with
  | none => rw [g] at q2; exact q2.elim
  | some xv =>
    rw [g] at q2
    obtain ⟨i, rfl, gx⟩ : ∃ i, oa = .ref i ∧ getH (.ref i) ka h2 = some xv := by
      cases oa with
      | ref i => exact ⟨i, rfl, g⟩
      | _ => cases g
    rw [← hK]
    refine get_b rh2 (.inl (rv1.ext e2)) (.inl rv2) gx fun z rz => ?_
    refine ⟨ρ2, B, ow, σa, h2, rh2, rs2, rfl, (toS_postB rs2 rfl hx q2).imp ?_⟩
    rintro y H3 ⟨ρ3, ya, h3, e3, rh3, rv3, q3⟩
    refine hv W ρ3 (Bo B ow) σ H3 xv ya h3 z y _ rh3 (rz.ext e3) rv3 ((toS_post (rs2.ext e3) rfl hx q3).imp ?_)
    rintro w H4 ⟨ρ4, wa, h4, e4, rh4, rv4, q4⟩
    cases g4 : hput1 i ka wa h4 with
    | none =>
      have : ((rfOf (.ref i)).bind fun i => hput1 i ka wa h4) = none := g4
      rw [this] at q4; exact q4.elim
    | some h5 =>
      have : ((rfOf (.ref i)).bind fun i => hput1 i ka wa h4) = some h5 := g4
      rw [this] at q4
      refine put_at rh4 (.inl (((rv1.ext e2).ext e3).ext e4)) (.inl ((rv2.ext e3).ext e4)) rv4 g4 fun H5 ee rh5 => ?_
      exact q4 ρ4 ow H5 σ (ExtS.of ee) rh5 (((rs2.ext e3).ext e4).ext ee) rfl
/-- o.append(v) -/
theorem de_happ {apos cpos : Pos} (ho : DE P X false W N o mo) (he : DE P X false W N e ma)
    (hbase : attributeBase o "append" X.env (eval o X.env) = eval o X.env := by rfl)
    (hfew : ((backTo cpos (starEach (e :: []) X.env)).all (fun x => !x.1) && (backToKw cpos (keywordEach [] X.env)).all (fun x => x.1.isSome)
      && decide ((e :: []).length + ([] : List Keyword).length + (if ([] : List Keyword).isEmpty then 0 else 1) < 30)) = true := by rfl)
    (hline : (apos.endLine == cpos.line) = true := by rfl) (hs : starEach (e :: []) X.env = (false, eval e X.env) :: starEach [] X.env := by rfl) (hplain : (backTo cpos (starEach [] X.env)).any (·.1) = false := by rfl) :
    DE P X false W N (.Call (.Attribute o "append" apos) [e] [] cpos) (happD mo ma) := by
  refine ⟨pe_weak (pe_bm PySem.F.plainAttrs_list PySem.F.slot_list_append PySem.F.type_list_append mt_append ho.pe (pa_cons he.pe pa_nil hs) hbase hfew hline hs hplain) ?_⟩
  rintro σ H Q ⟨ρ, B, ow, σa, h, rh, rs, hN, q⟩
  refine ⟨ρ, B, ow, σa, h, rh, rs, hN, (EPost.bind q).imp ?_⟩
  rintro ov H1 ⟨ρ1, oa, h1, e1, rh1, rv1, q1⟩
  cases g : (rfOf oa).bind fun i => if isHL h1 i then some i else none with
  | none => rw [g] at q1; exact q1.elim
  | some i =>
    rw [g] at q1
    obtain ⟨rfl, gi⟩ : oa = .ref i ∧ isHL h1 i = true := by
      cases oa with
      | ref j =>
        have g' : (if isHL h1 j = true then some j else none) = some i := g
        split at g'
        · rename_i hh; cases g'; exact ⟨rfl, hh⟩
        · cases g'
      | _ => cases g
    unfold RV at rv1
    obtain ⟨a, rfl, ha⟩ := rv1
    have ty : tyV X.K "list" (.ref a) H1 := by
      unfold isHL at gi
      split at gi
      · rename_i xs hx
        obtain ⟨u, hH, vs, rfl, _⟩ := rh1.at ha hx
        exact .inl ⟨rfl, vs, SqL.of hH⟩
      · cases gi
    refine ⟨ty, ρ1, B, ow, σa, h1, rh1, rs.ext e1, hN, (EPost.bind q1).imp ?_⟩
    rintro v H2 ⟨ρ2, va, h2, e2, rh2, rv2, q2⟩
    unfold happV at q2
    dsimp only at q2
    split at q2
    · rename_i xs hx
      split at q2
      · rename_i hl
        have ha2 := e2.get ha
        obtain ⟨u, hH, vs, rfl, rvs⟩ := rh2.at ha2 hx
        refine ⟨a, vs, v, rfl, rfl, hH, by rw [← rvs.len]; exact hl, ?_⟩
        exact q2 ρ2 _ _ (Ext.put (List.mem_of_getElem? ha2)) (rh2.put ha2 ⟨_, rfl, rvs.app (RVs.cons rv2 RVs.nil)⟩) mk_non
      · exact q2.elim
    · exact q2.elim

section
variable {b : Bool}
theorem own_at {ρ : List Addr} {B : Addr → Prop} {ow : List (Nat × Addr)} {H : Hp} {σa : AS} {σ : St} (rs : RS P ρ B ow H σa σ) {j : Nat} (hj : j ∈ ow.map (·.1)) : ∃ a av u, (j, a) ∈ ow ∧ σa[j]? = some (some av) ∧ σ[j]? = some (some (.ref a)) ∧ H a = some u ∧ OV P.K ρ (Bo B ow) H av u := by
  obtain ⟨p, hp, rfl⟩ := List.mem_map.mp hj
  obtain ⟨av, u, h1, h2, h3, h4⟩ := rs.own p hp
  exact ⟨p.2, av, u, hp, h1, h2, h3, h4⟩
theorem ownput_at {ρ : List Addr} {B : Addr → Prop} {ow : List (Nat × Addr)} {H : Hp} {h : AH} {σa σa' : AS} {σ : St} {D : Ends} {j : Nat} {kv w : AV} {y v : V} {a : Addr} {av : AV} {u : HO} (rh : RH P ρ (Bo B ow) H h) (rs : RS P ρ B ow H σa σ) (hm : (j, a) ∈ ow) (h1 : σa[j]? = some (some av)) (h3 : H a = some u) (h4 : OV P.K ρ (Bo B ow) H av u)
    (ry : RVb P.K ρ (Bo B ow) H kv y) (rv : RV P.K ρ (Bo B ow) H w v) (e : ownPut σa j kv w = some σa') (q : SPost P b W Nb Nx (ow.map (·.1)) ρ B ow H D (.nx σa' h)) : rSet2 (.ref a) y v H (fun H' => D.nx σ H') := by
  have fin : ∀ av' u', OV P.K ρ (Bo B ow) H av' u' → σa' = σa.set j (some av') → D.nx σ (upd H a u') := fun av' u' ov es => by
    obtain ⟨rs', ee⟩ := rs.chg hm ov
    rw [es] at q
    exact q ρ ow _ σ ee.wk (rh.chg rs hm) rs' rfl
  unfold ownPut at e
  rw [h1] at e
  cases av with
  | lst xs =>
    obtain ⟨z, ez, e⟩ := Option.bind_eq_some_iff.mp e
    obtain ⟨l, ej, rfl⟩ := Option.map_eq_some_iff.mp e
    obtain ⟨vs, rfl, rvs⟩ := h4
    have : kv = .int z := by
      cases kv <;> simp [iOf] at ez
      rw [ez]
    subst this
    exact .inl ⟨a, vs, z, l, rfl, rv_int ry, h3, by rw [← rvs.len]; exact ej, fin (.lst (xs.set l w)) _ ⟨_, rfl, RVs.set rv l rvs⟩ rfl⟩
  | dct kvs =>
    dsimp only at e
    split at e
    · rename_i hc
      cases e
      rw [Bool.and_eq_true, decide_eq_true_eq] at hc
      obtain ⟨us, rfl, rks⟩ := h4
      obtain ⟨k', hk, rfl⟩ := key_of hc.1 ry
      exact .inr ⟨a, _, rfl, DPut.k h3 (by rw [← rks.len]; exact hc.2), fin (.dct (dput kvs kv w)) _ ⟨_, rfl, dput_val hk rv rks⟩ rfl⟩
    · cases e
  | _ => cases e
theorem ds_put {j : Nat} {x : Str} {xp : Pos} (hu : X.A.units + 1 < cLine) (hj : X.N[j]? = some x) (hv : Vis X.env.scope x) (he : DE P X b W N e ma) (hk : DB P X b W N k mk) (hNj : j ∈ N := by decide) (hx : Kept N Nx := by decide) (hd : (x == ("__debug__" : Str)) = false := by decide) (hcd : (x == ("__classdict__" : Str)) = false := by decide)
    (hs : swapsWithSole [.Subscript (.Name x xp) k tpos] e pos.line X.env = pure false := by rfl) (hw : swappedStores [.Subscript (.Name x xp) k tpos] e X.env = pure none := by rfl)
    (h1 : (assignEach [.Subscript (.Name x xp) k tpos] X.env).map (·.2) = [assign (.Subscript (.Name x xp) k tpos) X.env] := by rfl)
    (ha : ∀ v, assign (.Subscript (.Name x xp) k tpos) X.env v = (do
      let ov ← holding [v] (eval (.Name x xp) X.env)
      let iv ← holding [v, ov] (eval k X.env)
      standAt (Expr.pos (.Subscript (.Name x xp) k tpos))
      holding [v, ov, iv] (setItem ov iv v)
      release [v, ov, iv] []) := by intro _; rfl) :
    DS P X b W N Nb Nx N (.Assign [.Subscript (.Name x xp) k tpos] e pos) (putS j mk ma) := by
  refine ⟨ps_weak (ps_asg he.pe (pg_sub (pe_var hj hv hd hcd) hk.pe (set2 hu) ha) hs hw h1) ?_⟩
  rintro D σ H ⟨ρ, B, ow, σa, h, rh, rs, rfl, q⟩
  refine ⟨ρ, B, ow, σa, h, rh, rs, rfl, (toS_post rs rfl hx q).imp ?_⟩
  rintro v H1 ⟨ρ1, av, h1, e1, rh1, rv1, q1⟩
  obtain ⟨a, _, _, hm, _, h2, _, _⟩ := own_at rs hNj
  refine ⟨.ref a, h2, ρ1, B, ow, σa, h1, rh1, rs.ext e1, rfl, (toS_postB (rs.ext e1) rfl hx q1).imp ?_⟩
  rintro kv H2 ⟨ρ2, ka, h3, e2, rh2, rv2, q2⟩
  have rs2 := (rs.ext e1).ext e2
  cases g : ownPut σa j ka av with
  | none => rw [g] at q2; exact q2.elim
  | some σa' =>
    rw [g] at q2
    obtain ⟨av', u, g1, g2, g3, g4⟩ := rs2.own _ hm
    exact ownput_at rh2 rs2 hm g1 g3 g4 rv2 (rv1.ext e2) g q2
theorem ds_putAug {j : Nat} {x : Str} {xp : Pos} {op : Operator} {ti : TIp} (hu : X.A.units + 1 < cLine) (hK : P.K = X.K) (hj : X.N[j]? = some x) (hvis : Vis X.env.scope x) (hp : PIp X op ti) (hv : VIp P b f ti) (hk : DE P X b W N k mk) (he : DB P X b W N e ma) (hNj : j ∈ N := by decide) (hx : Kept N Nx := by decide) (hd : (x == ("__debug__" : Str)) = false := by decide) (hcd : (x == ("__classdict__" : Str)) = false := by decide)
    (ha : ∀ ov iv new, augStore k ov iv new = (do holding [new, ov, iv] (setItem ov iv new); release [new, ov, iv] []; pure .next) := by intros; rfl) :
    DS P X b W N Nb Nx N (.AugAssign (.Subscript (.Name x xp) k tpos) op e pos) (putAugS j f mk ma) := by
  refine ⟨ps_weak (ps_augS (pe_var hj hvis hd hcd) hk.pe (get2 hu) he.pe hp (set2 hu) ha) ?_⟩
  rintro D σ H ⟨ρ, B, ow, σa, h, rh, rs, rfl, q⟩
  obtain ⟨a, _, _, hm, _, h2, _, _⟩ := own_at rs hNj
  refine ⟨.ref a, h2, ρ, B, ow, σa, h, rh, rs, rfl, (toS_post rs rfl hx q).imp ?_⟩
  rintro kv H1 ⟨ρ1, ka, h1, e1, rh1, rv1, q1⟩
  have rs1 := rs.ext e1
  obtain ⟨av', u, g1, g2, g3, g4⟩ := rs1.own _ hm
  cases g : ownGet σa j ka with
  | none => rw [g] at q1; exact q1.elim
  | some xv =>
    rw [g] at q1
    have gx : getH av' ka h1 = some xv := by
      unfold ownGet at g
      rw [g1] at g
      cases av' with
      | lst xs => exact g
      | dct kvs => exact g
      | _ => cases g
    rw [← hK]
    refine get_b rh1 (.inr ⟨a, u, rfl, (rs1.out _ hm).1, g3, g4⟩) (.inl rv1) gx fun z rz => ?_
    refine ⟨ρ1, B, ow, σa, h1, rh1, rs1, rfl, (toS_postB rs1 rfl hx q1).imp ?_⟩
    rintro y H3 ⟨ρ3, ya, h3, e3, rh3, rv3, q3⟩
    refine hv W ρ3 (Bo B ow) σ H3 xv ya h3 z y _ rh3 (rz.ext e3) rv3 ((toS_post (rs1.ext e3) rfl hx q3).imp ?_)
    rintro w H4 ⟨ρ4, wa, h4, e4, rh4, rv4, q4⟩
    have rs4 := (rs1.ext e3).ext e4
    obtain ⟨av4, u4, k1, k2, k3, k4⟩ := rs4.own _ hm
    cases g5 : ownPut σa j ka wa with
    | none => rw [g5] at q4; exact q4.elim
    | some σa' =>
      rw [g5] at q4
      exact ownput_at rh4 rs4 hm k1 k3 k4 (.inl ((rv1.ext e3).ext e4)) rv4 g5 q4
/-- xs.append(e), xs a name's own list -/
theorem ds_append {j : Nat} {x : Str} {xp apos cpos : Pos} (hj : X.N[j]? = some x) (hv : Vis X.env.scope x) (he : DE P X b W N e ma) (hNj : j ∈ N := by decide) (hx : Kept N Nx := by decide) (hd : (x == ("__debug__" : Str)) = false := by decide) (hcd : (x == ("__classdict__" : Str)) = false := by decide)
    (hbase : attributeBase (.Name x xp) "append" X.env (eval (.Name x xp) X.env) = eval (.Name x xp) X.env := by rfl)
    (hfew : ((backTo cpos (starEach (e :: []) X.env)).all (fun x => !x.1) && (backToKw cpos (keywordEach [] X.env)).all (fun x => x.1.isSome)
      && decide ((e :: []).length + ([] : List Keyword).length + (if ([] : List Keyword).isEmpty then 0 else 1) < 30)) = true := by rfl)
    (hline : (apos.endLine == cpos.line) = true := by rfl) (hs : starEach (e :: []) X.env = (false, eval e X.env) :: starEach [] X.env := by rfl) (hplain : (backTo cpos (starEach [] X.env)).any (·.1) = false := by rfl)
    (hsw : swapsWith (.Call (.Attribute (.Name x xp) "append" apos) [e] [] cpos) none pos.line X.env = pure false := by rfl) :
    DS P X b W N Nb Nx N (.Expr (.Call (.Attribute (.Name x xp) "append" apos) [e] [] cpos) pos) (appendS j ma) := by
  refine ⟨ps_weak (ps_expr (pe_bm PySem.F.plainAttrs_list PySem.F.slot_list_append PySem.F.type_list_append mt_append (pe_var hj hv hd hcd) (pa_cons he.pe pa_nil hs) hbase hfew hline hs hplain) hsw) ?_⟩
  rintro D σ H ⟨ρ, B, ow, σa, h, rh, rs, rfl, q⟩
  obtain ⟨a, av, u, hm, h1, h2, h3, h4⟩ := own_at rs hNj
  unfold appendS ownL at q
  rw [h1] at q
  cases av with
  | lst xs =>
    obtain ⟨vs, rfl, rvs⟩ := h4
    refine ⟨.ref a, h2, .inl ⟨rfl, vs, SqL.of h3⟩, ρ, B, ow, σa, h, rh, rs, rfl, (toS_post rs rfl hx q).imp ?_⟩
    rintro v H1 ⟨ρ1, va, h1', e1, rh1, rv1, q1⟩
    by_cases hl : xs.length < LIM
    · rw [if_pos hl] at q1
      have rs1 := rs.ext e1
      have hH : H1 a = some (.lst vs) := e1.keep _ _ (.inr (rs.out _ hm).1) h3
      refine ⟨a, vs, v, rfl, rfl, hH, by rw [← rvs.len]; exact hl, ?_⟩
      obtain ⟨rs', ee⟩ := rs1.chg (av := .lst (xs ++ [va])) (u := .lst (vs ++ [v])) hm ⟨_, rfl, (rvs.ext e1).app (RVs.cons rv1 RVs.nil)⟩
      exact q1 ρ1 ow _ σ ee.wk (rh1.chg rs1 hm) rs' rfl
    · rw [if_neg hl] at q1
      exact q1.elim
  | _ => exact q.elim
end
end
end D
end

section
namespace D
open PySem L2

section
open PySem.W PySem.Calls PyProof.Rows PySem.SeqAt
/-- a list or tuple collected: where things stand then -/
theorem collect_lt {prog : Program} {w : World} {A : Around} {E : Value → Shared → Prop} {s : Shared} {at_ : Addr} {its : List Value} {T : String} {ob : Obj} {ep : Nat} {Q : List Value → Shared → Prop} (hT : T = "list" ∨ T = "tuple") (there : s.heap.get? at_ = some ob) (cl : ob.cls = .type T) (dat : ob.data = .seq its.toArray ep)
    (few : its.length ≤ sizeLine) (post : Q its { s with heap := (s.heap.push (seqObj "list" #[] 0)).update s.heap.objs.size (Obj.mapSeq (· ++ its.toArray)) }) : wpAny (model prog w) A (collect (.ref at_)) Q E s := by
  unfold collect
  refine wpAny_bind (wpAny_runValue (codeAny_builtin entry_proto_collect' ?_))
  show wpAny _ _ (newList [] >>= fun nl => again (.builtin "list.__iadd__" ⟨[nl, .ref at_], []⟩)) _ _ s
  refine wpAny_bind (wpAny_newList (wpAny_pure ⟨Code.quiet_builtin _ (by decide +kernel), codeAny_builtin entry_list_iadd' ?ext⟩))
  have there' : (s.heap.push (seqObj "list" #[] 0)).get? at_ = some ob := Heap.get?_push_of_some _ there
  have fresh : (s.heap.push (seqObj "list" #[] 0)).get? s.heap.objs.size = some (seqObj "list" #[] 0) := Heap.get?_push_size _ rfl
  show wpAny _ _ (Builtin.List.listExtendWith (.ref s.heap.objs.size) (.ref at_) (.ref s.heap.objs.size)) _ _ { s with heap := s.heap.push (seqObj "list" #[] 0) }
  unfold Builtin.List.listExtendWith
  refine wpAny_bind (wpAny_typeOf (T := T) ⟨ob, there', cl⟩ ?_)
  have t1 : (Value.type "list" == Value.type "list") = true := by rfl
  have t2 : (Value.type "tuple" == Value.type "tuple") = true := by rfl
  rw [if_pos (by rcases hT with rfl | rfl <;> simp only [t1, t2, Bool.or_true, Bool.true_or])]
  refine wpAny_bind (listItems_at there' dat ?_)
  refine wpAny_bind (listItems_at fresh rfl ?_)
  rw [if_neg (by simp)]
  have sz : ((#[] : Array Value) ++ its.toArray).size ≤ sizeLine + 1 := by
    simp only [Array.size_append, List.size_toArray, List.length_nil]
    omega
  refine wpAny_bind (listUpdate_at fresh rfl ?_ (Nat.zero_le _) sz)
  refine wpAny_pure ?_
  show wpAny (model prog w) A (load s.heap.objs.size >>= fun q => match q.data with | .seq zs _ => pure zs.toList | _ => unsupported "internal:collect") Q E _
  refine wpAny_bind (wpAny_load (get?_update_seq fresh _) ?_)
  show wpAny _ _ (pure ((#[] : Array Value) ++ its.toArray).toList) Q E _
  have eq : ((#[] : Array Value) ++ its.toArray).toList = its := by simp
  rw [eq]
  exact wpAny_pure post
theorem sorted_seq {prog : Program} {w : World} {A : Around} {E : Value → Shared → Prop} {s : Shared} {β : Type} {vs : List Value} {bs : List β} {enc : β → PyData} {R : Value → β → Prop} {l : Addr} {T : String} {o : Obj} {n : Nat} {Q : Value → Shared → Prop}
    (hT : T = "list" ∨ T = "tuple") (ho : s.heap.get? l = some o) (hc : o.cls = .type T) (hd : o.data = .seq vs.toArray n) (e : EachIs R vs bs) (er : EachIs (fun v b => ∃ as, Reads s.heap v (enc b) as) vs bs) (hal : AllAlike (bs.map enc)) (hk : Sortable (bs.map enc)) (hL : bs.length ≤ sizeLine)
    (hu : ∀ b, b ∈ bs → A.units + 2 + (enc b).depth < cLine) (h : ∀ (h' : Heap) (D : Addr) (out : List Value), (∀ b o, s.heap.get? b = some o → h'.get? b = some o) → s.heap.objs.size ≤ D → (∃ n, h'.get? D = some (seqObj "list" out.toArray n)) → EachIs R out (bs.mergeSort (dataLe false enc)) → Q (.ref D) { s with heap := h' }) :
    wpAny (model prog w) A (call (.builtin "sorted") [.ref l]) Q E s := by
  have hvs : vs.length ≤ sizeLine := by rw [e.length]; exact hL
  refine Calls.call_function_entry kind_sorted plain_sorted entry_sorted (args_sorted1 _) ?_
  unfold Builtin.«sorted»
  refine wpAny_bind (m := checkCount "sorted" 1 1 _) (wpAny_pure ?_)
  refine wpAny_bind (collect_lt hT ho hc hd hvs ?_)
  have z1 : s.heap.objs.size ≤ ((s.heap.push (seqObj "list" #[] 0)).update s.heap.objs.size (Obj.mapSeq (· ++ vs.toArray))).objs.size := by
    rw [Heap.size_update, size_push']
    exact Nat.le_succ _
  have k1 : ∀ b o, s.heap.get? b = some o → ((s.heap.push (seqObj "list" #[] 0)).update s.heap.objs.size (Obj.mapSeq (· ++ vs.toArray))).get? b = some o := fun b o q => by
    rw [Heap.get?_update_ne _ _ _ _ (Nat.ne_of_lt (Heap.lt_size q))]
    exact Heap.get?_push_of_some _ q
  generalize (s.heap.push (seqObj "list" #[] 0)).update s.heap.objs.size (Obj.mapSeq (· ++ vs.toArray)) = h1 at z1 k1 ⊢
  refine wpAny_bind (wpAny_newList ?_ hvs)
  have hoL : (h1.push (seqObj "list" vs.toArray 0)).get? h1.objs.size = some (seqObj "list" vs.toArray 0) := Heap.get?_push_size _ rfl
  have k2 : ∀ b o, s.heap.get? b = some o → (sortingHeap (h1.push (seqObj "list" vs.toArray 0)) h1.objs.size vs).get? b = some o := fun b o q =>
    sortingHeap_old (Nat.ne_of_lt (Heap.lt_size (k1 b o q))) (Heap.get?_push_of_some _ (k1 b o q))
  have er' : EachIs (fun v b => ∃ as, Reads (sortingHeap (h1.push (seqObj "list" vs.toArray 0)) h1.objs.size vs) v (enc b) as) vs bs := er.mono fun _ _ ⟨as, r⟩ => ⟨as, PyProof.Rows.Reads.keeps (fun b o q => k2 b o q) r⟩
  have S : SortsAt prog w A.in1.in1 { s with heap := sortingHeap (h1.push (seqObj "list" vs.toArray 0)) h1.objs.size vs } (dataKind (sortingHeap (h1.push (seqObj "list" vs.toArray 0)) h1.objs.size vs) (bs.map enc)) vs :=
    SortsAt.data (s := { s with heap := sortingHeap (h1.push (seqObj "list" vs.toArray 0)) h1.objs.size vs }) (each_map (R := fun v d => ∃ as, Reads (sortingHeap (h1.push (seqObj "list" vs.toArray 0)) h1.objs.size vs) v d as) enc er') hal hk (bound_map hu)
  refine wpAny_bind (wpAny_holding (wpAny_call_entry (s := { s with heap := h1.push (seqObj "list" vs.toArray 0) }) slot_list_sort ⟨_, hoL, rfl⟩ entry_list_sort (list_sort_vals (s := { s with heap := h1.push (seqObj "list" vs.toArray 0) }) hoL S hvs ⟨_, rfl, ?_⟩) (args_list_sort _)))
  obtain ⟨c, hcc⟩ := sortedHeap_at (vs := vs) (out := (sortVals (dataKind (sortingHeap (h1.push (seqObj "list" vs.toArray 0)) h1.objs.size vs) (bs.map enc)) false vs vs).toArray) hoL
  refine wpAny_pure ⟨_, rfl, h _ h1.objs.size (sortVals (dataKind (sortingHeap (h1.push (seqObj "list" vs.toArray 0)) h1.objs.size vs) (bs.map enc)) false vs vs) (fun b u q => ?_) ?_ ⟨c, hcc⟩ (sortVals_data false e er' hal)⟩
  · have q1 := k1 b u q
    have hlt := Heap.lt_size q1
    rw [sortedHeap_old (Nat.ne_of_lt hlt) (by rw [size_push']; exact Nat.lt_succ_of_lt hlt)]
    exact Heap.get?_push_of_some _ q1
  · exact z1
end

mutual
theorem alike_of : ∀ (n m : Nat) (x y : AV), x.dl n = true → y.dl m = true → PySem.W.alike x.toD y.toD = x.co y
  | n, m, x, y, hx, hy => by
    rcases dl_cases hx with rfl | ⟨b, rfl⟩ | ⟨i, rfl⟩ | ⟨s, rfl⟩ | ⟨n', xs, rfl, rfl, hx'⟩ | ⟨n', xs, rfl, rfl, hx'⟩ <;>
      rcases dl_cases hy with rfl | ⟨b', rfl⟩ | ⟨i', rfl⟩ | ⟨s', rfl⟩ | ⟨m', ys, rfl, rfl, hy'⟩ | ⟨m', ys, rfl, rfl, hy'⟩ <;>
      first
      | (simp only [AV.toD, PySem.W.alike, AV.co]; done)
      | (simp only [AV.toD, PySem.W.alike, AV.co]; exact alikes_of n' m' xs ys (List.all_eq_true.mp hx') (List.all_eq_true.mp hy'))
theorem alikes_of : ∀ (n m : Nat) (xs ys : List AV), (∀ x ∈ xs, x.dl n = true) → (∀ y ∈ ys, y.dl m = true) → PySem.W.alikeAll (AV.toDs xs) (AV.toDs ys) = AV.coL xs ys
  | _, _, [], [], _, _ => by simp [AV.toDs, PySem.W.alikeAll, AV.coL]
  | _, _, [], _ :: _, _, _ => by simp [AV.toDs, PySem.W.alikeAll, AV.coL]
  | _, _, _ :: _, [], _, _ => by simp [AV.toDs, PySem.W.alikeAll, AV.coL]
  | n, m, x :: xs, y :: ys, hx, hy => by
    simp only [AV.toDs, PySem.W.alikeAll, AV.coL]
    rw [alike_of n m x y (hx x List.mem_cons_self) (hy y List.mem_cons_self), alikes_of n m xs ys (fun z hz => hx z (List.mem_cons_of_mem _ hz)) fun z hz => hy z (List.mem_cons_of_mem _ hz)]
end
theorem lt_nil : PyProof.Rows.lexLt PyProof.Rows.itemOrd (PySem.W.keyToksAll []) (PySem.W.keyToksAll []) = false := PyProof.Rows.lex_irrefl _
theorem lt_bl (a c : Bool) : PySem.W.dataLt (.bool a) (.bool c) = (!a && c) := by
  rw [PySem.W.dataLt_bool]
  cases a <;> cases c <;> rfl
mutual
theorem lt_of : ∀ (n m : Nat) (x y : AV), x.dl n = true → y.dl m = true → x.co y = true → x ≠ .non → PySem.W.dataLt x.toD y.toD = x.lt y
  | n, m, x, y, hx, hy, hc, hn => by
    rcases dl_cases hx with rfl | ⟨b, rfl⟩ | ⟨i, rfl⟩ | ⟨s, rfl⟩ | ⟨n', xs, rfl, rfl, hx'⟩ | ⟨n', xs, rfl, rfl, hx'⟩ <;>
      rcases dl_cases hy with rfl | ⟨b', rfl⟩ | ⟨i', rfl⟩ | ⟨s', rfl⟩ | ⟨m', ys, rfl, rfl, hy'⟩ | ⟨m', ys, rfl, rfl, hy'⟩ <;>
      first
      | exact absurd rfl hn
      | (simp only [AV.co] at hc; done)
      | (exfalso; simp [AV.co] at hc; done)
      | (simp only [AV.toD, AV.lt]; exact lt_bl _ _)
      | (simp only [AV.toD, AV.lt]; exact PySem.W.dataLt_int _ _)
      | (simp only [AV.toD, AV.lt]; exact PySem.W.dataLt_str _ _)
      | (simp only [AV.toD, AV.lt]; rw [PySem.W.dataLt_tuple]; exact lts_of n' m' xs ys (List.all_eq_true.mp hx') (List.all_eq_true.mp hy') (by simpa [AV.co] using hc))
      | (simp only [AV.toD, AV.lt]; rw [PySem.W.dataLt_list]; exact lts_of n' m' xs ys (List.all_eq_true.mp hx') (List.all_eq_true.mp hy') (by simpa [AV.co] using hc))
theorem lts_of : ∀ (n m : Nat) (xs ys : List AV), (∀ x ∈ xs, x.dl n = true) → (∀ y ∈ ys, y.dl m = true) → AV.coL xs ys = true → PyProof.Rows.lexLt PyProof.Rows.itemOrd (PySem.W.keyToksAll (AV.toDs xs)) (PySem.W.keyToksAll (AV.toDs ys)) = AV.ltL xs ys
  | _, _, [], [], _, _, _ => by
    simp only [AV.toDs, AV.ltL]
    exact lt_nil
  | _, _, [], _ :: _, _, _, _ => by
    simp only [AV.toDs, AV.ltL]
    rw [PySem.W.toks_all_cons]
    simp only [PySem.W.keyToksAll]
    rw [PySem.W.lex_atom (by simp)]
    rfl
  | _, _, _ :: _, [], _, _, _ => by
    simp only [AV.toDs, AV.ltL]
    rw [PySem.W.toks_all_cons]
    simp only [PySem.W.keyToksAll]
    rw [PySem.W.lex_atom (by simp)]
    rfl
  | n, m, x :: xs, y :: ys, hx, hy, hc => by
    simp only [AV.toDs, AV.ltL]
    rw [AV.coL, Bool.and_eq_true] at hc
    have hx1 := hx x List.mem_cons_self
    have hy1 := hy y List.mem_cons_self
    rw [PySem.W.dataLt_cons (by rw [alike_of n m x y hx1 hy1]; exact hc.1), eqv_of n m x y hx1 hy1]
    by_cases e : x.eq y = true
    · rw [if_pos e, if_pos e]
      exact lts_of n m xs ys (fun z hz => hx z (List.mem_cons_of_mem _ hz)) (fun z hz => hy z (List.mem_cons_of_mem _ hz)) hc.2
    · rw [if_neg e, if_neg e]
      refine lt_of n m x y hx1 hy1 hc.1 fun z => e ?_
      subst z
      cases y <;> first | rfl | (exfalso; have := hc.1; simp [AV.co] at this)
end

def rSortG (K : PySem.W.Frag) : List V → Hp → VK → Prop := fun vs H Q => ∃ (a : Addr) (ps : List (AV × V)), vs = [.ref a] ∧ (SqL K H a (ps.map (·.2)) ∨ SqT K H a (ps.map (·.2))) ∧ (∀ p ∈ ps, Dp K H p.2 p.1.toD) ∧ PySem.W.AllAlike (ps.map fun p => p.1.toD) ∧ PySem.W.Sortable (ps.map fun p => p.1.toD) ∧
  (∀ p ∈ ps, p.1.toD.depth ≤ 50) ∧ ∀ l, H l = none → Q (.ref l) (upd H l (.lst ((ps.mergeSort (PySem.W.dataLe false fun p => p.1.toD)).map (·.2))))
theorem each_vals : ∀ {ps : List (AV × V)} {us : List Value}, Vals (ps.map (·.2)) us → PySem.W.EachIs (fun u (p : AV × V) => RelV p.2 u) us ps
  | [], _, .nil => .nil
  | _ :: _, _, .cons r t => .cons r (each_vals t)
theorem vals_each : ∀ {ps : List (AV × V)} {us : List Value}, PySem.W.EachIs (fun u (p : AV × V) => RelV p.2 u) us ps → Vals (ps.map (·.2)) us
  | _, _, .nil => .nil
  | _, _, .cons r t => .cons r (vals_each t)
theorem each_with {P : AV × V → Prop} : ∀ {ps : List (AV × V)} {us : List Value}, PySem.W.EachIs (fun u (p : AV × V) => RelV p.2 u) us ps → (∀ p ∈ ps, P p) → PySem.W.EachIs (fun u (p : AV × V) => RelV p.2 u ∧ P p) us ps
  | _, _, .nil, _ => .nil
  | _, _, .cons r t, h => .cons ⟨r, h _ List.mem_cons_self⟩ (each_with t fun p hp => h p (List.mem_cons_of_mem _ hp))
theorem cr_sortG {X : Cx} (hu : X.A.units + 65 < cLine) : CallR X (.builtin "sorted") (rSortG X.K) := by
  intro pins s σ H vs us Q I r h
  obtain ⟨a, ps, rfl, hq, hd, ha, hs, hdep, q⟩ := h
  rw [Vals.ref1 r]
  have key : ∀ (T : String) (its : List Value) (o : Obj) (n : Nat), (T = "list" ∨ T = "tuple") → s.heap.get? a = some o → o.cls = .type T → o.data = .seq its.toArray n → Vals (ps.map (·.2)) its → its.length ≤ sizeLine →
      wpAny (model X.prog X.w) X.A (call (.builtin "sorted") [.ref a]) (EP X pins σ Q) X.xe s := by
    intro T its o n hT ho hc hdat rv hz
    have e := each_vals rv
    have hlen : ps.length ≤ sizeLine := by rw [← e.length]; exact hz
    refine sorted_seq (enc := fun p : AV × V => p.1.toD) hT ho hc hdat e ((each_with e hd).mono fun u p ⟨h1, h2⟩ => Dp.reads I _ _ _ h2 h1) ha hs hlen (fun p hp => by have := hdep p hp; omega) fun h' D out kp hD ⟨c, hc'⟩ er => ?_
    have hl2 : ((ps.mergeSort (PySem.W.dataLe false fun p : AV × V => p.1.toD)).map (·.2)).length ≤ sizeLine := by
      rw [List.length_map, List.length_mergeSort]
      exact hlen
    exact ⟨.ref D, upd H D (.lst ((ps.mergeSort (PySem.W.dataLe false fun p : AV × V => p.1.toD)).map (·.2))), I.laid (t' := s.toks) kp hD ⟨hl2, out, c, vals_each er, hc'⟩, rfl, q D (I.hok.fresh hD)⟩
  rcases hq with hq | hq
  · obtain ⟨its, rv, pl, hz⟩ := I.list hq
    obtain ⟨o, ho, hc, n, hdat⟩ := pl.isList
    exact key "list" its o n (.inl rfl) ho hc hdat rv (by rw [← rv.length]; exact hz)
  · obtain ⟨its, rv, pl, hz⟩ := I.tuple hq
    obtain ⟨o, ho, hc, n, hdat⟩ := pl
    exact key "tuple" its o n (.inr rfl) ho hc hdat rv (by rw [← rv.length]; exact hz)
theorem toD_tup {x : AV} (h : isTup1 x = true) : ∃ y r, x.toD = .tuple (y :: r) := by
  unfold isTup1 at h
  split at h
  · exact ⟨_, _, by simp only [AV.toD, AV.toDs]; rfl⟩
  · cases h
theorem toD_not {n : Nat} {x : AV} (hd : x.dl n = true) (h : notTup x = true) : x.toD ≠ .none ∧ ∀ xs, x.toD ≠ .tuple xs := by
  rcases dl_cases hd with rfl | ⟨b, rfl⟩ | ⟨i, rfl⟩ | ⟨s, rfl⟩ | ⟨n', xs, rfl, rfl, hx'⟩ | ⟨n', xs, rfl, rfl, hx'⟩
  · cases h
  · simp [AV.toD]
  · simp [AV.toD]
  · simp [AV.toD]
  · cases h
  · simp [AV.toD]
theorem rvs_zip {K : PySem.W.Frag} {ρ : List Addr} {B : Addr → Prop} {H : Hp} : ∀ {xs : List AV} {vs : List V}, RVs K ρ B H xs vs → ∀ p ∈ xs.zip vs, RV K ρ B H p.1 p.2
  | [], _, _, p, hp => by simp at hp
  | x :: xs, vs, h, p, hp => by
    unfold RVs at h
    obtain ⟨v, r, rfl, h1, h2⟩ := h
    rw [List.zip_cons_cons] at hp
    rcases List.mem_cons.mp hp with rfl | hp
    · exact h1
    · exact rvs_zip h2 p hp
theorem rvs_unzip {K : PySem.W.Frag} {ρ : List Addr} {B : Addr → Prop} {H : Hp} : ∀ {ps : List (AV × V)}, (∀ p ∈ ps, RV K ρ B H p.1 p.2) → RVs K ρ B H (ps.map (·.1)) (ps.map (·.2))
  | [], _ => RVs.nil
  | p :: ps, h => RVs.cons (h p List.mem_cons_self) (rvs_unzip fun q hq => h q (List.mem_cons_of_mem _ hq))
section
variable {P : Pm} {b : Bool}
theorem sort_res {ρ : List Addr} {B : Addr → Prop} {H : Hp} {h : AH} {xs : List AV} {us : List V} (rh : RH P ρ B H h) (g : RVs P.K ρ B H xs us) (hs : sortOk xs = true) : ∃ ps : List (AV × V), ps.map (·.2) = us ∧ (∀ p ∈ ps, Dp P.K H p.2 p.1.toD) ∧ PySem.W.AllAlike (ps.map fun p => p.1.toD) ∧ PySem.W.Sortable (ps.map fun p => p.1.toD) ∧ (∀ p ∈ ps, p.1.toD.depth ≤ 50) ∧
    RVs P.K ρ B H (sortA xs) ((ps.mergeSort (PySem.W.dataLe false fun p => p.1.toD)).map (·.2)) := by
  unfold sortOk at hs
  rw [Bool.and_eq_true, Bool.and_eq_true, Bool.or_eq_true] at hs
  obtain ⟨⟨hco, hdl⟩, hty⟩ := hs
  have hdl' := List.all_eq_true.mp hdl
  have hf : (xs.zip us).map (·.1) = xs := List.map_fst_zip (by rw [g.len]; exact Nat.le_refl _)
  have hsn : (xs.zip us).map (·.2) = us := List.map_snd_zip (by rw [g.len]; exact Nat.le_refl _)
  have hmem : ∀ p ∈ xs.zip us, p.1 ∈ xs := fun p hp => by rw [← hf]; exact List.mem_map_of_mem hp
  have hrv := rvs_zip g
  have hcc : ∀ x ∈ xs, ∀ y ∈ xs, x.co y = true := fun x hx y hy => List.all_eq_true.mp (List.all_eq_true.mp hco x hx) y hy
  refine ⟨xs.zip us, hsn, fun p hp => dp_of rh DEPTH p.1 (hdl' _ (hmem p hp)) (hrv p hp), ?_, ?_, fun p hp => (lay_of DEPTH p.1 (hdl' _ (hmem p hp))).2, ?_⟩
  · intro d hd d' hd'
    obtain ⟨p, hp, rfl⟩ := List.mem_map.mp hd
    obtain ⟨p', hp', rfl⟩ := List.mem_map.mp hd'
    rw [alike_of DEPTH DEPTH _ _ (hdl' _ (hmem p hp)) (hdl' _ (hmem p' hp'))]
    exact hcc _ (hmem p hp) _ (hmem p' hp')
  · rcases hty with hty | hty
    · refine .inl fun d hd => ?_
      obtain ⟨p, hp, rfl⟩ := List.mem_map.mp hd
      exact toD_tup (List.all_eq_true.mp hty _ (hmem p hp))
    · refine .inr fun d hd => ?_
      obtain ⟨p, hp, rfl⟩ := List.mem_map.mp hd
      exact toD_not (hdl' _ (hmem p hp)) (List.all_eq_true.mp hty _ (hmem p hp))
  · have hnn : ∀ x ∈ xs, x ≠ .non := fun x hx z => by
      subst z
      rcases hty with hty | hty
      · have := List.all_eq_true.mp hty _ hx
        cases this
      · have := List.all_eq_true.mp hty _ hx
        cases this
    have e : sortA xs = ((xs.zip us).mergeSort (PySem.W.dataLe false fun p => p.1.toD)).map (·.1) := by
      rw [List.map_mergeSort (r := PySem.W.dataLe false fun p : AV × V => p.1.toD) (s := leA) (f := Prod.fst) (l := xs.zip us) (fun p hp q hq => ?_)]
      · show sortA xs = ((xs.zip us).map (·.1)).mergeSort leA
        rw [hf]; rfl
      · show (!PySem.W.dataLt q.1.toD p.1.toD) = leA p.1 q.1
        unfold leA
        rw [lt_of DEPTH DEPTH q.1 p.1 (hdl' _ (hmem q hq)) (hdl' _ (hmem p hp)) (hcc _ (hmem q hq) _ (hmem p hp)) (hnn _ (hmem q hq))]
    rw [e]
    exact rvs_unzip fun p hp => hrv p (List.mem_mergeSort.mp hp)
theorem v_sorted : VN P b sortedF (rSortG P.K) := by
  intro W ρ B σ H avs h xs Q rh r q
  unfold sortedF at q
  split at q
  · obtain ⟨v, rfl, r1⟩ := one_of r
    obtain ⟨w, ew, q'⟩ := optE_ok q
    obtain ⟨ys, ey, e2⟩ := Option.bind_eq_some_iff.mp ew
    split at e2
    · rename_i hs
      cases e2
      obtain ⟨a1, us, rfl, h1, g1⟩ := rv_seq rh r1 ey
      obtain ⟨ps, e1, h2, h3, h4, h5, h6⟩ := sort_res rh g1 hs
      exact ⟨a1, ps, rfl, by rw [e1]; exact h1, h2, h3, h4, h5, fun l hl => ok_new q' rh hl h6⟩
    · cases e2
  · exact q.elim
theorem vf_sorted : VNF P b sortedF (rSortG P.K) := by
  intro W ρ B σ H avs h xs Q rh r q
  unfold sortedF at q
  split at q
  · rename_i o
    obtain ⟨v, rfl, r1⟩ := one_of r
    cases ew : (seqOf h o).bind fun xs => if sortOk xs = true then some (AV.lst (sortA xs)) else none with
    | none => rw [ew] at q; exact q.elim
    | some w =>
      rw [ew] at q
      obtain ⟨ys, ey, e2⟩ := Option.bind_eq_some_iff.mp ew
      split at e2
      · rename_i hs
        cases e2
        obtain ⟨a1, us, rfl, h1, g1⟩ := rv_seq rh r1 ey
        obtain ⟨ps, e1, h2, h3, h4, h5, h6⟩ := sort_res rh g1 hs
        exact ⟨a1, ps, rfl, by rw [e1]; exact h1, h2, h3, h4, h5, fun l hl => q ρ H l _ (Ext.refl _ _ _) rh ⟨_, rfl, h6⟩ hl⟩
      · cases e2
  · exact q.elim
end
end D
end

section
namespace D
open PySem L2

section
variable {P : Pm} {X : Cx} {W : WX} {N : List Nat} {e tg : Expr} {es : List Expr} {ma : EV} {m : LV}
theorem EPost.tru {ρ : List Addr} {B : Addr → Prop} {σ : St} {H : Hp} {Q : VK} {r : ER} (h : EPost P false W ρ B σ H Q r) : EPost P true W ρ B σ H Q r := by
  cases r with
  | ok av h' => exact fun ρ' H' v e => h ρ' H' v e.weak
  | exc c x h' => exact fun ρ' H' v e => h ρ' H' v e.weak
  | stuck => exact h
theorem EPostB.tru {ρ : List Addr} {B : Addr → Prop} {σ : St} {H : Hp} {Q : VK} {r : ER} (h : EPostB P false W ρ B σ H Q r) : EPostB P true W ρ B σ H Q r := by
  cases r with
  | ok av h' => exact fun ρ' H' v e => h ρ' H' v e.weak
  | exc c x h' => exact fun ρ' H' v e => h ρ' H' v e.weak
  | stuck => exact h
theorem FPost.tru {ρ : List Addr} {B : Addr → Prop} {σ : St} {H : Hp} {Q : VK} {r : ER} (h : FPost P false W ρ B σ H Q r) : FPost P true W ρ B σ H Q r := by
  cases r with
  | ok av h' => exact fun ρ' H' p u e => h ρ' H' p u e.weak
  | exc c x h' => exact fun ρ' H' v e => h ρ' H' v e.weak
  | stuck => exact h
theorem DE.up (h : DE P X true W N e ma) : DE P X false W N e ma := ⟨pe_weak h.pe fun σ H Q ⟨ρ, B, ow, σa, hh, rh, rs, hN, q⟩ => ⟨ρ, B, ow, σa, hh, rh, rs, hN, q.tru⟩⟩
theorem DB.up (h : DB P X true W N e ma) : DB P X false W N e ma := ⟨pe_weak h.pe fun σ H Q ⟨ρ, B, ow, σa, hh, rh, rs, hN, q⟩ => ⟨ρ, B, ow, σa, hh, rh, rs, hN, q.tru⟩⟩
theorem DF.up (h : DF P X true W N e ma) : DF P X false W N e ma := ⟨pe_weak h.pe fun σ H Q ⟨ρ, B, ow, σa, hh, rh, rs, hN, q⟩ => ⟨ρ, B, ow, σa, hh, rh, rs, hN, q.tru⟩⟩
theorem di_sqHC (hK : P.K = X.K) (he : DB P X true W N e ma) : DI P X true true W N tg e (itH ma) := by
  refine ⟨pi_weak (pi_sq he.pe) ?_⟩
  rintro σ H R ⟨ρ, B, ow, σa, h, rh, rs, hN, q⟩
  refine ⟨ρ, B, ow, σa, h, rh, rs, hN, (IPost.bindB q).imp ?_⟩
  rintro v H1 ⟨ρ1, av, h1, e1, rh1, rv1, q1⟩
  obtain ⟨xs, ex, q2⟩ := optL_ok q1
  have oth : iterV av = some xs → iSq X.K (fun σ H Q => Q v H) σ H1 R := fun ex => by
    obtain ⟨J, S, hi, hs, hv⟩ := seq_at (X := X) (c := true) (b := true) rh1 hK (by rw [if_pos rfl]; exact rv1) ex
    have q3 := q2 ρ1 H1 J S e1 rh1 hi hs
    rcases hv with ⟨p, vs, h1, h2, rfl⟩ | ⟨p, vs, h1, h2, rfl⟩ | ⟨z, h1, rfl⟩
    · exact .inl ⟨p, vs, h1, h2, q3⟩
    · exact .inr (.inl ⟨p, vs, h1, h2, q3⟩)
    · exact .inr (.inr ⟨z, h1, q3⟩)
  cases av with
  | ref i =>
    have ex' : lv h1 (.ref i) = some xs := ex
    obtain ⟨a, vs, rfl, hH, rvs⟩ := rv_lv rh1 rv1 ex'
    refine .inl ⟨a, vs, rfl, SqL.of hH, q2 ρ1 H1 _ (fun b => b = a) e1 rh1 (itl_ok (fun H2 hS => SqL.of ((rd_S hS).trans hH)) rvs) fun b hb => ?_⟩
    have hb' : b = a := hb
    subst hb'
    exact ⟨by rw [hH]; simp, by rw [if_pos rfl]; exact .inl rfl⟩
  | _ => exact oth ex
end

theorem bo_emp {B : Addr → Prop} : Bo B [] = B := by
  funext a
  apply propext
  constructor
  · rintro (h | h)
    · exact h
    · simp at h
  · exact .inl
theorem start_rs {Pm : Pm} {ρ : List Addr} {B : Addr → Prop} {H : Hp} {avs : List AV} {vs : List V} {n : Nat} (r : RVs Pm.K ρ B H avs vs) : RS Pm ρ B [] H (avs.map some ++ List.replicate (n - avs.length) none) (vs.map some ++ List.replicate (n - vs.length) none) := by
  have hl := r.len
  refine ⟨(by simp [hl]), List.nodup_nil, List.nodup_nil, (fun p hp => nomatch hp), (fun i av h1 _ => ?_), (fun p hp => nomatch hp)⟩
  rw [bo_emp]
  by_cases hi : i < avs.length
  · rw [List.getElem?_append_left (by simpa using hi), List.getElem?_map] at h1
    obtain ⟨x, h2, h3⟩ := Option.map_eq_some_iff.mp h1
    cases h3
    obtain ⟨v, h4, h5⟩ := r.get h2
    refine ⟨v, ?_, h5⟩
    rw [List.getElem?_append_left (by rw [List.length_map, ← hl]; exact hi), List.getElem?_map, h4]
    rfl
  · rw [List.getElem?_append_right (by simpa using Nat.le_of_not_lt hi)] at h1
    have := List.mem_of_getElem? h1
    rw [List.mem_replicate] at this
    cases this.2
section
variable {Pm : Pm} {P : Program} {w : World} {mg : Str → Option Value} {base : Heap} {b : Bool}
theorem fn_ok {x qual : Str} {st : Stmt} {f : Addr} {fd : FuncData} {N ps : List Str} {k : Nat} {m : SV} {N' : List Nat} (F : Fun Pm.K x qual st f fd) (S : FnScope N ps (defScope st))
    (hbody : ∀ (cdv : Value) (A : Around) (outer : List Env) (s : Shared) (H : Hp) (E : XK), Room k (A.deeper (PyProof.Rows.envOfC qual (defScope st) s.heap.objs.size f cdv)) →
      DSs Pm (cxOf (L2.CX P w) P w Pm.K mg base N qual (defScope st) f cdv A outer s H E) b (fun c d _ H => E c d H) [] [] [] N' (defBody st) m) :
    FnOk P w Pm.K mg base (L2.CX P w) (k + 1) f fd ps (spD Pm b ps.length (body N.length m)) := by
  refine F.okX S (fun vs H Q E h => h.1) (fun cdv A outer s H vs Q E hr h => ⟨_, (hbody cdv A outer s H E hr).ps, ?_⟩)
  obtain ⟨hl, ρ, B, avs, h, rh, rv, q⟩ := h
  refine ⟨ρ, B, [], avs.map some ++ List.replicate (N.length - avs.length) none, h, by rw [bo_emp]; exact rh, start_rs rv, rfl, ?_⟩
  unfold body at q
  cases g : m (avs.map some ++ List.replicate (N.length - avs.length) none) h with
  | nx σ' h' =>
    rw [g] at q
    exact fun ρ' ow' H' σ' e rh' rs' hN => q ρ' H' .non e.ext (rh'.anti fun a h => .inl h) mk_non
  | rt v h' =>
    rw [g] at q
    exact fun ρ' H' v e rh' rv' => q ρ' H' v e.ext rh' rv'
  | exc c x σ' h' =>
    rw [g] at q
    exact fun ρ' ow' H' σ' d e rh' rs' hN rx => q ρ' H' d e.ext (rh'.anti fun a h => .inl h) (rx.anti fun a h => .inl h)
  | bk _ _ => rw [g] at q; exact q.elim
  | ct _ _ => rw [g] at q; exact q.elim
  | stuck => rw [g] at q; exact q.elim
theorem fnd {x : Str} {st : Stmt} {f : Addr} {fd : FuncData} {ps : List Str} {k : Nat} {fv : FV} (h : FnOk P w Pm.K mg base (L2.CX P w) k f fd ps (spD Pm b ps.length fv)) (F : Fun Pm.K x x st f fd) (hm : mg x = some (.ref f)) (hb : Binds Pm.K fd ps []) : FnD Pm P w mg base b k x ps fv := ⟨f, fd, h, hm, F.kp, hb⟩
end
theorem room65 {k : Nat} {A : Around} (hr : Room k A) : A.units + 65 < cLine := by have := hr.un; omega
theorem room1 {k : Nat} {A : Around} (hr : Room k A) : A.units + 1 < cLine := by have := hr.un; omega

theorem law_sp {Pm : Pm} {n : Nat} {f : FV} {H : Hp} {a : Addr} {ns : List Int} (hL : Law n f) (hl : ns.length ≤ n) (hO : Only H) (hS : SqL Pm.K H a (ns.map V.int)) :
    spD Pm false 1 f [.ref a] H (fun v _ => v = .bl true) fun _ _ _ => False := by
  obtain ⟨h', e⟩ := hL ns hl
  refine ⟨rfl, [], fun _ => False, [.ro (ns.map AV.int)], [], ⟨rfl, List.nodup_nil, (fun _ h => nomatch h), (fun _ h => False.elim h), (fun i o h => nomatch h)⟩, RVs.cons ?_ RVs.nil, ?_⟩
  · unfold RV
    refine ⟨a, ns.map V.int, rfl, ?_, RVs.intsA ns⟩
    rcases hS with h | h
    · exact .inl ⟨(by simp), (fun z => z), h⟩
    · exact .inr h
  · rw [e]
    intro ρ' H' v _ _ rv
    unfold RV at rv
    exact rv
end D
end

section
namespace D
open PySem L2
theorem room64 {k : Nat} {A : Around} (hr : Room k A) : A.units + 64 < cLine := by have := hr.un; omega
theorem all_lt {is : List Nat} {n : Nat} (h : (is.all fun l => decide (l < n)) = true) : ∀ l ∈ is, l < n := fun l hl => of_decide_eq_true (List.all_eq_true.mp h l hl)
theorem bt_len : bootBuiltins "len" = some (.builtin "len") := by decide +kernel
theorem bt_abs : bootBuiltins "abs" = some (.builtin "abs") := by decide +kernel
theorem bt_int : bootBuiltins "int" = some (.type "int") := by decide +kernel
theorem bt_str : bootBuiltins "str" = some (.type "str") := by decide +kernel
theorem bt_list : bootBuiltins "list" = some (.type "list") := by decide +kernel
theorem bt_tuple : bootBuiltins "tuple" = some (.type "tuple") := by decide +kernel
theorem bt_sum : bootBuiltins "sum" = some (.builtin "sum") := by decide +kernel
theorem bt_any : bootBuiltins "any" = some (.builtin "any") := by decide +kernel
theorem bt_all : bootBuiltins "all" = some (.builtin "all") := by decide +kernel
theorem bt_max : bootBuiltins "max" = some (.builtin "max") := by decide +kernel
theorem bt_min : bootBuiltins "min" = some (.builtin "min") := by decide +kernel
theorem bt_sorted : bootBuiltins "sorted" = some (.builtin "sorted") := by decide +kernel
section
variable {P : Pm} {X : Cx} {b : Bool} {W : WX} {N Nb Nx N' : List Nat} {e a c d k tg iter elt : Expr} {es : List Expr} {pos tpos : Pos} {ma mb mc me mk mo : EV} {ms : List EV} {f : AV → AV → AH → ER} {fl : List Bool}
theorem de_un {op : UnaryOp} {r : V → Hp → VK → Prop} {f : AV → AH → ER} (ho : UnR X (unaryOp op) r) (hr : V1 P b f r) (ha : DB P X b W N a ma) : DE P X b W N (.UnaryOp op a pos) (un f ma) := ⟨pe_weak (pe_un ho ha.pe) (un_weak hr)⟩
theorem s_set (j : Nat) {x : Str} {pos' : Pos} (hn : X.N.Nodup) (he : DE P X b W N e ma) (hj : X.N[j]? = some x := by rfl) (hx' : L2.Loc X.env.scope x := by first | exact Or.inl rfl | exact Or.inr rfl) (hNj : j ∉ N := by decide) (hx : Kept N Nx := by decide)
    (hs : swapsWith e (some (.Name x pos')) pos.line X.env = pure false := by rfl) (hf : X.fn x = true ∨ X.env.scope.names.lookup x = some .local := by first | exact .inl rfl | exact .inr rfl) : DS P X b W N Nb Nx N (.Assign [.Name x pos'] e pos) (setS j ma) := ds_set hn hj hx' he hNj hx hs hf
theorem s_setF (j : Nat) {x : Str} {pos' : Pos} (hn : X.N.Nodup) (he : DF P X b W N e ma) (hj : X.N[j]? = some x := by rfl) (hx' : L2.Loc X.env.scope x := by first | exact Or.inl rfl | exact Or.inr rfl) (hNj : j ∉ N := by decide) (hx : Kept N Nx := by decide)
    (hs : swapsWith e (some (.Name x pos')) pos.line X.env = pure false := by rfl) (hf : X.fn x = true ∨ X.env.scope.names.lookup x = some .local := by first | exact .inl rfl | exact .inr rfl) (hl : decide (j < X.N.length) = true := by rfl) : DS P X b W N Nb Nx (j :: N) (.Assign [.Name x pos'] e pos) (setS j ma) := ds_setF hn hj hx' he hNj hx hs hf (of_decide_eq_true hl)
theorem s_aug (j : Nat) {x : Str} {op : Operator} {ti : TIp} {pos' : Pos} (hn : X.N.Nodup) (ho : PIp X op ti) (hv : VIp P b f ti) (he : DB P X b W N e ma) (hj : X.N[j]? = some x := by rfl) (hx' : L2.Loc X.env.scope x := by first | exact Or.inl rfl | exact Or.inr rfl) (hNj : j ∉ N := by decide) (hx : Kept N Nx := by decide)
    (hf : X.fn x = true ∨ X.env.scope.names.lookup x = some .local := by first | exact .inl rfl | exact .inr rfl) : DS P X b W N Nb Nx N (.AugAssign (.Name x pos') op e pos) (augS j f ma) := ds_aug hn hj hx' he ho hv hNj hx hf
theorem s_append (j : Nat) {x : Str} {xp apos cpos : Pos} (he : DE P X b W N e ma) (hj : X.N[j]? = some x := by rfl) (hv : Vis X.env.scope x := by first | exact Or.inl rfl | exact Or.inr (Or.inl rfl) | exact Or.inr (Or.inr rfl)) (hNj : j ∈ N := by decide) (hx : Kept N Nx := by decide) (hd : (x == ("__debug__" : Str)) = false := by decide) (hcd : (x == ("__classdict__" : Str)) = false := by decide)
    (hbase : attributeBase (.Name x xp) "append" X.env (eval (.Name x xp) X.env) = eval (.Name x xp) X.env := by rfl)
    (hfew : ((backTo cpos (starEach (e :: []) X.env)).all (fun x => !x.1) && (backToKw cpos (keywordEach [] X.env)).all (fun x => x.1.isSome)
      && decide ((e :: []).length + ([] : List Keyword).length + (if ([] : List Keyword).isEmpty then 0 else 1) < 30)) = true := by rfl)
    (hline : (apos.endLine == cpos.line) = true := by rfl) (hs : starEach (e :: []) X.env = (false, eval e X.env) :: starEach [] X.env := by rfl) (hplain : (backTo cpos (starEach [] X.env)).any (·.1) = false := by rfl)
    (hsw : swapsWith (.Call (.Attribute (.Name x xp) "append" apos) [e] [] cpos) none pos.line X.env = pure false := by rfl) :
    DS P X b W N Nb Nx N (.Expr (.Call (.Attribute (.Name x xp) "append" apos) [e] [] cpos) pos) (appendS j ma) := ds_append hj hv he hNj hx hd hcd hbase hfew hline hs hplain hsw
theorem s_put (j : Nat) {x : Str} {xp : Pos} (hu : X.A.units + 1 < cLine) (hk : DB P X b W N k mk) (he : DE P X b W N e ma) (hj : X.N[j]? = some x := by rfl) (hv : Vis X.env.scope x := by first | exact Or.inl rfl | exact Or.inr (Or.inl rfl) | exact Or.inr (Or.inr rfl)) (hNj : j ∈ N := by decide) (hx : Kept N Nx := by decide) (hd : (x == ("__debug__" : Str)) = false := by decide) (hcd : (x == ("__classdict__" : Str)) = false := by decide)
    (hs : swapsWithSole [.Subscript (.Name x xp) k tpos] e pos.line X.env = pure false := by rfl) (hw : swappedStores [.Subscript (.Name x xp) k tpos] e X.env = pure none := by rfl)
    (h1 : (assignEach [.Subscript (.Name x xp) k tpos] X.env).map (·.2) = [assign (.Subscript (.Name x xp) k tpos) X.env] := by rfl)
    (ha : ∀ v, assign (.Subscript (.Name x xp) k tpos) X.env v = (do
      let ov ← holding [v] (eval (.Name x xp) X.env)
      let iv ← holding [v, ov] (eval k X.env)
      standAt (Expr.pos (.Subscript (.Name x xp) k tpos))
      holding [v, ov, iv] (setItem ov iv v)
      release [v, ov, iv] []) := by intro _; rfl) :
    DS P X b W N Nb Nx N (.Assign [.Subscript (.Name x xp) k tpos] e pos) (putS j mk ma) := ds_put hu hj hv he hk hNj hx hd hcd hs hw h1 ha
theorem s_putAug (j : Nat) {x : Str} {xp : Pos} {op : Operator} {ti : TIp} (hu : X.A.units + 1 < cLine) (hp : PIp X op ti) (hv : VIp P b f ti) (hk : DE P X b W N k mk) (he : DB P X b W N e ma) (hK : P.K = X.K := by rfl) (hj : X.N[j]? = some x := by rfl) (hvis : Vis X.env.scope x := by first | exact Or.inl rfl | exact Or.inr (Or.inl rfl) | exact Or.inr (Or.inr rfl)) (hNj : j ∈ N := by decide) (hx : Kept N Nx := by decide) (hd : (x == ("__debug__" : Str)) = false := by decide) (hcd : (x == ("__classdict__" : Str)) = false := by decide)
    (ha : ∀ ov iv new, augStore k ov iv new = (do holding [new, ov, iv] (setItem ov iv new); release [new, ov, iv] []; pure .next) := by intros; rfl) :
    DS P X b W N Nb Nx N (.AugAssign (.Subscript (.Name x xp) k tpos) op e pos) (putAugS j f mk ma) := ds_putAug hu hK hj hvis hp hv hk he hNj hx hd hcd ha
theorem s_setLc (j : Nat) {y : Str} {py : Pos} {t : TGT} {it : LV} {ifs : List Expr} {scope : Scope} {own : List (Str × Nat)} {spos : Pos} (hN : X.N.Nodup) (hi : DI P X true b W N tg iter it) (ok : BlkOk X.N X.env.scope scope own)
    (hg : ∀ (s : Shared) (H : Hp) (C : Addr) (cl : List (Str × Addr)) (fp : List Addr), DG P (X.blk s H scope (compEnvC scope cl C X.env) fp) N (own.map (·.2)) tg t)
    (ht : ∀ (s : Shared) (H : Hp) (C : Addr) (cl : List (Str × Addr)) (fp : List Addr), DTs P (X.blk s H scope (compEnvC scope cl C X.env) fp) b WF N ifs mc)
    (he : ∀ (s : Shared) (H : Hp) (C : Addr) (cl : List (Str × Addr)) (fp : List Addr), DE P (X.blk s H scope (compEnvC scope cl C X.env) fp) b WF N elt me)
    (hsw : swapsWith (.ListComp elt [⟨tg, iter, ifs, 0⟩] scope pos) (some (.Name y py)) spos.line X.env = pure true := by exact sw_true rfl rfl rfl (by decide +kernel))
    (hc : X.calm = true := by rfl) (hy : X.N[j]? = some y := by rfl) (hyl : X.env.scope.names.lookup y = some .local := by rfl)
    (ho : ∀ i ∈ own.map (·.2), i ∉ N := by decide) (hNj : j ∉ N := by decide) (hx : Kept N Nx := by decide) (hs : ∀ x, foldedSetIterable iter X.env x = pure x := by intro _; rfl) :
    DS P X b W N Nb Nx N (.Assign [.Name y py] (.ListComp elt [⟨tg, iter, ifs, 0⟩] scope pos) spos) (setS j (compD (own.map (·.2)) t it mc me)) := ds_setLc hc hN hy hyl hsw hi ok hg ht he ho hNj hx hs
theorem s_par2 (i j : Nat) {x y : Str} {px py pt : Pos} {kt k2 : Nat} {pt2 : Pos} (hN : X.N.Nodup) (ha : DM P X b W N fl [a, c] (evs ms)) (hc : X.calm = true := by rfl) (hi : X.N[i]? = some x := by rfl) (hj : X.N[j]? = some y := by rfl) (hx' : X.env.scope.names.lookup x = some .local := by rfl) (hy' : X.env.scope.names.lookup y = some .local := by rfl)
    (hw : swappedStores [.Tuple [.Name x px, .Name y py] kt pt] (.Tuple [a, c] k2 pt2) X.env = pure (some [x, y]) := by rfl)
    (hs : swapsWithSole [.Tuple [.Name x px, .Name y py] kt pt] (.Tuple [a, c] k2 pt2) pos.line X.env = pure false := by rfl) (hx : Kept N Nx := by decide) (hnd : [i, j].Nodup := by decide) (hn : ∀ l ∈ [i, j], l ∉ N := by decide) (hl : ([i, j].all fun l => decide (l < X.N.length)) = true := by rfl) (hlen : [i, j].length = fl.length := by rfl) :
    DS P X b W N Nb Nx (ownN [i, j] fl N) (.Assign [.Tuple [.Name x px, .Name y py] kt pt] (.Tuple [a, c] k2 pt2) pos) (parS [i, j] ms) := ds_par2 hc hN hi hj hx' hy' ha hw hs hx hnd hn (all_lt hl) hlen
theorem s_par3 (i j l : Nat) {x y z : Str} {px py pz pt : Pos} {kt k2 : Nat} {pt2 : Pos} (hN : X.N.Nodup) (ha : DM P X b W N fl [a, c, d] (evs ms)) (hc : X.calm = true := by rfl) (hi : X.N[i]? = some x := by rfl) (hj : X.N[j]? = some y := by rfl) (hk : X.N[l]? = some z := by rfl) (hx' : X.env.scope.names.lookup x = some .local := by rfl) (hy' : X.env.scope.names.lookup y = some .local := by rfl) (hz' : X.env.scope.names.lookup z = some .local := by rfl)
    (hw : swappedStores [.Tuple [.Name x px, .Name y py, .Name z pz] kt pt] (.Tuple [a, c, d] k2 pt2) X.env = pure (some [x, y, z]) := by rfl)
    (hs : swapsWithSole [.Tuple [.Name x px, .Name y py, .Name z pz] kt pt] (.Tuple [a, c, d] k2 pt2) pos.line X.env = pure false := by rfl) (hx : Kept N Nx := by decide) (hnd : [i, j, l].Nodup := by decide) (hn : ∀ q ∈ [i, j, l], q ∉ N := by decide) (hl : ([i, j, l].all fun l => decide (l < X.N.length)) = true := by rfl) (hlen : [i, j, l].length = fl.length := by rfl) :
    DS P X b W N Nb Nx (ownN [i, j, l] fl N) (.Assign [.Tuple [.Name x px, .Name y py, .Name z pz] kt pt] (.Tuple [a, c, d] k2 pt2) pos) (parS [i, j, l] ms) := ds_par3 hc hN hi hj hk hx' hy' hz' ha hw hs hx hnd hn (all_lt hl) hlen
theorem s_for {tg iter : Expr} {body : List Stmt} {t : TGT} {it : LV} {vs : List Nat} {m : SV} (hp : PassesOwn (model X.prog X.w) X.A X.env X.xe) (hi : DI P X false b W N tg iter it) (hg : DG P X N vs tg t) (hb : DSs P X b W N N Nx N body m) (hc : X.calm = true := by rfl) (hx : Kept N Nx := by decide) (hs : ∀ x, foldedSetIterable iter X.env x = pure x := by intro _; rfl) :
    DS P X b W N Nb Nx N (.For tg iter body [] pos) (forS t it m) := ds_for hp hc hi hg hb hx hs
theorem s_parT {is : List Nat} {tgs : List Expr} {pt : Pos} {kt k2 : Nat} {pt2 : Pos} (hg : DGn X is tgs) (ha : DM P X b W N fl es (evs ms)) (hc : X.calm = true := by rfl) (hx : Kept N Nx := by decide) (hnd : is.Nodup := by decide) (hn : ∀ l ∈ is, l ∉ N := by decide) (hl : (is.all fun l => decide (l < X.N.length)) = true := by rfl) (hlen : is.length = fl.length := by rfl)
    (hne : (assignEach tgs X.env).length = is.length := by rfl) (hst : (assignEach tgs X.env).findIdx? (·.1) = none := by rfl) (hs : swapsWithSole [.Tuple tgs kt pt] (.Tuple es k2 pt2) pos.line X.env = pure false := by rfl) (hw : swappedStores [.Tuple tgs kt pt] (.Tuple es k2 pt2) X.env = pure none := by rfl)
    (h1 : (assignEach [.Tuple tgs kt pt] X.env).map (·.2) = [assign (.Tuple tgs kt pt) X.env] := by rfl) (hsmall : fl.length ≤ LIM := by decide) :
    DS P X b W N Nb Nx (ownN is fl N) (.Assign [.Tuple tgs kt pt] (.Tuple es k2 pt2) pos) (parS is ms) := ds_parT hc hg ha hx hnd hn (all_lt hl) hlen hne hst hs hw h1 hsmall
end
end D
end

section
namespace D
open PySem (Str)

def m_dice : SV :=
  (seqS (ifS (chainD ltV ltV (bin subV (cD (.int 0)) (cD (.int 10))) (varD 0) (cD (.int 10))) (retS (heapL (lstD [(callD absF [(varD 0)]), (cD (.int 0)), (cD (.int 2))]))) nxS)
  (retS (heapL (lstD [(varD 0), (bin addV (cD (.int 1)) (bin modV (callD intF [(varD 0)]) (cD (.int 1009)))), (callD intF [(bin geV (varD 0) (bin powV (cD (.int 10)) (cD (.int 18))))])]))))
def f_dice : FV := body 1 m_dice
def m_rounds : SV :=
  (seqS (setS 2 (sliceD (varD 0) none (some (varD 1))))
  (seqS (ifS (bin eqV (varD 2) (lstD [])) (setS 2 (lstD [(cD (.int 0))])) nxS)
  (retS (compD [3] (nameT 3) (itD (varD 2)) (cD (.bl true)) (callD f_dice [(varD 3)])))))
def f_rounds : FV := body 4 m_rounds
def m_roll : SV :=
  (seqS (ifS (orD (bin eqV (bin getV (varD 0) (cD (.int 2))) (cD (.int 2))) (andD (bin eqV (bin getV (varD 0) (cD (.int 2))) (cD (.int 1))) (bin gtV (bin getV (varD 0) (cD (.int 0))) (cD (.int 0))))) (seqS (setS 2 (bin modV (callD intF [(bin getV (varD 0) (cD (.int 0)))]) (varD 1)))
  (seqS (hputS (varD 0) (cD (.int 0)) (bin fdivV (bin getV (varD 0) (cD (.int 0))) (varD 1)))
  (retS (varD 2)))) nxS)
  (seqS (hputS (varD 0) (cD (.int 2)) (cD (.int 0)))
  (seqS (hputS (varD 0) (cD (.int 0)) (bin modV (callD intF [(bin addV (bin addV (bin mulV (bin getV (varD 0) (cD (.int 0))) (cD (.int 48271))) (bin mulV (bin getV (varD 0) (cD (.int 1))) (cD (.int 69621)))) (cD (.int 11)))]) (cD (.int 2147483647))))
  (seqS (hputS (varD 0) (cD (.int 1)) (bin addV (bin getV (varD 0) (cD (.int 1))) (cD (.int 1))))
  (retS (bin modV (callD intF [(bin addV (bin fdivV (bin getV (varD 0) (cD (.int 0))) (cD (.int 7))) (bin getV (varD 0) (cD (.int 0))))]) (varD 1)))))))
def f_roll : FV := body 3 m_roll

@[simp] theorem addV_int (i j : Int) (h : AH) : addV (.int i) (.int j) h = .ok (.int (i + j)) h := rfl
@[simp] theorem addV_str (x y : Str) (h : AH) : addV (.str x) (.str y) h = if x.length + y.length ≤ LIM then .ok (.str (x ++ y)) h else .stuck := rfl
@[simp] theorem addV_tup (x y : List AV) (h : AH) : addV (.tup x) (.tup y) h = if x.length + y.length ≤ LIM then .ok (.tup (x ++ y)) h else .stuck := rfl
@[simp] theorem addV_lst (x y : List AV) (h : AH) : addV (.lst x) (.lst y) h = if x.length + y.length ≤ LIM then .ok (.lst (x ++ y)) h else .stuck := rfl
@[simp] theorem iaddV_int (i j : Int) (h : AH) : iaddV (.int i) (.int j) h = .ok (.int (i + j)) h := rfl
@[simp] theorem subV_int (i j : Int) (h : AH) : subV (.int i) (.int j) h = .ok (.int (i - j)) h := rfl
theorem mulV_int (i j : Int) (h : AH) : mulV (.int i) (.int j) h = if smallI i || smallI j then .ok (.int (i * j)) h else .stuck := rfl
theorem mulV_r {i j : Int} {h : AH} (hj : smallI j = true) : mulV (.int i) (.int j) h = .ok (.int (i * j)) h := by rw [mulV_int, hj, Bool.or_true]; rfl
theorem mulV_l {i j : Int} {h : AH} (hj : smallI i = true) : mulV (.int i) (.int j) h = .ok (.int (i * j)) h := by rw [mulV_int, hj, Bool.true_or]; rfl
theorem smallI_of {i : Int} (h1 : -18446744073709551616 < i) (h2 : i < 18446744073709551616) : smallI i = true := by
  unfold smallI
  simp
  omega
theorem fdivV_int {i j : Int} {h : AH} (h1 : j ≠ 0) (h2 : j.natAbs < 1073741824) : fdivV (.int i) (.int j) h = .ok (.int (i.fdiv j)) h := by
  show (if j ≠ 0 ∧ j.natAbs < 1073741824 then ER.ok (.int (i.fdiv j)) h else .stuck) = _
  rw [if_pos ⟨h1, h2⟩]
theorem modV_int {i j : Int} {h : AH} (h1 : j ≠ 0) : modV (.int i) (.int j) h = .ok (.int (i.fmod j)) h := by
  show (if j ≠ 0 then ER.ok (.int (i.fmod j)) h else .stuck) = _
  rw [if_pos h1]
@[simp] theorem negV_int (i : Int) (h : AH) : negV (.int i) h = .ok (.int (-i)) h := rfl
@[simp] theorem ltV_int (i j : Int) (h : AH) : ltV (.int i) (.int j) h = .ok (.bl (decide (i < j))) h := rfl
@[simp] theorem leV_int (i j : Int) (h : AH) : leV (.int i) (.int j) h = .ok (.bl (decide (i ≤ j))) h := rfl
@[simp] theorem gtV_int (i j : Int) (h : AH) : gtV (.int i) (.int j) h = .ok (.bl (decide (j < i))) h := rfl
@[simp] theorem geV_int (i j : Int) (h : AH) : geV (.int i) (.int j) h = .ok (.bl (decide (j ≤ i))) h := rfl
@[simp] theorem eqV_int (i j : Int) (h : AH) : eqV (.int i) (.int j) h = .ok (.bl (i == j)) h := by simp [eqV, thaw, eqOk, scalA, AV.eq]
@[simp] theorem neV_int (i j : Int) (h : AH) : neV (.int i) (.int j) h = .ok (.bl (!(i == j))) h := by simp [neV, thaw, eqOk, scalA, AV.eq]
@[simp] theorem eqV_str (i j : Str) (h : AH) : eqV (.str i) (.str j) h = .ok (.bl (i == j)) h := by simp [eqV, thaw, eqOk, scalA, AV.eq]
@[simp] theorem neV_str (i j : Str) (h : AH) : neV (.str i) (.str j) h = .ok (.bl (!(i == j))) h := by simp [neV, thaw, eqOk, scalA, AV.eq]
@[simp] theorem isNoneV_non (h : AH) : isNoneV .non h = .ok (.bl true) h := rfl
@[simp] theorem isNoneV_int (i : Int) (h : AH) : isNoneV (.int i) h = .ok (.bl false) h := rfl
@[simp] theorem notNoneV_non (h : AH) : notNoneV .non h = .ok (.bl false) h := rfl
@[simp] theorem notNoneV_int (i : Int) (h : AH) : notNoneV (.int i) h = .ok (.bl true) h := rfl
@[simp] theorem intF_int (i : Int) (h : AH) : intF [.int i] h = .ok (.int i) h := rfl
@[simp] theorem intF_bl (i : Bool) (h : AH) : intF [.bl i] h = .ok (.int (b2i i)) h := rfl
@[simp] theorem absF_int (i : Int) (h : AH) : absF [.int i] h = .ok (.int (if i < 0 then -i else i)) h := rfl
@[simp] theorem lenF_tup (xs : List AV) (h : AH) : lenF [.tup xs] h = .ok (.int xs.length) h := rfl
@[simp] theorem lenF_lst (xs : List AV) (h : AH) : lenF [.lst xs] h = .ok (.int xs.length) h := rfl
@[simp] theorem lenF_ro (xs : List AV) (h : AH) : lenF [.ro xs] h = .ok (.int xs.length) h := rfl
theorem lenF_ref {h : AH} {i : Nat} {xs : List AV} (e : h[i]? = some (.lst xs)) : lenF [.ref i] h = .ok (.int xs.length) h := by
  have : lenV (.ref i) h = some xs.length := by
    unfold lenV
    simp [seqOf, rl, lv, e]
  unfold lenF
  simp [this]
@[simp] theorem tupleF_tup (xs : List AV) (h : AH) : tupleF [.tup xs] h = .ok (.tup xs) h := rfl
@[simp] theorem tupleF_lst (xs : List AV) (h : AH) : tupleF [.lst xs] h = .ok (.tup xs) h := rfl
@[simp] theorem listF_tup (xs : List AV) (h : AH) : listF [.tup xs] h = .ok (.lst xs) h := rfl
@[simp] theorem listF_lst (xs : List AV) (h : AH) : listF [.lst xs] h = .ok (.lst xs) h := rfl
theorem tupleF_ref {h : AH} {i : Nat} {xs : List AV} (e : h[i]? = some (.lst xs)) : tupleF [.ref i] h = .ok (.tup xs) h := by
  simp [tupleF, seqOf, rl, lv, e]
theorem listF_ref {h : AH} {i : Nat} {xs : List AV} (e : h[i]? = some (.lst xs)) : listF [.ref i] h = .ok (.lst xs) h := by
  simp [listF, seqOf, rl, lv, e]
@[simp] theorem getV_tup (xs : List AV) (k : Int) (h : AH) : getV (.tup xs) (.int k) h = optE (atI xs k) h := rfl
@[simp] theorem getV_lst (xs : List AV) (k : Int) (h : AH) : getV (.lst xs) (.int k) h = optE (atI xs k) h := rfl
@[simp] theorem getV_ro (xs : List AV) (k : Int) (h : AH) : getV (.ro xs) (.int k) h = optE (atI xs k) h := rfl
theorem atI_nat {α : Type} (xs : List α) (k : Nat) : atI xs (k : Int) = xs[k]? := by
  unfold atI ixI
  by_cases hk : k < xs.length
  · rw [if_pos (by omega), if_pos (by omega)]
    simp
  · rw [if_pos (by omega), if_neg (by omega)]
    simp
    omega
theorem atI_at {α : Type} {xs : List α} {k : Nat} (hk : k < xs.length) : atI xs (k : Int) = some xs[k] := by rw [atI_nat]; simp [hk]
@[simp] theorem atI_zero {α : Type} (x : α) (xs : List α) : atI (x :: xs) 0 = some x := by
  have := atI_nat (x :: xs) 0
  simpa using this
@[simp] theorem atI_one {α : Type} (x y : α) (xs : List α) : atI (x :: y :: xs) 1 = some y := by
  have := atI_nat (x :: y :: xs) 1
  simpa using this
@[simp] theorem atI_two {α : Type} (x y z : α) (xs : List α) : atI (x :: y :: z :: xs) 2 = some z := by
  have := atI_nat (x :: y :: z :: xs) 2
  simpa using this

/-- a dice stands there -/
def Dice (h : AH) (i : Nat) : Prop := ∃ a b c : Int, h[i]? = some (.lst [.int a, .int b, .int c])
/-- only the thing at i has changed -/
structure Only1 (i : Nat) (h h' : AH) : Prop where
  len : h'.length = h.length
  oth : ∀ j, j ≠ i → h'[j]? = h[j]?
theorem Only1.refl {i : Nat} {h : AH} : Only1 i h h := ⟨rfl, fun _ _ => rfl⟩
theorem Only1.trans {i : Nat} {h h1 h2 : AH} (a : Only1 i h h1) (b : Only1 i h1 h2) : Only1 i h h2 := ⟨b.len.trans a.len, fun j hj => (b.oth j hj).trans (a.oth j hj)⟩
theorem Only1.set {i : Nat} {h : AH} {o : AO} : Only1 i h (h.set i o) := ⟨by simp, fun j hj => by rw [List.getElem?_set_ne (Ne.symm hj)]⟩

theorem seqS_nx {a b : SV} {σ σ1 : AS} {h h1 : AH} (e : a σ h = .nx σ1 h1) : seqS a b σ h = b σ1 h1 := by unfold seqS; rw [e]
theorem seqS_rt {a b : SV} {σ : AS} {v : AV} {h h1 : AH} (e : a σ h = .rt v h1) : seqS a b σ h = .rt v h1 := by unfold seqS; rw [e]
theorem get_hl {h : AH} {i : Nat} {xs : List AV} (e : h[i]? = some (.lst xs)) (k : Int) : getV (.ref i) (.int k) h = optE (atI xs k) h := by
  show optE (getH (.ref i) (.int k) h) h = _
  have : getH (.ref i) (.int k) h = atI xs k := by
    unfold getH rl lv
    simp only [e, atA, iOf_int, Option.bind_some]
  rw [this]
theorem hput_hl {h : AH} {i : Nat} {xs : List AV} (e : h[i]? = some (.lst xs)) (k : Int) (j : Nat) (w : AV) (hj : ixI xs.length k = some j) : hput1 i (.int k) w h = some (h.set i (.lst (xs.set j w))) := by
  unfold hput1
  simp only [e, iOf_int, Option.bind_some, hj, Option.map_some, hset]
theorem eq_int (i j : Int) (h : AH) : eqV (.int i) (.int j) h = .ok (.bl (i == j)) h := by
  simp [eqV, thaw, eqOk, scalA, AV.eq]
theorem roll_ok {h : AH} {i : Nat} {m : Int} (hd : Dice h i) (h1 : 0 < m) (h2 : m < 1073741824) : ∃ r h', f_roll [.ref i, .int m] h = .ok (.int r) h' ∧ 0 ≤ r ∧ r < m ∧ Only1 i h h' ∧ Dice h' i := by
  obtain ⟨a, b, c, e⟩ := hd
  have hi : i < h.length := (List.getElem?_eq_some_iff.mp e).1
  have hm0 : m ≠ 0 := by omega
  have g0 : getV (.ref i) (.int 0) h = .ok (.int a) h := by rw [get_hl e]; rfl
  have g1 : getV (.ref i) (.int 1) h = .ok (.int b) h := by rw [get_hl e]; rfl
  have g2 : getV (.ref i) (.int 2) h = .ok (.int c) h := by rw [get_hl e]; rfl
  have self : ∀ o : AO, (h.set i o)[i]? = some o := fun o => List.getElem?_set_self hi
  have ss : ∀ o o' : AO, (h.set i o).set i o' = h.set i o' := fun o o' => List.set_set ..
  have ca : ((orD (bin eqV (bin getV (varD 0) (cD (.int 2))) (cD (.int 2))) (andD (bin eqV (bin getV (varD 0) (cD (.int 2))) (cD (.int 1))) (bin gtV (bin getV (varD 0) (cD (.int 0))) (cD (.int 0))))) [some (.ref i), some (.int m), none] h) = .ok (.bl (c == 2 || (c == 1 && decide (0 < a)))) h := by
    simp only [orD, andD, bin, varD, cD, List.getElem?_cons_zero, ER.bind_ok, g2, eq_int, ER.tst_ok]
    by_cases c2 : c = 2
    · simp [c2]
    · by_cases c1 : c = 1
      · subst c1
        simp [g0, gtV, cmpI]
      · simp [c1, c2]
  unfold f_roll body m_roll
  by_cases hc : (c == 2 || (c == 1 && decide (0 < a))) = true
  · refine ⟨a.fmod m, h.set i (.lst [.int (a.fdiv m), .int b, .int c]), ?_, ?_, ?_, Only1.set, a.fdiv m, b, c, self _⟩
    · have hf : m.natAbs < 1073741824 := by omega
      simp only [List.map_cons, List.map_nil, List.length_cons, List.length_nil, List.replicate, List.cons_append, List.nil_append, Nat.reduceAdd, Nat.reduceSub]
      rw [seqS_rt (v := .int (a.fmod m)) (h1 := h.set i (.lst [.int (a.fdiv m), .int b, .int c]))]
      unfold ifS
      rw [ca]
      simp only [ER.tstS_ok, hc, if_pos]
      simp [seqS, setS, hputS, retS, bin, varD, cD, callD, evs, g0, modV_int hm0, fdivV_int hm0 hf, optH, rfOf, hput_hl e 0 0 _ (by rfl), List.set]
    · exact Int.fmod_nonneg_of_pos _ h1
    · exact Int.fmod_lt_of_pos _ h1
  · refine ⟨?r, h.set i (.lst [.int ?a, .int (b + 1), .int 0]), ?_, ?_, ?_, Only1.set, _, _, _, self _⟩
    case a => exact (a * 48271 + b * 69621 + 11).fmod 2147483647
    case r => exact (((a * 48271 + b * 69621 + 11).fmod 2147483647).fdiv 7 + (a * 48271 + b * 69621 + 11).fmod 2147483647).fmod m
    · simp only [List.map_cons, List.map_nil, List.length_cons, List.length_nil, List.replicate, List.cons_append, List.nil_append, Nat.reduceAdd, Nat.reduceSub]
      rw [seqS_nx (σ1 := [some (.ref i), some (.int m), none]) (h1 := h) (by
        unfold ifS
        rw [ca]
        simp only [ER.tstS_ok, if_neg hc, nxS])]
      have sm : ∀ z : Int, (smallI z || smallI 48271) = true := fun z => by simp [smallI]
      have sm2 : ∀ z : Int, (smallI z || smallI 69621) = true := fun z => by simp [smallI]
      have p1 : hputS (varD 0) (cD (.int 2)) (cD (.int 0)) [some (.ref i), some (.int m), none] h = .nx [some (.ref i), some (.int m), none] (h.set i (.lst [.int a, .int b, .int 0])) := by
        simp [hputS, varD, cD, rfOf, hput_hl e 2 2 _ (by rfl), List.set]
      rw [seqS_nx p1]
      generalize hh1 : h.set i (.lst [.int a, .int b, .int 0]) = hx
      have e1 : hx[i]? = some (.lst [.int a, .int b, .int 0]) := by rw [← hh1]; exact self _
      have g10 : getV (.ref i) (.int 0) hx = .ok (.int a) hx := by rw [get_hl e1]; rfl
      have g11 : getV (.ref i) (.int 1) hx = .ok (.int b) hx := by rw [get_hl e1]; rfl
      rw [seqS_nx (σ1 := [some (.ref i), some (.int m), none]) (h1 := hx.set i (.lst [.int ((a * 48271 + b * 69621 + 11).fmod 2147483647), .int b, .int 0])) (by
        simp [hputS, varD, cD, bin, callD, evs, g10, g11, mulV_int, sm, sm2, modV_int, rfOf, hput_hl e1 0 0 _ (by rfl), List.set])]
      rw [← hh1, ss]
      generalize hh2 : h.set i (.lst [.int ((a * 48271 + b * 69621 + 11).fmod 2147483647), .int b, .int 0]) = hy
      have e2 : hy[i]? = some (.lst [.int ((a * 48271 + b * 69621 + 11).fmod 2147483647), .int b, .int 0]) := by rw [← hh2]; exact self _
      have g21 : getV (.ref i) (.int 1) hy = .ok (.int b) hy := by rw [get_hl e2]; rfl
      rw [seqS_nx (σ1 := [some (.ref i), some (.int m), none]) (h1 := hy.set i (.lst [.int ((a * 48271 + b * 69621 + 11).fmod 2147483647), .int (b + 1), .int 0])) (by
        simp [hputS, varD, cD, bin, g21, rfOf, hput_hl e2 1 1 _ (by rfl), List.set])]
      rw [← hh2, ss]
      generalize hh3 : h.set i (.lst [.int ((a * 48271 + b * 69621 + 11).fmod 2147483647), .int (b + 1), .int 0]) = hz
      have e3 : hz[i]? = some (.lst [.int ((a * 48271 + b * 69621 + 11).fmod 2147483647), .int (b + 1), .int 0]) := by rw [← hh3]; exact self _
      have g30 : getV (.ref i) (.int 0) hz = .ok (.int ((a * 48271 + b * 69621 + 11).fmod 2147483647)) hz := by rw [get_hl e3]; rfl
      simp [retS, varD, cD, bin, callD, evs, g30, fdivV_int, modV_int hm0]
    · exact Int.fmod_nonneg_of_pos _ h1
    · exact Int.fmod_lt_of_pos _ h1

theorem dice_mk (c : Int) (h : AH) : ∃ a b d : Int, f_dice [.int c] h = .ok (.ref h.length) (h ++ [.lst [.int a, .int b, .int d]]) := by
  have p : powV (.int 10) (.int 18) h = .ok (.int 1000000000000000000) h := by
    simp [powV]
  by_cases hc : -10 < c ∧ c < 10
  · refine ⟨if c < 0 then -c else c, 0, 2, ?_⟩
    simp [f_dice, body, m_dice, seqS, ifS, chainD, bin, cD, varD, hc.1, hc.2, retS, heapL, lstD, evs, callD]
  · refine ⟨c, 1 + c.fmod 1009, b2i (decide (1000000000000000000 ≤ c)), ?_⟩
    have hz : chainD ltV ltV (bin subV (cD (.int 0)) (cD (.int 10))) (varD 0) (cD (.int 10)) [some (.int c)] h = .ok (.bl false) h := by
      by_cases h1 : -10 < c
      · have h2 : ¬ c < 10 := fun z => hc ⟨h1, z⟩
        simp [chainD, bin, cD, varD, h1, h2]
      · simp [chainD, bin, cD, varD, h1]
    simp [f_dice, body, m_dice, seqS, ifS, hz, nxS, retS, heapL, lstD, evs, callD, bin, cD, varD, modV_int, p]
theorem take_cut {α : Type} (xs : List α) (m : Int) (hm : 0 ≤ m) : cut xs none (some m) = xs.take m.toNat := by
  unfold cut sIx
  simp only [List.drop_zero, Nat.sub_zero, if_neg (by omega : ¬ m < 0)]
  rw [List.take_eq_take_iff]
  omega
theorem dices_comp {σ : AS} (hσ : 3 < σ.length) : ∀ (cs : List Int) (h : AH), ∃ h' , compL (nameT 3) (cD (.bl true)) (callD f_dice [(varD 3)]) σ (cs.map AV.int) h = .ok ((List.range cs.length).map fun k => .ref (h.length + k)) h' ∧ h'.length = h.length + cs.length ∧ (∀ i, i < h.length → h'[i]? = h[i]?) ∧ ∀ i, h.length ≤ i → i < h'.length → Dice h' i
  | [], h => ⟨h, rfl, by simp, fun _ _ => rfl, fun i h1 h2 => by omega⟩
  | c :: cs, h => by
    obtain ⟨a, b, d, e⟩ := dice_mk c h
    obtain ⟨h', e', hl, hk, hd⟩ := dices_comp hσ cs (h ++ [.lst [.int a, .int b, .int d]])
    have hlen : (h ++ [AO.lst [.int a, .int b, .int d]]).length = h.length + 1 := by simp
    refine ⟨h', ?_, ?_, fun i hi => ?_, fun i h1 h2 => ?_⟩
    · have ev : callD f_dice [(varD 3)] (σ.set 3 (some (.int c))) h = .ok (.ref h.length) (h ++ [.lst [.int a, .int b, .int d]]) := by
        simp [callD, evs, varD, hσ, e]
      rw [List.map_cons]
      unfold compL
      simp only [nameT, cD, ev, e']
      rw [hlen, List.length_cons, List.range_succ_eq_map, List.map_cons, List.map_map]
      congr 2
      apply List.map_congr_left
      intro k _
      show AV.ref _ = AV.ref _
      congr 1
      show h.length + 1 + k = h.length + (k + 1)
      omega
    · rw [hl, hlen]; simp; omega
    · rw [hk i (by omega), List.getElem?_append_left hi]
    · by_cases z : i = h.length
      · subst z
        refine ⟨a, b, d, ?_⟩
        rw [hk _ (by omega)]
        simp
      · exact hd i (by omega) h2
theorem dl_ints : ∀ (n : Nat) (ns : List Int), (ns.map AV.int).all (AV.dl n) = true
  | n, ns => by
    rw [List.all_map]
    simp [Function.comp_def, AV.dl]
theorem dl_lst {n : Nat} {xs : List AV} (h : xs.all (AV.dl n) = true) : (AV.lst xs).dl (n + 1) = true := by
  simpa [AV.dl] using h
theorem dl_tup {n : Nat} {xs : List AV} (h : xs.all (AV.dl n) = true) : (AV.tup xs).dl (n + 1) = true := by
  simpa [AV.dl] using h
theorem rounds_ok (ns : List Int) (m : Int) (hm : 0 ≤ m) (hl : ns.length ≤ 16777000) : ∃ n h', f_rounds [.ro (ns.map AV.int), .int m] [] = .ok (.lst ((List.range n).map AV.ref)) h' ∧ h'.length = n ∧ ∀ i, i < n → Dice h' i := by
  have fin : ∀ cs : List Int, cs.length ≤ 16777000 → ∀ (x : AV), ∃ n h', retS (compD [3] (nameT 3) (itD (varD 2)) (cD (.bl true)) (callD f_dice [(varD 3)])) [some x, some (.int m), some (.lst (cs.map AV.int)), none] [] = .rt (.lst ((List.range n).map AV.ref)) h' ∧ h'.length = n ∧ ∀ i, i < n → Dice h' i := fun cs hc x => by
    obtain ⟨h', e, e1, e2, e3⟩ := dices_comp (σ := [some x, some (.int m), some (.lst (cs.map AV.int)), none]) (by simp) cs []
    refine ⟨cs.length, h', ?_, by simpa using e1, fun i hi => e3 i (by simp) (by rw [e1]; simpa using hi)⟩
    have w : wipeA [some x, some (.int m), some (.lst (cs.map AV.int)), none] [3] = [some x, some (.int m), some (.lst (cs.map AV.int)), none] := rfl
    simp only [List.length_nil, Nat.zero_add] at e
    simp only [retS, compD, itD, varD, List.getElem?_cons_succ, List.getElem?_cons_zero, ER.bindL_ok, iterV, optL_some, LR.bind_ok, w, e]
    rw [if_pos (by rw [List.length_map, List.length_range]; unfold LIM; omega)]
    rfl
  have hcut : sliceV (.ro (ns.map AV.int)) (pI []) (pI [.int m]) [] = .ok (.lst ((ns.take m.toNat).map AV.int)) [] := by
    show ER.ok (.lst (cut (ns.map AV.int) none (some m))) [] = _
    rw [take_cut _ _ hm, List.map_take]
  have s1 : setS 2 (sliceD (varD 0) none (some (varD 1))) [some (.ro (ns.map AV.int)), some (.int m), none, none] [] = .nx [some (.ro (ns.map AV.int)), some (.int m), some (.lst ((ns.take m.toNat).map AV.int)), none] [] := by
    simp [setS, sliceD, varD, partD, hcut]
  have hlen : (ns.take m.toNat).length ≤ 16777000 := by
    rw [List.length_take]
    omega
  cases hcs : ns.take m.toNat with
  | nil =>
    rw [hcs] at s1
    obtain ⟨n, h', e1, e2, e3⟩ := fin [0] (by simp) (.ro (ns.map AV.int))
    refine ⟨n, h', ?_, e2, e3⟩
    unfold f_rounds body m_rounds
    simp only [List.map_cons, List.map_nil, List.length_cons, List.length_nil, List.replicate, List.cons_append, List.nil_append, Nat.reduceAdd, Nat.reduceSub]
    rw [seqS_nx s1]
    have s2 : ifS (bin eqV (varD 2) (lstD [])) (setS 2 (lstD [(cD (.int 0))])) nxS [some (.ro (ns.map AV.int)), some (.int m), some (.lst (([] : List Int).map AV.int)), none] [] = .nx [some (.ro (ns.map AV.int)), some (.int m), some (.lst (([0] : List Int).map AV.int)), none] [] := by
      simp [ifS, bin, varD, lstD, evs, eqV, thaw, eqOk, scalA, AV.dl, DEPTH, AV.eq, AV.eqL, setS, cD]
    rw [seqS_nx s2, e1]
  | cons c cs =>
    rw [hcs] at s1 hlen
    obtain ⟨n, h', e1, e2, e3⟩ := fin (c :: cs) hlen (.ro (ns.map AV.int))
    refine ⟨n, h', ?_, e2, e3⟩
    unfold f_rounds body m_rounds
    simp only [List.map_cons, List.map_nil, List.length_cons, List.length_nil, List.replicate, List.cons_append, List.nil_append, Nat.reduceAdd, Nat.reduceSub]
    simp only [List.map_cons] at s1 e1
    rw [seqS_nx s1]
    have d1 : (AV.lst (AV.int c :: cs.map AV.int)).dl DEPTH = true := dl_lst (n := 49) (by simpa [AV.dl] using dl_ints 49 cs)
    have s2 : ifS (bin eqV (varD 2) (lstD [])) (setS 2 (lstD [(cD (.int 0))])) nxS [some (.ro (ns.map AV.int)), some (.int m), some (.lst (AV.int c :: cs.map AV.int)), none] [] = .nx [some (.ro (ns.map AV.int)), some (.int m), some (.lst (AV.int c :: cs.map AV.int)), none] [] := by
      have d2 : (AV.lst []).dl DEPTH = true := by decide
      simp [ifS, bin, varD, lstD, evs, eqV, thaw, eqOk, scalA, d1, d2, AV.eq, AV.eqL, nxS]
    rw [seqS_nx s2, e1]

/-- the heap has grown and only the dice at i has changed -/
structure Keep (i : Nat) (h h' : AH) : Prop where
  len : h.length ≤ h'.length
  oth : ∀ j, j < h.length → j ≠ i → h'[j]? = h[j]?
theorem Keep.refl {i : Nat} {h : AH} : Keep i h h := ⟨Nat.le_refl _, fun _ _ _ => rfl⟩
theorem Keep.trans {i : Nat} {h h1 h2 : AH} (a : Keep i h h1) (b : Keep i h1 h2) : Keep i h h2 := ⟨Nat.le_trans a.len b.len, fun j hj hn => (b.oth j (Nat.lt_of_lt_of_le hj a.len) hn).trans (a.oth j hj hn)⟩
theorem Only1.keep {i : Nat} {h h' : AH} (a : Only1 i h h') : Keep i h h' := ⟨Nat.le_of_eq a.len.symm, fun j _ hn => a.oth j hn⟩
theorem Keep.app {i : Nat} {h l : AH} : Keep i h (h ++ l) := ⟨by simp, fun j hj _ => by rw [List.getElem?_append_left hj]⟩
theorem rounds_loop {L : Nat} {bd : SV} (hb : ∀ (σ : AS) (h : AH) (i : Nat), σ.length = L → Dice h i → ∃ σ' h', bd (σ.set 1 (some (.ref i))) h = .nx σ' h' ∧ σ'.length = L ∧ Keep i h h') :
    ∀ (is : List Nat) (σ : AS) (h : AH), is.Nodup → σ.length = L → (∀ i ∈ is, Dice h i) → ∃ σ' h', forL (nameT 1) bd (is.map AV.ref) σ h = .nx σ' h'
  | [], σ, h, _, _, _ => ⟨σ, h, rfl⟩
  | i :: is, σ, h, hn, hl, hd => by
    obtain ⟨ni, hn⟩ := List.nodup_cons.mp hn
    obtain ⟨σ1, h1, e1, l1, k1⟩ := hb σ h i hl (hd i List.mem_cons_self)
    obtain ⟨σ', h', e⟩ := rounds_loop hb is σ1 h1 hn l1 fun j hj => by
      obtain ⟨a, b, c, e⟩ := hd j (List.mem_cons_of_mem _ hj)
      exact ⟨a, b, c, (k1.oth j (List.getElem?_eq_some_iff.mp e).1 (fun z => ni (by rw [← z]; exact hj))).trans e⟩
    refine ⟨σ', h', ?_⟩
    rw [List.map_cons]
    unfold forL
    simp only [nameT, e1, e]
theorem law_of {L n : Nat} {most : Int} {bd : SV} (hL : 2 ≤ L) (hn : n ≤ 63) (hm : 0 ≤ most) (hb : ∀ (σ : AS) (h : AH) (i : Nat), σ.length = L → Dice h i → ∃ σ' h', bd (σ.set 1 (some (.ref i))) h = .nx σ' h' ∧ σ'.length = L ∧ Keep i h h') :
    Law n (body L (seqS (forS (nameT 1) (itD (callD f_rounds [(varD 0), (cD (.int most))])) bd) (retS (cD (.bl true))))) := by
  intro ns hns
  obtain ⟨k, h, e, hlen, hd⟩ := rounds_ok ns most hm (by omega)
  obtain ⟨L', rfl⟩ : ∃ L', L = L' + 1 := ⟨L - 1, by omega⟩
  obtain ⟨σ', h', e2⟩ := rounds_loop hb (List.range k) (some (.ro (ns.map AV.int)) :: List.replicate L' none) h List.nodup_range (by simp) fun i hi => hd i (List.mem_range.mp hi)
  refine ⟨h', ?_⟩
  unfold body
  have hs : ([AV.ro (ns.map AV.int)].map some ++ List.replicate (L' + 1 - [AV.ro (ns.map AV.int)].length) none) = some (.ro (ns.map AV.int)) :: List.replicate L' none := by simp
  rw [hs]
  rw [seqS_nx (σ1 := σ') (h1 := h') (by
    simp only [forS, itD, callD, evs, varD, cD, List.getElem?_cons_zero, ER.bindL_ok, LR.bindL_ok, LR.bind_ok, e, iterV, optL_some, LR.toS_ok, e2])]
  rfl
end D
end

section
namespace D
open PySem (Str)

theorem forL_inv {t : TGT} {b : SV} (I : Nat → AS → AH → Prop) : ∀ (xs : List AV) (i : Nat) (σ : AS) (h : AH), (∀ (k : Nat) (x : AV) (σ : AS) (h : AH), xs[k]? = some x → I (i + k) σ h → ∃ σ1 σ2 h2, t x σ = some σ1 ∧ (b σ1 h = .nx σ2 h2 ∨ b σ1 h = .ct σ2 h2) ∧ I (i + k + 1) σ2 h2) → I i σ h →
    ∃ σ' h', forL t b xs σ h = .nx σ' h' ∧ I (i + xs.length) σ' h'
  | [], i, σ, h, _, h0 => ⟨σ, h, rfl, h0⟩
  | x :: xs, i, σ, h, step, h0 => by
    obtain ⟨σ1, σ2, h2, e1, e2, h3⟩ := step 0 x σ h rfl h0
    obtain ⟨σ', h', e, r⟩ := forL_inv I xs (i + 1) σ2 h2 (fun k y σ h hy hi => by
      have e : i + 1 + k = i + (k + 1) := by omega
      rw [e] at hi ⊢
      exact step (k + 1) y σ h (by simpa using hy) hi) h3
    refine ⟨σ', h', ?_, by rw [List.length_cons]; have e : i + (xs.length + 1) = i + 1 + xs.length := by omega
                           rw [e]; exact r⟩
    unfold forL
    rcases e2 with e2 | e2 <;> simp only [e1, e2, e]
/-- a loop from its start -/
theorem for_inv {t : TGT} {b : SV} (I : Nat → AS → AH → Prop) {xs : List AV} {σ : AS} {h : AH} (h0 : I 0 σ h) (step : ∀ (k : Nat) (x : AV) (σ : AS) (h : AH), xs[k]? = some x → I k σ h → ∃ σ1 σ2 h2, t x σ = some σ1 ∧ (b σ1 h = .nx σ2 h2 ∨ b σ1 h = .ct σ2 h2) ∧ I (k + 1) σ2 h2) :
    ∃ σ' h', forL t b xs σ h = .nx σ' h' ∧ I xs.length σ' h' := by
  obtain ⟨σ', h', e, r⟩ := forL_inv I xs 0 σ h (fun k x σ h hx hi => by
    rw [Nat.zero_add] at hi ⊢
    exact step k x σ h hx hi) h0
  exact ⟨σ', h', e, by rw [Nat.zero_add] at r; exact r⟩
theorem compL_enc {α : Type} {t : TGT} {c e : EV} {σ : AS} {h : AH} (enc : α → AV) (g : α → Option AV) : ∀ (ys : List α), (∀ y ∈ ys, ∃ σ1, t (enc y) σ = some σ1 ∧ ((∃ v, c σ1 h = .ok (.bl true) h ∧ e σ1 h = .ok v h ∧ g y = some v) ∨ (c σ1 h = .ok (.bl false) h ∧ g y = none))) →
    compL t c e σ (ys.map enc) h = .ok (ys.filterMap g) h
  | [], _ => rfl
  | y :: ys, H => by
    have ih := compL_enc enc g ys fun z hz => H z (List.mem_cons_of_mem _ hz)
    obtain ⟨σ1, e1, H1⟩ := H y List.mem_cons_self
    rw [List.map_cons]
    unfold compL
    rcases H1 with ⟨v, e2, e3, e4⟩ | ⟨e2, e4⟩
    · simp only [e1, e2, e3, ih, List.filterMap_cons, e4]
    · simp only [e1, e2, ih, List.filterMap_cons, e4]
theorem compL_inv {t : TGT} {c e : EV} {σ : AS} (I : Nat → List AV → AH → Prop) : ∀ (xs : List AV) (i : Nat) (acc : List AV) (h : AH), (∀ (k : Nat) (x : AV) (acc : List AV) (h : AH), xs[k]? = some x → I (i + k) acc h → ∃ σ1 h1 v h2, t x σ = some σ1 ∧ c σ1 h = .ok (.bl true) h1 ∧ e σ1 h1 = .ok v h2 ∧ I (i + k + 1) (acc ++ [v]) h2) → I i acc h →
    ∃ vs h', compL t c e σ xs h = .ok vs h' ∧ I (i + xs.length) (acc ++ vs) h'
  | [], i, acc, h, _, h0 => ⟨[], h, rfl, by simpa using h0⟩
  | x :: xs, i, acc, h, step, h0 => by
    obtain ⟨σ1, h1, v, h2, e1, e2, e3, h3⟩ := step 0 x acc h rfl h0
    obtain ⟨vs, h', e4, r⟩ := compL_inv I xs (i + 1) (acc ++ [v]) h2 (fun k y ac h hy hi => by
      have e : i + 1 + k = i + (k + 1) := by omega
      rw [e] at hi ⊢
      exact step (k + 1) y ac h (by simpa using hy) hi) h3
    refine ⟨v :: vs, h', ?_, ?_⟩
    · unfold compL
      simp only [e1, e2, e3, e4]
    · rw [List.append_assoc] at r
      have e : i + (x :: xs).length = i + 1 + xs.length := by rw [List.length_cons]; omega
      rw [e]; exact r
def ch (c : Nat) : Str := ⟨#[c]⟩
theorem ch_inj {a b : Nat} : (ch a = ch b) ↔ a = b := by
  unfold ch
  constructor
  · intro h
    simpa using h
  · rintro rfl; rfl
theorem eq_str_iff {x : AV} {s : Str} : AV.eq x (.str s) = true ↔ x = .str s := by
  cases x <;> simp [AV.eq]
theorem dlook_cons {k x q : AV} {r : List (AV × AV)} : dlook ((k, x) :: r) q = if AV.eq k q = true then some x else dlook r q := by
  unfold dlook
  rw [List.find?_cons]
  by_cases h : AV.eq k q = true
  · rw [if_pos h]
    simp [h]
  · rw [if_neg h]
    simp [h]
theorem dlook_app {a b : List (AV × AV)} {q : AV} : dlook (a ++ b) q = match dlook a q with | some x => some x | none => dlook b q := by
  induction a with
  | nil => rfl
  | cons p r ih =>
    obtain ⟨k, x⟩ := p
    rw [List.cons_append, dlook_cons, dlook_cons]
    by_cases h : AV.eq k q = true
    · rw [if_pos h, if_pos h]
    · rw [if_neg h, if_neg h, ih]
theorem dlook_any {kvs : List (AV × AV)} {q : AV} : (kvs.any fun kv => AV.eq kv.1 q) = (dlook kvs q).isSome := by
  induction kvs with
  | nil => rfl
  | cons p r ih =>
    obtain ⟨k, x⟩ := p
    rw [List.any_cons, dlook_cons, ih]
    by_cases h : AV.eq k q = true
    · rw [if_pos h, h]; rfl
    · rw [if_neg h]
      have : AV.eq k q = false := by simpa using h
      rw [this]; rfl
theorem dlook_map {kvs : List (AV × AV)} {s s' : Str} {v : AV} : dlook (kvs.map fun kv => if AV.eq kv.1 (.str s) then (kv.1, v) else kv) (.str s') = if s' = s then (dlook kvs (.str s)).map (fun _ => v) else dlook kvs (.str s') := by
  induction kvs with
  | nil => simp [dlook]
  | cons p r ih =>
    obtain ⟨k, x⟩ := p
    rw [List.map_cons]
    by_cases h : AV.eq k (.str s) = true
    · have hk := eq_str_iff.mp h
      subst hk
      rw [if_pos h, dlook_cons, dlook_cons, dlook_cons, ih]
      by_cases hs : s' = s
      · subst hs
        simp [h]
      · have hne : ¬ AV.eq (.str s) (.str s') = true := fun z => by
          have := eq_str_iff.mp z
          exact hs (by cases this; rfl)
        rw [if_neg hne, if_neg hs, if_neg hs, if_neg hne]
    · rw [if_neg h, dlook_cons, dlook_cons, dlook_cons, ih]
      by_cases hs : s' = s
      · subst hs
        simp [h]
      · rw [if_neg hs, if_neg hs]
theorem dlook_dput {kvs : List (AV × AV)} {s s' : Str} {v : AV} : dlook (dput kvs (.str s) v) (.str s') = if s' = s then some v else dlook kvs (.str s') := by
  unfold dput
  rw [dlook_any]
  by_cases h : (dlook kvs (.str s)).isSome = true
  · rw [if_pos h, dlook_map]
    by_cases hs : s' = s
    · rw [if_pos hs, if_pos hs]
      obtain ⟨x, e⟩ := Option.isSome_iff_exists.mp h
      rw [e]; rfl
    · rw [if_neg hs, if_neg hs]
  · rw [if_neg h, dlook_app, dlook_cons]
    by_cases hs : s' = s
    · subst hs
      have : dlook kvs (.str s') = none := by simpa using h
      rw [this, if_pos rfl]
      simp [AV.eq]
    · rw [if_neg hs]
      have hne : ¬ AV.eq (.str s) (.str s') = true := fun z => by
        have := eq_str_iff.mp z
        exact hs (by cases this; rfl)
      rw [if_neg hne]
      cases dlook kvs (.str s') <;> rfl
mutual
theorem eq_refl : ∀ (n : Nat) (x : AV), x.dl n = true → x.eq x = true
  | n, x, h => by
    cases x with
    | non => rfl
    | bl b => simp [AV.eq]
    | int i => simp [AV.eq]
    | str s => simp [AV.eq]
    | tup xs =>
      cases n with
      | zero => simp [AV.dl] at h
      | succ m => simp only [AV.eq]; exact eqL_refl m xs (by simpa [AV.dl] using h)
    | lst xs =>
      cases n with
      | zero => simp [AV.dl] at h
      | succ m => simp only [AV.eq]; exact eqL_refl m xs (by simpa [AV.dl] using h)
    | dct _ => cases n <;> simp [AV.dl] at h
    | ref _ => cases n <;> simp [AV.dl] at h
    | ro _ => cases n <;> simp [AV.dl] at h
theorem eqL_refl : ∀ (n : Nat) (xs : List AV), (∀ x ∈ xs, x.dl n = true) → AV.eqL xs xs = true
  | _, [], _ => rfl
  | n, x :: xs, h => by
    simp only [AV.eqL, Bool.and_eq_true]
    exact ⟨eq_refl n x (h x List.mem_cons_self), eqL_refl n xs fun y hy => h y (List.mem_cons_of_mem _ hy)⟩
end
theorem neV_refl {x : AV} {h : AH} (ht : thaw h x = x) (hd : x.dl DEPTH = true) : neV x x h = .ok (.bl false) h := by
  unfold neV
  rw [ht, if_pos (by unfold eqOk; rw [hd]; simp), eq_refl DEPTH x hd]
  rfl
theorem eqV_refl {x : AV} {h : AH} (ht : thaw h x = x) (hd : x.dl DEPTH = true) : eqV x x h = .ok (.bl true) h := by
  unfold eqV
  rw [ht, if_pos (by unfold eqOk; rw [hd]; simp), eq_refl DEPTH x hd]
/-- sorted(xs) where xs stands for ys, and < for lt -/
theorem sortA_enc {α : Type} {enc : α → AV} {le : α → α → Bool} {ys : List α} (hlt : ∀ a ∈ ys, ∀ b ∈ ys, leA (enc a) (enc b) = le a b) : sortA (ys.map enc) = (ys.mergeSort le).map enc := by
  exact (List.map_mergeSort (r := le) (s := leA) (f := enc) fun a ha b hb => (hlt a ha b hb).symm).symm
/-- a sorted list of the same items is the sorted list -/
theorem sort_uniq {α : Type} {le : α → α → Bool} (tr : ∀ a b c, le a b = true → le b c = true → le a c = true) (to : ∀ a b, (le a b || le b a) = true) (anti : ∀ a b, le a b = true → le b a = true → a = b) {xs ys : List α} (hp : xs.Perm ys) (hs : ys.Pairwise fun a b => le a b = true) : xs.mergeSort le = ys :=
  List.Perm.eq_of_pairwise (fun a b _ _ => anti a b) (List.pairwise_mergeSort tr to xs) hs ((List.mergeSort_perm xs le).trans hp)
theorem sort_perm {α : Type} {le : α → α → Bool} (tr : ∀ a b c, le a b = true → le b c = true → le a c = true) (to : ∀ a b, (le a b || le b a) = true) (anti : ∀ a b, le a b = true → le b a = true → a = b) {xs ys : List α} (hp : xs.Perm ys) : xs.mergeSort le = ys.mergeSort le :=
  sort_uniq tr to anti (hp.trans (List.mergeSort_perm ys le).symm) (List.pairwise_mergeSort tr to ys)
/-- all that stood is as it was -/
structure Old (n : Nat) (h h' : AH) : Prop where
  len : h.length ≤ h'.length
  oth : ∀ j, j < n → h'[j]? = h[j]?
theorem Old.refl {n : Nat} {h : AH} : Old n h h := ⟨Nat.le_refl _, fun _ _ => rfl⟩
theorem Old.trans {n : Nat} {h h1 h2 : AH} (a : Old n h h1) (b : Old n h1 h2) : Old n h h2 := ⟨Nat.le_trans a.len b.len, fun j hj => (b.oth j hj).trans (a.oth j hj)⟩
theorem Old.app {n : Nat} {h l : AH} (hn : n ≤ h.length) : Old n h (h ++ l) := ⟨by simp, fun j hj => by rw [List.getElem?_append_left (by omega)]⟩
theorem Old.set {n i : Nat} {h : AH} {o : AO} (hi : n ≤ i) : Old n h (h.set i o) := ⟨by simp, fun j hj => by rw [List.getElem?_set_ne (by omega)]⟩
theorem Old.keep {i : Nat} {h h' : AH} (a : Old h.length h h') : Keep i h h' := ⟨a.len, fun j hj _ => a.oth j hj⟩
theorem get_app {h l : AH} {i : Nat} {o : AO} (e : h[i]? = some o) : (h ++ l)[i]? = some o := by
  rw [List.getElem?_append_left (List.getElem?_eq_some_iff.mp e).1]; exact e
theorem get_set_self {h : AH} {i : Nat} {o o' : AO} (e : h[i]? = some o) : (h.set i o')[i]? = some o' := List.getElem?_set_self (List.getElem?_eq_some_iff.mp e).1
theorem get_set_ne {h : AH} {i j : Nat} {o : AO} (hn : i ≠ j) : (h.set i o)[j]? = h[j]? := List.getElem?_set_ne hn
theorem get_new {h : AH} {o : AO} : (h ++ [o])[h.length]? = some o := by simp
theorem hput_dc {h : AH} {i : Nat} {kvs : List (AV × AV)} (e : h[i]? = some (.dct kvs)) (k w : AV) (hk : flatK k = true) (hl : kvs.length < LIM) : hput1 i k w h = some (h.set i (.dct (dput kvs k w))) := by
  unfold hput1
  simp only [e, hk, hl, decide_true, Bool.and_self, if_true, hset]
theorem get_dc {h : AH} {i : Nat} {kvs : List (AV × AV)} (e : h[i]? = some (.dct kvs)) (k : AV) (hk : flatK k = true) : getV (.ref i) k h = optE (dlook kvs k) h := by
  show optE (getH (.ref i) k h) h = _
  have : getH (.ref i) k h = dlook kvs k := by
    unfold getH rl lv dv
    simp only [e, Option.bind_some, atK, keyOk, hk, if_true]
  rw [this]
theorem in_dc {h : AH} {i : Nat} {kvs : List (AV × AV)} (e : h[i]? = some (.dct kvs)) (k : AV) (hk : flatK k = true) : notInD k (.ref i) h = .ok (.bl (!(dlook kvs k).isSome)) h ∧ inD k (.ref i) h = .ok (.bl (dlook kvs k).isSome) h := by
  have : inV k (.ref i) h = some (dlook kvs k).isSome := by
    show inH k (.ref i) h = _
    unfold inH rl lv dv
    simp only [e, Option.bind_some, inDic, keyOk, hk, if_true]
  unfold notInD inD
  rw [this]
  exact ⟨rfl, rfl⟩
theorem happ_at {h : AH} {i : Nat} {xs : List AV} {v : AV} (e : h[i]? = some (.lst xs)) (hl : xs.length < LIM) : happV (.ref i) v h = .ok .non (h.set i (.lst (xs ++ [v]))) := by
  unfold happV
  simp only [e, hl, if_true, hset]
theorem isHL_at {h : AH} {i : Nat} {xs : List AV} (e : h[i]? = some (.lst xs)) : isHL h i = true := by
  unfold isHL
  rw [e]
end D
end

section
namespace D
open PySem (Str)

mutual
theorem eq_of : ∀ (n : Nat) (x y : AV), x.dl n = true → x.eq y = true → x.co y = true → x = y
  | n, x, y, hd, he, hc => by
    cases x with
    | non => cases y <;> simp_all [AV.eq, AV.co]
    | bl b => cases y <;> simp_all [AV.eq, AV.co]
    | int i => cases y <;> simp_all [AV.eq, AV.co]
    | str s => cases y <;> simp_all [AV.eq, AV.co]
    | tup xs =>
      cases n with
      | zero => simp [AV.dl] at hd
      | succ m =>
        cases y with
        | tup ys =>
          simp only [AV.eq] at he
          simp only [AV.co] at hc
          rw [eqL_of m xs ys (by simpa [AV.dl] using hd) he hc]
        | _ => simp [AV.eq] at he
    | lst xs =>
      cases n with
      | zero => simp [AV.dl] at hd
      | succ m =>
        cases y with
        | lst ys =>
          simp only [AV.eq] at he
          simp only [AV.co] at hc
          rw [eqL_of m xs ys (by simpa [AV.dl] using hd) he hc]
        | _ => simp [AV.eq] at he
    | dct _ => cases n <;> simp [AV.dl] at hd
    | ref _ => cases n <;> simp [AV.dl] at hd
    | ro _ => cases n <;> simp [AV.dl] at hd
theorem eqL_of : ∀ (n : Nat) (xs ys : List AV), (∀ x ∈ xs, x.dl n = true) → AV.eqL xs ys = true → AV.coL xs ys = true → xs = ys
  | _, [], [], _, _, _ => rfl
  | _, [], _ :: _, _, h, _ => by simp [AV.eqL] at h
  | _, _ :: _, [], _, h, _ => by simp [AV.eqL] at h
  | n, x :: xs, y :: ys, hd, he, hc => by
    simp only [AV.eqL, Bool.and_eq_true] at he
    simp only [AV.coL, Bool.and_eq_true] at hc
    rw [eq_of n x y (hd x List.mem_cons_self) he.1 hc.1, eqL_of n xs ys (fun z hz => hd z (List.mem_cons_of_mem _ hz)) he.2 hc.2]
end
mutual
theorem lt_irr : ∀ (n : Nat) (x : AV), x.dl n = true → x.lt x = false
  | n, x, hd => by
    cases x with
    | non => rfl
    | bl b => cases b <;> rfl
    | int i => simp [AV.lt]
    | str s => simp only [AV.lt]; exact decide_eq_false (List.lt_irrefl _)
    | tup xs =>
      cases n with
      | zero => simp [AV.dl] at hd
      | succ m => simp only [AV.lt]; exact ltL_irr m xs (by simpa [AV.dl] using hd)
    | lst xs =>
      cases n with
      | zero => simp [AV.dl] at hd
      | succ m => simp only [AV.lt]; exact ltL_irr m xs (by simpa [AV.dl] using hd)
    | dct _ => rfl
    | ref _ => rfl
    | ro _ => rfl
theorem ltL_irr : ∀ (n : Nat) (xs : List AV), (∀ x ∈ xs, x.dl n = true) → AV.ltL xs xs = false
  | _, [], _ => rfl
  | n, x :: xs, hd => by
    simp only [AV.ltL]
    rw [if_pos (eq_refl n x (hd x List.mem_cons_self))]
    exact ltL_irr n xs fun z hz => hd z (List.mem_cons_of_mem _ hz)
end
theorem eq_no {n : Nat} {x y : AV} (hd : x.dl n = true) (hl : x.lt y = true) (hc : x.co y = true) : x.eq y = false := by
  cases h : x.eq y with
  | false => rfl
  | true =>
    have := eq_of n x y hd h hc
    subst this
    rw [lt_irr n x hd] at hl
    cases hl
mutual
theorem lt_tr : ∀ (n : Nat) (x y z : AV), x.dl n = true → y.dl n = true → z.dl n = true → x.co y = true → y.co z = true → x.co z = true → x.lt y = true → y.lt z = true → x.lt z = true
  | n, x, y, z, h1, h2, h3, c1, c2, c3, l1, l2 => by
    cases x with
    | non => cases y <;> simp [AV.lt] at l1
    | bl a => cases y <;> cases z <;> simp_all [AV.lt, AV.co]
    | int i => cases y <;> cases z <;> simp_all [AV.lt, AV.co] <;> omega
    | str s =>
      cases y with
      | str s2 =>
        cases z with
        | str s3 =>
          simp only [AV.lt, decide_eq_true_eq] at l1 l2 ⊢
          exact List.lt_trans l1 l2
        | _ => simp [AV.lt] at l2
      | _ => simp [AV.lt] at l1
    | tup xs =>
      cases n with
      | zero => simp [AV.dl] at h1
      | succ m =>
        cases y with
        | tup ys =>
          cases z with
          | tup zs =>
            simp only [AV.lt] at l1 l2 ⊢
            simp only [AV.co] at c1 c2 c3
            exact ltL_tr m xs ys zs (by simpa [AV.dl] using h1) (by simpa [AV.dl] using h2) (by simpa [AV.dl] using h3) c1 c2 c3 l1 l2
          | _ => simp [AV.lt] at l2
        | _ => simp [AV.lt] at l1
    | lst xs =>
      cases n with
      | zero => simp [AV.dl] at h1
      | succ m =>
        cases y with
        | lst ys =>
          cases z with
          | lst zs =>
            simp only [AV.lt] at l1 l2 ⊢
            simp only [AV.co] at c1 c2 c3
            exact ltL_tr m xs ys zs (by simpa [AV.dl] using h1) (by simpa [AV.dl] using h2) (by simpa [AV.dl] using h3) c1 c2 c3 l1 l2
          | _ => simp [AV.lt] at l2
        | _ => simp [AV.lt] at l1
    | dct _ => cases n <;> simp [AV.dl] at h1
    | ref _ => cases n <;> simp [AV.dl] at h1
    | ro _ => cases n <;> simp [AV.dl] at h1
theorem ltL_tr : ∀ (n : Nat) (xs ys zs : List AV), (∀ x ∈ xs, x.dl n = true) → (∀ x ∈ ys, x.dl n = true) → (∀ x ∈ zs, x.dl n = true) → AV.coL xs ys = true → AV.coL ys zs = true → AV.coL xs zs = true → AV.ltL xs ys = true → AV.ltL ys zs = true → AV.ltL xs zs = true
  | _, [], [], _, _, _, _, _, _, _, l1, _ => by simp [AV.ltL] at l1
  | _, _ :: _, [], _, _, _, _, _, _, _, l1, _ => by simp [AV.ltL] at l1
  | _, [], _ :: _, [], _, _, _, _, _, _, _, l2 => by simp [AV.ltL] at l2
  | _, [], _ :: _, _ :: _, _, _, _, _, _, _, _, _ => by simp [AV.ltL]
  | _, _ :: _, _ :: _, [], _, _, _, _, _, _, _, l2 => by simp [AV.ltL] at l2
  | n, x :: xs, y :: ys, z :: zs, h1, h2, h3, c1, c2, c3, l1, l2 => by
    simp only [AV.coL, Bool.and_eq_true] at c1 c2 c3
    simp only [AV.ltL] at l1 l2 ⊢
    have hx := h1 x List.mem_cons_self
    have hy := h2 y List.mem_cons_self
    have hz := h3 z List.mem_cons_self
    by_cases e1 : x.eq y = true
    · have := eq_of n x y hx e1 c1.1
      subst this
      rw [if_pos e1] at l1
      by_cases e2 : x.eq z = true
      · rw [if_pos e2] at l2 ⊢
        exact ltL_tr n xs ys zs (fun w hw => h1 w (List.mem_cons_of_mem _ hw)) (fun w hw => h2 w (List.mem_cons_of_mem _ hw)) (fun w hw => h3 w (List.mem_cons_of_mem _ hw)) c1.2 c2.2 c3.2 l1 l2
      · rw [if_neg e2] at l2 ⊢
        exact l2
    · rw [if_neg e1] at l1
      by_cases e2 : y.eq z = true
      · have := eq_of n y z hy e2 c2.1
        subst this
        rw [if_neg e1]
        exact l1
      · rw [if_neg e2] at l2
        have l3 := lt_tr n x y z hx hy hz c1.1 c2.1 c3.1 l1 l2
        rw [eq_no hx l3 c3.1]
        simpa using l3
end
mutual
theorem lt_tot : ∀ (n : Nat) (x y : AV), x.dl n = true → y.dl n = true → x.co y = true → y.co x = true → x.lt y = false → y.lt x = false → x = y
  | n, x, y, h1, h2, c1, c2, l1, l2 => by
    cases x with
    | non => cases y <;> simp_all [AV.co]
    | bl a => cases y <;> simp_all [AV.lt, AV.co] <;> (rename_i b; cases a <;> cases b <;> simp_all)
    | int i => cases y <;> simp_all [AV.lt, AV.co] <;> omega
    | str s =>
      cases y with
      | str s2 =>
        simp only [AV.lt, decide_eq_false_iff_not] at l1 l2
        have e : s.cps.toList = s2.cps.toList := List.le_antisymm (by simpa [List.not_lt] using l2) (by simpa [List.not_lt] using l1)
        obtain ⟨a⟩ := s
        obtain ⟨b⟩ := s2
        simp only at e
        have : a = b := Array.toList_inj.mp e
        rw [this]
      | _ => simp [AV.co] at c1
    | tup xs =>
      cases n with
      | zero => simp [AV.dl] at h1
      | succ m =>
        cases y with
        | tup ys =>
          simp only [AV.lt] at l1 l2
          simp only [AV.co] at c1 c2
          rw [ltL_tot m xs ys (by simpa [AV.dl] using h1) (by simpa [AV.dl] using h2) c1 c2 l1 l2]
        | _ => simp [AV.co] at c1
    | lst xs =>
      cases n with
      | zero => simp [AV.dl] at h1
      | succ m =>
        cases y with
        | lst ys =>
          simp only [AV.lt] at l1 l2
          simp only [AV.co] at c1 c2
          rw [ltL_tot m xs ys (by simpa [AV.dl] using h1) (by simpa [AV.dl] using h2) c1 c2 l1 l2]
        | _ => simp [AV.co] at c1
    | dct _ => cases n <;> simp [AV.dl] at h1
    | ref _ => cases n <;> simp [AV.dl] at h1
    | ro _ => cases n <;> simp [AV.dl] at h1
theorem ltL_tot : ∀ (n : Nat) (xs ys : List AV), (∀ x ∈ xs, x.dl n = true) → (∀ x ∈ ys, x.dl n = true) → AV.coL xs ys = true → AV.coL ys xs = true → AV.ltL xs ys = false → AV.ltL ys xs = false → xs = ys
  | _, [], [], _, _, _, _, _, _ => rfl
  | _, [], _ :: _, _, _, _, _, l1, _ => by simp [AV.ltL] at l1
  | _, _ :: _, [], _, _, _, _, _, l2 => by simp [AV.ltL] at l2
  | n, x :: xs, y :: ys, h1, h2, c1, c2, l1, l2 => by
    simp only [AV.coL, Bool.and_eq_true] at c1 c2
    simp only [AV.ltL] at l1 l2
    have hx := h1 x List.mem_cons_self
    have hy := h2 y List.mem_cons_self
    by_cases e1 : x.eq y = true
    · have := eq_of n x y hx e1 c1.1
      subst this
      rw [if_pos e1] at l1 l2
      rw [ltL_tot n xs ys (fun w hw => h1 w (List.mem_cons_of_mem _ hw)) (fun w hw => h2 w (List.mem_cons_of_mem _ hw)) c1.2 c2.2 l1 l2]
    · rw [if_neg e1] at l1
      have e2 : ¬ y.eq x = true := fun z => e1 (by
        have := eq_of n y x hy z c2.1
        subst this
        exact z)
      rw [if_neg e2] at l2
      exact absurd (lt_tot n x y hx hy c1.1 c2.1 l1 l2) (fun z => by subst z; exact e1 (eq_refl n x hx))
end
/-- items that < tells apart -/
structure Srt (xs : List AV) : Prop where
  dl : ∀ x ∈ xs, x.dl DEPTH = true
  co : ∀ x ∈ xs, ∀ y ∈ xs, x.co y = true
theorem Srt.perm {xs ys : List AV} (h : Srt xs) (p : xs.Perm ys) : Srt ys := ⟨fun x hx => h.dl x (p.mem_iff.mpr hx), fun x hx y hy => h.co x (p.mem_iff.mpr hx) y (p.mem_iff.mpr hy)⟩
theorem Srt.ok {xs : List AV} (h : Srt xs) (ht : (xs.all isTup1 || xs.all notTup) = true) : sortOk xs = true := by
  unfold sortOk
  rw [ht, Bool.and_true, Bool.and_eq_true]
  exact ⟨List.all_eq_true.mpr fun x hx => List.all_eq_true.mpr fun y hy => h.co x hx y hy, List.all_eq_true.mpr h.dl⟩
theorem leA_tr {xs : List AV} (h : Srt xs) {a b c : AV} (ha : a ∈ xs) (hb : b ∈ xs) (hc : c ∈ xs) (l1 : leA a b = true) (l2 : leA b c = true) : leA a c = true := by
  unfold leA at l1 l2 ⊢
  simp only [Bool.not_eq_true'] at l1 l2 ⊢
  cases e : c.lt a with
  | false => rfl
  | true =>
    cases e1 : a.lt b with
    | false =>
      have := lt_tot DEPTH a b (h.dl a ha) (h.dl b hb) (h.co a ha b hb) (h.co b hb a ha) e1 l1
      subst this
      rw [e] at l2
      cases l2
    | true =>
      have := lt_tr DEPTH c a b (h.dl c hc) (h.dl a ha) (h.dl b hb) (h.co c hc a ha) (h.co a ha b hb) (h.co c hc b hb) e e1
      rw [this] at l2
      cases l2
theorem leA_to {xs : List AV} (h : Srt xs) {a b : AV} (ha : a ∈ xs) (hb : b ∈ xs) : (leA a b || leA b a) = true := by
  unfold leA
  cases e : b.lt a with
  | false => rfl
  | true =>
    cases e1 : a.lt b with
    | false => rfl
    | true =>
      have := lt_tr DEPTH a b a (h.dl a ha) (h.dl b hb) (h.dl a ha) (h.co a ha b hb) (h.co b hb a ha) (h.co a ha a ha) e1 e
      rw [lt_irr DEPTH a (h.dl a ha)] at this
      cases this
theorem leA_anti {xs : List AV} (h : Srt xs) {a b : AV} (ha : a ∈ xs) (hb : b ∈ xs) (l1 : leA a b = true) (l2 : leA b a = true) : a = b := by
  unfold leA at l1 l2
  simp only [Bool.not_eq_true'] at l1 l2
  exact lt_tot DEPTH a b (h.dl a ha) (h.dl b hb) (h.co a ha b hb) (h.co b hb a ha) l2 l1
theorem sortA_perm (xs : List AV) : (sortA xs).Perm xs := List.mergeSort_perm xs leA
theorem sortA_pw {xs : List AV} (h : Srt xs) : (sortA xs).Pairwise fun a b => leA a b = true := by
  have e : sortA xs = (xs.attach.mergeSort fun a b => leA a.1 b.1).map (·.1) := by
    rw [List.map_mergeSort (s := leA) (f := Subtype.val) fun a _ b _ => rfl]
    unfold sortA
    rw [List.attach_map_subtype_val]
  rw [e]
  refine List.pairwise_map.mpr ?_
  exact List.pairwise_mergeSort (le := fun (a b : {x // x ∈ xs}) => leA a.1 b.1) (fun a b c l1 l2 => leA_tr (a := a.1) (b := b.1) (c := c.1) h a.2 b.2 c.2 l1 l2) (fun a b => leA_to (a := a.1) (b := b.1) h a.2 b.2) xs.attach
theorem sortA_uniq {xs ys : List AV} (h : Srt xs) (hp : xs.Perm ys) (hs : ys.Pairwise fun a b => leA a b = true) : sortA xs = ys :=
  List.Perm.eq_of_pairwise (fun a b ha hb => leA_anti h ((sortA_perm xs).mem_iff.mp ha) (hp.mem_iff.mpr hb)) (sortA_pw h) hs ((sortA_perm xs).trans hp)
theorem sortA_same {xs ys : List AV} (h : Srt xs) (hp : xs.Perm ys) : sortA xs = sortA ys := sortA_uniq h (hp.trans (sortA_perm ys).symm) (sortA_pw (h.perm hp))
end D
end

section
namespace D
open PySem (Str)
/-- what is never come to -/
def nevS : SV := fun _ _ => .stuck
def nevE : EV := fun _ _ => .stuck
/-- the keys of a name's dict -/
def keysD (i : Nat) : LV := fun σ h => match σ[i]? with
  | some (some (.dct kvs)) => .ok (kvs.map (·.1)) h
  | _ => .stuck
def noX : SR → SR
  | .exc _ _ _ _ => .stuck
  | r => r
def forKS (t : TGT) (i : Nat) (b : SV) : SV := fun σ h => noX (forS t (keysD i) b σ h)
/-- o.pop() of a list of the heap -/
def hpopV (o : AV) (h : AH) : ER := match o with
  | .ref i => (match h[i]? with
    | some (.lst xs) => (match xs.getLast? with
      | some v => .ok v (hset h i (.lst xs.dropLast))
      | none => .stuck)
    | _ => .stuck)
  | _ => .stuck
def hpopD (o : EV) : EV := fun σ h => (o σ h).bind fun v h1 => match (rfOf v).bind fun i => if isHL h1 i then some i else none with
  | some i => hpopV (.ref i) h1
  | none => .stuck
def strsA : List AV → Option (List Str)
  | [] => some []
  | .str s :: r => (strsA r).map (s :: ·)
  | _ => none
/-- methods of texts -/
def strM0 (f : Str → AH → ER) (o : EV) : EV := fun σ h => (o σ h).bind fun x h1 => match x with
  | .str s => f s h1
  | _ => .stuck
def strM1 (f : Str → AV → AH → ER) (o a : EV) : EV := fun σ h => (o σ h).bind fun x h1 => match x with
  | .str s => (a σ h1).bind fun y h2 => f s y h2
  | _ => .stuck
def joinV (a : Str) (v : AV) (h : AH) : ER := match (seqOf h v).bind strsA with
  | some ys => if (ys.map (·.length)).sum + ys.length * a.length ≤ LIM then .ok (.str (Str.join a ys)) h else .stuck
  | none => .stuck
def splitL (c : Nat) : List Nat → List (List Nat)
  | [] => [[]]
  | x :: r => if x = c then [] :: splitL c r else match splitL c r with
    | p :: q => (x :: p) :: q
    | [] => [[x]]
def splitV (a : Str) (y : AV) (h : AH) : ER := match y with
  | .str b => (match b.cps.toList with
    | [c] => if c < 256 ∧ a.length + 2 ≤ LIM then .ok (.lst ((splitL c a.cps.toList).map fun p => .str ⟨p.toArray⟩)) h else .stuck
    | _ => .stuck)
  | _ => .stuck
/-- tuple(reversed(x)) -/
def revTV (o : AV) (h : AH) : ER := match o with
  | .tup xs => .ok (.tup xs.reverse) h
  | _ => .stuck
/-- sorted(d), texts as keys -/
def sortKF : FV := fun vs h => match vs with
  | [o] => (match (dv h o).bind fun kvs => strsA (kvs.map (·.1)) with
    | some ks => if ks.length < 64 then .ok (.lst (sortA (ks.map .str))) h else .stuck
    | none => .stuck)
  | _ => .stuck
end D
end

section
namespace D
open PySem L2

section
variable {P : Pm} {X : Cx} {b : Bool} {W : WX} {N Nb Nx N' : List Nat} {st : Stmt} {e : Expr}
theorem ds_nev : DS P X b W N Nb Nx N' st nevS := ds_never
theorem dss_nev {sts : List Stmt} : DSs P X b W N Nb Nx N' sts nevS := dss_never
theorem de_nev : DE P X b W N e nevE := ⟨⟨fun pins s σ H Q I q => by
  obtain ⟨_, _, _, _, _, _, _, _, q⟩ := q
  exact q.elim⟩⟩
end

/-- H' is H but at d; what may be read at d is the same, no list stands there -/
structure Same1 (d : Addr) (H H' : Hp) : Prop where
  oth : ∀ a, a ≠ d → H' a = H a
  rd : ∀ u, (∀ o w, u ≠ .frz o w) → Rd H d u → Rd H' d u
  nol : ∀ vs, H d ≠ some (.lst vs)
section
variable {P : Pm} {K : PySem.W.Frag} {ρ : List Addr} {B : Addr → Prop} {H H' : Hp} {d : Addr} {ow : List (Nat × Addr)} {σa : AS} {σ : St} {h : AH}
theorem Same1.rdA (S : Same1 d H H') {a : Addr} {u : HO} (nu : ∀ o w, u ≠ .frz o w) (r : Rd H a u) : Rd H' a u := by
  by_cases e : a = d
  · subst e; exact S.rd u nu r
  · rcases r with r | ⟨o, r⟩
    · exact .inl ((S.oth a e).trans r)
    · exact .inr ⟨o, (S.oth a e).trans r⟩
mutual
theorem RV.same (S : Same1 d H H') : ∀ (x : AV) {v : V}, RV K ρ B H x v → RV K ρ B H' x v
  | .non, _, h => h
  | .bl _, _, h => h
  | .int _, _, h => h
  | .str _, _, h => h
  | .tup xs, v, h => by
    unfold RV at h ⊢
    obtain ⟨a, vs, rfl, h1, h2⟩ := h
    exact ⟨a, vs, rfl, h1.imp_left fun ⟨g1, g2, g3⟩ => ⟨g1, g2, S.rdA (fun _ _ z => by cases z) g3⟩, RVs.same S xs h2⟩
  | .lst xs, v, h => by
    unfold RV at h ⊢
    obtain ⟨a, vs, rfl, h1, h2, h3, h4⟩ := h
    have ne : a ≠ d := fun z => S.nol vs (by rw [← z]; exact h3)
    exact ⟨a, vs, rfl, h1, h2, (S.oth a ne).trans h3, RVs.same S xs h4⟩
  | .dct kvs, v, h => by
    unfold RV at h ⊢
    obtain ⟨a, us, rfl, ⟨g1, g2, g3⟩, h4⟩ := h
    exact ⟨a, us, rfl, ⟨g1, g2, S.rdA (fun _ _ z => by cases z) g3⟩, RKs.same S kvs h4⟩
  | .ref i, v, h => by
    unfold RV at h ⊢
    exact h
  | .ro xs, v, h => by
    unfold RV at h ⊢
    obtain ⟨a, vs, rfl, h1, h2⟩ := h
    exact ⟨a, vs, rfl, h1.imp_left fun ⟨g1, g2, g3⟩ => ⟨g1, g2, S.rdA (fun _ _ z => by cases z) g3⟩, RVs.same S xs h2⟩
theorem RVs.same (S : Same1 d H H') : ∀ (xs : List AV) {vs : List V}, RVs K ρ B H xs vs → RVs K ρ B H' xs vs
  | [], _, h => by unfold RVs at h ⊢; exact h
  | x :: xs, vs, h => by
    unfold RVs at h ⊢
    obtain ⟨v, r, rfl, h1, h2⟩ := h
    exact ⟨v, r, rfl, RV.same S x h1, RVs.same S xs h2⟩
theorem RKs.same (S : Same1 d H H') : ∀ (kvs : List (AV × AV)) {us : List (Key × V)}, RKs K ρ B H kvs us → RKs K ρ B H' kvs us
  | [], _, h => by unfold RKs at h ⊢; exact h
  | (k, x) :: r, us, h => by
    unfold RKs at h ⊢
    obtain ⟨k', v, t, rfl, h1, h2, h3⟩ := h
    exact ⟨k', v, t, rfl, h1, RV.same S x h2, RKs.same S r h3⟩
end
theorem RFs.same (S : Same1 d H H') : ∀ (fs : List (Str × AV)) {us : List (Str × V)}, RFs K ρ B H fs us → RFs K ρ B H' fs us
  | [], _, h => h
  | (k, x) :: r, us, h => by
    obtain ⟨v, t, rfl, h1, h2⟩ := h
    exact ⟨v, t, rfl, h1.same S x, RFs.same S r h2⟩
theorem OV.same (S : Same1 d H H') : ∀ {x : AV} {v : HO}, OV K ρ B H x v → OV K ρ B H' x v
  | .lst xs, _, ⟨vs, h1, h2⟩ => ⟨vs, h1, h2.same S xs⟩
  | .dct xs, _, ⟨vs, h1, h2⟩ => ⟨vs, h1, h2.same S xs⟩
theorem RO.same (S : Same1 d H H') : ∀ {x : AO} {v : HO}, RO P ρ B H x v → RO P ρ B H' x v
  | .lst xs, _, ⟨vs, h1, h2⟩ => ⟨vs, h1, h2.same S xs⟩
  | .dct xs, _, ⟨vs, h1, h2⟩ => ⟨vs, h1, h2.same S xs⟩
  | .ins c fs, _, ⟨dx, us, h1, h2⟩ => ⟨dx, us, h1, h2.same S fs⟩
theorem RH.same (S : Same1 d H H') (hd : H' d ≠ none) (hr : d ∉ ρ) (r : RH P ρ B H h) : RH P ρ B H' h := by
  refine ⟨r.len, r.nd, r.out, fun a ha => ?_, fun i o e => ?_⟩
  · by_cases z : a = d
    · subst z; exact hd
    · rw [S.oth a z]; exact r.lvB a ha
  · obtain ⟨a, u, e1, e2, e3⟩ := r.obj i o e
    have ne : a ≠ d := fun z => hr (by rw [← z]; exact List.mem_of_getElem? e1)
    exact ⟨a, u, e1, (S.oth a ne).trans e2, e3.same S⟩
theorem RS.same (S : Same1 d H H') (hb : d ∉ ow.map (·.2)) (r : RS P ρ B ow H σa σ) : RS P ρ B ow H' σa σ := by
  refine ⟨r.len, r.nd1, r.nd2, r.out, fun i av h1 h2 => ?_, fun p hp => ?_⟩
  · obtain ⟨v, h3, h4⟩ := r.val i av h1 h2
    exact ⟨v, h3, h4.same S av⟩
  · obtain ⟨av, u, h1, h2, h3, h4⟩ := r.own p hp
    have ne : p.2 ≠ d := fun z => hb (by rw [← z]; exact mem_snd hp)
    exact ⟨av, u, h1, h2, (S.oth _ ne).trans h3, h4.same S⟩
theorem same_lock {us : List (Key × V)} {od : Obj} (e : H d = some (.dK us)) : Same1 d H (upd H d (.frz od (.dK us))) := by
  refine ⟨fun a h => upd_ne h, fun u _ r => ?_, fun vs z => by rw [e] at z; cases z⟩
  rcases r with r | ⟨o, r⟩
  · rw [e] at r; cases r; exact .inr ⟨od, upd_same⟩
  · rw [e] at r; cases r
theorem same_unlock {us : List (Key × V)} {od : Obj} (e : H d = some (.frz od (.dK us))) : Same1 d H (upd H d (.dK us)) := by
  refine ⟨fun a h => upd_ne h, fun u nu r => ?_, fun vs z => by rw [e] at z; cases z⟩
  rcases r with r | ⟨o, r⟩
  · rw [e] at r; cases r; exact absurd rfl (nu _ _)
  · rw [e] at r; cases r; exact .inl upd_same
end

section
variable {P : Pm} {X : Cx} {b : Bool} {W : WX} {N Nb Nx N' : List Nat} {tg e elt : Expr} {pos : Pos} {t : TGT} {mc me : EV} {m : SV} {c : Bool}
def Locked (σ : St) (H : Hp) (i : Nat) : Prop := ∃ d o us, σ[i]? = some (some (.ref d)) ∧ H d = some (.frz o (.dK us))
def tKeys (P : Pm) (c b : Bool) (W : WX) (N : List Nat) (i : Nat) : TI := fun σ H R => tDI P c b W N (keysD i) σ H R ∧ Locked σ H i
theorem keys_at {i : Nat} {σa : AS} {h : AH} {xs : List AV} {h1 : AH} (e : keysD i σa h = .ok xs h1) : ∃ kvs, σa[i]? = some (some (.dct kvs)) ∧ xs = kvs.map (·.1) ∧ h1 = h := by
  unfold keysD at e
  split at e
  · rename_i kvs hk
    cases e
    exact ⟨kvs, hk, rfl, rfl⟩
  · cases e
theorem rks_key {K : PySem.W.Frag} {ρ : List Addr} {B : Addr → Prop} {H : Hp} : ∀ {kvs : List (AV × AV)} {us : List (Key × V)} {i : Nat} {y : AV}, RKs K ρ B H kvs us → (kvs.map (·.1))[i]? = some y → ∃ k v, us[i]? = some (k, v) ∧ keyOf y = some k
  | [], _, _, _, _, e => by simp at e
  | (k, x) :: r, us, i, y, h, e => by
    unfold RKs at h
    obtain ⟨k', v, t, rfl, h1, h2, h3⟩ := h
    cases i with
    | zero => simp at e; subst e; exact ⟨k', v, rfl, h1⟩
    | succ i =>
      obtain ⟨k2, v2, g1, g2⟩ := rks_key (i := i) h3 (by simpa using e)
      exact ⟨k2, v2, by simpa using g1, g2⟩
theorem key_rv {K : PySem.W.Frag} {ρ : List Addr} {B : Addr → Prop} {H : Hp} {y : AV} {k : Key} (e : keyOf y = some k) : RV K ρ B H y (kV k) := by
  cases y with
  | int i => cases e; exact mk_int
  | str s => cases e; exact mk_str
  | non => cases e
  | bl _ => cases e
  | tup _ => cases e
  | lst _ => cases e
  | dct _ => cases e
  | ref _ => cases e
  | ro _ => cases e
theorem itk_ok {ρ : List Addr} {B : Addr → Prop} {H1 : Hp} {d : Addr} {o : Obj} {kvs : List (AV × AV)} {us : List (Key × V)} (hd : H1 d = some (.frz o (.dK us))) (hv : RKs P.K ρ B H1 kvs us) : ItOk P.K ρ B H1 (fun a => a = d) (Itk d o us) (kvs.map (·.1)) := by
  intro H2 hS i
  have q : H2 d = some (.frz o (.dK us)) := (hS d rfl).trans hd
  refine ⟨fun hi => ⟨q, by rw [← hv.len]; simpa using hi⟩, fun y hy => ?_⟩
  obtain ⟨k, v, h1, h2⟩ := rks_key hv hy
  refine ⟨⟨q, (List.getElem?_eq_some_iff.mp h1).1⟩, fun x H3 hz => ?_⟩
  obtain ⟨rfl, k', v', g1, rfl⟩ := hz
  rw [h1] at g1
  cases g1
  exact .inl ⟨rfl, key_rv h2⟩
/-- the dict of a name -/
theorem dct_at {i : Nat} {ρ : List Addr} {B : Addr → Prop} {ow : List (Nat × Addr)} {σa : AS} {σ : St} {H : Hp} {kvs : List (AV × AV)} (rs : RS P ρ B ow H σa σ) (hi : i ∉ ow.map (·.1)) (e : σa[i]? = some (some (.dct kvs))) :
    ∃ d us, σ[i]? = some (some (.ref d)) ∧ d ∉ ρ ∧ ¬ Bo B ow d ∧ Rd H d (.dK us) ∧ RKs P.K ρ (Bo B ow) H kvs us := by
  obtain ⟨v, h3, h4⟩ := rs.val i _ e hi
  unfold RV at h4
  obtain ⟨a, us, rfl, ⟨g1, g2, g3⟩, h5⟩ := h4
  exact ⟨a, us, h3, g1, g2, g3, h5⟩
theorem pi_keysD {i : Nat} (hi : i ∉ N) (he : PE X e (tVar i)) : PI X tg e (tKeys P c b W N i) := by
  refine pi_weak (pi_keys he) ?_
  rintro σ H R ⟨⟨ρ, B, ow, σa, h, rh, rs, rfl, q⟩, d, o, us, hs, hd⟩
  refine ⟨.ref d, hs, d, o, rfl, .inl ⟨us, hd, ?_⟩⟩
  cases g : keysD i σa h with
  | stuck => rw [g] at q; exact q.elim
  | exc cc x h' =>
    unfold keysD at g
    split at g <;> cases g
  | ok xs h1 =>
    rw [g] at q
    obtain ⟨kvs, hk, rfl, rfl⟩ := keys_at g
    obtain ⟨d', us', e1, g1, g2, g3, g4⟩ := dct_at rs hi hk
    rw [hs] at e1
    cases e1
    have eu : us' = us := by
      rcases g3 with g3 | ⟨o', g3⟩
      · rw [hd] at g3; cases g3
      · rw [hd] at g3; cases g3; rfl
    subst eu
    refine q ρ H _ _ (Ext.refl _ _ _) rh (itk_ok hd g4) fun a ha => ?_
    have ha' : a = d := ha
    subst ha'
    refine ⟨by rw [hd]; simp, ?_⟩
    split
    · exact .inr g1
    · exact ⟨g1, g2⟩
theorem pe_or {t1 t2 : TE} (h1 : PE X e t1) (h2 : PE X e t2) : PE X e (fun σ H Q => t1 σ H Q ∨ t2 σ H Q) := ⟨fun pins s σ H Q I q => q.elim (h1.run pins s σ H Q I) (h2.run pins s σ H Q I)⟩
theorem ps_or {st : Stmt} {t1 t2 : TS} (h1 : PS X st t1) (h2 : PS X st t2) : PS X st (fun D σ H => t1 D σ H ∨ t2 D σ H) := ⟨fun pins s σ H D I q => q.elim (h1.run pins s σ H D I) (h2.run pins s σ H D I)⟩
theorem upd_back {H : Hp} {d : Addr} {u w : HO} (e : H d = some u) : upd (upd H d w) d u = H := by
  funext a
  by_cases z : a = d
  · subst z; rw [upd_same, e]
  · rw [upd_ne z, upd_ne z]
theorem upd_comm {H : Hp} {a d : Addr} {u w : HO} (n : a ≠ d) : upd (upd H a u) d w = upd (upd H d w) a u := by
  funext x
  by_cases z : x = d
  · subst z; rw [upd_same, upd_ne (Ne.symm n), upd_same]
  · by_cases z2 : x = a
    · subst z2; rw [upd_ne z, upd_same, upd_same]
    · rw [upd_ne z, upd_ne z2, upd_ne z2, upd_ne z]
/-- what held of the heap with d locked holds of it unlocked -/
theorem ext_unlock {ρ ρ' : List Addr} {H H' : Hp} {d : Addr} {od : Obj} {us : List (Key × V)} (e : H d = some (.dK us)) (nr : d ∉ ρ) (E : Ext b ρ (upd H d (.frz od (.dK us))) ρ' H') :
    H' d = some (.frz od (.dK us)) ∧ Ext b ρ H ρ' (upd H' d (.dK us)) ∧ d ∉ ρ' := by
  have e1 : (upd H d (.frz od (.dK us))) d = some (.frz od (.dK us)) := upd_same
  have e2 := E.keep d _ (.inr nr) e1
  refine ⟨e2, ⟨?_, fun a o hb k => ?_, fun a k => ?_⟩, E.notin nr (by rw [e1]; simp)⟩
  · obtain ⟨l, h1, h2⟩ := E.pre
    refine ⟨l, h1, fun a ha => ?_⟩
    have := h2 a ha
    by_cases z : a = d
    · subst z; rw [e1] at this; cases this
    · rw [upd_ne z] at this; exact this
  · by_cases z : a = d
    · subst z; rw [upd_same]; rw [e] at k; exact k
    · rw [upd_ne z]
      exact E.keep a o hb (by rw [upd_ne z]; exact k)
  · by_cases z : a = d
    · subst z; rw [upd_same]; simp
    · rw [upd_ne z]
      exact E.live a (by rw [upd_ne z]; exact k)
theorem extS_unlock {ρ ρ' : List Addr} {ow ow' : List (Nat × Addr)} {H H' : Hp} {d : Addr} {od : Obj} {us : List (Key × V)} (e : H d = some (.dK us)) (nr : d ∉ ρ) (nb : d ∉ ow.map (·.2)) (E : ExtS b ρ ow (upd H d (.frz od (.dK us))) ρ' ow' H') :
    H' d = some (.frz od (.dK us)) ∧ ExtS b ρ ow H ρ' ow' (upd H' d (.dK us)) ∧ d ∉ ρ' ∧ d ∉ ow'.map (·.2) := by
  have e1 : (upd H d (.frz od (.dK us))) d = some (.frz od (.dK us)) := upd_same
  have e2 := E.keep d _ (.inr nr) nb e1
  refine ⟨e2, ⟨?_, fun a o hb hw k => ?_, fun a k => ?_, fun a ha => ?_⟩, E.notin nr (by rw [e1]; simp), fun z => ?_⟩
  · obtain ⟨l, h1, h2⟩ := E.pre
    refine ⟨l, h1, fun a ha => ?_⟩
    have := h2 a ha
    by_cases z : a = d
    · subst z; rw [e1] at this; cases this
    · rw [upd_ne z] at this; exact this
  · by_cases z : a = d
    · subst z; rw [upd_same]; rw [e] at k; exact k
    · rw [upd_ne z]
      exact E.keep a o hb hw (by rw [upd_ne z]; exact k)
  · by_cases z : a = d
    · subst z; rw [upd_same]; simp
    · rw [upd_ne z]
      exact E.live a (by rw [upd_ne z]; exact k)
  · rcases E.own a ha with z | z
    · exact .inl z
    · by_cases y : a = d
      · subst y; rw [e1] at z; cases z
      · rw [upd_ne y] at z; exact .inr z
  · rcases E.own d z with z | z
    · exact nb z
    · rw [e1] at z; cases z
theorem compD_noexc {own : List Nat} {i : Nat} {σa : AS} {h h' : AH} {cc : Nat} {f : XF} : compD own t (keysD i) mc me σa h ≠ .exc cc f h' := by
  intro z
  unfold compD keysD at z
  split at z
  · simp only [LR.bind_ok] at z
    split at z
    · split at z <;> cases z
    · cases z
  · cases z
/-- [.. for k in d ..] -/
theorem df_compK (i : Nat) {ifs : List Expr} {scope : Scope} {own : List (Str × Nat)} {x : Str} {xp : Pos} (hc : X.calm = true) (hN : X.N.Nodup) (ok : BlkOk X.N X.env.scope scope own)
    (hg : ∀ (s : Shared) (H : Hp) (C : Addr) (cl : List (Str × Addr)) (fp : List Addr), DG P (X.blk s H scope (compEnvC scope cl C X.env) fp) N (own.map (·.2)) tg t)
    (ht : ∀ (s : Shared) (H : Hp) (C : Addr) (cl : List (Str × Addr)) (fp : List Addr), DTs P (X.blk s H scope (compEnvC scope cl C X.env) fp) b WF N ifs mc)
    (he : ∀ (s : Shared) (H : Hp) (C : Addr) (cl : List (Str × Addr)) (fp : List Addr), DE P (X.blk s H scope (compEnvC scope cl C X.env) fp) b WF N elt me)
    (ho : ∀ i ∈ own.map (·.2), i ∉ N := by decide) (hi : i ∉ N := by decide) (hj : X.N[i]? = some x := by rfl) (hv : Vis X.env.scope x := by first | exact Or.inl rfl | exact Or.inr (Or.inl rfl) | exact Or.inr (Or.inr rfl)) (hd : (x == ("__debug__" : Str)) = false := by decide) (hcd : (x == ("__classdict__" : Str)) = false := by decide)
    (hs : ∀ v, foldedSetIterable (.Name x xp) X.env v = pure v := by intro _; rfl) :
    DF P X b W N (.ListComp elt [⟨tg, .Name x xp, ifs, 0⟩] scope pos) (compD (own.map (·.2)) t (keysD i) mc me) := by
  have key : PE X (.ListComp elt [⟨tg, .Name x xp, ifs, 0⟩] scope pos) _ := pe_lc hc hN (pi_keysD (P := P) (c := true) (b := b) (W := WF) (N := N) (tg := tg) hi (pe_var hj hv hd hcd)) ok (fun s H C cl fp => (hg s H C cl fp).pg) (fun s H C cl fp => (ht s H C cl fp).pt) (fun s H C cl fp => (he s H C cl fp).pe) hs
  refine ⟨pe_weak (pe_or (pe_lock key) key) ?_⟩
  rintro σ H Q ⟨ρ, B, ow, σa, h, rh, rs, rfl, q⟩
  cases g : compD (own.map (·.2)) t (keysD i) mc me σa h with
  | stuck => rw [g] at q; exact q.elim
  | exc cc f h' => exact absurd g compD_noexc
  | ok av h' =>
    obtain ⟨kvs, hk⟩ : ∃ kvs, σa[i]? = some (some (.dct kvs)) := by
      unfold compD keysD at g
      split at g
      · exact ⟨_, by assumption⟩
      · cases g
    obtain ⟨d, us, e1, g1, g2, g3, g4⟩ := dct_at rs hi hk
    rw [g] at q
    rcases g3 with g3 | ⟨o, g3⟩
    · left
      refine ⟨d, .dK us, g3, trivial, fun od => ?_⟩
      have S := same_lock (od := od) g3
      have nb : d ∉ ow.map (·.2) := fun z => g2 (.inr z)
      have rh' := rh.same S (by rw [upd_same]; simp) g1
      have rs' := rs.same S nb
      refine ⟨comp_weak (P := P) (b := b) (W := WF) (N := List.map Prod.fst ow) (own := List.map Prod.snd own) (t := t) (it := keysD i) (c := mc) (e := me) ho σ (upd H d (.frz od (.dK us))) (fun v H' => H' d = some (.frz od (.dK us)) ∧ Q v (upd H' d (.dK us))) ?_, d, od, us, e1, upd_same⟩
      refine ⟨ρ, B, ow, σa, h, rh', rs', rfl, ?_⟩
      rw [g]
      intro ρ' H' p u E rhE ov hp
      obtain ⟨f1, f2, f3⟩ := ext_unlock g3 g1 E
      have U := same_unlock (H := H') f1
      have npd : p ≠ d := fun z => by rw [z, f1] at hp; cases hp
      refine ⟨by rw [upd_ne (Ne.symm npd)]; exact f1, ?_⟩
      rw [upd_comm npd]
      exact q ρ' _ p u f2 (rhE.same U (by rw [upd_same]; simp) f3) (ov.same U) (by rw [upd_ne npd]; exact hp)
    · right
      refine ⟨comp_weak (P := P) (b := b) (W := WF) (N := List.map Prod.fst ow) (own := List.map Prod.snd own) (t := t) (it := keysD i) (c := mc) (e := me) ho σ H Q ?_, d, o, us, e1, g3⟩
      refine ⟨ρ, B, ow, σa, h, rh, rs, rfl, ?_⟩
      rw [g]
      exact q
end
end D
end

section
namespace D
open PySem L2

section
variable {P : Pm} {X : Cx} {b : Bool} {W : WX} {N Nb Nx N' : List Nat} {tg e o a elt : Expr} {pos apos cpos : Pos} {mo ma : EV}
theorem getLast_len {α : Type} (xs : List α) : xs[xs.length - 1]? = xs.getLast? := List.getLast?_eq_getElem?.symm
theorem RVs.dropLast {K : PySem.W.Frag} {ρ : List Addr} {B : Addr → Prop} {H : Hp} {xs : List AV} {vs : List V} (h : RVs K ρ B H xs vs) : RVs K ρ B H xs.dropLast vs.dropLast := by
  rw [List.dropLast_eq_take, List.dropLast_eq_take, show vs.length = xs.length from h.len.symm]
  exact h.take _
/-- o.pop() -/
theorem de_hpop (ho : DE P X false W N o mo) (hbase : attributeBase o "pop" X.env (eval o X.env) = eval o X.env := by rfl) (hline : (apos.endLine == cpos.line) = true := by rfl) :
    DE P X false W N (.Call (.Attribute o "pop" apos) [] [] cpos) (hpopD mo) := by
  refine ⟨pe_weak (pe_bm0 PySem.F.plainAttrs_list PySem.F.slot_list_pop PySem.F.type_list_pop mt_pop ho.pe hbase hline) ?_⟩
  rintro σ H Q ⟨ρ, B, ow, σa, h, rh, rs, hN, q⟩
  refine ⟨ρ, B, ow, σa, h, rh, rs, hN, (EPost.bind q).imp ?_⟩
  rintro ov H1 ⟨ρ1, oa, h1, e1, rh1, rv1, q1⟩
  cases g : (rfOf oa).bind fun i => if isHL h1 i then some i else none with
  | none => rw [g] at q1; exact q1.elim
  | some i =>
    rw [g] at q1
    obtain ⟨rfl, gi⟩ : oa = .ref i ∧ isHL h1 i = true := by
      cases oa with
      | ref j =>
        have g' : (if isHL h1 j = true then some j else none) = some i := g
        split at g'
        · rename_i hh; cases g'; exact ⟨rfl, hh⟩
        · cases g'
      | _ => cases g
    unfold RV at rv1
    obtain ⟨a, rfl, ha⟩ := rv1
    unfold isHL at gi
    split at gi
    · rename_i xs hx
      obtain ⟨u, hH, vs, rfl, rvs⟩ := rh1.at ha hx
      refine ⟨.inl ⟨rfl, vs, SqL.of hH⟩, ?_⟩
      unfold hpopV at q1
      simp only [hx] at q1
      split at q1
      · rename_i v hv
        rw [← getLast_len] at hv
        obtain ⟨w, e2, e3⟩ := rvs.get hv
        refine ⟨a, vs, w, rfl, rfl, hH, by rw [← rvs.len]; exact e2, ?_⟩
        have ee : Ext false ρ1 H1 ρ1 (upd H1 a (.lst vs.dropLast)) := Ext.put (List.mem_of_getElem? ha)
        exact q1 ρ1 _ _ ee (rh1.put ha ⟨_, rfl, rvs.dropLast⟩) (e3.ext ee v)
      · exact q1.elim
    · cases gi
/-- texts -/
theorem strs_of {K : PySem.W.Frag} {ρ : List Addr} {B : Addr → Prop} {H : Hp} : ∀ {xs : List AV} {ys : List Str} {vs : List V}, strsA xs = some ys → RVs K ρ B H xs vs → vs = ys.map V.str
  | [], ys, vs, e, h => by
    unfold strsA at e; cases e
    unfold RVs at h; exact h
  | .str s :: r, ys, vs, e, h => by
    unfold strsA at e
    obtain ⟨zs, e1, rfl⟩ := Option.map_eq_some_iff.mp e
    unfold RVs at h
    obtain ⟨v, t, rfl, h1, h2⟩ := h
    unfold RV at h1
    rw [h1, strs_of e1 h2]
    rfl
  | .non :: _, _, _, e, _ => by simp [strsA] at e
  | .bl _ :: _, _, _, e, _ => by simp [strsA] at e
  | .int _ :: _, _, _, e, _ => by simp [strsA] at e
  | .tup _ :: _, _, _, e, _ => by simp [strsA] at e
  | .lst _ :: _, _, _, e, _ => by simp [strsA] at e
  | .dct _ :: _, _, _, e, _ => by simp [strsA] at e
  | .ref _ :: _, _, _, e, _ => by simp [strsA] at e
  | .ro _ :: _, _, _, e, _ => by simp [strsA] at e
theorem RVs.strs {K : PySem.W.Frag} {ρ : List Addr} {B : Addr → Prop} {H : Hp} : ∀ (ys : List Str), RVs K ρ B H (ys.map AV.str) (ys.map V.str)
  | [] => RVs.nil
  | _ :: ys => RVs.cons mk_str (RVs.strs ys)
def M0V (P : Pm) (b : Bool) (f : Str → AH → ER) (r : V → List V → Hp → VK → Prop) : Prop := ∀ (W : WX) ρ B σ H s h Q, RH P ρ B H h → EPost P b W ρ B σ H Q (f s h) → r (.str s) [] H Q
def M1V (P : Pm) (b : Bool) (f : Str → AV → AH → ER) (r : V → List V → Hp → VK → Prop) : Prop := ∀ (W : WX) ρ B σ H s w y h Q, RH P ρ B H h → RVb P.K ρ B H w y → EPost P b W ρ B σ H Q (f s w h) → r (.str s) [y] H Q
def M1F (P : Pm) (b : Bool) (f : Str → AV → AH → ER) (r : V → List V → Hp → VK → Prop) : Prop := ∀ (W : WX) ρ B σ H s w y h Q, RH P ρ B H h → RVb P.K ρ B H w y → FPost P b W ρ B σ H Q (f s w h) → r (.str s) [y] H Q
theorem str_of {v : AV} {k : Str → ER} {W : WX} {ρ : List Addr} {B : Addr → Prop} {σ : St} {H : Hp} {Q : VK} (q : EPost P b W ρ B σ H Q (match v with | .str s => k s | _ => .stuck)) : ∃ s, v = .str s ∧ EPost P b W ρ B σ H Q (k s) := by
  cases v with
  | str s => exact ⟨s, rfl, q⟩
  | _ => exact q.elim
theorem str_ofF {v : AV} {k : Str → ER} {W : WX} {ρ : List Addr} {B : Addr → Prop} {σ : St} {H : Hp} {Q : VK} (q : FPost P b W ρ B σ H Q (match v with | .str s => k s | _ => .stuck)) : ∃ s, v = .str s ∧ FPost P b W ρ B σ H Q (k s) := by
  cases v with
  | str s => exact ⟨s, rfl, q⟩
  | _ => exact q.elim
section
variable {id : String} {name : Str} {r : V → List V → Hp → VK → Prop} {f : Str → AV → AH → ER} {f0 : Str → AH → ER}
theorem de_m0 (slot : Slot "str" name id) (ty : typeOf (.builtin id) = pure (.type "method_descriptor")) (rule : MtR X id r) (hr : M0V P b f0 r) (ho : DB P X b W N o mo)
    (hbase : attributeBase o name X.env (eval o X.env) = eval o X.env := by rfl) (hline : (apos.endLine == cpos.line) = true := by rfl) : DE P X b W N (.Call (.Attribute o name apos) [] [] cpos) (strM0 f0 mo) := by
  refine ⟨pe_weak (pe_m0 slot ty rule ho.pe hbase hline) ?_⟩
  rintro σ H Q ⟨ρ, B, ow, σa, h, rh, rs, hN, q⟩
  refine ⟨ρ, B, ow, σa, h, rh, rs, hN, (EPost.bindB q).imp ?_⟩
  rintro x H1 ⟨ρ1, av, h1, e1, rh1, rv1, q1⟩
  obtain ⟨s, rfl, q2⟩ := str_of q1
  rw [rv_str rv1]
  exact ⟨⟨s, rfl⟩, hr W ρ1 (Bo B ow) σ H1 s h1 Q rh1 q2⟩
theorem de_m1 (slot : Slot "str" name id) (ty : typeOf (.builtin id) = pure (.type "method_descriptor")) (rule : MtR X id r) (hr : M1V P b f r) (ho : DB P X b W N o mo) (ha : DB P X b W N a ma)
    (hs : starEach [a] X.env = [(false, eval a X.env)] := by rfl) (hbase : attributeBase o name X.env (eval o X.env) = eval o X.env := by rfl) (hline : (apos.endLine == cpos.line) = true := by rfl) : DE P X b W N (.Call (.Attribute o name apos) [a] [] cpos) (strM1 f mo ma) := by
  refine ⟨pe_weak (pe_m1 slot ty rule ho.pe ha.pe hs hbase hline) ?_⟩
  rintro σ H Q ⟨ρ, B, ow, σa, h, rh, rs, hN, q⟩
  refine ⟨ρ, B, ow, σa, h, rh, rs, hN, (EPost.bindB q).imp ?_⟩
  rintro x H1 ⟨ρ1, av, h1, e1, rh1, rv1, q1⟩
  obtain ⟨s, rfl, q2⟩ := str_of (k := fun s => (ma σa h1).bind fun y h2 => f s y h2) q1
  rw [rv_str rv1]
  refine ⟨⟨s, rfl⟩, ρ1, B, ow, σa, h1, rh1, rs.ext e1, hN, (EPost.bindB q2).imp ?_⟩
  rintro y H2 ⟨ρ2, bv, h2, e2, rh2, rv2, q3⟩
  exact hr W ρ2 (Bo B ow) σ H2 s bv y h2 Q rh2 rv2 q3
theorem df_m1 (slot : Slot "str" name id) (ty : typeOf (.builtin id) = pure (.type "method_descriptor")) (rule : MtR X id r) (hr : M1F P b f r) (ho : DB P X b W N o mo) (ha : DB P X b W N a ma)
    (hs : starEach [a] X.env = [(false, eval a X.env)] := by rfl) (hbase : attributeBase o name X.env (eval o X.env) = eval o X.env := by rfl) (hline : (apos.endLine == cpos.line) = true := by rfl) : DF P X b W N (.Call (.Attribute o name apos) [a] [] cpos) (strM1 f mo ma) := by
  refine ⟨pe_weak (pe_m1 slot ty rule ho.pe ha.pe hs hbase hline) ?_⟩
  rintro σ H Q ⟨ρ, B, ow, σa, h, rh, rs, hN, q⟩
  refine ⟨ρ, B, ow, σa, h, rh, rs, hN, (FPost.bindB q).imp ?_⟩
  rintro x H1 ⟨ρ1, av, h1, e1, rh1, rv1, q1⟩
  obtain ⟨s, rfl, q2⟩ := str_ofF (k := fun s => (ma σa h1).bind fun y h2 => f s y h2) q1
  rw [rv_str rv1]
  refine ⟨⟨s, rfl⟩, ρ1, B, ow, σa, h1, rh1, rs.ext e1, hN, (FPost.bindB q2).imp ?_⟩
  rintro y H2 ⟨ρ2, bv, h2, e2, rh2, rv2, q3⟩
  exact hr W ρ2 (Bo B ow) σ H2 s bv y h2 Q rh2 rv2 q3
end
theorem v_join : M1V P b joinV (fun x xs H Q => ∃ a p, ∃ ys : List Str, x = .str a ∧ xs = [.ref p] ∧ (SqL P.K H p (ys.map V.str) ∨ SqT P.K H p (ys.map V.str)) ∧ (ys.map (·.length)).sum + ys.length * a.length ≤ 16777216 ∧ Q (.str (Txt.join a ys)) H) := by
  intro W ρ B σ H s w y h Q rh rv q
  unfold joinV at q
  split at q
  · rename_i ys hy
    obtain ⟨xs, e1, e2⟩ := Option.bind_eq_some_iff.mp hy
    obtain ⟨p, vs, rfl, g1, g2⟩ := rv_seq rh rv e1
    rw [strs_of e2 g2] at g1
    split at q
    · rename_i hl
      exact ⟨s, p, ys, rfl, rfl, g1, hl, by rw [TL.join_eq] <;> exact ok_post q rh mk_str⟩
    · exact q.elim
  · exact q.elim
theorem splitL_ne (c : Nat) : ∀ L, splitL c L ≠ []
  | [] => by simp [splitL]
  | x :: r => by
    unfold splitL
    split
    · simp
    · split <;> simp
theorem splitL_same (c : Nat) (r : List Nat) : splitL c (c :: r) = [] :: splitL c r := by
  show (if c = c then _ else _) = _
  rw [if_pos rfl]
theorem splitL_diff {c x : Nat} {r p : List Nat} {q : List (List Nat)} (h : x ≠ c) (e : splitL c r = p :: q) : splitL c (x :: r) = (x :: p) :: q := by
  show (if x = c then _ else _) = _
  rw [if_neg h, e]
theorem spl_is (c : Nat) : ∀ (L acc : List Nat), TL.spl [c] 0 acc L = match splitL c L with | p :: q => (acc ++ p) :: q | [] => [acc] := by
  intro L
  induction L with
  | nil => intro acc; simp [splitL, TL.spl_nil]
  | cons x r ih =>
    intro acc
    by_cases h : x = c
    · subst h
      rw [TL.spl_hit (by simp [TL.pre])]
      have := ih []
      simp only [List.length_singleton, Nat.sub_self]
      rw [this, splitL_same]
      cases e : splitL x r with
      | nil => exact absurd e (splitL_ne x r)
      | cons p q => simp
    · rw [TL.spl_miss (by simp [TL.pre, h]), ih]
      cases e : splitL c r with
      | nil => exact absurd e (splitL_ne c r)
      | cons p q => rw [splitL_diff h e]; simp
theorem split_is {a b : Str} {c : Nat} (hb : b.cps.toList = [c]) (hc : c < 256) : Txt.split a b = (splitL c a.cps.toList).map fun p => (⟨p.toArray⟩ : Str) := by
  have hk : ¬ Builtin.Str.strKind a < Builtin.Str.strKind b := by
    have e : Builtin.Str.strKind b = 1 := by
      unfold Builtin.Str.strKind
      rw [if_pos]
      have : b.cps = #[c] := by rw [← Array.toArray_toList (xs := b.cps), hb]
      rw [this]
      simpa using hc
    rw [e]
    unfold Builtin.Str.strKind
    split
    · decide
    · split <;> decide
  have h := TL.split_spl a b (by show b.cps.toList ≠ []; rw [hb]; simp) hk
  have h2 : (Txt.split a b).map TL.tl = splitL c a.cps.toList := by
    rw [h]
    show TL.spl b.cps.toList 0 [] a.cps.toList = _
    rw [hb, spl_is]
    cases e : splitL c a.cps.toList with
    | nil => exact absurd e (splitL_ne c _)
    | cons p q => simp
  rw [← h2, List.map_map]
  conv => lhs; rw [← List.map_id (Txt.split a b)]
  refine List.map_congr_left fun s _ => ?_
  exact TL.ext_tl (by simp [TL.tl])
theorem split_rv {K : PySem.W.Frag} {ρ : List Addr} {B : Addr → Prop} {H : Hp} {a b : Str} {c : Nat} (hb : b.cps.toList = [c]) (hc : c < 256) : RVs K ρ B H ((splitL c a.cps.toList).map fun p => AV.str ⟨p.toArray⟩) ((Txt.split a b).map V.str) := by
  rw [split_is hb hc, List.map_map]
  have := RVs.strs (K := K) (ρ := ρ) (B := B) (H := H) ((splitL c a.cps.toList).map fun p => (⟨p.toArray⟩ : Str))
  rw [List.map_map, List.map_map] at this
  exact this
theorem v_split : M1V P b splitV (fun x xs H Q => ∃ a b, x = .str a ∧ xs = [.str b] ∧ (b.length == 0) = false ∧ a.length + 2 ≤ sizeLine ∧ rNewStrs (Txt.split a b) H Q) := by
  intro W ρ B σ H s w y h Q rh rv q
  unfold splitV at q
  split at q
  · rename_i z
    split at q
    · rename_i c hc
      split at q
      · rename_i hl
        refine ⟨s, z, rfl, by rw [rv_str rv], ?_, hl.2, fun p hp => ok_new q rh hp (split_rv hc hl.1)⟩
        have : z.cps.size = 1 := by rw [← Array.length_toList, hc]; rfl
        show (z.cps.size == 0) = false
        rw [this]; rfl
      · exact q.elim
    · exact q.elim
  · exact q.elim
theorem vf_split : M1F P b splitV (fun x xs H Q => ∃ a b, x = .str a ∧ xs = [.str b] ∧ (b.length == 0) = false ∧ a.length + 2 ≤ sizeLine ∧ rNewStrs (Txt.split a b) H Q) := by
  intro W ρ B σ H s w y h Q rh rv q
  unfold splitV at q
  split at q
  · rename_i z
    split at q
    · rename_i c hc
      split at q
      · rename_i hl
        refine ⟨s, z, rfl, by rw [rv_str rv], ?_, hl.2, fun p hp => f_lst q rh (split_rv hc hl.1) p hp⟩
        have : z.cps.size = 1 := by rw [← Array.length_toList, hc]; rfl
        show (z.cps.size == 0) = false
        rw [this]; rfl
      · exact q.elim
    · exact q.elim
  · exact q.elim
theorem ltCps_is : ∀ (x y : List Nat), PySem.Spec.ltCps x y = decide (x < y)
  | [], [] => by simp [PySem.Spec.ltCps]
  | [], _ :: _ => by simp [PySem.Spec.ltCps]
  | _ :: _, [] => by simp [PySem.Spec.ltCps]
  | a :: r, c :: t => by
    unfold PySem.Spec.ltCps
    rw [ltCps_is r t, Bool.eq_iff_iff]
    simp only [Bool.or_eq_true, Bool.and_eq_true, decide_eq_true_eq, beq_iff_eq, List.cons_lt_cons_iff]
theorem rising_pair : ∀ (r : List Str) (p : Str), PyProof.Rows.risingS p r = true → (p :: r).Pairwise fun x y => ¬ (y.cps.toList < x.cps.toList)
  | [], p, _ => by simp
  | x :: r, p, h => by
    unfold PyProof.Rows.risingS at h
    rw [Bool.and_eq_true, ltCps_is] at h
    have ih := rising_pair r x h.2
    have h1 : ¬ (x.cps.toList < p.cps.toList) := by simpa using h.1
    refine List.pairwise_cons.mpr ⟨fun y hy => ?_, ih⟩
    rcases List.mem_cons.mp hy with rfl | hy
    · exact h1
    · have h2 := (List.pairwise_cons.mp ih).1 y hy
      exact List.not_lt.mpr (List.le_trans (List.not_lt.mp h1) (List.not_lt.mp h2))
theorem sortA_strs {ks ys : List Str} (hp : ys.Perm ks) (hs : PyProof.Rows.sortedS ys = true) : sortA (ks.map AV.str) = ys.map AV.str := by
  have hpw : (ys.map AV.str).Pairwise fun x y => leA x y = true := by
    rw [List.pairwise_map]
    cases ys with
    | nil => exact List.Pairwise.nil
    | cons x r =>
      refine (rising_pair r x hs).imp fun {a c} h => ?_
      show (!decide (c.cps.toList < a.cps.toList)) = true
      simpa using h
  have all : ∀ a ∈ ks.map AV.str, ∃ s, a = .str s := fun a ha => by
    obtain ⟨s, _, rfl⟩ := List.mem_map.mp ha
    exact ⟨s, rfl⟩
  have e1 : sortA (ks.map AV.str) = (ks.mergeSort fun x y => !decide (y.cps.toList < x.cps.toList)).map AV.str :=
    (List.map_mergeSort (r := fun x y : Str => !decide (y.cps.toList < x.cps.toList)) (s := leA) (f := AV.str) fun a _ b _ => rfl).symm
  rw [e1]
  congr 1
  refine List.Perm.eq_of_pairwise (le := fun x y : Str => ¬ (y.cps.toList < x.cps.toList)) (fun a b _ _ h1 h2 => ?_) ?_ ?_ ((List.mergeSort_perm _ _).trans hp.symm)
  · exact TL.ext_tl (List.le_antisymm (List.not_lt.mp h1) (List.not_lt.mp h2))
  · have := List.pairwise_mergeSort (le := fun x y : Str => !decide (y.cps.toList < x.cps.toList)) (fun a b c h1 h2 => ?_) (fun a b => ?_) ks
    · exact this.imp fun {a b} h => by simpa using h
    · simp only [Bool.not_eq_true', decide_eq_false_iff_not] at h1 h2 ⊢
      exact List.not_lt.mpr (List.le_trans (List.not_lt.mp h1) (List.not_lt.mp h2))
    · rcases List.le_total a.cps.toList b.cps.toList with h | h
      · simp [List.not_lt.mpr h]
      · simp [List.not_lt.mpr h]
  · cases ys with
    | nil => exact List.Pairwise.nil
    | cons x r => exact rising_pair r x hs
theorem rks_strs {K : PySem.W.Frag} {ρ : List Addr} {B : Addr → Prop} {H : Hp} : ∀ {kvs : List (AV × AV)} {us : List (Key × V)} {ks : List Str}, RKs K ρ B H kvs us → strsA (kvs.map (·.1)) = some ks → us.map (·.1) = ks.map Sum.inr
  | [], _, ks, h, e => by
    unfold RKs at h
    subst h
    simp [strsA] at e
    subst e
    rfl
  | (k, x) :: r, us, ks, h, e => by
    unfold RKs at h
    obtain ⟨k', v, t, rfl, h1, h2, h3⟩ := h
    rw [List.map_cons] at e
    cases k with
    | str s =>
      unfold strsA at e
      obtain ⟨zs, e1, rfl⟩ := Option.map_eq_some_iff.mp e
      cases h1
      simp [rks_strs h3 e1]
    | _ => simp [strsA] at e
def rSortK : List V → Hp → VK → Prop := fun xs H Q => ∃ (a : Addr) (kvs : List (Key × V)) (ks : List Str), xs = [.ref a] ∧ Rd H a (.dK kvs) ∧ kvs.map (·.1) = ks.map Sum.inr ∧ ks.length < 64 ∧
    ∀ ys p, ys.Perm ks → PyProof.Rows.sortedS ys = true → H p = none → Q (.ref p) (upd H p (.lst (ys.map V.str)))
theorem v_sortK : VN P b sortKF rSortK := by
  intro W ρ B σ H avs h xs Q rh r q
  unfold sortKF at q
  split at q
  · rename_i o
    obtain ⟨v, rfl, r1⟩ := one_of r
    split at q
    · rename_i ks hk
      obtain ⟨kvs, e1, e2⟩ := Option.bind_eq_some_iff.mp hk
      obtain ⟨a1, us, rfl, h1, g1⟩ := rv_dv rh r1 e1
      split at q
      · rename_i hl
        refine ⟨a1, us, ks, rfl, h1, rks_strs g1 e2, hl, fun ys p hp hs hn => ?_⟩
        rw [sortA_strs hp hs] at q
        exact ok_new q rh hn (RVs.strs ys)
      · exact q.elim
    · exact q.elim
  · exact q.elim
theorem vf_sortK : VNF P b sortKF rSortK := by
  intro W ρ B σ H avs h xs Q rh r q
  unfold sortKF at q
  split at q
  · rename_i o
    obtain ⟨v, rfl, r1⟩ := one_of r
    split at q
    · rename_i ks hk
      obtain ⟨kvs, e1, e2⟩ := Option.bind_eq_some_iff.mp hk
      obtain ⟨a1, us, rfl, h1, g1⟩ := rv_dv rh r1 e1
      split at q
      · rename_i hl
        refine ⟨a1, us, ks, rfl, h1, rks_strs g1 e2, hl, fun ys p hp hs hn => ?_⟩
        rw [sortA_strs hp hs] at q
        exact f_lst q rh (RVs.strs ys) p hn
      · exact q.elim
    · exact q.elim
  · exact q.elim
/-- a written tuple of the module -/
theorem de_const {x : Str} {p : Pos} {a : Addr} {vs : List V} {xs : List AV} (hK : P.K = X.K) (hs : StT X.K a vs) (hv : ∀ ρ B H, RVs P.K ρ B H xs vs) (hm : X.mg x = some (.ref a)) (hg : Gl X x) (hd : (x == ("__debug__" : Str)) = false := by decide) : DE P X b W N (.Name x p) (cD (.tup xs)) := by
  refine ⟨pe_weak (pe_glob hg hm (v := .ref a) rfl hd) ?_⟩
  rintro σ H Q ⟨ρ, B, ow, σa, h, rh, rs, hN, q⟩
  refine q ρ H (.ref a) (Ext.refl _ _ _) rh ?_
  unfold RV
  exact ⟨a, vs, rfl, .inr (hK ▸ hs), hv ρ _ H⟩
end
end D
namespace D
open PySem L2
/-- a written tuple of the module -/
def ConstT (P : Pm) (mg : Str → Option Value) (x : Str) (xs : List AV) : Prop := ∃ (a : Addr) (vs : List V), mg x = some (.ref a) ∧ StT P.K a vs ∧ ∀ ρ B H, RVs P.K ρ B H xs vs
theorem de_constC {P : Pm} {X : Cx} {b : Bool} {W : WX} {N : List Nat} {x : Str} {p : Pos} {xs : List AV} (c : ConstT P X.mg x xs) (hK : P.K = X.K) (hg : Gl X x) (hd : (x == ("__debug__" : Str)) = false := by decide) : DE P X b W N (.Name x p) (cD (.tup xs)) := by
  obtain ⟨a, vs, h1, h2, h3⟩ := c
  exact de_const hK (hK ▸ h2) h3 h1 hg hd
end D
end

section
namespace RT
open PySem PySem.Spec PyProof.Rows
theorem nolen_rt : typeLookup (.type "reversed") "__len__" = pure none := by rw [typeLookup_type, builtinLookup_eq_fast]; kernel_rfl
theorem hint_rt : typeLookup (.type "reversed") "__length_hint__" = pure (some (.builtin "reversed.__length_hint__")) := by rw [typeLookup_type, builtinLookup_eq_fast]; kernel_rfl
theorem slot_rt_hint : Slot "reversed" "__length_hint__" "reversed.__length_hint__" :=
  .of (owner := "reversed") (n := "__length_hint__") (by rw [typeLookup_type, builtinLookup_eq_fast]; kernel_rfl) (by decide +kernel) (by decide +kernel) (by decide +kernel)
    (by first | exact .inl (by decide +kernel) | exact .inr (by decide +kernel)) (by rw [isSubtype_type]; kernel_rfl)
theorem entry_rt_hint : entryFor table "reversed.__length_hint__" = some Builtin.«reversed.__length_hint__» := entryFor_of_tree (by kernel_rfl)
theorem args_rt_hint (a : Value) : argsOk "reversed.__length_hint__" ⟨[a], []⟩ := by
  unfold argsOk; rw [signature?_of (id := "reversed.__length_hint__") (n := ['_', '_', 't', 'n', 'i', 'h', '_', 'h', 't', 'g', 'n', 'e', 'l', '_', '_']) (o := ['d', 'e', 's', 'r', 'e', 'v', 'e', 'r']) (by kernel_rfl) owner_rt]; kernel_rfl
theorem walks_rt {prog : Program} {w : World} {A : Around} (hh : A.handled = none) (I t : Addr) (hne : t ≠ I) (items : Array Value) (hsz : items.size ≤ sizeLine) :
    Walks prog w A I [I, t] [I] items.size (fun i v => items[items.size - 1 - i]? = some v) (fun i h => i ≤ items.size ∧ IsRt h I t ((items.size : Int) - 1 - (i : Int)) ∧ IsTup h t items) where
  sub := fun b hb => by simp at hb; simp [hb]
  frame := fun _ _ _ x hk => ⟨x.1, x.2.1.at fun o e => hk I (by simp) o e, let ⟨o, e, r⟩ := x.2.2; ⟨o, hk t (by simp) o e, r⟩⟩
  item := fun i s Q E hi x hQ => by
    have e : (items.size : Int) - 1 - (i : Int) = ((items.size - 1 - i : Nat) : Int) := by omega
    have hit := x.2.1
    rw [e] at hit
    have hx : items[items.size - 1 - i]? = some (items[items.size - 1 - i]'(by omega)) := Array.getElem?_eq_getElem (by omega)
    refine next_rt_item hit x.2.2 hx hsz fun h' hit' hs' => ?_
    have e2 : ((items.size - 1 - i : Nat) : Int) - 1 = (items.size : Int) - 1 - ((i + 1 : Nat) : Int) := by omega
    rw [e2] at hit'
    exact hQ _ h' (s.toks + 1) hx ⟨hi, hit', let ⟨o, eo, r⟩ := x.2.2; ⟨o, (hs'.2 t hne).trans eo, r⟩⟩ fun b o hb eo => hs'.extBut b o (fun h => hb (by simp [h])) eo
  done := fun s Q E x hQ => by
    have e : (items.size : Int) - 1 - (items.size : Int) = -1 := by omega
    have hit := x.2.1
    rw [e] at hit
    exact next_rt_end hh hit fun h' he' => hQ h' s.toks fun b o hb eo => he' b o (fun h => hb (by simp [h])) eo
  self := fun _ _ _ _ x hQ => iter_rt x.2.1 hQ
section
variable {prog : Program} {w : World} {A : Around} {E : Value → Shared → Prop} {s : Shared}
theorem collect_rt {it l : Addr} {items : Array Value} {Q : List Value → Shared → Prop} (hh : A.handled = none) (hit : IsRt s.heap it l ((items.size : Int) - 1)) (hl : IsTup s.heap l items) (hne : l ≠ it) (hn : items.size ≤ sizeLine)
    (hQ : ∀ (h' : Heap) (tk : Nat) (acc : Array Value), (∀ b o, b ≠ it → s.heap.get? b = some o → h'.get? b = some o) → ItemsOf (fun i v => items[items.size - 1 - i]? = some v) acc items.size → Q acc.toList { s with heap := h', toks := tk }) :
    wpAny (model prog w) A (collect (.ref it)) Q E s := by
  have W := (walks_rt (prog := prog) (w := w) (A := A.in1) hh it l hne items hn).toS
  obtain ⟨oi, hoi, _⟩ := id hit
  obtain ⟨ol, hol, _⟩ := id hl
  have hSi : s.heap.objs.size ≠ it := Nat.ne_of_gt (Heap.lt_size hoi)
  have hSl : s.heap.objs.size ≠ l := Nat.ne_of_gt (Heap.lt_size hol)
  have hSf : s.heap.objs.size ∉ [it, l] := by simp only [List.mem_cons, List.not_mem_nil, or_false, not_or]; exact ⟨hSi, hSl⟩
  unfold collect
  refine wpAny_bind (wpAny_runValue (codeAny_builtin F.entry_proto_collect ?_))
  rw [Around.under_plainId F.plain_proto_collect _]
  show wpAny _ A.in1 (newList [] >>= fun l' => again (.builtin "list.__iadd__" ⟨[l', .ref it], []⟩)) _ _ s
  refine wpAny_bind (wpAny_newObj_type ?_)
  refine wpAny_pure ⟨plainId_quiet F.plain_list_iadd _, codeAny_builtin F.entry_list_iadd ?_⟩
  rw [Around.under_plainId F.plain_list_iadd _]
  have hS₁ : (s.heap.push { cls := .type "list", data := .seq ([] : List Value).toArray }).get? s.heap.objs.size = some { cls := .type "list", data := .seq ([] : List Value).toArray } := Heap.get?_push_size _ rfl
  have hit1 : IsRt (s.heap.push { cls := .type "list", data := .seq ([] : List Value).toArray }) it l ((items.size : Int) - 1) := hit.at fun o e => Heap.get?_push_of_some _ e
  have hl1 : IsTup (s.heap.push { cls := .type "list", data := .seq ([] : List Value).toArray }) l items := let ⟨o, eo, r⟩ := hl; ⟨o, Heap.get?_push_of_some _ eo, r⟩
  have hT : ({ s with heap := s.heap.push { cls := .type "list", data := .seq ([] : List Value).toArray } } : Shared).TypeIs (.ref it) "reversed" := IsRt.typeIs (s := { s with heap := s.heap.push { cls := .type "list", data := .seq ([] : List Value).toArray } }) hit1
  have h1 : Builtin.List.listSameRef (.ref s.heap.objs.size) (.ref it) = false := by simp [Builtin.List.listSameRef, hSi]
  show wpAny _ A.in1 (Builtin.List.listExtendWith (.ref s.heap.objs.size) (.ref it) (.ref s.heap.objs.size)) _ _ _
  unfold Builtin.List.listExtendWith
  refine wpAny_bind (wpAny_typeOf hT ?_)
  rw [if_neg (by rw [h1]; decide)]
  refine wpAny_bind (iter_rt (s := { s with heap := s.heap.push { cls := .type "list", data := .seq ([] : List Value).toArray } }) hit1 ?_)
  refine wpAny_bind (wpAny_holding ?_)
  unfold Builtin.List.listLengthHint
  refine wpAny_bind (wpAny_specialOf hT nolen_rt ?_)
  show wpAny _ A.in1 (specialOf (Value.ref it) (Str.ofString "__length_hint__") >>= _) _ _ _
  refine wpAny_bind (wpAny_specialOf hT hint_rt ?_)
  generalize hid : ("reversed.__length_hint__" : String) = id0
  wp_delta
  rw [show splitId id0 = some ("reversed", "__length_hint__") from by subst hid; decide +kernel]
  subst hid
  refine wpAny_bind (wpAny_isInstance (b := true) hT (by rw [isSubtype_type]; kernel_rfl) ?_)
  rw [if_neg (by decide)]
  try dsimp only
  rw [if_neg (by decide +kernel)]
  refine wpAny_bind (wpAny_rule ?_)
  rw [slot_rt_hint.bind]
  refine wpAny_bind (wpAny_pure ?_)
  have ht0 : ∀ k, ({ s with heap := s.heap.push { cls := .type "list", data := .seq ([] : List Value).toArray }, toks := k } : Shared).TypeIs (.ref it) "reversed" := fun _ => hT
  obtain ⟨o1, ho1, hc1, hd1⟩ := id hit1
  refine wpAny_bind (wpAny_attempt (wpAny_call_entry slot_rt_hint hT entry_rt_hint ?_ (args_rt_hint _)))
  unfold Builtin.«reversed.__length_hint__»
  refine wpAny_bind (wpAny_of_eq (a := Value.ref it) rfl ?_)
  try dsimp only
  refine wpAny_bind (wpAny_field ho1 hd1 (x := .ref l) rfl ?_)
  try dsimp only
  rw [if_neg (by intro z; cases z)]
  refine wpAny_bind (len_tuple (s := { s with heap := s.heap.push { cls := .type "list", data := .seq ([] : List Value).toArray } }) hl1 (by rw [sizeLine_eq] at hn; omega) ?_)
  refine wpAny_bind (m := asInt? (.int items.size _)) (wpAny_pure ?_)
  try dsimp only
  refine wpAny_bind (wpAny_field ho1 hd1 (x := rawInt ((items.size : Int) - 1)) rfl ?_)
  show wpAny _ _ (if (items.size : Int) < (items.size : Int) - 1 + 1 then _ else _) _ _ _
  rw [if_neg (by omega)]
  refine wpAny_bind (m := mkInt ((items.size : Int) - 1 + 1)) (wpAny_mkInt ?_)
  refine wpAny_pure ⟨_, rfl, ?_⟩
  show wpAny _ _ (asInt? (.int ((items.size : Int) - 1 + 1) _) >>= _) _ _ _
  refine wpAny_bind (m := asInt? (.int ((items.size : Int) - 1 + 1) _)) (wpAny_pure ?_)
  have fz : Builtin.List.listFitsIndex ((items.size : Int) - 1 + 1) = true := by
    rw [sizeLine_eq] at hn
    unfold Builtin.List.listFitsIndex
    simp only [Bool.and_eq_true, decide_eq_true_eq]
    omega
  have tl : Builtin.List.listTooLong (((items.size : Int) - 1 + 1).toNat) = false := by
    unfold Builtin.List.listTooLong
    have : ((items.size : Int) - 1 + 1).toNat = items.size := by omega
    rw [this]
    simpa using hn
  have ng : ¬ (((items.size : Int) - 1 + 1) < 0) := by omega
  simp only [fz, tl, if_neg ng, Bool.not_true, Bool.false_eq_true, if_false]
  refine wpAny_pure ?_
  have e0 : ((items.size : Nat) : Int) - 1 - ((0 : Nat) : Int) = (items.size : Int) - 1 := by omega
  have fin : ∀ (h2 : Heap) (tk c2 : Nat), (∀ b o, b ≠ s.heap.objs.size → (s.heap.push { cls := .type "list", data := .seq ([] : List Value).toArray }).get? b = some o → h2.get? b = some o) → h2.get? s.heap.objs.size = some { cls := .type "list", dict := none, data := .seq ([] : List Value).toArray c2, slots := #[] } →
      (Code.builtin "list.extend.loop" ⟨[.ref s.heap.objs.size, .ref it, .ref s.heap.objs.size], []⟩).quiet = true ∧ codeAny (model prog w) A (.builtin "list.extend.loop" ⟨[.ref s.heap.objs.size, .ref it, .ref s.heap.objs.size], []⟩) (fun r s' => match r with
        | .ok (.ret v) => wpAny (model prog w) A (match v with
            | Value.ref a => do
              let __do_lift ← load a
              match __do_lift.data with
              | Data.seq xs epoch => pure xs.toList
              | x => unsupported "internal:collect"
            | x => unsupported "internal:collect") Q E s'
        | .ok a => False
        | .error e => E e s') { s with heap := h2, toks := tk } := by
    intro h2 tk c2 hk hS2
    have hit2 : IsRt h2 it l ((items.size : Int) - 1) := hit1.at fun o e => hk it o (Ne.symm hSi) e
    have hl2 : IsTup h2 l items := let ⟨o, eo, r⟩ := hl1; ⟨o, hk l o (Ne.symm hSl) eo, r⟩
    refine ⟨plainId_quiet F.plain_extend_loop _, codeAny_extend_loopS W hn _ hSf _ items.size 0 _ _ _ rfl (Nat.zero_le _) ⟨Nat.zero_le _, by rw [e0]; exact hit2, hl2⟩ hS2 (ItemsOf.nil _) fun s' acc' c' hm hS' hacc => ?_⟩
    show wpAny _ A (load s.heap.objs.size >>= _) _ _ s'
    refine wpAny_bind (wpAny_load hS' ?_)
    refine wpAny_pure ?_
    rw [Moved.eq_with hm]
    refine hQ s'.heap s'.toks acc' (fun b o hb e => hm.heap b o (fun hmem => ?_) (hk b o (Nat.ne_of_lt (Heap.lt_size e)) (Heap.get?_push_of_some _ e))) hacc
    rcases List.mem_cons.mp hmem with e' | hmem
    · exact absurd (Heap.lt_size e) (by rw [e']; exact Nat.lt_irrefl _)
    · exact hb (List.mem_singleton.mp hmem)
  split
  · refine wpAny_bind (wpAny_rule ?_)
    refine wpAny_bind ?_
    show wpAny _ A.in1 (updateSeq s.heap.objs.size (·.push .none) >>= fun _ => updateSeq s.heap.objs.size (·.pop)) _ _ _
    refine wpAny_bind (wpAny_updateSeq hS₁ rfl ?_)
    have hS₂ := Heap.get?_update_self (Obj.mapSeq (·.push Value.none)) hS₁ rfl
    refine wpAny_updateSeq hS₂ rfl ?_
    have hS₃ := Heap.get?_update_self (Obj.mapSeq (·.pop)) hS₂ rfl
    exact wpAny_pure (fin _ _ _ (fun b o hb e => (Heap.get?_update_other _ _ (Ne.symm hb)).trans ((Heap.get?_update_other _ _ (Ne.symm hb)).trans e)) hS₃)
  · exact wpAny_pure (fin _ _ _ (fun _ _ _ e => e) hS₁)
theorem code_tuple_new_rt {it l : Addr} {items : Array Value} {Q₁ : Value → Shared → Prop} (hh : A.handled = none) (hit : IsRt s.heap it l ((items.size : Int) - 1)) (hl : IsTup s.heap l items) (hne : l ≠ it) (hn : items.size ≤ sizeLine)
    (h : ∀ (h' : Heap) (tk : Nat) (acc : Array Value), (∀ b o, b ≠ it → s.heap.get? b = some o → h'.get? b = some o) → ItemsOf (fun i v => items[items.size - 1 - i]? = some v) acc items.size →
      Q₁ (.ref h'.objs.size) { s with heap := h'.push { cls := .type "tuple", data := .seq acc }, toks := tk }) :
    codeAny (model prog w) A (.call (.builtin "tuple.__new__") ⟨[.type "tuple", .ref it], []⟩) (wants Q₁ E) s := by
  refine codeAny_of_tree ?_
  show wpAny _ A.in1 (do checkBuiltinCall "tuple.__new__" ⟨[.type "tuple", .ref it], []⟩; again (.builtin "tuple.__new__" ⟨[.type "tuple", .ref it], []⟩)) _ _ s
  refine wpAny_bind (wpAny_of_eq (F.newCall_tuple_1 _) (wpAny_pure ⟨plainId_quiet F.plain_tuple_new _, codeAny_builtin F.entry_tuple_new ?_⟩))
  rw [Around.under_plainId F.plain_tuple_new _]
  have hsub := sub_tuple_self
  have hinit := init_tuple_lookup
  have hmh := madeHere_tuple
  have hTI : s.TypeIs (.ref it) "reversed" := hit.typeIs
  have hh1 : A.in1.handled = none := hh
  wp_walk using wpAny_typeOf hTI, collect_rt (A := A.in1) hh1 hit hl hne hn
  intro h' tk acc hk hacc
  show wpAny _ _ (Builtin.Tuple.tupleExact acc.toList.toArray >>= fun v => ret v) _ _ _
  unfold Builtin.Tuple.tupleExact
  refine wpAny_bind (wpAny_newObj_type ?_ (by show acc.toList.toArray.size ≤ sizeLine; simp only [Array.toArray_toList]; rw [hacc.1]; exact hn))
  refine wpAny_pure ?_
  have e : acc.toList.toArray = acc := by simp
  rw [e]
  exact h h' tk acc hk hacc
theorem call_tuple_rt {it l : Addr} {items : Array Value} {Q : Value → Shared → Prop} (hh : A.handled = none) (hit : IsRt s.heap it l ((items.size : Int) - 1)) (hl : IsTup s.heap l items) (hne : l ≠ it) (hn : items.size ≤ sizeLine)
    (hQ : ∀ (h' : Heap) (tk : Nat) (acc : Array Value), (∀ b o, b ≠ it → s.heap.get? b = some o → h'.get? b = some o) → ItemsOf (fun i v => items[items.size - 1 - i]? = some v) acc items.size →
      Q (.ref h'.objs.size) { s with heap := h'.push { cls := .type "tuple", data := .seq acc }, toks := tk }) :
    wpAny (model prog w) A (call (.type "tuple") [.ref it]) Q E s := by
  refine callType_codes (Q₁ := fun obj s₁ => s₁.TypeIs obj "tuple" ∧ Q obj s₁) F.called_tuple (F.typeCall_tuple_1 _) F.entry_object_init
    (code_tuple_new_rt (A := A.in1) hh hit hl hne hn fun h' tk acc hk hacc => ⟨⟨_, Heap.get?_push_size _ rfl, rfl⟩, hQ h' tk acc hk hacc⟩) fun obj s₁ h₁ => ?_
  exact ⟨h₁.1, F.args_object_init_2 obj _, object_init_meets F.called_tuple.init.lookup F.called_tuple.made (by decide) prog w A.in1 _ s₁ ⟨h₁.1, rfl, h₁.2⟩⟩
end
end RT
namespace D
open PySem L2 PySem.Spec PyProof.Rows
open RT (IsRt rtObj call_reversed_tup call_tuple_rt)
section
variable {P : Pm} {X : Cx} {b : Bool} {W : WX} {N Nb Nx N' : List Nat} {e : Expr} {pos pos2 p p2 : Pos} {ma : EV} {te : TE}
theorem isTup_push {h : Heap} {t : Addr} {items : Array Value} {o : Obj} (x : IsTup h t items) : IsTup (h.push o) t items := let ⟨o', eo, r⟩ := x; ⟨o', Heap.get?_push_of_some _ eo, r⟩
def tTupRevT (K : PySem.W.Frag) (te : TE) : TE := fun σ H Q => te σ H fun v H1 => ∃ (a : Addr) (xs : List V), v = .ref a ∧ SqT K H1 a xs ∧ ∀ q, H1 q = none → Q (.ref q) (upd H1 q (.tup xs.reverse))
theorem pe_tupRevT (hc : X.calm = true) (hg : Gl X "tuple") (hm : X.mg "tuple" = none) (hg2 : Gl X "reversed") (hm2 : X.mg "reversed" = none) (he : PE X e te)
    (hs : starEach [e] X.env = (false, eval e X.env) :: starEach [] X.env := by rfl)
    (hs2 : starEach [.Call (.Name "reversed" p2) [e] [] pos2] X.env = (false, eval (.Call (.Name "reversed" p2) [e] [] pos2) X.env) :: starEach [] X.env := by rfl) :
    PE X (.Call (.Name "tuple" p) [.Call (.Name "reversed" p2) [e] [] pos2] [] pos) (tTupRevT X.K te) := by
  refine ⟨fun pins s σ H Q I h => ?_⟩
  refine Call_ (ld_blt I hg hm boot_tuple (PyProof.Rows.callWith_type1 (args_cons (Call_ (ld_blt I hg2 hm2 PyProof.Rows.boot_reversed (PyProof.Rows.callWith_type1 (args_cons (thn (he.run pins s σ H _ I h) fun u s1 ⟨v, H1, I1, r1, q1⟩ => args_nil ?_) hs) hs rfl))) hs2) hs2 rfl))
  obtain ⟨a, xs, ev, hq, q⟩ := q1
  subst ev
  obtain rfl : u = Value.ref a := r1
  obtain ⟨its, rv, p', hz⟩ := I1.tuple hq
  have hlen := rv.length
  have hn : its.toArray.size ≤ sizeLine := by rw [List.size_toArray, ← rv.length]; exact hz
  have hn63 : (its.toArray.size : Int) < 2 ^ 63 := by rw [sizeLine_eq] at hn; omega
  refine call_reversed_tup p' (fun A E Q k => len_tuple p' hn63 k) (args_nil ?_)
  have k0 : ∀ b o, s1.heap.get? b = some o → (s1.heap.push (rtObj a ((its.toArray.size : Int) - 1))).get? b = some o := fun b o e => Heap.get?_push_of_some _ e
  have I2 : Inv X pins σ H1 { s1 with heap := s1.heap.push (rtObj a ((its.toArray.size : Int) - 1)), toks := s1.toks + 1 + 1 } := I1.kept (t' := s1.toks + 1 + 1) k0
  obtain ⟨f0, f1, f2, f3, f4, f5⟩ := I1.fpOk (H' := H1) (b := s1.heap.objs.size) (Nat.le_refl _) (I1.hok.fresh (Nat.le_refl _))
  obtain ⟨ol, hol, _⟩ := id p'
  have hne : a ≠ s1.heap.objs.size := Nat.ne_of_lt (Heap.lt_size hol)
  refine call_tuple_rt (s := { s1 with heap := s1.heap.push (rtObj a ((its.toArray.size : Int) - 1)), toks := s1.toks + 1 + 1 }) (I1.ok.hd hc) ⟨_, Heap.get?_push_size _ rfl, rfl, rfl⟩ (isTup_push p') hne hn fun h' tk acc hk hi => ?_
  have I3 : Inv X pins σ H1 { s1 with heap := h', toks := tk } := I2.turned (t' := tk) (fun b o hb e => hk b o hb e) f0 f1 f3 f4 f5
  refine ⟨.ref h'.objs.size, upd H1 h'.objs.size (.tup xs.reverse), I3.laid (t' := tk) (fun c o e => Heap.get?_push_of_some _ e) (Nat.le_refl _) (show ObjOk X.prog X.w _ _ _ (.tup xs.reverse) from ⟨by rw [List.length_reverse]; exact hz, acc.toList, RT.vals_rev rv hi, ?_⟩), rfl, q _ (I3.hok.fresh (Nat.le_refl _))⟩
  rw [Array.toArray_toList]
  exact IsTup.new _ _
/-- tuple(reversed(t)) -/
theorem de_revT (hK : P.K = X.K) (hg : Gl X "tuple") (hm : X.mg "tuple" = none) (hg2 : Gl X "reversed") (hm2 : X.mg "reversed" = none) (ha : DB P X b W N e ma) (hc : X.calm = true := by rfl)
    (hs : starEach [e] X.env = (false, eval e X.env) :: starEach [] X.env := by rfl)
    (hs2 : starEach [.Call (.Name "reversed" p2) [e] [] pos2] X.env = (false, eval (.Call (.Name "reversed" p2) [e] [] pos2) X.env) :: starEach [] X.env := by rfl) :
    DE P X b W N (.Call (.Name "tuple" p) [.Call (.Name "reversed" p2) [e] [] pos2] [] pos) (un revTV ma) := by
  refine ⟨pe_weak (pe_tupRevT hc hg hm hg2 hm2 ha.pe hs hs2) ?_⟩
  rintro σ H Q ⟨ρ, B, ow, σa, h, rh, rs, hN, q⟩
  refine ⟨ρ, B, ow, σa, h, rh, rs, hN, (EPost.bindB q).imp ?_⟩
  rintro v H1 ⟨ρ1, av, h1, e1, rh1, rv1, q1⟩
  unfold revTV at q1
  cases av with
  | tup xs =>
    obtain ⟨a, vs, rfl, g1, g2⟩ := rv_tup rv1
    exact ⟨a, vs, rfl, hK ▸ g1, fun q hq => ok_newT q1 rh1 hq g2.rev⟩
  | _ => exact q1.elim
end
end D
end

section
namespace D
open PySem (Str)
abbrev XP := Nat → XF → AH → Prop
def ER.sat (r : ER) (Q : AV → AH → Prop) (X : XP) : Prop := match r with
  | .ok v h => Q v h
  | .exc c f h => X c f h
  | .stuck => False
def LR.sat (r : LR) (Q : List AV → AH → Prop) (X : XP) : Prop := match r with
  | .ok v h => Q v h
  | .exc c f h => X c f h
  | .stuck => False
structure Po where
  nx : AS → AH → Prop
  rt : AV → AH → Prop
  bk : AS → AH → Prop
  ct : AS → AH → Prop
  ex : Nat → XF → AS → AH → Prop
def SR.sat (r : SR) (P : Po) : Prop := match r with
  | .nx s h => P.nx s h
  | .rt v h => P.rt v h
  | .bk s h => P.bk s h
  | .ct s h => P.ct s h
  | .exc c f s h => P.ex c f s h
  | .stuck => False
theorem ER.sat_ok {v : AV} {h : AH} {Q : AV → AH → Prop} {X : XP} : (ER.ok v h).sat Q X = Q v h := rfl
theorem ER.sat_exc {c : Nat} {f : XF} {h : AH} {Q : AV → AH → Prop} {X : XP} : (ER.exc c f h).sat Q X = X c f h := rfl
theorem ER.sat_stuck {Q : AV → AH → Prop} {X : XP} : ER.stuck.sat Q X = False := rfl
theorem LR.sat_ok {v : List AV} {h : AH} {Q : List AV → AH → Prop} {X : XP} : (LR.ok v h).sat Q X = Q v h := rfl
theorem LR.sat_exc {c : Nat} {f : XF} {h : AH} {Q : List AV → AH → Prop} {X : XP} : (LR.exc c f h).sat Q X = X c f h := rfl
theorem LR.sat_stuck {Q : List AV → AH → Prop} {X : XP} : LR.stuck.sat Q X = False := rfl
theorem SR.sat_nx {s : AS} {h : AH} {P : Po} : (SR.nx s h).sat P = P.nx s h := rfl
theorem SR.sat_rt {v : AV} {h : AH} {P : Po} : (SR.rt v h).sat P = P.rt v h := rfl
theorem SR.sat_bk {s : AS} {h : AH} {P : Po} : (SR.bk s h).sat P = P.bk s h := rfl
theorem SR.sat_ct {s : AS} {h : AH} {P : Po} : (SR.ct s h).sat P = P.ct s h := rfl
theorem SR.sat_exc {c : Nat} {f : XF} {s : AS} {h : AH} {P : Po} : (SR.exc c f s h).sat P = P.ex c f s h := rfl
theorem SR.sat_stuck {P : Po} : SR.stuck.sat P = False := rfl
theorem ER.sat_of {r : ER} {v : AV} {h : AH} {Q : AV → AH → Prop} {X : XP} (e : r = .ok v h) (q : Q v h) : r.sat Q X := by rw [e]; exact q
theorem ER.sat_imp {r : ER} {Q Q' : AV → AH → Prop} {X : XP} (h : r.sat Q X) (q : ∀ v h, Q v h → Q' v h) : r.sat Q' X := by
  cases r with
  | ok v h' => exact q _ _ h
  | exc c f h' => exact h
  | stuck => exact h
theorem SR.sat_imp {r : SR} {P : Po} {N' : AS → AH → Prop} (h : r.sat P) (q : ∀ s h, P.nx s h → N' s h) : r.sat { P with nx := N' } := by
  cases r with
  | nx s h' => exact q _ _ h
  | _ => exact h
/-- what ends well without an exception -/
abbrev noE : XP := fun _ _ _ => False
abbrev noS : Nat → XF → AS → AH → Prop := fun _ _ _ _ => False
theorem ER.sat_ex {r : ER} {Q : AV → AH → Prop} (h : r.sat Q noE) : ∃ v h', r = .ok v h' ∧ Q v h' := by
  cases r with
  | ok v h' => exact ⟨v, h', rfl, h⟩
  | exc c f h' => exact h.elim
  | stuck => exact h.elim
/-- next only -/
abbrev nxP (N : AS → AH → Prop) : Po := ⟨N, fun _ _ => False, fun _ _ => False, fun _ _ => False, noS⟩
/-- next or return -/
abbrev nrP (N : AS → AH → Prop) (R : AV → AH → Prop) : Po := ⟨N, R, fun _ _ => False, fun _ _ => False, noS⟩
theorem SR.sat_ex {r : SR} {N : AS → AH → Prop} (h : r.sat (nxP N)) : ∃ s h', r = .nx s h' ∧ N s h' := by
  cases r with
  | nx s h' => exact ⟨s, h', rfl, h⟩
  | _ => exact h.elim
section
variable {σ : AS} {h : AH} {Q : AV → AH → Prop} {X : XP} {P : Po} {a b c o e : EV} {es : List EV} {f : AV → AV → AH → ER} {s t : SV}
theorem ER.sat_bind {r : ER} {k : AV → AH → ER} : (r.bind k).sat Q X = r.sat (fun v h1 => (k v h1).sat Q X) X := by cases r <;> rfl
theorem LR.sat_bind {r : LR} {k : List AV → AH → ER} : (r.bind k).sat Q X = r.sat (fun v h1 => (k v h1).sat Q X) X := by cases r <;> rfl
theorem ER.sat_bindL {r : ER} {k : AV → AH → LR} {Q : List AV → AH → Prop} : (r.bindL k).sat Q X = r.sat (fun v h1 => (k v h1).sat Q X) X := by cases r <;> rfl
theorem LR.sat_bindL {r : LR} {k : List AV → AH → LR} {Q : List AV → AH → Prop} : (r.bindL k).sat Q X = r.sat (fun v h1 => (k v h1).sat Q X) X := by cases r <;> rfl
theorem ER.sat_toS {r : ER} {k : AV → AH → SR} : (r.toS σ k).sat P = r.sat (fun v h1 => (k v h1).sat P) (fun c f h1 => P.ex c f σ h1) := by cases r <;> rfl
theorem LR.sat_toS {r : LR} {k : List AV → AH → SR} : (r.toS σ k).sat P = r.sat (fun v h1 => (k v h1).sat P) (fun c f h1 => P.ex c f σ h1) := by cases r <;> rfl
def tru (v : AV) (k : Bool → Prop) : Prop := match v with | .bl t => k t | _ => False
theorem tru_bl {t : Bool} {k : Bool → Prop} : tru (.bl t) k = k t := rfl
theorem ER.sat_tst {r : ER} {k : Bool → AH → ER} : (r.tst k).sat Q X = r.sat (fun v h1 => tru v fun t => (k t h1).sat Q X) X := by
  cases r with
  | ok v h1 => cases v <;> rfl
  | _ => rfl
theorem ER.sat_tstS {r : ER} {k : Bool → AH → SR} : (r.tstS σ k).sat P = r.sat (fun v h1 => tru v fun t => (k t h1).sat P) (fun c f h1 => P.ex c f σ h1) := by
  cases r with
  | ok v h1 => cases v <;> rfl
  | _ => rfl
theorem ER.sat_ite {p : Prop} [Decidable p] {r1 r2 : ER} : (if p then r1 else r2).sat Q X = if p then r1.sat Q X else r2.sat Q X := by split <;> rfl
theorem SR.sat_ite {p : Prop} [Decidable p] {r1 r2 : SR} : (if p then r1 else r2).sat P = if p then r1.sat P else r2.sat P := by split <;> rfl
def slot (v : Option (Option AV)) (k : AV → Prop) : Prop := match v with | some (some x) => k x | _ => False
theorem slot_some {x : AV} {k : AV → Prop} : slot (some (some x)) k = k x := rfl
theorem sat_varD {i : Nat} : (varD i σ h).sat Q X = slot σ[i]? fun v => Q v h := by
  unfold varD slot
  cases σ[i]? with
  | none => rfl
  | some v => cases v <;> rfl
theorem sat_cD {v : AV} : (cD v σ h).sat Q X = Q v h := rfl
theorem sat_un {f : AV → AH → ER} : (un f a σ h).sat Q X = (a σ h).sat (fun x h1 => (f x h1).sat Q X) X := ER.sat_bind
theorem sat_bin : (bin f a b σ h).sat Q X = (a σ h).sat (fun x h1 => (b σ h1).sat (fun y h2 => (f x y h2).sat Q X) X) X := by
  unfold bin; rw [ER.sat_bind]; simp only [ER.sat_bind]
theorem sat_evs_nil {Q : List AV → AH → Prop} : (evs [] σ h).sat Q X = Q [] h := rfl
theorem sat_evs_cons {Q : List AV → AH → Prop} : (evs (e :: es) σ h).sat Q X = (e σ h).sat (fun v h1 => (evs es σ h1).sat (fun vs h2 => Q (v :: vs) h2) X) X := by
  show ((e σ h).bindL _).sat Q X = _
  rw [ER.sat_bindL]; simp only [LR.sat_bindL, LR.sat_ok]
theorem sat_tupD : (tupD es σ h).sat Q X = (evs es σ h).sat (fun vs h1 => Q (.tup vs) h1) X := by unfold tupD; rw [LR.sat_bind]; rfl
theorem sat_lstD : (lstD es σ h).sat Q X = (evs es σ h).sat (fun vs h1 => Q (.lst vs) h1) X := by unfold lstD; rw [LR.sat_bind]; rfl
theorem sat_callD {f : FV} : (callD f es σ h).sat Q X = (evs es σ h).sat (fun vs h1 => (f vs h1).sat Q X) X := LR.sat_bind
theorem sat_heapL : (heapL a σ h).sat Q X = (a σ h).sat (fun v h1 => match v with | .lst xs => Q (.ref h1.length) (h1 ++ [.lst xs]) | .dct kvs => Q (.ref h1.length) (h1 ++ [.dct kvs]) | _ => False) X := by
  unfold heapL; rw [ER.sat_bind]
  congr 1; funext v h1
  cases v <;> rfl
theorem sat_andD : (andD a b σ h).sat Q X = (a σ h).sat (fun v h1 => tru v fun t => if t = true then (b σ h1).sat Q X else Q (.bl false) h1) X := by
  unfold andD; rw [ER.sat_tst]; simp only [ER.sat_ite, ER.sat_ok]
theorem sat_orD : (orD a b σ h).sat Q X = (a σ h).sat (fun v h1 => tru v fun t => if t = true then Q (.bl true) h1 else (b σ h1).sat Q X) X := by
  unfold orD; rw [ER.sat_tst]; simp only [ER.sat_ite, ER.sat_ok]
theorem sat_notD : (notD a σ h).sat Q X = (a σ h).sat (fun v h1 => tru v fun t => Q (.bl (!t)) h1) X := by
  unfold notD; rw [ER.sat_tst]; rfl
theorem sat_ifD : (ifD c a b σ h).sat Q X = (c σ h).sat (fun v h1 => tru v fun t => if t = true then (a σ h1).sat Q X else (b σ h1).sat Q X) X := by
  unfold ifD; rw [ER.sat_tst]; simp only [ER.sat_ite]
theorem sat_chainD {f g : AV → AV → AH → ER} : (chainD f g a b c σ h).sat Q X = (a σ h).sat (fun x h1 => (b σ h1).sat (fun y h2 => (f x y h2).sat (fun v h3 => tru v fun t => if t = true then (c σ h3).sat (fun z h4 => (g y z h4).sat Q X) X else Q (.bl false) h3) X) X) X := by
  unfold chainD
  simp only [ER.sat_bind, ER.sat_tst, ER.sat_ite, ER.sat_ok]
theorem sat_optE {o : Option AV} : (optE o h).sat Q X = match o with | some v => Q v h | none => False := by cases o <;> rfl
theorem sat_partN {Q : List AV → AH → Prop} : (partD none σ h).sat Q X = Q [] h := rfl
theorem sat_partS {m : EV} {Q : List AV → AH → Prop} : (partD (some m) σ h).sat Q X = (m σ h).sat (fun v h1 => match v with | .int i => Q [.int i] h1 | _ => False) X := by
  unfold partD; simp only [ER.sat_bindL]
  congr 1; funext v h1
  cases v <;> rfl
theorem sat_sliceD {lo hi : Option EV} : (sliceD o lo hi σ h).sat Q X = (o σ h).sat (fun v h1 => (partD lo σ h1).sat (fun l h2 => (partD hi σ h2).sat (fun u h3 => (sliceV v (pI l) (pI u) h3).sat Q X) X) X) X := by
  unfold sliceD; simp only [ER.sat_bind, LR.sat_bind]
theorem sat_strM0 {f : Str → AH → ER} : (strM0 f o σ h).sat Q X = (o σ h).sat (fun x h1 => match x with | .str s => (f s h1).sat Q X | _ => False) X := by
  unfold strM0; rw [ER.sat_bind]
  congr 1; funext v h1
  cases v <;> rfl
theorem sat_strM1 {f : Str → AV → AH → ER} : (strM1 f o a σ h).sat Q X = (o σ h).sat (fun x h1 => match x with | .str s => (a σ h1).sat (fun y h2 => (f s y h2).sat Q X) X | _ => False) X := by
  unfold strM1; rw [ER.sat_bind]
  congr 1; funext v h1
  cases v <;> first | rfl | exact ER.sat_bind
theorem sat_seqS : (seqS s t σ h).sat P = (s σ h).sat { P with nx := fun σ1 h1 => (t σ1 h1).sat P } := by
  unfold seqS; cases s σ h <;> rfl
theorem sat_nxS : (nxS σ h).sat P = P.nx σ h := rfl
theorem sat_bkS : (bkS σ h).sat P = P.bk σ h := rfl
theorem sat_ctS : (ctS σ h).sat P = P.ct σ h := rfl
theorem sat_setS {i : Nat} : (setS i e σ h).sat P = (e σ h).sat (fun v h1 => P.nx (σ.set i (some v)) h1) (fun c f h1 => P.ex c f σ h1) := ER.sat_toS
theorem sat_exprS : (exprS e σ h).sat P = (e σ h).sat (fun v h1 => P.nx σ h1) (fun c f h1 => P.ex c f σ h1) := ER.sat_toS
theorem sat_retS : (retS e σ h).sat P = (e σ h).sat (fun v h1 => P.rt v h1) (fun c f h1 => P.ex c f σ h1) := ER.sat_toS
theorem sat_asgS {t : TGT} : (asgS t e σ h).sat P = (e σ h).sat (fun v h1 => match t v σ with | some σ1 => P.nx σ1 h1 | none => False) (fun c f h1 => P.ex c f σ h1) := by
  unfold asgS; rw [ER.sat_toS]
  congr 1; funext v h1
  cases t v σ <;> rfl
theorem sat_ifS : (ifS c s t σ h).sat P = (c σ h).sat (fun v h1 => tru v fun k => if k = true then (s σ h1).sat P else (t σ h1).sat P) (fun c f h1 => P.ex c f σ h1) := by
  unfold ifS; rw [ER.sat_tstS]; simp only [SR.sat_ite]
theorem sat_parS {is : List Nat} : (parS is es σ h).sat P = (evs es σ h).sat (fun vs h1 => P.nx (setAll σ is vs) h1) (fun c f h1 => P.ex c f σ h1) := LR.sat_toS
theorem sat_augS {i : Nat} {f : AV → AV → AH → ER} : (augS i f e σ h).sat P = slot σ[i]? fun x => (e σ h).sat (fun y h1 => (f x y h1).sat (fun z h2 => P.nx (σ.set i (some z)) h2) (fun c f h1 => P.ex c f σ h1)) (fun c f h1 => P.ex c f σ h1) := by
  unfold augS slot
  cases σ[i]? with
  | none => rfl
  | some v =>
    cases v with
    | none => rfl
    | some x => simp only [ER.sat_toS]; rfl
theorem sat_appendS {i : Nat} : (appendS i e σ h).sat P = match ownL σ i with | some xs => (e σ h).sat (fun v h1 => xs.length < LIM ∧ P.nx (σ.set i (some (.lst (xs ++ [v])))) h1) (fun c f h1 => P.ex c f σ h1) | none => False := by
  unfold appendS
  cases ownL σ i with
  | none => rfl
  | some xs =>
    simp only [ER.sat_toS, SR.sat_ite, SR.sat_nx, SR.sat_stuck]
    congr 1; funext v h1
    simp
theorem sat_optS {o : Option AS} : (optS o h).sat P = match o with | some s => P.nx s h | none => False := by cases o <;> rfl
theorem sat_optH {o : Option AH} : (optH o σ).sat P = match o with | some h => P.nx σ h | none => False := by cases o <;> rfl
theorem sat_putS {i : Nat} {k : EV} : (putS i k e σ h).sat P = (e σ h).sat (fun v h1 => (k σ h1).sat (fun kv h2 => match ownPut σ i kv v with | some s => P.nx s h2 | none => False) (fun c f h1 => P.ex c f σ h1)) (fun c f h1 => P.ex c f σ h1) := by
  unfold putS; simp only [ER.sat_toS, sat_optS]
theorem sat_hputS {k : EV} : (hputS o k e σ h).sat P = (e σ h).sat (fun v h1 => (o σ h1).sat (fun ov h2 => (k σ h2).sat (fun kv h3 => match (rfOf ov).bind fun i => hput1 i kv v h3 with | some h4 => P.nx σ h4 | none => False) (fun c f h1 => P.ex c f σ h1)) (fun c f h1 => P.ex c f σ h1)) (fun c f h1 => P.ex c f σ h1) := by
  unfold hputS; simp only [ER.sat_toS, sat_optH]
theorem sat_nevS : (nevS σ h).sat P = False := rfl
theorem sat_itD {Q : List AV → AH → Prop} : (itD e σ h).sat Q X = (e σ h).sat (fun v h1 => match iterV v with | some xs => Q xs h1 | none => False) X := by
  unfold itD; rw [ER.sat_bindL]
  congr 1; funext v h1
  cases iterV v <;> rfl
theorem sat_rangeD {f : List AV → Option (List AV)} {Q : List AV → AH → Prop} : (rangeD f es σ h).sat Q X = (evs es σ h).sat (fun vs h1 => match f vs with | some xs => Q xs h1 | none => False) X := by
  unfold rangeD; rw [LR.sat_bindL]
  congr 1; funext v h1
  cases f v <;> rfl
/-- a def -/
theorem sat_body {n : Nat} {m : SV} {vs : List AV} : (body n m vs h).sat Q X = (m (vs.map some ++ List.replicate (n - vs.length) none) h).sat ⟨fun _ h' => Q .non h', fun v h' => Q v h', fun _ _ => False, fun _ _ => False, fun c f _ h' => X c f h'⟩ := by
  unfold body
  cases m (vs.map some ++ List.replicate (n - vs.length) none) h <;> rfl
theorem sat_forL {t : TGT} {b : SV} (I : Nat → AS → AH → Prop) : ∀ (xs : List AV) (i : Nat) (σ : AS) (h : AH), I i σ h →
    (∀ (k : Nat) (x : AV) (σ : AS) (h : AH), xs[k]? = some x → I (i + k) σ h → ∃ σ1, t x σ = some σ1 ∧ (b σ1 h).sat { nx := I (i + k + 1), ct := I (i + k + 1), bk := P.nx, rt := P.rt, ex := P.ex }) →
    (∀ σ h, I (i + xs.length) σ h → P.nx σ h) → (forL t b xs σ h).sat P
  | [], i, σ, h, h0, _, hd => hd σ h h0
  | x :: xs, i, σ, h, h0, step, hd => by
    obtain ⟨σ1, e1, hb⟩ := step 0 x σ h rfl h0
    have rest : ∀ σ2 h2, I (i + 1) σ2 h2 → (forL t b xs σ2 h2).sat P := fun σ2 h2 i2 => sat_forL I xs (i + 1) σ2 h2 i2 (fun k y σ h hy hi => by
      have e : i + 1 + k = i + (k + 1) := by omega
      rw [e] at hi ⊢
      exact step (k + 1) y σ h (by simpa using hy) hi) fun σ h hi => hd σ h (by
        have e : i + (x :: xs).length = i + 1 + xs.length := by rw [List.length_cons]; omega
        rw [e]; exact hi)
    unfold forL
    rw [e1]
    show SR.sat (match b σ1 h with
      | .nx σ2 h2 => forL t b xs σ2 h2
      | .ct σ2 h2 => forL t b xs σ2 h2
      | .bk σ2 h2 => .nx σ2 h2
      | .rt v h2 => .rt v h2
      | .exc c f σ2 h2 => .exc c f σ2 h2
      | .stuck => .stuck) P
    cases g : b σ1 h with
    | nx σ2 h2 => rw [g] at hb; exact rest σ2 h2 hb
    | ct σ2 h2 => rw [g] at hb; exact rest σ2 h2 hb
    | bk σ2 h2 => rw [g] at hb; exact hb
    | rt v h2 => rw [g] at hb; exact hb
    | exc c f σ2 h2 => rw [g] at hb; exact hb
    | stuck => rw [g] at hb; exact hb
theorem sat_forS {t : TGT} {it : LV} {b : SV} : (forS t it b σ h).sat P = (it σ h).sat (fun xs h1 => (forL t b xs σ h1).sat P) (fun c f h1 => P.ex c f σ h1) := LR.sat_toS
/-- while, by a measure -/
theorem sat_while {c : EV} {b : SV} (I : Nat → AS → AH → Prop) (step : ∀ m σ h, I m σ h → (c σ h).sat (fun v h1 => tru v fun k => if k = true then (b σ h1).sat { nx := fun σ2 h2 => ∃ m', m' < m ∧ I m' σ2 h2, ct := fun σ2 h2 => ∃ m', m' < m ∧ I m' σ2 h2, bk := P.nx, rt := P.rt, ex := P.ex } else P.nx σ h1) (fun c f h1 => P.ex c f σ h1)) :
    ∀ (n m : Nat) (σ : AS) (h : AH), m < n → I m σ h → (whileS n c b σ h).sat P
  | 0, _, _, _, hm, _ => by omega
  | n + 1, m, σ, h, hm, hi => by
    have s := step m σ h hi
    unfold whileS
    rw [ER.sat_tstS]
    refine ER.sat_imp s fun v h1 q => ?_
    cases v with
    | bl k =>
      simp only [tru_bl] at q ⊢
      cases k with
      | false => exact q
      | true =>
        simp only [if_true] at q ⊢
        cases g : b σ h1 with
        | nx σ2 h2 => rw [g] at q; obtain ⟨m', h3, h4⟩ := q; exact sat_while I step n m' σ2 h2 (by omega) h4
        | ct σ2 h2 => rw [g] at q; obtain ⟨m', h3, h4⟩ := q; exact sat_while I step n m' σ2 h2 (by omega) h4
        | bk σ2 h2 => rw [g] at q; exact q
        | rt v h2 => rw [g] at q; exact q
        | exc c f σ2 h2 => rw [g] at q; exact q
        | stuck => rw [g] at q; exact q
    | _ => exact q
end
/-- a roll -/
theorem roll_sat {h : AH} {i : Nat} {m : Int} {Q : AV → AH → Prop} {X : XP} (hd : Dice h i) (h1 : 0 < m) (h2 : m < 1073741824) (q : ∀ r h', 0 ≤ r → r < m → Only1 i h h' → Dice h' i → Q (.int r) h') : (f_roll [.ref i, .int m] h).sat Q X := by
  obtain ⟨r, h', e, a, b, c, d⟩ := roll_ok hd h1 h2
  rw [e]; exact q r h' a b c d
theorem forL_nx {t : TGT} {b : SV} {x : AV} {r : List AV} {σ σ1 σ2 : AS} {h h2 : AH} (e1 : t x σ = some σ1) (e2 : b σ1 h = .nx σ2 h2) : forL t b (x :: r) σ h = forL t b r σ2 h2 := by
  show (match t x σ with
    | none => SR.stuck
    | some σ1 => match b σ1 h with
      | .nx σ2 h2 => forL t b r σ2 h2
      | .ct σ2 h2 => forL t b r σ2 h2
      | .bk σ2 h2 => .nx σ2 h2
      | .rt v h2 => .rt v h2
      | .exc c f σ2 h2 => .exc c f σ2 h2
      | .stuck => .stuck) = _
  rw [e1]
  show (match b σ1 h with
      | .nx σ2 h2 => forL t b r σ2 h2
      | .ct σ2 h2 => forL t b r σ2 h2
      | .bk σ2 h2 => .nx σ2 h2
      | .rt v h2 => .rt v h2
      | .exc c f σ2 h2 => .exc c f σ2 h2
      | .stuck => .stuck) = _
  rw [e2]
theorem comp_eq {own : List Nat} {t : TGT} {it : LV} {c e : EV} {σ : AS} {h h1 h2 : AH} {xs vs : List AV} (ei : it σ h = .ok xs h1) (ec : compL t c e (wipeA σ own) xs h1 = .ok vs h2) (hl : vs.length ≤ LIM) : compD own t it c e σ h = .ok (.lst vs) h2 := by
  unfold compD
  rw [ei]
  simp only [LR.bind_ok, ec]
  rw [if_pos hl]
theorem bin_eq {f : AV → AV → AH → ER} {a b : EV} {σ : AS} {h h1 h2 : AH} {x y : AV} (ea : a σ h = .ok x h1) (eb : b σ h1 = .ok y h2) : bin f a b σ h = f x y h2 := by
  unfold bin; rw [ea]; simp only [ER.bind_ok, eb]
theorem range1_of {r : Int} (a : 0 ≤ r) (b : r < 1000000000) : range1F [.int r] = some (rangeL 0 r.toNat) := by
  show (if B62 r = true then some (rangeL 0 r.toNat) else none) = _
  rw [if_pos]
  unfold B62
  simp only [Bool.and_eq_true, decide_eq_true_eq]
  constructor
  · exact Int.le_trans (by decide) a
  · exact Int.lt_trans b (by decide)
theorem pick_sat {xs : List AV} {r : Int} {h : AH} {Q : AV → AH → Prop} {X : XP} (h0 : 0 ≤ r) (h1 : r < xs.length) (q : ∀ x ∈ xs, Q x h) : (getV (.lst xs) (.int r) h).sat Q X := by
  obtain ⟨n, rfl⟩ := Int.eq_ofNat_of_zero_le h0
  have hn : n < xs.length := by omega
  rw [getV_lst, atI_at hn, optE_some]
  exact q _ (List.getElem_mem hn)
end D
end

section
namespace K29
open PySem D

def c_WORDS : List AV := [(.str ("read" : Str)), (.str ("write" : Str)), (.str ("own" : Str))]

def m__law_dice : SV :=
  (seqS (ifS (chainD ltV ltV (bin subV (cD (.int 0)) (cD (.int 10))) (varD 0) (cD (.int 10))) (retS (heapL (lstD [(callD absF [(varD 0)]), (cD (.int 0)), (cD (.int 2))]))) nxS)
  (retS (heapL (lstD [(varD 0), (bin addV (cD (.int 1)) (bin modV (callD intF [(varD 0)]) (cD (.int 1009)))), (callD intF [(bin geV (varD 0) (bin powV (cD (.int 10)) (cD (.int 18))))])]))))
def f__law_dice : FV := body 1 m__law_dice

def m__law_rounds : SV :=
  (seqS (setS 2 (sliceD (varD 0) none (some (varD 1))))
  (seqS (ifS (bin eqV (varD 2) (lstD [])) (setS 2 (lstD [(cD (.int 0))])) nxS)
  (retS (compD [3] (nameT 3) (itD (varD 2)) (cD (.bl true)) (callD f__law_dice [(varD 3)])))))
def f__law_rounds : FV := body 4 m__law_rounds

def m__law_roll : SV :=
  (seqS (ifS (orD (bin eqV (bin getV (varD 0) (cD (.int 2))) (cD (.int 2))) (andD (bin eqV (bin getV (varD 0) (cD (.int 2))) (cD (.int 1))) (bin gtV (bin getV (varD 0) (cD (.int 0))) (cD (.int 0))))) (seqS (setS 2 (bin modV (callD intF [(bin getV (varD 0) (cD (.int 0)))]) (varD 1)))
  (seqS (hputS (varD 0) (cD (.int 0)) (bin fdivV (bin getV (varD 0) (cD (.int 0))) (varD 1)))
  (retS (varD 2)))) nxS)
  (seqS (hputS (varD 0) (cD (.int 2)) (cD (.int 0)))
  (seqS (hputS (varD 0) (cD (.int 0)) (bin modV (callD intF [(bin addV (bin addV (bin mulV (bin getV (varD 0) (cD (.int 0))) (cD (.int 48271))) (bin mulV (bin getV (varD 0) (cD (.int 1))) (cD (.int 69621)))) (cD (.int 11)))]) (cD (.int 2147483647))))
  (seqS (hputS (varD 0) (cD (.int 1)) (bin addV (bin getV (varD 0) (cD (.int 1))) (cD (.int 1))))
  (retS (bin modV (callD intF [(bin addV (bin fdivV (bin getV (varD 0) (cD (.int 0))) (cD (.int 7))) (bin getV (varD 0) (cD (.int 0))))]) (varD 1)))))))
def f__law_roll : FV := body 3 m__law_roll

def m__law_groups : SV :=
  (seqS (parS [1, 2] [(cD (.dct [])), (lstD [(cD (.str ("ann" : Str))), (cD (.str ("bob" : Str))), (cD (.str ("cat" : Str)))])])
  (seqS (forS (nameT 3) (itD (lstD [(cD (.str ("gods" : Str))), (cD (.str ("men" : Str))), (cD (.str ("all" : Str)))])) (seqS (setS 4 (compD [5] (nameT 5) (itD (varD 2)) (bin eqV (callD f__law_roll [(varD 0), (cD (.int 3))]) (cD (.int 0))) (varD 5)))
  (seqS (putS 1 (varD 3) (callD tupleF [(varD 4)]))
  (appendS 2 (varD 3)))))
  (retS (varD 1))))
def f__law_groups : FV := body 6 m__law_groups

def m__law_rules : SV :=
  (seqS (setS 1 (lstD []))
  (seqS (forS (nameT 2) (rangeD range1F [(callD f__law_roll [(varD 0), (cD (.int 8))])]) (seqS (parS [3, 4] [(bin getV (lstD [(cD (.str ("ann" : Str))), (cD (.str ("bob" : Str))), (cD (.str ("gods" : Str))), (cD (.str ("men" : Str))), (cD (.str ("all" : Str)))]) (callD f__law_roll [(varD 0), (cD (.int 5))])), (bin getV (lstD [(cD (.str ("read" : Str))), (cD (.str ("write" : Str)))]) (callD f__law_roll [(varD 0), (cD (.int 2))]))])
  (appendS 1 (tupD [(varD 3), (varD 4), (bin getV (lstD [(cD (.str ("" : Str))), (cD (.str ("a" : Str))), (cD (.str ("a/b" : Str))), (cD (.str ("a/b/c" : Str))), (cD (.str ("d" : Str)))]) (callD f__law_roll [(varD 0), (cD (.int 5))])), (bin gtV (callD f__law_roll [(varD 0), (cD (.int 3))]) (cD (.int 0)))]))))
  (retS (callD tupleF [(varD 1)]))))
def f__law_rules : FV := body 5 m__law_rules

def m_members_of : SV :=
  (seqS (parS [2, 3, 4] [(cD (.dct [])), (cD (.dct [])), (heapL (lstD [(varD 1)]))])
  (seqS (whileS 1099511627776 (bin neV (varD 4) (lstD [])) (forS (nameT 5) (itD (bin getV (varD 0) (hpopD (varD 4)))) (ifS (bin inD (varD 5) (varD 0)) (ifS (bin notInD (varD 5) (varD 3)) (seqS (putS 3 (varD 5) (cD (.bl true)))
  (exprS (happD (varD 4) (varD 5)))) nxS) (putS 2 (varD 5) (cD (.bl true))))))
  (retS (tupD [(callD tupleF [(callD sortKF [(varD 2)])]), (callD tupleF [(callD sortKF [(varD 3)])])]))))
def f_members_of : FV := body 6 m_members_of

def m_names_of : SV :=
  (retS (callD tupleF [(callD sortedF [(bin addV (lstD [(varD 1)]) (compD [2] (nameT 2) (keysD 0) (bin inD (varD 1) (bin getV (callD f_members_of [(varD 0), (varD 2)]) (cD (.int 0)))) (varD 2)))])]))
def f_names_of : FV := body 3 m_names_of

def m_paths_above : SV :=
  (seqS (setS 1 (ifD (bin neV (varD 0) (cD (.str ("" : Str)))) (strM1 splitV (varD 0) (cD (.str ("/" : Str)))) (lstD [])))
  (retS (callD tupleF [(compD [2] (nameT 2) (rangeD range3F [(callD lenF [(varD 1)]), (un negV (cD (.int 1))), (un negV (cD (.int 1)))]) (cD (.bl true)) (strM1 joinV (cD (.str ("/" : Str))) (sliceD (varD 1) none (some (varD 2)))))])))
def f_paths_above : FV := body 3 m_paths_above

def m_may : SV :=
  (seqS (ifS (bin notInD (varD 3) (cD (.tup c_WORDS))) nevS nxS)
  (seqS (setS 5 (callD f_names_of [(varD 0), (varD 2)]))
  (seqS (forS (nameT 6) (itD (callD f_paths_above [(varD 4)])) (seqS (setS 7 (compD [8] (nameT 8) (itD (varD 1)) (andD (bin inD (bin getV (varD 8) (cD (.int 0))) (varD 5)) (andD (bin eqV (bin getV (varD 8) (cD (.int 1))) (varD 3)) (bin eqV (bin getV (varD 8) (cD (.int 2))) (varD 6)))) (bin getV (varD 8) (cD (.int 3)))))
  (ifS (bin neV (varD 7) (lstD [])) (retS (callD allF [(varD 7)])) nxS)))
  (retS (cD (.bl false))))))
def f_may : FV := body 9 m_may

def m_law : SV :=
  (seqS (forS (nameT 1) (itD (callD f__law_rounds [(varD 0), (cD (.int 2))])) (seqS (parS [3, 4] [(callD f__law_groups [(varD 1)]), (sliceD (callD f__law_rules [(varD 1)]) none (some (cD (.int 5))))])
  (seqS (parS [5, 6, 7] [(bin getV (lstD [(cD (.str ("ann" : Str))), (cD (.str ("gods" : Str))), (cD (.str ("all" : Str)))]) (callD f__law_roll [(varD 1), (cD (.int 3))])), (bin getV (lstD [(cD (.str ("read" : Str))), (cD (.str ("write" : Str)))]) (callD f__law_roll [(varD 1), (cD (.int 2))])), (bin getV (lstD [(cD (.str ("" : Str))), (cD (.str ("a" : Str))), (cD (.str ("a/b" : Str)))]) (callD f__law_roll [(varD 1), (cD (.int 3))]))])
  (seqS (parS [8, 9] [(bin addV (varD 4) (tupD [(tupD [(varD 5), (varD 6), (varD 7), (cD (.bl true))])])), (bin addV (varD 4) (tupD [(tupD [(varD 5), (varD 6), (varD 7), (cD (.bl false))])]))])
  (forS (nameT 2) (itD (lstD [(cD (.str ("ann" : Str))), (cD (.str ("bob" : Str)))])) (seqS (setS 10 (orD (bin eqV (varD 5) (varD 2)) (andD (bin inD (varD 5) (varD 3)) (bin inD (varD 2) (bin getV (callD f_members_of [(varD 3), (varD 5)]) (cD (.int 0)))))))
  (forS (nameT 11) (itD (lstD [(cD (.str ("a" : Str))), (cD (.str ("a/b" : Str))), (cD (.str ("a/b/c" : Str))), (cD (.str ("d" : Str)))])) (seqS (setS 12 (callD f_may [(varD 3), (varD 4), (varD 2), (varD 6), (varD 11)]))
  (seqS (ifS (orD (andD (varD 12) (notD (callD f_may [(varD 3), (varD 8), (varD 2), (varD 6), (varD 11)]))) (andD (notD (varD 12)) (callD f_may [(varD 3), (varD 9), (varD 2), (varD 6), (varD 11)]))) (retS (cD (.bl false))) nxS)
  (seqS (ifS (andD (notD (varD 10)) (bin neV (callD f_may [(varD 3), (varD 9), (varD 2), (varD 6), (varD 11)]) (varD 12))) (retS (cD (.bl false))) nxS)
  (seqS (ifS (orD (bin neV (callD f_may [(varD 3), (bin addV (varD 4) (varD 4)), (varD 2), (varD 6), (varD 11)]) (varD 12)) (bin neV (callD f_may [(varD 3), (un revTV (varD 4)), (varD 2), (varD 6), (varD 11)]) (varD 12))) (retS (cD (.bl false))) nxS)
  (seqS (setS 13 (bin addV (lstD [(varD 2)]) (compD [16] (nameT 16) (keysD 3) (bin inD (varD 2) (bin getV (callD f_members_of [(varD 3), (varD 16)]) (cD (.int 0)))) (varD 16))))
  (seqS (setS 14 (compD [15] (nameT 15) (itD (callD f_paths_above [(varD 11)])) (bin neV (compD [17] (nameT 17) (itD (varD 4)) (andD (bin inD (bin getV (varD 17) (cD (.int 0))) (varD 13)) (andD (bin eqV (bin getV (varD 17) (cD (.int 1))) (varD 6)) (bin eqV (bin getV (varD 17) (cD (.int 2))) (varD 15)))) (varD 17)) (lstD [])) (varD 15)))
  (ifS (orD (andD (bin eqV (varD 14) (lstD [])) (varD 12)) (andD (bin neV (varD 14) (lstD [])) (bin neV (callD f_may [(varD 3), (varD 4), (varD 2), (varD 6), (ifD (bin neV (bin getV (varD 14) (cD (.int 0))) (cD (.str ("" : Str)))) (bin getV (varD 14) (cD (.int 0))) (cD (.str ("" : Str))))]) (varD 12)))) (retS (cD (.bl false))) nxS))))))))))))))
  (retS (cD (.bl true))))
def f_law : FV := body 18 m_law

end K29
end

section
namespace K29
open PySem L2 D PyProof.Rows

def top (i : Nat) : Stmt := PySem.Challenge.pw_patchyard_k29_rights_that_grow_and_shrin.main.body.getD i (.Pass ⟨0, 0, 0, 0⟩)
abbrev s__law_dice : Stmt := top 10
abbrev N__law_dice : List Str := ["cell"]
abbrev s__law_rounds : Stmt := top 12
abbrev N__law_rounds : List Str := ["script", "most", "cells", "cell"]
abbrev s__law_roll : Stmt := top 11
abbrev N__law_roll : List Str := ["dice", "many", "found"]
abbrev s__law_groups : Stmt := top 13
abbrev N__law_groups : List Str := ["dice", "groups", "names", "group", "row", "name"]
abbrev s__law_rules : Stmt := top 14
abbrev N__law_rules : List Str := ["dice", "found", "k", "who", "word"]
abbrev s_members_of : Stmt := top 5
abbrev N_members_of : List Str := ["groups", "name", "people", "inner", "left", "one"]
abbrev s_names_of : Stmt := top 6
abbrev N_names_of : List Str := ["groups", "person", "name"]
abbrev s_paths_above : Stmt := top 7
abbrev N_paths_above : List Str := ["path", "parts", "k"]
abbrev s_may : Stmt := top 8
abbrev N_may : List Str := ["groups", "rules", "person", "word", "path", "names", "here", "told", "rule"]
abbrev s_law : Stmt := top 15
abbrev N_law : List Str := ["script", "dice", "person", "groups", "rules", "who", "word", "path", "grant", "denial", "meant", "goal", "now", "names", "near", "here", "group", "rule"]
structure G (mg : Str → Option Value) : Prop where
  abs : mg "abs" = none
  all : mg "all" = none
  int : mg "int" = none
  len : mg "len" = none
  range : mg "range" = none
  reversed : mg "reversed" = none
  sorted : mg "sorted" = none
  tuple : mg "tuple" = none
theorem sc__law_dice : FnScope N__law_dice ["cell"] (defScope s__law_dice) := ⟨rfl, rfl, rfl, by decide +kernel, rfl, by decide +kernel, by decide +kernel⟩
theorem sc__law_rounds : FnScope N__law_rounds ["script", "most"] (defScope s__law_rounds) := ⟨rfl, rfl, rfl, by decide +kernel, rfl, by decide +kernel, by decide +kernel⟩
theorem sc__law_roll : FnScope N__law_roll ["dice", "many"] (defScope s__law_roll) := ⟨rfl, rfl, rfl, by decide +kernel, rfl, by decide +kernel, by decide +kernel⟩
theorem sc__law_groups : FnScope N__law_groups ["dice"] (defScope s__law_groups) := ⟨rfl, rfl, rfl, by decide +kernel, rfl, by decide +kernel, by decide +kernel⟩
theorem sc__law_rules : FnScope N__law_rules ["dice"] (defScope s__law_rules) := ⟨rfl, rfl, rfl, by decide +kernel, rfl, by decide +kernel, by decide +kernel⟩
theorem sc_members_of : FnScope N_members_of ["groups", "name"] (defScope s_members_of) := ⟨rfl, rfl, rfl, by decide +kernel, rfl, by decide +kernel, by decide +kernel⟩
theorem sc_names_of : FnScope N_names_of ["groups", "person"] (defScope s_names_of) := ⟨rfl, rfl, rfl, by decide +kernel, rfl, by decide +kernel, by decide +kernel⟩
theorem sc_paths_above : FnScope N_paths_above ["path"] (defScope s_paths_above) := ⟨rfl, rfl, rfl, by decide +kernel, rfl, by decide +kernel, by decide +kernel⟩
theorem sc_may : FnScope N_may ["groups", "rules", "person", "word", "path"] (defScope s_may) := ⟨rfl, rfl, rfl, by decide +kernel, rfl, by decide +kernel, by decide +kernel⟩
theorem sc_law : FnScope N_law ["script"] (defScope s_law) := ⟨rfl, rfl, rfl, by decide +kernel, rfl, by decide +kernel, by decide +kernel⟩
section
variable {Pm : Pm} {P : Program} {w : World} {mg : Str → Option Value} {base : Heap}
set_option maxHeartbeats 0 in
theorem d__law_dice {f : Addr} (T : G mg)  (cdv : Value) (A : Around) (outer : List Env) (s : Shared) (H : Hp) (E : XK) (hr : Room 0 (A.deeper (envOfC "_law_dice" (defScope s__law_dice) s.heap.objs.size f cdv))) :
    DSs Pm (cxOf (L2.CX P w) P w Pm.K mg base N__law_dice "_law_dice" (defScope s__law_dice) f cdv A outer s H E) false (fun c d _ H => E c d H) [] [] [] [] (defBody s__law_dice) m__law_dice :=
  (dss_cons (ds_if (dt_chain op_lt2 op_lt2 v_lt v_lt (DE.b (de_op op_sub v_sub (DE.b de_int) (DE.b de_int))) (db_var 0) (DE.b de_int)) (dss_one (ds_ret (de_heap (df_lst (da_cons (de_callB call_abs v_abs (by rfl) T.abs bt_abs (dab_cons (db_var 0) dab_nil)) (da_cons de_int (da_cons de_int da_nil))))))) dss_nil)
    (dss_one (ds_ret (de_heap (df_lst (da_cons (de_var 0) (da_cons (de_op op_add4 v_add (DE.b de_int) (DE.b (de_op op_modN v_mod (DE.b (de_callTy call_int1 v_int (by rfl) T.int bt_int (dab_cons (db_var 0) dab_nil))) (DE.b de_int)))) (da_cons (de_callTy call_int1 v_int (by rfl) T.int bt_int (dab_cons (DE.b (de_cmp op_ge (v_cmpI (p := fun i j => decide (j ≤ i))) (db_var 0) (DE.b (de_op op_pow v_pow (DE.b de_int) (DE.b de_int))) (by rfl))) dab_nil)) da_nil))))))))
theorem ok__law_dice {f : Addr} {fd : FuncData} (F : Fun Pm.K "_law_dice" "_law_dice" s__law_dice f fd) (T : G mg)  : FnOk P w Pm.K mg base (L2.CX P w) 1 f fd ["cell"] (spD Pm false 1 f__law_dice) :=
  fn_ok F sc__law_dice fun cdv A outer s H E hr => d__law_dice T  cdv A outer s H E hr
set_option maxHeartbeats 0 in
theorem d__law_rounds {f : Addr} (T : G mg) (F__law_dice : FnD Pm P w mg base false 1 "_law_dice" ["cell"] f__law_dice) (cdv : Value) (A : Around) (outer : List Env) (s : Shared) (H : Hp) (E : XK) (hr : Room 1 (A.deeper (envOfC "_law_rounds" (defScope s__law_rounds) s.heap.objs.size f cdv))) :
    DSs Pm (cxOf (L2.CX P w) P w Pm.K mg base N__law_rounds "_law_rounds" (defScope s__law_rounds) f cdv A outer s H E) false (fun c d _ H => E c d H) [] [] [] [] (defBody s__law_rounds) m__law_rounds :=
  (dss_cons (s_set 2 sc__law_rounds.nd (de_slice rfl (db_var 0) do_none (do_some (db_var 1))))
    (dss_cons (ds_if (dt_cmp (op_eq2 (room64 hr)) v_eq (db_var 2) (DE.b (de_lst da_nil)) (by rfl)) (dss_one (s_set 2 sc__law_rounds.nd (de_lst (da_cons de_int da_nil)))) dss_nil)
    (dss_one (ds_ret (DF.de (df_comp (own := [("cell", 3)]) rfl sc__law_rounds.nd (di_sqC rfl (db_var 2)) (blkOk_by (own := [("cell", 3)]) (N := N__law_rounds) (sc := defScope s__law_rounds) (by decide +kernel)) (fun _ _ _ _ _ => (dg_name 3 sc__law_rounds.nd)) (fun _ _ _ _ _ => dts_nil) (fun _ _ _ _ _ => (de_call F__law_dice rfl (hr.mono (by decide)) takes0 (by rfl) (da_cons (de_var 3) da_nil)))))))))
theorem ok__law_rounds {f : Addr} {fd : FuncData} (F : Fun Pm.K "_law_rounds" "_law_rounds" s__law_rounds f fd) (T : G mg) (F__law_dice : FnD Pm P w mg base false 1 "_law_dice" ["cell"] f__law_dice) : FnOk P w Pm.K mg base (L2.CX P w) 2 f fd ["script", "most"] (spD Pm false 2 f__law_rounds) :=
  fn_ok F sc__law_rounds fun cdv A outer s H E hr => d__law_rounds T F__law_dice cdv A outer s H E hr
set_option maxHeartbeats 0 in
theorem d__law_roll {f : Addr} (T : G mg)  (cdv : Value) (A : Around) (outer : List Env) (s : Shared) (H : Hp) (E : XK) (hr : Room 0 (A.deeper (envOfC "_law_roll" (defScope s__law_roll) s.heap.objs.size f cdv))) :
    DSs Pm (cxOf (L2.CX P w) P w Pm.K mg base N__law_roll "_law_roll" (defScope s__law_roll) f cdv A outer s H E) false (fun c d _ H => E c d H) [] [] [] [] (defBody s__law_roll) m__law_roll :=
  (dss_cons (ds_if (DW.dt (dw_or (dt_cmp (op_eq2 (room64 hr)) v_eq (DE.b (de_get rfl (room1 hr) (db_var 0) (DE.b de_int))) (DE.b de_int) (by rfl)) (dw_or1 (DW.dt (dw_and (dt_cmp (op_eq2 (room64 hr)) v_eq (DE.b (de_get rfl (room1 hr) (db_var 0) (DE.b de_int))) (DE.b de_int) (by rfl)) (dw_and1 (dt_cmp op_gt (v_cmpI (p := fun i j => decide (j < i))) (DE.b (de_get rfl (room1 hr) (db_var 0) (DE.b de_int))) (DE.b de_int) (by rfl)))))))) (dss_cons (s_set 2 sc__law_roll.nd (de_op op_modN v_mod (DE.b (de_callTy call_int1 v_int (by rfl) T.int bt_int (dab_cons (DE.b (de_get rfl (room1 hr) (db_var 0) (DE.b de_int))) dab_nil))) (db_var 1)))
    (dss_cons (ds_hput (room1 hr) (de_op op_fdivN v_fdiv (DE.b (de_get rfl (room1 hr) (db_var 0) (DE.b de_int))) (db_var 1)) (de_var 0) (DE.b de_int))
    (dss_one (ds_ret (de_var 2))))) dss_nil)
    (dss_cons (ds_hput (room1 hr) de_int (de_var 0) (DE.b de_int))
    (dss_cons (ds_hput (room1 hr) (de_op op_modN v_mod (DE.b (de_callTy call_int1 v_int (by rfl) T.int bt_int (dab_cons (DE.b (de_op op_add4 v_add (DE.b (de_op op_add4 v_add (DE.b (de_op op_mul2 v_mul (DE.b (de_get rfl (room1 hr) (db_var 0) (DE.b de_int))) (DE.b de_int))) (DE.b (de_op op_mul2 v_mul (DE.b (de_get rfl (room1 hr) (db_var 0) (DE.b de_int))) (DE.b de_int))))) (DE.b de_int))) dab_nil))) (DE.b de_int)) (de_var 0) (DE.b de_int))
    (dss_cons (ds_hput (room1 hr) (de_op op_add4 v_add (DE.b (de_get rfl (room1 hr) (db_var 0) (DE.b de_int))) (DE.b de_int)) (de_var 0) (DE.b de_int))
    (dss_one (ds_ret (de_op op_modN v_mod (DE.b (de_callTy call_int1 v_int (by rfl) T.int bt_int (dab_cons (DE.b (de_op op_add4 v_add (DE.b (de_op op_fdivN v_fdiv (DE.b (de_get rfl (room1 hr) (db_var 0) (DE.b de_int))) (DE.b de_int))) (DE.b (de_get rfl (room1 hr) (db_var 0) (DE.b de_int))))) dab_nil))) (db_var 1))))))))
theorem ok__law_roll {f : Addr} {fd : FuncData} (F : Fun Pm.K "_law_roll" "_law_roll" s__law_roll f fd) (T : G mg)  : FnOk P w Pm.K mg base (L2.CX P w) 1 f fd ["dice", "many"] (spD Pm false 2 f__law_roll) :=
  fn_ok F sc__law_roll fun cdv A outer s H E hr => d__law_roll T  cdv A outer s H E hr
set_option maxHeartbeats 0 in
theorem d__law_groups {f : Addr} (T : G mg) (F__law_roll : FnD Pm P w mg base false 1 "_law_roll" ["dice", "many"] f__law_roll) (cdv : Value) (A : Around) (outer : List Env) (s : Shared) (H : Hp) (E : XK) (hr : Room 1 (A.deeper (envOfC "_law_groups" (defScope s__law_groups) s.heap.objs.size f cdv))) :
    DSs Pm (cxOf (L2.CX P w) P w Pm.K mg base N__law_groups "_law_groups" (defScope s__law_groups) f cdv A outer s H E) false (fun c d _ H => E c d H) [] [] [] [2] (defBody s__law_groups) m__law_groups :=
  (dss_cons (s_par2 1 2 sc__law_groups.nd (dm_new df_dct (dm_new (df_lst (da_cons de_str (da_cons de_str (da_cons de_str da_nil)))) dm_nil)))
    (dss_cons (s_for (vs := [3]) (passes_of rfl) (di_sq rfl (de_lst (da_cons de_str (da_cons de_str (da_cons de_str da_nil))))) (dg_name 3 sc__law_groups.nd) (dss_cons (s_setLc 4 (own := [("name", 5)]) sc__law_groups.nd (di_sqC rfl (db_var 2)) (blkOk_by (own := [("name", 5)]) (N := N__law_groups) (sc := defScope s__law_groups) (by decide +kernel)) (fun _ _ _ _ _ => (dg_name 5 sc__law_groups.nd)) (fun _ _ _ _ _ => (dts_one (dt_cmp (op_eq2 (room64 hr)) v_eq (DE.b (de_call F__law_roll rfl (hr.mono (by decide)) takes0 (by rfl) (da_cons (de_var 0) (da_cons de_int da_nil)))) (DE.b de_int) (by rfl)))) (fun _ _ _ _ _ => (de_var 5)))
    (dss_cons (s_put 1 (room1 hr) (db_var 3) (de_callTy call_tuple_of v_tuple (by rfl) T.tuple bt_tuple (dab_cons (db_var 4) dab_nil)))
    (dss_one (s_append 2 (de_var 3))))))
    (dss_weak (N1 := [2]) (dss_one (ds_ret (de_var 1))))))
theorem ok__law_groups {f : Addr} {fd : FuncData} (F : Fun Pm.K "_law_groups" "_law_groups" s__law_groups f fd) (T : G mg) (F__law_roll : FnD Pm P w mg base false 1 "_law_roll" ["dice", "many"] f__law_roll) : FnOk P w Pm.K mg base (L2.CX P w) 2 f fd ["dice"] (spD Pm false 1 f__law_groups) :=
  fn_ok F sc__law_groups fun cdv A outer s H E hr => d__law_groups T F__law_roll cdv A outer s H E hr
set_option maxHeartbeats 0 in
theorem d__law_rules {f : Addr} (T : G mg) (F__law_roll : FnD Pm P w mg base false 1 "_law_roll" ["dice", "many"] f__law_roll) (cdv : Value) (A : Around) (outer : List Env) (s : Shared) (H : Hp) (E : XK) (hr : Room 1 (A.deeper (envOfC "_law_rules" (defScope s__law_rules) s.heap.objs.size f cdv))) :
    DSs Pm (cxOf (L2.CX P w) P w Pm.K mg base N__law_rules "_law_rules" (defScope s__law_rules) f cdv A outer s H E) false (fun c d _ H => E c d H) [] [] [] [1] (defBody s__law_rules) m__law_rules :=
  (dss_cons (s_setF 1 sc__law_rules.nd (df_lst da_nil))
    (dss_cons (s_for (vs := [2]) (passes_of rfl) (di_range1 (by rfl) T.range (dab_cons (DE.b (de_call F__law_roll rfl (hr.mono (by decide)) (takes_of rfl rfl rfl rfl) (by rfl) (da_cons (de_var 0) (da_cons de_int da_nil)))) dab_nil)) (dg_name 2 sc__law_rules.nd) (dss_cons (s_par2 3 4 sc__law_rules.nd (dm_val (de_get rfl (room1 hr) (DE.b (de_lst (da_cons de_str (da_cons de_str (da_cons de_str (da_cons de_str (da_cons de_str da_nil))))))) (DE.b (de_call F__law_roll rfl (hr.mono (by decide)) (takes_of rfl rfl rfl rfl) (by rfl) (da_cons (de_var 0) (da_cons de_int da_nil))))) (dm_val (de_get rfl (room1 hr) (DE.b (de_lst (da_cons de_str (da_cons de_str da_nil)))) (DE.b (de_call F__law_roll rfl (hr.mono (by decide)) (takes_of rfl rfl rfl rfl) (by rfl) (da_cons (de_var 0) (da_cons de_int da_nil))))) dm_nil)))
    (dss_one (s_append 1 (de_tup (da_cons (de_var 3) (da_cons (de_var 4) (da_cons (de_get rfl (room1 hr) (DE.b (de_lst (da_cons de_str (da_cons de_str (da_cons de_str (da_cons de_str (da_cons de_str da_nil))))))) (DE.b (de_call F__law_roll rfl (hr.mono (by decide)) (takes_of rfl rfl rfl rfl) (by rfl) (da_cons (de_var 0) (da_cons de_int da_nil))))) (da_cons (de_cmp op_gt (v_cmpI (p := fun i j => decide (j < i))) (DE.b (de_call F__law_roll rfl (hr.mono (by decide)) (takes_of rfl rfl rfl rfl) (by rfl) (da_cons (de_var 0) (da_cons de_int da_nil)))) (DE.b de_int) (by rfl)) da_nil)))))))))
    (dss_one (ds_ret (de_callTy call_tuple_of v_tuple (by rfl) T.tuple bt_tuple (dab_cons (db_var 1) dab_nil))))))
theorem ok__law_rules {f : Addr} {fd : FuncData} (F : Fun Pm.K "_law_rules" "_law_rules" s__law_rules f fd) (T : G mg) (F__law_roll : FnD Pm P w mg base false 1 "_law_roll" ["dice", "many"] f__law_roll) : FnOk P w Pm.K mg base (L2.CX P w) 2 f fd ["dice"] (spD Pm false 1 f__law_rules) :=
  fn_ok F sc__law_rules fun cdv A outer s H E hr => d__law_rules T F__law_roll cdv A outer s H E hr
set_option maxHeartbeats 0 in
theorem d_members_of {f : Addr} (T : G mg)  (cdv : Value) (A : Around) (outer : List Env) (s : Shared) (H : Hp) (E : XK) (hr : Room 0 (A.deeper (envOfC "members_of" (defScope s_members_of) s.heap.objs.size f cdv))) :
    DSs Pm (cxOf (L2.CX P w) P w Pm.K mg base N_members_of "members_of" (defScope s_members_of) f cdv A outer s H E) false (fun c d _ H => E c d H) [] [] [] [3, 2] (defBody s_members_of) m_members_of :=
  (dss_cons (s_par3 2 3 4 sc_members_of.nd (dm_new df_dct (dm_new df_dct (dm_val (de_heap (df_lst (da_cons (de_var 1) da_nil))) dm_nil))))
    (dss_cons (ds_while 1099511627776 (passes_of rfl) (dt_cmp (op_ne2 (room64 hr)) v_ne (db_var 4) (DE.b (de_lst da_nil)) (by rfl)) (dss_one (s_for (vs := [5]) (passes_of rfl) (di_sq rfl (de_get rfl (room1 hr) (db_var 0) (DE.b (de_hpop (de_var 4))))) (dg_name 5 sc_members_of.nd) (dss_one (ds_if (dt_cmp (op_in5 (room65 hr)) v_in (db_var 5) (db_var 0) (by rfl)) (dss_one (ds_if (dt_cmp (op_notIn5 (room65 hr)) v_notIn (db_var 5) (db_var 3) (by rfl)) (dss_cons (s_put 3 (room1 hr) (db_var 5) de_bl)
    (dss_one (ds_expr (DE.b (de_happ (de_var 4) (de_var 5)))))) dss_nil)) (dss_one (s_put 2 (room1 hr) (db_var 5) de_bl)))))))
    (dss_one (ds_ret (de_tup (da_cons (de_callTy call_tuple_of v_tuple (by rfl) T.tuple bt_tuple (dab_cons (DE.b (de_callB (call_sortedD rfl) v_sortK (by rfl) T.sorted bt_sorted (dab_cons (db_var 2) dab_nil))) dab_nil)) (da_cons (de_callTy call_tuple_of v_tuple (by rfl) T.tuple bt_tuple (dab_cons (DE.b (de_callB (call_sortedD rfl) v_sortK (by rfl) T.sorted bt_sorted (dab_cons (db_var 3) dab_nil))) dab_nil)) da_nil)))))))
theorem ok_members_of {f : Addr} {fd : FuncData} (F : Fun Pm.K "members_of" "members_of" s_members_of f fd) (T : G mg)  : FnOk P w Pm.K mg base (L2.CX P w) 1 f fd ["groups", "name"] (spD Pm false 2 f_members_of) :=
  fn_ok F sc_members_of fun cdv A outer s H E hr => d_members_of T  cdv A outer s H E hr
set_option maxHeartbeats 0 in
theorem d_names_of {f : Addr} (T : G mg) (F_members_of : FnD Pm P w mg base false 1 "members_of" ["groups", "name"] f_members_of) (cdv : Value) (A : Around) (outer : List Env) (s : Shared) (H : Hp) (E : XK) (hr : Room 1 (A.deeper (envOfC "names_of" (defScope s_names_of) s.heap.objs.size f cdv))) :
    DSs Pm (cxOf (L2.CX P w) P w Pm.K mg base N_names_of "names_of" (defScope s_names_of) f cdv A outer s H E) false (fun c d _ H => E c d H) [] [] [] [] (defBody s_names_of) m_names_of :=
  (dss_one (ds_ret (de_callTy call_tuple_of v_tuple (by rfl) T.tuple bt_tuple (dab_cons (DE.b (de_callB (cr_sortG (room65 hr)) v_sorted (by rfl) T.sorted bt_sorted (dab_cons (DE.b (de_op op_add4 v_add (DE.b (de_lst (da_cons (de_var 1) da_nil))) (DE.b (DF.de (df_compK 0 (own := [("name", 2)]) rfl sc_names_of.nd (blkOk_by (own := [("name", 2)]) (N := N_names_of) (sc := defScope s_names_of) (by decide +kernel)) (fun _ _ _ _ _ => (dg_name 2 sc_names_of.nd)) (fun _ _ _ _ _ => (dts_one (dt_cmp (op_in5 (room65 hr)) v_in (db_var 1) (DE.b (de_get rfl (room1 hr) (DE.b (de_call F_members_of rfl (hr.mono (by decide)) takes0 (by rfl) (da_cons (de_var 0) (da_cons (de_var 2) da_nil)))) (DE.b de_int))) (by rfl)))) (fun _ _ _ _ _ => (de_var 2))))))) dab_nil))) dab_nil))))
theorem ok_names_of {f : Addr} {fd : FuncData} (F : Fun Pm.K "names_of" "names_of" s_names_of f fd) (T : G mg) (F_members_of : FnD Pm P w mg base false 1 "members_of" ["groups", "name"] f_members_of) : FnOk P w Pm.K mg base (L2.CX P w) 2 f fd ["groups", "person"] (spD Pm false 2 f_names_of) :=
  fn_ok F sc_names_of fun cdv A outer s H E hr => d_names_of T F_members_of cdv A outer s H E hr
set_option maxHeartbeats 0 in
theorem d_paths_above {f : Addr} (T : G mg)  (cdv : Value) (A : Around) (outer : List Env) (s : Shared) (H : Hp) (E : XK) (hr : Room 0 (A.deeper (envOfC "paths_above" (defScope s_paths_above) s.heap.objs.size f cdv))) :
    DSs Pm (cxOf (L2.CX P w) P w Pm.K mg base N_paths_above "paths_above" (defScope s_paths_above) f cdv A outer s H E) false (fun c d _ H => E c d H) [] [] [] [] (defBody s_paths_above) m_paths_above :=
  (dss_cons (s_set 1 sc_paths_above.nd (de_if (dt_cmp (op_ne2 (room64 hr)) v_ne (db_var 0) (DE.b de_str) (by rfl)) (de_m1 PySem.F.slot_str_split PySem.F.type_str_split mt_split v_split (db_var 0) (DE.b de_str)) (de_lst da_nil)))
    (dss_one (ds_ret (de_callTy call_tuple_of v_tuple (by rfl) T.tuple bt_tuple (dab_cons (DE.b (DF.de (df_comp (own := [("k", 2)]) rfl sc_paths_above.nd (di_range3 (by rfl) T.range (dab_cons (DE.b (de_callB call_len2 v_len (by rfl) T.len bt_len (dab_cons (db_var 1) dab_nil))) (dab_cons (DE.b (de_un un_neg v_neg (DE.b de_int))) (dab_cons (DE.b (de_un un_neg v_neg (DE.b de_int))) dab_nil)))) (blkOk_by (own := [("k", 2)]) (N := N_paths_above) (sc := defScope s_paths_above) (by decide +kernel)) (fun _ _ _ _ _ => (dg_name 2 sc_paths_above.nd)) (fun _ _ _ _ _ => dts_nil) (fun _ _ _ _ _ => (de_m1 PySem.F.slot_str_join PySem.F.type_str_join mt_join v_join (DE.b de_str) (DE.b (de_slice rfl (db_var 1) do_none (do_some (db_var 2))))))))) dab_nil)))))
theorem ok_paths_above {f : Addr} {fd : FuncData} (F : Fun Pm.K "paths_above" "paths_above" s_paths_above f fd) (T : G mg)  : FnOk P w Pm.K mg base (L2.CX P w) 1 f fd ["path"] (spD Pm false 1 f_paths_above) :=
  fn_ok F sc_paths_above fun cdv A outer s H E hr => d_paths_above T  cdv A outer s H E hr
set_option maxHeartbeats 0 in
theorem d_may {f : Addr} (T : G mg) (F_names_of : FnD Pm P w mg base false 2 "names_of" ["groups", "person"] f_names_of) (F_paths_above : FnD Pm P w mg base false 1 "paths_above" ["path"] f_paths_above) (C_WORDS : ConstT Pm mg "WORDS" c_WORDS) (cdv : Value) (A : Around) (outer : List Env) (s : Shared) (H : Hp) (E : XK) (hr : Room 2 (A.deeper (envOfC "may" (defScope s_may) s.heap.objs.size f cdv))) :
    DSs Pm (cxOf (L2.CX P w) P w Pm.K mg base N_may "may" (defScope s_may) f cdv A outer s H E) false (fun c d _ H => E c d H) [] [] [] [] (defBody s_may) m_may :=
  (dss_cons (ds_if (dt_cmp (op_notIn5 (room65 hr)) v_notIn (db_var 3) (DE.b (de_constC C_WORDS rfl (by rfl))) (by rfl)) (dss_one ds_nev) dss_nil)
    (dss_cons (s_set 5 sc_may.nd (de_call F_names_of rfl (hr.mono (by decide)) (takes_of rfl rfl rfl rfl) (by rfl) (da_cons (de_var 0) (da_cons (de_var 2) da_nil))))
    (dss_cons (s_for (vs := [6]) (passes_of rfl) (di_sq rfl (de_call F_paths_above rfl (hr.mono (by decide)) (takes_of rfl rfl rfl rfl) (by rfl) (da_cons (de_var 4) da_nil))) (dg_name 6 sc_may.nd) (dss_cons (s_setLc 7 (own := [("rule", 8)]) sc_may.nd (di_sqC rfl (db_var 1)) (blkOk_by (own := [("rule", 8)]) (N := N_may) (sc := defScope s_may) (by decide +kernel)) (fun _ _ _ _ _ => (dg_name 8 sc_may.nd)) (fun _ _ _ _ _ => (dts_one (DW.dt (dw_and (dt_cmp (op_in5 (room65 hr)) v_in (DE.b (de_get rfl (room1 hr) (db_var 8) (DE.b de_int))) (db_var 5) (by rfl)) (dw_and (dt_cmp (op_eq2 (room64 hr)) v_eq (DE.b (de_get rfl (room1 hr) (db_var 8) (DE.b de_int))) (db_var 3) (by rfl)) (dw_and1 (dt_cmp (op_eq2 (room64 hr)) v_eq (DE.b (de_get rfl (room1 hr) (db_var 8) (DE.b de_int))) (db_var 6) (by rfl)))))))) (fun _ _ _ _ _ => (de_get rfl (room1 hr) (db_var 8) (DE.b de_int))))
    (dss_one (ds_if (dt_cmp (op_ne2 (room64 hr)) v_ne (db_var 7) (DE.b (de_lst da_nil)) (by rfl)) (dss_one (ds_ret (de_callB (cr_all rfl) v_all (by rfl) T.all bt_all (dab_cons (db_var 7) dab_nil)))) dss_nil))))
    (dss_one (ds_ret de_bl)))))
theorem ok_may {f : Addr} {fd : FuncData} (F : Fun Pm.K "may" "may" s_may f fd) (T : G mg) (F_names_of : FnD Pm P w mg base false 2 "names_of" ["groups", "person"] f_names_of) (F_paths_above : FnD Pm P w mg base false 1 "paths_above" ["path"] f_paths_above) (C_WORDS : ConstT Pm mg "WORDS" c_WORDS) : FnOk P w Pm.K mg base (L2.CX P w) 3 f fd ["groups", "rules", "person", "word", "path"] (spD Pm false 5 f_may) :=
  fn_ok F sc_may fun cdv A outer s H E hr => d_may T F_names_of F_paths_above C_WORDS cdv A outer s H E hr
set_option maxHeartbeats 0 in
theorem d_law {f : Addr} (T : G mg) (F__law_rounds : FnD Pm P w mg base false 2 "_law_rounds" ["script", "most"] f__law_rounds) (F__law_groups : FnD Pm P w mg base false 2 "_law_groups" ["dice"] f__law_groups) (F__law_rules : FnD Pm P w mg base false 2 "_law_rules" ["dice"] f__law_rules) (F__law_roll : FnD Pm P w mg base false 1 "_law_roll" ["dice", "many"] f__law_roll) (F_members_of : FnD Pm P w mg base false 1 "members_of" ["groups", "name"] f_members_of) (F_may : FnD Pm P w mg base false 3 "may" ["groups", "rules", "person", "word", "path"] f_may) (F_paths_above : FnD Pm P w mg base false 1 "paths_above" ["path"] f_paths_above) (cdv : Value) (A : Around) (outer : List Env) (s : Shared) (H : Hp) (E : XK) (hr : Room 3 (A.deeper (envOfC "law" (defScope s_law) s.heap.objs.size f cdv))) :
    DSs Pm (cxOf (L2.CX P w) P w Pm.K mg base N_law "law" (defScope s_law) f cdv A outer s H E) false (fun c d _ H => E c d H) [] [] [] [] (defBody s_law) m_law :=
  (dss_cons (s_for (vs := [1]) (passes_of rfl) (di_sq rfl (de_call F__law_rounds rfl (hr.mono (by decide)) (takes_of rfl rfl rfl rfl) (by rfl) (da_cons (de_var 0) (da_cons de_int da_nil)))) (dg_name 1 sc_law.nd) (dss_cons (s_parT (dgn_cons 3 sc_law.nd (dgn_cons 4 sc_law.nd dgn_nil)) (dm_val (de_call F__law_groups rfl (hr.mono (by decide)) (takes_of rfl rfl rfl rfl) (by rfl) (da_cons (de_var 1) da_nil)) (dm_val (de_slice rfl (DE.b (de_call F__law_rules rfl (hr.mono (by decide)) (takes_of rfl rfl rfl rfl) (by rfl) (da_cons (de_var 1) da_nil))) do_none (do_some (DE.b de_int))) dm_nil)))
    (dss_cons (s_parT (dgn_cons 5 sc_law.nd (dgn_cons 6 sc_law.nd (dgn_cons 7 sc_law.nd dgn_nil))) (dm_val (de_get rfl (room1 hr) (DE.b (de_lst (da_cons de_str (da_cons de_str (da_cons de_str da_nil))))) (DE.b (de_call F__law_roll rfl (hr.mono (by decide)) (takes_of rfl rfl rfl rfl) (by rfl) (da_cons (de_var 1) (da_cons de_int da_nil))))) (dm_val (de_get rfl (room1 hr) (DE.b (de_lst (da_cons de_str (da_cons de_str da_nil)))) (DE.b (de_call F__law_roll rfl (hr.mono (by decide)) (takes_of rfl rfl rfl rfl) (by rfl) (da_cons (de_var 1) (da_cons de_int da_nil))))) (dm_val (de_get rfl (room1 hr) (DE.b (de_lst (da_cons de_str (da_cons de_str (da_cons de_str da_nil))))) (DE.b (de_call F__law_roll rfl (hr.mono (by decide)) (takes_of rfl rfl rfl rfl) (by rfl) (da_cons (de_var 1) (da_cons de_int da_nil))))) dm_nil))))
    (dss_cons (s_par2 8 9 sc_law.nd (dm_val (de_op op_add4 v_add (db_var 4) (DE.b (de_tup (da_cons (de_tup (da_cons (de_var 5) (da_cons (de_var 6) (da_cons (de_var 7) (da_cons de_bl da_nil))))) da_nil)))) (dm_val (de_op op_add4 v_add (db_var 4) (DE.b (de_tup (da_cons (de_tup (da_cons (de_var 5) (da_cons (de_var 6) (da_cons (de_var 7) (da_cons de_bl da_nil))))) da_nil)))) dm_nil)))
    (dss_one (s_for (vs := [2]) (passes_of rfl) (di_sq rfl (de_lst (da_cons de_str (da_cons de_str da_nil)))) (dg_name 2 sc_law.nd) (dss_cons (s_set 10 sc_law.nd (de_or (DE.b (de_cmp (op_eq2 (room64 hr)) v_eq (db_var 5) (db_var 2) (by rfl))) (de_one (de_and (DE.b (de_cmp (op_in5 (room65 hr)) v_in (db_var 5) (db_var 3) (by rfl))) (de_one (de_cmp (op_in5 (room65 hr)) v_in (db_var 2) (DE.b (de_get rfl (room1 hr) (DE.b (de_call F_members_of rfl (hr.mono (by decide)) (takes_of rfl rfl rfl rfl) (by rfl) (da_cons (de_var 3) (da_cons (de_var 5) da_nil)))) (DE.b de_int))) (by rfl)))))))
    (dss_one (s_for (vs := [11]) (passes_of rfl) (di_sq rfl (de_lst (da_cons de_str (da_cons de_str (da_cons de_str (da_cons de_str da_nil)))))) (dg_name 11 sc_law.nd) (dss_cons (s_set 12 sc_law.nd (de_call F_may rfl (hr.mono (by decide)) (takes_of rfl rfl rfl rfl) (by rfl) (da_cons (de_var 3) (da_cons (de_var 4) (da_cons (de_var 2) (da_cons (de_var 6) (da_cons (de_var 11) da_nil)))))))
    (dss_cons (ds_if (DW.dt (dw_or (DW.dt (dw_and (dt_val (de_var 12)) (dw_and1 (dt_not (dt_val (de_call F_may rfl (hr.mono (by decide)) (takes_of rfl rfl rfl rfl) (by rfl) (da_cons (de_var 3) (da_cons (de_var 8) (da_cons (de_var 2) (da_cons (de_var 6) (da_cons (de_var 11) da_nil))))))))))) (dw_or1 (DW.dt (dw_and (dt_not (dt_val (de_var 12))) (dw_and1 (dt_val (de_call F_may rfl (hr.mono (by decide)) (takes_of rfl rfl rfl rfl) (by rfl) (da_cons (de_var 3) (da_cons (de_var 9) (da_cons (de_var 2) (da_cons (de_var 6) (da_cons (de_var 11) da_nil))))))))))))) (dss_one (ds_ret de_bl)) dss_nil)
    (dss_cons (ds_if (DW.dt (dw_and (dt_not (dt_val (de_var 10))) (dw_and1 (dt_cmp (op_ne2 (room64 hr)) v_ne (DE.b (de_call F_may rfl (hr.mono (by decide)) (takes_of rfl rfl rfl rfl) (by rfl) (da_cons (de_var 3) (da_cons (de_var 9) (da_cons (de_var 2) (da_cons (de_var 6) (da_cons (de_var 11) da_nil))))))) (db_var 12) (by rfl))))) (dss_one (ds_ret de_bl)) dss_nil)
    (dss_cons (ds_if (DW.dt (dw_or (dt_cmp (op_ne2 (room64 hr)) v_ne (DE.b (de_call F_may rfl (hr.mono (by decide)) (takes_of rfl rfl rfl rfl) (by rfl) (da_cons (de_var 3) (da_cons (de_op op_add4 v_add (db_var 4) (db_var 4)) (da_cons (de_var 2) (da_cons (de_var 6) (da_cons (de_var 11) da_nil))))))) (db_var 12) (by rfl)) (dw_or1 (dt_cmp (op_ne2 (room64 hr)) v_ne (DE.b (de_call F_may rfl (hr.mono (by decide)) (takes_of rfl rfl rfl rfl) (by rfl) (da_cons (de_var 3) (da_cons (de_revT rfl (by rfl) T.tuple (by rfl) T.reversed (db_var 4)) (da_cons (de_var 2) (da_cons (de_var 6) (da_cons (de_var 11) da_nil))))))) (db_var 12) (by rfl))))) (dss_one (ds_ret de_bl)) dss_nil)
    (dss_cons (s_set 13 sc_law.nd (de_op op_add4 v_add (DE.b (de_lst (da_cons (de_var 2) da_nil))) (DE.b (DF.de (df_compK 3 (own := [("group", 16)]) rfl sc_law.nd (blkOk_by (own := [("group", 16)]) (N := N_law) (sc := defScope s_law) (by decide +kernel)) (fun _ _ _ _ _ => (dg_name 16 sc_law.nd)) (fun _ _ _ _ _ => (dts_one (dt_cmp (op_in5 (room65 hr)) v_in (db_var 2) (DE.b (de_get rfl (room1 hr) (DE.b (de_call F_members_of rfl (hr.mono (by decide)) takes0 (by rfl) (da_cons (de_var 3) (da_cons (de_var 16) da_nil)))) (DE.b de_int))) (by rfl)))) (fun _ _ _ _ _ => (de_var 16)))))))
    (dss_cons (s_setLc 14 (own := [("here", 15)]) sc_law.nd (di_sqC rfl (DE.b (de_call F_paths_above rfl (hr.mono (by decide)) (takes_of rfl rfl rfl rfl) (by rfl) (da_cons (de_var 11) da_nil)))) (blkOk_by (own := [("here", 15)]) (N := N_law) (sc := defScope s_law) (by decide +kernel)) (fun _ _ _ _ _ => (dg_name 15 sc_law.nd)) (fun _ _ _ _ _ => (dts_one (dt_cmp (op_ne2 (room64 hr)) v_ne (DE.b (DF.de (df_comp (own := [("rule", 17)]) rfl sc_law.nd (di_sqC rfl (db_var 4)) (blkOk_by (own := [("rule", 17)]) (by rfl)) (fun _ _ _ _ _ => (dg_name 17 sc_law.nd)) (fun _ _ _ _ _ => (dts_one (DW.dt (dw_and (dt_cmp (op_in5 (room65 hr)) v_in (DE.b (de_get rfl (room1 hr) (db_var 17) (DE.b de_int))) (db_var 13) (by rfl)) (dw_and (dt_cmp (op_eq2 (room64 hr)) v_eq (DE.b (de_get rfl (room1 hr) (db_var 17) (DE.b de_int))) (db_var 6) (by rfl)) (dw_and1 (dt_cmp (op_eq2 (room64 hr)) v_eq (DE.b (de_get rfl (room1 hr) (db_var 17) (DE.b de_int))) (db_var 15) (by rfl)))))))) (fun _ _ _ _ _ => (de_var 17))))) (DE.b (de_lst da_nil)) (by rfl)))) (fun _ _ _ _ _ => (de_var 15)))
    (dss_one (ds_if (DW.dt (dw_or (DW.dt (dw_and (dt_cmp (op_eq2 (room64 hr)) v_eq (db_var 14) (DE.b (de_lst da_nil)) (by rfl)) (dw_and1 (dt_val (de_var 12))))) (dw_or1 (DW.dt (dw_and (dt_cmp (op_ne2 (room64 hr)) v_ne (db_var 14) (DE.b (de_lst da_nil)) (by rfl)) (dw_and1 (dt_cmp (op_ne2 (room64 hr)) v_ne (DE.b (de_call F_may rfl (hr.mono (by decide)) (takes_of rfl rfl rfl rfl) (by rfl) (da_cons (de_var 3) (da_cons (de_var 4) (da_cons (de_var 2) (da_cons (de_var 6) (da_cons (de_if (dt_cmp (op_ne2 (room64 hr)) v_ne (DE.b (de_get rfl (room1 hr) (db_var 14) (DE.b de_int))) (DE.b de_str) (by rfl)) (de_get rfl (room1 hr) (db_var 14) (DE.b de_int)) de_str) da_nil))))))) (db_var 12) (by rfl)))))))) (dss_one (ds_ret de_bl)) dss_nil)))))))))))))))))
    (dss_one (ds_ret de_bl)))
theorem ok_law {f : Addr} {fd : FuncData} (F : Fun Pm.K "law" "law" s_law f fd) (T : G mg) (F__law_rounds : FnD Pm P w mg base false 2 "_law_rounds" ["script", "most"] f__law_rounds) (F__law_groups : FnD Pm P w mg base false 2 "_law_groups" ["dice"] f__law_groups) (F__law_rules : FnD Pm P w mg base false 2 "_law_rules" ["dice"] f__law_rules) (F__law_roll : FnD Pm P w mg base false 1 "_law_roll" ["dice", "many"] f__law_roll) (F_members_of : FnD Pm P w mg base false 1 "members_of" ["groups", "name"] f_members_of) (F_may : FnD Pm P w mg base false 3 "may" ["groups", "rules", "person", "word", "path"] f_may) (F_paths_above : FnD Pm P w mg base false 1 "paths_above" ["path"] f_paths_above) : FnOk P w Pm.K mg base (L2.CX P w) 4 f fd ["script"] (spD Pm false 1 f_law) :=
  fn_ok F sc_law fun cdv A outer s H E hr => d_law T F__law_rounds F__law_groups F__law_rules F__law_roll F_members_of F_may F_paths_above cdv A outer s H E hr
end
theorem all_mk {l : PySem.W.OpenLaw} {w : World} {K : PySem.W.Frag} {h : Heap} {mg : Str → Option Value} {fa a0 a1 a2 a3 a4 a5 a6 a7 a8 a9 aWORDS : Addr} (X : K.In h) (G0 : h.Ns mainGlobals mg) (hfa : mg "law" = some (.ref fa))
    {od0 an0 od1 an1 od2 an2 od3 an3 od4 an4 od5 an5 od6 an6 od7 an7 od8 an8 od9 an9 : Option Addr} {sl0 sl1 sl2 sl3 sl4 sl5 sl6 sl7 sl8 sl9 : Array (Option Value)} {oc0 kV0 dc0 pm0 cd0 ct0 oc1 kV1 dc1 pm1 cd1 ct1 oc2 kV2 dc2 pm2 cd2 ct2 oc3 kV3 dc3 pm3 cd3 ct3 oc4 kV4 dc4 pm4 cd4 ct4 oc5 kV5 dc5 pm5 cd5 ct5 oc6 kV6 dc6 pm6 cd6 ct6 oc7 kV7 dc7 pm7 cd7 ct7 oc8 kV8 dc8 pm8 cd8 ct8 oc9 kV9 dc9 pm9 cd9 ct9 : Value} {tWORDS0 tWORDS1 tWORDS2 : Tok} {odWORDS : Option Addr} {epWORDS : Nat} {slWORDS : Array (Option Value)}
    (n0 : PySem.W.nsIn K mainGlobals "_law_dice" = some (some (.ref a0)))
    (l0 : K.lookup a0 = some ⟨oc0, od0, .func (PySem.W.fnOf "_law_dice" "_law_dice" (defArgs s__law_dice) (defBody s__law_dice) (defScope s__law_dice) .none kV0 dc0 pm0 an0 cd0 ct0), sl0⟩)
    (c0 : PySem.W.codeIn K cd0 "_law_dice" = true) (k0 : PySem.W.keepIn K (.ref a0) = true)
    (n1 : PySem.W.nsIn K mainGlobals "_law_rounds" = some (some (.ref a1)))
    (l1 : K.lookup a1 = some ⟨oc1, od1, .func (PySem.W.fnOf "_law_rounds" "_law_rounds" (defArgs s__law_rounds) (defBody s__law_rounds) (defScope s__law_rounds) .none kV1 dc1 pm1 an1 cd1 ct1), sl1⟩)
    (c1 : PySem.W.codeIn K cd1 "_law_rounds" = true) (k1 : PySem.W.keepIn K (.ref a1) = true)
    (n2 : PySem.W.nsIn K mainGlobals "_law_roll" = some (some (.ref a2)))
    (l2 : K.lookup a2 = some ⟨oc2, od2, .func (PySem.W.fnOf "_law_roll" "_law_roll" (defArgs s__law_roll) (defBody s__law_roll) (defScope s__law_roll) .none kV2 dc2 pm2 an2 cd2 ct2), sl2⟩)
    (c2 : PySem.W.codeIn K cd2 "_law_roll" = true) (k2 : PySem.W.keepIn K (.ref a2) = true)
    (n3 : PySem.W.nsIn K mainGlobals "_law_groups" = some (some (.ref a3)))
    (l3 : K.lookup a3 = some ⟨oc3, od3, .func (PySem.W.fnOf "_law_groups" "_law_groups" (defArgs s__law_groups) (defBody s__law_groups) (defScope s__law_groups) .none kV3 dc3 pm3 an3 cd3 ct3), sl3⟩)
    (c3 : PySem.W.codeIn K cd3 "_law_groups" = true) (k3 : PySem.W.keepIn K (.ref a3) = true)
    (n4 : PySem.W.nsIn K mainGlobals "_law_rules" = some (some (.ref a4)))
    (l4 : K.lookup a4 = some ⟨oc4, od4, .func (PySem.W.fnOf "_law_rules" "_law_rules" (defArgs s__law_rules) (defBody s__law_rules) (defScope s__law_rules) .none kV4 dc4 pm4 an4 cd4 ct4), sl4⟩)
    (c4 : PySem.W.codeIn K cd4 "_law_rules" = true) (k4 : PySem.W.keepIn K (.ref a4) = true)
    (n5 : PySem.W.nsIn K mainGlobals "members_of" = some (some (.ref a5)))
    (l5 : K.lookup a5 = some ⟨oc5, od5, .func (PySem.W.fnOf "members_of" "members_of" (defArgs s_members_of) (defBody s_members_of) (defScope s_members_of) .none kV5 dc5 pm5 an5 cd5 ct5), sl5⟩)
    (c5 : PySem.W.codeIn K cd5 "members_of" = true) (k5 : PySem.W.keepIn K (.ref a5) = true)
    (n6 : PySem.W.nsIn K mainGlobals "names_of" = some (some (.ref a6)))
    (l6 : K.lookup a6 = some ⟨oc6, od6, .func (PySem.W.fnOf "names_of" "names_of" (defArgs s_names_of) (defBody s_names_of) (defScope s_names_of) .none kV6 dc6 pm6 an6 cd6 ct6), sl6⟩)
    (c6 : PySem.W.codeIn K cd6 "names_of" = true) (k6 : PySem.W.keepIn K (.ref a6) = true)
    (n7 : PySem.W.nsIn K mainGlobals "paths_above" = some (some (.ref a7)))
    (l7 : K.lookup a7 = some ⟨oc7, od7, .func (PySem.W.fnOf "paths_above" "paths_above" (defArgs s_paths_above) (defBody s_paths_above) (defScope s_paths_above) .none kV7 dc7 pm7 an7 cd7 ct7), sl7⟩)
    (c7 : PySem.W.codeIn K cd7 "paths_above" = true) (k7 : PySem.W.keepIn K (.ref a7) = true)
    (n8 : PySem.W.nsIn K mainGlobals "may" = some (some (.ref a8)))
    (l8 : K.lookup a8 = some ⟨oc8, od8, .func (PySem.W.fnOf "may" "may" (defArgs s_may) (defBody s_may) (defScope s_may) .none kV8 dc8 pm8 an8 cd8 ct8), sl8⟩)
    (c8 : PySem.W.codeIn K cd8 "may" = true) (k8 : PySem.W.keepIn K (.ref a8) = true)
    (n9 : PySem.W.nsIn K mainGlobals "law" = some (some (.ref a9)))
    (l9 : K.lookup a9 = some ⟨oc9, od9, .func (PySem.W.fnOf "law" "law" (defArgs s_law) (defBody s_law) (defScope s_law) .none kV9 dc9 pm9 an9 cd9 ct9), sl9⟩)
    (c9 : PySem.W.codeIn K cd9 "law" = true) (k9 : PySem.W.keepIn K (.ref a9) = true)
    (nWORDS : PySem.W.nsIn K mainGlobals "WORDS" = some (some (.ref aWORDS)))
    (lWORDS : K.lookup aWORDS = some ⟨.type "tuple", odWORDS, .seq #[.str ("read" : Str) tWORDS0, .str ("write" : Str) tWORDS1, .str ("own" : Str) tWORDS2] epWORDS, slWORDS⟩)
    (z_abs : PySem.W.nsIn K mainGlobals "abs" = some none)
    (z_all : PySem.W.nsIn K mainGlobals "all" = some none)
    (z_int : PySem.W.nsIn K mainGlobals "int" = some none)
    (z_len : PySem.W.nsIn K mainGlobals "len" = some none)
    (z_range : PySem.W.nsIn K mainGlobals "range" = some none)
    (z_reversed : PySem.W.nsIn K mainGlobals "reversed" = some none)
    (z_sorted : PySem.W.nsIn K mainGlobals "sorted" = some none)
    (z_tuple : PySem.W.nsIn K mainGlobals "tuple" = some none) :
    ∃ fd : FuncData, (∀ (s : Shared) (v : Value), BindsTo s fd ⟨[v], []⟩ [("script", v)]) ∧ ∀ base : Heap, K.In base → base.Ns mainGlobals mg → FnOk l.prog w K mg base (L2.CX l.prog w) 4 fa fd ["script"] (spD ⟨K, fun _ => 0, fun _ => .none⟩ false 1 f_law) := by
  have e := hfa.symm.trans (PySem.W.mg_of X G0 n9)
  cases e
  have T : G mg := ⟨PySem.W.mg_none_of X G0 z_abs, PySem.W.mg_none_of X G0 z_all, PySem.W.mg_none_of X G0 z_int, PySem.W.mg_none_of X G0 z_len, PySem.W.mg_none_of X G0 z_range, PySem.W.mg_none_of X G0 z_reversed, PySem.W.mg_none_of X G0 z_sorted, PySem.W.mg_none_of X G0 z_tuple⟩
  let Q : Pm := ⟨K, fun _ => 0, fun _ => .none⟩
  have F0 : Fun Q.K "_law_dice" "_law_dice" s__law_dice a0 _ := fun_mk (st := s__law_dice) l0 c0 k0
  have b0 := F0.binds (ps := ["cell"]) fun _ _ _ _ _ _ us hl => match us, hl with | [_], _ => rfl
  have F1 : Fun Q.K "_law_rounds" "_law_rounds" s__law_rounds a1 _ := fun_mk (st := s__law_rounds) l1 c1 k1
  have b1 := F1.binds (ps := ["script", "most"]) fun _ _ _ _ _ _ us hl => match us, hl with | [_, _], _ => rfl
  have F2 : Fun Q.K "_law_roll" "_law_roll" s__law_roll a2 _ := fun_mk (st := s__law_roll) l2 c2 k2
  have b2 := F2.binds (ps := ["dice", "many"]) fun _ _ _ _ _ _ us hl => match us, hl with | [_, _], _ => rfl
  have F3 : Fun Q.K "_law_groups" "_law_groups" s__law_groups a3 _ := fun_mk (st := s__law_groups) l3 c3 k3
  have b3 := F3.binds (ps := ["dice"]) fun _ _ _ _ _ _ us hl => match us, hl with | [_], _ => rfl
  have F4 : Fun Q.K "_law_rules" "_law_rules" s__law_rules a4 _ := fun_mk (st := s__law_rules) l4 c4 k4
  have b4 := F4.binds (ps := ["dice"]) fun _ _ _ _ _ _ us hl => match us, hl with | [_], _ => rfl
  have F5 : Fun Q.K "members_of" "members_of" s_members_of a5 _ := fun_mk (st := s_members_of) l5 c5 k5
  have b5 := F5.binds (ps := ["groups", "name"]) fun _ _ _ _ _ _ us hl => match us, hl with | [_, _], _ => rfl
  have F6 : Fun Q.K "names_of" "names_of" s_names_of a6 _ := fun_mk (st := s_names_of) l6 c6 k6
  have b6 := F6.binds (ps := ["groups", "person"]) fun _ _ _ _ _ _ us hl => match us, hl with | [_, _], _ => rfl
  have F7 : Fun Q.K "paths_above" "paths_above" s_paths_above a7 _ := fun_mk (st := s_paths_above) l7 c7 k7
  have b7 := F7.binds (ps := ["path"]) fun _ _ _ _ _ _ us hl => match us, hl with | [_], _ => rfl
  have F8 : Fun Q.K "may" "may" s_may a8 _ := fun_mk (st := s_may) l8 c8 k8
  have b8 := F8.binds (ps := ["groups", "rules", "person", "word", "path"]) fun _ _ _ _ _ _ us hl => match us, hl with | [_, _, _, _, _], _ => rfl
  have F9 : Fun Q.K "law" "law" s_law fa _ := fun_mk (st := s_law) l9 c9 k9
  refine ⟨PySem.W.fnOf "law" "law" (defArgs s_law) (defBody s_law) (defScope s_law) .none kV9 dc9 pm9 an9 cd9 ct9, fun s v => .of_eq rfl, fun base _ _ => ?_⟩
  have K_WORDS : ConstT Q mg "WORDS" c_WORDS := ⟨aWORDS, [V.str ("read" : Str), V.str ("write" : Str), V.str ("own" : Str)], PySem.W.mg_of X G0 nWORDS, ⟨_, _, _, lWORDS, rfl, rfl, by show 3 ≤ sizeLine; decide, (.cons ⟨_, rfl⟩ (.cons ⟨_, rfl⟩ (.cons ⟨_, rfl⟩ .nil)))⟩, fun ρ B H => (RVs.cons mk_str (RVs.cons mk_str (RVs.cons mk_str RVs.nil)))⟩
  have D0 : FnD Q l.prog w mg base false 1 "_law_dice" ["cell"] f__law_dice := fnd (ok__law_dice F0 T ) F0 (PySem.W.mg_of X G0 n0) b0
  have D1 : FnD Q l.prog w mg base false 2 "_law_rounds" ["script", "most"] f__law_rounds := fnd (ok__law_rounds F1 T D0) F1 (PySem.W.mg_of X G0 n1) b1
  have D2 : FnD Q l.prog w mg base false 1 "_law_roll" ["dice", "many"] f__law_roll := fnd (ok__law_roll F2 T ) F2 (PySem.W.mg_of X G0 n2) b2
  have D3 : FnD Q l.prog w mg base false 2 "_law_groups" ["dice"] f__law_groups := fnd (ok__law_groups F3 T D2) F3 (PySem.W.mg_of X G0 n3) b3
  have D4 : FnD Q l.prog w mg base false 2 "_law_rules" ["dice"] f__law_rules := fnd (ok__law_rules F4 T D2) F4 (PySem.W.mg_of X G0 n4) b4
  have D5 : FnD Q l.prog w mg base false 1 "members_of" ["groups", "name"] f_members_of := fnd (ok_members_of F5 T ) F5 (PySem.W.mg_of X G0 n5) b5
  have D6 : FnD Q l.prog w mg base false 2 "names_of" ["groups", "person"] f_names_of := fnd (ok_names_of F6 T D5) F6 (PySem.W.mg_of X G0 n6) b6
  have D7 : FnD Q l.prog w mg base false 1 "paths_above" ["path"] f_paths_above := fnd (ok_paths_above F7 T ) F7 (PySem.W.mg_of X G0 n7) b7
  have D8 : FnD Q l.prog w mg base false 3 "may" ["groups", "rules", "person", "word", "path"] f_may := fnd (ok_may F8 T D6 D7 K_WORDS) F8 (PySem.W.mg_of X G0 n8) b8
  exact ok_law F9 T D1 D3 D4 D2 D5 D8 D7
theorem walk {l : PySem.W.OpenLaw} {q : Program} {loose : List Str} {XP : (Str → Option Value) → Heap → Prop} {YP : World → Heap → Prop} {d : DefRec} {K : Params → PySem.W.Frag} (hL : Law 63 f_law) (hn : l.most = some 63) (hdf : d.params.defaults = [])
    (hY : ∀ (w : World) (h : Heap), YP w h → (K w.params).In h)
    (F : ∀ (w : World) (mg : Str → Option Value) (fa : Addr) (h : Heap), (K w.params).In h → h.Ns mainGlobals mg → mg d.name = some (.ref fa) →
      ∃ fd : FuncData, (∀ (s : Shared) (u : Value), BindsTo s fd ⟨[u], []⟩ [("script", u)]) ∧ ∀ base : Heap, (K w.params).In base → base.Ns mainGlobals mg → FnOk l.prog w (K w.params) mg base (L2.CX l.prog w) 4 fa fd ["script"] (spD ⟨K w.params, fun _ => 0, fun _ => .none⟩ false 1 f_law)) :
    PySem.W.WalkO q loose XP YP l.row.toRowW d [] (fun f vs => PySem.call f vs) :=
  L2.walk_of (n := 63) (k := 4) (x := "script") (CX := fun w => L2.CX l.prog w) (sp := fun w => spD ⟨K w.params, fun _ => 0, fun _ => .none⟩ false 1 f_law) hn (by decide) hdf ⟨rfl, by decide, by decide⟩ hY F (fun w H a ns hl hO hS => law_sp (Pm := ⟨K w.params, fun _ => 0, fun _ => .none⟩) hL hl hO hS) fun _ _ _ _ _ ⟨_, _, _, _, _, _, _, _, _, _, _, _, z⟩ => z
end K29
end

section
namespace K29
open PySem (Str)
open D
abbrev S (s : Str) : AV := .str s
def gG (r1 r2 r3 : List Str) : List (AV × AV) := [(.str "gods", .tup (r1.map .str)), (.str "men", .tup (r2.map .str)), (.str "all", .tup (r3.map .str))]
abbrev St := List (AV × AV) × List (AV × AV) × List AV
def inStep (G : List (AV × AV)) (st : Option St) (one : Str) : Option St := st.bind fun (pe, inn, left) =>
  if pe.length < 60 ∧ inn.length < 60 ∧ left.length < 60 then
    some (if (dlook G (.str one)).isSome then (if (dlook inn (.str one)).isSome then (pe, inn, left) else (pe, dput inn (.str one) (.bl true), left ++ [.str one])) else (dput pe (.str one) (.bl true), inn, left))
  else none
def memL (G : List (AV × AV)) (x : AV) : Option (List Str) := match dlook G x with
  | some (.tup xs) => strsA xs
  | _ => none
def outStep (G : List (AV × AV)) (st : St) : Option St := match st.2.2.getLast? with
  | some (.str x) => (memL G (.str x)).bind fun ms => ms.foldl (inStep G) (some (st.1, st.2.1, st.2.2.dropLast))
  | _ => none
def run (G : List (AV × AV)) : Nat → St → Option St
  | 0, _ => none
  | n + 1, st => if st.2.2.isEmpty then some st else if st.2.2.all (AV.dl 49) then (outStep G st).bind (run G n) else none
def bdy : SV := ifS (bin inD (varD 5) (varD 0)) (ifS (bin notInD (varD 5) (varD 3)) (seqS (putS 3 (varD 5) (cD (.bl true))) (exprS (happD (varD 4) (varD 5)))) nxS) (putS 2 (varD 5) (cD (.bl true)))
def whl : SV := forS (nameT 5) (itD (bin getV (varD 0) (hpopD (varD 4)))) bdy
theorem m_members_eq : m_members_of = (seqS (parS [2, 3, 4] [(cD (.dct [])), (cD (.dct [])), (heapL (lstD [(varD 1)]))])
  (seqS (whileS 1099511627776 (bin neV (varD 4) (lstD [])) whl)
  (retS (tupD [(callD tupleF [(callD sortKF [(varD 2)])]), (callD tupleF [(callD sortKF [(varD 3)])])])))) := rfl
abbrev ms (G : List (AV × AV)) (g : AV) (st : St) (h0 : AH) (x5 : Option AV) : AS := [some (.dct G), some g, some (.dct st.1), some (.dct st.2.1), some (.ref h0.length), x5]
theorem in_dct (s : Str) (G : List (AV × AV)) (h : AH) : inD (.str s) (.dct G) h = .ok (.bl (dlook G (.str s)).isSome) h := rfl
theorem notIn_dct (s : Str) (G : List (AV × AV)) (h : AH) : notInD (.str s) (.dct G) h = .ok (.bl (!(dlook G (.str s)).isSome)) h := rfl
theorem set_last {h0 : AH} {x y : AO} : (h0 ++ [x]).set h0.length y = h0 ++ [y] := by simp
theorem get_last {h0 : AH} {x : AO} : (h0 ++ [x])[h0.length]? = some x := by simp
theorem lim60 {n : Nat} (h : n < 60) : n < LIM := by unfold LIM; omega
theorem loop_ok (G : List (AV × AV)) (g : AV) (h0 : AH) : ∀ (l : List Str) (st st' : St) (x5 : Option AV), l.foldl (inStep G) (some st) = some st' → ∃ x5', forL (nameT 5) bdy (l.map .str) (ms G g st h0 x5) (h0 ++ [.lst st.2.2]) = .nx (ms G g st' h0 x5') (h0 ++ [.lst st'.2.2])
  | [], st, st', x5, e => by cases e; exact ⟨x5, rfl⟩
  | one :: l, (pe, inn, left), st', x5, e => by
    rw [List.foldl_cons] at e
    have none_fold : ∀ l : List Str, l.foldl (inStep G) none = none := fun l => by
      induction l with
      | nil => rfl
      | cons x r ih => rw [List.foldl_cons]; exact ih
    have e1 : inStep G (some (pe, inn, left)) one = if pe.length < 60 ∧ inn.length < 60 ∧ left.length < 60 then
        some (if (dlook G (.str one)).isSome then (if (dlook inn (.str one)).isSome then (pe, inn, left) else (pe, dput inn (.str one) (.bl true), left ++ [.str one])) else (dput pe (.str one) (.bl true), inn, left)) else none := rfl
    by_cases hl : pe.length < 60 ∧ inn.length < 60 ∧ left.length < 60
    case neg => rw [e1, if_neg hl, none_fold] at e; cases e
    rw [e1, if_pos hl] at e
    have step : ∀ st2, bdy (ms G g (pe, inn, left) h0 (some (.str one))) (h0 ++ [.lst left]) = .nx (ms G g st2 h0 (some (.str one))) (h0 ++ [.lst st2.2.2]) → l.foldl (inStep G) (some st2) = some st' →
        ∃ x5', forL (nameT 5) bdy ((one :: l).map .str) (ms G g (pe, inn, left) h0 x5) (h0 ++ [.lst left]) = .nx (ms G g st' h0 x5') (h0 ++ [.lst st'.2.2]) := fun st2 hb e2 => by
      obtain ⟨x5', h5⟩ := loop_ok G g h0 l st2 st' (some (.str one)) e2
      refine ⟨x5', ?_⟩
      rw [List.map_cons]
      unfold forL
      show (match bdy (ms G g (pe, inn, left) h0 (some (.str one))) (h0 ++ [.lst left]) with
        | .nx σ2 h2 => forL (nameT 5) bdy (l.map .str) σ2 h2
        | .ct σ2 h2 => forL (nameT 5) bdy (l.map .str) σ2 h2
        | .bk σ2 h2 => .nx σ2 h2
        | .rt v h2 => .rt v h2
        | .exc c f σ2 h2 => .exc c f σ2 h2
        | .stuck => .stuck) = _
      rw [hb]
      exact h5
    by_cases c1 : (dlook G (.str one)).isSome = true
    · by_cases c2 : (dlook inn (.str one)).isSome = true
      · rw [if_pos c1, if_pos c2] at e
        refine step _ ?_ e
        simp [bdy, ifS, bin, varD, in_dct, notIn_dct, c1, c2, nxS]
      · rw [if_pos c1, if_neg c2] at e
        refine step _ ?_ e
        have c2' : (dlook inn (.str one)).isSome = false := by simpa using c2
        have a1 : isHL (h0 ++ [.lst left]) h0.length = true := by unfold isHL; rw [get_last]
        simp [bdy, ifS, bin, varD, in_dct, notIn_dct, c1, c2', seqS, putS, cD, ownPut, flatK, lim60 hl.2.1, exprS, happD, a1, happV, lim60 hl.2.2, hset]
    · rw [if_neg c1] at e
      refine step _ ?_ e
      have c1' : (dlook G (.str one)).isSome = false := by simpa using c1
      simp [bdy, ifS, bin, varD, in_dct, c1', putS, cD, ownPut, flatK, lim60 hl.1]
theorem cond_ok {left : List AV} {σ : AS} {h0 : AH} (hd : left.all (AV.dl 49) = true) (hs : σ[4]? = some (some (.ref h0.length))) : bin neV (varD 4) (lstD []) σ (h0 ++ [.lst left]) = .ok (.bl (!left.isEmpty)) (h0 ++ [.lst left]) := by
  have t : thaw (h0 ++ [.lst left]) (.ref h0.length) = .lst left := by simp only [thaw, get_last]
  have d : (AV.lst left).dl DEPTH = true := hd
  have eo : eqOk (.lst left) (.lst []) = true := by unfold eqOk; rw [d]; rfl
  have ee : (AV.lst left).eq (.lst []) = left.isEmpty := by cases left <;> rfl
  have n1 : neV (.ref h0.length) (.lst []) (h0 ++ [.lst left]) = .ok (.bl (!left.isEmpty)) (h0 ++ [.lst left]) := by
    unfold neV
    rw [t]
    show (if eqOk (.lst left) (.lst []) = true then ER.ok (.bl (!(AV.lst left).eq (.lst []))) _ else .stuck) = _
    rw [if_pos eo, ee]
  simp only [bin, varD, hs, ER.bind_ok, lstD, evs, LR.bind_ok, n1]
theorem strsA_of : ∀ {xs : List AV} {ys : List Str}, strsA xs = some ys → xs = ys.map .str
  | [], ys, e => by cases e; rfl
  | .str s :: r, ys, e => by
    unfold strsA at e
    obtain ⟨zs, e1, rfl⟩ := Option.map_eq_some_iff.mp e
    rw [strsA_of e1]; rfl
  | .non :: _, _, e => by simp [strsA] at e
  | .bl _ :: _, _, e => by simp [strsA] at e
  | .int _ :: _, _, e => by simp [strsA] at e
  | .tup _ :: _, _, e => by simp [strsA] at e
  | .lst _ :: _, _, e => by simp [strsA] at e
  | .dct _ :: _, _, e => by simp [strsA] at e
  | .ref _ :: _, _, e => by simp [strsA] at e
  | .ro _ :: _, _, e => by simp [strsA] at e
theorem while_ok (G : List (AV × AV)) (g : AV) (h0 : AH) : ∀ (k n : Nat) (st st' : St) (x5 : Option AV), k ≤ n → run G k st = some st' →
    ∃ x5', whileS n (bin neV (varD 4) (lstD [])) whl (ms G g st h0 x5) (h0 ++ [.lst st.2.2]) = .nx (ms G g st' h0 x5') (h0 ++ [.lst []])
  | 0, _, _, _, _, _, e => by cases e
  | k + 1, 0, _, _, _, hk, _ => by omega
  | k + 1, n + 1, (pe, inn, left), st', x5, hk, e => by
    unfold run at e
    unfold whileS
    by_cases h1 : left.isEmpty = true
    · rw [if_pos h1] at e
      cases e
      have hl : left = [] := by simpa using h1
      subst hl
      refine ⟨x5, ?_⟩
      rw [cond_ok rfl rfl]
      rfl
    · rw [if_neg h1] at e
      by_cases h2 : left.all (AV.dl 49) = true
      case neg => rw [if_neg h2] at e; cases e
      rw [if_pos h2] at e
      obtain ⟨st2, e1, e2⟩ := Option.bind_eq_some_iff.mp e
      rw [cond_ok h2 rfl]
      have hb : left.isEmpty = false := by simpa using h1
      have step : ∃ x5', whl (ms G g (pe, inn, left) h0 x5) (h0 ++ [.lst left]) = .nx (ms G g st2 h0 x5') (h0 ++ [.lst st2.2.2]) := by
        unfold outStep at e1
        split at e1
        · rename_i x hx
          obtain ⟨l, e3, e4⟩ := Option.bind_eq_some_iff.mp e1
          obtain ⟨x5', e5⟩ := loop_ok G g h0 l (pe, inn, left.dropLast) st2 x5 e4
          refine ⟨x5', ?_⟩
          unfold memL at e3
          split at e3
          · rename_i xs hxs
            have a1 : isHL (h0 ++ [.lst left]) h0.length = true := by unfold isHL; rw [get_last]
            have a2 : hpopV (.ref h0.length) (h0 ++ [.lst left]) = .ok (.str x) (h0 ++ [.lst left.dropLast]) := by
              unfold hpopV
              simp only [get_last]
              have hx' : left.getLast? = some (.str x) := hx
              simp only [hx', hset, set_last]
            have a3 : getV (.dct G) (.str x) (h0 ++ [.lst left.dropLast]) = .ok (.tup xs) (h0 ++ [.lst left.dropLast]) := by
              show optE (dlook G (.str x)) _ = _
              rw [hxs]; rfl
            have a4 := strsA_of e3
            subst a4
            unfold whl
            simp only [forS, itD, bin, varD, hpopD, List.getElem?_cons_zero, List.getElem?_cons_succ, ER.bind_ok, ER.bindL_ok, rfOf_ref, Option.bind_some, a1, if_true, a2, a3, iterV, optL_some, LR.toS_ok]
            exact e5
          · cases e3
        · cases e1
      obtain ⟨x5', e5⟩ := step
      obtain ⟨x6, e6⟩ := while_ok G g h0 k n st2 st' x5' (by omega) e2
      refine ⟨x6, ?_⟩
      rw [hb]
      show (match whl (ms G g (pe, inn, left) h0 x5) (h0 ++ [.lst left]) with
        | .nx σ2 h2 => whileS n (bin neV (varD 4) (lstD [])) whl σ2 h2
        | .ct σ2 h2 => whileS n (bin neV (varD 4) (lstD [])) whl σ2 h2
        | .bk σ2 h2 => .nx σ2 h2
        | .rt v h2 => .rt v h2
        | .exc c f σ2 h2 => .exc c f σ2 h2
        | .stuck => .stuck) = _
      rw [e5]
      exact e6
/-- what members_of answers -/
def ans (G : List (AV × AV)) (g : Str) : Option (List AV × List AV) := (run G 12 ([], [], [.str g])).bind fun st =>
  (strsA (st.1.map (·.1))).bind fun p => (strsA (st.2.1.map (·.1))).bind fun i =>
    if p.length < 64 ∧ i.length < 64 then some (sortA (p.map .str), sortA (i.map .str)) else none
theorem members_ok {G : List (AV × AV)} {g : Str} {p i : List AV} (h : AH) (e : ans G g = some (p, i)) : ∃ l, f_members_of [.dct G, .str g] h = .ok (.tup [.tup p, .tup i]) (h ++ l) := by
  unfold ans at e
  obtain ⟨st, e1, e⟩ := Option.bind_eq_some_iff.mp e
  obtain ⟨ps, e2, e⟩ := Option.bind_eq_some_iff.mp e
  obtain ⟨is, e3, e⟩ := Option.bind_eq_some_iff.mp e
  split at e
  case isFalse => cases e
  rename_i hl
  cases e
  obtain ⟨x5, e4⟩ := while_ok G (.str g) h 12 1099511627776 ([], [], [.str g]) st none (by decide) e1
  refine ⟨[.lst []], ?_⟩
  unfold f_members_of body
  rw [m_members_eq]
  show (match seqS (parS [2, 3, 4] [(cD (.dct [])), (cD (.dct [])), (heapL (lstD [(varD 1)]))]) _ [some (.dct G), some (.str g), none, none, none, none] h with
    | .nx _ h' => ER.ok .non h' | .rt v h' => .ok v h' | .exc c f _ h' => .exc c f h' | _ => .stuck) = _
  rw [seqS_nx (σ1 := ms G (.str g) ([], [], [.str g]) h none) (h1 := h ++ [.lst [.str g]]) (by rfl)]
  rw [seqS_nx e4]
  have s1 : sortKF [.dct st.1] (h ++ [.lst []]) = .ok (.lst (sortA (ps.map .str))) (h ++ [.lst []]) := by
    unfold sortKF
    simp only [dv, Option.bind_some, e2, if_pos hl.1]
  have s2 : sortKF [.dct st.2.1] (h ++ [.lst []]) = .ok (.lst (sortA (is.map .str))) (h ++ [.lst []]) := by
    unfold sortKF
    simp only [dv, Option.bind_some, e3, if_pos hl.2]
  simp [retS, tupD, evs, callD, varD, s1, s2]
end K29
end

section
namespace K29
open PySem (Str)
open D
def sel : List Str → List Bool → List Str
  | x :: xs, b :: bs => if b then x :: sel xs bs else sel xs bs
  | _, _ => []
def n3 : List Str := ["ann", "bob", "cat"]
def n4 : List Str := ["ann", "bob", "cat", "gods"]
def n5 : List Str := ["ann", "bob", "cat", "gods", "men"]
def gB (a b c d e f g h i j k l : Bool) : List (AV × AV) := gG (sel n3 [a, b, c]) (sel n4 [d, e, f, g]) (sel n5 [h, i, j, k, l])
def chk (G : List (AV × AV)) (x : Str) : Bool := match run G 12 ([], [], [.str x]) with
  | some st => (match strsA (st.1.map (·.1)), strsA (st.2.1.map (·.1)) with
    | some p, some i => decide (p.length < 64 ∧ i.length < 64)
    | _, _ => false)
  | none => false
set_option maxHeartbeats 0 in
theorem all_chk : ∀ a b c d e f g h i j k l : Bool, (chk (gB a b c d e f g h i j k l) "gods" && chk (gB a b c d e f g h i j k l) "men" && chk (gB a b c d e f g h i j k l) "all") = true := by decide +kernel
end K29
end

section
namespace K29
open PySem (Str)
open D
def keys : List Str := ["gods", "men", "all"]
/-- the groups are fine -/
def Gok (G : List (AV × AV)) : Prop := (∀ k ∈ keys, chk G k = true) ∧ G.map (·.1) = keys.map .str ∧ ∀ s : Str, (dlook G (.str s)).isSome = decide (s ∈ keys)
def memb (G : List (AV × AV)) (person g : Str) : Bool := match ans G g with
  | some (p, _) => p.any fun z => AV.eq z (.str person)
  | none => false
theorem sort_any {xs : List AV} {p : AV → Bool} : (sortA xs).any p = xs.any p := by
  rw [Bool.eq_iff_iff, List.any_eq_true, List.any_eq_true]
  constructor
  · rintro ⟨x, h1, h2⟩; exact ⟨x, (List.mergeSort_perm xs leA).mem_iff.mp h1, h2⟩
  · rintro ⟨x, h1, h2⟩; exact ⟨x, (List.mergeSort_perm xs leA).mem_iff.mpr h1, h2⟩
theorem sort_all {xs : List AV} {p : AV → Bool} (h : xs.all p = true) : (sortA xs).all p = true := by
  rw [List.all_eq_true] at h ⊢
  intro x hx
  exact h x ((List.mergeSort_perm xs leA).mem_iff.mp hx)
theorem chk_ans {G : List (AV × AV)} {g : Str} (h : chk G g = true) : ∃ p i, ans G g = some (p, i) ∧ p.all isFlat = true := by
  unfold chk at h
  unfold ans
  cases e1 : run G 12 ([], [], [.str g]) with
  | none => rw [e1] at h; cases h
  | some st =>
    rw [e1] at h
    dsimp only at h
    simp only [Option.bind_some]
    cases e2 : strsA (st.1.map (·.1)) with
    | none => rw [e2] at h; cases h
    | some p =>
      cases e3 : strsA (st.2.1.map (·.1)) with
      | none => rw [e2, e3] at h; cases h
      | some i =>
        rw [e2, e3] at h
        have hl : p.length < 64 ∧ i.length < 64 := by simpa using h
        refine ⟨_, _, by simp only [Option.bind_some]; rw [if_pos hl], sort_all ?_⟩
        simp [List.all_map, isFlat]
theorem in_members {G : List (AV × AV)} {person g : Str} (hg : chk G g = true) (h : AH) : ∃ l p i, f_members_of [.dct G, .str g] h = .ok (.tup [.tup p, i]) (h ++ l) ∧ inD (.str person) (.tup p) (h ++ l) = .ok (.bl (memb G person g)) (h ++ l) := by
  obtain ⟨p, i, e, hf⟩ := chk_ans hg
  obtain ⟨l, e2⟩ := members_ok h e
  refine ⟨l, p, .tup i, e2, ?_⟩
  have : inV (.str person) (.tup p) (h ++ l) = some (memb G person g) := by
    show inRow (.str person) p = _
    unfold inRow
    rw [if_pos (by unfold inOk; rw [hf]; rfl)]
    unfold memb
    rw [e]
  unfold inD
  rw [this]
def names (G : List (AV × AV)) (person : Str) : List Str := person :: keys.filter (memb G person)
/-- a comprehension whose tests make the heap grow -/
theorem compL_grow {t : TGT} {c e : EV} {σ : AS} {p : AV → Bool} {g : AV → AV} : ∀ (xs : List AV) (h : AH), (∀ x ∈ xs, ∀ h, ∃ σ1 l, t x σ = some σ1 ∧ c σ1 h = .ok (.bl (p x)) (h ++ l) ∧ ∀ h', e σ1 h' = .ok (g x) h') →
    ∃ l, compL t c e σ xs h = .ok ((xs.filter p).map g) (h ++ l)
  | [], h, _ => ⟨[], by rw [List.append_nil]; rfl⟩
  | x :: xs, h, H => by
    obtain ⟨σ1, l, e1, e2, e3⟩ := H x List.mem_cons_self h
    obtain ⟨l2, e4⟩ := compL_grow xs (h ++ l) fun y hy => H y (List.mem_cons_of_mem _ hy)
    refine ⟨l ++ l2, ?_⟩
    unfold compL
    cases hp : p x with
    | true => rw [hp] at e2; simp only [e1, e2, e3, e4, List.filter_cons, hp, if_true, List.map_cons, List.append_assoc]
    | false => rw [hp] at e2; simp [e1, e2, e4, List.filter_cons, hp, List.append_assoc]
def mb (G : List (AV × AV)) (person : Str) (x : AV) : Bool := match x with | .str s => memb G person s | _ => false
theorem filter_mb (G : List (AV × AV)) (person : Str) : ((keys.map AV.str).filter (mb G person)).map id = (keys.filter (memb G person)).map .str := by
  rw [List.map_id, List.filter_map]
  rfl
/-- [k for k in groups if person in members_of(groups, k)[0]] -/
theorem keys_comp {G : List (AV × AV)} {person : Str} (hG : Gok G) {σ : AS} {jG jp j : Nat} (h : AH) (hσG : σ[jG]? = some (some (.dct G))) (hp : σ[jp]? = some (some (.str person))) (n1 : jG ≠ j) (n2 : jp ≠ j) (hl : j < σ.length) :
    ∃ l, compD [j] (nameT j) (keysD jG) (bin inD (varD jp) (bin getV (callD f_members_of [(varD jG), (varD j)]) (cD (.int 0)))) (varD j) σ h = .ok (.lst ((keys.filter (memb G person)).map .str)) (h ++ l) := by
  have w : wipeA σ [j] = σ.set j none := rfl
  obtain ⟨l, e⟩ := compL_grow (t := nameT j) (c := bin inD (varD jp) (bin getV (callD f_members_of [(varD jG), (varD j)]) (cD (.int 0)))) (e := varD j) (σ := wipeA σ [j]) (p := mb G person) (g := id) (keys.map .str) h fun x hx h => by
    obtain ⟨k, hk, rfl⟩ := List.mem_map.mp hx
    obtain ⟨l, p, i, e1, e2⟩ := in_members (person := person) (hG.1 k hk) h
    have g1 : ((σ.set j none).set j (some (AV.str k)))[jG]? = some (some (.dct G)) := by rw [List.getElem?_set_ne (Ne.symm n1), List.getElem?_set_ne (Ne.symm n1)]; exact hσG
    have g2 : ((σ.set j none).set j (some (AV.str k)))[jp]? = some (some (.str person)) := by rw [List.getElem?_set_ne (Ne.symm n2), List.getElem?_set_ne (Ne.symm n2)]; exact hp
    have g3 : ((σ.set j none).set j (some (AV.str k)))[j]? = some (some (.str k)) := List.getElem?_set_self (by simpa using hl)
    refine ⟨(σ.set j none).set j (some (.str k)), l, rfl, ?_, fun h' => ?_⟩
    · simp only [bin, varD, g1, g2, g3, ER.bind_ok, callD, evs, ER.bindL_ok, LR.bindL_ok, LR.bind_ok, e1, cD, getV_tup, atI_zero, optE_some, e2, mb]
    · simp only [varD, g3, id]
  refine ⟨l, ?_⟩
  unfold compD
  have hk : keysD jG σ h = LR.ok (keys.map .str) h := by unfold keysD; rw [hσG]; show LR.ok (G.map (·.1)) h = _; rw [hG.2.1]
  rw [hk]
  simp only [LR.bind_ok, e, filter_mb]
  rw [if_pos]
  have : (keys.filter (memb G person)).length ≤ keys.length := List.length_filter_le _ _
  have h3 : keys.length = 3 := rfl
  simp only [List.length_map]
  unfold LIM; omega
theorem sortOk_strs {ss : List Str} (h : ss.all sOk = true) : sortOk (ss.map .str) = true := by
  unfold sortOk coAll
  rw [Bool.and_eq_true, Bool.and_eq_true, Bool.or_eq_true]
  refine ⟨⟨?_, ?_⟩, .inr ?_⟩
  · simp [List.all_map, AV.co]
  · rw [List.all_map]; exact h
  · simp [List.all_map, notTup]
theorem eq_str (x y : Str) : AV.eq (.str x) (.str y) = (x == y) := rfl
theorem names_ok {G : List (AV × AV)} {person : Str} (hG : Gok G) (hs : sOk person = true) (h : AH) : ∃ N l, f_names_of [.dct G, .str person] h = .ok (.tup N) (h ++ l) ∧ N.all isFlat = true ∧ ∀ x : Str, (N.any fun z => AV.eq z (.str x)) = (names G person).contains x := by
  obtain ⟨l, e⟩ := keys_comp (σ := [some (.dct G), some (.str person), none]) (jG := 0) (jp := 1) (j := 2) hG h rfl rfl (by decide) (by decide) (by simp)
  refine ⟨sortA ((names G person).map .str), l, ?_, sort_all (by simp [List.all_map, isFlat]), fun x => ?_⟩
  · have hso : sortOk ((names G person).map .str) = true := by
      refine sortOk_strs ?_
      unfold names
      rw [List.all_cons, hs, Bool.true_and, List.all_eq_true]
      intro s hs'
      have hall : ∀ s ∈ keys, sOk s = true := by decide +kernel
      exact hall s (List.mem_filter.mp hs').1
    have h1 : addV (.lst [.str person]) (.lst ((keys.filter (memb G person)).map .str)) (h ++ l) = .ok (.lst ((names G person).map .str)) (h ++ l) := by
      rw [addV_lst, if_pos]
      · rfl
      · have : (keys.filter (memb G person)).length ≤ keys.length := List.length_filter_le _ _
        have h3 : keys.length = 3 := rfl
        simp only [List.length_cons, List.length_nil, List.length_map]
        unfold LIM; omega
    have h2 : sortedF [.lst ((names G person).map .str)] (h ++ l) = .ok (.lst (sortA ((names G person).map .str))) (h ++ l) := by
      show optE (if sortOk ((names G person).map .str) = true then some (AV.lst (sortA ((names G person).map .str))) else none) _ = _
      rw [if_pos hso]; rfl
    unfold f_names_of body m_names_of
    simp only [retS, callD, evs, bin, lstD, varD, List.map_cons, List.map_nil, List.length_cons, List.length_nil, List.replicate, List.cons_append, List.nil_append, Nat.reduceAdd, Nat.reduceSub, List.getElem?_cons_zero, List.getElem?_cons_succ, ER.bindL_ok, LR.bindL_ok, LR.bind_ok, ER.bind_ok] at e ⊢
    rw [e]
    simp only [ER.bind_ok, ER.bindL_ok, LR.bind_ok, h1, h2, tupleF_lst, ER.toS_ok]
  · rw [sort_any, List.any_map]
    unfold List.contains
    rw [Bool.eq_iff_iff, List.any_eq_true, List.elem_iff]
    constructor
    · rintro ⟨y, h1, h2⟩
      have : y = x := by simpa [eq_str] using h2
      rw [← this]; exact h1
    · intro hx
      exact ⟨x, hx, by simp [eq_str]⟩
end K29
end

section
namespace K29
open PySem (Str)
open D
abbrev R := Str × Str × Str × Bool
def enc (r : R) : AV := .tup [.str r.1, .str r.2.1, .str r.2.2.1, .bl r.2.2.2]
def fitsR (G : List (AV × AV)) (person word here : Str) (r : R) : Bool := (names G person).contains r.1 && (r.2.1 == word) && (r.2.2.1 == here)
def toldL (G : List (AV × AV)) (person word here : Str) (rs : List R) : List Bool := (rs.filter (fitsR G person word here)).map (·.2.2.2)
def mayP (G : List (AV × AV)) (person word : Str) (rs : List R) : List Str → Bool
  | [] => false
  | here :: r => if (toldL G person word here rs).isEmpty then mayP G person word rs r else (toldL G person word here rs).all id
def gs : List Str := ["", "a", "a/b", "a/b/c", "d"]
def pathsA (g : Str) : List Str := if g = "" then [""] else if g = "a" then ["a", ""] else if g = "a/b" then ["a/b", "a", ""] else if g = "a/b/c" then ["a/b/c", "a/b", "a", ""] else ["d", ""]
theorem paths_ok (h : AH) {g : Str} (hg : g ∈ gs) : f_paths_above [.str g] h = .ok (.tup ((pathsA g).map .str)) h := by
  unfold gs at hg
  simp only [List.mem_cons, List.not_mem_nil, or_false] at hg
  rcases hg with rfl | rfl | rfl | rfl | rfl <;> rfl
theorem filterMap_if {α β : Type} (p : α → Bool) (f : α → β) (xs : List α) : xs.filterMap (fun x => if p x = true then some (f x) else none) = (xs.filter p).map f := by
  induction xs with
  | nil => rfl
  | cons x xs ih =>
    cases h : p x <;> simp [List.filterMap_cons, List.filter_cons, h, ih]
def cnd (jn jw jh j : Nat) : EV := andD (bin inD (bin getV (varD j) (cD (.int 0))) (varD jn)) (andD (bin eqV (bin getV (varD j) (cD (.int 1))) (varD jw)) (bin eqV (bin getV (varD j) (cD (.int 2))) (varD jh)))
theorem cnd_ok {G : List (AV × AV)} {person word here : Str} {N : AV} {σ : AS} {h : AH} {jn jw jh j : Nat} {r : R} (hN : ∀ x : Str, inD (.str x) N h = .ok (.bl ((names G person).contains x)) h)
    (h1 : σ[jn]? = some (some N)) (h2 : σ[jw]? = some (some (.str word))) (h3 : σ[jh]? = some (some (.str here))) (h4 : σ[j]? = some (some (enc r))) : cnd jn jw jh j σ h = .ok (.bl (fitsR G person word here r)) h := by
  unfold cnd fitsR
  simp only [andD, bin, varD, h1, h2, h3, h4, cD, ER.bind_ok, enc, getV_tup, atI_zero, atI_one, atI_two, optE_some, hN, ER.tst_ok, eqV_str]
  generalize (names G person).contains r.1 = b1
  generalize (r.2.1 == word) = b2
  generalize (r.2.2.1 == here) = b3
  cases b1 <;> cases b2 <;> rfl
/-- [e for r in rules if ..] -/
theorem rules_comp {G : List (AV × AV)} {person word here : Str} {N : AV} {σ : AS} {h : AH} {jn jw jh jr j : Nat} {rs : List R} {e : EV} {f : R → AV} (hN : ∀ x : Str, inD (.str x) N h = .ok (.bl ((names G person).contains x)) h)
    (h1 : σ[jn]? = some (some N)) (h2 : σ[jw]? = some (some (.str word))) (h3 : σ[jh]? = some (some (.str here))) (hr : σ[jr]? = some (some (.tup (rs.map enc)))) (hj : j < σ.length) (n1 : j ≠ jn) (n2 : j ≠ jw) (n3 : j ≠ jh)
    (he : ∀ σ' r, σ'[j]? = some (some (enc r)) → e σ' h = .ok (f r) h) (hl : rs.length ≤ LIM) :
    compD [j] (nameT j) (itD (varD jr)) (cnd jn jw jh j) e σ h = .ok (.lst ((rs.filter (fitsR G person word here)).map f)) h := by
  unfold compD
  have it : itD (varD jr) σ h = .ok (rs.map enc) h := by simp only [itD, varD, hr, ER.bindL_ok, iterV, optL_some]
  rw [it]
  have cl := compL_enc (t := nameT j) (c := cnd jn jw jh j) (e := e) (σ := wipeA σ [j]) (h := h) enc (fun r => if fitsR G person word here r = true then some (f r) else none) rs fun r _ => by
    have q : ∀ k, j ≠ k → ((wipeA σ [j]).set j (some (enc r)))[k]? = σ[k]? := fun k hk => by
      show ((σ.set j none).set j _)[k]? = _
      rw [List.getElem?_set_ne hk, List.getElem?_set_ne hk]
    have q4 : ((wipeA σ [j]).set j (some (enc r)))[j]? = some (some (enc r)) := List.getElem?_set_self (by show j < (σ.set j none).length; simpa using hj)
    have c1 := cnd_ok (r := r) (j := j) hN ((q _ n1).trans h1) ((q _ n2).trans h2) ((q _ n3).trans h3) q4
    refine ⟨(wipeA σ [j]).set j (some (enc r)), rfl, ?_⟩
    cases hf : fitsR G person word here r with
    | true => exact .inl ⟨f r, by rw [c1, hf], he _ r q4, by simp⟩
    | false => exact .inr ⟨by rw [c1, hf], by simp⟩
  simp only [LR.bind_ok, cl]
  rw [if_pos, filterMap_if]
  rw [filterMap_if, List.length_map]
  exact Nat.le_trans (List.length_filter_le _ _) hl
theorem neV_nil {xs : List AV} {h : AH} (hd : (AV.lst xs).dl DEPTH = true) : neV (.lst xs) (.lst []) h = .ok (.bl (!xs.isEmpty)) h := by
  have eo : eqOk (.lst xs) (.lst []) = true := by unfold eqOk; rw [hd]; rfl
  have ee : (AV.lst xs).eq (.lst []) = xs.isEmpty := by cases xs <;> rfl
  show (if eqOk (.lst xs) (.lst []) = true then ER.ok (.bl (!(AV.lst xs).eq (.lst []))) _ else .stuck) = _
  rw [if_pos eo, ee]
theorem eqV_nil {xs : List AV} {h : AH} (hd : (AV.lst xs).dl DEPTH = true) : eqV (.lst xs) (.lst []) h = .ok (.bl (xs.isEmpty)) h := by
  have eo : eqOk (.lst xs) (.lst []) = true := by unfold eqOk; rw [hd]; rfl
  have ee : (AV.lst xs).eq (.lst []) = xs.isEmpty := by cases xs <;> rfl
  show (if eqOk (.lst xs) (.lst []) = true then ER.ok (.bl ((AV.lst xs).eq (.lst []))) _ else .stuck) = _
  rw [if_pos eo, ee]
theorem bls_map (bs : List Bool) : bls (bs.map .bl) = some bs := by
  induction bs with
  | nil => rfl
  | cons b bs ih => simp [bls, ih]
theorem allF_bls {bs : List Bool} {h : AH} : allF [.lst (bs.map .bl)] h = .ok (.bl (bs.all id)) h := by
  show optE ((bls (bs.map .bl)).map fun bs => AV.bl (bs.all id)) h = _
  rw [bls_map]; rfl
theorem inD_of {N : List AV} {x : Str} {h : AH} {b : Bool} (hf : N.all isFlat = true) (e : (N.any fun z => AV.eq z (.str x)) = b) : inD (.str x) (.tup N) h = .ok (.bl b) h := by
  have : inV (.str x) (.tup N) h = some b := by
    show inRow (.str x) N = _
    unfold inRow
    rw [if_pos (by unfold inOk; rw [hf]; rfl), e]
  unfold inD
  rw [this]
def mbody : SV := (seqS (setS 7 (compD [8] (nameT 8) (itD (varD 1)) (cnd 5 3 6 8) (bin getV (varD 8) (cD (.int 3)))))
  (ifS (bin neV (varD 7) (lstD [])) (retS (callD allF [(varD 7)])) nxS))
theorem m_may_eq : m_may = (seqS (ifS (bin notInD (varD 3) (cD (.tup c_WORDS))) nevS nxS)
  (seqS (setS 5 (callD f_names_of [(varD 0), (varD 2)]))
  (seqS (forS (nameT 6) (itD (callD f_paths_above [(varD 4)])) mbody)
  (retS (cD (.bl false)))))) := rfl
theorem may_loop {G : List (AV × AV)} {person word : Str} {N g4 : AV} {rs : List R} {h : AH} (hN : ∀ x : Str, inD (.str x) N h = .ok (.bl ((names G person).contains x)) h) (hl : rs.length ≤ LIM) : ∀ (ps : List Str) (x6 x7 : Option AV),
    (∃ σ', forL (nameT 6) mbody (ps.map .str) [some (.dct G), some (.tup (rs.map enc)), some (.str person), some (.str word), some g4, some N, x6, x7, none] h = .nx σ' h ∧ mayP G person word rs ps = false) ∨
      forL (nameT 6) mbody (ps.map .str) [some (.dct G), some (.tup (rs.map enc)), some (.str person), some (.str word), some g4, some N, x6, x7, none] h = .rt (.bl (mayP G person word rs ps)) h
  | [], x6, x7 => .inl ⟨_, rfl, rfl⟩
  | here :: ps, x6, x7 => by
    have c := rules_comp (e := bin getV (varD 8) (cD (.int 3))) (f := fun r => .bl r.2.2.2) (jn := 5) (jw := 3) (jh := 6) (jr := 1) (j := 8) (here := here) (word := word) (σ := [some (.dct G), some (.tup (rs.map enc)), some (.str person), some (.str word), some g4, some N, some (.str here), x7, none]) hN rfl rfl rfl rfl (by simp) (by decide) (by decide) (by decide) (fun σ' r e => by simp only [bin, varD, e, cD, ER.bind_ok, enc]; rfl) hl
    have tm : (rs.filter (fitsR G person word here)).map (fun r => AV.bl r.2.2.2) = (toldL G person word here rs).map .bl := by unfold toldL; rw [List.map_map]; rfl
    rw [tm] at c
    have dl : (AV.lst ((toldL G person word here rs).map AV.bl)).dl DEPTH = true := by
      show List.all _ (AV.dl 49) = true
      simp [List.all_map, AV.dl]
    have b : mbody [some (.dct G), some (.tup (rs.map enc)), some (.str person), some (.str word), some g4, some N, some (.str here), x7, none] h =
        if (toldL G person word here rs).isEmpty = true then .nx [some (.dct G), some (.tup (rs.map enc)), some (.str person), some (.str word), some g4, some N, some (.str here), some (.lst ((toldL G person word here rs).map .bl)), none] h else .rt (.bl ((toldL G person word here rs).all id)) h := by
      unfold mbody
      rw [seqS_nx (σ1 := [some (.dct G), some (.tup (rs.map enc)), some (.str person), some (.str word), some g4, some N, some (.str here), some (.lst ((toldL G person word here rs).map .bl)), none]) (h1 := h) (by unfold setS; rw [c]; rfl)]
      have e1 : ((toldL G person word here rs).map AV.bl).isEmpty = (toldL G person word here rs).isEmpty := by cases toldL G person word here rs <;> rfl
      simp only [ifS, bin, varD, lstD, evs, List.getElem?_cons_zero, List.getElem?_cons_succ, ER.bind_ok, LR.bind_ok, neV_nil dl, ER.tstS_ok, e1]
      cases (toldL G person word here rs).isEmpty with
      | true => rfl
      | false => simp [retS, callD, evs, varD, allF_bls]
    rw [List.map_cons]
    unfold forL
    simp only [nameT, List.set]
    rw [b]
    unfold mayP
    by_cases hE : (toldL G person word here rs).isEmpty = true
    · rw [if_pos hE, if_pos hE]
      exact may_loop hN hl ps (some (.str here)) _
    · rw [if_neg hE, if_neg hE]
      exact .inr rfl
def words : List Str := ["read", "write"]
theorem may_ok {G : List (AV × AV)} (hG : Gok G) {person word goal : Str} {rs : List R} (hp : sOk person = true) (hw : word ∈ words) (hg : goal ∈ gs) (hl : rs.length ≤ LIM) (h : AH) :
    ∃ l, f_may [.dct G, .tup (rs.map enc), .str person, .str word, .str goal] h = .ok (.bl (mayP G person word rs (pathsA goal))) (h ++ l) := by
  obtain ⟨N, l, e1, e2, e3⟩ := names_ok hG hp h
  refine ⟨l, ?_⟩
  have hN : ∀ x : Str, inD (.str x) (.tup N) (h ++ l) = .ok (.bl ((names G person).contains x)) (h ++ l) := fun x => inD_of e2 (e3 x)
  have hw' : notInD (.str word) (.tup c_WORDS) h = .ok (.bl false) h := by
    unfold words at hw
    simp only [List.mem_cons, List.not_mem_nil, or_false] at hw
    rcases hw with rfl | rfl <;> rfl
  unfold f_may body
  rw [m_may_eq]
  simp only [List.map_cons, List.map_nil, List.length_cons, List.length_nil, List.replicate, List.cons_append, List.nil_append, Nat.reduceAdd, Nat.reduceSub]
  rw [seqS_nx (σ1 := [some (.dct G), some (.tup (rs.map enc)), some (.str person), some (.str word), some (.str goal), none, none, none, none]) (h1 := h) (by
    simp only [ifS, bin, varD, cD, List.getElem?_cons_zero, List.getElem?_cons_succ, ER.bind_ok, hw', ER.tstS_ok]
    rfl)]
  rw [seqS_nx (σ1 := [some (.dct G), some (.tup (rs.map enc)), some (.str person), some (.str word), some (.str goal), some (.tup N), none, none, none]) (h1 := h ++ l) (by
    simp only [setS, callD, evs, varD, List.getElem?_cons_zero, List.getElem?_cons_succ, ER.bindL_ok, LR.bindL_ok, LR.bind_ok, e1]
    rfl)]
  have f : forS (nameT 6) (itD (callD f_paths_above [(varD 4)])) mbody [some (.dct G), some (.tup (rs.map enc)), some (.str person), some (.str word), some (.str goal), some (.tup N), none, none, none] (h ++ l) =
      forL (nameT 6) mbody ((pathsA goal).map .str) [some (.dct G), some (.tup (rs.map enc)), some (.str person), some (.str word), some (.str goal), some (.tup N), none, none, none] (h ++ l) := by
    simp only [forS, itD, callD, evs, varD, List.getElem?_cons_zero, List.getElem?_cons_succ, ER.bindL_ok, LR.bindL_ok, LR.bind_ok, paths_ok _ hg, iterV, optL_some, LR.toS_ok]
  rcases may_loop (g4 := .str goal) hN hl (pathsA goal) none none with ⟨σ', e4, e5⟩ | e4
  · rw [seqS_nx (f.trans e4), e5]
    rfl
  · rw [seqS_rt (f.trans e4)]
end K29
end

section
namespace K29
open PySem (Str)
open D
section
variable {G : List (AV × AV)} {person word : Str} {rs : List R} {r : R}
theorem told_snoc (here : Str) : toldL G person word here (rs ++ [r]) = toldL G person word here rs ++ (if fitsR G person word here r = true then [r.2.2.2] else []) := by
  unfold toldL
  rw [List.filter_append, List.map_append]
  cases h : fitsR G person word here r <;> simp [List.filter_cons, h]
theorem grant_ok (hr : r.2.2.2 = true) : ∀ ps : List Str, mayP G person word rs ps = true → mayP G person word (rs ++ [r]) ps = true
  | [], h => h
  | p :: ps, h => by
    unfold mayP at h ⊢
    rw [told_snoc, hr]
    by_cases e : (toldL G person word p rs).isEmpty = true
    · rw [if_pos e] at h
      have ih := grant_ok hr ps h
      have e' : toldL G person word p rs = [] := by simpa using e
      rw [e']
      cases fitsR G person word p r <;> simp [ih]
    · rw [if_neg e] at h
      rw [if_neg (by cases q : toldL G person word p rs with | nil => rw [q] at e; simp at e | cons a t => simp)]
      rw [List.all_append, h]
      cases fitsR G person word p r <;> simp
theorem deny_ok (hr : r.2.2.2 = false) : ∀ ps : List Str, mayP G person word rs ps = false → mayP G person word (rs ++ [r]) ps = false
  | [], h => h
  | p :: ps, h => by
    unfold mayP at h ⊢
    rw [told_snoc, hr]
    by_cases e : (toldL G person word p rs).isEmpty = true
    · rw [if_pos e] at h
      have ih := deny_ok hr ps h
      have e' : toldL G person word p rs = [] := by simpa using e
      rw [e']
      cases fitsR G person word p r <;> simp [ih]
    · rw [if_neg e] at h
      rw [if_neg (by cases q : toldL G person word p rs with | nil => rw [q] at e; simp at e | cons a t => simp)]
      rw [List.all_append, h]
      rfl
theorem other_ok (hr : (names G person).contains r.1 = false) : ∀ ps : List Str, mayP G person word (rs ++ [r]) ps = mayP G person word rs ps
  | [] => rfl
  | p :: ps => by
    unfold mayP
    have : fitsR G person word p r = false := by unfold fitsR; rw [hr]; rfl
    rw [told_snoc, this, other_ok hr ps]
    simp
theorem may_congr {rs' : List R} (h : ∀ p, (toldL G person word p rs').isEmpty = (toldL G person word p rs).isEmpty ∧ (toldL G person word p rs').all id = (toldL G person word p rs).all id) : ∀ ps : List Str, mayP G person word rs' ps = mayP G person word rs ps
  | [] => rfl
  | p :: ps => by
    unfold mayP
    rw [(h p).1, (h p).2, may_congr h ps]
theorem twice_ok (ps : List Str) : mayP G person word (rs ++ rs) ps = mayP G person word rs ps := may_congr (fun p => by
  have : toldL G person word p (rs ++ rs) = toldL G person word p rs ++ toldL G person word p rs := by unfold toldL; rw [List.filter_append, List.map_append]
  rw [this, List.all_append]
  constructor
  · cases toldL G person word p rs <;> rfl
  · cases (toldL G person word p rs).all id <;> rfl) ps
theorem rev_ok (ps : List Str) : mayP G person word rs.reverse ps = mayP G person word rs ps := may_congr (fun p => by
  have : toldL G person word p rs.reverse = (toldL G person word p rs).reverse := by unfold toldL; rw [List.filter_reverse, List.map_reverse]
  rw [this, List.all_reverse]
  exact ⟨by cases toldL G person word p rs <;> simp, rfl⟩) ps
def nearL (G : List (AV × AV)) (person word : Str) (rs : List R) (ps : List Str) : List Str := ps.filter fun p => !(toldL G person word p rs).isEmpty
theorem near_nil : ∀ ps : List Str, nearL G person word rs ps = [] → mayP G person word rs ps = false
  | [], _ => rfl
  | p :: ps, h => by
    unfold nearL at h
    rw [List.filter_cons] at h
    unfold mayP
    by_cases e : (toldL G person word p rs).isEmpty = true
    · rw [if_pos e]
      rw [if_neg (by simp [e])] at h
      exact near_nil ps h
    · rw [if_pos (by simpa using e)] at h
      cases h
theorem near_cons {n : Str} {t : List Str} : ∀ ps : List Str, nearL G person word rs ps = n :: t → n ∈ ps ∧ (toldL G person word n rs).isEmpty = false ∧ mayP G person word rs ps = (toldL G person word n rs).all id
  | [], h => by cases h
  | p :: ps, h => by
    unfold nearL at h
    rw [List.filter_cons] at h
    unfold mayP
    by_cases e : (toldL G person word p rs).isEmpty = true
    · rw [if_pos e]
      rw [if_neg (by simp [e])] at h
      obtain ⟨h1, h2, h3⟩ := near_cons ps h
      exact ⟨List.mem_cons_of_mem _ h1, h2, h3⟩
    · rw [if_neg e]
      rw [if_pos (by simpa using e)] at h
      cases h
      exact ⟨List.mem_cons_self, by simpa using e, rfl⟩
theorem paths_head {n : Str} (h : n ∈ gs) : ∃ t, pathsA n = n :: t := by
  unfold gs at h
  simp only [List.mem_cons, List.not_mem_nil, or_false] at h
  rcases h with rfl | rfl | rfl | rfl | rfl <;> exact ⟨_, rfl⟩
theorem paths_gs {g n : Str} (h : g ∈ gs) (hn : n ∈ pathsA g) : n ∈ gs := by
  have : ∀ g ∈ gs, ∀ n ∈ pathsA g, n ∈ gs := by decide +kernel
  exact this g h n hn
theorem near_ok {n g : Str} {t : List Str} (hg : g ∈ gs) (h : nearL G person word rs (pathsA g) = n :: t) : n ∈ gs ∧ mayP G person word rs (pathsA n) = mayP G person word rs (pathsA g) := by
  obtain ⟨h1, h2, h3⟩ := near_cons _ h
  have hn := paths_gs hg h1
  refine ⟨hn, ?_⟩
  obtain ⟨t', e⟩ := paths_head hn
  rw [e, h3]
  show (if (toldL G person word n rs).isEmpty = true then _ else _) = _
  rw [if_neg (by rw [h2]; decide)]
end
theorem roll_is : f__law_roll = f_roll := rfl
theorem sel_rolls {i : Nat} {σ : AS} (hσ : σ[0]? = some (some (.ref i))) (hl : 5 < σ.length) : ∀ (xs : List Str) (h : AH), Dice h i → ∃ bs h', bs.length = xs.length ∧
    compL (nameT 5) (bin eqV (callD f__law_roll [(varD 0), (cD (.int 3))]) (cD (.int 0))) (varD 5) σ (xs.map .str) h = .ok ((sel xs bs).map .str) h' ∧ Only1 i h h' ∧ Dice h' i
  | [], h, hd => ⟨[], h, rfl, rfl, .refl, hd⟩
  | x :: xs, h, hd => by
    obtain ⟨r, h1, e1, r0, r1, k1, d1⟩ := roll_ok (m := 3) hd (by decide) (by decide)
    obtain ⟨bs, h', hbs, e2, k2, d2⟩ := sel_rolls hσ hl xs h1 d1
    refine ⟨(r == 0) :: bs, h', by simp [hbs], ?_, k1.trans k2, d2⟩
    have g0 : (σ.set 5 (some (AV.str x)))[0]? = some (some (.ref i)) := by rw [List.getElem?_set_ne (by decide)]; exact hσ
    have g5 : (σ.set 5 (some (AV.str x)))[5]? = some (some (.str x)) := List.getElem?_set_self hl
    have c : bin eqV (callD f__law_roll [(varD 0), (cD (.int 3))]) (cD (.int 0)) (σ.set 5 (some (AV.str x))) h = .ok (.bl (r == 0)) h1 := by
      simp only [bin, callD, evs, varD, g0, cD, ER.bindL_ok, LR.bindL_ok, LR.bind_ok, roll_is, e1, ER.bind_ok, eqV_int]
    rw [List.map_cons]
    unfold compL
    simp only [nameT, c, varD, g5]
    cases hr : (r == 0) with
    | true => simp only [e2, sel, if_true, List.map_cons]
    | false => simp only [e2, sel, Bool.false_eq_true, if_false]
def gb : SV := (seqS (setS 4 (compD [5] (nameT 5) (itD (varD 2)) (bin eqV (callD f__law_roll [(varD 0), (cD (.int 3))]) (cD (.int 0))) (varD 5)))
  (seqS (putS 1 (varD 3) (callD tupleF [(varD 4)]))
  (appendS 2 (varD 3))))
theorem gb_ok {i : Nat} {kvs : List (AV × AV)} {ns : List Str} {g : Str} {x4 x5 : Option AV} {h : AH} (hd : Dice h i) (hn : ns.length < 60) (hk : kvs.length < 60) : ∃ bs h' y4, bs.length = ns.length ∧ Only1 i h h' ∧ Dice h' i ∧
    gb [some (.ref i), some (.dct kvs), some (.lst (ns.map .str)), some (.str g), x4, x5] h = .nx [some (.ref i), some (.dct (dput kvs (.str g) (.tup ((sel ns bs).map .str)))), some (.lst ((ns ++ [g]).map .str)), some (.str g), y4, x5] h' := by
  obtain ⟨bs, h', hbs, e, k, d⟩ := sel_rolls (i := i) (σ := [some (.ref i), some (.dct kvs), some (.lst (ns.map .str)), some (.str g), x4, none]) rfl (by simp) ns h hd
  have sl : ∀ (ns : List Str) (bs : List Bool), (sel ns bs).length ≤ ns.length := fun ns => by
    induction ns with
    | nil => intro bs; cases bs <;> simp [sel]
    | cons x ns ih =>
      intro bs
      cases bs with
      | nil => simp [sel]
      | cons b bs =>
        have := ih bs
        unfold sel
        split <;> simp <;> omega
  refine ⟨bs, h', some (.lst ((sel ns bs).map .str)), hbs, k, d, ?_⟩
  have c : compD [5] (nameT 5) (itD (varD 2)) (bin eqV (callD f__law_roll [(varD 0), (cD (.int 3))]) (cD (.int 0))) (varD 5) [some (.ref i), some (.dct kvs), some (.lst (ns.map .str)), some (.str g), x4, x5] h = .ok (.lst ((sel ns bs).map .str)) h' := by
    unfold compD
    have it : itD (varD 2) [some (.ref i), some (.dct kvs), some (.lst (ns.map .str)), some (.str g), x4, x5] h = .ok (ns.map .str) h := rfl
    rw [it]
    have w : wipeA [some (.ref i), some (.dct kvs), some (.lst (ns.map .str)), some (.str g), x4, x5] [5] = [some (.ref i), some (.dct kvs), some (.lst (ns.map .str)), some (.str g), x4, none] := rfl
    rw [w]
    simp only [LR.bind_ok, e]
    rw [if_pos]
    have := sl ns bs
    simp only [List.length_map]
    unfold LIM; omega
  unfold gb
  rw [seqS_nx (σ1 := [some (.ref i), some (.dct kvs), some (.lst (ns.map .str)), some (.str g), some (.lst ((sel ns bs).map .str)), x5]) (h1 := h') (by unfold setS; rw [c]; rfl)]
  have l1 : kvs.length < LIM := by unfold LIM; omega
  have l2 : ns.length < LIM := by unfold LIM; omega
  simp [seqS, putS, callD, evs, varD, ownPut, flatK, l1, appendS, ownL, l2]
theorem groups_ok {i : Nat} {h : AH} (hd : Dice h i) : ∃ G h', f__law_groups [.ref i] h = .ok (.dct G) h' ∧ Gok G ∧ Only1 i h h' ∧ Dice h' i := by
  obtain ⟨b1, h1, y1, l1, k1, d1, e1⟩ := gb_ok (kvs := []) (ns := n3) (g := "gods") (x4 := none) (x5 := none) hd (by decide) (by decide)
  obtain ⟨b2, h2, y2, l2, k2, d2, e2⟩ := gb_ok (kvs := dput [] (.str "gods") (.tup ((sel n3 b1).map .str))) (ns := n4) (g := "men") (x4 := y1) (x5 := none) d1 (by decide) (by show 1 < 60; decide)
  obtain ⟨b3, h3, y3, l3, k3, d3, e3⟩ := gb_ok (kvs := dput (dput [] (.str "gods") (.tup ((sel n3 b1).map .str))) (.str "men") (.tup ((sel n4 b2).map .str))) (ns := n5) (g := "all") (x4 := y2) (x5 := none) d2 (by decide) (by show 2 < 60; decide)
  refine ⟨gG (sel n3 b1) (sel n4 b2) (sel n5 b3), h3, ?_, ?_, k1.trans (k2.trans k3), d3⟩
  · unfold f__law_groups body m__law_groups
    show (match seqS (parS [1, 2] [(cD (.dct [])), (lstD [(cD (.str ("ann" : Str))), (cD (.str ("bob" : Str))), (cD (.str ("cat" : Str)))])]) (seqS (forS (nameT 3) (itD (lstD [(cD (.str ("gods" : Str))), (cD (.str ("men" : Str))), (cD (.str ("all" : Str)))])) gb) (retS (varD 1))) [some (.ref i), none, none, none, none, none] h with
      | .nx _ h' => ER.ok .non h' | .rt v h' => .ok v h' | .exc c f _ h' => .exc c f h' | _ => .stuck) = _
    rw [seqS_nx (σ1 := [some (.ref i), some (.dct []), some (.lst (n3.map .str)), none, none, none]) (h1 := h) (by rfl)]
    have f : forS (nameT 3) (itD (lstD [(cD (.str ("gods" : Str))), (cD (.str ("men" : Str))), (cD (.str ("all" : Str)))])) gb [some (.ref i), some (.dct []), some (.lst (n3.map .str)), none, none, none] h =
        .nx [some (.ref i), some (.dct (gG (sel n3 b1) (sel n4 b2) (sel n5 b3))), some (.lst ((n5 ++ [("all" : Str)]).map .str)), some (.str "all"), y3, none] h3 := by
      show forL (nameT 3) gb [.str "gods", .str "men", .str "all"] _ h = _
      unfold forL
      simp only [nameT, List.set]
      rw [e1]
      unfold forL
      simp only [nameT, List.set]
      have q2 : gb [some (.ref i), some (.dct (dput [] (.str "gods") (.tup ((sel n3 b1).map .str)))), some (.lst ((n3 ++ [("gods" : Str)]).map .str)), some (.str "men"), y1, none] h1 = _ := e2
      rw [q2]
      unfold forL
      simp only [nameT, List.set]
      have q3 : gb [some (.ref i), some (.dct (dput (dput [] (.str "gods") (.tup ((sel n3 b1).map .str))) (.str "men") (.tup ((sel n4 b2).map .str)))), some (.lst ((n4 ++ [("men" : Str)]).map .str)), some (.str "all"), y2, none] h2 = _ := e3
      rw [q3]
      rfl
    rw [seqS_nx f]
    rfl
  · match b1, l1 with
    | [a, b, c], _ => match b2, l2 with
      | [d, e, f, g], _ => match b3, l3 with
        | [p, q, r, s, t], _ =>
          have ch := all_chk a b c d e f g p q r s t
          rw [Bool.and_eq_true, Bool.and_eq_true] at ch
          refine ⟨fun k hk => ?_, rfl, fun s => ?_⟩
          · unfold keys at hk
            simp only [List.mem_cons, List.not_mem_nil, or_false] at hk
            rcases hk with rfl | rfl | rfl
            · exact ch.1.1
            · exact ch.1.2
            · exact ch.2
          · unfold gG keys
            rw [dlook_cons, dlook_cons, dlook_cons]
            simp only [eq_str, beq_iff_eq, List.mem_cons, List.not_mem_nil, or_false]
            by_cases c1 : ("gods" : Str) = s
            · subst c1; simp
            · rw [if_neg c1]
              by_cases c2 : ("men" : Str) = s
              · subst c2; simp
              · rw [if_neg c2]
                by_cases c3 : ("all" : Str) = s
                · subst c3; simp
                · rw [if_neg c3]
                  simp [dlook, Ne.symm c1, Ne.symm c2, Ne.symm c3, eq_comm]
end K29
end

section
namespace K29
open PySem (Str)
open D
def rOk (r : R) : Prop := sOk r.1 = true ∧ sOk r.2.1 = true ∧ sOk r.2.2.1 = true
theorem oks : ∀ s ∈ ([("ann" : Str), "bob", "gods", "men", "all", "read", "write", "", "a", "a/b", "a/b/c", "d"] : List Str), sOk s = true := by decide +kernel
def rbody : SV := (seqS (parS [3, 4] [(bin getV (lstD [(cD (.str ("ann" : Str))), (cD (.str ("bob" : Str))), (cD (.str ("gods" : Str))), (cD (.str ("men" : Str))), (cD (.str ("all" : Str)))]) (callD f__law_roll [(varD 0), (cD (.int 5))])), (bin getV (lstD [(cD (.str ("read" : Str))), (cD (.str ("write" : Str)))]) (callD f__law_roll [(varD 0), (cD (.int 2))]))])
  (appendS 1 (tupD [(varD 3), (varD 4), (bin getV (lstD [(cD (.str ("" : Str))), (cD (.str ("a" : Str))), (cD (.str ("a/b" : Str))), (cD (.str ("a/b/c" : Str))), (cD (.str ("d" : Str)))]) (callD f__law_roll [(varD 0), (cD (.int 5))])), (bin gtV (callD f__law_roll [(varD 0), (cD (.int 3))]) (cD (.int 0)))])))
theorem rbody_ok {i : Nat} {rs : List R} {x2 x3 x4 : Option AV} {h : AH} {P : Po} (hd : Dice h i) (hl : rs.length < 100) (q : ∀ r x3 x4 h', rOk r → Only1 i h h' → Dice h' i → P.nx [some (.ref i), some (.lst ((rs ++ [r]).map enc)), x2, x3, x4] h') :
    (rbody [some (.ref i), some (.lst (rs.map enc)), x2, x3, x4] h).sat P := by
  have hL : rs.length < LIM := by unfold LIM; omega
  unfold rbody
  simp only [sat_seqS, sat_parS, sat_evs_cons, sat_evs_nil, sat_bin, sat_lstD, sat_cD, sat_callD, sat_varD, List.getElem?_cons_zero, List.getElem?_cons_succ, slot_some, roll_is]
  refine roll_sat hd (by decide) (by decide) fun r1 h1 a1 b1 k1 d1 => ?_
  refine pick_sat a1 (by simpa using b1) fun x hx => ?_
  refine roll_sat d1 (by decide) (by decide) fun r2 h2 a2 b2 k2 d2 => ?_
  refine pick_sat a2 (by simpa using b2) fun y hy => ?_
  simp only [setAll, List.set, sat_appendS, ownL, List.getElem?_cons_zero, List.getElem?_cons_succ, sat_tupD, sat_evs_cons, sat_evs_nil, sat_bin, sat_lstD, sat_cD, sat_callD, sat_varD, slot_some, roll_is]
  refine roll_sat d2 (by decide) (by decide) fun r3 h3 a3 b3 k3 d3 => ?_
  refine pick_sat a3 (by simpa using b3) fun z hz => ?_
  refine roll_sat d3 (by decide) (by decide) fun r4 h4 a4 b4 k4 d4 => ?_
  simp only [gtV_int, ER.sat_ok]
  have sx : ∃ s, x = .str s ∧ sOk s = true := by
    simp only [List.mem_cons, List.not_mem_nil, or_false] at hx
    rcases hx with rfl | rfl | rfl | rfl | rfl <;> exact ⟨_, rfl, oks _ (by simp)⟩
  have sy : ∃ s, y = .str s ∧ sOk s = true := by
    simp only [List.mem_cons, List.not_mem_nil, or_false] at hy
    rcases hy with rfl | rfl <;> exact ⟨_, rfl, oks _ (by simp)⟩
  have sz : ∃ s, z = .str s ∧ sOk s = true := by
    simp only [List.mem_cons, List.not_mem_nil, or_false] at hz
    rcases hz with rfl | rfl | rfl | rfl | rfl <;> exact ⟨_, rfl, oks _ (by simp)⟩
  obtain ⟨sx, rfl, ox⟩ := sx
  obtain ⟨sy, rfl, oy⟩ := sy
  obtain ⟨sz, rfl, oz⟩ := sz
  refine ⟨by simpa using hL, ?_⟩
  have := q (sx, sy, sz, decide (0 < r4)) (some (.str sx)) (some (.str sy)) h4 ⟨ox, oy, oz⟩ (k1.trans (k2.trans (k3.trans k4))) d4
  rw [List.map_append] at this
  exact this
theorem rules_ok {i : Nat} {h : AH} (hd : Dice h i) : ∃ (rs : List R) (h' : AH), f__law_rules [.ref i] h = .ok (.tup (rs.map enc)) h' ∧ rs.length ≤ 8 ∧ (∀ r ∈ rs, rOk r) ∧ Only1 i h h' ∧ Dice h' i := by
  have key : (f__law_rules [.ref i] h).sat (fun v h' => ∃ rs : List R, v = .tup (rs.map enc) ∧ rs.length ≤ 8 ∧ (∀ r ∈ rs, rOk r) ∧ Only1 i h h' ∧ Dice h' i) noE := by
    unfold f__law_rules
    rw [sat_body]
    show (seqS (setS 1 (lstD [])) (seqS (forS (nameT 2) (rangeD range1F [(callD f__law_roll [(varD 0), (cD (.int 8))])]) rbody) (retS (callD tupleF [(varD 1)]))) [some (.ref i), none, none, none, none] h).sat _
    simp only [sat_seqS, sat_setS, sat_lstD, sat_evs_nil, List.set, sat_forS, sat_rangeD, sat_evs_cons, sat_callD, sat_varD, sat_cD, List.getElem?_cons_zero, List.getElem?_cons_succ, slot_some, roll_is]
    refine roll_sat hd (by decide) (by decide) fun r h1 a b k d => ?_
    have rg : range1F [.int r] = some (rangeL 0 r.toNat) := by
      show (if B62 r = true then some (rangeL 0 r.toNat) else none) = _
      rw [if_pos]
      unfold B62
      simp only [Bool.and_eq_true, decide_eq_true_eq]
      constructor
      · exact Int.le_trans (by decide) a
      · exact Int.lt_trans b (by decide)
    simp only [rg]
    refine sat_forL (fun n σ h2 => ∃ (rs : List R) (x2 x3 x4 : Option AV), σ = [some (.ref i), some (.lst (rs.map enc)), x2, x3, x4] ∧ rs.length = n ∧ (∀ r ∈ rs, rOk r) ∧ Only1 i h h2 ∧ Dice h2 i) _ 0 _ _ ⟨[], none, none, none, rfl, rfl, (by simp), k, d⟩ ?_ ?_
    · rintro n x σ h2 hx ⟨rs, x2, x3, x4, rfl, hn, ho, k2, d2⟩
      have hxl : n < 8 := by
        have := (List.getElem?_eq_some_iff.mp hx).1
        simp [rangeL] at this
        omega
      refine ⟨_, rfl, ?_⟩
      refine rbody_ok d2 (by omega) fun r' x3 x4 h3 hr k3 d3 => ?_
      refine ⟨rs ++ [r'], _, x3, x4, rfl, by simp; omega, fun q hq => ?_, k2.trans k3, d3⟩
      rcases List.mem_append.mp hq with hq | hq
      · exact ho q hq
      · rw [List.mem_singleton.mp hq]; exact hr
    · rintro σ h2 ⟨rs, x2, x3, x4, rfl, hn, ho, k2, d2⟩
      simp only [sat_retS, sat_callD, sat_evs_cons, sat_evs_nil, sat_varD, List.getElem?_cons_zero, List.getElem?_cons_succ, slot_some, tupleF_lst, ER.sat_ok]
      refine ⟨rs, rfl, ?_, ho, k2, d2⟩
      have : (rangeL 0 r.toNat).length = r.toNat := by simp [rangeL]
      rw [this] at hn
      omega
  obtain ⟨v, h', e, rs, rfl, a, b, c, d⟩ := ER.sat_ex key
  exact ⟨rs, h', e, a, b, c, d⟩
end K29
end

section
namespace K29
open PySem (Str)
open D
def people : List Str := ["ann", "bob"]
def goals : List Str := ["a", "a/b", "a/b/c", "d"]
structure Cx where
  i : Nat
  G : List (AV × AV)
  rs : List R
  who : Str
  word : Str
  path : Str
def Cx.gr (c : Cx) : R := (c.who, c.word, c.path, true)
def Cx.de (c : Cx) : R := (c.who, c.word, c.path, false)
structure Cx.Ok (c : Cx) : Prop where
  G : Gok c.G
  len : c.rs.length ≤ 8
  rok : ∀ r ∈ c.rs, rOk r
  who : sOk c.who = true
  word : c.word ∈ words
  path : sOk c.path = true
abbrev ls (c : Cx) (x0 : Option AV) (p : Str) (x10 x11 x12 x13 x14 x15 x16 x17 : Option AV) : AS :=
  [x0, some (.ref c.i), some (.str p), some (.dct c.G), some (.tup (c.rs.map enc)), some (.str c.who), some (.str c.word), some (.str c.path), some (.tup ((c.rs ++ [c.gr]).map enc)), some (.tup ((c.rs ++ [c.de]).map enc)), x10, x11, x12, x13, x14, x15, x16, x17]
theorem oksP : ∀ p ∈ people, sOk p = true := by decide +kernel
theorem goals_gs {g : Str} (h : g ∈ goals) : g ∈ gs := by
  have : ∀ g ∈ goals, g ∈ gs := by decide +kernel
  exact this g h
theorem neV_bl (a b : Bool) (h : AH) : neV (.bl a) (.bl b) h = .ok (.bl (!(a == b))) h := rfl
theorem mayE {c : Cx} (K : c.Ok) {e eg : EV} {σ : AS} {h : AH} {p g : Str} {rs' : List R} (hp : sOk p = true) (hg : g ∈ gs) (hl : rs'.length ≤ 100) (h3 : σ[3]? = some (some (.dct c.G))) (he : e σ h = .ok (.tup (rs'.map enc)) h) (h2 : σ[2]? = some (some (.str p))) (h6 : σ[6]? = some (some (.str c.word))) (hge : eg σ h = .ok (.str g) h) :
    ∃ l, callD f_may [varD 3, e, varD 2, varD 6, eg] σ h = .ok (.bl (mayP c.G p c.word rs' (pathsA g))) (h ++ l) := by
  obtain ⟨l, e1⟩ := may_ok (rs := rs') K.G hp K.word hg (by unfold LIM; omega) h
  refine ⟨l, ?_⟩
  simp only [callD, evs, varD, h3, he, h2, h6, hge, ER.bindL_ok, LR.bindL_ok, LR.bind_ok, e1]
def rF : SV := retS (cD (.bl false))
theorem if_no {c : EV} {σ : AS} {h h' : AH} (e : c σ h = .ok (.bl false) h') : ifS c rF nxS σ h = .nx σ h' := by
  unfold ifS
  rw [e]
  rfl
def c1 : EV := (orD (andD (varD 12) (notD (callD f_may [(varD 3), (varD 8), (varD 2), (varD 6), (varD 11)]))) (andD (notD (varD 12)) (callD f_may [(varD 3), (varD 9), (varD 2), (varD 6), (varD 11)])))
def c2 : EV := (andD (notD (varD 10)) (bin neV (callD f_may [(varD 3), (varD 9), (varD 2), (varD 6), (varD 11)]) (varD 12)))
def c3 : EV := (orD (bin neV (callD f_may [(varD 3), (bin addV (varD 4) (varD 4)), (varD 2), (varD 6), (varD 11)]) (varD 12)) (bin neV (callD f_may [(varD 3), (un revTV (varD 4)), (varD 2), (varD 6), (varD 11)]) (varD 12)))
def s13 : EV := (bin addV (lstD [(varD 2)]) (compD [16] (nameT 16) (keysD 3) (bin inD (varD 2) (bin getV (callD f_members_of [(varD 3), (varD 16)]) (cD (.int 0)))) (varD 16)))
def s14 : EV := (compD [15] (nameT 15) (itD (callD f_paths_above [(varD 11)])) (bin neV (compD [17] (nameT 17) (itD (varD 4)) (cnd 13 6 15 17) (varD 17)) (lstD [])) (varD 15))
def c4 : EV := (orD (andD (bin eqV (varD 14) (lstD [])) (varD 12)) (andD (bin neV (varD 14) (lstD [])) (bin neV (callD f_may [(varD 3), (varD 4), (varD 2), (varD 6), (ifD (bin neV (bin getV (varD 14) (cD (.int 0))) (cD (.str ("" : Str)))) (bin getV (varD 14) (cD (.int 0))) (cD (.str ("" : Str))))]) (varD 12))))
def gbody : SV := (seqS (setS 12 (callD f_may [(varD 3), (varD 4), (varD 2), (varD 6), (varD 11)]))
  (seqS (ifS c1 rF nxS)
  (seqS (ifS c2 rF nxS)
  (seqS (ifS c3 rF nxS)
  (seqS (setS 13 s13)
  (seqS (setS 14 s14)
  (ifS c4 rF nxS)))))))
def pbody : SV := (seqS (setS 10 (orD (bin eqV (varD 5) (varD 2)) (andD (bin inD (varD 5) (varD 3)) (bin inD (varD 2) (bin getV (callD f_members_of [(varD 3), (varD 5)]) (cD (.int 0)))))))
  (forS (nameT 11) (itD (lstD [(cD (.str ("a" : Str))), (cD (.str ("a/b" : Str))), (cD (.str ("a/b/c" : Str))), (cD (.str ("d" : Str)))])) gbody))
def lbody : SV := (seqS (parS [3, 4] [(callD f__law_groups [(varD 1)]), (sliceD (callD f__law_rules [(varD 1)]) none (some (cD (.int 5))))])
  (seqS (parS [5, 6, 7] [(bin getV (lstD [(cD (.str ("ann" : Str))), (cD (.str ("gods" : Str))), (cD (.str ("all" : Str)))]) (callD f__law_roll [(varD 1), (cD (.int 3))])), (bin getV (lstD [(cD (.str ("read" : Str))), (cD (.str ("write" : Str)))]) (callD f__law_roll [(varD 1), (cD (.int 2))])), (bin getV (lstD [(cD (.str ("" : Str))), (cD (.str ("a" : Str))), (cD (.str ("a/b" : Str)))]) (callD f__law_roll [(varD 1), (cD (.int 3))]))])
  (seqS (parS [8, 9] [(bin addV (varD 4) (tupD [(tupD [(varD 5), (varD 6), (varD 7), (cD (.bl true))])])), (bin addV (varD 4) (tupD [(tupD [(varD 5), (varD 6), (varD 7), (cD (.bl false))])]))])
  (forS (nameT 2) (itD (lstD [(cD (.str ("ann" : Str))), (cD (.str ("bob" : Str)))])) pbody))))
theorem m_law_eq : m_law = seqS (forS (nameT 1) (itD (callD f_rounds [(varD 0), (cD (.int 2))])) lbody) (retS (cD (.bl true))) := rfl
section
variable {c : Cx} {x0 : Option AV} {p g : Str}
theorem gbody_ok (K : c.Ok) (hp : p ∈ people) (hg : g ∈ goals) {mt : Bool} (hm : (names c.G p).contains c.who = mt) {x12 x13 x14 x15 x16 x17 : Option AV} (h : AH) : ∃ l y12 y13 y14,
    gbody (ls c x0 p (some (.bl mt)) (some (.str g)) x12 x13 x14 x15 x16 x17) h = .nx (ls c x0 p (some (.bl mt)) (some (.str g)) y12 y13 y14 x15 x16 x17) (h ++ l) := by
  have ps := oksP p hp
  have hg' := goals_gs hg
  have lg : ∀ r : R, (c.rs ++ [r]).length ≤ 100 := fun r => by have := K.len; simp; omega
  -- now
  obtain ⟨l1, e1⟩ := mayE (σ := ls c x0 p (some (.bl mt)) (some (.str g)) x12 x13 x14 x15 x16 x17) (h := h) (rs' := c.rs) (e := varD 4) (eg := varD 11) K ps hg' (by have := K.len; omega) rfl rfl rfl rfl rfl
  generalize hnow : mayP c.G p c.word c.rs (pathsA g) = now at e1
  have t1 : setS 12 (callD f_may [(varD 3), (varD 4), (varD 2), (varD 6), (varD 11)]) (ls c x0 p (some (.bl mt)) (some (.str g)) x12 x13 x14 x15 x16 x17) h =
      .nx (ls c x0 p (some (.bl mt)) (some (.str g)) (some (.bl now)) x13 x14 x15 x16 x17) (h ++ l1) := by unfold setS; rw [e1]; rfl
  -- a grant, a denial
  have t2 : ∃ l2, c1 (ls c x0 p (some (.bl mt)) (some (.str g)) (some (.bl now)) x13 x14 x15 x16 x17) (h ++ l1) = .ok (.bl false) (h ++ l2) := by
    cases now with
    | true =>
      obtain ⟨l, e⟩ := mayE (σ := ls c x0 p (some (.bl mt)) (some (.str g)) (some (.bl true)) x13 x14 x15 x16 x17) (h := h ++ l1) (rs' := c.rs ++ [c.gr]) (e := varD 8) (eg := varD 11) K ps hg' (lg _) rfl rfl rfl rfl rfl
      rw [grant_ok rfl _ hnow] at e
      refine ⟨l1 ++ l, ?_⟩
      unfold c1
      simp only [orD, andD, notD, e, varD, List.getElem?_cons_zero, List.getElem?_cons_succ, ER.tst_ok, Bool.not_true, if_true, Bool.false_eq_true, if_false, List.append_assoc]
    | false =>
      obtain ⟨l, e⟩ := mayE (σ := ls c x0 p (some (.bl mt)) (some (.str g)) (some (.bl false)) x13 x14 x15 x16 x17) (h := h ++ l1) (rs' := c.rs ++ [c.de]) (e := varD 9) (eg := varD 11) K ps hg' (lg _) rfl rfl rfl rfl rfl
      rw [deny_ok rfl _ hnow] at e
      refine ⟨l1 ++ l, ?_⟩
      unfold c1
      simp only [orD, andD, notD, e, varD, List.getElem?_cons_zero, List.getElem?_cons_succ, ER.tst_ok, Bool.not_false, if_true, Bool.false_eq_true, if_false, List.append_assoc]
  obtain ⟨l2, e2⟩ := t2
  have t3 : ∃ l3, c2 (ls c x0 p (some (.bl mt)) (some (.str g)) (some (.bl now)) x13 x14 x15 x16 x17) (h ++ l2) = .ok (.bl false) (h ++ l3) := by
    cases mt with
    | true =>
      refine ⟨l2, ?_⟩
      unfold c2
      simp only [andD, notD, varD, List.getElem?_cons_zero, List.getElem?_cons_succ, ER.tst_ok, Bool.not_true, Bool.false_eq_true, if_false]
    | false =>
      obtain ⟨l, e⟩ := mayE (σ := ls c x0 p (some (.bl false)) (some (.str g)) (some (.bl now)) x13 x14 x15 x16 x17) (h := h ++ l2) (rs' := c.rs ++ [c.de]) (e := varD 9) (eg := varD 11) K ps hg' (lg _) rfl rfl rfl rfl rfl
      rw [other_ok hm, hnow] at e
      refine ⟨l2 ++ l, ?_⟩
      have b := bin_eq (f := neV) (b := varD 12) e (h2 := h ++ l2 ++ l) (y := .bl now) rfl
      unfold c2
      simp only [andD, notD, b, varD, List.getElem?_cons_zero, List.getElem?_cons_succ, ER.tst_ok, neV_bl, beq_self_eq_true, Bool.not_true, Bool.not_false, if_true, List.append_assoc]
  obtain ⟨l3, e3⟩ := t3
  have t4 : ∃ l4, c3 (ls c x0 p (some (.bl mt)) (some (.str g)) (some (.bl now)) x13 x14 x15 x16 x17) (h ++ l3) = .ok (.bl false) (h ++ l4) := by
    have a1 : bin addV (varD 4) (varD 4) (ls c x0 p (some (.bl mt)) (some (.str g)) (some (.bl now)) x13 x14 x15 x16 x17) (h ++ l3) = .ok (.tup ((c.rs ++ c.rs).map enc)) (h ++ l3) := by
      simp only [bin, varD, List.getElem?_cons_zero, List.getElem?_cons_succ, ER.bind_ok, addV_tup]
      rw [if_pos (by have := K.len; simp only [List.length_map]; unfold LIM; omega), List.map_append]
    obtain ⟨l, e⟩ := mayE (h := h ++ l3) (rs' := c.rs ++ c.rs) (e := bin addV (varD 4) (varD 4)) (eg := varD 11) (σ := ls c x0 p (some (.bl mt)) (some (.str g)) (some (.bl now)) x13 x14 x15 x16 x17) K ps hg' (by have := K.len; simp; omega) rfl a1 rfl rfl rfl
    rw [twice_ok, hnow] at e
    obtain ⟨l', e'⟩ := mayE (h := h ++ l3 ++ l) (rs' := c.rs.reverse) (e := un revTV (varD 4)) (eg := varD 11) (σ := ls c x0 p (some (.bl mt)) (some (.str g)) (some (.bl now)) x13 x14 x15 x16 x17) K ps hg' (by have := K.len; simp; omega) rfl (by simp only [un, varD, List.getElem?_cons_zero, List.getElem?_cons_succ, ER.bind_ok, revTV, List.map_reverse]) rfl rfl rfl
    rw [rev_ok, hnow] at e'
    refine ⟨l3 ++ l ++ l', ?_⟩
    have n1 := bin_eq (f := neV) (b := varD 12) e (h2 := h ++ l3 ++ l) (y := .bl now) rfl
    have n2 := bin_eq (f := neV) (b := varD 12) e' (h2 := h ++ l3 ++ l ++ l') (y := .bl now) rfl
    rw [neV_bl, beq_self_eq_true] at n1 n2
    unfold c3 orD
    rw [n1]
    simp only [ER.tst_ok, Bool.not_true, Bool.false_eq_true, if_false]
    rw [n2]
    simp only [Bool.not_true, List.append_assoc]
  obtain ⟨l4, e4⟩ := t4
  -- the law's own names
  obtain ⟨l5, e5⟩ := keys_comp (σ := ls c x0 p (some (.bl mt)) (some (.str g)) (some (.bl now)) x13 x14 x15 x16 x17) (jG := 3) (jp := 2) (j := 16) K.G (h ++ l4) rfl rfl (by decide) (by decide) (by simp)
  have t5 : setS 13 s13 (ls c x0 p (some (.bl mt)) (some (.str g)) (some (.bl now)) x13 x14 x15 x16 x17) (h ++ l4) =
      .nx (ls c x0 p (some (.bl mt)) (some (.str g)) (some (.bl now)) (some (.lst ((names c.G p).map .str))) x14 x15 x16 x17) (h ++ l4 ++ l5) := by
    have b := bin_eq (f := addV) (a := lstD [(varD 2)]) (x := .lst [.str p]) (h1 := h ++ l4) (by rfl) e5
    rw [addV_lst, if_pos] at b
    · unfold setS s13
      rw [b]
      rfl
    · have : (keys.filter (memb c.G p)).length ≤ keys.length := List.length_filter_le _ _
      have h3 : keys.length = 3 := rfl
      simp only [List.length_cons, List.length_nil, List.length_map]
      unfold LIM; omega
  -- where rules stand
  have hN : ∀ (x : Str) (h : AH), inD (.str x) (.lst ((names c.G p).map .str)) h = .ok (.bl ((names c.G p).contains x)) h := fun x h => by
    have : inV (.str x) (.lst ((names c.G p).map .str)) h = some ((names c.G p).contains x) := by
      show inRow (.str x) ((names c.G p).map .str) = _
      unfold inRow
      rw [if_pos (by unfold inOk; simp [List.all_map, isFlat])]
      congr 1
      rw [List.any_map]
      unfold List.contains
      rw [Bool.eq_iff_iff, List.any_eq_true, List.elem_iff]
      constructor
      · rintro ⟨y, h1, h2⟩
        have : y = x := by simpa [eq_str] using h2
        rw [← this]; exact h1
      · intro hx
        exact ⟨x, hx, by simp [eq_str]⟩
    unfold inD
    rw [this]
  have ncomp : s14 (ls c x0 p (some (.bl mt)) (some (.str g)) (some (.bl now)) (some (.lst ((names c.G p).map .str))) x14 x15 x16 x17) (h ++ l4 ++ l5) = .ok (.lst ((nearL c.G p c.word c.rs (pathsA g)).map .str)) (h ++ l4 ++ l5) := by
    unfold s14
    have it : itD (callD f_paths_above [(varD 11)]) (ls c x0 p (some (.bl mt)) (some (.str g)) (some (.bl now)) (some (.lst ((names c.G p).map .str))) x14 x15 x16 x17) (h ++ l4 ++ l5) = .ok ((pathsA g).map .str) (h ++ l4 ++ l5) := by
      simp only [itD, callD, evs, varD, List.getElem?_cons_zero, List.getElem?_cons_succ, ER.bindL_ok, LR.bindL_ok, LR.bind_ok, paths_ok _ hg', iterV, optL_some]
    have cl := compL_enc (t := nameT 15) (c := bin neV (compD [17] (nameT 17) (itD (varD 4)) (cnd 13 6 15 17) (varD 17)) (lstD [])) (e := varD 15) (σ := wipeA (ls c x0 p (some (.bl mt)) (some (.str g)) (some (.bl now)) (some (.lst ((names c.G p).map .str))) x14 x15 x16 x17) [15]) (h := h ++ l4 ++ l5) AV.str (fun q => if (!(toldL c.G p c.word q c.rs).isEmpty) = true then some (AV.str q) else none) (pathsA g) fun q _ => by
      refine ⟨ls c x0 p (some (.bl mt)) (some (.str g)) (some (.bl now)) (some (.lst ((names c.G p).map .str))) x14 (some (.str q)) x16 x17, rfl, ?_⟩
      have rc := rules_comp (G := c.G) (person := p) (word := c.word) (here := q) (N := .lst ((names c.G p).map .str)) (σ := ls c x0 p (some (.bl mt)) (some (.str g)) (some (.bl now)) (some (.lst ((names c.G p).map .str))) x14 (some (.str q)) x16 x17) (h := h ++ l4 ++ l5) (jn := 13) (jw := 6) (jh := 15) (jr := 4) (j := 17) (rs := c.rs) (e := varD 17) (f := enc) (fun x => hN x _) rfl rfl rfl rfl (by simp) (by decide) (by decide) (by decide) (fun σ' r e => by simp only [varD, e]) (by have := K.len; unfold LIM; omega)
      have dl : (AV.lst ((c.rs.filter (fitsR c.G p c.word q)).map enc)).dl DEPTH = true := by
        show List.all _ (AV.dl 49) = true
        rw [List.all_map, List.all_eq_true]
        intro r hr
        obtain ⟨o1, o2, o3⟩ := K.rok r (List.mem_filter.mp hr).1
        show ([AV.str r.1, .str r.2.1, .str r.2.2.1, .bl r.2.2.2].all (AV.dl 48)) = true
        simp only [List.all_cons, List.all_nil, AV.dl, o1, o2, o3, Bool.and_self]
      have b := bin_eq (f := neV) (b := lstD []) rc (h2 := h ++ l4 ++ l5) (y := .lst []) rfl
      rw [neV_nil dl] at b
      have e1 : ((c.rs.filter (fitsR c.G p c.word q)).map enc).isEmpty = (toldL c.G p c.word q c.rs).isEmpty := by
        unfold toldL
        cases c.rs.filter (fitsR c.G p c.word q) <;> rfl
      rw [e1] at b
      cases hf : (!(toldL c.G p c.word q c.rs).isEmpty) with
      | true => exact .inl ⟨.str q, by rw [b, hf], rfl, by simp⟩
      | false => exact .inr ⟨by rw [b, hf], by simp⟩
    rw [comp_eq it cl, filterMap_if]
    · rfl
    · rw [filterMap_if, List.length_map]
      have h1 : ((pathsA g).filter fun q => !(toldL c.G p c.word q c.rs).isEmpty).length ≤ (pathsA g).length := List.length_filter_le _ _
      have h2 : ∀ g ∈ gs, (pathsA g).length ≤ 10 := by decide +kernel
      have h3 := h2 g hg'
      unfold LIM; omega
  have t6 : setS 14 s14 (ls c x0 p (some (.bl mt)) (some (.str g)) (some (.bl now)) (some (.lst ((names c.G p).map .str))) x14 x15 x16 x17) (h ++ l4 ++ l5) =
      .nx (ls c x0 p (some (.bl mt)) (some (.str g)) (some (.bl now)) (some (.lst ((names c.G p).map .str))) (some (.lst ((nearL c.G p c.word c.rs (pathsA g)).map .str))) x15 x16 x17) (h ++ l4 ++ l5) := by
    unfold setS
    rw [ncomp]
    rfl
  have t7 : ∃ l7, c4 (ls c x0 p (some (.bl mt)) (some (.str g)) (some (.bl now)) (some (.lst ((names c.G p).map .str))) (some (.lst ((nearL c.G p c.word c.rs (pathsA g)).map .str))) x15 x16 x17) (h ++ l4 ++ l5) = .ok (.bl false) (h ++ l7) := by
    have sg : ∀ q ∈ gs, sOk q = true := by decide +kernel
    cases hn : nearL c.G p c.word c.rs (pathsA g) with
    | nil =>
      have hf := near_nil _ hn
      rw [hnow] at hf
      subst hf
      refine ⟨l4 ++ l5, ?_⟩
      rw [← List.append_assoc]
      rfl
    | cons n t =>
      obtain ⟨gn, hv⟩ := near_ok hg' hn
      rw [hnow] at hv
      have dl : (AV.lst ((n :: t).map AV.str)).dl DEPTH = true := by
        show List.all _ (AV.dl 49) = true
        rw [List.all_map, List.all_eq_true]
        intro q hq
        have : q ∈ nearL c.G p c.word c.rs (pathsA g) := by rw [hn]; exact hq
        exact sg q (paths_gs hg' (List.mem_filter.mp this).1)
      obtain ⟨l, e⟩ := mayE (h := h ++ l4 ++ l5) (rs' := c.rs) (e := varD 4) (eg := (ifD (bin neV (bin getV (varD 14) (cD (.int 0))) (cD (.str ("" : Str)))) (bin getV (varD 14) (cD (.int 0))) (cD (.str ("" : Str))))) (σ := ls c x0 p (some (.bl mt)) (some (.str g)) (some (.bl now)) (some (.lst ((names c.G p).map .str))) (some (.lst ((n :: t).map .str))) x15 x16 x17) (g := n) K ps gn (by have := K.len; omega) rfl rfl rfl rfl (by
        simp only [ifD, bin, varD, cD, List.getElem?_cons_zero, List.getElem?_cons_succ, ER.bind_ok, List.map_cons, getV_lst, atI_zero, optE_some, neV_str, ER.tst_ok]
        by_cases hne : n = ""
        · subst hne; simp
        · have : (n == "") = false := by simpa using hne
          rw [this]; rfl)
      rw [hv] at e
      refine ⟨l4 ++ l5 ++ l, ?_⟩
      have n1 := bin_eq (f := neV) (b := varD 12) e (h2 := h ++ l4 ++ l5 ++ l) (y := .bl now) rfl
      rw [neV_bl, beq_self_eq_true] at n1
      have b1 := bin_eq (f := eqV) (a := varD 14) (b := lstD []) (σ := ls c x0 p (some (.bl mt)) (some (.str g)) (some (.bl now)) (some (.lst ((names c.G p).map .str))) (some (.lst ((n :: t).map .str))) x15 x16 x17) (h := h ++ l4 ++ l5) (h1 := h ++ l4 ++ l5) (h2 := h ++ l4 ++ l5) (x := .lst ((n :: t).map .str)) (y := .lst []) rfl rfl
      have b2 := bin_eq (f := neV) (a := varD 14) (b := lstD []) (σ := ls c x0 p (some (.bl mt)) (some (.str g)) (some (.bl now)) (some (.lst ((names c.G p).map .str))) (some (.lst ((n :: t).map .str))) x15 x16 x17) (h := h ++ l4 ++ l5) (h1 := h ++ l4 ++ l5) (h2 := h ++ l4 ++ l5) (x := .lst ((n :: t).map .str)) (y := .lst []) rfl rfl
      rw [eqV_nil dl] at b1
      rw [neV_nil dl] at b2
      unfold c4 orD andD
      have hemp : ((n :: t).map AV.str).isEmpty = false := rfl
      rw [hemp] at b1 b2
      rw [b1]
      simp only [ER.tst_ok, Bool.false_eq_true, if_false]
      rw [b2]
      simp only [ER.tst_ok, Bool.not_false, if_true]
      rw [n1]
      simp only [Bool.not_true, List.append_assoc]
  obtain ⟨l7, e7⟩ := t7
  refine ⟨l7, some (.bl now), some (.lst ((names c.G p).map .str)), some (.lst ((nearL c.G p c.word c.rs (pathsA g)).map .str)), ?_⟩
  unfold gbody
  rw [seqS_nx t1, seqS_nx (if_no e2), seqS_nx (if_no e3), seqS_nx (if_no e4), seqS_nx t5, seqS_nx t6]
  exact if_no e7
theorem pbody_ok (K : c.Ok) (hp : p ∈ people) {x10 x11 x12 x13 x14 x15 x16 x17 : Option AV} (h : AH) : ∃ l y10 y11 y12 y13 y14,
    pbody (ls c x0 p x10 x11 x12 x13 x14 x15 x16 x17) h = .nx (ls c x0 p y10 y11 y12 y13 y14 x15 x16 x17) (h ++ l) := by
  have t1 : ∃ l, (orD (bin eqV (varD 5) (varD 2)) (andD (bin inD (varD 5) (varD 3)) (bin inD (varD 2) (bin getV (callD f_members_of [(varD 3), (varD 5)]) (cD (.int 0)))))) (ls c x0 p x10 x11 x12 x13 x14 x15 x16 x17) h = .ok (.bl ((names c.G p).contains c.who)) (h ++ l) := by
    have q1 : bin eqV (varD 5) (varD 2) (ls c x0 p x10 x11 x12 x13 x14 x15 x16 x17) h = .ok (.bl (c.who == p)) h := by
      rw [bin_eq (f := eqV) (x := .str c.who) (y := .str p) (h1 := h) (h2 := h) rfl rfl, eqV_str]
    have q2 : bin inD (varD 5) (varD 3) (ls c x0 p x10 x11 x12 x13 x14 x15 x16 x17) h = .ok (.bl (decide (c.who ∈ keys))) h := by
      rw [bin_eq (f := inD) (x := .str c.who) (y := .dct c.G) (h1 := h) (h2 := h) rfl rfl, in_dct, K.G.2.2]
    unfold orD andD
    rw [q1]
    simp only [ER.tst_ok, q2]
    cases hw : (c.who == p) with
    | true =>
      refine ⟨[], ?_⟩
      have : (names c.G p).contains c.who = true := by
        unfold names
        rw [List.contains_cons, hw]; rfl
      rw [if_pos rfl, this, List.append_nil]
    | false =>
      rw [if_neg (by decide)]
      by_cases hk : c.who ∈ keys
      · obtain ⟨l, pp, ii, m1, m2⟩ := in_members (person := p) (K.G.1 _ hk) h
        refine ⟨l, ?_⟩
        have : (names c.G p).contains c.who = memb c.G p c.who := by
          unfold names
          rw [List.contains_cons, hw, Bool.false_or]
          rw [Bool.eq_iff_iff, List.contains_iff_mem, List.mem_filter]
          simp [hk]
        rw [this]
        simp only [decide_eq_true hk, ER.tst_ok, if_true]
        simp only [bin, callD, evs, varD, cD, List.getElem?_cons_zero, List.getElem?_cons_succ, ER.bind_ok, ER.bindL_ok, LR.bindL_ok, LR.bind_ok, m1, getV_tup, atI_zero, optE_some, m2]
      · refine ⟨[], ?_⟩
        have : (names c.G p).contains c.who = false := by
          unfold names
          rw [List.contains_cons, hw, Bool.false_or]
          rw [Bool.eq_false_iff]
          intro z
          exact hk (List.mem_filter.mp (List.contains_iff_mem.mp z)).1
        rw [this]
        simp [hk]
  obtain ⟨l1, e1⟩ := t1
  have t2 : setS 10 (orD (bin eqV (varD 5) (varD 2)) (andD (bin inD (varD 5) (varD 3)) (bin inD (varD 2) (bin getV (callD f_members_of [(varD 3), (varD 5)]) (cD (.int 0)))))) (ls c x0 p x10 x11 x12 x13 x14 x15 x16 x17) h =
      .nx (ls c x0 p (some (.bl ((names c.G p).contains c.who))) x11 x12 x13 x14 x15 x16 x17) (h ++ l1) := by unfold setS; rw [e1]; rfl
  unfold pbody
  rw [seqS_nx t2]
  have loop : ∀ (gl : List Str), (∀ g ∈ gl, g ∈ goals) → ∀ (x11 x12 x13 x14 : Option AV) (h : AH), ∃ l y11 y12 y13 y14,
      forL (nameT 11) gbody (gl.map .str) (ls c x0 p (some (.bl ((names c.G p).contains c.who))) x11 x12 x13 x14 x15 x16 x17) h = .nx (ls c x0 p (some (.bl ((names c.G p).contains c.who))) y11 y12 y13 y14 x15 x16 x17) (h ++ l) := by
    intro gl
    induction gl with
    | nil => intro _ x11 x12 x13 x14 h; exact ⟨[], x11, x12, x13, x14, by rw [List.append_nil]; rfl⟩
    | cons g gl ih =>
      intro hg x11 x12 x13 x14 h
      obtain ⟨l, y12, y13, y14, e⟩ := gbody_ok (x0 := x0) (x12 := x12) (x13 := x13) (x14 := x14) (x15 := x15) (x16 := x16) (x17 := x17) K hp (hg g List.mem_cons_self) rfl h
      obtain ⟨l', z11, z12, z13, z14, e'⟩ := ih (fun g' h' => hg g' (List.mem_cons_of_mem _ h')) (some (.str g)) y12 y13 y14 (h ++ l)
      refine ⟨l ++ l', z11, z12, z13, z14, ?_⟩
      rw [List.map_cons]
      unfold forL
      simp only [nameT, List.set]
      rw [e, ← List.append_assoc]
      exact e'
  obtain ⟨l2, y11, y12, y13, y14, e2⟩ := loop goals (fun _ h => h) x11 x12 x13 x14 (h ++ l1)
  refine ⟨l1 ++ l2, some (.bl ((names c.G p).contains c.who)), y11, y12, y13, y14, ?_⟩
  rw [← List.append_assoc]
  exact e2
end
theorem lbody_ok (σ : AS) (h : AH) (i : Nat) (hl : σ.length = 18) (hd : Dice h i) : ∃ σ' h', lbody (σ.set 1 (some (.ref i))) h = .nx σ' h' ∧ σ'.length = 18 ∧ Keep i h h' := by
  match σ, hl with
  | [x0, x1, x2, x3, x4, x5, x6, x7, x8, x9, x10, x11, x12, x13, x14, x15, x16, x17], _ =>
  have key : (lbody ([x0, x1, x2, x3, x4, x5, x6, x7, x8, x9, x10, x11, x12, x13, x14, x15, x16, x17].set 1 (some (.ref i))) h).sat (nxP fun σ' h' => σ'.length = 18 ∧ Keep i h h') := by
    obtain ⟨G, h1, e1, hG, k1, d1⟩ := groups_ok hd
    obtain ⟨rs, h2, e2, hl2, ro, k2, d2⟩ := rules_ok d1
    have cutE : sliceV (.tup (rs.map enc)) none (some 5) h2 = .ok (.tup ((rs.take 5).map enc)) h2 := by
      show ER.ok (.tup (cut (rs.map enc) none (some 5))) h2 = _
      have : cut (rs.map enc) none (some 5) = (rs.take 5).map enc := by
        unfold cut sIx
        simp only [List.drop_zero, Nat.sub_zero, List.map_take]
        have : min (5 : Int).toNat (rs.map enc).length = min 5 rs.length := by simp
        rw [if_neg (by decide), this]
        by_cases h5 : 5 ≤ rs.length
        · rw [Nat.min_eq_left h5]
        · rw [Nat.min_eq_right (by omega), List.take_of_length_le (by simp), List.take_of_length_le (by simp; omega)]
      rw [this]
    unfold lbody
    simp only [List.set, sat_seqS, sat_parS, sat_evs_cons, sat_evs_nil, sat_callD, sat_varD, sat_sliceD, sat_partN, sat_partS, sat_cD, List.getElem?_cons_zero, List.getElem?_cons_succ, slot_some, e1, e2, ER.sat_ok, pI, cutE, setAll, List.set, sat_bin, sat_lstD, roll_is]
    refine roll_sat d2 (by decide) (by decide) fun r3 h3 a3 b3 k3 d3 => ?_
    refine pick_sat a3 (by simpa using b3) fun w hw => ?_
    refine roll_sat d3 (by decide) (by decide) fun r4 h4 a4 b4 k4 d4 => ?_
    refine pick_sat a4 (by simpa using b4) fun v hv => ?_
    refine roll_sat d4 (by decide) (by decide) fun r5 h5 a5 b5 k5 d5 => ?_
    refine pick_sat a5 (by simpa using b5) fun u hu => ?_
    have sw : ∃ s, w = .str s ∧ sOk s = true := by
      simp only [List.mem_cons, List.not_mem_nil, or_false] at hw
      rcases hw with rfl | rfl | rfl <;> exact ⟨_, rfl, oks _ (by simp)⟩
    have sv : ∃ s, v = .str s ∧ s ∈ words := by
      simp only [List.mem_cons, List.not_mem_nil, or_false] at hv
      rcases hv with rfl | rfl <;> exact ⟨_, rfl, by simp [words]⟩
    have su : ∃ s, u = .str s ∧ sOk s = true := by
      simp only [List.mem_cons, List.not_mem_nil, or_false] at hu
      rcases hu with rfl | rfl | rfl <;> exact ⟨_, rfl, oks _ (by simp)⟩
    obtain ⟨w, rfl, ow⟩ := sw
    obtain ⟨v, rfl, ov⟩ := sv
    obtain ⟨u, rfl, ou⟩ := su
    have K : Cx.Ok ⟨i, G, rs.take 5, w, v, u⟩ := ⟨hG, by simp; omega, fun r hr => ro r (List.mem_of_mem_take hr), ow, ov, ou⟩
    have ap : ∀ b : Bool, addV (.tup ((rs.take 5).map enc)) (.tup [.tup [.str w, .str v, .str u, .bl b]]) h5 = .ok (.tup ((rs.take 5 ++ [(w, v, u, b)]).map enc)) h5 := fun b => by
      rw [addV_tup, if_pos, List.map_append]
      · rfl
      · simp only [List.length_map, List.length_take, List.length_cons, List.length_nil]
        unfold LIM; omega
    simp only [setAll, List.set, sat_parS, sat_evs_cons, sat_evs_nil, sat_bin, sat_varD, sat_tupD, sat_cD, List.getElem?_cons_zero, List.getElem?_cons_succ, slot_some, ap, ER.sat_ok, sat_forS, sat_itD, sat_lstD, iterV]
    have kk : Keep i h h5 := (k1.trans (k2.trans (k3.trans (k4.trans k5)))).keep
    obtain ⟨l1, y10, y11, y12, y13, y14, p1⟩ := pbody_ok (c := ⟨i, G, rs.take 5, w, v, u⟩) (x0 := x0) (p := "ann") (x10 := x10) (x11 := x11) (x12 := x12) (x13 := x13) (x14 := x14) (x15 := x15) (x16 := x16) (x17 := x17) K (by simp [people]) h5
    obtain ⟨l2, z10, z11, z12, z13, z14, p2⟩ := pbody_ok (c := ⟨i, G, rs.take 5, w, v, u⟩) (x0 := x0) (p := "bob") (x10 := y10) (x11 := y11) (x12 := y12) (x13 := y13) (x14 := y14) (x15 := x15) (x16 := x16) (x17 := x17) K (by simp [people]) (h5 ++ l1)
    have f : forL (nameT 2) pbody [.str "ann", .str "bob"] [x0, some (.ref i), x2, some (.dct G), some (.tup ((rs.take 5).map enc)), some (.str w), some (.str v), some (.str u), some (.tup ((rs.take 5 ++ [(w, v, u, true)]).map enc)), some (.tup ((rs.take 5 ++ [(w, v, u, false)]).map enc)), x10, x11, x12, x13, x14, x15, x16, x17] h5 =
        .nx (ls ⟨i, G, rs.take 5, w, v, u⟩ x0 "bob" z10 z11 z12 z13 z14 x15 x16 x17) (h5 ++ l1 ++ l2) := by
      exact (forL_nx (t := nameT 2) (σ1 := ls ⟨i, G, rs.take 5, w, v, u⟩ x0 "ann" x10 x11 x12 x13 x14 x15 x16 x17) rfl p1).trans ((forL_nx (t := nameT 2) (σ1 := ls ⟨i, G, rs.take 5, w, v, u⟩ x0 "bob" y10 y11 y12 y13 y14 x15 x16 x17) rfl p2).trans rfl)
    rw [f]
    exact ⟨rfl, kk.trans (Keep.app.trans Keep.app)⟩
  exact SR.sat_ex key
theorem law_true : Law 63 f_law := by
  show Law 63 (body 18 m_law)
  rw [m_law_eq]
  exact law_of (by decide) (by decide) (by decide) fun σ h i hl hd => lbody_ok σ h i hl hd
end K29
end

open PySem PySem.W PyProof.Rows in
set_option maxRecDepth 100000 in
set_option maxHeartbeats 0 in
theorem PySem.Challenge.cw_patchyard_k29_rights_that_grow_and_shrin_holds : PySem.Challenge.rw_patchyard_k29_rights_that_grow_and_shrin.Holds := by
  w_on; o_law; k_head; (case hw => w_witness2)
  k_fill
  refine K29.walk (l := PySem.Challenge.rw_patchyard_k29_rights_that_grow_and_shrin) K29.law_true rfl rfl (fun w h Y => PySem.W.kIn_of Y) ?F
  case F =>
    intro w mg fa h KX G0 hmg
    refine' K29.all_mk KX G0 hmg ?n0 ?l0 ?c0 ?k0 ?n1 ?l1 ?c1 ?k1 ?n2 ?l2 ?c2 ?k2 ?n3 ?l3 ?c3 ?k3 ?n4 ?l4 ?c4 ?k4 ?n5 ?l5 ?c5 ?k5 ?n6 ?l6 ?c6 ?k6 ?n7 ?l7 ?c7 ?k7 ?n8 ?l8 ?c8 ?k8 ?n9 ?l9 ?c9 ?k9 ?nWORDS ?lWORDS ?z_abs ?z_all ?z_int ?z_len ?z_range ?z_reversed ?z_sorted ?z_tuple
    (case n0 => k_is)
    (case l0 => k_is)
    (case c0 => k_is)
    (case k0 => k_is)
    (case n1 => k_is)
    (case l1 => k_is)
    (case c1 => k_is)
    (case k1 => k_is)
    (case n2 => k_is)
    (case l2 => k_is)
    (case c2 => k_is)
    (case k2 => k_is)
    (case n3 => k_is)
    (case l3 => k_is)
    (case c3 => k_is)
    (case k3 => k_is)
    (case n4 => k_is)
    (case l4 => k_is)
    (case c4 => k_is)
    (case k4 => k_is)
    (case n5 => k_is)
    (case l5 => k_is)
    (case c5 => k_is)
    (case k5 => k_is)
    (case n6 => k_is)
    (case l6 => k_is)
    (case c6 => k_is)
    (case k6 => k_is)
    (case n7 => k_is)
    (case l7 => k_is)
    (case c7 => k_is)
    (case k7 => k_is)
    (case n8 => k_is)
    (case l8 => k_is)
    (case c8 => k_is)
    (case k8 => k_is)
    (case n9 => k_is)
    (case l9 => k_is)
    (case c9 => k_is)
    (case k9 => k_is)
    (case nWORDS => k_is)
    (case lWORDS => k_is)
    (case z_abs => k_is)
    (case z_all => k_is)
    (case z_int => k_is)
    (case z_len => k_is)
    (case z_range => k_is)
    (case z_reversed => k_is)
    (case z_sorted => k_is)
    (case z_tuple => k_is)
