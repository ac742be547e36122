import PyProof.Rows.All
import PySem.Str
import HandS.ForMost
import HandS.Exc
import HandS.CallSlots
import HandS.TupAny
import HandS.Flow
import HandS.Deep
import HandS.Style
import HandS.Small
import KE.SortData
import HandS.WordsExc
import PySem.Challenge.RW_patchyard_k72_events_put_together
set_option Elab.async false
set_option linter.all false
set_option maxRecDepth 100000
set_option maxHeartbeats 2000000
set_option autoImplicit false

section
namespace D
open PySem (Str)

/-- values: tuples, frozen lists and frozen dicts by value; mutable things by number -/
inductive AV where
  | non
  | bl (b : Bool)
  | int (i : Int)
  | str (s : Str)
  | tup (xs : List AV)
  | lst (xs : List AV)
  | dct (kvs : List (AV × AV))
  | ref (i : Nat)
  | ro (xs : List AV)
  deriving Inhabited

/-- mutable things -/
inductive AO where
  | lst (xs : List AV)
  | dct (kvs : List (AV × AV))
  | ins (c : Nat) (fs : List (Str × AV))
  deriving Inhabited

abbrev AH := List AO
abbrev AS := List (Option AV)
abbrev XF := Option (List (Str × AV))

inductive ER where
  | ok (v : AV) (h : AH)
  | exc (c : Nat) (f : XF) (h : AH)
  | stuck
inductive LR where
  | ok (vs : List AV) (h : AH)
  | exc (c : Nat) (f : XF) (h : AH)
  | stuck
inductive SR where
  | nx (s : AS) (h : AH)
  | rt (v : AV) (h : AH)
  | bk (s : AS) (h : AH)
  | ct (s : AS) (h : AH)
  | exc (c : Nat) (f : XF) (s : AS) (h : AH)
  | stuck

abbrev EV := AS → AH → ER
abbrev LV := AS → AH → LR
abbrev SV := AS → AH → SR
abbrev FV := List AV → AH → ER

def ER.bind (r : ER) (k : AV → AH → ER) : ER :=
  match r with | .ok v h => k v h | .exc c f h => .exc c f h | .stuck => .stuck
def ER.bindL (r : ER) (k : AV → AH → LR) : LR :=
  match r with | .ok v h => k v h | .exc c f h => .exc c f h | .stuck => .stuck
def LR.bind (r : LR) (k : List AV → AH → ER) : ER :=
  match r with | .ok v h => k v h | .exc c f h => .exc c f h | .stuck => .stuck
def LR.bindL (r : LR) (k : List AV → AH → LR) : LR :=
  match r with | .ok v h => k v h | .exc c f h => .exc c f h | .stuck => .stuck
def ER.toS (r : ER) (s : AS) (k : AV → AH → SR) : SR :=
  match r with | .ok v h => k v h | .exc c f h => .exc c f s h | .stuck => .stuck
def LR.toS (r : LR) (s : AS) (k : List AV → AH → SR) : SR :=
  match r with | .ok v h => k v h | .exc c f h => .exc c f s h | .stuck => .stuck

@[simp] theorem ER.bind_ok (v : AV) (h : AH) (k : AV → AH → ER) : (ER.ok v h).bind k = k v h := rfl
@[simp] theorem ER.bind_exc (c : Nat) (f : XF) (h : AH) (k : AV → AH → ER) : (ER.exc c f h).bind k = .exc c f h := rfl
@[simp] theorem ER.bind_stuck (k : AV → AH → ER) : ER.stuck.bind k = .stuck := rfl
@[simp] theorem ER.bindL_ok (v : AV) (h : AH) (k : AV → AH → LR) : (ER.ok v h).bindL k = k v h := rfl
@[simp] theorem ER.bindL_exc (c : Nat) (f : XF) (h : AH) (k : AV → AH → LR) : (ER.exc c f h).bindL k = .exc c f h := rfl
@[simp] theorem ER.bindL_stuck (k : AV → AH → LR) : ER.stuck.bindL k = .stuck := rfl
@[simp] theorem LR.bind_ok (v : List AV) (h : AH) (k : List AV → AH → ER) : (LR.ok v h).bind k = k v h := rfl
@[simp] theorem LR.bind_exc (c : Nat) (f : XF) (h : AH) (k : List AV → AH → ER) : (LR.exc c f h).bind k = .exc c f h := rfl
@[simp] theorem LR.bind_stuck (k : List AV → AH → ER) : LR.stuck.bind k = .stuck := rfl
@[simp] theorem LR.bindL_ok (v : List AV) (h : AH) (k : List AV → AH → LR) : (LR.ok v h).bindL k = k v h := rfl
@[simp] theorem LR.bindL_exc (c : Nat) (f : XF) (h : AH) (k : List AV → AH → LR) : (LR.exc c f h).bindL k = .exc c f h := rfl
@[simp] theorem LR.bindL_stuck (k : List AV → AH → LR) : LR.stuck.bindL k = .stuck := rfl
@[simp] theorem ER.toS_ok (v : AV) (h : AH) (s : AS) (k : AV → AH → SR) : (ER.ok v h).toS s k = k v h := rfl
@[simp] theorem ER.toS_exc (c : Nat) (f : XF) (h : AH) (s : AS) (k : AV → AH → SR) : (ER.exc c f h).toS s k = .exc c f s h := rfl
@[simp] theorem ER.toS_stuck (s : AS) (k : AV → AH → SR) : ER.stuck.toS s k = .stuck := rfl
@[simp] theorem LR.toS_ok (v : List AV) (h : AH) (s : AS) (k : List AV → AH → SR) : (LR.ok v h).toS s k = k v h := rfl
@[simp] theorem LR.toS_exc (c : Nat) (f : XF) (h : AH) (s : AS) (k : List AV → AH → SR) : (LR.exc c f h).toS s k = .exc c f s h := rfl
@[simp] theorem LR.toS_stuck (s : AS) (k : List AV → AH → SR) : LR.stuck.toS s k = .stuck := rfl

/-- the greatest length of a list, a text -/
def LIM : Nat := 16777216

/-- the items of a list, frozen or in the heap -/
def lv (h : AH) : AV → Option (List AV)
  | .lst xs => some xs
  | .ref i => match h[i]? with | some (.lst xs) => some xs | _ => none
  | _ => none
/-- .. or the script -/
def rl (h : AH) : AV → Option (List AV)
  | .ro xs => some xs
  | o => lv h o
def dv (h : AH) : AV → Option (List (AV × AV))
  | .dct kvs => some kvs
  | .ref i => match h[i]? with | some (.dct kvs) => some kvs | _ => none
  | _ => none

mutual
def AV.eq : AV → AV → Bool
  | .non, .non => true
  | .bl a, .bl b => a == b
  | .bl a, .int j => (if a then 1 else 0) == j
  | .int i, .bl b => i == (if b then 1 else 0)
  | .int i, .int j => i == j
  | .str x, .str y => x == y
  | .lst xs, .lst ys => AV.eqL xs ys
  | .tup xs, .tup ys => AV.eqL xs ys
  | _, _ => false
def AV.eqL : List AV → List AV → Bool
  | [], [] => true
  | x :: xs, y :: ys => AV.eq x y && AV.eqL xs ys
  | _, _ => false
end
/-- a text of code points -/
def sOk (s : Str) : Bool := s.cps.all (· < 0x110000)
/-- data (no mutable things, no dicts) no deeper than so -/
def AV.dl : Nat → AV → Bool
  | _, .non => true
  | _, .bl _ => true
  | _, .int _ => true
  | _, .str s => sOk s
  | n + 1, .tup xs => xs.all (AV.dl n)
  | n + 1, .lst xs => xs.all (AV.dl n)
  | _, _ => false
def DEPTH : Nat := 50
mutual
def AV.lt : AV → AV → Bool
  | .bl i, .bl j => !i && j
  | .int i, .int j => decide (i < j)
  | .str x, .str y => decide (x.cps.toList < y.cps.toList)
  | .lst xs, .lst ys => AV.ltL xs ys
  | .tup xs, .tup ys => AV.ltL xs ys
  | _, _ => false
def AV.ltL : List AV → List AV → Bool
  | x :: xs, y :: ys => if AV.eq x y then AV.ltL xs ys else AV.lt x y
  | [], _ :: _ => true
  | _, _ => false
end

def varD (i : Nat) : EV := fun σ h => match σ[i]? with | some (some v) => .ok v h | _ => .stuck
def cD (v : AV) : EV := fun _ h => .ok v h
def un (f : AV → AH → ER) (a : EV) : EV := fun σ h => (a σ h).bind f
def bin (f : AV → AV → AH → ER) (a b : EV) : EV := fun σ h => (a σ h).bind fun x h1 => (b σ h1).bind fun y h2 => f x y h2
def evs : List EV → LV
  | [] => fun _ h => .ok [] h
  | e :: es => fun σ h => (e σ h).bindL fun v h1 => (evs es σ h1).bindL fun vs h2 => .ok (v :: vs) h2
def tupD (es : List EV) : EV := fun σ h => (evs es σ h).bind fun vs h1 => .ok (.tup vs) h1
/-- a list display: frozen (or taken by a name that owns it) -/
def lstD (es : List EV) : EV := fun σ h => (evs es σ h).bind fun vs h1 => .ok (.lst vs) h1
/-- a list display in the heap -/
def newL (es : List EV) : EV := fun σ h => (evs es σ h).bind fun vs h1 => .ok (.ref h1.length) (h1 ++ [.lst vs])
def newD : EV := fun _ h => .ok (.ref h.length) (h ++ [.dct []])
def callD (f : FV) (es : List EV) : EV := fun σ h => (evs es σ h).bind f
/-- an expression made anew in the heap: the frozen list that a makes -/
def heapL (a : EV) : EV := fun σ h => (a σ h).bind fun v h1 => match v with | .lst xs => .ok (.ref h1.length) (h1 ++ [.lst xs]) | .dct kvs => .ok (.ref h1.length) (h1 ++ [.dct kvs]) | _ => .stuck

def isB : ER → Option Bool
  | .ok (.bl b) _ => some b
  | _ => none
/-- the truth of a test -/
def ER.tst (r : ER) (k : Bool → AH → ER) : ER :=
  match r with | .ok (.bl b) h => k b h | .ok _ _ => .stuck | .exc c f h => .exc c f h | .stuck => .stuck
def ER.tstS (r : ER) (s : AS) (k : Bool → AH → SR) : SR :=
  match r with | .ok (.bl b) h => k b h | .ok _ _ => .stuck | .exc c f h => .exc c f s h | .stuck => .stuck
@[simp] theorem ER.tst_ok (b : Bool) (h : AH) (k : Bool → AH → ER) : (ER.ok (.bl b) h).tst k = k b h := rfl
@[simp] theorem ER.tstS_ok (b : Bool) (h : AH) (s : AS) (k : Bool → AH → SR) : (ER.ok (.bl b) h).tstS s k = k b h := rfl
def andD (a b : EV) : EV := fun σ h => (a σ h).tst fun c h1 => if c = true then b σ h1 else .ok (.bl false) h1
def orD (a b : EV) : EV := fun σ h => (a σ h).tst fun c h1 => if c = true then .ok (.bl true) h1 else b σ h1
def notD (a : EV) : EV := fun σ h => (a σ h).tst fun c h1 => .ok (.bl (!c)) h1
def ifD (c a b : EV) : EV := fun σ h => (c σ h).tst fun t h1 => if t = true then a σ h1 else b σ h1

def b2i (b : Bool) : Int := if b then 1 else 0
def addV : AV → AV → AH → ER
  | .int i, .int j, h => .ok (.int (i + j)) h
  | .str x, .str y, h => if x.length + y.length ≤ LIM then .ok (.str (x ++ y)) h else .stuck
  | .tup xs, .tup ys, h => if xs.length + ys.length ≤ LIM then .ok (.tup (xs ++ ys)) h else .stuck
  | x, y, h => match lv h x, lv h y with
    | some xs, some ys => if xs.length + ys.length ≤ LIM then .ok (.lst (xs ++ ys)) h else .stuck
    | _, _ => .stuck
def iaddV : AV → AV → AH → ER
  | .int i, .int j, h => .ok (.int (i + j)) h
  | _, _, _ => .stuck
def subV : AV → AV → AH → ER
  | .int i, .int j, h => .ok (.int (i - j)) h
  | _, _, _ => .stuck
def smallI (i : Int) : Bool := decide (-(2 ^ 64) < i) && decide (i < 2 ^ 64)
def mulV : AV → AV → AH → ER
  | .int i, .int j, h => if smallI i || smallI j then .ok (.int (i * j)) h else .stuck
  | .lst xs, .int k, h => if k < 1000000 ∧ xs.length * k.toNat ≤ LIM ∧ -1000000 < k then .ok (.lst (List.replicate k.toNat xs).flatten) h else .stuck
  | _, _, _ => .stuck
/-- list * int, list + list alone -/
def lmulV : AV → AV → AH → ER
  | .lst xs, .int k, h => if k < 1000000 ∧ xs.length * k.toNat ≤ LIM ∧ -1000000 < k then .ok (.lst (List.replicate k.toNat xs).flatten) h else .stuck
  | _, _, _ => .stuck
def laddV (x y : AV) (h : AH) : ER := match lv h x, lv h y with
  | some xs, some ys => if xs.length + ys.length ≤ LIM then .ok (.lst (xs ++ ys)) h else .stuck
  | _, _ => .stuck
def fdivV : AV → AV → AH → ER
  | .int i, .int j, h => if j ≠ 0 ∧ j.natAbs < 1073741824 then .ok (.int (i.fdiv j)) h else .stuck
  | _, _, _ => .stuck
def modV : AV → AV → AH → ER
  | .int i, .int j, h => if j ≠ 0 then .ok (.int (i.fmod j)) h else .stuck
  | _, _, _ => .stuck
def powV : AV → AV → AH → ER
  | .int i, .int j, h => if 0 ≤ j ∧ j ≤ 1000000 ∧ i.natAbs < 2 ^ 64 then .ok (.int (i ^ j.toNat)) h else .stuck
  | _, _, _ => .stuck
def negV : AV → AH → ER
  | .int i, h => .ok (.int (-i)) h
  | _, _ => .stuck

def cmpI (p : Int → Int → Bool) : AV → AV → AH → ER
  | .int i, .int j, h => .ok (.bl (p i j)) h
  | _, _, _ => .stuck
/-- < <= > >= on intsA; < of texts -/
def ltV : AV → AV → AH → ER
  | .int i, .int j, h => .ok (.bl (decide (i < j))) h
  | .str x, .str y, h => .ok (.bl (decide (x.cps.toList < y.cps.toList))) h
  | _, _, _ => .stuck
def leV : AV → AV → AH → ER := cmpI fun i j => decide (i ≤ j)
def gtV : AV → AV → AH → ER := cmpI fun i j => decide (j < i)
def geV : AV → AV → AH → ER := cmpI fun i j => decide (j ≤ i)
/-- a list in the heap is read as the list it is -/
def thaw (h : AH) (x : AV) : AV := match x with
  | .ref i => match h[i]? with | some (.lst xs) => .lst xs | _ => .ref i
  | x => x
def isFlat : AV → Bool
  | .non => true
  | .bl _ => true
  | .int _ => true
  | .str _ => true
  | _ => false
/-- plain values that == tells apart as they are -/
def scalA : AV → AV → Bool
  | .str _, .str _ => true
  | .int _, .int _ => true
  | .bl _, .bl _ => true
  | .non, .non => true
  | .non, .str _ => true
  | .str _, .non => true
  | .non, .int _ => true
  | .int _, .non => true
  | .int _, .str _ => true
  | .str _, .int _ => true
  | .bl _, .str _ => true
  | .str _, .bl _ => true
  | _, _ => false
def eqOk (x y : AV) : Bool := scalA x y || (x.dl DEPTH && y.dl DEPTH)
def eqV (x y : AV) (h : AH) : ER :=
  if eqOk (thaw h x) (thaw h y) then .ok (.bl ((thaw h x).eq (thaw h y))) h else .stuck
def neV (x y : AV) (h : AH) : ER :=
  if eqOk (thaw h x) (thaw h y) then .ok (.bl (!(thaw h x).eq (thaw h y))) h else .stuck
def isNonA : AV → Bool
  | .non => true
  | _ => false
def isNoneV (x : AV) (h : AH) : ER := .ok (.bl (isNonA x)) h
def notNoneV (x : AV) (h : AH) : ER := .ok (.bl (!isNonA x)) h

def chainD (f g : AV → AV → AH → ER) (a b c : EV) : EV := fun σ h =>
  (a σ h).bind fun x h1 => (b σ h1).bind fun y h2 => (f x y h2).tst fun t h3 => if t = true then (c σ h3).bind fun z h4 => g y z h4 else .ok (.bl false) h3

def ixI (n : Nat) (i : Int) : Option Nat := if 0 ≤ i then (if i < n then some i.toNat else none) else if -(n : Int) ≤ i then some (i + n).toNat else none
def atI {α : Type} (xs : List α) (i : Int) : Option α := (ixI xs.length i).bind fun j => xs[j]?
def dlook (kvs : List (AV × AV)) (k : AV) : Option AV := (kvs.find? fun kv => AV.eq kv.1 k).map (·.2)
/-- keys: intsA, texts, tuples of these -/
def flatK : AV → Bool
  | .int _ => true
  | .str _ => true
  | _ => false
def keyOk : AV → Bool := flatK
def optE (o : Option AV) (h : AH) : ER := match o with | some v => .ok v h | none => .stuck
@[simp] theorem optE_some (v : AV) (h : AH) : optE (some v) h = .ok v h := rfl
@[simp] theorem optE_none (h : AH) : optE none h = .stuck := rfl
/-- an int -/
def iOf : AV → Option Int
  | .int i => some i
  | _ => none
@[simp] theorem iOf_int (i : Int) : iOf (.int i) = some i := rfl
def atA (xs : List AV) (i : AV) : Option AV := (iOf i).bind fun k => atI xs k
def atS (s : Str) (i : AV) : Option AV := if s.length ≤ LIM then (iOf i).bind fun k => (atI s.cps.toList k).map fun c => .str ⟨#[c]⟩ else none
def atK (kvs : List (AV × AV)) (i : AV) : Option AV := if keyOk i then dlook kvs i else none
/-- the item of a list, a dict in the heap or not -/
def getH (o i : AV) (h : AH) : Option AV := match rl h o with
  | some xs => atA xs i
  | none => (dv h o).bind fun kvs => atK kvs i
def getO (o i : AV) (h : AH) : Option AV := match o with
  | .tup xs => atA xs i
  | .str s => atS s i
  | o => getH o i h
def getV (o i : AV) (h : AH) : ER := optE (getO o i h) h
/-- a part of a slice -/
def partD (e : Option EV) : AS → AH → LR := match e with
  | none => fun _ h => .ok [] h
  | some m => fun σ h => (m σ h).bindL fun v h1 => match v with | .int i => .ok [.int i] h1 | _ => .stuck
def pI : List AV → Option Int
  | [.int i] => some i
  | _ => none
def sIx (n d : Nat) : Option Int → Nat
  | none => d
  | some i => if i < 0 then (i + n).toNat else min i.toNat n
def cut {α : Type} (xs : List α) (lo hi : Option Int) : List α := (xs.drop (sIx xs.length 0 lo)).take (sIx xs.length xs.length hi - sIx xs.length 0 lo)
def sliceV (o : AV) (lo hi : Option Int) (h : AH) : ER :=
  match o with
  | .tup xs => .ok (.tup (cut xs lo hi)) h
  | .str s => if s.length ≤ LIM then .ok (.str ⟨(cut s.cps.toList lo hi).toArray⟩) h else .stuck
  | o => match rl h o with | some xs => .ok (.lst (cut xs lo hi)) h | none => .stuck
def sliceD (o : EV) (lo hi : Option EV) : EV := fun σ h =>
  (o σ h).bind fun v h1 => (partD lo σ h1).bind fun l h2 => (partD hi σ h2).bind fun u h3 => sliceV v (pI l) (pI u) h3

/-- every one of a row may be compared with x -/
def inOk (x : AV) (xs : List AV) : Bool := (isFlat x && xs.all isFlat) || (x.dl DEPTH && xs.all (AV.dl DEPTH))
/-- whether z stands in y, as texts -/
def subS (z y : List Nat) : Bool := match y with
  | [] => z.isEmpty
  | c :: r => (y.take z.length == z) || subS z r
def inRow (x : AV) (xs : List AV) : Option Bool := if inOk x xs then some (xs.any fun z => AV.eq z x) else none
def inStr (x : AV) (s : Str) : Option Bool := match x with
  | .str z => if z.cps.size = 1 then some (s.cps.toList.contains (z.cps.getD 0 0)) else none
  | _ => none
def inDic (x : AV) (kvs : List (AV × AV)) : Option Bool := if keyOk x then some (dlook kvs x).isSome else none
def inH (x y : AV) (h : AH) : Option Bool := match rl h y with
  | some xs => inRow x xs
  | none => (dv h y).bind (inDic x)
def inV (x y : AV) (h : AH) : Option Bool :=
  match y with
  | .tup xs => inRow x xs
  | .str s => inStr x s
  | y => inH x y h
def inD (x y : AV) (h : AH) : ER := match inV x y h with | some b => .ok (.bl b) h | none => .stuck
def notInD (x y : AV) (h : AH) : ER := match inV x y h with | some b => .ok (.bl (!b)) h | none => .stuck

/-- list(x), tuple(x) of a list or tuple -/
def seqOf (h : AH) : AV → Option (List AV)
  | .tup xs => some xs
  | o => rl h o
def lenS (s : Str) : Option Nat := if s.length ≤ LIM then some s.length else none
def lenV (o : AV) (h : AH) : Option Nat := match o with
  | .str s => lenS s
  | o => match seqOf h o with
    | some xs => some xs.length
    | none => (dv h o).map List.length
def lenF : FV := fun vs h => match vs with
  | [o] => optE ((lenV o h).map fun (n : Nat) => AV.int (n : Int)) h
  | _ => .stuck
def absF : FV := fun vs h => match vs with | [.int i] => .ok (.int (if i < 0 then -i else i)) h | _ => .stuck
def intF : FV := fun vs h => match vs with | [.int i] => .ok (.int i) h | [.bl b] => .ok (.int (b2i b)) h | _ => .stuck
def strF : FV := fun vs h => match vs with | [.int i] => if i.natAbs < 1000000000000000000 then .ok (.str (toString i)) h else .stuck | _ => .stuck
def max2F : FV := fun vs h => match vs with | [.int i, .int j] => .ok (.int (if j > i then j else i)) h | _ => .stuck
def min2F : FV := fun vs h => match vs with | [.int i, .int j] => .ok (.int (if j < i then j else i)) h | _ => .stuck
def listF : FV := fun vs h => match vs with | [o] => optE ((seqOf h o).map .lst) h | _ => .stuck
def tupleF : FV := fun vs h => match vs with | [o] => optE ((seqOf h o).map .tup) h | _ => .stuck
def intsA : List AV → Option (List Int)
  | [] => some []
  | .int i :: r => (intsA r).map (i :: ·)
  | _ => none
def bls : List AV → Option (List Bool)
  | [] => some []
  | .bl b :: r => (bls r).map (b :: ·)
  | _ => none
def sumF : FV := fun vs h => match vs with
  | [o] => optE (((rl h o).bind intsA).map fun ns => .int ns.sum) h
  | _ => .stuck
def anyF : FV := fun vs h => match vs with
  | [o] => optE (((rl h o).bind bls).map fun bs => .bl (bs.any id)) h
  | _ => .stuck
def allF : FV := fun vs h => match vs with
  | [o] => optE (((rl h o).bind bls).map fun bs => .bl (bs.all id)) h
  | _ => .stuck
/-- stable sorting -/
def leA (x y : AV) : Bool := !AV.lt y x
def sortA (xs : List AV) : List AV := xs.mergeSort leA
/- may be compared by < with each other -/
mutual
def AV.co : AV → AV → Bool
  | .non, .non => true
  | .bl _, .bl _ => true
  | .int _, .int _ => true
  | .str _, .str _ => true
  | .tup xs, .tup ys => AV.coL xs ys
  | .lst xs, .lst ys => AV.coL xs ys
  | _, _ => false
def AV.coL : List AV → List AV → Bool
  | x :: xs, y :: ys => AV.co x y && AV.coL xs ys
  | [], _ => true
  | _ :: _, [] => true
end
def coAll (xs : List AV) : Bool := xs.all fun x => xs.all fun y => AV.co x y
def isTup1 : AV → Bool
  | .tup (_ :: _) => true
  | _ => false
def notTup : AV → Bool
  | .non => false
  | .tup _ => false
  | _ => true
def sortOk (xs : List AV) : Bool := coAll xs && xs.all (AV.dl DEPTH) && (xs.all isTup1 || xs.all notTup)
def sortedF : FV := fun vs h => match vs with
  | [o] => optE ((seqOf h o).bind fun xs => if sortOk xs then some (.lst (sortA xs)) else none) h
  | _ => .stuck

/-- a frozen list, a tuple, a text -/
def iterV : AV → Option (List AV)
  | .tup xs => some xs
  | .str s => some (s.cps.toList.map fun c => .str ⟨#[c]⟩)
  | .lst xs => some xs
  | .ro xs => some xs
  | _ => none
def optL (o : Option (List AV)) (h : AH) : LR := match o with | some v => .ok v h | none => .stuck
@[simp] theorem optL_some (v : List AV) (h : AH) : optL (some v) h = .ok v h := rfl
@[simp] theorem optL_none (h : AH) : optL none h = .stuck := rfl
def itD (e : EV) : LV := fun σ h => (e σ h).bindL fun v h1 => optL (iterV v) h1
/-- .. or a list of the heap -/
def iterH (h : AH) : AV → Option (List AV)
  | .ref i => lv h (.ref i)
  | o => iterV o
def itH (e : EV) : LV := fun σ h => (e σ h).bindL fun v h1 => optL (iterH h1 v) h1
def rangeL (lo : Int) (n : Nat) : List AV := (List.range n).map fun k => .int (lo + (k : Nat))
def B62 (i : Int) : Bool := decide (-(2 ^ 62) ≤ i) && decide (i < 2 ^ 62)
def range1F : List AV → Option (List AV)
  | [.int j] => if B62 j then some (rangeL 0 j.toNat) else none
  | _ => none
def range2F : List AV → Option (List AV)
  | [.int i, .int j] => if B62 i && B62 j then some (rangeL i (j - i).toNat) else none
  | _ => none
/-- down by ones -/
def range3F : List AV → Option (List AV)
  | [.int i, .int j, .int k] => if B62 i && B62 j && k == -1 then some ((List.range (i - j).toNat).map fun k => .int (i - (k : Nat))) else none
  | _ => none
def rangeD (f : List AV → Option (List AV)) (es : List EV) : LV := fun σ h => (evs es σ h).bindL fun vs h1 => optL (f vs) h1
def enumL (xs : List AV) : List AV := xs.zipIdx.map fun p => .tup [.int (p.2 : Nat), p.1]
/-- .. of frozen lists -/
def frzL : AV → Option (List AV)
  | .lst xs => some xs
  | .ro xs => some xs
  | _ => none
def enumD (e : EV) : LV := fun σ h => (e σ h).bindL fun v h1 => optL ((frzL v).map enumL) h1
def zipL (xs ys : List AV) : List AV := (xs.zip ys).map fun p => .tup [p.1, p.2]
def zipD (a b : EV) : LV := fun σ h => (a σ h).bindL fun v h1 => (b σ h1).bindL fun w h2 => optL ((frzL v).bind fun xs => (frzL w).map fun ys => zipL xs ys) h2
def frzT : AV → Option (List AV)
  | .tup xs => some xs
  | v => frzL v
def revD (e : EV) : LV := fun σ h => (e σ h).bindL fun v h1 => optL ((frzT v).map List.reverse) h1

abbrev TGT := AV → AS → Option AS
def nameT (i : Nat) : TGT := fun v σ => some (σ.set i (some v))
def tupTs : List TGT → List AV → AS → Option AS
  | [], [], σ => some σ
  | t :: ts, v :: vs, σ => (t v σ).bind fun σ1 => tupTs ts vs σ1
  | _, _, _ => none
/-- (a, b, ..) = a tuple of that length -/
def tupT (ts : List TGT) : TGT := fun v σ => match v with | .tup xs => tupTs ts xs σ | _ => none

def wipeA (σ : AS) : List Nat → AS
  | [] => σ
  | v :: vs => (wipeA σ vs).set v none
/-- the items of [e for t in xs if c] -/
def compL (t : TGT) (c e : EV) (σ : AS) : List AV → AH → LR
  | [], h => .ok [] h
  | x :: r, h => match t x σ with
    | none => .stuck
    | some σ1 => match c σ1 h with
      | .ok (.bl true) h1 => (match e σ1 h1 with
        | .ok v h2 => (match compL t c e σ r h2 with | .ok vs h3 => .ok (v :: vs) h3 | _ => .stuck)
        | _ => .stuck)
      | .ok (.bl false) h1 => compL t c e σ r h1
      | _ => .stuck
def compD (own : List Nat) (t : TGT) (it : LV) (c e : EV) : EV := fun σ h =>
  (it σ h).bind fun xs h1 => match compL t c e (wipeA σ own) xs h1 with
    | .ok vs h2 => if vs.length ≤ LIM then .ok (.lst vs) h2 else .stuck
    | _ => .stuck

def seqS (a b : SV) : SV := fun σ h => match a σ h with | .nx σ1 h1 => b σ1 h1 | r => r
def nxS : SV := fun σ h => .nx σ h
def bkS : SV := fun σ h => .bk σ h
def ctS : SV := fun σ h => .ct σ h
def setS (i : Nat) (e : EV) : SV := fun σ h => (e σ h).toS σ fun v h1 => .nx (σ.set i (some v)) h1
def asgS (t : TGT) (e : EV) : SV := fun σ h => (e σ h).toS σ fun v h1 => match t v σ with | some σ1 => .nx σ1 h1 | none => .stuck
def exprS (e : EV) : SV := fun σ h => (e σ h).toS σ fun _ h1 => .nx σ h1
def retS (e : EV) : SV := fun σ h => (e σ h).toS σ fun v h1 => .rt v h1
def ifS (c : EV) (a b : SV) : SV := fun σ h => (c σ h).tstS σ fun t h1 => if t = true then a σ h1 else b σ h1
def augS (i : Nat) (f : AV → AV → AH → ER) (e : EV) : SV := fun σ h => match σ[i]? with
  | some (some x) => (e σ h).toS σ fun y h1 => (f x y h1).toS σ fun z h2 => .nx (σ.set i (some z)) h2
  | _ => .stuck
def forL (t : TGT) (b : SV) : List AV → SV
  | [], σ, h => .nx σ h
  | x :: r, σ, h => match t x σ with
    | none => .stuck
    | some σ1 => match b σ1 h with
      | .nx σ2 h2 => forL t b r σ2 h2
      | .ct σ2 h2 => forL t b r σ2 h2
      | .bk σ2 h2 => .nx σ2 h2
      | .rt v h2 => .rt v h2
      | .exc c f σ2 h2 => .exc c f σ2 h2
      | .stuck => .stuck
def forS (t : TGT) (it : LV) (b : SV) : SV := fun σ h => (it σ h).toS σ fun xs h1 => forL t b xs σ h1
def whileS : Nat → EV → SV → SV
  | 0, _, _, _, _ => .stuck
  | n + 1, c, b, σ, h => (c σ h).tstS σ fun t h1 => if t = true then
      match b σ h1 with
      | .nx σ2 h2 => whileS n c b σ2 h2
      | .ct σ2 h2 => whileS n c b σ2 h2
      | .bk σ2 h2 => .nx σ2 h2
      | .rt v h2 => .rt v h2
      | .exc c f σ2 h2 => .exc c f σ2 h2
      | .stuck => .stuck
    else .nx σ h1

def setAll {α : Type} : List (Option α) → List Nat → List α → List (Option α)
  | σ, i :: is, v :: vs => setAll (σ.set i (some v)) is vs
  | σ, _, _ => σ
def parS (is : List Nat) (ms : List EV) : SV := fun σ h => (evs ms σ h).toS σ fun vs h1 => .nx (setAll σ is vs) h1

def ownL (σ : AS) (i : Nat) : Option (List AV) := match σ[i]? with | some (some (.lst xs)) => some xs | _ => none
def ownDc (σ : AS) (i : Nat) : Option (List (AV × AV)) := match σ[i]? with | some (some (.dct kvs)) => some kvs | _ => none
def appendS (i : Nat) (e : EV) : SV := fun σ h => match ownL σ i with
  | some xs => (e σ h).toS σ fun v h1 => if xs.length < LIM then .nx (σ.set i (some (.lst (xs ++ [v])))) h1 else .stuck
  | none => .stuck
/-- dicts -/
def dput (kvs : List (AV × AV)) (k v : AV) : List (AV × AV) :=
  if kvs.any (fun kv => AV.eq kv.1 k) then kvs.map (fun kv => if AV.eq kv.1 k then (kv.1, v) else kv) else kvs ++ [(k, v)]
def ownPut (σ : AS) (i : Nat) (kv v : AV) : Option AS := match σ[i]? with
  | some (some (.lst xs)) => (iOf kv).bind fun z => (ixI xs.length z).map fun j => σ.set i (some (.lst (xs.set j v)))
  | some (some (.dct kvs)) => if flatK kv && decide (kvs.length < LIM) then some (σ.set i (some (.dct (dput kvs kv v)))) else none
  | _ => none
def ownGet (σ : AS) (i : Nat) (kv : AV) : Option AV := match σ[i]? with
  | some (some (.lst xs)) => atA xs kv
  | some (some (.dct kvs)) => atK kvs kv
  | _ => none
def optS (o : Option AS) (h : AH) : SR := match o with | some σ => .nx σ h | none => .stuck
@[simp] theorem optS_some (σ : AS) (h : AH) : optS (some σ) h = .nx σ h := rfl
@[simp] theorem optS_none (h : AH) : optS none h = .stuck := rfl
/-- xs[k] = v -/
def putS (i : Nat) (k e : EV) : SV := fun σ h => (e σ h).toS σ fun v h1 => (k σ h1).toS σ fun kv h2 => optS (ownPut σ i kv v) h2
/-- xs[k] op= v -/
def putAugS (i : Nat) (f : AV → AV → AH → ER) (k e : EV) : SV := fun σ h => (k σ h).toS σ fun kv h1 => match ownGet σ i kv with
  | some x => (e σ h1).toS σ fun y h2 => (f x y h2).toS σ fun w h3 => optS (ownPut σ i kv w) h3
  | none => .stuck

def hset (h : AH) (i : Nat) (o : AO) : AH := h.set i o
def hput1 (i : Nat) (kv w : AV) (h : AH) : Option AH := match h[i]? with
  | some (.lst xs) => (iOf kv).bind fun z => (ixI xs.length z).map fun j => hset h i (.lst (xs.set j w))
  | some (.dct kvs) => if flatK kv && decide (kvs.length < LIM) then some (hset h i (.dct (dput kvs kv w))) else none
  | _ => none
def rfOf : AV → Option Nat
  | .ref i => some i
  | _ => none
@[simp] theorem rfOf_ref (i : Nat) : rfOf (.ref i) = some i := rfl
def optH (o : Option AH) (σ : AS) : SR := match o with | some h => .nx σ h | none => .stuck
@[simp] theorem optH_some (σ : AS) (h : AH) : optH (some h) σ = .nx σ h := rfl
@[simp] theorem optH_none (σ : AS) : optH none σ = .stuck := rfl
/-- o[k] = v -/
def hputS (o k e : EV) : SV := fun σ h => (e σ h).toS σ fun v h1 => (o σ h1).toS σ fun ov h2 => (k σ h2).toS σ fun kv h3 => optH ((rfOf ov).bind fun i => hput1 i kv v h3) σ
/-- o[k] op= v -/
def hputAugS (f : AV → AV → AH → ER) (o k e : EV) : SV := fun σ h => (o σ h).toS σ fun ov h1 => (k σ h1).toS σ fun kv h2 => match (rfOf ov).bind fun i => getH (.ref i) kv h2 with
  | some x => (e σ h2).toS σ fun y h3 => (f x y h3).toS σ fun w h4 => optH ((rfOf ov).bind fun i => hput1 i kv w h4) σ
  | none => .stuck
/-- a list of the heap -/
def isHL (h : AH) (i : Nat) : Bool := match h[i]? with
  | some (.lst _) => true
  | _ => false
/-- o.append(v) as an expression -/
def happV (o v : AV) (h : AH) : ER := match o with
  | .ref i => (match h[i]? with
    | some (.lst xs) => if xs.length < LIM then .ok .non (hset h i (.lst (xs ++ [v]))) else .stuck
    | _ => .stuck)
  | _ => .stuck
def happD (o e : EV) : EV := fun σ h => (o σ h).bind fun ov h1 => match (rfOf ov).bind fun i => if isHL h1 i then some i else none with
  | some i => (e σ h1).bind fun v h2 => happV (.ref i) v h2
  | none => .stuck

/-- a def's body: n names -/
def body (n : Nat) (m : SV) : FV := fun vs h => match m (vs.map some ++ List.replicate (n - vs.length) none) h with
  | .nx _ h' => .ok .non h'
  | .rt v h' => .ok v h'
  | .exc c f _ h' => .exc c f h'
  | _ => .stuck

/-- the law's answer is true for each script of at most n intsA -/
def Law (n : Nat) (f : FV) : Prop := ∀ ns : List Int, ns.length ≤ n → ∃ h', f [.ro (ns.map AV.int)] [] = .ok (.bl true) h'

end D
end

section
namespace D
open PySem L2

/-- what a proof is over: the written part; the classes of instances; the classes of exceptions -/
structure Pm where
  K : PySem.W.Frag
  cl : Nat → Addr
  ex : Nat → Value

/-- a thing that stands still: no mutable one of ours -/
def FrzAt (ρ : List Addr) (B : Addr → Prop) (H : Hp) (a : Addr) (u : HO) : Prop := a ∉ ρ ∧ ¬ B a ∧ Rd H a u
def StL (K : PySem.W.Frag) (a : Addr) (vs : List V) : Prop := ∃ (o : Obj) (its : Array Value) (n : Nat), K.lookup a = some o ∧ o.cls = .type "list" ∧ o.dict = none ∧ o.data = .seq its n ∧ its.size ≤ sizeLine ∧ Vals vs its.toList
def StT (K : PySem.W.Frag) (a : Addr) (vs : List V) : Prop := ∃ (o : Obj) (its : Array Value) (n : Nat), K.lookup a = some o ∧ o.cls = .type "tuple" ∧ o.data = .seq its n ∧ its.size ≤ sizeLine ∧ Vals vs its.toList

def keyOf : AV → Option Key
  | .int i => some (.inl i)
  | .str s => some (.inr s)
  | _ => none

mutual
def RV (K : PySem.W.Frag) (ρ : List Addr) (B : Addr → Prop) (H : Hp) : AV → V → Prop
  | .non, v => v = .non
  | .bl b, v => v = .bl b
  | .int i, v => v = .int i
  | .str s, v => v = .str s
  | .tup xs, v => ∃ a vs, v = .ref a ∧ (FrzAt ρ B H a (.tup vs) ∨ StT K a vs) ∧ RVs K ρ B H xs vs
  | .lst xs, v => ∃ a vs, v = .ref a ∧ a ∉ ρ ∧ ¬ B a ∧ H a = some (.lst vs) ∧ RVs K ρ B H xs vs
  | .dct kvs, v => ∃ a us, v = .ref a ∧ a ∉ ρ ∧ ¬ B a ∧ H a = some (.dK us) ∧ RKs K ρ B H kvs us
  | .ref i, v => ∃ a, v = .ref a ∧ ρ[i]? = some a
  | .ro xs, v => ∃ a vs, v = .ref a ∧ (FrzAt ρ B H a (.lst vs) ∨ StL K a vs) ∧ RVs K ρ B H xs vs
def RVs (K : PySem.W.Frag) (ρ : List Addr) (B : Addr → Prop) (H : Hp) : List AV → List V → Prop
  | [], vs => vs = []
  | x :: xs, vs => ∃ v r, vs = v :: r ∧ RV K ρ B H x v ∧ RVs K ρ B H xs r
def RKs (K : PySem.W.Frag) (ρ : List Addr) (B : Addr → Prop) (H : Hp) : List (AV × AV) → List (Key × V) → Prop
  | [], us => us = []
  | (k, x) :: r, us => ∃ k' v t, us = (k', v) :: t ∧ keyOf k = some k' ∧ RV K ρ B H x v ∧ RKs K ρ B H r t
end

/-- the heap has grown; what stands still stays; b: nothing of ours is changed either -/
structure Ext (b : Bool) (ρ : List Addr) (H : Hp) (ρ' : List Addr) (H' : Hp) : Prop where
  pre : ∃ l, ρ' = ρ ++ l ∧ ∀ a ∈ l, H a = none
  keep : ∀ a o, (b = true ∨ a ∉ ρ) → H a = some o → H' a = some o
  live : ∀ a, H a ≠ none → H' a ≠ none

theorem Ext.refl (b : Bool) (ρ : List Addr) (H : Hp) : Ext b ρ H ρ H := ⟨⟨[], by simp, by simp⟩, fun _ _ _ h => h, fun _ h => h⟩
theorem Ext.trans {b : Bool} {ρ ρ1 ρ2 : List Addr} {H H1 H2 : Hp} (e : Ext b ρ H ρ1 H1) (f : Ext b ρ1 H1 ρ2 H2) : Ext b ρ H ρ2 H2 := by
  obtain ⟨l, rfl, hl⟩ := e.pre
  obtain ⟨m, rfl, hm⟩ := f.pre
  refine ⟨⟨l ++ m, by simp, fun a ha => ?_⟩, fun a o h k => ?_, fun a h => f.live a (e.live a h)⟩
  · rcases List.mem_append.mp ha with ha | ha
    · exact hl a ha
    · cases q : H a with
      | none => rfl
      | some o => exact absurd (hm a ha) (e.live a (by rw [q]; simp))
  · refine f.keep a o ?_ (e.keep a o h k)
    rcases h with h | h
    · exact .inl h
    · refine .inr fun z => ?_
      rcases List.mem_append.mp z with z | z
      · exact h z
      · rw [hl a z] at k; cases k
theorem Ext.weak {b : Bool} {ρ ρ' : List Addr} {H H' : Hp} (e : Ext true ρ H ρ' H') : Ext b ρ H ρ' H' := ⟨e.pre, fun a o _ h => e.keep a o (.inl rfl) h, e.live⟩
/-- a new thing -/
theorem Ext.new {b : Bool} {ρ : List Addr} {H : Hp} {p : Addr} {o : HO} (h : H p = none) : Ext b ρ H ρ (upd H p o) :=
  ⟨⟨[], by simp, by simp⟩, fun a u _ e => by rw [upd_ne (ne_of_none e h)]; exact e, fun a e => by
    by_cases z : a = p
    · subst z; exact absurd h e
    · rw [upd_ne z]; exact e⟩
/-- a new thing of ours -/
theorem Ext.newR {b : Bool} {ρ : List Addr} {H : Hp} {p : Addr} {o : HO} (h : H p = none) : Ext b ρ H (ρ ++ [p]) (upd H p o) :=
  ⟨⟨[p], rfl, fun a ha => by rw [List.mem_singleton.mp ha]; exact h⟩, (Ext.new (b := b) (ρ := ρ) (o := o) h).keep, (Ext.new (b := b) (ρ := ρ) (o := o) h).live⟩
/-- a thing of ours is changed -/
theorem Ext.put {ρ : List Addr} {H : Hp} {p : Addr} {o : HO} (h : p ∈ ρ) : Ext false ρ H ρ (upd H p o) :=
  ⟨⟨[], by simp, by simp⟩, fun a u k e => by
    rcases k with k | k
    · cases k
    · rw [upd_ne (fun z => k (by rw [z]; exact h))]; exact e, fun a e => by
    by_cases z : a = p
    · subst z; rw [upd_same]; simp
    · rw [upd_ne z]; exact e⟩

section
variable {K : PySem.W.Frag} {b : Bool} {ρ ρ' : List Addr} {B B' : Addr → Prop} {H H' : Hp}
theorem Ext.notin (e : Ext b ρ H ρ' H') {a : Addr} (h : a ∉ ρ) (k : H a ≠ none) : a ∉ ρ' := by
  obtain ⟨l, rfl, hl⟩ := e.pre
  intro z
  rcases List.mem_append.mp z with z | z
  · exact h z
  · exact k (hl a z)
theorem Ext.get (e : Ext b ρ H ρ' H') {i : Nat} {a : Addr} (h : ρ[i]? = some a) : ρ'[i]? = some a := by
  obtain ⟨l, rfl, hl⟩ := e.pre
  rw [List.getElem?_append_left (List.getElem?_eq_some_iff.mp h).1]
  exact h
theorem Ext.sub (e : Ext b ρ H ρ' H') {a : Addr} (h : a ∈ ρ) : a ∈ ρ' := by
  obtain ⟨l, rfl, hl⟩ := e.pre
  exact List.mem_append_left _ h
theorem rd_ne {a : Addr} {u : HO} (h : Rd H a u) : H a ≠ none := by
  rcases h with h | ⟨o, h⟩ <;> (rw [h]; simp)
theorem FrzAt.ext {a : Addr} {u : HO} (h : FrzAt ρ B H a u) (e : Ext b ρ H ρ' H') : FrzAt ρ' B H' a u := by
  obtain ⟨h1, h2, h3⟩ := h
  refine ⟨e.notin h1 (rd_ne h3), h2, ?_⟩
  rcases h3 with h3 | ⟨o, h3⟩
  · exact .inl (e.keep _ _ (.inr h1) h3)
  · exact .inr ⟨o, e.keep _ _ (.inr h1) h3⟩
theorem FrzAt.anti {a : Addr} {u : HO} (h : FrzAt ρ B H a u) (hB : ∀ a, B' a → B a) : FrzAt ρ B' H a u := ⟨h.1, fun z => h.2.1 (hB _ z), h.2.2⟩
mutual
theorem RV.ext (e : Ext b ρ H ρ' H') : ∀ (x : AV) {v : V}, RV K ρ B H x v → RV K ρ' B H' x v
  | .non, _, h => h
  | .bl _, _, h => h
  | .int _, _, h => h
  | .str _, _, h => h
  | .tup xs, v, h => by
    unfold RV at h ⊢
    obtain ⟨a, vs, rfl, h1, h2⟩ := h
    exact ⟨a, vs, rfl, h1.imp_left (·.ext e), RVs.ext e xs h2⟩
  | .lst xs, v, h => by
    unfold RV at h ⊢
    obtain ⟨a, vs, rfl, h1, h2, h3, h4⟩ := h
    exact ⟨a, vs, rfl, e.notin h1 (by rw [h3]; simp), h2, e.keep _ _ (.inr h1) h3, RVs.ext e xs h4⟩
  | .dct kvs, v, h => by
    unfold RV at h ⊢
    obtain ⟨a, us, rfl, h1, h2, h3, h4⟩ := h
    exact ⟨a, us, rfl, e.notin h1 (by rw [h3]; simp), h2, e.keep _ _ (.inr h1) h3, RKs.ext e kvs h4⟩
  | .ref i, v, h => by
    unfold RV at h ⊢
    obtain ⟨a, rfl, h1⟩ := h
    exact ⟨a, rfl, e.get h1⟩
  | .ro xs, v, h => by
    unfold RV at h ⊢
    obtain ⟨a, vs, rfl, h1, h2⟩ := h
    exact ⟨a, vs, rfl, h1.imp_left (·.ext e), RVs.ext e xs h2⟩
theorem RVs.ext (e : Ext b ρ H ρ' H') : ∀ (xs : List AV) {vs : List V}, RVs K ρ B H xs vs → RVs K ρ' B H' xs vs
  | [], _, h => by unfold RVs at h ⊢; exact h
  | x :: xs, vs, h => by
    unfold RVs at h ⊢
    obtain ⟨v, r, rfl, h1, h2⟩ := h
    exact ⟨v, r, rfl, RV.ext e x h1, RVs.ext e xs h2⟩
theorem RKs.ext (e : Ext b ρ H ρ' H') : ∀ (kvs : List (AV × AV)) {us : List (Key × V)}, RKs K ρ B H kvs us → RKs K ρ' B H' kvs us
  | [], _, h => by unfold RKs at h ⊢; exact h
  | (k, x) :: r, us, h => by
    unfold RKs at h ⊢
    obtain ⟨k', v, t, rfl, h1, h2, h3⟩ := h
    exact ⟨k', v, t, rfl, h1, RV.ext e x h2, RKs.ext e r h3⟩
end
mutual
theorem RV.anti (hB : ∀ a, B' a → B a) : ∀ (x : AV) {v : V}, RV K ρ B H x v → RV K ρ B' H x v
  | .non, _, h => h
  | .bl _, _, h => h
  | .int _, _, h => h
  | .str _, _, h => h
  | .tup xs, v, h => by
    unfold RV at h ⊢
    obtain ⟨a, vs, rfl, h1, h2⟩ := h
    exact ⟨a, vs, rfl, h1.imp_left (·.anti hB), RVs.anti hB xs h2⟩
  | .lst xs, v, h => by
    unfold RV at h ⊢
    obtain ⟨a, vs, rfl, h1, h2, h3, h4⟩ := h
    exact ⟨a, vs, rfl, h1, fun z => h2 (hB _ z), h3, RVs.anti hB xs h4⟩
  | .dct kvs, v, h => by
    unfold RV at h ⊢
    obtain ⟨a, us, rfl, h1, h2, h3, h4⟩ := h
    exact ⟨a, us, rfl, h1, fun z => h2 (hB _ z), h3, RKs.anti hB kvs h4⟩
  | .ref i, v, h => h
  | .ro xs, v, h => by
    unfold RV at h ⊢
    obtain ⟨a, vs, rfl, h1, h2⟩ := h
    exact ⟨a, vs, rfl, h1.imp_left (·.anti hB), RVs.anti hB xs h2⟩
theorem RVs.anti (hB : ∀ a, B' a → B a) : ∀ (xs : List AV) {vs : List V}, RVs K ρ B H xs vs → RVs K ρ B' H xs vs
  | [], _, h => by unfold RVs at h ⊢; exact h
  | x :: xs, vs, h => by
    unfold RVs at h ⊢
    obtain ⟨v, r, rfl, h1, h2⟩ := h
    exact ⟨v, r, rfl, RV.anti hB x h1, RVs.anti hB xs h2⟩
theorem RKs.anti (hB : ∀ a, B' a → B a) : ∀ (kvs : List (AV × AV)) {us : List (Key × V)}, RKs K ρ B H kvs us → RKs K ρ B' H kvs us
  | [], _, h => by unfold RKs at h ⊢; exact h
  | (k, x) :: r, us, h => by
    unfold RKs at h ⊢
    obtain ⟨k', v, t, rfl, h1, h2, h3⟩ := h
    exact ⟨k', v, t, rfl, h1, RV.anti hB x h2, RKs.anti hB r h3⟩
end
end

section
variable {K : PySem.W.Frag} {ρ : List Addr} {B : Addr → Prop} {H : Hp}
theorem RVs.nil : RVs K ρ B H [] [] := by unfold RVs; rfl
theorem RVs.cons {x : AV} {v : V} {xs : List AV} {vs : List V} (h : RV K ρ B H x v) (t : RVs K ρ B H xs vs) : RVs K ρ B H (x :: xs) (v :: vs) := by unfold RVs; exact ⟨v, vs, rfl, h, t⟩
theorem RVs.len : ∀ {xs : List AV} {vs : List V}, RVs K ρ B H xs vs → xs.length = vs.length
  | [], _, h => by unfold RVs at h; subst h; rfl
  | x :: xs, vs, h => by
    unfold RVs at h
    obtain ⟨v, r, rfl, _, h2⟩ := h
    simp [RVs.len h2]
theorem RVs.get : ∀ {xs : List AV} {vs : List V} {i : Nat} {x : AV}, RVs K ρ B H xs vs → xs[i]? = some x → ∃ v, vs[i]? = some v ∧ RV K ρ B H x v
  | [], _, _, _, _, e => by simp at e
  | x :: xs, vs, i, y, h, e => by
    unfold RVs at h
    obtain ⟨v, r, rfl, h1, h2⟩ := h
    cases i with
    | zero => simp at e; subst e; exact ⟨v, rfl, h1⟩
    | succ i =>
      obtain ⟨w, e1, e2⟩ := RVs.get (i := i) h2 (by simpa using e)
      exact ⟨w, by simpa using e1, e2⟩
theorem RVs.get' : ∀ {xs : List AV} {vs : List V} {i : Nat} {v : V}, RVs K ρ B H xs vs → vs[i]? = some v → ∃ x, xs[i]? = some x ∧ RV K ρ B H x v := fun {xs vs i v} h e => by
  have hl := h.len
  have hi : i < xs.length := by rw [hl]; exact (List.getElem?_eq_some_iff.mp e).1
  obtain ⟨w, e1, e2⟩ := h.get (List.getElem?_eq_getElem hi)
  rw [e] at e1
  cases e1
  exact ⟨_, List.getElem?_eq_getElem hi, e2⟩
theorem RVs.app : ∀ {xs ys : List AV} {vs ws : List V}, RVs K ρ B H xs vs → RVs K ρ B H ys ws → RVs K ρ B H (xs ++ ys) (vs ++ ws)
  | [], _, _, _, h, k => by unfold RVs at h; subst h; exact k
  | x :: xs, ys, vs, ws, h, k => by
    unfold RVs at h
    obtain ⟨v, r, rfl, h1, h2⟩ := h
    exact RVs.cons h1 (RVs.app h2 k)
theorem RVs.set {x : AV} {v : V} (hx : RV K ρ B H x v) : ∀ {xs : List AV} {vs : List V} (i : Nat), RVs K ρ B H xs vs → RVs K ρ B H (xs.set i x) (vs.set i v)
  | [], _, _, h => by unfold RVs at h; subst h; exact RVs.nil
  | y :: xs, vs, i, h => by
    unfold RVs at h
    obtain ⟨w, r, rfl, h1, h2⟩ := h
    cases i with
    | zero => exact RVs.cons hx h2
    | succ i => exact RVs.cons h1 (RVs.set hx i h2)
theorem RVs.take : ∀ {xs : List AV} {vs : List V} (n : Nat), RVs K ρ B H xs vs → RVs K ρ B H (xs.take n) (vs.take n)
  | _, _, 0, _ => by simp only [List.take_zero]; exact RVs.nil
  | [], _, _ + 1, h => by unfold RVs at h; subst h; exact RVs.nil
  | x :: xs, vs, n + 1, h => by
    unfold RVs at h
    obtain ⟨w, r, rfl, h1, h2⟩ := h
    exact RVs.cons h1 (RVs.take n h2)
theorem RVs.drop : ∀ {xs : List AV} {vs : List V} (n : Nat), RVs K ρ B H xs vs → RVs K ρ B H (xs.drop n) (vs.drop n)
  | _, _, 0, h => h
  | [], _, _ + 1, h => by unfold RVs at h; subst h; exact RVs.nil
  | x :: xs, vs, n + 1, h => by
    unfold RVs at h
    obtain ⟨w, r, rfl, h1, h2⟩ := h
    exact RVs.drop n h2
theorem RVs.rev {xs : List AV} {vs : List V} (h : RVs K ρ B H xs vs) : RVs K ρ B H xs.reverse vs.reverse := by
  induction xs generalizing vs with
  | nil => unfold RVs at h; subst h; exact RVs.nil
  | cons x xs ih =>
    unfold RVs at h
    obtain ⟨w, r, rfl, h1, h2⟩ := h
    rw [List.reverse_cons, List.reverse_cons]
    exact (ih h2).app (RVs.cons h1 RVs.nil)
theorem RVs.rep {xs : List AV} {vs : List V} (h : RVs K ρ B H xs vs) : ∀ k : Nat, RVs K ρ B H (List.replicate k xs).flatten (List.replicate k vs).flatten
  | 0 => RVs.nil
  | k + 1 => by
    rw [List.replicate_succ, List.replicate_succ, List.flatten_cons, List.flatten_cons]
    exact h.app (RVs.rep h k)
theorem RVs.intsA : ∀ (ns : List Int), RVs K ρ B H (ns.map AV.int) (ns.map V.int)
  | [] => RVs.nil
  | n :: ns => RVs.cons (by unfold RV; rfl) (RVs.intsA ns)
theorem ints_of : ∀ {xs : List AV} {ns : List Int} {vs : List V}, D.intsA xs = some ns → RVs K ρ B H xs vs → vs = ns.map V.int
  | [], ns, vs, e, h => by
    unfold D.intsA at e; cases e
    unfold RVs at h; exact h
  | .int i :: r, ns, vs, e, h => by
    unfold D.intsA at e
    cases q : D.intsA r with
    | none => rw [q] at e; cases e
    | some ms =>
      rw [q] at e
      simp at e
      subst e
      unfold RVs at h
      obtain ⟨v, t, rfl, h1, h2⟩ := h
      unfold RV at h1
      rw [h1, ints_of q h2]
      rfl
  | .non :: _, _, _, e, _ => by simp [D.intsA] at e
  | .bl _ :: _, _, _, e, _ => by simp [D.intsA] at e
  | .str _ :: _, _, _, e, _ => by simp [D.intsA] at e
  | .tup _ :: _, _, _, e, _ => by simp [D.intsA] at e
  | .lst _ :: _, _, _, e, _ => by simp [D.intsA] at e
  | .dct _ :: _, _, _, e, _ => by simp [D.intsA] at e
  | .ref _ :: _, _, _, e, _ => by simp [D.intsA] at e
  | .ro _ :: _, _, _, e, _ => by simp [D.intsA] at e
theorem bls_of : ∀ {xs : List AV} {ns : List Bool} {vs : List V}, D.bls xs = some ns → RVs K ρ B H xs vs → vs = ns.map V.bl
  | [], ns, vs, e, h => by
    unfold D.bls at e; cases e
    unfold RVs at h; exact h
  | .bl i :: r, ns, vs, e, h => by
    unfold D.bls at e
    cases q : D.bls r with
    | none => rw [q] at e; cases e
    | some ms =>
      rw [q] at e
      simp at e
      subst e
      unfold RVs at h
      obtain ⟨v, t, rfl, h1, h2⟩ := h
      unfold RV at h1
      rw [h1, bls_of q h2]
      rfl
  | .non :: _, _, _, e, _ => by simp [D.bls] at e
  | .int _ :: _, _, _, e, _ => by simp [D.bls] at e
  | .str _ :: _, _, _, e, _ => by simp [D.bls] at e
  | .tup _ :: _, _, _, e, _ => by simp [D.bls] at e
  | .lst _ :: _, _, _, e, _ => by simp [D.bls] at e
  | .dct _ :: _, _, _, e, _ => by simp [D.bls] at e
  | .ref _ :: _, _, _, e, _ => by simp [D.bls] at e
  | .ro _ :: _, _, _, e, _ => by simp [D.bls] at e
end

def RFs (K : PySem.W.Frag) (ρ : List Addr) (B : Addr → Prop) (H : Hp) : List (Str × AV) → List (Str × V) → Prop
  | [], us => us = []
  | (k, x) :: r, us => ∃ v t, us = (k, v) :: t ∧ RV K ρ B H x v ∧ RFs K ρ B H r t
theorem RFs.ext {K : PySem.W.Frag} {b : Bool} {ρ ρ' : List Addr} {B : Addr → Prop} {H H' : Hp} (e : Ext b ρ H ρ' H') : ∀ (fs : List (Str × AV)) {us : List (Str × V)}, RFs K ρ B H fs us → RFs K ρ' B H' fs us
  | [], _, h => h
  | (k, x) :: r, us, h => by
    obtain ⟨v, t, rfl, h1, h2⟩ := h
    exact ⟨v, t, rfl, h1.ext e x, RFs.ext e r h2⟩
theorem RFs.anti {K : PySem.W.Frag} {ρ : List Addr} {B B' : Addr → Prop} {H : Hp} (hB : ∀ a, B' a → B a) : ∀ (fs : List (Str × AV)) {us : List (Str × V)}, RFs K ρ B H fs us → RFs K ρ B' H fs us
  | [], _, h => h
  | (k, x) :: r, us, h => by
    obtain ⟨v, t, rfl, h1, h2⟩ := h
    exact ⟨v, t, rfl, h1.anti hB x, RFs.anti hB r h2⟩
def RO (P : Pm) (ρ : List Addr) (B : Addr → Prop) (H : Hp) : AO → HO → Prop
  | .lst xs, u => ∃ vs, u = .lst vs ∧ RVs P.K ρ B H xs vs
  | .dct kvs, u => ∃ us, u = .dK us ∧ RKs P.K ρ B H kvs us
  | .ins c fs, u => ∃ dx us, u = .ins (P.cl c) dx us ∧ RFs P.K ρ B H fs us
theorem RO.ext {P : Pm} {b : Bool} {ρ ρ' : List Addr} {B : Addr → Prop} {H H' : Hp} (e : Ext b ρ H ρ' H') : ∀ (o : AO) {u : HO}, RO P ρ B H o u → RO P ρ' B H' o u
  | .lst xs, _, ⟨vs, h1, h2⟩ => ⟨vs, h1, h2.ext e xs⟩
  | .dct kvs, _, ⟨vs, h1, h2⟩ => ⟨vs, h1, h2.ext e kvs⟩
  | .ins c fs, _, ⟨dx, vs, h1, h2⟩ => ⟨dx, vs, h1, h2.ext e fs⟩
theorem RO.anti {P : Pm} {ρ : List Addr} {B B' : Addr → Prop} {H : Hp} (hB : ∀ a, B' a → B a) : ∀ (o : AO) {u : HO}, RO P ρ B H o u → RO P ρ B' H o u
  | .lst xs, _, ⟨vs, h1, h2⟩ => ⟨vs, h1, h2.anti hB xs⟩
  | .dct kvs, _, ⟨vs, h1, h2⟩ => ⟨vs, h1, h2.anti hB kvs⟩
  | .ins c fs, _, ⟨dx, vs, h1, h2⟩ => ⟨dx, vs, h1, h2.anti hB fs⟩

structure RH (P : Pm) (ρ : List Addr) (B : Addr → Prop) (H : Hp) (h : AH) : Prop where
  len : ρ.length = h.length
  nd : ρ.Nodup
  out : ∀ a ∈ ρ, ¬ B a
  lvB : ∀ a, B a → H a ≠ none
  obj : ∀ (i : Nat) (o : AO), h[i]? = some o → ∃ a u, ρ[i]? = some a ∧ H a = some u ∧ RO P ρ B H o u

section
variable {P : Pm} {b : Bool} {ρ ρ' : List Addr} {B B' : Addr → Prop} {H H' : Hp} {h h' : AH}
theorem RH.lvR (r : RH P ρ B H h) : ∀ a ∈ ρ, H a ≠ none := fun a ha => by
  obtain ⟨i, hi, rfl⟩ := List.getElem_of_mem ha
  have hi' : i < h.length := by rw [← r.len]; exact hi
  obtain ⟨a', u, e1, e2, _⟩ := r.obj i _ (List.getElem?_eq_getElem hi')
  rw [List.getElem?_eq_getElem hi] at e1
  cases e1
  rw [e2]; simp
theorem RH.anti (r : RH P ρ B H h) (hB : ∀ a, B' a → B a) : RH P ρ B' H h :=
  ⟨r.len, r.nd, fun a ha z => r.out a ha (hB a z), fun a ha => r.lvB a (hB a ha), fun i o e => by
    obtain ⟨a, u, e1, e2, e3⟩ := r.obj i o e
    exact ⟨a, u, e1, e2, e3.anti hB o⟩⟩
/-- what stands still, and a new thing of no name -/
theorem RH.frz (r : RH P ρ B H h) {p : Addr} {u : HO} (hp : H p = none) : RH P ρ B (upd H p u) h := by
  have e : Ext true ρ H ρ (upd H p u) := Ext.new hp
  refine ⟨r.len, r.nd, r.out, fun a ha => e.live a (r.lvB a ha), fun i o he => ?_⟩
  obtain ⟨a, w, e1, e2, e3⟩ := r.obj i o he
  exact ⟨a, w, e1, e.keep a w (.inl rfl) e2, e3.ext e o⟩
/-- a new thing of ours -/
theorem RH.new (r : RH P ρ B H h) {p : Addr} {u : HO} {o : AO} (hp : H p = none) (ho : RO P ρ B H o u) : RH P (ρ ++ [p]) B (upd H p u) (h ++ [o]) := by
  have e : Ext true ρ H (ρ ++ [p]) (upd H p u) := Ext.newR hp
  have np : p ∉ ρ := fun z => r.lvR p z hp
  refine ⟨by simp [r.len], ?_, fun a ha => ?_, fun a ha => e.live a (r.lvB a ha), fun i q he => ?_⟩
  · exact List.nodup_append.mpr ⟨r.nd, by simp, fun a ha b hb z => by
      have hb' := List.mem_singleton.mp hb
      subst hb' z
      exact np ha⟩
  · rcases List.mem_append.mp ha with ha | ha
    · exact r.out a ha
    · rw [List.mem_singleton.mp ha]
      intro z
      exact r.lvB p z hp
  · by_cases hi : i < h.length
    · rw [List.getElem?_append_left hi] at he
      obtain ⟨a, w, e1, e2, e3⟩ := r.obj i q he
      exact ⟨a, w, e.get e1, e.keep a w (.inl rfl) e2, e3.ext e q⟩
    · have hl : i = h.length := by
        have := (List.getElem?_eq_some_iff.mp he).1
        simp at this
        omega
      subst hl
      rw [List.getElem?_append_right (Nat.le_refl _)] at he
      simp at he
      subst he
      exact ⟨p, u, by rw [← r.len]; simp, upd_same, ho.ext e o⟩
/-- a thing of ours is changed -/
theorem RH.put (r : RH P ρ B H h) {i : Nat} {a : Addr} {u : HO} {o : AO} (ha : ρ[i]? = some a) (ho : RO P ρ B H o u) : RH P ρ B (upd H a u) (h.set i o) := by
  have hm : a ∈ ρ := List.mem_of_getElem? ha
  have e : Ext false ρ H ρ (upd H a u) := Ext.put hm
  refine ⟨by simp [r.len], r.nd, r.out, fun b hb => e.live b (r.lvB b hb), fun j q he => ?_⟩
  by_cases hj : j = i
  · subst hj
    have hl : j < h.length := by
      have := (List.getElem?_eq_some_iff.mp he).1
      simpa using this
    rw [List.getElem?_set_self hl] at he
    cases he
    exact ⟨a, u, ha, upd_same, ho.ext e _⟩
  · rw [List.getElem?_set_ne (Ne.symm hj)] at he
    obtain ⟨c, w, e1, e2, e3⟩ := r.obj j q he
    have nc : c ≠ a := fun z => by
      subst z
      obtain ⟨h1, g1⟩ := List.getElem?_eq_some_iff.mp e1
      obtain ⟨h2, g2⟩ := List.getElem?_eq_some_iff.mp ha
      exact hj ((List.getElem_inj r.nd).mp (g1.trans g2.symm))
    exact ⟨c, w, e1, by rw [upd_ne nc]; exact e2, e3.ext e q⟩
/-- something that is not ours nor of what it knows is changed -/
theorem RH.at {i : Nat} {a : Addr} {o : AO} (r : RH P ρ B H h) (ha : ρ[i]? = some a) (ho : h[i]? = some o) : ∃ u, H a = some u ∧ RO P ρ B H o u := by
  obtain ⟨a', u, e1, e2, e3⟩ := r.obj i o ho
  rw [ha] at e1
  cases e1
  exact ⟨u, e2, e3⟩
end
end D
end

section
namespace D
open PySem L2

/-- the foreign mutable things and the names' own ones -/
def Bo (B : Addr → Prop) (ow : List (Nat × Addr)) : Addr → Prop := fun a => B a ∨ a ∈ ow.map (·.2)
/-- a name's own list or dict -/
def OV (K : PySem.W.Frag) (ρ : List Addr) (B : Addr → Prop) (H : Hp) : AV → HO → Prop
  | .lst xs, u => ∃ vs, u = .lst vs ∧ RVs K ρ B H xs vs
  | .dct kvs, u => ∃ us, u = .dK us ∧ RKs K ρ B H kvs us
  | _, _ => False
structure RS (P : Pm) (ρ : List Addr) (B : Addr → Prop) (ow : List (Nat × Addr)) (H : Hp) (σa : AS) (σ : St) : Prop where
  len : σa.length = σ.length
  nd1 : (ow.map (·.1)).Nodup
  nd2 : (ow.map (·.2)).Nodup
  out : ∀ p ∈ ow, p.2 ∉ ρ ∧ ¬ B p.2
  val : ∀ (i : Nat) (av : AV), σa[i]? = some (some av) → i ∉ ow.map (·.1) → ∃ v, σ[i]? = some (some v) ∧ RV P.K ρ (Bo B ow) H av v
  own : ∀ p ∈ ow, ∃ av u, σa[p.1]? = some (some av) ∧ σ[p.1]? = some (some (.ref p.2)) ∧ H p.2 = some u ∧ OV P.K ρ (Bo B ow) H av u

/-- the heap has grown, over statements: the names' own things may change, new ones may be had -/
structure ExtS (b : Bool) (ρ : List Addr) (ow : List (Nat × Addr)) (H : Hp) (ρ' : List Addr) (ow' : List (Nat × Addr)) (H' : Hp) : Prop where
  pre : ∃ l, ρ' = ρ ++ l ∧ ∀ a ∈ l, H a = none
  keep : ∀ a o, (b = true ∨ a ∉ ρ) → a ∉ ow.map (·.2) → H a = some o → H' a = some o
  live : ∀ a, H a ≠ none → H' a ≠ none
  own : ∀ a ∈ ow'.map (·.2), a ∈ ow.map (·.2) ∨ H a = none

section
variable {P : Pm} {K : PySem.W.Frag} {b : Bool} {ρ ρ' ρ1 ρ2 : List Addr} {B B' : Addr → Prop} {H H' H1 H2 : Hp} {ow ow' ow1 ow2 : List (Nat × Addr)} {σa σa' : AS} {σ σ' : St} {h h' : AH}
theorem ExtS.refl : ExtS b ρ ow H ρ ow H := ⟨⟨[], by simp, by simp⟩, fun _ _ _ _ h => h, fun _ h => h, fun _ h => .inl h⟩
theorem ExtS.of (e : Ext b ρ H ρ' H') : ExtS b ρ ow H ρ' ow H' := ⟨e.pre, fun a o h _ k => e.keep a o h k, e.live, fun _ h => .inl h⟩
theorem ExtS.trans (e : ExtS b ρ ow H ρ1 ow1 H1) (f : ExtS b ρ1 ow1 H1 ρ2 ow2 H2) : ExtS b ρ ow H ρ2 ow2 H2 := by
  obtain ⟨l, rfl, hl⟩ := e.pre
  obtain ⟨m, rfl, hm⟩ := f.pre
  have back : ∀ a, H1 a = none → H a = none := fun a z => by
    cases q : H a with
    | none => rfl
    | some o => exact absurd z (e.live a (by rw [q]; simp))
  refine ⟨⟨l ++ m, by simp, fun a ha => ?_⟩, fun a o h w k => ?_, fun a h => f.live a (e.live a h), fun a ha => ?_⟩
  · rcases List.mem_append.mp ha with ha | ha
    · exact hl a ha
    · exact back a (hm a ha)
  · refine f.keep a o ?_ (fun z => ?_) (e.keep a o h w k)
    · rcases h with h | h
      · exact .inl h
      · refine .inr fun z => ?_
        rcases List.mem_append.mp z with z | z
        · exact h z
        · rw [hl a z] at k; cases k
    · rcases e.own a z with z | z
      · exact w z
      · rw [z] at k; cases k
  · rcases f.own a ha with z | z
    · exact e.own a z
    · exact .inr (back a z)
theorem ExtS.fewer (e : ExtS b ρ ow H ρ' ow' H') (hs : ∀ a ∈ ow1.map (·.2), a ∈ ow'.map (·.2)) : ExtS b ρ ow H ρ' ow1 H' := ⟨e.pre, e.keep, e.live, fun a ha => e.own a (hs a ha)⟩
theorem ExtS.toNil (e : ExtS b ρ ow H ρ' ow' H') : ExtS b ρ ow H ρ' [] H' := e.fewer (by simp)
/-- forgetting owned ones at the start -/
theorem ExtS.start (e : ExtS b ρ ow1 H ρ' ow' H') (hs : ∀ a ∈ ow1.map (·.2), a ∈ ow.map (·.2)) : ExtS b ρ ow H ρ' ow' H' :=
  ⟨e.pre, fun a o h w k => e.keep a o h (fun z => w (hs a z)) k, e.live, fun a ha => (e.own a ha).imp_left (hs a)⟩
theorem ExtS.ext (e : ExtS b ρ [] H ρ' ow' H') : Ext b ρ H ρ' H' := ⟨e.pre, fun a o h k => e.keep a o h (by simp) k, e.live⟩
theorem ExtS.notin (e : ExtS b ρ ow H ρ' ow' H') {a : Addr} (h : a ∉ ρ) (k : H a ≠ none) : a ∉ ρ' := by
  obtain ⟨l, rfl, hl⟩ := e.pre
  intro z
  rcases List.mem_append.mp z with z | z
  · exact h z
  · exact k (hl a z)
theorem ExtS.notow (e : ExtS b ρ ow H ρ' ow' H') {a : Addr} (h : ¬ Bo B ow a) (k : H a ≠ none) : ¬ Bo B ow' a := fun z => by
  rcases z with z | z
  · exact h (.inl z)
  · rcases e.own a z with z | z
    · exact h (.inr z)
    · exact k z
theorem Bo.nil : ∀ a, B a → Bo B [] a := fun _ h => .inl h

mutual
theorem RV.extS (e : ExtS b ρ ow H ρ' ow' H') : ∀ (x : AV) {v : V}, RV K ρ (Bo B ow) H x v → RV K ρ' (Bo B ow') H' x v
  | .non, _, h => h
  | .bl _, _, h => h
  | .int _, _, h => h
  | .str _, _, h => h
  | .tup xs, v, h => by
    unfold RV at h ⊢
    obtain ⟨a, vs, rfl, h1, h2⟩ := h
    refine ⟨a, vs, rfl, h1.imp_left fun ⟨g1, g2, g3⟩ => ⟨e.notin g1 (rd_ne g3), e.notow g2 (rd_ne g3), ?_⟩, RVs.extS e xs h2⟩
    rcases g3 with g3 | ⟨o, g3⟩
    · exact .inl (e.keep _ _ (.inr g1) (fun z => g2 (.inr z)) g3)
    · exact .inr ⟨o, e.keep _ _ (.inr g1) (fun z => g2 (.inr z)) g3⟩
  | .lst xs, v, h => by
    unfold RV at h ⊢
    obtain ⟨a, vs, rfl, h1, h2, h3, h4⟩ := h
    exact ⟨a, vs, rfl, e.notin h1 (by rw [h3]; simp), e.notow h2 (by rw [h3]; simp), e.keep _ _ (.inr h1) (fun z => h2 (.inr z)) h3, RVs.extS e xs h4⟩
  | .dct kvs, v, h => by
    unfold RV at h ⊢
    obtain ⟨a, us, rfl, h1, h2, h3, h4⟩ := h
    exact ⟨a, us, rfl, e.notin h1 (by rw [h3]; simp), e.notow h2 (by rw [h3]; simp), e.keep _ _ (.inr h1) (fun z => h2 (.inr z)) h3, RKs.extS e kvs h4⟩
  | .ref i, v, h => by
    unfold RV at h ⊢
    obtain ⟨a, rfl, h1⟩ := h
    obtain ⟨l, rfl, hl⟩ := e.pre
    exact ⟨a, rfl, by rw [List.getElem?_append_left (List.getElem?_eq_some_iff.mp h1).1]; exact h1⟩
  | .ro xs, v, h => by
    unfold RV at h ⊢
    obtain ⟨a, vs, rfl, h1, h2⟩ := h
    refine ⟨a, vs, rfl, h1.imp_left fun ⟨g1, g2, g3⟩ => ⟨e.notin g1 (rd_ne g3), e.notow g2 (rd_ne g3), ?_⟩, RVs.extS e xs h2⟩
    rcases g3 with g3 | ⟨o, g3⟩
    · exact .inl (e.keep _ _ (.inr g1) (fun z => g2 (.inr z)) g3)
    · exact .inr ⟨o, e.keep _ _ (.inr g1) (fun z => g2 (.inr z)) g3⟩
theorem RVs.extS (e : ExtS b ρ ow H ρ' ow' H') : ∀ (xs : List AV) {vs : List V}, RVs K ρ (Bo B ow) H xs vs → RVs K ρ' (Bo B ow') H' xs vs
  | [], _, h => by unfold RVs at h ⊢; exact h
  | x :: xs, vs, h => by
    unfold RVs at h ⊢
    obtain ⟨v, r, rfl, h1, h2⟩ := h
    exact ⟨v, r, rfl, RV.extS e x h1, RVs.extS e xs h2⟩
theorem RKs.extS (e : ExtS b ρ ow H ρ' ow' H') : ∀ (kvs : List (AV × AV)) {us : List (Key × V)}, RKs K ρ (Bo B ow) H kvs us → RKs K ρ' (Bo B ow') H' kvs us
  | [], _, h => by unfold RKs at h ⊢; exact h
  | (k, x) :: r, us, h => by
    unfold RKs at h ⊢
    obtain ⟨k', v, t, rfl, h1, h2, h3⟩ := h
    exact ⟨k', v, t, rfl, h1, RV.extS e x h2, RKs.extS e r h3⟩
end

theorem RFs.extS (e : ExtS b ρ ow H ρ' ow' H') : ∀ (fs : List (Str × AV)) {us : List (Str × V)}, RFs K ρ (Bo B ow) H fs us → RFs K ρ' (Bo B ow') H' fs us
  | [], _, h => h
  | (k, x) :: r, us, h => by
    obtain ⟨v, t, rfl, h1, h2⟩ := h
    exact ⟨v, t, rfl, h1.extS e x, RFs.extS e r h2⟩
theorem OV.ext (e : Ext b ρ H ρ' H') : ∀ (x : AV) {u : HO}, OV K ρ B H x u → OV K ρ' B H' x u
  | .lst xs, _, ⟨vs, h1, h2⟩ => ⟨vs, h1, h2.ext e xs⟩
  | .dct xs, _, ⟨vs, h1, h2⟩ => ⟨vs, h1, h2.ext e xs⟩
theorem OV.anti (hB : ∀ a, B' a → B a) : ∀ (x : AV) {u : HO}, OV K ρ B H x u → OV K ρ B' H x u
  | .lst xs, _, ⟨vs, h1, h2⟩ => ⟨vs, h1, h2.anti hB xs⟩
  | .dct xs, _, ⟨vs, h1, h2⟩ => ⟨vs, h1, h2.anti hB xs⟩
theorem RS.ext (r : RS P ρ B ow H σa σ) (e : Ext b ρ H ρ' H') : RS P ρ' B ow H' σa σ := by
  refine ⟨r.len, r.nd1, r.nd2, fun p hp => ?_, fun i av h1 h2 => ?_, fun p hp => ?_⟩
  · obtain ⟨av, u, _, _, h3, _⟩ := r.own p hp
    exact ⟨e.notin (r.out p hp).1 (by rw [h3]; simp), (r.out p hp).2⟩
  · obtain ⟨v, h3, h4⟩ := r.val i av h1 h2
    exact ⟨v, h3, h4.ext e av⟩
  · obtain ⟨av, u, h1, h2, h3, h4⟩ := r.own p hp
    exact ⟨av, u, h1, h2, e.keep _ _ (.inr (r.out p hp).1) h3, h4.ext e av⟩
theorem mem_fst {p : Nat × Addr} (h : p ∈ ow) : p.1 ∈ ow.map (·.1) := List.mem_map_of_mem h
theorem mem_snd {p : Nat × Addr} (h : p ∈ ow) : p.2 ∈ ow.map (·.2) := List.mem_map_of_mem h
/-- a name that owns nothing is given a value -/
theorem RS.set (r : RS P ρ B ow H σa σ) {i : Nat} {av : AV} {v : V} (hi : i ∉ ow.map (·.1)) (hv : RV P.K ρ (Bo B ow) H av v) : RS P ρ B ow H (σa.set i (some av)) (σ.set i (some v)) := by
  refine ⟨by simp [r.len], r.nd1, r.nd2, r.out, fun j x h1 h2 => ?_, fun p hp => ?_⟩
  · by_cases hj : j = i
    · subst hj
      have hl : j < σa.length := by
        have := (List.getElem?_eq_some_iff.mp h1).1
        simpa using this
      rw [List.getElem?_set_self hl] at h1
      cases h1
      exact ⟨v, by rw [List.getElem?_set_self (by rw [← r.len]; exact hl)], hv⟩
    · rw [List.getElem?_set_ne (Ne.symm hj)] at h1
      obtain ⟨w, h3, h4⟩ := r.val j x h1 h2
      exact ⟨w, by rw [List.getElem?_set_ne (Ne.symm hj)]; exact h3, h4⟩
  · have hj : i ≠ p.1 := fun z => hi (by rw [z]; exact mem_fst hp)
    obtain ⟨x, u, h1, h2, h3, h4⟩ := r.own p hp
    exact ⟨x, u, by rw [List.getElem?_set_ne hj]; exact h1, by rw [List.getElem?_set_ne hj]; exact h2, h3, h4⟩
/-- a name's value is forgotten -/
theorem RS.wipe1 (r : RS P ρ B ow H σa σ) {i : Nat} (hi : i ∉ ow.map (·.1)) : RS P ρ B ow H (σa.set i none) (σ.set i none) := by
  refine ⟨by simp [r.len], r.nd1, r.nd2, r.out, fun j x h1 h2 => ?_, fun p hp => ?_⟩
  · by_cases hj : j = i
    · subst hj
      have hl : j < σa.length := by
        have := (List.getElem?_eq_some_iff.mp h1).1
        simpa using this
      rw [List.getElem?_set_self hl] at h1
      cases h1
    · rw [List.getElem?_set_ne (Ne.symm hj)] at h1
      obtain ⟨w, h3, h4⟩ := r.val j x h1 h2
      exact ⟨w, by rw [List.getElem?_set_ne (Ne.symm hj)]; exact h3, h4⟩
  · have hj : i ≠ p.1 := fun z => hi (by rw [z]; exact mem_fst hp)
    obtain ⟨x, u, h1, h2, h3, h4⟩ := r.own p hp
    exact ⟨x, u, by rw [List.getElem?_set_ne hj]; exact h1, by rw [List.getElem?_set_ne hj]; exact h2, h3, h4⟩
theorem RS.wipe (r : RS P ρ B ow H σa σ) : ∀ {vs : List Nat}, (∀ i ∈ vs, i ∉ ow.map (·.1)) → RS P ρ B ow H (wipeA σa vs) (wipe σ vs)
  | [], _ => r
  | v :: vs, h => (RS.wipe r (vs := vs) fun i hi => h i (List.mem_cons_of_mem _ hi)).wipe1 (h v List.mem_cons_self)
/-- names that own things are known no longer as owners: what they own stands still from now on -/
theorem RS.drop (r : RS P ρ B ow H σa σ) (q : Nat → Bool) : RS P ρ B (ow.filter fun p => q p.1) H σa σ := by
  have sub : ∀ p, p ∈ ow.filter (fun p => q p.1) → p ∈ ow := fun p hp => (List.mem_filter.mp hp).1
  have hB : ∀ a, Bo B (ow.filter fun p => q p.1) a → Bo B ow a := fun a z => by
    rcases z with z | z
    · exact .inl z
    · obtain ⟨p, hp, rfl⟩ := List.mem_map.mp z
      exact .inr (mem_snd (sub p hp))
  refine ⟨r.len, r.nd1.sublist (List.filter_sublist.map _), r.nd2.sublist (List.filter_sublist.map _), fun p hp => r.out p (sub p hp), fun i av h1 h2 => ?_, fun p hp => ?_⟩
  · by_cases hi : i ∈ ow.map (·.1)
    · obtain ⟨p, hp, rfl⟩ := List.mem_map.mp hi
      obtain ⟨x, u, h3, h4, h5, h6⟩ := r.own p hp
      rw [h1] at h3
      cases h3
      refine ⟨_, h4, ?_⟩
      have np : ¬ Bo B (ow.filter fun p => q p.1) p.2 := fun z => by
        rcases z with z | z
        · exact (r.out p hp).2 z
        · obtain ⟨p', hp', e⟩ := List.mem_map.mp z
          have e1 : p' = p := by
            obtain ⟨i, hi1, g1⟩ := List.getElem_of_mem (sub p' hp')
            obtain ⟨j, hj1, g2⟩ := List.getElem_of_mem hp
            have n2 := r.nd2
            have e2 : (ow.map (·.2))[i]'(by simpa using hi1) = (ow.map (·.2))[j]'(by simpa using hj1) := by simp [g1, g2, e]
            have e3 := (List.getElem_inj n2).mp e2
            subst e3
            rw [← g1, ← g2]
          subst e1
          exact h2 (mem_fst hp')
      have h6' := h6.anti hB
      cases av with
      | lst xs =>
        obtain ⟨vs, rfl, g⟩ := h6'
        unfold RV
        exact ⟨_, vs, rfl, (r.out p hp).1, np, h5, g⟩
      | dct xs =>
        obtain ⟨vs, rfl, g⟩ := h6'
        unfold RV
        exact ⟨_, vs, rfl, (r.out p hp).1, np, h5, g⟩
      | non => exact h6'.elim
      | bl _ => exact h6'.elim
      | int _ => exact h6'.elim
      | str _ => exact h6'.elim
      | tup _ => exact h6'.elim
      | ref _ => exact h6'.elim
      | ro _ => exact h6'.elim
    · obtain ⟨v, h3, h4⟩ := r.val i av h1 hi
      exact ⟨v, h3, h4.anti hB av⟩
  · obtain ⟨av, u, h1, h2, h3, h4⟩ := r.own p (sub p hp)
    exact ⟨av, u, h1, h2, h3, h4.anti hB av⟩
theorem filter_fst (q : Nat → Bool) : ∀ ow : List (Nat × Addr), (ow.filter fun p => q p.1).map (·.1) = (ow.map (·.1)).filter q
  | [] => rfl
  | p :: r => by
    by_cases h : q p.1 = true
    · simp [List.filter_cons, h, filter_fst q r]
    · simp [List.filter_cons, h, filter_fst q r]
theorem filter_snd (q : Nat → Bool) : ∀ a ∈ (ow.filter fun p => q p.1).map (·.2), a ∈ ow.map (·.2) := fun a ha => by
  obtain ⟨p, hp, rfl⟩ := List.mem_map.mp ha
  exact mem_snd (List.mem_filter.mp hp).1
theorem RH.drop (r : RH P ρ (Bo B ow) H h) (q : Nat → Bool) : RH P ρ (Bo B (ow.filter fun p => q p.1)) H h := r.anti fun a z => by
  rcases z with z | z
  · exact .inl z
  · exact .inr (filter_snd q a z)
/-- a name gets a new thing of its own -/
theorem RS.take (r : RS P ρ B ow H σa σ) {i : Nat} {a : Addr} {av : AV} {u : HO} (hi : i ∉ ow.map (·.1)) (hl : i < σa.length) (ha : H a = none) (hr : a ∉ ρ) (hb : ¬ B a) (ho : OV P.K ρ (Bo B ow) H av u) :
    RS P ρ B ((i, a) :: ow) (upd H a u) (σa.set i (some av)) (σ.set i (some (.ref a))) := by
  have e : Ext true ρ H ρ (upd H a u) := Ext.new ha
  have r1 := r.ext e
  have na : a ∉ ow.map (·.2) := fun z => by
    obtain ⟨p, hp, rfl⟩ := List.mem_map.mp z
    obtain ⟨_, _, _, _, h3, _⟩ := r.own p hp
    rw [ha] at h3; cases h3
  have up : ∀ x v, RV P.K ρ (Bo B ow) H x v → RV P.K ρ (Bo B ((i, a) :: ow)) (upd H a u) x v := fun x v hx => by
    have ee : ExtS true ρ ow H ρ ((i, a) :: ow) (upd H a u) := ⟨e.pre, fun c o h1 _ h2 => e.keep c o h1 h2, e.live, fun c hc => by
      rcases List.mem_cons.mp hc with rfl | hc
      · exact .inr ha
      · exact .inl hc⟩
    exact hx.extS ee x
  have upO : ∀ x w, OV P.K ρ (Bo B ow) H x w → OV P.K ρ (Bo B ((i, a) :: ow)) (upd H a u) x w := fun x w hx => by
    have ee : ExtS true ρ ow H ρ ((i, a) :: ow) (upd H a u) := ⟨e.pre, fun c o h1 _ h2 => e.keep c o h1 h2, e.live, fun c hc => by
      rcases List.mem_cons.mp hc with rfl | hc
      · exact .inr ha
      · exact .inl hc⟩
    cases x with
    | lst xs =>
      obtain ⟨vs, h1, h2⟩ := hx
      exact ⟨vs, h1, h2.extS ee xs⟩
    | dct xs =>
      obtain ⟨vs, h1, h2⟩ := hx
      exact ⟨vs, h1, h2.extS ee xs⟩
    | non => exact hx.elim
    | bl _ => exact hx.elim
    | int _ => exact hx.elim
    | str _ => exact hx.elim
    | tup _ => exact hx.elim
    | ref _ => exact hx.elim
    | ro _ => exact hx.elim
  refine ⟨by simp [r.len], List.nodup_cons.mpr ⟨hi, r.nd1⟩, List.nodup_cons.mpr ⟨na, r.nd2⟩, fun p hp => ?_, fun j x h1 h2 => ?_, fun p hp => ?_⟩
  · rcases List.mem_cons.mp hp with rfl | hp
    · exact ⟨hr, hb⟩
    · exact r.out p hp
  · have hj : j ≠ i := fun z => h2 (by rw [z]; exact List.mem_cons_self)
    have hj2 : j ∉ ow.map (·.1) := fun z => h2 (List.mem_cons_of_mem _ z)
    rw [List.getElem?_set_ne (Ne.symm hj)] at h1
    obtain ⟨w, h3, h4⟩ := r.val j x h1 hj2
    exact ⟨w, by rw [List.getElem?_set_ne (Ne.symm hj)]; exact h3, up x w h4⟩
  · rcases List.mem_cons.mp hp with rfl | hp
    · exact ⟨av, u, by rw [List.getElem?_set_self hl], by rw [List.getElem?_set_self (by rw [← r.len]; exact hl)], upd_same, upO av u ho⟩
    · have hj : i ≠ p.1 := fun z => hi (by rw [z]; exact mem_fst hp)
      obtain ⟨x, w, h1, h2, h3, h4⟩ := r.own p hp
      exact ⟨x, w, by rw [List.getElem?_set_ne hj]; exact h1, by rw [List.getElem?_set_ne hj]; exact h2, e.keep _ _ (.inl rfl) h3, upO x w h4⟩
/-- a name's own thing is changed -/
theorem RS.chg (r : RS P ρ B ow H σa σ) {i : Nat} {a : Addr} {av : AV} {u : HO} (hm : (i, a) ∈ ow) (ho : OV P.K ρ (Bo B ow) H av u) :
    RS P ρ B ow (upd H a u) (σa.set i (some av)) σ ∧ ExtS true ρ ow H ρ ow (upd H a u) := by
  have ee : ExtS true ρ ow H ρ ow (upd H a u) := ⟨⟨[], by simp, by simp⟩, fun c o _ h2 h3 => by
      rw [upd_ne (fun z => h2 (by rw [z]; exact mem_snd hm))]; exact h3, fun c hc => by
      by_cases z : c = a
      · subst z; rw [upd_same]; simp
      · rw [upd_ne z]; exact hc, fun c hc => .inl hc⟩
  have upO : ∀ x w, OV P.K ρ (Bo B ow) H x w → OV P.K ρ (Bo B ow) (upd H a u) x w := fun x w hx => by
    cases x with
    | lst xs =>
      obtain ⟨vs, h1, h2⟩ := hx
      exact ⟨vs, h1, h2.extS ee xs⟩
    | dct xs =>
      obtain ⟨vs, h1, h2⟩ := hx
      exact ⟨vs, h1, h2.extS ee xs⟩
    | non => exact hx.elim
    | bl _ => exact hx.elim
    | int _ => exact hx.elim
    | str _ => exact hx.elim
    | tup _ => exact hx.elim
    | ref _ => exact hx.elim
    | ro _ => exact hx.elim
  refine ⟨⟨by simp [r.len], r.nd1, r.nd2, r.out, fun j x h1 h2 => ?_, fun p hp => ?_⟩, ee⟩
  · have hj : j ≠ i := fun z => h2 (by rw [z]; exact mem_fst hm)
    rw [List.getElem?_set_ne (Ne.symm hj)] at h1
    obtain ⟨w, h3, h4⟩ := r.val j x h1 h2
    exact ⟨w, h3, h4.extS ee x⟩
  · by_cases hj : p.1 = i
    · have e1 : p = (i, a) := by
        obtain ⟨k, hk1, g1⟩ := List.getElem_of_mem hp
        obtain ⟨j, hj1, g2⟩ := List.getElem_of_mem hm
        have e2 : (ow.map (·.1))[k]'(by simpa using hk1) = (ow.map (·.1))[j]'(by simpa using hj1) := by simp [g1, g2, hj]
        have e3 := (List.getElem_inj r.nd1).mp e2
        subst e3
        rw [← g1, ← g2]
      subst e1
      obtain ⟨x, w, h1, h2, h3, h4⟩ := r.own _ hp
      exact ⟨av, u, by rw [List.getElem?_set_self (List.getElem?_eq_some_iff.mp h1).1], h2, upd_same, upO av u ho⟩
    · obtain ⟨x, w, h1, h2, h3, h4⟩ := r.own p hp
      have na : p.2 ≠ a := fun z => by
        obtain ⟨k, hk1, g1⟩ := List.getElem_of_mem hp
        obtain ⟨j, hj1, g2⟩ := List.getElem_of_mem hm
        have e2 : (ow.map (·.2))[k]'(by simpa using hk1) = (ow.map (·.2))[j]'(by simpa using hj1) := by simp [g1, g2, z]
        have e3 := (List.getElem_inj r.nd2).mp e2
        subst e3
        exact hj (by rw [← g1, g2])
      exact ⟨x, w, by rw [List.getElem?_set_ne (fun z => hj z.symm)]; exact h1, h2, by rw [upd_ne na]; exact h3, upO x w h4⟩
theorem RH.chg (r : RH P ρ (Bo B ow) H h) (rs : RS P ρ B ow H σa σ) {i : Nat} {a : Addr} {u : HO} (hm : (i, a) ∈ ow) : RH P ρ (Bo B ow) (upd H a u) h := by
  have ee : ExtS true ρ ow H ρ ow (upd H a u) := ⟨⟨[], by simp, by simp⟩, fun c o _ h2 h3 => by
      rw [upd_ne (fun z => h2 (by rw [z]; exact mem_snd hm))]; exact h3, fun c hc => by
      by_cases z : c = a
      · subst z; rw [upd_same]; simp
      · rw [upd_ne z]; exact hc, fun c hc => .inl hc⟩
  refine ⟨r.len, r.nd, r.out, fun c hc => ee.live c (r.lvB c hc), fun j o he => ?_⟩
  obtain ⟨c, w, e1, e2, e3⟩ := r.obj j o he
  have nc : c ≠ a := fun z => (rs.out _ hm).1 (by rw [← z]; exact List.mem_of_getElem? e1)
  refine ⟨c, w, e1, by rw [upd_ne nc]; exact e2, ?_⟩
  cases o with
  | lst xs =>
    obtain ⟨vs, h1, h2⟩ := e3
    exact ⟨vs, h1, h2.extS ee xs⟩
  | dct xs =>
    obtain ⟨vs, h1, h2⟩ := e3
    exact ⟨vs, h1, h2.extS ee xs⟩
  | ins c fs =>
    obtain ⟨dx, us, h1, h2⟩ := e3
    exact ⟨dx, us, h1, RFs.extS ee fs h2⟩
end

def RX (K : PySem.W.Frag) (ρ : List Addr) (B : Addr → Prop) (H : Hp) : XF → Option Addr → Prop
  | none, d => d = none
  | some fs, d => ∃ dx us, d = some dx ∧ dx ∉ ρ ∧ ¬ B dx ∧ H dx = some (.xd us) ∧ RFs K ρ B H fs us

/-- a value that may be read only: also a name's own list or dict -/
def RVb (K : PySem.W.Frag) (ρ : List Addr) (B : Addr → Prop) (H : Hp) (av : AV) (v : V) : Prop :=
  RV K ρ B H av v ∨ (∃ a u, v = .ref a ∧ a ∉ ρ ∧ H a = some u ∧ OV K ρ B H av u)
theorem RVb.ext {K : PySem.W.Frag} {b : Bool} {ρ ρ' : List Addr} {B : Addr → Prop} {H H' : Hp} {av : AV} {v : V} (h : RVb K ρ B H av v) (e : Ext b ρ H ρ' H') : RVb K ρ' B H' av v := by
  rcases h with h | ⟨a, u, h1, h2, h3, h4⟩
  · exact .inl (h.ext e av)
  · exact .inr ⟨a, u, h1, e.notin h2 (by rw [h3]; simp), e.keep _ _ (.inr h2) h3, h4.ext e av⟩
def RVbs (K : PySem.W.Frag) (ρ : List Addr) (B : Addr → Prop) (H : Hp) : List AV → List V → Prop
  | [], vs => vs = []
  | x :: xs, vs => ∃ v r, vs = v :: r ∧ RVb K ρ B H x v ∧ RVbs K ρ B H xs r
theorem RVbs.ext {K : PySem.W.Frag} {b : Bool} {ρ ρ' : List Addr} {B : Addr → Prop} {H H' : Hp} (e : Ext b ρ H ρ' H') : ∀ (xs : List AV) {vs : List V}, RVbs K ρ B H xs vs → RVbs K ρ' B H' xs vs
  | [], _, h => h
  | x :: xs, vs, h => by
    obtain ⟨v, r, rfl, h1, h2⟩ := h
    exact ⟨v, r, rfl, h1.ext e, RVbs.ext e xs h2⟩

def EPostB (P : Pm) (b : Bool) (W : WX) (ρ : List Addr) (B : Addr → Prop) (σ : St) (H : Hp) (Q : VK) : ER → Prop
  | .ok av h' => ∀ ρ' H' v, Ext b ρ H ρ' H' → RH P ρ' B H' h' → RVb P.K ρ' B H' av v → Q v H'
  | .exc c f h' => ∀ ρ' H' d, Ext b ρ H ρ' H' → RH P ρ' B H' h' → RX P.K ρ' B H' f d → W (P.ex c) d σ H'
  | .stuck => False
def LPostB (P : Pm) (b : Bool) (W : WX) (ρ : List Addr) (B : Addr → Prop) (σ : St) (H : Hp) (Q : List V → Hp → Prop) : LR → Prop
  | .ok avs h' => ∀ ρ' H' vs, Ext b ρ H ρ' H' → RH P ρ' B H' h' → RVbs P.K ρ' B H' avs vs → Q vs H'
  | .exc c f h' => ∀ ρ' H' d, Ext b ρ H ρ' H' → RH P ρ' B H' h' → RX P.K ρ' B H' f d → W (P.ex c) d σ H'
  | .stuck => False
def EPost (P : Pm) (b : Bool) (W : WX) (ρ : List Addr) (B : Addr → Prop) (σ : St) (H : Hp) (Q : VK) : ER → Prop
  | .ok av h' => ∀ ρ' H' v, Ext b ρ H ρ' H' → RH P ρ' B H' h' → RV P.K ρ' B H' av v → Q v H'
  | .exc c f h' => ∀ ρ' H' d, Ext b ρ H ρ' H' → RH P ρ' B H' h' → RX P.K ρ' B H' f d → W (P.ex c) d σ H'
  | .stuck => False
def LPost (P : Pm) (b : Bool) (W : WX) (ρ : List Addr) (B : Addr → Prop) (σ : St) (H : Hp) (Q : List V → Hp → Prop) : LR → Prop
  | .ok avs h' => ∀ ρ' H' vs, Ext b ρ H ρ' H' → RH P ρ' B H' h' → RVs P.K ρ' B H' avs vs → Q vs H'
  | .exc c f h' => ∀ ρ' H' d, Ext b ρ H ρ' H' → RH P ρ' B H' h' → RX P.K ρ' B H' f d → W (P.ex c) d σ H'
  | .stuck => False
def SPost (P : Pm) (b : Bool) (W : WX) (Nb Nx N' : List Nat) (ρ : List Addr) (B : Addr → Prop) (ow : List (Nat × Addr)) (H : Hp) (D : Ends) : SR → Prop
  | .nx σa' h' => ∀ ρ' ow' H' σ', ExtS b ρ ow H ρ' ow' H' → RH P ρ' (Bo B ow') H' h' → RS P ρ' B ow' H' σa' σ' → ow'.map (·.1) = N' → D.nx σ' H'
  | .bk σa' h' => ∀ ρ' ow' H' σ', ExtS b ρ ow H ρ' ow' H' → RH P ρ' (Bo B ow') H' h' → RS P ρ' B ow' H' σa' σ' → ow'.map (·.1) = Nb → D.bk σ' H'
  | .ct σa' h' => ∀ ρ' ow' H' σ', ExtS b ρ ow H ρ' ow' H' → RH P ρ' (Bo B ow') H' h' → RS P ρ' B ow' H' σa' σ' → ow'.map (·.1) = Nb → D.ct σ' H'
  | .rt av h' => ∀ ρ' H' v, ExtS b ρ ow H ρ' [] H' → RH P ρ' B H' h' → RV P.K ρ' B H' av v → D.rt v H'
  | .exc c f σa' h' => ∀ ρ' ow' H' σ' d, ExtS b ρ ow H ρ' ow' H' → RH P ρ' (Bo B ow') H' h' → RS P ρ' B ow' H' σa' σ' → ow'.map (·.1) = Nx → RX P.K ρ' (Bo B ow') H' f d → W (P.ex c) d σ' H'
  | .stuck => False

section
variable {P : Pm} {b : Bool} {W : WX} {ρ ρ1 : List Addr} {B : Addr → Prop} {σ : St} {H H1 : Hp} {Q : VK} {ow ow1 : List (Nat × Addr)} {Nb Nx N' : List Nat} {D : Ends}
theorem EPost.ext {r : ER} (h : EPost P b W ρ B σ H Q r) (e : Ext b ρ H ρ1 H1) : EPost P b W ρ1 B σ H1 Q r := by
  cases r with
  | ok av h' => exact fun ρ' H' v f => h ρ' H' v (e.trans f)
  | exc c x h' => exact fun ρ' H' v f => h ρ' H' v (e.trans f)
  | stuck => exact h
theorem LPost.ext {r : LR} {Q : List V → Hp → Prop} (h : LPost P b W ρ B σ H Q r) (e : Ext b ρ H ρ1 H1) : LPost P b W ρ1 B σ H1 Q r := by
  cases r with
  | ok av h' => exact fun ρ' H' v f => h ρ' H' v (e.trans f)
  | exc c x h' => exact fun ρ' H' v f => h ρ' H' v (e.trans f)
  | stuck => exact h
theorem SPost.ext {r : SR} (h : SPost P b W Nb Nx N' ρ B ow H D r) (e : ExtS b ρ ow H ρ1 ow1 H1) : SPost P b W Nb Nx N' ρ1 B ow1 H1 D r := by
  cases r with
  | nx _ _ => exact fun ρ' ow' H' σ' f => h ρ' ow' H' σ' (e.trans f)
  | bk _ _ => exact fun ρ' ow' H' σ' f => h ρ' ow' H' σ' (e.trans f)
  | ct _ _ => exact fun ρ' ow' H' σ' f => h ρ' ow' H' σ' (e.trans f)
  | rt _ _ => exact fun ρ' H' v f => h ρ' H' v (e.trans f)
  | exc _ _ _ _ => exact fun ρ' ow' H' σ' d f => h ρ' ow' H' σ' d (e.trans f)
  | stuck => exact h
theorem EPost.bind {r : ER} {k : AV → AH → ER} (h : EPost P b W ρ B σ H Q (r.bind k)) :
    EPost P b W ρ B σ H (fun v H1 => ∃ ρ1 av h1, Ext b ρ H ρ1 H1 ∧ RH P ρ1 B H1 h1 ∧ RV P.K ρ1 B H1 av v ∧ EPost P b W ρ1 B σ H1 Q (k av h1)) r := by
  cases r with
  | ok av h' => exact fun ρ' H' v e rh rv => ⟨ρ', av, h', e, rh, rv, EPost.ext h e⟩
  | exc c x h' => exact h
  | stuck => exact h
theorem EPost.bindL {r : ER} {k : AV → AH → LR} {Q : List V → Hp → Prop} (h : LPost P b W ρ B σ H Q (r.bindL k)) :
    EPost P b W ρ B σ H (fun v H1 => ∃ ρ1 av h1, Ext b ρ H ρ1 H1 ∧ RH P ρ1 B H1 h1 ∧ RV P.K ρ1 B H1 av v ∧ LPost P b W ρ1 B σ H1 Q (k av h1)) r := by
  cases r with
  | ok av h' => exact fun ρ' H' v e rh rv => ⟨ρ', av, h', e, rh, rv, LPost.ext h e⟩
  | exc c x h' => exact h
  | stuck => exact h
theorem LPost.bind {r : LR} {k : List AV → AH → ER} (h : EPost P b W ρ B σ H Q (r.bind k)) :
    LPost P b W ρ B σ H (fun v H1 => ∃ ρ1 av h1, Ext b ρ H ρ1 H1 ∧ RH P ρ1 B H1 h1 ∧ RVs P.K ρ1 B H1 av v ∧ EPost P b W ρ1 B σ H1 Q (k av h1)) r := by
  cases r with
  | ok av h' => exact fun ρ' H' v e rh rv => ⟨ρ', av, h', e, rh, rv, EPost.ext h e⟩
  | exc c x h' => exact h
  | stuck => exact h
theorem LPost.bindL {r : LR} {k : List AV → AH → LR} {Q : List V → Hp → Prop} (h : LPost P b W ρ B σ H Q (r.bindL k)) :
    LPost P b W ρ B σ H (fun v H1 => ∃ ρ1 av h1, Ext b ρ H ρ1 H1 ∧ RH P ρ1 B H1 h1 ∧ RVs P.K ρ1 B H1 av v ∧ LPost P b W ρ1 B σ H1 Q (k av h1)) r := by
  cases r with
  | ok av h' => exact fun ρ' H' v e rh rv => ⟨ρ', av, h', e, rh, rv, LPost.ext h e⟩
  | exc c x h' => exact h
  | stuck => exact h
theorem EPost.bindB {r : ER} {k : AV → AH → ER} (h : EPost P b W ρ B σ H Q (r.bind k)) :
    EPostB P b W ρ B σ H (fun v H1 => ∃ ρ1 av h1, Ext b ρ H ρ1 H1 ∧ RH P ρ1 B H1 h1 ∧ RVb P.K ρ1 B H1 av v ∧ EPost P b W ρ1 B σ H1 Q (k av h1)) r := by
  cases r with
  | ok av h' => exact fun ρ' H' v e rh rv => ⟨ρ', av, h', e, rh, rv, EPost.ext h e⟩
  | exc c x h' => exact h
  | stuck => exact h
theorem EPost.bindLB {r : ER} {k : AV → AH → LR} {Q : List V → Hp → Prop} (h : LPostB P b W ρ B σ H Q (r.bindL k)) :
    EPostB P b W ρ B σ H (fun v H1 => ∃ ρ1 av h1, Ext b ρ H ρ1 H1 ∧ RH P ρ1 B H1 h1 ∧ RVb P.K ρ1 B H1 av v ∧ LPostB P b W ρ1 B σ H1 Q (k av h1)) r := by
  cases r with
  | ok av h' => exact fun ρ' H' v e rh rv => ⟨ρ', av, h', e, rh, rv, by
      cases g : k av h' with
      | ok a1 h1 => exact fun ρ2 H2 vs f => (by simp only [ER.bindL, g] at h; exact h ρ2 H2 vs (e.trans f))
      | exc c x h1 => exact fun ρ2 H2 d f => (by simp only [ER.bindL, g] at h; exact h ρ2 H2 d (e.trans f))
      | stuck => simp only [ER.bindL, g] at h; exact h⟩
  | exc c x h' => exact h
  | stuck => exact h
theorem LPostB.bind {r : LR} {k : List AV → AH → ER} (h : EPost P b W ρ B σ H Q (r.bind k)) :
    LPostB P b W ρ B σ H (fun v H1 => ∃ ρ1 av h1, Ext b ρ H ρ1 H1 ∧ RH P ρ1 B H1 h1 ∧ RVbs P.K ρ1 B H1 av v ∧ EPost P b W ρ1 B σ H1 Q (k av h1)) r := by
  cases r with
  | ok av h' => exact fun ρ' H' v e rh rv => ⟨ρ', av, h', e, rh, rv, EPost.ext h e⟩
  | exc c x h' => exact h
  | stuck => exact h
theorem EPostB.imp {r : ER} {Q' : VK} (h : EPostB P b W ρ B σ H Q r) (hq : ∀ v H, Q v H → Q' v H) : EPostB P b W ρ B σ H Q' r := by
  cases r with
  | ok av h' => exact fun ρ' H' v e rh rv => hq _ _ (h ρ' H' v e rh rv)
  | exc c x h' => exact h
  | stuck => exact h
theorem EPostB.up {r : ER} (h : EPostB P b W ρ B σ H Q r) : EPost P b W ρ B σ H Q r := by
  cases r with
  | ok av h' => exact fun ρ' H' v e rh rv => h ρ' H' v e rh (.inl rv)
  | exc c x h' => exact h
  | stuck => exact h
theorem EPost.imp {r : ER} {Q' : VK} (h : EPost P b W ρ B σ H Q r) (hq : ∀ v H, Q v H → Q' v H) : EPost P b W ρ B σ H Q' r := by
  cases r with
  | ok av h' => exact fun ρ' H' v e rh rv => hq _ _ (h ρ' H' v e rh rv)
  | exc c x h' => exact h
  | stuck => exact h
end

def tDE (P : Pm) (b : Bool) (W : WX) (N : List Nat) (m : EV) : TE := fun σ H Q =>
  ∃ ρ B ow σa h, RH P ρ (Bo B ow) H h ∧ RS P ρ B ow H σa σ ∧ ow.map (·.1) = N ∧ EPost P b W ρ (Bo B ow) σ H Q (m σa h)
def tDB (P : Pm) (b : Bool) (W : WX) (N : List Nat) (m : EV) : TE := fun σ H Q =>
  ∃ ρ B ow σa h, RH P ρ (Bo B ow) H h ∧ RS P ρ B ow H σa σ ∧ ow.map (·.1) = N ∧ EPostB P b W ρ (Bo B ow) σ H Q (m σa h)
def tDAB (P : Pm) (b : Bool) (W : WX) (N : List Nat) (m : LV) : TA := fun σ H Q =>
  ∃ ρ B ow σa h, RH P ρ (Bo B ow) H h ∧ RS P ρ B ow H σa σ ∧ ow.map (·.1) = N ∧ LPostB P b W ρ (Bo B ow) σ H Q (m σa h)
def tDA (P : Pm) (b : Bool) (W : WX) (N : List Nat) (m : LV) : TA := fun σ H Q =>
  ∃ ρ B ow σa h, RH P ρ (Bo B ow) H h ∧ RS P ρ B ow H σa σ ∧ ow.map (·.1) = N ∧ LPost P b W ρ (Bo B ow) σ H Q (m σa h)
def TPost (P : Pm) (b : Bool) (W : WX) (ρ : List Addr) (B : Addr → Prop) (σ : St) (H : Hp) (Q : Bool → Hp → Prop) : ER → Prop
  | .ok (.bl c) h' => ∀ ρ' H', Ext b ρ H ρ' H' → RH P ρ' B H' h' → Q c H'
  | .ok _ _ => False
  | .exc c f h' => ∀ ρ' H' d, Ext b ρ H ρ' H' → RH P ρ' B H' h' → RX P.K ρ' B H' f d → W (P.ex c) d σ H'
  | .stuck => False
def tDT (P : Pm) (b : Bool) (W : WX) (N : List Nat) (m : EV) : TT := fun σ H Q =>
  ∃ ρ B ow σa h, RH P ρ (Bo B ow) H h ∧ RS P ρ B ow H σa σ ∧ ow.map (·.1) = N ∧ TPost P b W ρ (Bo B ow) σ H Q (m σa h)
def tDS (P : Pm) (b : Bool) (W : WX) (N Nb Nx N' : List Nat) (m : SV) : TS := fun D σ H =>
  ∃ ρ B ow σa h, RH P ρ (Bo B ow) H h ∧ RS P ρ B ow H σa σ ∧ ow.map (·.1) = N ∧ SPost P b W Nb Nx N' ρ B ow H D (m σa h)

structure DE (P : Pm) (X : Cx) (b : Bool) (W : WX) (N : List Nat) (e : Expr) (m : EV) : Prop where
  pe : PE X e (tDE P b W N m)
/-- .. whose value is only read -/
structure DB (P : Pm) (X : Cx) (b : Bool) (W : WX) (N : List Nat) (e : Expr) (m : EV) : Prop where
  pe : PE X e (tDB P b W N m)
structure DAB (P : Pm) (X : Cx) (b : Bool) (W : WX) (N : List Nat) (es : List Expr) (m : LV) : Prop where
  pa : PA X es (tDAB P b W N m)
structure DT (P : Pm) (X : Cx) (b : Bool) (W : WX) (N : List Nat) (e : Expr) (m : EV) : Prop where
  pt : PT X e (tDT P b W N m)
structure DA (P : Pm) (X : Cx) (b : Bool) (W : WX) (N : List Nat) (es : List Expr) (m : LV) : Prop where
  pa : PA X es (tDA P b W N m)
structure DS (P : Pm) (X : Cx) (b : Bool) (W : WX) (N Nb Nx N' : List Nat) (st : Stmt) (m : SV) : Prop where
  ps : PS X st (tDS P b W N Nb Nx N' m)
structure DSs (P : Pm) (X : Cx) (b : Bool) (W : WX) (N Nb Nx N' : List Nat) (sts : List Stmt) (m : SV) : Prop where
  ps : PSs X sts (tDS P b W N Nb Nx N' m)

section
variable {X : Cx} {e : Expr} {es : List Expr} {st : Stmt} {sts : List Stmt}
theorem pe_weak {t t' : TE} (h : PE X e t) (w : ∀ σ H Q, t' σ H Q → t σ H Q) : PE X e t' := ⟨fun pins s σ H Q I q => h.run pins s σ H Q I (w σ H Q q)⟩
theorem pt_weak {t t' : TT} (h : PT X e t) (w : ∀ σ H Q, t' σ H Q → t σ H Q) : PT X e t' := ⟨fun pins s σ H Q I q => h.run pins s σ H Q I (w σ H Q q)⟩
theorem pw_weak {t t' : TT} (h : PW X e t) (w : ∀ σ H Q, t' σ H Q → t σ H Q) : PW X e t' := ⟨fun wh pins s σ H Q I q => h.run wh pins s σ H Q I (w σ H Q q)⟩
theorem pa_weak {t t' : TA} (h : PA X es t) (w : ∀ σ H Q, t' σ H Q → t σ H Q) : PA X es t' := ⟨fun pos pins s σ H Q I q => h.run pos pins s σ H Q I (w σ H Q q)⟩
theorem ps_weak {t t' : TS} (h : PS X st t) (w : ∀ D σ H, t' D σ H → t D σ H) : PS X st t' := ⟨fun pins s σ H D I q => h.run pins s σ H D I (w D σ H q)⟩
theorem DE.b {P : Pm} {b : Bool} {W : WX} {N : List Nat} {m : EV} (h : DE P X b W N e m) : DB P X b W N e m := ⟨pe_weak h.pe fun σ H Q ⟨ρ, B, ow, σa, hh, rh, rs, hN, q⟩ => ⟨ρ, B, ow, σa, hh, rh, rs, hN, q.up⟩⟩
theorem pss_weak {t t' : TS} (h : PSs X sts t) (w : ∀ D σ H, t' D σ H → t D σ H) : PSs X sts t' := ⟨fun pins s σ H D I q => h.run pins s σ H D I (w D σ H q)⟩
end
end D
end

section
namespace D
open PySem L2

section
variable {P : Pm} {X : Cx} {b : Bool} {W : WX} {N : List Nat} {e a c : Expr} {es : List Expr} {pos : Pos} {ma mb mc : EV} {ms : List EV}

theorem de_var (i : Nat) {x : Str} (hK : P.K = X.K := by rfl) (hn : i ∉ N := by decide) (hN : X.N[i]? = some x := by rfl) (hv : Vis X.env.scope x := by first | exact Or.inl rfl | exact Or.inr (Or.inl rfl) | exact Or.inr (Or.inr rfl)) (hd : (x == ("__debug__" : Str)) = false := by decide)
    (hcd : (x == ("__classdict__" : Str)) = false := by decide) : DE P X b W N (.Name x pos) (varD i) := by
  refine ⟨pe_weak (pe_var hN hv hd hcd) ?_⟩
  rintro σ H Q ⟨ρ, B, ow, σa, h, rh, rs, rfl, q⟩
  unfold varD at q
  split at q
  · rename_i v hv
    obtain ⟨w, h1, h2⟩ := rs.val i v hv hn
    exact ⟨w, h1, q ρ H w (Ext.refl b ρ H) rh h2⟩
  · exact q.elim
/-- a name whose value is only read -/
theorem db_var (i : Nat) {x : Str} (hK : P.K = X.K := by rfl) (hN : X.N[i]? = some x := by rfl) (hv : Vis X.env.scope x := by first | exact Or.inl rfl | exact Or.inr (Or.inl rfl) | exact Or.inr (Or.inr rfl)) (hd : (x == ("__debug__" : Str)) = false := by decide)
    (hcd : (x == ("__classdict__" : Str)) = false := by decide) : DB P X b W N (.Name x pos) (varD i) := by
  refine ⟨pe_weak (pe_var hN hv hd hcd) ?_⟩
  rintro σ H Q ⟨ρ, B, ow, σa, h, rh, rs, rfl, q⟩
  unfold varD at q
  split at q
  · rename_i v hv
    by_cases hi : i ∈ ow.map (·.1)
    · obtain ⟨p, hp, rfl⟩ := List.mem_map.mp hi
      obtain ⟨av, u, h1, h2, h3, h4⟩ := rs.own p hp
      rw [hv] at h1
      cases h1
      exact ⟨_, h2, q ρ H _ (Ext.refl b ρ H) rh (.inr ⟨p.2, u, rfl, (rs.out p hp).1, h3, h4⟩)⟩
    · obtain ⟨w, h1, h2⟩ := rs.val i v hv hi
      exact ⟨w, h1, q ρ H w (Ext.refl b ρ H) rh (.inl h2)⟩
  · exact q.elim
theorem de_c {v : AV} {w : V} (h : PE X e (tC w)) (hv : ∀ ρ B H, RV P.K ρ B H v w) : DE P X b W N e (cD v) := by
  refine ⟨pe_weak h ?_⟩
  rintro σ H Q ⟨ρ, B, ow, σa, h, rh, rs, rfl, q⟩
  exact q ρ H w (Ext.refl b ρ H) rh (hv _ _ _)
theorem de_int {i : Int} {j : Nat} : DE P X b W N (.Constant (.int i) j pos) (cD (.int i)) := de_c pe_int fun _ _ _ => by unfold RV; rfl
theorem de_bl {i : Bool} {j : Nat} : DE P X b W N (.Constant (.bool i) j pos) (cD (.bl i)) := de_c pe_bl fun _ _ _ => by unfold RV; rfl
theorem de_non {j : Nat} : DE P X b W N (.Constant .none j pos) (cD .non) := de_c pe_non fun _ _ _ => by unfold RV; rfl
theorem de_str {i : Str} {j : Nat} : DE P X b W N (.Constant (.str i) j pos) (cD (.str i)) := de_c pe_str fun _ _ _ => by unfold RV; rfl

/-- a rule by values -/
def V2 (P : Pm) (b : Bool) (f : AV → AV → AH → ER) (r : R2) : Prop := ∀ (W : WX) ρ B σ H av bv h x y Q, RH P ρ B H h → RVb P.K ρ B H av x → RVb P.K ρ B H bv y → EPost P b W ρ B σ H Q (f av bv h) → r x y H Q
def V1 (P : Pm) (b : Bool) (f : AV → AH → ER) (r : V → Hp → VK → Prop) : Prop := ∀ (W : WX) ρ B σ H av h x Q, RH P ρ B H h → RVb P.K ρ B H av x → EPost P b W ρ B σ H Q (f av h) → r x H Q
def VN (P : Pm) (b : Bool) (f : FV) (r : List V → Hp → VK → Prop) : Prop := ∀ (W : WX) ρ B σ H avs h xs Q, RH P ρ B H h → RVbs P.K ρ B H avs xs → EPost P b W ρ B σ H Q (f avs h) → r xs H Q
/-- two in a row, from what is wanted of the whole -/
theorem seq2 {f : AV → AV → AH → ER} {R : V → V → Hp → Prop} {σ : St} {H : Hp} {Q : VK}
    (hq : tDE P b W N (bin f ma mb) σ H Q)
    (k : ∀ ρ B H1 av bv h x y, RH P ρ B H1 h → RVb P.K ρ B H1 av x → RVb P.K ρ B H1 bv y → EPost P b W ρ B σ H1 Q (f av bv h) → R x y H1) :
    tDB P b W N ma σ H fun x H1 => tDB P b W N mb σ H1 fun y H2 => R x y H2 := by
  obtain ⟨ρ, B, ow, σa, h, rh, rs, hN, q⟩ := hq
  refine ⟨ρ, B, ow, σa, h, rh, rs, hN, (EPost.bindB q).imp ?_⟩
  rintro x H1 ⟨ρ1, av, h1, e1, rh1, rv1, q1⟩
  refine ⟨ρ1, B, ow, σa, h1, rh1, rs.ext e1, hN, (EPost.bindB q1).imp ?_⟩
  rintro y H2 ⟨ρ2, bv, h2, e2, rh2, rv2, q2⟩
  exact k ρ2 (Bo B ow) H2 av bv h2 x y rh2 (rv1.ext e2) rv2 q2
theorem bin_weak {r : R2} {f : AV → AV → AH → ER} (hr : V2 P b f r) : ∀ σ H Q, tDE P b W N (bin f ma mb) σ H Q → tOp r (tDB P b W N ma) (tDB P b W N mb) σ H Q :=
  fun σ H Q hq => seq2 hq fun ρ B H1 av bv h x y rh r1 r2 q => hr W ρ B σ H1 av bv h x y Q rh r1 r2 q
theorem un_weak {r : V → Hp → VK → Prop} {f : AV → AH → ER} (hr : V1 P b f r) : ∀ σ H Q, tDE P b W N (un f ma) σ H Q → tUn r (tDB P b W N ma) σ H Q := by
  rintro σ H Q ⟨ρ, B, ow, σa, h, rh, rs, hN, q⟩
  refine ⟨ρ, B, ow, σa, h, rh, rs, hN, (EPost.bindB q).imp ?_⟩
  rintro x H1 ⟨ρ1, av, h1, e1, rh1, rv1, q1⟩
  exact hr W ρ1 (Bo B ow) σ H1 av h1 x Q rh1 rv1 q1
theorem de_op {op : Operator} {r : R2} {f : AV → AV → AH → ER} (ho : OpR X (binaryOp op) r) (hr : V2 P b f r) (ha : DB P X b W N a ma) (hc : DB P X b W N c mb) : DE P X b W N (.BinOp a op c pos) (bin f ma mb) :=
  ⟨pe_weak (pe_op ho ha.pe hc.pe) (bin_weak hr)⟩
theorem de_cmp {op : CmpOp} {r : R2} {f : AV → AV → AH → ER} (ho : OpR X (compareOp op) r) (hr : V2 P b f r) (ha : DB P X b W N a ma) (hc : DB P X b W N c mb) (hm : behindInMarks op c = false) : DE P X b W N (.Compare a [op] [c] pos) (bin f ma mb) :=
  ⟨pe_weak (pe_cmpR ho ha.pe hc.pe hm) (bin_weak hr)⟩
/-- a test from an expression -/
theorem tst_weak {t : TE} {tt : TT} (ht : ∀ σ H Q, (t σ H fun x H' => ∃ k, x = .bl k ∧ Q k H') → tt σ H Q) (hw : ∀ σ H Q, tDE P b W N ma σ H Q → t σ H Q) : ∀ σ H Q, tDT P b W N ma σ H Q → tt σ H Q := by
  rintro σ H Q ⟨ρ, B, ow, σa, h, rh, rs, hN, q⟩
  refine ht σ H Q (hw σ H _ ⟨ρ, B, ow, σa, h, rh, rs, hN, ?_⟩)
  cases g : ma σa h with
  | ok av h' =>
    rw [g] at q
    cases av with
    | bl c =>
      intro ρ' H' v e1 r1 r2
      unfold RV at r2
      exact ⟨c, r2, q ρ' H' e1 r1⟩
    | non => exact q.elim
    | int _ => exact q.elim
    | str _ => exact q.elim
    | tup _ => exact q.elim
    | lst _ => exact q.elim
    | dct _ => exact q.elim
    | ref _ => exact q.elim
    | ro _ => exact q.elim
  | exc c f h' => rw [g] at q; exact q
  | stuck => rw [g] at q; exact q.elim
theorem dt_cmp {op : CmpOp} {r : R2} {f : AV → AV → AH → ER} (ho : OpR X (compareOp op) r) (hr : V2 P b f r) (ha : DB P X b W N a ma) (hc : DB P X b W N c mb) (hm : behindInMarks op c = false) : DT P X b W N (.Compare a [op] [c] pos) (bin f ma mb) :=
  ⟨pt_weak (pt_cmpR ho ha.pe hc.pe hm) (tst_weak (fun _ _ _ h => h) (bin_weak hr))⟩
theorem dt_val (ha : DE P X b W N e ma) (he : ∀ whole, isTrue e X.env whole = (do let v ← whole; standAt e.pos; holding [v] (truthy v)) := by intro _; rfl) : DT P X b W N e ma :=
  ⟨pt_weak (pt_val ha.pe he) (tst_weak (fun _ _ _ h => h) fun _ _ _ h => h)⟩

theorem rv_int {K : PySem.W.Frag} {ρ : List Addr} {B : Addr → Prop} {H : Hp} {i : Int} {v : V} (h : RVb K ρ B H (.int i) v) : v = .int i := by
  rcases h with h | ⟨_, _, _, _, _, h⟩
  · unfold RV at h; exact h
  · exact h.elim
theorem rv_bl {K : PySem.W.Frag} {ρ : List Addr} {B : Addr → Prop} {H : Hp} {i : Bool} {v : V} (h : RVb K ρ B H (.bl i) v) : v = .bl i := by
  rcases h with h | ⟨_, _, _, _, _, h⟩
  · unfold RV at h; exact h
  · exact h.elim
theorem rv_str {K : PySem.W.Frag} {ρ : List Addr} {B : Addr → Prop} {H : Hp} {i : Str} {v : V} (h : RVb K ρ B H (.str i) v) : v = .str i := by
  rcases h with h | ⟨_, _, _, _, _, h⟩
  · unfold RV at h; exact h
  · exact h.elim
theorem rv_non {K : PySem.W.Frag} {ρ : List Addr} {B : Addr → Prop} {H : Hp} {v : V} (h : RVb K ρ B H .non v) : v = .non := by
  rcases h with h | ⟨_, _, _, _, _, h⟩
  · unfold RV at h; exact h
  · exact h.elim
theorem mk_int {K : PySem.W.Frag} {ρ : List Addr} {B : Addr → Prop} {H : Hp} {i : Int} : RV K ρ B H (.int i) (.int i) := by unfold RV; rfl
theorem mk_bl {K : PySem.W.Frag} {ρ : List Addr} {B : Addr → Prop} {H : Hp} {i : Bool} : RV K ρ B H (.bl i) (.bl i) := by unfold RV; rfl
theorem mk_str {K : PySem.W.Frag} {ρ : List Addr} {B : Addr → Prop} {H : Hp} {i : Str} : RV K ρ B H (.str i) (.str i) := by unfold RV; rfl
theorem mk_non {K : PySem.W.Frag} {ρ : List Addr} {B : Addr → Prop} {H : Hp} : RV K ρ B H .non .non := by unfold RV; rfl
theorem SqT.ofF {K : PySem.W.Frag} {ρ : List Addr} {B : Addr → Prop} {H : Hp} {a : Addr} {vs : List V} (h : FrzAt ρ B H a (.tup vs) ∨ StT K a vs) : SqT K H a vs := h.imp (·.2.2) id
theorem SqL.ofF {K : PySem.W.Frag} {ρ : List Addr} {B : Addr → Prop} {H : Hp} {a : Addr} {vs : List V} (h : FrzAt ρ B H a (.lst vs) ∨ StL K a vs) : SqL K H a vs := h.imp (·.2.2) id
theorem rv_tup {K : PySem.W.Frag} {ρ : List Addr} {B : Addr → Prop} {H : Hp} {xs : List AV} {v : V} (h : RVb K ρ B H (.tup xs) v) : ∃ a vs, v = .ref a ∧ SqT K H a vs ∧ RVs K ρ B H xs vs := by
  rcases h with h | ⟨_, _, _, _, _, h⟩
  · unfold RV at h
    obtain ⟨a, vs, e, h1, h2⟩ := h
    exact ⟨a, vs, e, SqT.ofF h1, h2⟩
  · exact h.elim
/-- a list that may be read -/
theorem rv_lv {ρ : List Addr} {B : Addr → Prop} {H : Hp} {h : AH} {x : AV} {xs : List AV} {v : V} (rh : RH P ρ B H h) (hx : RVb P.K ρ B H x v) (e : lv h x = some xs) : ∃ a vs, v = .ref a ∧ H a = some (.lst vs) ∧ RVs P.K ρ B H xs vs := by
  cases x with
  | lst ys =>
    cases e
    rcases hx with hx | ⟨a, u, h1, h2, h3, h4⟩
    · unfold RV at hx
      obtain ⟨a, vs, e1, _, _, h3, h4⟩ := hx
      exact ⟨a, vs, e1, h3, h4⟩
    · obtain ⟨vs, rfl, h5⟩ := h4
      exact ⟨a, vs, h1, h3, h5⟩
  | ref i =>
    rcases hx with hx | ⟨_, _, _, _, _, hx⟩
    case inr => exact hx.elim
    unfold RV at hx
    obtain ⟨a, e1, h1⟩ := hx
    simp only [lv] at e
    split at e
    · rename_i ys hy
      cases e
      obtain ⟨u, g1, g2⟩ := rh.at h1 hy
      obtain ⟨vs, rfl, g3⟩ := g2
      exact ⟨a, vs, e1, g1, g3⟩
    · cases e
  | non => cases e
  | bl _ => cases e
  | int _ => cases e
  | str _ => cases e
  | tup _ => cases e
  | dct _ => cases e
  | ro _ => cases e
theorem rv_rl {ρ : List Addr} {B : Addr → Prop} {H : Hp} {h : AH} {x : AV} {xs : List AV} {v : V} (rh : RH P ρ B H h) (hx : RVb P.K ρ B H x v) (e : rl h x = some xs) : ∃ a vs, v = .ref a ∧ SqL P.K H a vs ∧ RVs P.K ρ B H xs vs := by
  cases x with
  | ro ys =>
    cases e
    rcases hx with hx | ⟨_, _, _, _, _, hx⟩
    case inr => exact hx.elim
    unfold RV at hx
    obtain ⟨a, vs, e1, h3, h4⟩ := hx
    exact ⟨a, vs, e1, SqL.ofF h3, h4⟩
  | lst ys =>
    obtain ⟨a, vs, e1, h3, h4⟩ := rv_lv rh hx e
    exact ⟨a, vs, e1, SqL.of h3, h4⟩
  | ref i =>
    obtain ⟨a, vs, e1, h3, h4⟩ := rv_lv rh hx e
    exact ⟨a, vs, e1, SqL.of h3, h4⟩
  | non => cases e
  | bl _ => cases e
  | int _ => cases e
  | str _ => cases e
  | tup _ => cases e
  | dct _ => cases e
theorem rv_seq {ρ : List Addr} {B : Addr → Prop} {H : Hp} {h : AH} {x : AV} {xs : List AV} {v : V} (rh : RH P ρ B H h) (hx : RVb P.K ρ B H x v) (e : seqOf h x = some xs) : ∃ a vs, v = .ref a ∧ (SqL P.K H a vs ∨ SqT P.K H a vs) ∧ RVs P.K ρ B H xs vs := by
  cases x with
  | tup ys =>
    cases e
    obtain ⟨a, vs, e1, h3, h4⟩ := rv_tup hx
    exact ⟨a, vs, e1, .inr h3, h4⟩
  | ro ys =>
    obtain ⟨a, vs, e1, h3, h4⟩ := rv_rl rh hx e
    exact ⟨a, vs, e1, .inl h3, h4⟩
  | lst ys =>
    obtain ⟨a, vs, e1, h3, h4⟩ := rv_rl rh hx e
    exact ⟨a, vs, e1, .inl h3, h4⟩
  | ref i =>
    obtain ⟨a, vs, e1, h3, h4⟩ := rv_rl rh hx e
    exact ⟨a, vs, e1, .inl h3, h4⟩
  | non => cases e
  | bl _ => cases e
  | int _ => cases e
  | str _ => cases e
  | dct _ => cases e
theorem rv_dv {ρ : List Addr} {B : Addr → Prop} {H : Hp} {h : AH} {x : AV} {kvs : List (AV × AV)} {v : V} (rh : RH P ρ B H h) (hx : RVb P.K ρ B H x v) (e : dv h x = some kvs) : ∃ a us, v = .ref a ∧ H a = some (.dK us) ∧ RKs P.K ρ B H kvs us := by
  cases x with
  | dct ys =>
    cases e
    rcases hx with hx | ⟨a, u, h1, h2, h3, h4⟩
    · unfold RV at hx
      obtain ⟨a, vs, e1, _, _, h3, h4⟩ := hx
      exact ⟨a, vs, e1, h3, h4⟩
    · obtain ⟨vs, rfl, h5⟩ := h4
      exact ⟨a, vs, h1, h3, h5⟩
  | ref i =>
    rcases hx with hx | ⟨_, _, _, _, _, hx⟩
    case inr => exact hx.elim
    unfold RV at hx
    obtain ⟨a, e1, h1⟩ := hx
    simp only [dv] at e
    split at e
    · rename_i ys hy
      cases e
      obtain ⟨u, g1, g2⟩ := rh.at h1 hy
      obtain ⟨vs, rfl, g3⟩ := g2
      exact ⟨a, vs, e1, g1, g3⟩
    · cases e
  | non => cases e
  | bl _ => cases e
  | int _ => cases e
  | str _ => cases e
  | tup _ => cases e
  | lst _ => cases e
  | ro _ => cases e
/-- new things that stand still -/
theorem new_lst {ρ : List Addr} {B : Addr → Prop} {H : Hp} {h : AH} {xs : List AV} {vs : List V} {p : Addr} (rh : RH P ρ B H h) (hp : H p = none) (hv : RVs P.K ρ B H xs vs) : RV P.K ρ B (upd H p (.lst vs)) (.lst xs) (.ref p) := by
  have e : Ext true ρ H ρ (upd H p (.lst vs)) := Ext.new hp
  unfold RV
  exact ⟨p, vs, rfl, fun z => rh.lvR p z hp, fun z => rh.lvB p z hp, upd_same, hv.ext e xs⟩
theorem new_tup {ρ : List Addr} {B : Addr → Prop} {H : Hp} {h : AH} {xs : List AV} {vs : List V} {p : Addr} (rh : RH P ρ B H h) (hp : H p = none) (hv : RVs P.K ρ B H xs vs) : RV P.K ρ B (upd H p (.tup vs)) (.tup xs) (.ref p) := by
  have e : Ext true ρ H ρ (upd H p (.tup vs)) := Ext.new hp
  unfold RV
  exact ⟨p, vs, rfl, .inl ⟨fun z => rh.lvR p z hp, fun z => rh.lvB p z hp, .inl upd_same⟩, hv.ext e xs⟩
theorem lim_line {n : Nat} (h : n ≤ LIM) : n ≤ sizeLine := h
end
end D
end

section
namespace D
open PySem L2

mutual
def AV.toD : AV → PyData
  | .non => .none
  | .bl b => .bool b
  | .int i => .int i
  | .str s => .str s
  | .tup xs => .tuple (AV.toDs xs)
  | .lst xs => .list (AV.toDs xs)
  | .ro xs => .list (AV.toDs xs)
  | .dct _ => .none
  | .ref _ => .none
def AV.toDs : List AV → List PyData
  | [] => []
  | x :: r => AV.toD x :: AV.toDs r
end
theorem dl_cases {n : Nat} {x : AV} (h : x.dl n = true) : x = .non ∨ (∃ b, x = .bl b) ∨ (∃ i, x = .int i) ∨ (∃ s, x = .str s) ∨ (∃ m xs, n = m + 1 ∧ x = .tup xs ∧ xs.all (AV.dl m) = true) ∨ (∃ m xs, n = m + 1 ∧ x = .lst xs ∧ xs.all (AV.dl m) = true) := by
  cases x with
  | non => exact .inl rfl
  | bl b => exact .inr (.inl ⟨b, rfl⟩)
  | int i => exact .inr (.inr (.inl ⟨i, rfl⟩))
  | str s => exact .inr (.inr (.inr (.inl ⟨s, rfl⟩)))
  | tup xs =>
    cases n with
    | zero => simp [AV.dl] at h
    | succ m => exact .inr (.inr (.inr (.inr (.inl ⟨m, xs, rfl, rfl, by simpa [AV.dl] using h⟩))))
  | lst xs =>
    cases n with
    | zero => simp [AV.dl] at h
    | succ m => exact .inr (.inr (.inr (.inr (.inr ⟨m, xs, rfl, rfl, by simpa [AV.dl] using h⟩))))
  | dct _ => cases n <;> simp [AV.dl] at h
  | ref _ => cases n <;> simp [AV.dl] at h
  | ro _ => cases n <;> simp [AV.dl] at h
section
variable {P : Pm} {ρ : List Addr} {B : Addr → Prop} {H : Hp} {h : AH}
mutual
theorem dp_of (rh : RH P ρ B H h) : ∀ (n : Nat) (x : AV) {v : V}, x.dl n = true → RV P.K ρ B H x v → Dp P.K H v x.toD
  | _, .non, v, _, r => by rw [rv_non (.inl r)]; unfold AV.toD; exact .non
  | _, .bl b, v, _, r => by rw [rv_bl (.inl r)]; unfold AV.toD; exact .bl b
  | _, .int b, v, _, r => by rw [rv_int (.inl r)]; unfold AV.toD; exact .int b
  | _, .str b, v, _, r => by rw [rv_str (.inl r)]; unfold AV.toD; exact .str b
  | 0, .tup xs, v, e, r => by simp [AV.dl] at e
  | n + 1, .tup xs, v, e, r => by
    obtain ⟨a, vs, rfl, h1, h2⟩ := rv_tup (.inl r)
    unfold AV.toD
    exact .tup h1 (dps_of rh n xs (by simpa [AV.dl] using e) h2)
  | 0, .lst xs, v, e, r => by simp [AV.dl] at e
  | n + 1, .lst xs, v, e, r => by
    obtain ⟨a, vs, rfl, h1, h2⟩ := rv_lv rh (.inl r) (show lv h (.lst xs) = some xs from rfl)
    unfold AV.toD
    exact .lst (SqL.of h1) (dps_of rh n xs (by simpa [AV.dl] using e) h2)
  | n, .dct _, v, e, r => by cases n <;> simp [AV.dl] at e
  | n, .ref _, v, e, r => by cases n <;> simp [AV.dl] at e
  | n, .ro _, v, e, r => by cases n <;> simp [AV.dl] at e
theorem dps_of (rh : RH P ρ B H h) : ∀ (n : Nat) (xs : List AV) {vs : List V}, (∀ x ∈ xs, x.dl n = true) → RVs P.K ρ B H xs vs → DpAll P.K H vs (AV.toDs xs)
  | _, [], vs, _, r => by unfold RVs at r; subst r; unfold AV.toDs; exact .nil
  | n, x :: xs, vs, e, r => by
    unfold RVs at r
    obtain ⟨v, t, rfl, h1, h2⟩ := r
    unfold AV.toDs
    exact .cons (dp_of rh n x (e x List.mem_cons_self) h1) (dps_of rh n xs (fun y hy => e y (List.mem_cons_of_mem _ hy)) h2)
end
end
mutual
theorem lay_of : ∀ (n : Nat) (x : AV), x.dl n = true → x.toD.canLay0 = true ∧ x.toD.depth ≤ n
  | _, .non, _ => by simp [AV.toD, PyData.canLay0, PyData.depth]
  | _, .bl b, _ => by simp [AV.toD, PyData.canLay0, PyData.depth]
  | _, .int b, _ => by simp [AV.toD, PyData.canLay0, PyData.depth]
  | _, .str b, e => by
    have e' : sOk b = true := by simpa [AV.dl] using e
    simp only [AV.toD, PyData.canLay0, PyData.depth]
    exact ⟨e', Nat.zero_le _⟩
  | 0, .tup xs, e => by simp [AV.dl] at e
  | n + 1, .tup xs, e => by
    have q := lays_of n xs (by simpa [AV.dl] using e)
    simp only [AV.toD, PyData.canLay0, PyData.depth]
    exact ⟨q.1, by omega⟩
  | 0, .lst xs, e => by simp [AV.dl] at e
  | n + 1, .lst xs, e => by
    have q := lays_of n xs (by simpa [AV.dl] using e)
    simp only [AV.toD, PyData.canLay0, PyData.depth]
    exact ⟨q.1, by omega⟩
  | n, .dct _, e => by cases n <;> simp [AV.dl] at e
  | n, .ref _, e => by cases n <;> simp [AV.dl] at e
  | n, .ro _, e => by cases n <;> simp [AV.dl] at e
theorem lays_of : ∀ (n : Nat) (xs : List AV), (∀ x ∈ xs, x.dl n = true) → PyData.canLayAll0 (AV.toDs xs) = true ∧ PyData.depthAll (AV.toDs xs) ≤ n
  | _, [], _ => by simp [AV.toDs, PyData.canLayAll0, PyData.depthAll]
  | n, x :: xs, e => by
    have q1 := lay_of n x (e x List.mem_cons_self)
    have q2 := lays_of n xs fun y hy => e y (List.mem_cons_of_mem _ hy)
    simp only [AV.toDs, PyData.canLayAll0, PyData.depthAll, Bool.and_eq_true]
    exact ⟨⟨q1.1, q2.1⟩, by omega⟩
end
theorem shaped_of {n : Nat} {x : AV} (h : x.dl n = true) (hn : n ≤ 64) : SeqAt.shaped x.toD = true := by
  have q := lay_of n x h
  unfold SeqAt.shaped
  rw [q.1, Bool.true_and]
  exact decide_eq_true (by omega)
mutual
theorem eqv_of : ∀ (n m : Nat) (x y : AV), x.dl n = true → y.dl m = true → PyData.eqv x.toD y.toD = x.eq y
  | n, m, x, y, hx, hy => by
    rcases dl_cases hx with rfl | ⟨b, rfl⟩ | ⟨i, rfl⟩ | ⟨s, rfl⟩ | ⟨n', xs, rfl, rfl, hx'⟩ | ⟨n', xs, rfl, rfl, hx'⟩ <;>
      rcases dl_cases hy with rfl | ⟨b', rfl⟩ | ⟨i', rfl⟩ | ⟨s', rfl⟩ | ⟨m', ys, rfl, rfl, hy'⟩ | ⟨m', ys, rfl, rfl, hy'⟩ <;>
      first
      | (simp only [AV.toD, PyData.eqv, AV.eq]; done)
      | (simp only [AV.toD, PyData.eqv, AV.eq]; exact eqvs_of n' m' xs ys (List.all_eq_true.mp hx') (List.all_eq_true.mp hy'))
theorem eqvs_of : ∀ (n m : Nat) (xs ys : List AV), (∀ x ∈ xs, x.dl n = true) → (∀ y ∈ ys, y.dl m = true) → PyData.eqvAll (AV.toDs xs) (AV.toDs ys) = AV.eqL xs ys
  | _, _, [], [], _, _ => by simp [AV.toDs, PyData.eqvAll, AV.eqL]
  | _, _, [], _ :: _, _, _ => by simp [AV.toDs, PyData.eqvAll, AV.eqL]
  | _, _, _ :: _, [], _, _ => by simp [AV.toDs, PyData.eqvAll, AV.eqL]
  | n, m, x :: xs, y :: ys, hx, hy => by
    simp only [AV.toDs, PyData.eqvAll, AV.eqL]
    rw [eqv_of n m x y (hx x List.mem_cons_self) (hy y List.mem_cons_self), eqvs_of n m xs ys (fun z hz => hx z (List.mem_cons_of_mem _ hz)) fun z hz => hy z (List.mem_cons_of_mem _ hz)]
end

section
variable {P : Pm} {X : Cx} {b : Bool}
theorem ok_post {W : WX} {ρ : List Addr} {B : Addr → Prop} {σ : St} {H : Hp} {Q : VK} {h : AH} {av : AV} {v : V} (q : EPost P b W ρ B σ H Q (.ok av h)) (rh : RH P ρ B H h) (rv : RV P.K ρ B H av v) : Q v H := q ρ H v (Ext.refl b ρ H) rh rv
theorem ok_new {W : WX} {ρ : List Addr} {B : Addr → Prop} {σ : St} {H : Hp} {Q : VK} {h : AH} {xs : List AV} {vs : List V} {p : Addr} (q : EPost P b W ρ B σ H Q (.ok (.lst xs) h)) (rh : RH P ρ B H h) (hp : H p = none) (rv : RVs P.K ρ B H xs vs) : Q (.ref p) (upd H p (.lst vs)) :=
  q ρ _ _ (Ext.new hp) (rh.frz hp) (new_lst rh hp rv)
theorem ok_newT {W : WX} {ρ : List Addr} {B : Addr → Prop} {σ : St} {H : Hp} {Q : VK} {h : AH} {xs : List AV} {vs : List V} {p : Addr} (q : EPost P b W ρ B σ H Q (.ok (.tup xs) h)) (rh : RH P ρ B H h) (hp : H p = none) (rv : RVs P.K ρ B H xs vs) : Q (.ref p) (upd H p (.tup vs)) :=
  q ρ _ _ (Ext.new hp) (rh.frz hp) (new_tup rh hp rv)
def rAdd4 (K : PySem.W.Frag) : R2 := fun x y H Q => (rI0 fun i j => .int (i + j)) x y H Q ∨ (∃ i j, x = .str i ∧ y = .str j ∧ i.length + j.length ≤ sizeLine ∧ Q (.str (i ++ j)) H) ∨ rCatA K x y H Q ∨ rCat x y H Q
theorem op_add4 : OpR X (binaryOp .Add) (rAdd4 X.K) := op_add.or (op_add_str.or (op_catA.or op_cat))
theorem RVs.ne {K : PySem.W.Frag} {ρ : List Addr} {B : Addr → Prop} {H : Hp} {xs : List AV} {vs : List V} (h : RVs K ρ B H xs vs) : vs = [] ↔ xs = [] := by
  have := h.len
  cases xs <;> cases vs <;> simp_all
theorem rvb_tup {ρ : List Addr} {B : Addr → Prop} {H : Hp} {xs : List AV} {v : V} (h : RVb P.K ρ B H (.tup xs) v) : RV P.K ρ B H (.tup xs) v := by
  rcases h with h | ⟨_, _, _, _, _, h⟩
  · exact h
  · exact h.elim
theorem v_add : V2 P b addV (rAdd4 P.K) := by
  intro W ρ B σ H av bv h x y Q rh r1 r2 q
  unfold addV at q
  split at q
  · exact .inl ⟨_, _, rv_int r1, rv_int r2, ok_post q rh mk_int⟩
  · split at q
    · rename_i hz
      exact .inr (.inl ⟨_, _, rv_str r1, rv_str r2, hz, ok_post q rh mk_str⟩)
    · exact q.elim
  · split at q
    · rename_i xs ys _ hz
      obtain ⟨a1, vs, e1, h1, g1⟩ := rv_tup r1
      obtain ⟨a2, ws, e2, h2, g2⟩ := rv_tup r2
      refine .inr (.inr (.inl ⟨a1, a2, vs, ws, e1, e2, h1, h2, by rw [← g1.len, ← g2.len]; exact hz, fun e => ?_, fun e e' => ?_, fun e e' p hp => ok_newT q rh hp (g1.app g2)⟩))
      · have z := g1.ne.mp e
        subst z
        rw [← e2]
        exact ok_post q rh (rvb_tup r2)
      · have z := g2.ne.mp e'
        subst z
        rw [List.append_nil] at q
        rw [← e1]
        exact ok_post q rh (rvb_tup r1)
    · exact q.elim
  · split at q
    · rename_i xs ys ex ey
      split at q
      · rename_i hz
        obtain ⟨a1, vs, e1, h1, g1⟩ := rv_lv rh r1 ex
        obtain ⟨a2, ws, e2, h2, g2⟩ := rv_lv rh r2 ey
        exact .inr (.inr (.inr ⟨a1, a2, vs, ws, e1, e2, h1, h2, by rw [← g1.len, ← g2.len]; exact hz, fun p hp => ok_new q rh hp (g1.app g2)⟩))
      · exact q.elim
    · exact q.elim
theorem v_sub : V2 P b subV (rI0 fun i j => .int (i - j)) := by
  intro W ρ B σ H av bv h x y Q rh r1 r2 q
  unfold subV at q
  split at q
  · exact ⟨_, _, rv_int r1, rv_int r2, ok_post q rh mk_int⟩
  · exact q.elim
def rMul2 : R2 := fun x y H Q => rI CMul (fun i j => .int (i * j)) x y H Q ∨ rRep x y H Q
theorem op_mul2 : OpR X (binaryOp .Mult) rMul2 := op_mul.or op_rep
theorem v_mul : V2 P b mulV rMul2 := by
  intro W ρ B σ H av bv h x y Q rh r1 r2 q
  unfold mulV at q
  split at q
  · split at q
    · rename_i hs
      refine .inl ⟨_, _, rv_int r1, rv_int r2, ?_, ok_post q rh mk_int⟩
      rw [Bool.or_eq_true] at hs
      unfold smallI at hs
      simp only [Bool.and_eq_true, decide_eq_true_eq] at hs
      exact hs
    · exact q.elim
  · split at q
    · rename_i hz
      obtain ⟨a1, vs, e1, h1, g1⟩ := rv_lv rh r1 (show lv h (.lst _) = some _ from rfl)
      exact .inr ⟨a1, _, vs, e1, rv_int r2, h1, by omega, by omega, by rw [← g1.len]; exact hz.2.1, fun p hp => ok_new q rh hp (g1.rep _)⟩
    · exact q.elim
  · exact q.elim
theorem v_fdiv : V2 P b fdivV (rI CDivN fun i j => .int (i.fdiv j)) := by
  intro W ρ B σ H av bv h x y Q rh r1 r2 q
  unfold fdivV at q
  split at q
  · split at q
    · rename_i hs
      exact ⟨_, _, rv_int r1, rv_int r2, hs, ok_post q rh mk_int⟩
    · exact q.elim
  · exact q.elim
theorem v_mod : V2 P b modV (rI (fun _ j => j ≠ 0) fun i j => .int (i.fmod j)) := by
  intro W ρ B σ H av bv h x y Q rh r1 r2 q
  unfold modV at q
  split at q
  · split at q
    · rename_i hs
      exact ⟨_, _, rv_int r1, rv_int r2, hs, ok_post q rh mk_int⟩
    · exact q.elim
  · exact q.elim
theorem v_pow : V2 P b powV (rI CPow fun i j => .int (i ^ j.toNat)) := by
  intro W ρ B σ H av bv h x y Q rh r1 r2 q
  unfold powV at q
  split at q
  · split at q
    · rename_i hs
      exact ⟨_, _, rv_int r1, rv_int r2, hs, ok_post q rh mk_int⟩
    · exact q.elim
  · exact q.elim
theorem v_neg : V1 P b negV (rU fun i => .int (-i)) := by
  intro W ρ B σ H av h x Q rh r1 q
  unfold negV at q
  split at q
  · exact ⟨_, rv_int r1, ok_post q rh mk_int⟩
  · exact q.elim
def rLt2 : R2 := fun x y H Q => (rI0 fun i j => .bl (decide (i < j))) x y H Q ∨ (∃ i j, x = .str i ∧ y = .str j ∧ Q (.bl (decide (i.cps.toList < j.cps.toList))) H)
theorem op_lt2 : OpR X (compareOp .Lt) rLt2 := op_lt.or op_lt_str
theorem v_lt : V2 P b ltV rLt2 := by
  intro W ρ B σ H av bv h x y Q rh r1 r2 q
  unfold ltV at q
  split at q
  · exact .inl ⟨_, _, rv_int r1, rv_int r2, ok_post q rh mk_bl⟩
  · exact .inr ⟨_, _, rv_str r1, rv_str r2, ok_post q rh mk_bl⟩
  · exact q.elim
theorem v_cmpI {p : Int → Int → Bool} : V2 P b (cmpI p) (rI0 fun i j => .bl (p i j)) := by
  intro W ρ B σ H av bv h x y Q rh r1 r2 q
  unfold cmpI at q
  split at q
  · exact ⟨_, _, rv_int r1, rv_int r2, ok_post q rh mk_bl⟩
  · exact q.elim
theorem thaw_rv {ρ : List Addr} {B : Addr → Prop} {H : Hp} {h : AH} {x : AV} {v : V} (rh : RH P ρ B H h) (r : RVb P.K ρ B H x v) : (∃ s, thaw h x = .str s ∧ v = .str s) ∨ (∃ s, thaw h x = .int s ∧ v = .int s) ∨ (∃ s, thaw h x = .bl s ∧ v = .bl s) ∨ (thaw h x = .non ∧ v = .non) ∨ scalA (thaw h x) (thaw h x) = false := by
  cases x with
  | non => exact .inr (.inr (.inr (.inl ⟨rfl, rv_non r⟩)))
  | bl s => exact .inr (.inr (.inl ⟨s, rfl, rv_bl r⟩))
  | int s => exact .inr (.inl ⟨s, rfl, rv_int r⟩)
  | str s => exact .inl ⟨s, rfl, rv_str r⟩
  | tup _ => exact .inr (.inr (.inr (.inr rfl)))
  | lst _ => exact .inr (.inr (.inr (.inr rfl)))
  | dct _ => exact .inr (.inr (.inr (.inr rfl)))
  | ro _ => exact .inr (.inr (.inr (.inr rfl)))
  | ref i =>
    refine .inr (.inr (.inr (.inr ?_)))
    simp only [thaw]
    split <;> rfl
theorem thaw_dp {ρ : List Addr} {B : Addr → Prop} {H : Hp} {h : AH} {x : AV} {v : V} (rh : RH P ρ B H h) (r : RVb P.K ρ B H x v) {n : Nat} (hd : (thaw h x).dl n = true) : Dp P.K H v (thaw h x).toD := by
  have lst : ∀ xs, lv h x = some xs → (AV.lst xs).dl n = true → Dp P.K H v (AV.lst xs).toD := fun xs e hd => by
    obtain ⟨a, vs, e1, h1, h2⟩ := rv_lv rh r e
    subst e1
    cases n with
    | zero => simp [AV.dl] at hd
    | succ m =>
      unfold AV.toD
      exact .lst (SqL.of h1) (dps_of rh m xs (by simpa [AV.dl] using hd) h2)
  cases x with
  | ref i =>
    simp only [thaw] at hd ⊢
    split at hd
    · rename_i xs hx
      exact lst xs (by simp only [lv]; rw [hx]) hd
    · cases n <;> simp [AV.dl] at hd
  | non => rcases r with r | ⟨_, _, _, _, _, r⟩ <;> first | exact dp_of rh n _ hd r | exact r.elim
  | bl _ => rcases r with r | ⟨_, _, _, _, _, r⟩ <;> first | exact dp_of rh n _ hd r | exact r.elim
  | int _ => rcases r with r | ⟨_, _, _, _, _, r⟩ <;> first | exact dp_of rh n _ hd r | exact r.elim
  | str _ => rcases r with r | ⟨_, _, _, _, _, r⟩ <;> first | exact dp_of rh n _ hd r | exact r.elim
  | tup _ => rcases r with r | ⟨_, _, _, _, _, r⟩ <;> first | exact dp_of rh n _ hd r | exact r.elim
  | lst xs => exact lst xs rfl hd
  | dct _ => have hd' : AV.dl n (.dct _) = true := hd; cases n <;> simp [AV.dl] at hd'
  | ro _ => have hd' : AV.dl n (.ro _) = true := hd; cases n <;> simp [AV.dl] at hd'
def rEq2 (K : PySem.W.Frag) : R2 := fun x y H Q => rEq x y H Q ∨ rEqD K x y H Q
def rNe2 (K : PySem.W.Frag) : R2 := fun x y H Q => rNe x y H Q ∨ rNeD K x y H Q
theorem op_eq2 (hu : X.A.units + 64 < cLine) : OpR X (compareOp .Eq) (rEq2 X.K) := op_eq.or (op_eqD hu)
theorem op_ne2 (hu : X.A.units + 64 < cLine) : OpR X (compareOp .NotEq) (rNe2 X.K) := op_ne.or (op_neD hu)
theorem scal_eq {ρ : List Addr} {B : Addr → Prop} {H : Hp} {h : AH} {x y : AV} {v w : V} (rh : RH P ρ B H h) (r1 : RVb P.K ρ B H x v) (r2 : RVb P.K ρ B H y w) (hs : scalA (thaw h x) (thaw h y) = true) :
    scal v w = true ∧ decide (v = w) = (thaw h x).eq (thaw h y) := by
  rcases thaw_rv rh r1 with ⟨s, e1, rfl⟩ | ⟨s, e1, rfl⟩ | ⟨s, e1, rfl⟩ | ⟨e1, rfl⟩ | e1 <;> rcases thaw_rv rh r2 with ⟨t, e2, rfl⟩ | ⟨t, e2, rfl⟩ | ⟨t, e2, rfl⟩ | ⟨e2, rfl⟩ | e2 <;>
    first
    | (rw [e1, e2]; refine ⟨rfl, ?_⟩; unfold AV.eq; first | exact dec_str | exact dec_int | exact dec_bl | exact decide_eq_true rfl | exact decide_eq_false (fun z => by cases z))
    | (rw [e1, e2] at hs; simp [scalA] at hs; done)
    | (exfalso; revert hs e1 e2; generalize thaw h x = p; generalize thaw h y = q; cases p <;> cases q <;> simp [scalA])
theorem v_eq : V2 P b eqV (rEq2 P.K) := by
  intro W ρ B σ H av bv h x y Q rh r1 r2 q
  unfold eqV at q
  split at q
  · rename_i hok
    unfold eqOk at hok
    by_cases hs : scalA (thaw h av) (thaw h bv) = true
    · obtain ⟨g1, g2⟩ := scal_eq rh r1 r2 hs
      exact .inl ⟨g1, by rw [g2]; exact ok_post q rh mk_bl⟩
    · have hs' : scalA (thaw h av) (thaw h bv) = false := by simpa using hs
      rw [hs', Bool.false_or, Bool.and_eq_true] at hok
      exact .inr ⟨_, _, thaw_dp rh r1 hok.1, thaw_dp rh r2 hok.2, shaped_of hok.1 (by decide), shaped_of hok.2 (by decide), by rw [eqv_of _ _ _ _ hok.1 hok.2]; exact ok_post q rh mk_bl⟩
  · exact q.elim
theorem v_ne : V2 P b neV (rNe2 P.K) := by
  intro W ρ B σ H av bv h x y Q rh r1 r2 q
  unfold neV at q
  split at q
  · rename_i hok
    unfold eqOk at hok
    by_cases hs : scalA (thaw h av) (thaw h bv) = true
    · obtain ⟨g1, g2⟩ := scal_eq rh r1 r2 hs
      exact .inl ⟨g1, by rw [g2]; exact ok_post q rh mk_bl⟩
    · have hs' : scalA (thaw h av) (thaw h bv) = false := by simpa using hs
      rw [hs', Bool.false_or, Bool.and_eq_true] at hok
      exact .inr ⟨_, _, thaw_dp rh r1 hok.1, thaw_dp rh r2 hok.2, shaped_of hok.1 (by decide), shaped_of hok.2 (by decide), by rw [eqv_of _ _ _ _ hok.1 hok.2]; exact ok_post q rh mk_bl⟩
  · exact q.elim
theorem isNon_of {ρ : List Addr} {B : Addr → Prop} {H : Hp} {x : AV} {v : V} (r : RVb P.K ρ B H x v) : decide (v = V.non) = isNonA x := by
  rcases r with r | ⟨a, u, rfl, _, _, r⟩
  · cases x with
    | non => rw [rv_non (.inl r)]; rfl
    | bl s => rw [rv_bl (.inl r)]; rfl
    | int s => rw [rv_int (.inl r)]; rfl
    | str s => rw [rv_str (.inl r)]; rfl
    | tup _ => unfold RV at r; obtain ⟨a, _, rfl, _⟩ := r; rfl
    | lst _ => unfold RV at r; obtain ⟨a, _, rfl, _⟩ := r; rfl
    | dct _ => unfold RV at r; obtain ⟨a, _, rfl, _⟩ := r; rfl
    | ref _ => unfold RV at r; obtain ⟨a, rfl, _⟩ := r; rfl
    | ro _ => unfold RV at r; obtain ⟨a, _, rfl, _⟩ := r; rfl
  · cases x with
    | lst _ => rfl
    | dct _ => rfl
    | non => exact r.elim
    | bl _ => exact r.elim
    | int _ => exact r.elim
    | str _ => exact r.elim
    | tup _ => exact r.elim
    | ref _ => exact r.elim
    | ro _ => exact r.elim
end
end D
end

section
namespace D
open PySem L2

section
variable {P : Pm} {X : Cx} {b : Bool} {W : WX} {N : List Nat} {e a c o i : Expr} {es : List Expr} {pos : Pos} {ma mb mc mo mi : EV} {ms : List EV}

theorem key_kv {ρ : List Addr} {B : Addr → Prop} {H : Hp} {k : AV} {v : V} (hk : flatK k = true) (r : RVb P.K ρ B H k v) : ∃ k', keyOf k = some k' ∧ v = kV k' := by
  cases k with
  | int i => exact ⟨.inl i, rfl, rv_int r⟩
  | str s => exact ⟨.inr s, rfl, rv_str r⟩
  | non => cases hk
  | bl _ => cases hk
  | tup _ => cases hk
  | lst _ => cases hk
  | dct _ => cases hk
  | ref _ => cases hk
  | ro _ => cases hk
theorem key_eq {k l : AV} {k' l' : Key} (h1 : keyOf k = some k') (h2 : keyOf l = some l') : AV.eq k l = decide (k' = l') := by
  cases k <;> first | (cases h1; done) | skip
  all_goals cases l <;> first | (cases h2; done) | skip
  · cases h1; cases h2; unfold AV.eq; rw [key_ll]
  · cases h1; cases h2; unfold AV.eq; rw [key_lr]
  · cases h1; cases h2; unfold AV.eq; rw [key_rl]
  · cases h1; cases h2; unfold AV.eq; rw [key_rr]; exact Bool.beq_eq_decide_eq ..
theorem dlook_val {ρ : List Addr} {B : Addr → Prop} {H : Hp} {k : AV} {k' : Key} (hk : keyOf k = some k') : ∀ {kvs : List (AV × AV)} {us : List (Key × V)}, RKs P.K ρ B H kvs us →
    (∀ x, dlook kvs k = some x → ∃ v, valV us k' = some v ∧ RV P.K ρ B H x v) ∧ (dlook kvs k = none → valV us k' = none)
  | [], us, h => by
    unfold RKs at h
    subst h
    exact ⟨fun x e => by simp [dlook] at e, fun _ => rfl⟩
  | (l, y) :: r, us, h => by
    unfold RKs at h
    obtain ⟨l', v, t, rfl, h1, h2, h3⟩ := h
    have ih := dlook_val hk h3
    have q := key_eq h1 hk
    by_cases e : l' = k'
    · have e1 : AV.eq l k = true := by rw [q]; exact decide_eq_true e
      refine ⟨fun x ex => ?_, fun ex => ?_⟩
      · simp [dlook, List.find?_cons, e1] at ex
        subst ex
        exact ⟨v, valV_pos (p := (l', v)) e, h2⟩
      · simp [dlook, List.find?_cons, e1] at ex
    · have e1 : AV.eq l k = false := by rw [q]; exact decide_eq_false e
      refine ⟨fun x ex => ?_, fun ex => ?_⟩
      · have ex' : dlook r k = some x := by simpa [dlook, List.find?_cons, e1] using ex
        obtain ⟨w, g1, g2⟩ := ih.1 x ex'
        exact ⟨w, by rw [valV_neg (p := (l', v)) e]; exact g1, g2⟩
      · have ex' : dlook r k = none := by simpa [dlook, List.find?_cons, e1] using ex
        rw [valV_neg (p := (l', v)) e]
        exact ih.2 ex'
theorem RKs.len {ρ : List Addr} {B : Addr → Prop} {H : Hp} : ∀ {kvs : List (AV × AV)} {us : List (Key × V)}, RKs P.K ρ B H kvs us → kvs.length = us.length
  | [], us, h => by unfold RKs at h; subst h; rfl
  | (l, y) :: r, us, h => by
    unfold RKs at h
    obtain ⟨l', v, t, rfl, h1, h2, h3⟩ := h
    simp [RKs.len h3]
theorem dput_val {ρ : List Addr} {B : Addr → Prop} {H : Hp} {k x : AV} {k' : Key} {w : V} (hk : keyOf k = some k') (hx : RV P.K ρ B H x w) {kvs : List (AV × AV)} {us : List (Key × V)} (h : RKs P.K ρ B H kvs us) : RKs P.K ρ B H (dput kvs k x) (putK us k' w) := by
  have hany : ∀ {kvs : List (AV × AV)} {us : List (Key × V)}, RKs P.K ρ B H kvs us → (kvs.any fun kv => AV.eq kv.1 k) = us.any fun kv => decide (kv.1 = k') := by
    intro kvs
    induction kvs with
    | nil => intro us h; unfold RKs at h; subst h; rfl
    | cons p r ih =>
      intro us h
      obtain ⟨l, y⟩ := p
      unfold RKs at h
      obtain ⟨l', v, t, rfl, h1, h2, h3⟩ := h
      simp only [List.any_cons]
      rw [ih h3, key_eq h1 hk]
  have hmap : ∀ {kvs : List (AV × AV)} {us : List (Key × V)}, RKs P.K ρ B H kvs us → RKs P.K ρ B H (kvs.map fun kv => if AV.eq kv.1 k then (kv.1, x) else kv) (us.map fun kv => if kv.1 = k' then (kv.1, w) else kv) := by
    intro kvs
    induction kvs with
    | nil => intro us h; unfold RKs at h; subst h; unfold RKs; rfl
    | cons p r ih =>
      intro us h
      obtain ⟨l, y⟩ := p
      unfold RKs at h
      obtain ⟨l', v, t, rfl, h1, h2, h3⟩ := h
      simp only [List.map_cons]
      rw [key_eq h1 hk]
      by_cases e : l' = k'
      · rw [decide_eq_true e, if_pos rfl, if_pos e]
        unfold RKs
        exact ⟨l', w, _, rfl, h1, hx, ih h3⟩
      · rw [decide_eq_false e, if_neg (by decide), if_neg e]
        unfold RKs
        exact ⟨l', v, _, rfl, h1, h2, ih h3⟩
  have happ : ∀ {kvs : List (AV × AV)} {us : List (Key × V)}, RKs P.K ρ B H kvs us → RKs P.K ρ B H (kvs ++ [(k, x)]) (us ++ [(k', w)]) := by
    intro kvs
    induction kvs with
    | nil => intro us h; unfold RKs at h; subst h; unfold RKs; exact ⟨k', w, [], rfl, hk, hx, by unfold RKs; rfl⟩
    | cons p r ih =>
      intro us h
      obtain ⟨l, y⟩ := p
      unfold RKs at h
      obtain ⟨l', v, t, rfl, h1, h2, h3⟩ := h
      rw [List.cons_append, List.cons_append]
      unfold RKs
      exact ⟨l', v, _, rfl, h1, h2, ih h3⟩
  unfold dput putK
  rw [hany h]
  split
  · exact hmap h
  · exact happ h

def rIxD : R2 := fun x y H Q => ∃ a v, x = .ref a ∧ DGet H a y (some v) ∧ Q v H
theorem ix_dict (hu : X.A.units + 1 < cLine) : IxR X rIxD := by
  intro value slice pins s σ H x y v u Q I rx ry h hs
  obtain ⟨p, z, rfl, g, q⟩ := h
  cases rx
  exact PyProof.Rows.tail_any (dict_typeIs I g) PySem.F.slot_dict_getitem.lookup (d_getItem hu I g ry fun w' s' I' rw' => ⟨z, H, I', rw', q⟩) hs
def rIx4 (K : PySem.W.Frag) : R2 := fun x y H Q => rIx K x y H Q ∨ rIxD x y H Q
theorem ix4 (hu : X.A.units + 1 < cLine) : IxR X (rIx4 X.K) := ix_seq.or (ix_dict hu)
theorem at_rv {ρ : List Addr} {B : Addr → Prop} {H : Hp} {xs : List AV} {vs : List V} {k : Int} {x : AV} (h : RVs P.K ρ B H xs vs) (e : atI xs k = some x) : ∃ v, L2.atI vs k = some v ∧ RV P.K ρ B H x v := by
  unfold atI at e
  have el : ixI xs.length k = L2.ixN vs.length k := by rw [h.len]; rfl
  rw [el] at e
  unfold L2.atI
  cases g : L2.ixN vs.length k with
  | none => rw [g] at e; cases e
  | some j =>
    rw [g] at e
    exact h.get (i := j) e
theorem v_get : V2 P b getV (rIx4 P.K) := by
  intro W ρ B σ H av bv h x y Q rh r1 r2 q
  unfold getV at q
  cases g : getO av bv h with
  | none => rw [g] at q; exact q.elim
  | some w =>
    rw [g] at q
    have seq : ∀ (xs : List AV) (a1 : Addr) (vs : List V), RVs P.K ρ B H xs vs → atA xs bv = some w → ∃ k u, y = .int k ∧ L2.atI vs k = some u ∧ Q u H := fun xs a1 vs g1 e => by
      unfold atA at e
      cases ek : iOf bv with
      | none => rw [ek] at e; cases e
      | some k =>
        rw [ek] at e
        have eb : bv = .int k := by cases bv <;> first | (cases ek; rfl) | cases ek
        subst eb
        obtain ⟨u, e2, g2⟩ := at_rv g1 (show atI xs k = some w from e)
        exact ⟨k, u, rv_int r2, e2, ok_post q rh g2⟩
    have heap : getH av bv h = some w → rIx4 P.K x y H Q := fun e => by
      unfold getH at e
      cases er : rl h av with
      | some xs =>
        rw [er] at e
        obtain ⟨a1, vs, e1, h1, g1⟩ := rv_rl rh r1 er
        obtain ⟨k, u, e2, e3, e4⟩ := seq xs a1 vs g1 e
        exact .inl (.inl ⟨a1, vs, k, u, e1, e2, h1, e3, e4⟩)
      | none =>
        rw [er] at e
        cases ed : dv h av with
        | none => rw [ed] at e; cases e
        | some kvs =>
          rw [ed] at e
          have e' : atK kvs bv = some w := e
          unfold atK at e'
          split at e'
          · rename_i hk
            obtain ⟨a1, us, e1, h1, g1⟩ := rv_dv rh r1 ed
            obtain ⟨k', hk', e2⟩ := key_kv hk r2
            obtain ⟨u, g3, g4⟩ := (dlook_val hk' g1).1 w e'
            refine .inr ⟨a1, u, e1, ?_, ok_post q rh g4⟩
            rw [e2, ← g3]
            exact DGet.k h1
          · cases e'
    cases av with
    | tup xs =>
      obtain ⟨a1, vs, e1, h1, g1⟩ := rv_tup r1
      obtain ⟨k, u, e2, e3, e4⟩ := seq xs a1 vs g1 g
      exact .inl (.inr (.inl ⟨a1, vs, k, u, e1, e2, h1, e3, e4⟩))
    | str s =>
      have e : atS s bv = some w := g
      unfold atS at e
      split at e
      · rename_i hz
        cases ek : iOf bv with
        | none => rw [ek] at e; cases e
        | some k =>
          rw [ek] at e
          have eb : bv = .int k := by cases bv <;> first | (cases ek; rfl) | cases ek
          subst eb
          have e' : ((atI s.cps.toList k).map fun c => AV.str ⟨#[c]⟩) = some w := e
          cases ec : atI s.cps.toList k with
          | none => rw [ec] at e'; cases e'
          | some cc =>
            rw [ec] at e'
            cases e'
            exact .inl (.inr (.inr ⟨s, k, cc, rv_str r1, rv_int r2, hz, ec, ok_post q rh mk_str⟩))
      · cases e
    | non => exact heap g
    | bl _ => exact heap g
    | int _ => exact heap g
    | lst _ => exact heap g
    | dct _ => exact heap g
    | ref _ => exact heap g
    | ro _ => exact heap g
theorem de_get (hK : P.K = X.K) (hu : X.A.units + 1 < cLine) (ho : DB P X b W N o mo) (hi : DB P X b W N i mi) (hs : PlainIx i := by intro _ _; rfl) : DE P X b W N (.Subscript o i pos) (bin getV mo mi) :=
  ⟨pe_weak (pe_ix (ix4 hu) ho.pe hi.pe hs) (bin_weak (hK ▸ v_get))⟩

theorem sIx_eq (n d : Nat) (o : Option Int) : sIx n d o = HT.sIx n d o := by cases o <;> rfl
theorem cut_eq {α : Type} (xs : List α) (lo hi : Option Int) : cut xs lo hi = (xs.drop (HT.sIx xs.length 0 lo)).take (HT.sIx xs.length xs.length hi - HT.sIx xs.length 0 lo) := by
  unfold cut
  rw [sIx_eq, sIx_eq]
def tDO (P : Pm) (b : Bool) (W : WX) (N : List Nat) (m : LV) : TO := fun σ H Q =>
  ∃ ρ B ow σa h, RH P ρ (Bo B ow) H h ∧ RS P ρ B ow H σa σ ∧ ow.map (·.1) = N ∧ LPostB P b W ρ (Bo B ow) σ H (fun vs H1 => ∃ av, LR.ok av h = .ok av h ∧ ∀ i, (vs = [] ∧ i = none) ∨ (∃ k, vs = [.int k] ∧ i = some k) → Q i H1) (m σa h)
/-- a part of a slice -/
structure DO (P : Pm) (X : Cx) (b : Bool) (W : WX) (N : List Nat) (e : Option Expr) (m : Option EV) : Prop where
  run : ∀ σ H (R : Option Int → Hp → Prop), tDAB P b W N (partD m) σ H (fun vs H1 => (∀ i, (vs = [] ∧ i = none) ∨ (∃ k : Int, vs = [.int k] ∧ i = some k) → R i H1)) → True
  po : ∃ t, PO X e t ∧ ∀ σ H (R : Option Int → Hp → Prop), tDAB P b W N (partD m) σ H (fun vs H1 => (vs = [] ∧ R none H1) ∨ ∃ k : Int, vs = [.int k] ∧ R (some k) H1) → t σ H R
theorem do_none : DO P X b W N none none := by
  refine ⟨fun _ _ _ _ => trivial, tNoPart, po_none, ?_⟩
  rintro σ H R ⟨ρ, B, ow, σa, h, rh, rs, hN, q⟩
  have := q ρ H [] (Ext.refl b ρ H) rh rfl
  rcases this with ⟨_, g⟩ | ⟨k, e, _⟩
  · exact g
  · cases e
theorem do_some (he : DB P X b W N e ma) : DO P X b W N (some e) (some ma) := by
  refine ⟨fun _ _ _ _ => trivial, _, po_some he.pe, ?_⟩
  rintro σ H R ⟨ρ, B, ow, σa, h, rh, rs, hN, q⟩
  refine ⟨ρ, B, ow, σa, h, rh, rs, hN, (EPost.bindLB q).imp ?_⟩
  rintro x H1 ⟨ρ1, av, h1, e1, rh1, rv1, q1⟩
  cases av with
  | int k =>
    have := q1 ρ1 H1 [.int k] (Ext.refl b ρ1 H1) rh1 ⟨.int k, [], rfl, .inl mk_int, rfl⟩
    rcases this with ⟨e, _⟩ | ⟨k', e, g⟩
    · cases e
    · cases e
      exact ⟨k, rv_int rv1, g⟩
  | non => exact q1.elim
  | bl _ => exact q1.elim
  | str _ => exact q1.elim
  | tup _ => exact q1.elim
  | lst _ => exact q1.elim
  | dct _ => exact q1.elim
  | ref _ => exact q1.elim
  | ro _ => exact q1.elim
def rSl3 (K : PySem.W.Frag) : V → Option Int → Option Int → Hp → VK → Prop := fun x lo hi H Q => rSlL K x lo hi H Q ∨ rSlA K x lo hi H Q ∨ rSlS x lo hi H Q
theorem sl3 : SlR X (rSl3 X.K) := sl_list.or (sl_tupA.or sl_str)
theorem RVs.cut {ρ : List Addr} {B : Addr → Prop} {H : Hp} {xs : List AV} {vs : List V} (h : RVs P.K ρ B H xs vs) (lo hi : Option Int) : RVs P.K ρ B H (D.cut xs lo hi) (cutV vs lo hi) := by
  rw [cut_eq]
  unfold cutV
  rw [← h.len]
  exact (h.drop _).take _
theorem cut_whole {α : Type} {xs : List α} {lo hi : Option Int} (h : HT.sIx xs.length 0 lo = 0 ∧ HT.sIx xs.length xs.length hi = xs.length) : cut xs lo hi = xs := by
  rw [cut_eq, h.1, h.2]
  simp
theorem v_slice {ρ : List Addr} {B : Addr → Prop} {σ : St} {H : Hp} {av : AV} {h : AH} {x : V} {lo hi : Option Int} {Q : VK} (rh : RH P ρ B H h) (r : RVb P.K ρ B H av x) (q : EPost P b W ρ B σ H Q (sliceV av lo hi h)) : rSl3 P.K x lo hi H Q := by
  unfold sliceV at q
  split at q
  · rename_i xs
    obtain ⟨a1, vs, e1, h1, g1⟩ := rv_tup r
    refine .inr (.inl ⟨a1, vs, e1, h1, fun hw => ?_, fun _ p hp => ok_newT q rh hp (g1.cut lo hi)⟩)
    rw [← g1.len] at hw
    rw [cut_whole hw] at q
    rw [← e1]
    exact ok_post q rh (rvb_tup r)
  · split at q
    · rename_i s hz
      refine .inr (.inr ⟨s, rv_str r, hz, ?_⟩)
      rw [cut_eq, Array.length_toList] at q
      exact ok_post q rh mk_str
    · exact q.elim
  · split at q
    · rename_i xs ex
      obtain ⟨a1, vs, e1, h1, g1⟩ := rv_rl rh r ex
      exact .inl ⟨a1, vs, e1, h1, fun p hp => ok_new q rh hp (g1.cut lo hi)⟩
    · exact q.elim
theorem LPostB.ext {ρ ρ1 : List Addr} {B : Addr → Prop} {σ : St} {H H1 : Hp} {r : LR} {Q : List V → Hp → Prop} (h : LPostB P b W ρ B σ H Q r) (e : Ext b ρ H ρ1 H1) : LPostB P b W ρ1 B σ H1 Q r := by
  cases r with
  | ok av h' => exact fun ρ' H' v f => h ρ' H' v (e.trans f)
  | exc c x h' => exact fun ρ' H' v f => h ρ' H' v (e.trans f)
  | stuck => exact h
theorem LPostB.imp {ρ : List Addr} {B : Addr → Prop} {σ : St} {H : Hp} {r : LR} {Q Q' : List V → Hp → Prop} (h : LPostB P b W ρ B σ H Q r) (hq : ∀ v H, Q v H → Q' v H) : LPostB P b W ρ B σ H Q' r := by
  cases r with
  | ok av h' => exact fun ρ' H' v e rh rv => hq _ _ (h ρ' H' v e rh rv)
  | exc c x h' => exact h
  | stuck => exact h
theorem part_pI {m : Option EV} {σa : AS} {h h' : AH} {av : List AV} (e : partD m σa h = .ok av h') : av = [] ∨ ∃ k, av = [.int k] := by
  unfold partD at e
  cases m with
  | none => cases e; exact .inl rfl
  | some m =>
    dsimp only at e
    cases g : m σa h with
    | ok v h1 =>
      rw [g] at e
      cases v <;> first | (simp only [ER.bindL] at e; cases e; exact .inr ⟨_, rfl⟩) | (simp only [ER.bindL] at e; cases e)
    | exc _ _ _ => rw [g] at e; cases e
    | stuck => rw [g] at e; cases e
theorem de_slice {p2 : Pos} {lo hi : Option Expr} {ml mh : Option EV} (hK : P.K = X.K) (ho : DB P X b W N o mo) (hl : DO P X b W N lo ml) (hh : DO P X b W N hi mh) : DE P X b W N (.Subscript o (.Slice lo hi none p2) pos) (sliceD mo ml mh) := by
  obtain ⟨_, tl, pl, wl⟩ := hl
  obtain ⟨_, th, ph, wh⟩ := hh
  refine ⟨pe_weak (pe_slice sl3 ho.pe pl ph) ?_⟩
  rintro σ H Q ⟨ρ, B, ow, σa, h, rh, rs, hN, q⟩
  refine ⟨ρ, B, ow, σa, h, rh, rs, hN, (EPost.bindB q).imp ?_⟩
  rintro x H1 ⟨ρ1, av, h1, e1, rh1, rv1, q1⟩
  refine wl σ H1 _ ⟨ρ1, B, ow, σa, h1, rh1, rs.ext e1, hN, ?_⟩
  have q1' := LPostB.bind q1
  cases g1 : partD ml σa h1 with
  | exc c f h' => rw [g1] at q1; exact q1
  | stuck => rw [g1] at q1; exact q1.elim
  | ok lv h2 =>
    rw [g1] at q1'
    intro ρ2 H2 vs f2 rh2 rv2
    obtain ⟨ρ3, lv', h3, f3, rh3, rv3, q3⟩ := q1' ρ2 H2 vs f2 rh2 rv2
    have q2 : EPost P b W ρ2 (Bo B ow) σ H2 Q ((partD mh σa h2).bind fun u h3 => sliceV av (pI lv) (pI u) h3) := by
      have : EPost P b W ρ1 (Bo B ow) σ H1 Q ((partD mh σa h2).bind fun u h3 => sliceV av (pI lv) (pI u) h3) := by rw [g1] at q1; exact q1
      exact this.ext f2
    have fin : ∀ R2 : Option Int, pI lv = R2 → th σ H2 fun u H3 => rSl3 X.K x R2 u H3 Q := fun R2 eR => by
      refine wh σ H2 _ ⟨ρ2, B, ow, σa, h2, rh2, (rs.ext e1).ext f2, hN, ?_⟩
      have q2' := LPostB.bind q2
      cases g2 : partD mh σa h2 with
      | exc c f h' => rw [g2] at q2; exact q2
      | stuck => rw [g2] at q2; exact q2.elim
      | ok uv h4 =>
        intro ρ4 H4 ws f4 rh4 rv4
        have q4 : EPost P b W ρ4 (Bo B ow) σ H4 Q (sliceV av (pI lv) (pI uv) h4) := by
          have : EPost P b W ρ2 (Bo B ow) σ H2 Q (sliceV av (pI lv) (pI uv) h4) := by rw [g2] at q2; exact q2
          exact this.ext f4
        have rvx := (rv1.ext f2).ext f4
        have q5 := v_slice rh4 rvx q4
        rw [hK, eR] at q5
        rcases part_pI g2 with rfl | ⟨k, rfl⟩
        · exact .inl ⟨rv4, q5⟩
        · obtain ⟨w, t, rfl, g, rfl⟩ := rv4
          exact .inr ⟨k, by rw [rv_int g], q5⟩
    rcases part_pI g1 with rfl | ⟨k, rfl⟩
    · exact .inl ⟨rv2, fin none rfl⟩
    · obtain ⟨w, t, rfl, g, rfl⟩ := rv2
      exact .inr ⟨k, by rw [rv_int g], fin (some k) rfl⟩
end
end D
end

section
namespace D
open PySem L2

section
variable {P : Pm} {X : Cx} {b : Bool} {W : WX} {N : List Nat} {e a c o i : Expr} {es : List Expr} {pos : Pos} {ma mb mc mo mi : EV} {ms : List EV} {m : LV}

def rDIn : R2 := fun x y H Q => ∃ a o, y = .ref a ∧ DGet H a x o ∧ Q (.bl o.isSome) H
def rDNotIn : R2 := fun x y H Q => ∃ a o, y = .ref a ∧ DGet H a x o ∧ Q (.bl (!o.isSome)) H
theorem op_dIn (hu : X.A.units + 1 < cLine) : OpR X (compareOp .In) rDIn := by
  intro pins s σ H x y v u Q I rx ry h
  obtain ⟨a, ov, rfl, g, q⟩ := h
  cases ry
  exact d_in hu I g rx fun s3 I3 => ⟨.bl ov.isSome, H, I3, rfl, q⟩
theorem op_dNotIn (hu : X.A.units + 1 < cLine) : OpR X (compareOp .NotIn) rDNotIn := by
  intro pins s σ H x y v u Q I rx ry h
  obtain ⟨a, ov, rfl, g, q⟩ := h
  cases ry
  exact d_notIn hu I g rx fun s3 I3 => ⟨.bl (!ov.isSome), H, I3, rfl, q⟩
/-- in a tuple, data of any depth -/
def rInT (K : PySem.W.Frag) (neg : Bool) : R2 := fun x y H Q => ∃ d ds, Dp K H x d ∧ Dp K H y (.tuple ds) ∧ SeqAt.shaped d = true ∧ SeqAt.shaped (.tuple ds) = true ∧ Q (.bl (if neg then !ds.any fun z => PyData.eqv z d else ds.any fun z => PyData.eqv z d)) H
theorem room_inT {A : Around} {ds : List PyData} {d : PyData} (h : SeqAt.shaped d = true) (hu : A.units + 65 < cLine) : A.units + 1 + min (PyData.depthAll ds) d.depth < cLine := by
  have h1 := SeqAt.depth_of_shaped h
  have h2 : min (PyData.depthAll ds) d.depth ≤ d.depth := Nat.min_le_right _ _
  omega
theorem op_inT (hu : X.A.units + 65 < cLine) : OpR X (compareOp .In) (rInT X.K false) := by
  intro pins s σ H x y v u Q I rx ry h
  obtain ⟨d, ds, hd, he, sd, se, q⟩ := h
  obtain ⟨as, r1⟩ := Dp.reads I d x v hd rx
  obtain ⟨bs, r2⟩ := Dp.reads I (.tuple ds) y u he ry
  exact SeqAt.in_tuple_reads r2 r1 (SeqAt.canLay_of_shaped se) (SeqAt.canLay_of_shaped sd) (room_inT sd hu) ⟨.bl _, H, I, rfl, q⟩
theorem op_notInT (hu : X.A.units + 65 < cLine) : OpR X (compareOp .NotIn) (rInT X.K true) := by
  intro pins s σ H x y v u Q I rx ry h
  obtain ⟨d, ds, hd, he, sd, se, q⟩ := h
  obtain ⟨as, r1⟩ := Dp.reads I d x v hd rx
  obtain ⟨bs, r2⟩ := Dp.reads I (.tuple ds) y u he ry
  exact SeqAt.notIn_tuple_reads r2 r1 (SeqAt.canLay_of_shaped se) (SeqAt.canLay_of_shaped sd) (room_inT sd hu) ⟨.bl _, H, I, rfl, q⟩
def rIn5 (K : PySem.W.Frag) : R2 := fun x y H Q => rIn K false x y H Q ∨ rInD K x y H Q ∨ rInT K false x y H Q ∨ rDIn x y H Q ∨ (∃ (c : Nat) (z : Str), x = .str ⟨#[c]⟩ ∧ y = .str z ∧ Q (.bl (decide (c ∈ z.cps.toList))) H)
def rNotIn5 (K : PySem.W.Frag) : R2 := fun x y H Q => rIn K true x y H Q ∨ rNotInD K x y H Q ∨ rInT K true x y H Q ∨ rDNotIn x y H Q ∨ (∃ (c : Nat) (z : Str), x = .str ⟨#[c]⟩ ∧ y = .str z ∧ Q (.bl (!decide (c ∈ z.cps.toList))) H)
theorem op_in5 (hu : X.A.units + 65 < cLine) : OpR X (compareOp .In) (rIn5 X.K) := op_in_seq.or ((op_inD hu).or ((op_inT hu).or ((op_dIn (by omega)).or op_in_sign)))
theorem op_notIn5 (hu : X.A.units + 65 < cLine) : OpR X (compareOp .NotIn) (rNotIn5 X.K) := op_notIn_seq.or ((op_notInD hu).or ((op_notInT hu).or ((op_dNotIn (by omega)).or op_notIn_sign)))
theorem flat_rv {ρ : List Addr} {B : Addr → Prop} {H : Hp} {x : AV} {v : V} (hf : isFlat x = true) (r : RVb P.K ρ B H x v) : flatV v = true ∧ ∀ {y : AV} {w : V}, isFlat y = true → RVb P.K ρ B H y w → L2.eqV w v = AV.eq y x := by
  cases x with
  | non =>
    rw [rv_non r]
    refine ⟨rfl, fun {y w} hy ry => ?_⟩
    cases y <;> first | (cases hy; done) | skip
    · rw [rv_non ry]; rfl
    · rw [rv_bl ry]; rfl
    · rw [rv_int ry]; rfl
    · rw [rv_str ry]; rfl
  | bl s =>
    rw [rv_bl r]
    refine ⟨rfl, fun {y w} hy ry => ?_⟩
    cases y <;> first | (cases hy; done) | skip
    · rw [rv_non ry]; rfl
    · rw [rv_bl ry]; rfl
    · rw [rv_int ry]; rfl
    · rw [rv_str ry]; rfl
  | int s =>
    rw [rv_int r]
    refine ⟨rfl, fun {y w} hy ry => ?_⟩
    cases y <;> first | (cases hy; done) | skip
    · rw [rv_non ry]; rfl
    · rw [rv_bl ry]; rfl
    · rw [rv_int ry]; rfl
    · rw [rv_str ry]; rfl
  | str s =>
    rw [rv_str r]
    refine ⟨rfl, fun {y w} hy ry => ?_⟩
    cases y <;> first | (cases hy; done) | skip
    · rw [rv_non ry]; rfl
    · rw [rv_bl ry]; rfl
    · rw [rv_int ry]; rfl
    · rw [rv_str ry]; rfl
  | tup _ => cases hf
  | lst _ => cases hf
  | dct _ => cases hf
  | ref _ => cases hf
  | ro _ => cases hf
theorem flats_rv {ρ : List Addr} {B : Addr → Prop} {H : Hp} {x : AV} {v : V} (hf : isFlat x = true) (r : RVb P.K ρ B H x v) : ∀ {xs : List AV} {vs : List V}, xs.all isFlat = true → RVs P.K ρ B H xs vs → vs.all flatV = true ∧ L2.inV v vs = xs.any fun z => AV.eq z x
  | [], vs, _, h => by unfold RVs at h; subst h; exact ⟨rfl, rfl⟩
  | y :: ys, vs, hy, h => by
    unfold RVs at h
    obtain ⟨w, t, rfl, h1, h2⟩ := h
    rw [List.all_cons, Bool.and_eq_true] at hy
    obtain ⟨g1, g2⟩ := flats_rv hf r hy.2 h2
    refine ⟨by rw [List.all_cons, (flat_rv hy.1 (.inl h1)).1, g1]; rfl, ?_⟩
    unfold L2.inV at g2 ⊢
    rw [List.any_cons, List.any_cons, g2, (flat_rv hf r).2 hy.1 (.inl h1)]
theorem toDs_map (xs : List AV) : AV.toDs xs = xs.map AV.toD := by
  induction xs with
  | nil => simp [AV.toDs]
  | cons x r ih => simp [AV.toDs, ih]
theorem any_toDs {n m : Nat} {x : AV} (hx : x.dl m = true) : ∀ {xs : List AV}, (∀ y ∈ xs, y.dl n = true) → ((AV.toDs xs).any fun z => PyData.eqv z x.toD) = xs.any fun z => AV.eq z x
  | [], _ => by simp [AV.toDs]
  | y :: ys, h => by
    simp only [AV.toDs, List.any_cons]
    rw [eqv_of n m y x (h y List.mem_cons_self) hx, any_toDs hx fun z hz => h z (List.mem_cons_of_mem _ hz)]
theorem dep_le {n : Nat} {x : AV} : ∀ {m : Nat}, n ≤ m → x.dl n = true → x.dl m = true := by
  intro m hm h
  induction n generalizing x m with
  | zero =>
    cases m with
    | zero => exact h
    | succ m => cases x <;> simp [AV.dl] at h ⊢ <;> exact h
  | succ n ih =>
    cases m with
    | zero => omega
    | succ m =>
      cases x with
      | tup xs =>
        simp only [AV.dl, List.all_eq_true] at h ⊢
        exact fun y hy => ih (by omega) (h y hy)
      | lst xs =>
        simp only [AV.dl, List.all_eq_true] at h ⊢
        exact fun y hy => ih (by omega) (h y hy)
      | non => simp [AV.dl]
      | bl _ => simp [AV.dl]
      | int _ => simp [AV.dl]
      | str _ => simp only [AV.dl] at h ⊢; exact h
      | dct _ => simp [AV.dl] at h
      | ref _ => simp [AV.dl] at h
      | ro _ => simp [AV.dl] at h
def InC (K : PySem.W.Frag) (H : Hp) (x y : V) (t : Bool) : Prop :=
    (∃ p xs, y = .ref p ∧ (SqL K H p xs ∨ SqT K H p xs) ∧ flatV x = true ∧ xs.all flatV = true ∧ L2.inV x xs = t) ∨
    (∃ d ds, Dp K H x d ∧ Dp K H y (.list ds) ∧ SeqAt.shaped d = true ∧ SeqAt.shaped (.list ds) = true ∧ (ds.any fun z => PyData.eqv z d) = t) ∨
    (∃ d ds, Dp K H x d ∧ Dp K H y (.tuple ds) ∧ SeqAt.shaped d = true ∧ SeqAt.shaped (.tuple ds) = true ∧ (ds.any fun z => PyData.eqv z d) = t) ∨
    (∃ a o, y = .ref a ∧ DGet H a x o ∧ o.isSome = t) ∨
    ∃ (c : Nat) (z : Str), x = .str ⟨#[c]⟩ ∧ y = .str z ∧ decide (c ∈ z.cps.toList) = t
/-- the two readings of in, at once -/
theorem in_core {ρ : List Addr} {B : Addr → Prop} {H : Hp} {av bv : AV} {h : AH} {x y : V} {t : Bool} (rh : RH P ρ B H h) (r1 : RVb P.K ρ B H av x) (r2 : RVb P.K ρ B H bv y) (e : inV av bv h = some t) : InC P.K H x y t := by
  have dpx : ∀ n, av.dl n = true → Dp P.K H x av.toD := fun n hd => by
    rcases r1 with r1 | ⟨a, u, rfl, _, hu, r1⟩
    · exact dp_of rh n av hd r1
    · cases av with
      | lst xs =>
        obtain ⟨vs, rfl, g⟩ := r1
        cases n with
        | zero => simp [AV.dl] at hd
        | succ m =>
          unfold AV.toD
          exact .lst (SqL.of hu) (dps_of rh m xs (by simpa [AV.dl] using hd) g)
      | dct _ => cases n <;> simp [AV.dl] at hd
      | non => exact r1.elim
      | bl _ => exact r1.elim
      | int _ => exact r1.elim
      | str _ => exact r1.elim
      | tup _ => exact r1.elim
      | ref _ => exact r1.elim
      | ro _ => exact r1.elim
  have row : ∀ (xs : List AV) (p : Addr) (vs : List V), y = .ref p → (SqL P.K H p vs ∨ SqT P.K H p vs) → RVs P.K ρ B H xs vs → inRow av xs = some t →
      (∃ p xs, y = .ref p ∧ (SqL P.K H p xs ∨ SqT P.K H p xs) ∧ flatV x = true ∧ xs.all flatV = true ∧ L2.inV x xs = t) ∨ (av.dl DEPTH = true ∧ xs.all (AV.dl DEPTH) = true ∧ (xs.any fun z => AV.eq z av) = t) := fun xs p vs ey hs g e => by
    unfold inRow at e
    split at e
    · rename_i hok
      cases e
      unfold inOk at hok
      rw [Bool.or_eq_true, Bool.and_eq_true, Bool.and_eq_true] at hok
      rcases hok with hok | hok
      · obtain ⟨g1, g2⟩ := flats_rv hok.1 r1 hok.2 g
        exact .inl ⟨p, vs, ey, hs, (flat_rv hok.1 r1).1, g1, g2⟩
      · exact .inr ⟨hok.1, hok.2, rfl⟩
    · cases e
  have shp : ∀ (xs : List AV), xs.all (AV.dl DEPTH) = true → SeqAt.shaped (.list (AV.toDs xs)) = true ∧ SeqAt.shaped (.tuple (AV.toDs xs)) = true := fun xs hx => by
    have hd : (AV.lst xs).dl (DEPTH + 1) = true := by simpa [AV.dl] using hx
    have hd2 : (AV.tup xs).dl (DEPTH + 1) = true := by simpa [AV.dl] using hx
    have s1 := shaped_of hd (by decide)
    have s2 := shaped_of hd2 (by decide)
    simp only [AV.toD] at s1 s2
    exact ⟨s1, s2⟩
  have heap : inH av bv h = some t → InC P.K H x y t := fun e => by
    unfold inH at e
    cases ex : rl h bv with
    | some xs =>
      rw [ex] at e
      obtain ⟨a1, vs, e1, h1, g1⟩ := rv_rl rh r2 ex
      rcases row xs a1 vs e1 (.inl h1) g1 e with g | ⟨g, g2, g3⟩
      · exact .inl g
      · exact .inr (.inl ⟨av.toD, AV.toDs xs, dpx _ g, by rw [e1]; exact .lst h1 (dps_of rh DEPTH xs (List.all_eq_true.mp g2) g1), shaped_of g (by decide), (shp xs g2).1, by rw [any_toDs g (List.all_eq_true.mp g2)]; exact g3⟩)
    | none =>
      rw [ex] at e
      cases ed : dv h bv with
      | none => rw [ed] at e; cases e
      | some kvs =>
        rw [ed] at e
        have e' : inDic av kvs = some t := e
        unfold inDic at e'
        split at e'
        · rename_i hk
          have e3 := Option.some.inj e'
          obtain ⟨a1, us, e1, h1, g1⟩ := rv_dv rh r2 ed
          obtain ⟨k', hk', e2⟩ := key_kv hk r1
          have lk := dlook_val hk' g1
          refine .inr (.inr (.inr (.inl ⟨a1, valV us k', e1, by rw [e2]; exact DGet.k h1, ?_⟩)))
          rw [← e3]
          cases q : dlook kvs av with
          | none => rw [lk.2 q]; rfl
          | some w =>
            obtain ⟨u, g3, _⟩ := lk.1 w q
            rw [g3]; rfl
        · cases e'
  cases bv with
  | tup xs =>
    obtain ⟨a1, vs, e1, h1, g1⟩ := rv_tup r2
    rcases row xs a1 vs e1 (.inr h1) g1 e with g | ⟨g, g2, g3⟩
    · exact .inl g
    · exact .inr (.inr (.inl ⟨av.toD, AV.toDs xs, dpx _ g, by rw [e1]; exact .tup h1 (dps_of rh DEPTH xs (List.all_eq_true.mp g2) g1), shaped_of g (by decide), (shp xs g2).2, by rw [any_toDs g (List.all_eq_true.mp g2)]; exact g3⟩))
  | str s =>
    cases av with
    | str z =>
      have e' : (if z.cps.size = 1 then some (s.cps.toList.contains (z.cps.getD 0 0)) else none) = some t := e
      split at e'
      · rename_i hz
        have e3 := Option.some.inj e'
        obtain ⟨zc⟩ := z
        obtain ⟨l⟩ := zc
        have hl : l.length = 1 := hz
        match l, hl with
        | [cc], _ =>
          refine .inr (.inr (.inr (.inr ⟨cc, s, rv_str r1, rv_str r2, ?_⟩)))
          rw [← e3]
          show decide (cc ∈ s.cps.toList) = s.cps.toList.contains cc
          rw [Bool.eq_iff_iff]
          simp
      · cases e'
    | non => cases e
    | bl _ => cases e
    | int _ => cases e
    | tup _ => cases e
    | lst _ => cases e
    | dct _ => cases e
    | ref _ => cases e
    | ro _ => cases e
  | lst xs => exact heap e
  | dct xs => exact heap e
  | ref xs => exact heap e
  | ro xs => exact heap e
  | non => cases e
  | bl _ => cases e
  | int _ => cases e
theorem v_in : V2 P b inD (rIn5 P.K) := by
  intro W ρ B σ H av bv h x y Q rh r1 r2 q
  unfold inD at q
  split at q
  · rename_i t e
    have q' := ok_post q rh mk_bl
    rcases in_core rh r1 r2 e with ⟨p, xs, h1, h2, h3, h4, h5⟩ | ⟨d, ds, h1, h2, h3, h4, h5⟩ | ⟨d, ds, h1, h2, h3, h4, h5⟩ | ⟨a, o, h1, h2, h3⟩ | ⟨c, z, h1, h2, h3⟩
    · exact .inl ⟨p, xs, h1, h2, h3, h4, by rw [if_neg (by decide), h5]; exact q'⟩
    · exact .inr (.inl ⟨d, ds, h1, h2, h3, h4, by rw [h5]; exact q'⟩)
    · exact .inr (.inr (.inl ⟨d, ds, h1, h2, h3, h4, by rw [if_neg (by decide), h5]; exact q'⟩))
    · exact .inr (.inr (.inr (.inl ⟨a, o, h1, h2, by rw [h3]; exact q'⟩)))
    · exact .inr (.inr (.inr (.inr ⟨c, z, h1, h2, by rw [h3]; exact q'⟩)))
  · exact q.elim
theorem v_notIn : V2 P b notInD (rNotIn5 P.K) := by
  intro W ρ B σ H av bv h x y Q rh r1 r2 q
  unfold notInD at q
  split at q
  · rename_i t e
    have q' := ok_post q rh mk_bl
    rcases in_core rh r1 r2 e with ⟨p, xs, h1, h2, h3, h4, h5⟩ | ⟨d, ds, h1, h2, h3, h4, h5⟩ | ⟨d, ds, h1, h2, h3, h4, h5⟩ | ⟨a, o, h1, h2, h3⟩ | ⟨c, z, h1, h2, h3⟩
    · exact .inl ⟨p, xs, h1, h2, h3, h4, by rw [if_pos rfl, h5]; exact q'⟩
    · exact .inr (.inl ⟨d, ds, h1, h2, h3, h4, by rw [h5]; exact q'⟩)
    · exact .inr (.inr (.inl ⟨d, ds, h1, h2, h3, h4, by rw [if_pos rfl, h5]; exact q'⟩))
    · exact .inr (.inr (.inr (.inl ⟨a, o, h1, h2, by rw [h3]; exact q'⟩)))
    · exact .inr (.inr (.inr (.inr ⟨c, z, h1, h2, by rw [h3]; exact q'⟩)))
  · exact q.elim

theorem dab_nil : DAB P X b W N [] (evs []) := by
  refine ⟨pa_weak pa_nil ?_⟩
  rintro σ H Q ⟨ρ, B, ow, σa, h, rh, rs, hN, q⟩
  exact q ρ H [] (Ext.refl b ρ H) rh rfl
theorem dab_cons (he : DB P X b W N e ma) (hr : DAB P X b W N es (evs ms)) (hs : starEach (e :: es) X.env = (false, eval e X.env) :: starEach es X.env := by rfl) : DAB P X b W N (e :: es) (evs (ma :: ms)) := by
  refine ⟨pa_weak (pa_cons he.pe hr.pa hs) ?_⟩
  rintro σ H Q ⟨ρ, B, ow, σa, h, rh, rs, hN, q⟩
  refine ⟨ρ, B, ow, σa, h, rh, rs, hN, (EPost.bindLB (k := fun v h1 => (evs ms σa h1).bindL fun vs h2 => .ok (v :: vs) h2) q).imp ?_⟩
  rintro x H1 ⟨ρ1, av, h1, e1, rh1, rv1, q1⟩
  refine ⟨ρ1, B, ow, σa, h1, rh1, rs.ext e1, hN, ?_⟩
  cases g : evs ms σa h1 with
  | ok avs h2 =>
    rw [g] at q1
    exact fun ρ2 H2 vs f2 rh2 rv2 => q1 ρ2 H2 (x :: vs) f2 rh2 ⟨x, vs, rfl, rv1.ext f2, rv2⟩
  | exc cc f h2 => rw [g] at q1; exact q1
  | stuck => rw [g] at q1; exact q1.elim
theorem da_nil : DA P X b W N [] (evs []) := by
  refine ⟨pa_weak pa_nil ?_⟩
  rintro σ H Q ⟨ρ, B, ow, σa, h, rh, rs, hN, q⟩
  exact q ρ H [] (Ext.refl b ρ H) rh RVs.nil
theorem da_cons (he : DE P X b W N e ma) (hr : DA P X b W N es (evs ms)) (hs : starEach (e :: es) X.env = (false, eval e X.env) :: starEach es X.env := by rfl) : DA P X b W N (e :: es) (evs (ma :: ms)) := by
  refine ⟨pa_weak (pa_cons he.pe hr.pa hs) ?_⟩
  rintro σ H Q ⟨ρ, B, ow, σa, h, rh, rs, hN, q⟩
  refine ⟨ρ, B, ow, σa, h, rh, rs, hN, (EPost.bindL (k := fun v h1 => (evs ms σa h1).bindL fun vs h2 => .ok (v :: vs) h2) q).imp ?_⟩
  rintro x H1 ⟨ρ1, av, h1, e1, rh1, rv1, q1⟩
  refine ⟨ρ1, B, ow, σa, h1, rh1, rs.ext e1, hN, ?_⟩
  cases g : evs ms σa h1 with
  | ok avs h2 =>
    rw [g] at q1
    exact fun ρ2 H2 vs f2 rh2 rv2 => q1 ρ2 H2 (x :: vs) f2 rh2 (RVs.cons (rv1.ext f2 av) rv2)
  | exc cc f h2 => rw [g] at q1; exact q1
  | stuck => rw [g] at q1; exact q1.elim

theorem LPost.imp {ρ : List Addr} {B : Addr → Prop} {σ : St} {H : Hp} {r : LR} {Q Q' : List V → Hp → Prop} (h : LPost P b W ρ B σ H Q r) (hq : ∀ v H, Q v H → Q' v H) : LPost P b W ρ B σ H Q' r := by
  cases r with
  | ok av h' => exact fun ρ' H' v e rh rv => hq _ _ (h ρ' H' v e rh rv)
  | exc c x h' => exact h
  | stuck => exact h
theorem evs_len : ∀ {ms : List EV} {σ : AS} {h h' : AH} {vs : List AV}, evs ms σ h = .ok vs h' → vs.length = ms.length
  | [], _, _, _, _, e => by cases e; rfl
  | m :: ms, σ, h, h', vs, e => by
    simp only [evs] at e
    cases g : m σ h with
    | ok v h1 =>
      rw [g] at e
      simp only [ER.bindL] at e
      cases g2 : evs ms σ h1 with
      | ok ws h2 =>
        rw [g2] at e
        cases e
        simp [evs_len g2]
      | exc _ _ _ => rw [g2] at e; cases e
      | stuck => rw [g2] at e; cases e
    | exc _ _ _ => rw [g] at e; cases e
    | stuck => rw [g] at e; cases e
theorem disp {R : List V → Hp → Prop} {σ : St} {H : Hp} {Q : VK} {con : List AV → AV}
    (hq : tDE P b W N (fun σ h => (evs ms σ h).bind fun vs h1 => .ok (con vs) h1) σ H Q)
    (k : ∀ ρ B H1 avs h vs, avs.length = ms.length → RH P ρ B H1 h → RVs P.K ρ B H1 avs vs → EPost P b W ρ B σ H1 Q (.ok (con avs) h) → R vs H1) : tDA P b W N (evs ms) σ H R := by
  obtain ⟨ρ, B, ow, σa, h, rh, rs, hN, q⟩ := hq
  refine ⟨ρ, B, ow, σa, h, rh, rs, hN, ?_⟩
  have q' := LPost.bind (k := fun vs h1 => .ok (con vs) h1) q
  cases g : evs ms σa h with
  | ok avs h1 =>
    have q2 : EPost P b W ρ (Bo B ow) σ H Q (.ok (con avs) h1) := by
      have : EPost P b W ρ (Bo B ow) σ H Q ((evs ms σa h).bind fun vs h1 => .ok (con vs) h1) := q
      rw [g] at this
      exact this
    exact fun ρ1 H1 vs e1 rh1 rv1 => k ρ1 (Bo B ow) H1 avs h1 vs (evs_len g) rh1 rv1 (q2.ext e1)
  | exc c x h' => rw [g] at q'; exact q'
  | stuck => rw [g] at q'; exact q'
theorem de_tup {x1 : Nat} (h : DA P X b W N es (evs ms)) (hl : ms.length ≤ LIM := by decide) : DE P X b W N (.Tuple es x1 pos) (tupD ms) :=
  ⟨pe_weak (pe_tup h.pa) fun σ H Q hq => disp (con := .tup) hq fun ρ B H1 avs hh vs el rh rv q => ⟨by rw [← rv.len, el]; exact hl, fun p hp => ok_newT q rh hp rv⟩⟩
theorem de_lst (h : DA P X b W N es (evs ms)) (hl : ms.length ≤ LIM := by decide) : DE P X b W N (.List es pos) (lstD ms) :=
  ⟨pe_weak (pe_lst h.pa) fun σ H Q hq => disp (con := .lst) hq fun ρ B H1 avs hh vs el rh rv q => ⟨by rw [← rv.len, el]; exact hl, fun p hp => ok_new q rh hp rv⟩⟩
/-- a list display in the heap -/
theorem de_newL (h : DA P X b W N es (evs ms)) (hl : ms.length ≤ LIM := by decide) : DE P X b W N (.List es pos) (newL ms) := by
  refine ⟨pe_weak (pe_lst h.pa) ?_⟩
  rintro σ H Q ⟨ρ, B, ow, σa, hh, rh, rs, hN, q⟩
  refine ⟨ρ, B, ow, σa, hh, rh, rs, hN, ?_⟩
  have q' : EPost P b W ρ (Bo B ow) σ H Q ((evs ms σa hh).bind fun vs h1 => .ok (.ref h1.length) (h1 ++ [.lst vs])) := q
  cases g : evs ms σa hh with
  | ok avs h1 =>
    rw [g] at q'
    intro ρ1 H1 vs e1 rh1 rv1
    refine ⟨by rw [← rv1.len, evs_len g]; exact hl, fun p hp => ?_⟩
    refine q' (ρ1 ++ [p]) _ _ (e1.trans (Ext.newR hp)) (rh1.new hp ⟨vs, rfl, rv1⟩) ?_
    unfold RV
    exact ⟨p, rfl, by rw [← rh1.len]; simp⟩
  | exc c x h' => rw [g] at q'; exact q'
  | stuck => rw [g] at q'; exact q'
theorem de_newD : DE P X b W N (.Dict [] [] pos) newD := by
  refine ⟨pe_weak pe_dnewK ?_⟩
  rintro σ H Q ⟨ρ, B, ow, σa, hh, rh, rs, hN, q⟩
  intro p hp
  refine q (ρ ++ [p]) _ _ (Ext.newR hp) (rh.new hp ⟨[], rfl, by unfold RKs; rfl⟩) ?_
  unfold RV
  exact ⟨p, rfl, by rw [← rh.len]; simp⟩
theorem de_newF : DE P X b W N (.Dict [] [] pos) (cD (.dct [])) := by
  refine ⟨pe_weak pe_dnewK ?_⟩
  rintro σ H Q ⟨ρ, B, ow, σa, hh, rh, rs, hN, q⟩
  intro p hp
  refine q ρ _ _ (Ext.new hp) (rh.frz hp) ?_
  unfold RV
  exact ⟨p, [], rfl, fun z => rh.lvR p z hp, fun z => rh.lvB p z hp, upd_same, by unfold RKs; rfl⟩
end
end D
end

section
namespace D
open PySem L2

section
variable {P : Pm} {X : Cx} {b : Bool} {W : WX} {N : List Nat} {e a c o i d : Expr} {es : List Expr} {pos : Pos} {ma mb mc mo mi : EV} {ms : List EV} {m : LV} {f : FV}

theorem callB_weak {r : List V → Hp → VK → Prop} (hv : VN P b f r) : ∀ σ H Q, tDE P b W N (callD f ms) σ H Q → tCB r (tDAB P b W N (evs ms)) σ H Q := by
  rintro σ H Q ⟨ρ, B, ow, σa, h, rh, rs, hN, q⟩
  refine ⟨ρ, B, ow, σa, h, rh, rs, hN, (LPostB.bind (k := f) q).imp ?_⟩
  rintro vs H1 ⟨ρ1, av, h1, e1, rh1, rv1, q1⟩
  exact hv W ρ1 (Bo B ow) σ H1 av h1 vs Q rh1 rv1 q1
theorem de_callB {id : String} {x : Str} {p : Pos} {r : List V → Hp → VK → Prop} (hc : CallR X (.builtin id) r) (hv : VN P b f r) (hg : Gl X x) (hm : X.mg x = none) (hb : bootBuiltins x = some (.builtin id)) (ha : DAB P X b W N (e :: es) (evs ms)) (hn : x ≠ "__name__" := by decide) (hdb : (x == ("__debug__" : Str)) = false := by decide)
    (he : starEach (e :: es) X.env = (false, eval e X.env) :: starEach es X.env := by rfl) (hpl : (backTo pos (starEach es X.env)).any (·.1) = false := by rfl) : DE P X b W N (.Call (.Name x p) (e :: es) [] pos) (callD f ms) :=
  ⟨pe_weak (pe_callB hc hg hm hb ha.pa hn hdb he hpl) (callB_weak hv)⟩
theorem de_callTy {T : String} {x : Str} {p : Pos} {r : List V → Hp → VK → Prop} (hc : CallR X (.type T) r) (hv : VN P b f r) (hg : Gl X x) (hm : X.mg x = none) (hb : bootBuiltins x = some (.type T)) (ha : DAB P X b W N (e :: es) (evs ms)) (hn : x ≠ "__name__" := by decide) (hdb : (x == ("__debug__" : Str)) = false := by decide)
    (he : starEach (e :: es) X.env = (false, eval e X.env) :: starEach es X.env := by rfl) (hpl : (backTo pos (starEach es X.env)).any (·.1) = false := by rfl) : DE P X b W N (.Call (.Name x p) (e :: es) [] pos) (callD f ms) :=
  ⟨pe_weak (pe_callTy hc hg hm hb ha.pa hn hdb he hpl) (callB_weak hv)⟩

theorem optE_ok {ρ : List Addr} {B : Addr → Prop} {σ : St} {H : Hp} {Q : VK} {ov : Option AV} {h : AH} (q : EPost P b W ρ B σ H Q (optE ov h)) : ∃ w, ov = some w ∧ EPost P b W ρ B σ H Q (.ok w h) := by
  cases ov with
  | none => exact q.elim
  | some w => exact ⟨w, rfl, q⟩
theorem one_of {ρ : List Addr} {B : Addr → Prop} {H : Hp} {x : AV} {vs : List V} (h : RVbs P.K ρ B H [x] vs) : ∃ v, vs = [v] ∧ RVb P.K ρ B H x v := by
  obtain ⟨v, r, rfl, h1, rfl⟩ := h
  exact ⟨v, rfl, h1⟩
theorem two_of {ρ : List Addr} {B : Addr → Prop} {H : Hp} {x y : AV} {vs : List V} (h : RVbs P.K ρ B H [x, y] vs) : ∃ v w, vs = [v, w] ∧ RVb P.K ρ B H x v ∧ RVb P.K ρ B H y w := by
  obtain ⟨v, r, rfl, h1, w, t, rfl, h2, rfl⟩ := h
  exact ⟨v, w, rfl, h1, h2⟩
def rLen2 (K : PySem.W.Frag) : List V → Hp → VK → Prop := fun xs H Q => (∃ x n, xs = [x] ∧ LenV K x H n ∧ Q (.int n) H) ∨ (∃ a kvs, xs = [V.ref a] ∧ H a = some (.dK kvs) ∧ Q (.int kvs.length) H)
theorem call_len2 : CallR X (.builtin "len") (rLen2 X.K) := call_len.or call_lenD
theorem v_len : VN P b lenF (rLen2 P.K) := by
  intro W ρ B σ H avs h xs Q rh r q
  unfold lenF at q
  split at q
  · rename_i o
    obtain ⟨v, rfl, r1⟩ := one_of r
    obtain ⟨w, ew, q'⟩ := optE_ok q
    obtain ⟨n, en, rfl⟩ := Option.map_eq_some_iff.mp ew
    have q2 := ok_post q' rh mk_int
    have oth : (match seqOf h o with | some xs => some xs.length | none => (dv h o).map List.length) = some n → rLen2 P.K [v] H Q := fun en => by
      cases es : seqOf h o with
      | some xs =>
        rw [es] at en
        cases en
        obtain ⟨a1, vs, rfl, h1, g1⟩ := rv_seq rh r1 es
        exact .inl ⟨_, _, rfl, h1.imp (fun z => ⟨vs, z, g1.len⟩) (fun z => ⟨vs, z, g1.len⟩), q2⟩
      | none =>
        rw [es] at en
        obtain ⟨kvs, ek, rfl⟩ := Option.map_eq_some_iff.mp en
        obtain ⟨a1, us, rfl, h1, g1⟩ := rv_dv rh r1 ek
        exact .inr ⟨a1, us, rfl, h1, by rw [← g1.len]; exact q2⟩
    cases o with
    | str s =>
      have en' : lenS s = some n := en
      unfold lenS at en'
      split at en'
      · rename_i hz
        cases en'
        exact .inl ⟨_, _, rfl, by rw [rv_str r1]; exact ⟨hz, rfl⟩, q2⟩
      · cases en'
    | non => exact oth en
    | bl _ => exact oth en
    | int _ => exact oth en
    | tup _ => exact oth en
    | lst _ => exact oth en
    | dct _ => exact oth en
    | ref _ => exact oth en
    | ro _ => exact oth en
  · exact q.elim
theorem v_abs : VN P b absF (fun xs H Q => ∃ i, xs = [.int i] ∧ Q (.int (if i < 0 then -i else i)) H) := by
  intro W ρ B σ H avs h xs Q rh r q
  unfold absF at q
  split at q
  · obtain ⟨v, rfl, r1⟩ := one_of r
    exact ⟨_, by rw [rv_int r1], ok_post q rh mk_int⟩
  · exact q.elim
theorem v_int : VN P b intF (fun xs H Q => (∃ i, xs = [.int i] ∧ Q (.int i) H) ∨ ∃ k, xs = [.bl k] ∧ Q (.int (if k then 1 else 0)) H) := by
  intro W ρ B σ H avs h xs Q rh r q
  unfold intF at q
  split at q
  · obtain ⟨v, rfl, r1⟩ := one_of r
    exact .inl ⟨_, by rw [rv_int r1], ok_post q rh mk_int⟩
  · obtain ⟨v, rfl, r1⟩ := one_of r
    exact .inr ⟨_, by rw [rv_bl r1], ok_post q rh mk_int⟩
  · exact q.elim
theorem v_str : VN P b strF (fun xs H Q => ∃ i, xs = [.int i] ∧ i.natAbs.log2 < 1920 ∧ Q (.str (toString i)) H) := by
  intro W ρ B σ H avs h xs Q rh r q
  unfold strF at q
  split at q
  · rename_i i
    obtain ⟨v, rfl, r1⟩ := one_of r
    split at q
    · rename_i hi
      refine ⟨i, by rw [rv_int r1], ?_, ok_post q rh mk_str⟩
      by_cases h0 : i.natAbs = 0
      · rw [h0]; decide
      · exact (Nat.log2_lt h0).mpr (Nat.lt_of_lt_of_le hi (by decide))
    · exact q.elim
  · exact q.elim
theorem v_max2 : VN P b max2F (fun xs H Q => ∃ i j, xs = [.int i, .int j] ∧ Q (.int (if j > i then j else i)) H) := by
  intro W ρ B σ H avs h xs Q rh r q
  unfold max2F at q
  split at q
  · obtain ⟨v, w, rfl, r1, r2⟩ := two_of r
    exact ⟨_, _, by rw [rv_int r1, rv_int r2], ok_post q rh mk_int⟩
  · exact q.elim
theorem v_min2 : VN P b min2F (fun xs H Q => ∃ i j, xs = [.int i, .int j] ∧ Q (.int (if j < i then j else i)) H) := by
  intro W ρ B σ H avs h xs Q rh r q
  unfold min2F at q
  split at q
  · obtain ⟨v, w, rfl, r1, r2⟩ := two_of r
    exact ⟨_, _, by rw [rv_int r1, rv_int r2], ok_post q rh mk_int⟩
  · exact q.elim
theorem v_list : VN P b listF (fun xs H Q => ∃ p ys, xs = [.ref p] ∧ (SqL P.K H p ys ∨ SqT P.K H p ys) ∧ ∀ l, H l = none → Q (.ref l) (upd H l (.lst ys))) := by
  intro W ρ B σ H avs h xs Q rh r q
  unfold listF at q
  split at q
  · obtain ⟨v, rfl, r1⟩ := one_of r
    obtain ⟨w, ew, q'⟩ := optE_ok q
    obtain ⟨ys, ey, rfl⟩ := Option.map_eq_some_iff.mp ew
    obtain ⟨a1, vs, rfl, h1, g1⟩ := rv_seq rh r1 ey
    exact ⟨a1, vs, rfl, h1, fun l hl => ok_new q' rh hl g1⟩
  · exact q.elim
theorem v_tuple : VN P b tupleF (fun xs H Q => ∃ p ys, xs = [.ref p] ∧ ((SqL P.K H p ys ∧ ∀ l, H l = none → Q (.ref l) (upd H l (.tup ys))) ∨ (SqT P.K H p ys ∧ Q (.ref p) H))) := by
  intro W ρ B σ H avs h xs Q rh r q
  unfold tupleF at q
  split at q
  · rename_i o
    obtain ⟨v, rfl, r1⟩ := one_of r
    obtain ⟨w, ew, q'⟩ := optE_ok q
    obtain ⟨ys, ey, rfl⟩ := Option.map_eq_some_iff.mp ew
    have oth : rl h o = some ys → _ := fun ey => rv_rl rh r1 ey
    cases o with
    | tup zs =>
      cases ey
      obtain ⟨a1, vs, rfl, h1, g1⟩ := rv_tup r1
      exact ⟨a1, vs, rfl, .inr ⟨h1, ok_post q' rh (rvb_tup r1)⟩⟩
    | _ =>
      obtain ⟨a1, vs, rfl, h1, g1⟩ := oth ey
      exact ⟨a1, vs, rfl, .inl ⟨h1, fun l hl => ok_newT q' rh hl g1⟩⟩
  · exact q.elim
theorem v_sum : VN P b sumF (rSum P.K) := by
  intro W ρ B σ H avs h xs Q rh r q
  unfold sumF at q
  split at q
  · obtain ⟨v, rfl, r1⟩ := one_of r
    obtain ⟨w, ew, q'⟩ := optE_ok q
    obtain ⟨ns, en, rfl⟩ := Option.map_eq_some_iff.mp ew
    obtain ⟨ys, ey, en⟩ := Option.bind_eq_some_iff.mp en
    obtain ⟨a1, vs, rfl, h1, g1⟩ := rv_rl rh r1 ey
    have := ints_of en g1
    subst this
    exact ⟨a1, ns, rfl, h1, ok_post q' rh mk_int⟩
  · exact q.elim
theorem v_any : VN P b anyF (rAny P.K) := by
  intro W ρ B σ H avs h xs Q rh r q
  unfold anyF at q
  split at q
  · obtain ⟨v, rfl, r1⟩ := one_of r
    obtain ⟨w, ew, q'⟩ := optE_ok q
    obtain ⟨ns, en, rfl⟩ := Option.map_eq_some_iff.mp ew
    obtain ⟨ys, ey, en⟩ := Option.bind_eq_some_iff.mp en
    obtain ⟨a1, vs, rfl, h1, g1⟩ := rv_rl rh r1 ey
    have := bls_of en g1
    subst this
    exact ⟨a1, ns, rfl, h1, ok_post q' rh mk_bl⟩
  · exact q.elim
theorem v_all : VN P b allF (rAll P.K) := by
  intro W ρ B σ H avs h xs Q rh r q
  unfold allF at q
  split at q
  · obtain ⟨v, rfl, r1⟩ := one_of r
    obtain ⟨w, ew, q'⟩ := optE_ok q
    obtain ⟨ns, en, rfl⟩ := Option.map_eq_some_iff.mp ew
    obtain ⟨ys, ey, en⟩ := Option.bind_eq_some_iff.mp en
    obtain ⟨a1, vs, rfl, h1, g1⟩ := rv_rl rh r1 ey
    have := bls_of en g1
    subst this
    exact ⟨a1, ns, rfl, h1, ok_post q' rh mk_bl⟩
  · exact q.elim

theorem TPost.ext {ρ ρ1 : List Addr} {B : Addr → Prop} {σ : St} {H H1 : Hp} {r : ER} {Q : Bool → Hp → Prop} (h : TPost P b W ρ B σ H Q r) (e : Ext b ρ H ρ1 H1) : TPost P b W ρ1 B σ H1 Q r := by
  cases r with
  | ok av h' =>
    cases av with
    | bl c => exact fun ρ' H' f => h ρ' H' (e.trans f)
    | _ => exact h
  | exc c x h' => exact fun ρ' H' v f => h ρ' H' v (e.trans f)
  | stuck => exact h
theorem TPost.imp {ρ : List Addr} {B : Addr → Prop} {σ : St} {H : Hp} {r : ER} {Q Q' : Bool → Hp → Prop} (h : TPost P b W ρ B σ H Q r) (hq : ∀ v H, Q v H → Q' v H) : TPost P b W ρ B σ H Q' r := by
  cases r with
  | ok av h' =>
    cases av with
    | bl c => exact fun ρ' H' f g => hq _ _ (h ρ' H' f g)
    | _ => exact h
  | exc c x h' => exact h
  | stuck => exact h
theorem TPost.tst {ρ : List Addr} {B : Addr → Prop} {σ : St} {H : Hp} {r : ER} {k : Bool → AH → ER} {Q : Bool → Hp → Prop} (h : TPost P b W ρ B σ H Q (r.tst k)) :
    TPost P b W ρ B σ H (fun c H1 => ∃ ρ1 h1, Ext b ρ H ρ1 H1 ∧ RH P ρ1 B H1 h1 ∧ TPost P b W ρ1 B σ H1 Q (k c h1)) r := by
  cases r with
  | ok av h' =>
    cases av with
    | bl c => exact fun ρ' H' e rh => ⟨ρ', h', e, rh, TPost.ext h e⟩
    | _ => exact h
  | exc c x h' => exact h
  | stuck => exact h
theorem EPost.tst {ρ : List Addr} {B : Addr → Prop} {σ : St} {H : Hp} {r : ER} {k : Bool → AH → ER} {Q : VK} (h : EPost P b W ρ B σ H Q (r.tst k)) :
    TPost P b W ρ B σ H (fun c H1 => ∃ ρ1 h1, Ext b ρ H ρ1 H1 ∧ RH P ρ1 B H1 h1 ∧ EPost P b W ρ1 B σ H1 Q (k c h1)) r := by
  cases r with
  | ok av h' =>
    cases av with
    | bl c => exact fun ρ' H' e rh => ⟨ρ', h', e, rh, EPost.ext h e⟩
    | _ => exact h
  | exc c x h' => exact h
  | stuck => exact h
theorem EPostB.tst {ρ : List Addr} {B : Addr → Prop} {σ : St} {H : Hp} {r : ER} {k : Bool → AH → ER} {Q : VK} (h : EPost P b W ρ B σ H Q (r.tst k)) :
    EPostB P b W ρ B σ H (fun v H1 => ∃ c ρ1 h1, v = .bl c ∧ Ext b ρ H ρ1 H1 ∧ RH P ρ1 B H1 h1 ∧ EPost P b W ρ1 B σ H1 Q (k c h1)) r := by
  cases r with
  | ok av h' =>
    cases av with
    | bl c => exact fun ρ' H' v e rh rv => ⟨c, ρ', h', rv_bl rv, e, rh, EPost.ext h e⟩
    | _ => exact h.elim
  | exc c x h' => exact h
  | stuck => exact h
/-- .. of and, or -/
structure DW (P : Pm) (X : Cx) (b : Bool) (W : WX) (N : List Nat) (e : Expr) (m : EV) : Prop where
  pw : PW X e (tDT P b W N m)
theorem DW.dt (h : DW P X b W N e ma) : DT P X b W N e ma := ⟨h.pw.pt⟩
theorem dw_and1 (h : DT P X b W N a ma) : DW P X b W N (.BoolOp .And [a] pos) ma := ⟨pw_and1 h.pt⟩
theorem dw_or1 (h : DT P X b W N a ma) : DW P X b W N (.BoolOp .Or [a] pos) ma := ⟨pw_or1 h.pt⟩
theorem dw_and {rest : List Expr} (ha : DT P X b W N a ma) (hb : DW P X b W N (.BoolOp .And (c :: rest) pos) mb) : DW P X b W N (.BoolOp .And (a :: c :: rest) pos) (andD ma mb) := by
  refine ⟨pw_weak (pw_and ha.pt hb.pw) ?_⟩
  rintro σ H Q ⟨ρ, B, ow, σa, h, rh, rs, hN, q⟩
  refine ⟨ρ, B, ow, σa, h, rh, rs, hN, (TPost.tst q).imp ?_⟩
  rintro t H1 ⟨ρ1, h1, e1, rh1, q1⟩
  cases t with
  | true => exact ⟨ρ1, B, ow, σa, h1, rh1, rs.ext e1, hN, q1⟩
  | false => exact q1 ρ1 H1 (Ext.refl b ρ1 H1) rh1
theorem dw_or {rest : List Expr} (ha : DT P X b W N a ma) (hb : DW P X b W N (.BoolOp .Or (c :: rest) pos) mb) : DW P X b W N (.BoolOp .Or (a :: c :: rest) pos) (orD ma mb) := by
  refine ⟨pw_weak (pw_or ha.pt hb.pw) ?_⟩
  rintro σ H Q ⟨ρ, B, ow, σa, h, rh, rs, hN, q⟩
  refine ⟨ρ, B, ow, σa, h, rh, rs, hN, (TPost.tst q).imp ?_⟩
  rintro t H1 ⟨ρ1, h1, e1, rh1, q1⟩
  cases t with
  | true => exact q1 ρ1 H1 (Ext.refl b ρ1 H1) rh1
  | false => exact ⟨ρ1, B, ow, σa, h1, rh1, rs.ext e1, hN, q1⟩
theorem dt_not (ha : DT P X b W N a ma) : DT P X b W N (.UnaryOp .Not a pos) (notD ma) := by
  refine ⟨pt_weak (pt_not ha.pt) ?_⟩
  rintro σ H Q ⟨ρ, B, ow, σa, h, rh, rs, hN, q⟩
  refine ⟨ρ, B, ow, σa, h, rh, rs, hN, (TPost.tst q).imp ?_⟩
  rintro t H1 ⟨ρ1, h1, e1, rh1, q1⟩
  exact q1 ρ1 H1 (Ext.refl b ρ1 H1) rh1
/-- .. as values -/
theorem de_one {op : BoolOp} (h : DE P X b W N a ma) : DE P X b W N (.BoolOp op [a] pos) ma := ⟨pe_one h.pe⟩
theorem de_and {rest : List Expr} (ha : DB P X b W N a ma) (hb : DE P X b W N (.BoolOp .And (c :: rest) pos) mb) : DE P X b W N (.BoolOp .And (a :: c :: rest) pos) (andD ma mb) := by
  refine ⟨pe_weak (pe_and ha.pe hb.pe) ?_⟩
  rintro σ H Q ⟨ρ, B, ow, σa, h, rh, rs, hN, q⟩
  refine ⟨ρ, B, ow, σa, h, rh, rs, hN, (EPostB.tst q).imp ?_⟩
  rintro v H1 ⟨t, ρ1, h1, rfl, e1, rh1, q1⟩
  refine ⟨t, rfl, ?_⟩
  cases t with
  | true => exact ⟨ρ1, B, ow, σa, h1, rh1, rs.ext e1, hN, q1⟩
  | false => exact q1 ρ1 H1 _ (Ext.refl b ρ1 H1) rh1 mk_bl
theorem de_or {rest : List Expr} (ha : DB P X b W N a ma) (hb : DE P X b W N (.BoolOp .Or (c :: rest) pos) mb) : DE P X b W N (.BoolOp .Or (a :: c :: rest) pos) (orD ma mb) := by
  refine ⟨pe_weak (pe_or ha.pe hb.pe) ?_⟩
  rintro σ H Q ⟨ρ, B, ow, σa, h, rh, rs, hN, q⟩
  refine ⟨ρ, B, ow, σa, h, rh, rs, hN, (EPostB.tst q).imp ?_⟩
  rintro v H1 ⟨t, ρ1, h1, rfl, e1, rh1, q1⟩
  refine ⟨t, rfl, ?_⟩
  cases t with
  | true => exact q1 ρ1 H1 _ (Ext.refl b ρ1 H1) rh1 mk_bl
  | false => exact ⟨ρ1, B, ow, σa, h1, rh1, rs.ext e1, hN, q1⟩
theorem de_not (ha : DB P X b W N a ma) : DE P X b W N (.UnaryOp .Not a pos) (notD ma) := by
  refine ⟨pe_weak (pe_not ha.pe) ?_⟩
  rintro σ H Q ⟨ρ, B, ow, σa, h, rh, rs, hN, q⟩
  refine ⟨ρ, B, ow, σa, h, rh, rs, hN, (EPostB.tst q).imp ?_⟩
  rintro v H1 ⟨t, ρ1, h1, rfl, e1, rh1, q1⟩
  exact ⟨t, rfl, q1 ρ1 H1 _ (Ext.refl b ρ1 H1) rh1 mk_bl⟩
theorem de_if {t : Expr} (ht : DT P X b W N t mc) (ha : DE P X b W N a ma) (hb : DE P X b W N c mb) : DE P X b W N (.IfExp t a c pos) (ifD mc ma mb) := by
  refine ⟨pe_weak (pe_ifExp ht.pt ha.pe hb.pe) ?_⟩
  rintro σ H Q ⟨ρ, B, ow, σa, h, rh, rs, hN, q⟩
  refine ⟨ρ, B, ow, σa, h, rh, rs, hN, (EPost.tst q).imp ?_⟩
  rintro t H1 ⟨ρ1, h1, e1, rh1, q1⟩
  cases t with
  | true => exact ⟨ρ1, B, ow, σa, h1, rh1, rs.ext e1, hN, q1⟩
  | false => exact ⟨ρ1, B, ow, σa, h1, rh1, rs.ext e1, hN, q1⟩

theorem de_isN {j : Nat} {pos' : Pos} (ha : DB P X b W N a ma) : DE P X b W N (.Compare a [.Is] [.Constant .none j pos'] pos) (un isNoneV ma) := by
  refine ⟨pe_weak (pe_cmp (pc_isN ha.pe)) ?_⟩
  rintro σ H Q ⟨ρ, B, ow, σa, h, rh, rs, hN, q⟩
  refine ⟨ρ, B, ow, σa, h, rh, rs, hN, (EPost.bindB q).imp ?_⟩
  rintro x H1 ⟨ρ1, av, h1, e1, rh1, rv1, q1⟩
  rw [isNon_of rv1]
  exact ok_post q1 rh1 mk_bl
theorem de_notN {j : Nat} {pos' : Pos} (ha : DB P X b W N a ma) : DE P X b W N (.Compare a [.IsNot] [.Constant .none j pos'] pos) (un notNoneV ma) := by
  refine ⟨pe_weak (pe_cmp (pc_notN ha.pe)) ?_⟩
  rintro σ H Q ⟨ρ, B, ow, σa, h, rh, rs, hN, q⟩
  refine ⟨ρ, B, ow, σa, h, rh, rs, hN, (EPost.bindB q).imp ?_⟩
  rintro x H1 ⟨ρ1, av, h1, e1, rh1, rv1, q1⟩
  rw [isNon_of rv1]
  exact ok_post q1 rh1 mk_bl
theorem tDT_of {t : TE} (h : PE X e t) (hw : ∀ σ H Q, tDE P b W N ma σ H Q → t σ H Q) (he : ∀ whole, isTrue e X.env whole = (do let v ← whole; standAt e.pos; holding [v] (truthy v))) : DT P X b W N e ma :=
  dt_val ⟨pe_weak h hw⟩ he
theorem dt_isN {j : Nat} {pos' : Pos} (ha : DB P X b W N a ma) : DT P X b W N (.Compare a [.Is] [.Constant .none j pos'] pos) (un isNoneV ma) :=
  ⟨pt_weak (pt_cmp (pc_isN ha.pe)) (tst_weak (fun _ _ _ h => h) fun σ H Q hq => by
    obtain ⟨ρ, B, ow, σa, h, rh, rs, hN, q⟩ := hq
    refine ⟨ρ, B, ow, σa, h, rh, rs, hN, (EPost.bindB q).imp ?_⟩
    rintro x H1 ⟨ρ1, av, h1, e1, rh1, rv1, q1⟩
    rw [isNon_of rv1]
    exact ok_post q1 rh1 mk_bl)⟩
theorem dt_notN {j : Nat} {pos' : Pos} (ha : DB P X b W N a ma) : DT P X b W N (.Compare a [.IsNot] [.Constant .none j pos'] pos) (un notNoneV ma) :=
  ⟨pt_weak (pt_cmp (pc_notN ha.pe)) (tst_weak (fun _ _ _ h => h) fun σ H Q hq => by
    obtain ⟨ρ, B, ow, σa, h, rh, rs, hN, q⟩ := hq
    refine ⟨ρ, B, ow, σa, h, rh, rs, hN, (EPost.bindB q).imp ?_⟩
    rintro x H1 ⟨ρ1, av, h1, e1, rh1, rv1, q1⟩
    rw [isNon_of rv1]
    exact ok_post q1 rh1 mk_bl)⟩

theorem chain_weak {f g : AV → AV → AH → ER} {r r' : R2} (hr : V2 P b f r) (hr' : V2 P b g r') : ∀ σ H Q, tDE P b W N (chainD f g ma mb mc) σ H Q → tChain r r' (tDB P b W N ma) (tDB P b W N mb) (tDB P b W N mc) σ H Q := by
  rintro σ H Q ⟨ρ, B, ow, σa, h, rh, rs, hN, q⟩
  refine ⟨ρ, B, ow, σa, h, rh, rs, hN, (EPost.bindB q).imp ?_⟩
  rintro x H1 ⟨ρ1, av, h1, e1, rh1, rv1, q1⟩
  refine ⟨ρ1, B, ow, σa, h1, rh1, rs.ext e1, hN, (EPost.bindB q1).imp ?_⟩
  rintro y H2 ⟨ρ2, bv, h2, e2, rh2, rv2, q2⟩
  refine hr W ρ2 (Bo B ow) σ H2 av bv h2 x y _ rh2 (rv1.ext e2) rv2 ?_
  refine EPostB.up ((EPostB.tst q2).imp ?_)
  rintro v H3 ⟨t, ρ3, h3, rfl, e3, rh3, q3⟩
  refine ⟨t, rfl, ?_⟩
  cases t with
  | false => exact q3 ρ3 H3 _ (Ext.refl b ρ3 H3) rh3 mk_bl
  | true =>
    refine ⟨ρ3, B, ow, σa, h3, rh3, ((rs.ext e1).ext e2).ext e3, hN, (EPost.bindB q3).imp ?_⟩
    rintro z H4 ⟨ρ4, cv, h4, e4, rh4, rv4, q4⟩
    exact hr' W ρ4 (Bo B ow) σ H4 bv cv h4 y z Q rh4 ((rv2.ext e3).ext e4) rv4 q4
theorem de_chain {op op' : CmpOp} {f g : AV → AV → AH → ER} {r r' : R2} (ho : OpR X (compareOp op) r) (ho' : OpR X (compareOp op') r') (hr : V2 P b f r) (hr' : V2 P b g r') (ha : DB P X b W N a ma) (hb : DB P X b W N c mb) (hc : DB P X b W N d mc)
    (hm : lastMarks [op, op'] [c, d] = false := by with_unfolding_all rfl) : DE P X b W N (.Compare a [op, op'] [c, d] pos) (chainD f g ma mb mc) := ⟨pe_weak (pe_chain ho ho' ha.pe hb.pe hc.pe hm) (chain_weak hr hr')⟩
theorem dt_chain {op op' : CmpOp} {f g : AV → AV → AH → ER} {r r' : R2} (ho : OpR X (compareOp op) r) (ho' : OpR X (compareOp op') r') (hr : V2 P b f r) (hr' : V2 P b g r') (ha : DB P X b W N a ma) (hb : DB P X b W N c mb) (hc : DB P X b W N d mc)
    (hm : lastMarks [op, op'] [c, d] = false := by with_unfolding_all rfl) : DT P X b W N (.Compare a [op, op'] [c, d] pos) (chainD f g ma mb mc) :=
  ⟨pt_weak (pt_chain ho ho' ha.pe hb.pe hc.pe hm) (tst_weak (fun _ _ _ h => h) (chain_weak hr hr'))⟩

/-- a def's promise by its denotation -/
def spD (P : Pm) (b : Bool) (n : Nat) (f : FV) : Sp := fun vs H Q E => vs.length = n ∧ ∃ ρ B avs h, RH P ρ B H h ∧ RVs P.K ρ B H avs vs ∧
  match f avs h with
  | .ok av h' => ∀ ρ' H' v, Ext b ρ H ρ' H' → RH P ρ' B H' h' → RV P.K ρ' B H' av v → Q v H'
  | .exc c x h' => ∀ ρ' H' d, Ext b ρ H ρ' H' → RH P ρ' B H' h' → RX P.K ρ' B H' x d → E (P.ex c) d H'
  | .stuck => False
structure FnD (P : Pm) (Pg : Program) (w : World) (mg : Str → Option Value) (base : Heap) (b : Bool) (k : Nat) (x : Str) (ps : List Str) (f : FV) : Prop where
  ok : ∃ (a : Addr) (fd : FuncData), FnOk Pg w P.K mg base (L2.CX Pg w) k a fd ps (spD P b ps.length f) ∧ mg x = some (.ref a) ∧ PySem.W.keepIn P.K (.ref a) = true ∧ Binds P.K fd ps []
theorem Ext.bup {b b' : Bool} {ρ ρ' : List Addr} {H H' : Hp} (hb : b' = true → b = true) (e : Ext b ρ H ρ' H') : Ext b' ρ H ρ' H' := ⟨e.pre, fun a o h k => e.keep a o (h.imp_left hb) k, e.live⟩
theorem de_call {b' : Bool} {k : Nat} {x : Str} {ps : List Str} {p : Pos} (F : FnD P X.prog X.w X.mg X.base b' k x ps f) (hK : P.K = X.K) (hr : Room k X.A) (tk : Takes X W) (hg : Gl X x) (ha : DA P X b W N (e :: es) (evs ms)) (hl : (e :: es).length = ps.length := by rfl) (hml : ms.length = (e :: es).length := by rfl) (hb : b = true → b' = true := by decide)
    (hdb : (x == ("__debug__" : Str)) = false := by decide) (he : starEach (e :: es) X.env = (false, eval e X.env) :: starEach es X.env := by rfl) (hpl : (backTo pos (starEach es X.env)).any (·.1) = false := by rfl) :
    DE P X b W N (.Call (.Name x p) (e :: es) [] pos) (callD f ms) := by
  obtain ⟨fa, fd, Fo, hm, hk, hbi⟩ := F.ok
  rw [hK] at Fo hk hbi
  refine ⟨pe_weak (pe_callSD (E := fun σ => WE W σ) Fo hr hg hm hk hbi .nil (fun σ => passAt tk σ) ha.pa hdb he hpl) ?_⟩
  rintro σ H Q ⟨ρ, B, ow, σa, h, rh, rs, hN, q⟩
  refine ⟨ρ, B, ow, σa, h, rh, rs, hN, ?_⟩
  have q' : EPost P b W ρ (Bo B ow) σ H Q ((evs ms σa h).bind f) := q
  cases g : evs ms σa h with
  | exc c x h' => rw [g] at q'; exact q'
  | stuck => rw [g] at q'; exact q'
  | ok avs h1 =>
    rw [g] at q'
    intro ρ1 H1 vs e1 rh1 rv1
    refine ⟨by rw [List.append_nil, ← rv1.len, evs_len g, hml, hl], ρ1, Bo B ow, avs, h1, rh1, by rw [List.append_nil]; exact rv1, ?_⟩
    have q2 : EPost P b W ρ (Bo B ow) σ H Q (f avs h1) := q'
    cases g2 : f avs h1 with
    | ok av h2 =>
      rw [g2] at q2
      exact fun ρ2 H2 v e2 rh2 rv2 => q2 ρ2 H2 v (e1.trans (e2.bup hb)) rh2 rv2
    | exc c x h2 =>
      rw [g2] at q2
      exact fun ρ2 H2 v e2 rh2 rv2 => q2 ρ2 H2 v (e1.trans (e2.bup hb)) rh2 rv2
    | stuck => rw [g2] at q2; exact q2
end
end D
end

section
namespace D
open PySem L2

section
variable {P : Pm} {X : Cx} {b : Bool} {W : WX} {N Nb Nx N' N1 : List Nat} {e a c o i d : Expr} {es : List Expr} {pos : Pos} {ma mb mc mo mi : EV} {ms : List EV} {st : Stmt} {sts sts' : List Stmt} {m m1 m2 : SV}

theorem exc_restrict {ρ : List Addr} {B : Addr → Prop} {ow : List (Nat × Addr)} {σa : AS} {σ : St} {H : Hp} {D : Ends} {c : Nat} {x : XF} {h' : AH} (rs : RS P ρ B ow H σa σ) (hx : (ow.map (·.1)).filter (fun i => Nx.contains i) = Nx)
    (q : SPost P b W Nb Nx N' ρ B ow H D (.exc c x σa h')) : ∀ ρ' H' d, Ext b ρ H ρ' H' → RH P ρ' (Bo B ow) H' h' → RX P.K ρ' (Bo B ow) H' x d → W (P.ex c) d σ H' := by
  intro ρ' H' d e rh rx
  refine q ρ' (ow.filter fun p => Nx.contains p.1) H' σ d ((ExtS.of e).fewer (filter_snd (fun i => Nx.contains i))) (rh.drop _) ((rs.ext e).drop _) (by rw [filter_fst (fun i => Nx.contains i)]; exact hx) ?_
  cases x with
  | none => exact rx
  | some fs =>
    obtain ⟨dx, us, h1, h2, h3, h4, h5⟩ := rx
    refine ⟨dx, us, h1, h2, fun z => h3 ?_, h4, h5.anti (fun a z => ?_) fs⟩
    · rcases z with z | z
      · exact .inl z
      · exact .inr (filter_snd (fun i => Nx.contains i) _ z)
    · rcases z with z | z
      · exact .inl z
      · exact .inr (filter_snd (fun i => Nx.contains i) _ z)
/-- Nx is kept at each raise -/
abbrev Kept (N Nx : List Nat) : Prop := N.filter (fun i => Nx.contains i) = Nx
theorem toS_post {ρ : List Addr} {B : Addr → Prop} {ow : List (Nat × Addr)} {σa : AS} {σ : St} {H : Hp} {D : Ends} {r : ER} {k : AV → AH → SR} (rs : RS P ρ B ow H σa σ) (hN : ow.map (·.1) = N) (hx : Kept N Nx)
    (q : SPost P b W Nb Nx N' ρ B ow H D (r.toS σa k)) :
    EPost P b W ρ (Bo B ow) σ H (fun v H1 => ∃ ρ1 av h1, Ext b ρ H ρ1 H1 ∧ RH P ρ1 (Bo B ow) H1 h1 ∧ RV P.K ρ1 (Bo B ow) H1 av v ∧ SPost P b W Nb Nx N' ρ1 B ow H1 D (k av h1)) r := by
  cases r with
  | ok av h' => exact fun ρ' H' v e rh rv => ⟨ρ', av, h', e, rh, rv, SPost.ext q (ExtS.of e)⟩
  | exc c x h' => exact exc_restrict rs (by rw [hN]; exact hx) q
  | stuck => exact q
theorem toS_postB {ρ : List Addr} {B : Addr → Prop} {ow : List (Nat × Addr)} {σa : AS} {σ : St} {H : Hp} {D : Ends} {r : ER} {k : AV → AH → SR} (rs : RS P ρ B ow H σa σ) (hN : ow.map (·.1) = N) (hx : Kept N Nx)
    (q : SPost P b W Nb Nx N' ρ B ow H D (r.toS σa k)) :
    EPostB P b W ρ (Bo B ow) σ H (fun v H1 => ∃ ρ1 av h1, Ext b ρ H ρ1 H1 ∧ RH P ρ1 (Bo B ow) H1 h1 ∧ RVb P.K ρ1 (Bo B ow) H1 av v ∧ SPost P b W Nb Nx N' ρ1 B ow H1 D (k av h1)) r := by
  cases r with
  | ok av h' => exact fun ρ' H' v e rh rv => ⟨ρ', av, h', e, rh, rv, SPost.ext q (ExtS.of e)⟩
  | exc c x h' => exact exc_restrict rs (by rw [hN]; exact hx) q
  | stuck => exact q
theorem tstS_post {ρ : List Addr} {B : Addr → Prop} {ow : List (Nat × Addr)} {σa : AS} {σ : St} {H : Hp} {D : Ends} {r : ER} {k : Bool → AH → SR} (rs : RS P ρ B ow H σa σ) (hN : ow.map (·.1) = N) (hx : Kept N Nx)
    (q : SPost P b W Nb Nx N' ρ B ow H D (r.tstS σa k)) :
    TPost P b W ρ (Bo B ow) σ H (fun c H1 => ∃ ρ1 h1, Ext b ρ H ρ1 H1 ∧ RH P ρ1 (Bo B ow) H1 h1 ∧ SPost P b W Nb Nx N' ρ1 B ow H1 D (k c h1)) r := by
  cases r with
  | ok av h' =>
    cases av with
    | bl c => exact fun ρ' H' e rh => ⟨ρ', h', e, rh, SPost.ext q (ExtS.of e)⟩
    | _ => exact q.elim
  | exc c x h' => exact exc_restrict rs (by rw [hN]; exact hx) q
  | stuck => exact q

theorem weak_start {D : Ends} {σ : St} {H : Hp} (hs : N.filter (fun i => N1.contains i) = N1) (q : tDS P b W N Nb Nx N' m D σ H) : tDS P b W N1 Nb Nx N' m D σ H := by
  obtain ⟨ρ, B, ow, σa, h, rh, rs, rfl, q⟩ := q
  refine ⟨ρ, B, ow.filter fun p => N1.contains p.1, σa, h, rh.drop _, rs.drop _, by rw [filter_fst (fun i => N1.contains i)]; exact hs, ?_⟩
  have st : ∀ a ∈ (ow.filter fun p => N1.contains p.1).map (·.2), a ∈ ow.map (·.2) := filter_snd (fun i => N1.contains i)
  cases g : m σa h with
  | nx _ _ => rw [g] at q; exact fun ρ' ow' H' σ' e => q ρ' ow' H' σ' (e.start st)
  | bk _ _ => rw [g] at q; exact fun ρ' ow' H' σ' e => q ρ' ow' H' σ' (e.start st)
  | ct _ _ => rw [g] at q; exact fun ρ' ow' H' σ' e => q ρ' ow' H' σ' (e.start st)
  | rt _ _ => rw [g] at q; exact fun ρ' H' v e => q ρ' H' v (e.start st)
  | exc _ _ _ _ => rw [g] at q; exact fun ρ' ow' H' σ' d e => q ρ' ow' H' σ' d (e.start st)
  | stuck => rw [g] at q; exact q
/-- from N the names of N1 alone are kept as owners -/
theorem dss_weak (h : DSs P X b W N1 Nb Nx N' sts m) (hs : N.filter (fun i => N1.contains i) = N1 := by decide) : DSs P X b W N Nb Nx N' sts m := ⟨pss_weak h.ps fun D σ H q => weak_start hs q⟩
theorem ds_weak (h : DS P X b W N1 Nb Nx N' st m) (hs : N.filter (fun i => N1.contains i) = N1 := by decide) : DS P X b W N Nb Nx N' st m := ⟨ps_weak h.ps fun D σ H q => weak_start hs q⟩
/-- at the end N1 alone -/
theorem weak_end (hs : N'.filter (fun i => N1.contains i) = N1) {ρ : List Addr} {B : Addr → Prop} {ow : List (Nat × Addr)} {H : Hp} {D : Ends} {r : SR} (q : SPost P b W Nb Nx N1 ρ B ow H D r) : SPost P b W Nb Nx N' ρ B ow H D r := by
  cases r with
  | nx σa' h' =>
    intro ρ' ow' H' σ' e rh rs hN
    refine q ρ' (ow'.filter fun p => N1.contains p.1) H' σ' (e.fewer (filter_snd (fun i => N1.contains i))) (rh.drop _) (rs.drop _) ?_
    rw [filter_fst (fun i => N1.contains i), hN]
    exact hs
  | bk _ _ => exact q
  | ct _ _ => exact q
  | rt _ _ => exact q
  | exc _ _ _ _ => exact q
  | stuck => exact q
theorem dss_end (h : DSs P X b W N Nb Nx N' sts m) (hs : N'.filter (fun i => N1.contains i) = N1 := by decide) : DSs P X b W N Nb Nx N1 sts m := ⟨pss_weak h.ps fun D σ H ⟨ρ, B, ow, σa, hh, rh, rs, hN, q⟩ => ⟨ρ, B, ow, σa, hh, rh, rs, hN, weak_end hs q⟩⟩
theorem ds_end (h : DS P X b W N Nb Nx N' st m) (hs : N'.filter (fun i => N1.contains i) = N1 := by decide) : DS P X b W N Nb Nx N1 st m := ⟨ps_weak h.ps fun D σ H ⟨ρ, B, ow, σa, hh, rh, rs, hN, q⟩ => ⟨ρ, B, ow, σa, hh, rh, rs, hN, weak_end hs q⟩⟩

theorem dss_nil : DSs P X b W N Nb Nx N [] nxS := by
  refine ⟨pss_weak pss_nil ?_⟩
  rintro D σ H ⟨ρ, B, ow, σa, h, rh, rs, hN, q⟩
  exact q ρ ow H σ ExtS.refl rh rs hN
theorem seq_post {ρ : List Addr} {B : Addr → Prop} {ow : List (Nat × Addr)} {H : Hp} {D : Ends} {σa : AS} {h : AH} (q : SPost P b W Nb Nx N' ρ B ow H D (seqS m1 m2 σa h)) :
    SPost P b W Nb Nx N1 ρ B ow H { D with nx := tDS P b W N1 Nb Nx N' m2 D } (m1 σa h) := by
  unfold seqS at q
  cases g : m1 σa h with
  | nx σ1 h1 =>
    rw [g] at q
    exact fun ρ' ow' H' σ' e rh rs hN => ⟨ρ', B, ow', σ1, h1, rh, rs, hN, SPost.ext q e⟩
  | bk _ _ => rw [g] at q; exact q
  | ct _ _ => rw [g] at q; exact q
  | rt _ _ => rw [g] at q; exact q
  | exc _ _ _ _ => rw [g] at q; exact q
  | stuck => rw [g] at q; exact q
theorem dss_cons (h1 : DS P X b W N Nb Nx N1 st m1) (h2 : DSs P X b W N1 Nb Nx N' sts m2) : DSs P X b W N Nb Nx N' (st :: sts) (seqS m1 m2) := by
  refine ⟨pss_weak (pss_cons h1.ps h2.ps) ?_⟩
  rintro D σ H ⟨ρ, B, ow, σa, h, rh, rs, hN, q⟩
  exact ⟨ρ, B, ow, σa, h, rh, rs, hN, seq_post q⟩
theorem dss_one (h1 : DS P X b W N Nb Nx N' st m1) : DSs P X b W N Nb Nx N' [st] m1 := ⟨pss_one h1.ps⟩
/-- code that is never come to: a statement whose denotation is stuck -/
def stuckS : SV := fun _ _ => .stuck
theorem ds_never : DS P X b W N Nb Nx N' st stuckS := ⟨ps_weak ps_never fun _ _ _ ⟨_, _, _, _, _, _, _, _, q⟩ => q⟩
theorem dss_never : DSs P X b W N Nb Nx N' sts stuckS := ⟨pss_weak pss_never fun _ _ _ ⟨_, _, _, _, _, _, _, _, q⟩ => q⟩
def stuckD : EV := fun _ _ => .stuck
theorem ds_pass : DS P X b W N Nb Nx N (.Pass pos) nxS := by
  refine ⟨ps_weak ps_pass ?_⟩
  rintro D σ H ⟨ρ, B, ow, σa, h, rh, rs, hN, q⟩
  exact q ρ ow H σ ExtS.refl rh rs hN
theorem ds_break (hb : N = Nb := by rfl) : DS P X b W N Nb Nx N' (.Break pos) bkS := by
  refine ⟨ps_weak ps_break ?_⟩
  rintro D σ H ⟨ρ, B, ow, σa, h, rh, rs, hN, q⟩
  exact q ρ ow H σ ExtS.refl rh rs (hN.trans hb)
theorem ds_continue (hb : N = Nb := by rfl) : DS P X b W N Nb Nx N' (.Continue pos) ctS := by
  refine ⟨ps_weak ps_continue ?_⟩
  rintro D σ H ⟨ρ, B, ow, σa, h, rh, rs, hN, q⟩
  exact q ρ ow H σ ExtS.refl rh rs (hN.trans hb)
theorem ds_expr (he : DB P X b W N e ma) (hx : Kept N Nx := by decide) (hs : swapsWith e none pos.line X.env = pure false := by rfl) : DS P X b W N Nb Nx N (.Expr e pos) (exprS ma) := by
  refine ⟨ps_weak (ps_expr he.pe hs) ?_⟩
  rintro D σ H ⟨ρ, B, ow, σa, h, rh, rs, hN, q⟩
  refine ⟨ρ, B, ow, σa, h, rh, rs, hN, (toS_postB rs hN hx q).imp ?_⟩
  rintro v H1 ⟨ρ1, av, h1, e1, rh1, rv1, q1⟩
  exact q1 ρ1 ow H1 σ ExtS.refl rh1 (rs.ext e1) hN
theorem ds_ret (he : DE P X b W [] e ma) (hx : Kept [] Nx := by decide) : DS P X b W N Nb Nx N' (.Return (some e) pos) (retS ma) := by
  refine ⟨ps_weak (ps_ret he.pe) ?_⟩
  intro D σ H hq
  obtain ⟨ρ, B, ow, σa, h, rh, rs, hN, q⟩ := weak_start (N1 := []) (by simp) hq
  have ho : ow = [] := by simpa using hN
  subst ho
  refine ⟨ρ, B, [], σa, h, rh, rs, rfl, (toS_post rs rfl hx q).imp ?_⟩
  rintro v H1 ⟨ρ1, av, h1, e1, rh1, rv1, q1⟩
  exact q1 ρ1 H1 v ExtS.refl (rh1.anti Bo.nil) (rv1.anti Bo.nil av)
theorem ds_retN : DS P X b W N Nb Nx N' (.Return none pos) (retS (cD .non)) := by
  refine ⟨ps_weak ps_retN ?_⟩
  intro D σ H hq
  obtain ⟨ρ, B, ow, σa, h, rh, rs, hN, q⟩ := weak_start (N1 := []) (by simp) hq
  have ho : ow = [] := by simpa using hN
  subst ho
  exact q ρ H .non ExtS.refl (rh.anti Bo.nil) mk_non
theorem ds_if {t : Expr} {s1 s2 : List Stmt} (ht : DT P X b W N t mc) (h1 : DSs P X b W N Nb Nx N' s1 m1) (h2 : DSs P X b W N Nb Nx N' s2 m2) (hx : Kept N Nx := by decide) : DS P X b W N Nb Nx N' (.If t s1 s2 pos) (ifS mc m1 m2) := by
  refine ⟨ps_weak (ps_if ht.pt h1.ps h2.ps) ?_⟩
  rintro D σ H ⟨ρ, B, ow, σa, h, rh, rs, hN, q⟩
  refine ⟨ρ, B, ow, σa, h, rh, rs, hN, (tstS_post rs hN hx q).imp ?_⟩
  rintro c H1 ⟨ρ1, h1, e1, rh1, q1⟩
  cases c with
  | true => exact ⟨ρ1, B, ow, σa, h1, rh1, rs.ext e1, hN, q1⟩
  | false => exact ⟨ρ1, B, ow, σa, h1, rh1, rs.ext e1, hN, q1⟩

theorem ds_set {j : Nat} {x : Str} {pos' : Pos} (hn : X.N.Nodup) (hj : X.N[j]? = some x) (hx' : Loc X.env.scope x) (he : DE P X b W N e ma) (hNj : j ∉ N := by decide) (hx : Kept N Nx := by decide) (hs : swapsWith e (some (.Name x pos')) pos.line X.env = pure false := by rfl)
    (hf : X.fn x = true ∨ X.env.scope.names.lookup x = some .local := by first | exact .inl rfl | exact .inr rfl | assumption) : DS P X b W N Nb Nx N (.Assign [.Name x pos'] e pos) (setS j ma) := by
  refine ⟨ps_weak (ps_set hn hj hx' he.pe hs hf) ?_⟩
  rintro D σ H ⟨ρ, B, ow, σa, h, rh, rs, rfl, q⟩
  refine ⟨ρ, B, ow, σa, h, rh, rs, rfl, (toS_post rs rfl hx q).imp ?_⟩
  rintro v H1 ⟨ρ1, av, h1, e1, rh1, rv1, q1⟩
  exact q1 ρ1 ow H1 _ ExtS.refl rh1 ((rs.ext e1).set hNj rv1) rfl
/-- what is wanted of an expression that makes a new list or dict: nobody else has it -/
def FPost (P : Pm) (b : Bool) (W : WX) (ρ : List Addr) (B : Addr → Prop) (σ : St) (H : Hp) (Q : VK) : ER → Prop
  | .ok av h' => ∀ ρ' H' p u, Ext b ρ H ρ' H' → RH P ρ' B H' h' → OV P.K ρ' B H' av u → H' p = none → Q (.ref p) (upd H' p u)
  | .exc c f h' => ∀ ρ' H' d, Ext b ρ H ρ' H' → RH P ρ' B H' h' → RX P.K ρ' B H' f d → W (P.ex c) d σ H'
  | .stuck => False
theorem FPost.ext {ρ ρ1 : List Addr} {B : Addr → Prop} {σ : St} {H H1 : Hp} {Q : VK} {r : ER} (h : FPost P b W ρ B σ H Q r) (e : Ext b ρ H ρ1 H1) : FPost P b W ρ1 B σ H1 Q r := by
  cases r with
  | ok av h' => exact fun ρ' H' p u f => h ρ' H' p u (e.trans f)
  | exc c x h' => exact fun ρ' H' v f => h ρ' H' v (e.trans f)
  | stuck => exact h
theorem FPost.bindB {ρ : List Addr} {B : Addr → Prop} {σ : St} {H : Hp} {Q : VK} {r : ER} {k : AV → AH → ER} (h : FPost P b W ρ B σ H Q (r.bind k)) :
    EPostB P b W ρ B σ H (fun v H1 => ∃ ρ1 av h1, Ext b ρ H ρ1 H1 ∧ RH P ρ1 B H1 h1 ∧ RVb P.K ρ1 B H1 av v ∧ FPost P b W ρ1 B σ H1 Q (k av h1)) r := by
  cases r with
  | ok av h' => exact fun ρ' H' v e rh rv => ⟨ρ', av, h', e, rh, rv, FPost.ext h e⟩
  | exc c x h' => exact h
  | stuck => exact h
theorem FPost.bindL {ρ : List Addr} {B : Addr → Prop} {σ : St} {H : Hp} {Q : VK} {r : LR} {k : List AV → AH → ER} (h : FPost P b W ρ B σ H Q (r.bind k)) :
    LPostB P b W ρ B σ H (fun v H1 => ∃ ρ1 av h1, Ext b ρ H ρ1 H1 ∧ RH P ρ1 B H1 h1 ∧ RVbs P.K ρ1 B H1 av v ∧ FPost P b W ρ1 B σ H1 Q (k av h1)) r := by
  cases r with
  | ok av h' => exact fun ρ' H' v e rh rv => ⟨ρ', av, h', e, rh, rv, FPost.ext h e⟩
  | exc c x h' => exact h
  | stuck => exact h
def tDF (P : Pm) (b : Bool) (W : WX) (N : List Nat) (m : EV) : TE := fun σ H Q =>
  ∃ ρ B ow σa h, RH P ρ (Bo B ow) H h ∧ RS P ρ B ow H σa σ ∧ ow.map (·.1) = N ∧ FPost P b W ρ (Bo B ow) σ H Q (m σa h)
/-- an expression that makes a new list or dict -/
structure DF (P : Pm) (X : Cx) (b : Bool) (W : WX) (N : List Nat) (e : Expr) (m : EV) : Prop where
  pe : PE X e (tDF P b W N m)
theorem f_lst {ρ : List Addr} {B : Addr → Prop} {σ : St} {H : Hp} {Q : VK} {h : AH} {xs : List AV} {vs : List V} (q : FPost P b W ρ B σ H Q (.ok (.lst xs) h)) (rh : RH P ρ B H h) (rv : RVs P.K ρ B H xs vs) : ∀ p, H p = none → Q (.ref p) (upd H p (.lst vs)) :=
  fun p hp => q ρ H p (.lst vs) (Ext.refl b ρ H) rh ⟨vs, rfl, rv⟩ hp
/-- a name gets a list or dict of its own -/
theorem ds_setF {j : Nat} {x : Str} {pos' : Pos} (hn : X.N.Nodup) (hj : X.N[j]? = some x) (hx' : Loc X.env.scope x) (he : DF P X b W N e ma) (hNj : j ∉ N := by decide) (hx : Kept N Nx := by decide) (hs : swapsWith e (some (.Name x pos')) pos.line X.env = pure false := by rfl)
    (hf : X.fn x = true ∨ X.env.scope.names.lookup x = some .local := by first | exact .inl rfl | exact .inr rfl | assumption) (hl : j < X.N.length := by decide) : DS P X b W N Nb Nx (j :: N) (.Assign [.Name x pos'] e pos) (setS j ma) := by
  refine ⟨⟨fun pins s σ H D I hq => ?_⟩⟩
  refine (ps_weak (t' := fun D σ H => σ.length = X.N.length ∧ tDS P b W N Nb Nx (j :: N) (setS j ma) D σ H) (ps_set hn hj hx' he.pe hs hf) ?_).run pins s σ H D I ⟨I.len, hq⟩
  rintro D σ H ⟨hlen, ρ, B, ow, σa, h, rh, rs, rfl, q⟩
  refine ⟨ρ, B, ow, σa, h, rh, rs, rfl, ?_⟩
  have q0 : SPost P b W Nb Nx (j :: ow.map (·.1)) ρ B ow H D ((ma σa h).toS σa fun v h1 => .nx (σa.set j (some v)) h1) := q
  cases g : ma σa h with
  | stuck => rw [g] at q0; exact q0
  | exc c x h' => rw [g] at q0; exact exc_restrict rs hx q0
  | ok av h' =>
    rw [g] at q0
    intro ρ' H' p u e rh' ov hp
    have rs' := rs.ext e
    have np : p ∉ ρ' := fun z => rh'.lvR p z hp
    have nb : ¬ B p := fun z => rh'.lvB p (.inl z) hp
    have hl' : j < σa.length := by rw [rs.len, hlen]; exact hl
    have rs2 := rs'.take hNj hl' hp np nb ov
    have no : ¬ Bo B ow p := fun z => rh'.lvB p z hp
    have rh2 : RH P ρ' (Bo B ((j, p) :: ow)) (upd H' p u) h' := by
      have r := rh'.frz (u := u) hp
      refine ⟨r.len, r.nd, fun a ha z => ?_, fun a z => ?_, fun k ob hk => ?_⟩
      · rcases z with z | z
        · exact r.out a ha (.inl z)
        · rcases List.mem_cons.mp z with z | z
          · exact np (by have z' : a = p := z; rw [← z']; exact ha)
          · exact r.out a ha (.inr z)
      · rcases z with z | z
        · exact r.lvB a (.inl z)
        · rcases List.mem_cons.mp z with z | z
          · subst z; rw [upd_same]; simp
          · exact r.lvB a (.inr z)
      · obtain ⟨a, w, h1, h2, h3⟩ := rh'.obj k ob hk
        have na : a ≠ p := fun z => np (by rw [← z]; exact List.mem_of_getElem? h1)
        have ee : ExtS true ρ' ow H' ρ' ((j, p) :: ow) (upd H' p u) := ⟨⟨[], by simp, by simp⟩, fun c o _ _ k2 => by rw [upd_ne (ne_of_none k2 hp)]; exact k2, (Ext.new (b := true) (ρ := ρ') (o := u) hp).live, fun c hc => by
          rcases List.mem_cons.mp hc with rfl | hc
          · exact .inr hp
          · exact .inl hc⟩
        refine ⟨a, w, h1, by rw [upd_ne na]; exact h2, ?_⟩
        cases ob with
        | lst xs => obtain ⟨vs, k1, k2⟩ := h3; exact ⟨vs, k1, k2.extS ee xs⟩
        | dct xs => obtain ⟨vs, k1, k2⟩ := h3; exact ⟨vs, k1, k2.extS ee xs⟩
        | ins cc fs => obtain ⟨dx, us, k1, k2⟩ := h3; exact ⟨dx, us, k1, k2.extS ee fs⟩
    have eS : ExtS b ρ ow H ρ' ((j, p) :: ow) (upd H' p u) := by
      refine ⟨e.pre, fun a o h1 _ h2 => ?_, fun a ha => ?_, fun a ha => ?_⟩
      · have h3 := e.keep a o h1 h2
        rw [upd_ne (ne_of_none h3 hp)]
        exact h3
      · exact (Ext.new (b := true) (ρ := ρ') (o := u) hp).live a (e.live a ha)
      · rcases List.mem_cons.mp ha with z1 | ha
        · right
          have z2 : a = p := z1
          subst z2
          cases z : H a with
          | none => rfl
          | some w => exact absurd hp (e.live a (by rw [z]; simp))
        · exact .inl ha
    exact q0 ρ' ((j, p) :: ow) (upd H' p u) _ eS rh2 rs2 rfl
theorem df_lst (h : DA P X b W N es (evs ms)) (hl : ms.length ≤ LIM := by decide) : DF P X b W N (.List es pos) (lstD ms) := by
  refine ⟨pe_weak (pe_lst h.pa) ?_⟩
  rintro σ H Q ⟨ρ, B, ow, σa, hh, rh, rs, hN, q⟩
  refine ⟨ρ, B, ow, σa, hh, rh, rs, hN, ?_⟩
  unfold lstD at q
  cases g : evs ms σa hh with
  | ok avs h1 =>
    rw [g] at q
    exact fun ρ1 H1 vs e1 rh1 rv1 => ⟨by rw [← rv1.len, evs_len g]; exact hl, f_lst (FPost.ext q e1) rh1 rv1⟩
  | exc c x h' => rw [g] at q; exact q
  | stuck => rw [g] at q; exact q
theorem df_dct : DF P X b W N (.Dict [] [] pos) (cD (.dct [])) := by
  refine ⟨pe_weak pe_dnewK ?_⟩
  rintro σ H Q ⟨ρ, B, ow, σa, hh, rh, rs, hN, q⟩
  exact fun p hp => q ρ H p (.dK []) (Ext.refl b ρ H) rh ⟨[], rfl, by unfold RKs; rfl⟩ hp
def V2F (P : Pm) (b : Bool) (f : AV → AV → AH → ER) (r : R2) : Prop := ∀ (W : WX) ρ B σ H av bv h x y Q, RH P ρ B H h → RVb P.K ρ B H av x → RVb P.K ρ B H bv y → FPost P b W ρ B σ H Q (f av bv h) → r x y H Q
def VNF (P : Pm) (b : Bool) (f : FV) (r : List V → Hp → VK → Prop) : Prop := ∀ (W : WX) ρ B σ H avs h xs Q, RH P ρ B H h → RVbs P.K ρ B H avs xs → FPost P b W ρ B σ H Q (f avs h) → r xs H Q
theorem df_op {op : Operator} {r : R2} {f : AV → AV → AH → ER} (ho : OpR X (binaryOp op) r) (hr : V2F P b f r) (ha : DB P X b W N a ma) (hc : DB P X b W N c mb) : DF P X b W N (.BinOp a op c pos) (bin f ma mb) := by
  refine ⟨pe_weak (pe_op ho ha.pe hc.pe) ?_⟩
  rintro σ H Q ⟨ρ, B, ow, σa, h, rh, rs, hN, q⟩
  refine ⟨ρ, B, ow, σa, h, rh, rs, hN, (FPost.bindB q).imp ?_⟩
  rintro x H1 ⟨ρ1, av, h1, e1, rh1, rv1, q1⟩
  refine ⟨ρ1, B, ow, σa, h1, rh1, rs.ext e1, hN, (FPost.bindB q1).imp ?_⟩
  rintro y H2 ⟨ρ2, bv, h2, e2, rh2, rv2, q2⟩
  exact hr W ρ2 (Bo B ow) σ H2 av bv h2 x y Q rh2 (rv1.ext e2) rv2 q2
theorem df_callTy {T : String} {f : FV} {x : Str} {p : Pos} {r : List V → Hp → VK → Prop} (hc : CallR X (.type T) r) (hv : VNF P b f r) (hg : Gl X x) (hm : X.mg x = none) (hb : bootBuiltins x = some (.type T)) (ha : DAB P X b W N (e :: es) (evs ms)) (hn : x ≠ "__name__" := by decide) (hdb : (x == ("__debug__" : Str)) = false := by decide)
    (he : starEach (e :: es) X.env = (false, eval e X.env) :: starEach es X.env := by rfl) (hpl : (backTo pos (starEach es X.env)).any (·.1) = false := by rfl) : DF P X b W N (.Call (.Name x p) (e :: es) [] pos) (callD f ms) := by
  refine ⟨pe_weak (pe_callTy hc hg hm hb ha.pa hn hdb he hpl) ?_⟩
  rintro σ H Q ⟨ρ, B, ow, σa, h, rh, rs, hN, q⟩
  refine ⟨ρ, B, ow, σa, h, rh, rs, hN, (FPost.bindL (k := f) q).imp ?_⟩
  rintro vs H1 ⟨ρ1, av, h1, e1, rh1, rv1, q1⟩
  exact hv W ρ1 (Bo B ow) σ H1 av h1 vs Q rh1 rv1 q1
theorem df_callB {id : String} {f : FV} {x : Str} {p : Pos} {r : List V → Hp → VK → Prop} (hc : CallR X (.builtin id) r) (hv : VNF P b f r) (hg : Gl X x) (hm : X.mg x = none) (hb : bootBuiltins x = some (.builtin id)) (ha : DAB P X b W N (e :: es) (evs ms)) (hn : x ≠ "__name__" := by decide) (hdb : (x == ("__debug__" : Str)) = false := by decide)
    (he : starEach (e :: es) X.env = (false, eval e X.env) :: starEach es X.env := by rfl) (hpl : (backTo pos (starEach es X.env)).any (·.1) = false := by rfl) : DF P X b W N (.Call (.Name x p) (e :: es) [] pos) (callD f ms) := by
  refine ⟨pe_weak (pe_callB hc hg hm hb ha.pa hn hdb he hpl) ?_⟩
  rintro σ H Q ⟨ρ, B, ow, σa, h, rh, rs, hN, q⟩
  refine ⟨ρ, B, ow, σa, h, rh, rs, hN, (FPost.bindL (k := f) q).imp ?_⟩
  rintro vs H1 ⟨ρ1, av, h1, e1, rh1, rv1, q1⟩
  exact hv W ρ1 (Bo B ow) σ H1 av h1 vs Q rh1 rv1 q1
theorem f_no {ρ : List Addr} {B : Addr → Prop} {σ : St} {H : Hp} {Q : VK} {h : AH} {av : AV} (q : FPost P b W ρ B σ H Q (.ok av h)) : True := trivial
theorem vf_mul : V2F P b lmulV rRep := by
  intro W ρ B σ H av bv h x y Q rh r1 r2 q
  unfold lmulV at q
  split at q
  · split at q
    · rename_i hz
      obtain ⟨a1, vs, e1, h1, g1⟩ := rv_lv rh r1 (show lv h (.lst _) = some _ from rfl)
      exact ⟨a1, _, vs, e1, rv_int r2, h1, by omega, by omega, by rw [← g1.len]; exact hz.2.1, f_lst q rh (g1.rep _)⟩
    · exact q.elim
  · exact q.elim
theorem vf_add : V2F P b laddV rCat := by
  intro W ρ B σ H av bv h x y Q rh r1 r2 q
  unfold laddV at q
  split at q
  · rename_i xs ys ex ey
    split at q
    · rename_i hz
      obtain ⟨a1, vs, e1, h1, g1⟩ := rv_lv rh r1 ex
      obtain ⟨a2, ws, e2, h2, g2⟩ := rv_lv rh r2 ey
      exact ⟨a1, a2, vs, ws, e1, e2, h1, h2, by rw [← g1.len, ← g2.len]; exact hz, f_lst q rh (g1.app g2)⟩
    · exact q.elim
  · exact q.elim
theorem vf_list : VNF P b listF (fun xs H Q => ∃ p ys, xs = [.ref p] ∧ (SqL P.K H p ys ∨ SqT P.K H p ys) ∧ ∀ l, H l = none → Q (.ref l) (upd H l (.lst ys))) := by
  intro W ρ B σ H avs h xs Q rh r q
  unfold listF at q
  split at q
  · rename_i o
    obtain ⟨v, rfl, r1⟩ := one_of r
    cases g : seqOf h o with
    | none => rw [g] at q; exact q.elim
    | some ys =>
      rw [g] at q
      obtain ⟨a1, vs, rfl, h1, g1⟩ := rv_seq rh r1 g
      exact ⟨a1, vs, rfl, h1, f_lst q rh g1⟩
  · exact q.elim
end
end D
end

section
namespace D
open PySem L2

def Yld (K : PySem.W.Frag) (ρ : List Addr) (B : Addr → Prop) (H1 H2 : Hp) (y : AV) (x : V) (H3 : Hp) : Prop :=
  (H3 = H2 ∧ RV K ρ B H1 y x) ∨ (∃ T ys vs, y = .tup ys ∧ x = .ref T ∧ H2 T = none ∧ H3 = upd H2 T (.tup vs) ∧ RVs K ρ B H1 ys vs)
/-- J goes over xs as long as the places of S stay as they are -/
def ItOk (K : PySem.W.Frag) (ρ : List Addr) (B : Addr → Prop) (H1 : Hp) (S : Addr → Prop) (J : It) (xs : List AV) : Prop :=
  ∀ H2, (∀ a, S a → H2 a = H1 a) → ∀ i : Nat, (xs.length ≤ i → J.stop i H2) ∧ ∀ y, xs[i]? = some y → J.go i H2 ∧ ∀ x H3, J.yld i H2 x H3 → Yld K ρ B H1 H2 y x H3
/-- c: within an expression (what names own stays), else over statements -/
def SOk (c b : Bool) (ρ : List Addr) (B : Addr → Prop) (ow : List (Nat × Addr)) (H : Hp) (S : Addr → Prop) : Prop :=
  ∀ a, S a → H a ≠ none ∧ (if c = true then b = true ∨ a ∉ ρ else a ∉ ρ ∧ ¬ Bo B ow a)
def IPost (P : Pm) (c b : Bool) (W : WX) (ρ : List Addr) (B : Addr → Prop) (ow : List (Nat × Addr)) (σ : St) (H : Hp) (R : It → Hp → Prop) : LR → Prop
  | .ok xs h' => ∀ ρ' H' J S, Ext b ρ H ρ' H' → RH P ρ' (Bo B ow) H' h' → ItOk P.K ρ' (Bo B ow) H' S J xs → SOk c b ρ' B ow H' S → R J H'
  | .exc cc f h' => ∀ ρ' H' d, Ext b ρ H ρ' H' → RH P ρ' (Bo B ow) H' h' → RX P.K ρ' (Bo B ow) H' f d → W (P.ex cc) d σ H'
  | .stuck => False
def tDI (P : Pm) (c b : Bool) (W : WX) (N : List Nat) (m : LV) : TI := fun σ H R =>
  ∃ ρ B ow σa h, RH P ρ (Bo B ow) H h ∧ RS P ρ B ow H σa σ ∧ ow.map (·.1) = N ∧ IPost P c b W ρ B ow σ H R (m σa h)
structure DI (P : Pm) (X : Cx) (c b : Bool) (W : WX) (N : List Nat) (tg e : Expr) (m : LV) : Prop where
  pi : PI X tg e (tDI P c b W N m)
theorem pi_weak {X : Cx} {tg e : Expr} {t t' : TI} (h : PI X tg e t) (w : ∀ σ H R, t' σ H R → t σ H R) : PI X tg e t' := ⟨fun pins s σ H R I q => h.run pins s σ H R I (w σ H R q)⟩

section
variable {P : Pm} {X : Cx} {c b : Bool} {W : WX} {N : List Nat} {tg e a d : Expr} {es : List Expr} {pos : Pos} {ma mb : EV} {ms : List EV} {m : LV}
theorem rd_eq {H1 H2 : Hp} {p : Addr} {u : HO} (h : Rd H1 p u) (e : H2 p = H1 p) : Rd H2 p u := by
  rcases h with h | ⟨o, h⟩
  · exact .inl (e.trans h)
  · exact .inr ⟨o, e.trans h⟩
/-- the library's walks over a list, a tuple, a text, a range -/
theorem itl_ok {ρ : List Addr} {B : Addr → Prop} {H1 : Hp} {K : PySem.W.Frag} {p : Addr} {xs : List AV} {vs : List V} {S : Addr → Prop} (hq : ∀ H2, (∀ a, S a → H2 a = H1 a) → SqL K H2 p vs) (hv : RVs P.K ρ B H1 xs vs) : ItOk P.K ρ B H1 S (Itl K p) xs := by
  intro H2 hS i
  have q := hq H2 hS
  refine ⟨fun hi => ⟨vs, q, by rw [← hv.len]; exact hi⟩, fun y hy => ?_⟩
  obtain ⟨v, h1, h2⟩ := hv.get hy
  refine ⟨⟨vs, v, q, h1⟩, fun x H3 hz => ?_⟩
  obtain ⟨rfl, g⟩ := hz
  have g' := g vs q
  rw [h1] at g'
  cases g'
  exact .inl ⟨rfl, h2⟩
theorem itt_ok {ρ : List Addr} {B : Addr → Prop} {H1 : Hp} {K : PySem.W.Frag} {p : Addr} {xs : List AV} {vs : List V} {S : Addr → Prop} (hq : ∀ H2, (∀ a, S a → H2 a = H1 a) → SqT K H2 p vs) (hv : RVs P.K ρ B H1 xs vs) : ItOk P.K ρ B H1 S (Itt K p) xs := by
  intro H2 hS i
  have q := hq H2 hS
  refine ⟨fun hi => ⟨vs, q, by rw [← hv.len]; exact hi⟩, fun y hy => ?_⟩
  obtain ⟨v, h1, h2⟩ := hv.get hy
  refine ⟨⟨vs, v, q, h1⟩, fun x H3 hz => ?_⟩
  obtain ⟨rfl, g⟩ := hz
  have g' := g vs q
  rw [h1] at g'
  cases g'
  exact .inl ⟨rfl, h2⟩
theorem its_ok {ρ : List Addr} {B : Addr → Prop} {H1 : Hp} {s : Str} : ItOk P.K ρ B H1 (fun _ => False) (Its s) (s.cps.toList.map fun k => AV.str ⟨#[k]⟩) := by
  intro H2 hS i
  refine ⟨fun hi => (by show s.cps.size ≤ i; simpa using hi), fun y hy => ?_⟩
  rw [List.getElem?_map] at hy
  obtain ⟨k, h1, rfl⟩ := Option.map_eq_some_iff.mp hy
  refine ⟨(by show i < s.cps.size; simpa using (List.getElem?_eq_some_iff.mp h1).1), fun x H3 hz => ?_⟩
  obtain ⟨rfl, k', g, rfl⟩ := hz
  rw [Array.getElem?_toList] at h1
  rw [h1] at g
  cases g
  exact .inl ⟨rfl, mk_str⟩
theorem itr_ok {ρ : List Addr} {B : Addr → Prop} {H1 : Hp} {lo : Int} {n : Nat} : ItOk P.K ρ B H1 (fun _ => False) (Itr lo n) (rangeL lo n) := by
  intro H2 hS i
  refine ⟨fun hi => (by show n ≤ i; simpa [rangeL] using hi), fun y hy => ?_⟩
  unfold rangeL at hy
  rw [List.getElem?_map] at hy
  obtain ⟨k, h1, rfl⟩ := Option.map_eq_some_iff.mp hy
  obtain ⟨h2, h3⟩ := List.getElem?_eq_some_iff.mp h1
  rw [List.getElem_range] at h3
  subst h3
  refine ⟨(by show i < n; simpa using h2), fun x H3 hz => ?_⟩
  obtain ⟨rfl, rfl⟩ := hz
  exact .inl ⟨rfl, mk_int⟩
theorem itc_ok {ρ : List Addr} {B : Addr → Prop} {H1 : Hp} {lo : Int} {n : Nat} : ItOk P.K ρ B H1 (fun _ => False) (Itc lo (-1) n) ((List.range n).map fun k => AV.int (lo - (k : Nat))) := by
  intro H2 hS i
  refine ⟨fun hi => (by show n ≤ i; simpa using hi), fun y hy => ?_⟩
  rw [List.getElem?_map] at hy
  obtain ⟨k, h1, rfl⟩ := Option.map_eq_some_iff.mp hy
  obtain ⟨h2, h3⟩ := List.getElem?_eq_some_iff.mp h1
  rw [List.getElem_range] at h3
  subst h3
  refine ⟨(by show i < n; simpa using h2), fun x H3 hz => ?_⟩
  obtain ⟨rfl, rfl⟩ := hz
  refine .inl ⟨rfl, ?_⟩
  have e : lo + (i : Int) * -1 = lo - i := by omega
  rw [e]
  exact mk_int
/-- for over a list, a tuple, a text, whichever comes -/
def iSq (K : PySem.W.Frag) (te : TE) : TI := fun σ H R => te σ H fun x H1 =>
  (∃ p vs, x = .ref p ∧ SqL K H1 p vs ∧ R (Itl K p) H1) ∨ (∃ p vs, x = .ref p ∧ SqT K H1 p vs ∧ R (Itt K p) H1) ∨ ∃ z, x = .str z ∧ R (Its z) H1
theorem pi_sq {te : TE} (he : PE X e te) : PI X tg e (iSq X.K te) := by
  refine ⟨fun pl s0 σ0 H0 R0 I0 h0 => thn (he.run pl s0 σ0 H0 _ I0 h0) fun u s1 hu => ?_⟩
  obtain ⟨x, H1, I1, r1, hx⟩ := hu
  rcases hx with ⟨p, vs, rfl, hq, q⟩ | ⟨p, vs, rfl, hq, q⟩ | ⟨z, rfl, q⟩
  · cases r1
    obtain ⟨its, _, pl1, _⟩ := I1.list hq
    exact wpAny_pyIter_list pl1.isList (pi_one (tk := s1.toks) I1 _ (turn_list p _) ⟨_, Heap.get?_push_size _ rfl, rfl, rfl⟩ q)
  · cases r1
    obtain ⟨its, _, pl1, _⟩ := I1.tuple hq
    exact wpAny_pyIter_tuple pl1 (pi_one (tk := s1.toks) I1 _ (turn_tuple p _) ⟨_, Heap.get?_push_size _ rfl, rfl, rfl⟩ q)
  · obtain ⟨t, rfl⟩ := r1
    by_cases hw : z.cps.all (· < 128) = true
    · exact wpAny_pyIter_ascii hw (pi_one (tk := s1.toks) I1 _ (turn_str _ z t _ (.inl rfl)) ⟨_, Heap.get?_push_size _ rfl, rfl, rfl⟩ q)
    · have hw' : z.cps.all (· < 128) = false := by simpa using hw
      exact wpAny_pyIter_wide hw' (pi_one (tk := s1.toks) I1 _ (turn_str _ z t _ (.inr rfl)) ⟨_, Heap.get?_push_size _ rfl, rfl, rfl⟩ q)
theorem IPost.bindB {ρ : List Addr} {B : Addr → Prop} {ow : List (Nat × Addr)} {σ : St} {H : Hp} {R : It → Hp → Prop} {r : ER} {k : AV → AH → LR} (h : IPost P c b W ρ B ow σ H R (r.bindL k)) :
    EPostB P b W ρ (Bo B ow) σ H (fun v H1 => ∃ ρ1 av h1, Ext b ρ H ρ1 H1 ∧ RH P ρ1 (Bo B ow) H1 h1 ∧ RVb P.K ρ1 (Bo B ow) H1 av v ∧ IPost P c b W ρ B ow σ H R (k av h1)) r := by
  cases r with
  | ok av h' => exact fun ρ' H' v e rh rv => ⟨ρ', av, h', e, rh, rv, h⟩
  | exc c x h' => exact h
  | stuck => exact h
theorem IPost.bindE {ρ : List Addr} {B : Addr → Prop} {ow : List (Nat × Addr)} {σ : St} {H : Hp} {R : It → Hp → Prop} {r : ER} {k : AV → AH → LR} (h : IPost P c b W ρ B ow σ H R (r.bindL k)) :
    EPost P b W ρ (Bo B ow) σ H (fun v H1 => ∃ ρ1 av h1, Ext b ρ H ρ1 H1 ∧ RH P ρ1 (Bo B ow) H1 h1 ∧ RV P.K ρ1 (Bo B ow) H1 av v ∧ IPost P c b W ρ B ow σ H R (k av h1)) r := by
  cases r with
  | ok av h' => exact fun ρ' H' v e rh rv => ⟨ρ', av, h', e, rh, rv, h⟩
  | exc c x h' => exact h
  | stuck => exact h
theorem optL_ok {ρ : List Addr} {B : Addr → Prop} {ow : List (Nat × Addr)} {σ : St} {H : Hp} {R : It → Hp → Prop} {o : Option (List AV)} {h : AH} (q : IPost P c b W ρ B ow σ H R (optL o h)) : ∃ w, o = some w ∧ IPost P c b W ρ B ow σ H R (.ok w h) := by
  cases o with
  | none => exact q.elim
  | some w => exact ⟨w, rfl, q⟩
theorem rd_S {H1 H2 : Hp} {p : Addr} (h : ∀ a, (a = p) → H2 a = H1 a) : H2 p = H1 p := h p rfl
/-- a sequence that is read: where it stands, what its walk hangs on -/
theorem seq_at {ρ : List Addr} {B : Addr → Prop} {ow : List (Nat × Addr)} {H : Hp} {h : AH} {av : AV} {xs : List AV} {v : V} (rh : RH P ρ (Bo B ow) H h) (hK : P.K = X.K) (r : if c = true then RVb P.K ρ (Bo B ow) H av v else RV P.K ρ (Bo B ow) H av v) (e : iterV av = some xs) :
    ∃ J S, ItOk P.K ρ (Bo B ow) H S J xs ∧ SOk c b ρ B ow H S ∧ ((∃ p vs, v = .ref p ∧ SqL X.K H p vs ∧ J = Itl X.K p) ∨ (∃ p vs, v = .ref p ∧ SqT X.K H p vs ∧ J = Itt X.K p) ∨ ∃ z, v = .str z ∧ J = Its z) := by
  have rb : RVb P.K ρ (Bo B ow) H av v := by
    split at r
    · exact r
    · exact .inl r
  have ok1 : ∀ p, p ∉ ρ → H p ≠ none → (c = false → ¬ Bo B ow p) → SOk c b ρ B ow H (fun a => a = p) := fun p h1 h2 h3 a ha => by
    have ha' : a = p := ha
    subst ha'
    refine ⟨h2, ?_⟩
    split
    · exact .inr h1
    · rename_i hc
      exact ⟨h1, h3 (by simpa using hc)⟩
  have ok0 : SOk c b ρ B ow H (fun _ => False) := fun a ha => ha.elim
  cases av with
  | tup ys =>
    cases e
    rcases rb with r | ⟨_, _, _, _, _, r⟩
    case inr => exact r.elim
    unfold RV at r
    obtain ⟨p, vs, rfl, h1, h2⟩ := r
    rcases h1 with ⟨g1, g2, g3⟩ | h1
    · refine ⟨Itt X.K p, fun a => a = p, itt_ok (fun H2 hS => ?_) h2, ok1 p g1 (rd_ne g3) fun _ => g2, .inr (.inl ⟨p, vs, rfl, ?_, rfl⟩)⟩
      · exact .inl (rd_eq g3 (rd_S hS))
      · exact .inl g3
    · refine ⟨Itt X.K p, fun _ => False, itt_ok (fun H2 hS => ?_) h2, ok0, .inr (.inl ⟨p, vs, rfl, ?_, rfl⟩)⟩
      · exact .inr (hK ▸ h1)
      · exact .inr (hK ▸ h1)
  | str s =>
    cases e
    exact ⟨Its s, fun _ => False, its_ok, ok0, .inr (.inr ⟨s, rv_str rb, rfl⟩)⟩
  | lst ys =>
    cases e
    rcases rb with r' | ⟨p, u, rfl, h1, h2, u', rfl, h3⟩
    · unfold RV at r'
      obtain ⟨p, vs, rfl, g1, g2, g3, g4⟩ := r'
      exact ⟨Itl X.K p, fun a => a = p, itl_ok (fun H2 hS => .inl (.inl ((rd_S hS).trans g3))) g4, ok1 p g1 (by rw [g3]; simp) fun _ => g2, .inl ⟨p, vs, rfl, .inl (.inl g3), rfl⟩⟩
    · by_cases hc : c = true
      · exact ⟨Itl X.K p, fun a => a = p, itl_ok (fun H2 hS => .inl (.inl ((rd_S hS).trans h2))) h3, ok1 p h1 (by rw [h2]; simp) (fun z => by rw [hc] at z; cases z), .inl ⟨p, u', rfl, .inl (.inl h2), rfl⟩⟩
      · rw [if_neg hc] at r
        unfold RV at r
        obtain ⟨p', vs, e1, g1, g2, g3, g4⟩ := r
        cases e1
        exact ⟨Itl X.K p, fun a => a = p, itl_ok (fun H2 hS => .inl (.inl ((rd_S hS).trans g3))) g4, ok1 p g1 (by rw [g3]; simp) fun _ => g2, .inl ⟨p, vs, rfl, .inl (.inl g3), rfl⟩⟩
  | ro ys =>
    cases e
    rcases rb with r | ⟨_, _, _, _, _, r⟩
    case inr => exact r.elim
    unfold RV at r
    obtain ⟨p, vs, rfl, h1, h2⟩ := r
    rcases h1 with ⟨g1, g2, g3⟩ | h1
    · exact ⟨Itl X.K p, fun a => a = p, itl_ok (fun H2 hS => .inl (rd_eq g3 (rd_S hS))) h2, ok1 p g1 (rd_ne g3) fun _ => g2, .inl ⟨p, vs, rfl, .inl g3, rfl⟩⟩
    · exact ⟨Itl X.K p, fun _ => False, itl_ok (fun H2 hS => .inr (hK ▸ h1)) h2, ok0, .inl ⟨p, vs, rfl, .inr (hK ▸ h1), rfl⟩⟩
  | non => cases e
  | bl _ => cases e
  | int _ => cases e
  | dct _ => cases e
  | ref _ => cases e
/-- for x in e, in a comprehension -/
theorem di_sqC (hK : P.K = X.K) (he : DB P X b W N e ma) : DI P X true b W N tg e (itD ma) := by
  refine ⟨pi_weak (pi_sq he.pe) ?_⟩
  rintro σ H R ⟨ρ, B, ow, σa, h, rh, rs, hN, q⟩
  refine ⟨ρ, B, ow, σa, h, rh, rs, hN, (IPost.bindB q).imp ?_⟩
  rintro v H1 ⟨ρ1, av, h1, e1, rh1, rv1, q1⟩
  obtain ⟨xs, ex, q2⟩ := optL_ok q1
  obtain ⟨J, S, hi, hs, hv⟩ := seq_at (X := X) (c := true) (b := b) rh1 hK (by rw [if_pos rfl]; exact rv1) ex
  have q3 := q2 ρ1 H1 J S e1 rh1 hi hs
  rcases hv with ⟨p, vs, h1, h2, rfl⟩ | ⟨p, vs, h1, h2, rfl⟩ | ⟨z, h1, rfl⟩
  · exact .inl ⟨p, vs, h1, h2, q3⟩
  · exact .inr (.inl ⟨p, vs, h1, h2, q3⟩)
  · exact .inr (.inr ⟨z, h1, q3⟩)
/-- .. in a statement -/
theorem di_sq (hK : P.K = X.K) (he : DE P X b W N e ma) : DI P X false b W N tg e (itD ma) := by
  refine ⟨pi_weak (pi_sq he.pe) ?_⟩
  rintro σ H R ⟨ρ, B, ow, σa, h, rh, rs, hN, q⟩
  refine ⟨ρ, B, ow, σa, h, rh, rs, hN, (IPost.bindE q).imp ?_⟩
  rintro v H1 ⟨ρ1, av, h1, e1, rh1, rv1, q1⟩
  obtain ⟨xs, ex, q2⟩ := optL_ok q1
  obtain ⟨J, S, hi, hs, hv⟩ := seq_at (X := X) (c := false) (b := b) rh1 hK (by rw [if_neg (by decide)]; exact rv1) ex
  have q3 := q2 ρ1 H1 J S e1 rh1 hi hs
  rcases hv with ⟨p, vs, h1, h2, rfl⟩ | ⟨p, vs, h1, h2, rfl⟩ | ⟨z, h1, rfl⟩
  · exact .inl ⟨p, vs, h1, h2, q3⟩
  · exact .inr (.inl ⟨p, vs, h1, h2, q3⟩)
  · exact .inr (.inr ⟨z, h1, q3⟩)
/-- ranges -/
theorem IPost.bindL {ρ : List Addr} {B : Addr → Prop} {ow : List (Nat × Addr)} {σ : St} {H : Hp} {R : It → Hp → Prop} {r : LR} {k : List AV → AH → LR} (h : IPost P c b W ρ B ow σ H R (r.bindL k)) :
    LPostB P b W ρ (Bo B ow) σ H (fun v H1 => ∃ ρ1 av h1, Ext b ρ H ρ1 H1 ∧ RH P ρ1 (Bo B ow) H1 h1 ∧ RVbs P.K ρ1 (Bo B ow) H1 av v ∧ IPost P c b W ρ B ow σ H R (k av h1)) r := by
  cases r with
  | ok av h' => exact fun ρ' H' v e rh rv => ⟨ρ', av, h', e, rh, rv, h⟩
  | exc c x h' => exact h
  | stuck => exact h
theorem s0 {ρ : List Addr} {B : Addr → Prop} {ow : List (Nat × Addr)} {H : Hp} : SOk c b ρ B ow H (fun _ => False) := fun a ha => ha.elim
theorem b62 {i : Int} (h : B62 i = true) : -(2 ^ 62) ≤ i ∧ i < 2 ^ 62 := by
  unfold B62 at h
  simp only [Bool.and_eq_true, decide_eq_true_eq] at h
  exact h
theorem di_range1 {p : Pos} (hg : Gl X "range") (hm : X.mg "range" = none) (ha : DAB P X b W N [a] (evs ms)) (hs : starEach [a] X.env = [(false, eval a X.env)] := by rfl) : DI P X c b W N tg (.Call (.Name "range" p) [a] [] pos) (rangeD range1F ms) := by
  refine ⟨pi_weak (pi_range1 hg hm ha.pa hs) ?_⟩
  rintro σ H R ⟨ρ, B, ow, σa, h, rh, rs, hN, q⟩
  refine ⟨ρ, B, ow, σa, h, rh, rs, hN, (IPost.bindL (r := evs ms σa h) (k := fun vs h1 => optL (range1F vs) h1) q).imp ?_⟩
  rintro vs H1 ⟨ρ1, av, h1, e1, rh1, rv1, q1⟩
  obtain ⟨xs, ex, q2⟩ := optL_ok q1
  unfold range1F at ex
  split at ex
  · split at ex
    · rename_i hb
      cases ex
      obtain ⟨v, rfl, g⟩ := one_of rv1
      obtain ⟨h3, h4⟩ := b62 hb
      exact ⟨_, by rw [rv_int g], h3, h4, q2 ρ1 H1 _ _ e1 rh1 itr_ok s0⟩
    · cases ex
  · cases ex
theorem di_range2 {a2 : Expr} {p : Pos} (hg : Gl X "range") (hm : X.mg "range" = none) (ha : DAB P X b W N [a, a2] (evs ms)) (hs : starEach [a, a2] X.env = [(false, eval a X.env), (false, eval a2 X.env)] := by rfl) (hs2 : starEach [a2] X.env = [(false, eval a2 X.env)] := by rfl) : DI P X c b W N tg (.Call (.Name "range" p) [a, a2] [] pos) (rangeD range2F ms) := by
  refine ⟨pi_weak (pi_range2 hg hm ha.pa hs hs2) ?_⟩
  rintro σ H R ⟨ρ, B, ow, σa, h, rh, rs, hN, q⟩
  refine ⟨ρ, B, ow, σa, h, rh, rs, hN, (IPost.bindL (r := evs ms σa h) (k := fun vs h1 => optL (range2F vs) h1) q).imp ?_⟩
  rintro vs H1 ⟨ρ1, av, h1, e1, rh1, rv1, q1⟩
  obtain ⟨xs, ex, q2⟩ := optL_ok q1
  unfold range2F at ex
  split at ex
  · split at ex
    · rename_i hb
      cases ex
      rw [Bool.and_eq_true] at hb
      obtain ⟨v, w, rfl, g1, g2⟩ := two_of rv1
      obtain ⟨h3, h4⟩ := b62 hb.1
      obtain ⟨h5, h6⟩ := b62 hb.2
      exact ⟨_, _, by rw [rv_int g1, rv_int g2], ⟨h3, h4, h5, h6⟩, q2 ρ1 H1 _ _ e1 rh1 itr_ok s0⟩
    · cases ex
  · cases ex
theorem di_range3 {a2 a3 : Expr} {p : Pos} (hg : Gl X "range") (hm : X.mg "range" = none) (ha : DAB P X b W N [a, a2, a3] (evs ms)) (hs : starEach [a, a2, a3] X.env = (false, eval a X.env) :: starEach [a2, a3] X.env := by rfl) (hpl : (backTo pos (starEach [a2, a3] X.env)).any (·.1) = false := by rfl) :
    DI P X c b W N tg (.Call (.Name "range" p) [a, a2, a3] [] pos) (rangeD range3F ms) := by
  refine ⟨pi_weak (pi_range3 hg hm ha.pa hs hpl) ?_⟩
  rintro σ H R ⟨ρ, B, ow, σa, h, rh, rs, hN, q⟩
  refine ⟨ρ, B, ow, σa, h, rh, rs, hN, (IPost.bindL (r := evs ms σa h) (k := fun vs h1 => optL (range3F vs) h1) q).imp ?_⟩
  rintro vs H1 ⟨ρ1, av, h1, e1, rh1, rv1, q1⟩
  obtain ⟨xs, ex, q2⟩ := optL_ok q1
  unfold range3F at ex
  split at ex
  · split at ex
    · rename_i hb
      cases ex
      rw [Bool.and_eq_true, Bool.and_eq_true] at hb
      obtain ⟨v, t, rfl, g1, w, t2, rfl, g2, z, t3, rfl, g3, rfl⟩ := rv1
      obtain ⟨h3, h4⟩ := b62 hb.1.1
      obtain ⟨h5, h6⟩ := b62 hb.1.2
      have hk := beq_iff_eq.mp hb.2
      subst hk
      exact ⟨_, _, _, _, by rw [rv_int g1, rv_int g2, rv_int g3], RgC.neg h3 h4 h5 h6, q2 ρ1 H1 _ _ e1 rh1 itc_ok s0⟩
    · cases ex
  · cases ex
/-- enumerate of a frozen list -/
theorem frzL_at {ρ : List Addr} {B : Addr → Prop} {ow : List (Nat × Addr)} {H : Hp} {av : AV} {xs : List AV} {v : V} (hK : P.K = X.K) (r : if c = true then RVb P.K ρ (Bo B ow) H av v else RV P.K ρ (Bo B ow) H av v) (e : frzL av = some xs) :
    ∃ p vs S, v = .ref p ∧ (∀ H2, (∀ a, S a → H2 a = H a) → SqL X.K H2 p vs) ∧ RVs P.K ρ (Bo B ow) H xs vs ∧ SOk c b ρ B ow H S := by
  have rb : RVb P.K ρ (Bo B ow) H av v := by
    split at r
    · exact r
    · exact .inl r
  have ok1 : ∀ p, p ∉ ρ → H p ≠ none → (c = false → ¬ Bo B ow p) → SOk c b ρ B ow H (fun a => a = p) := fun p h1 h2 h3 a ha => by
    have ha' : a = p := ha
    subst ha'
    refine ⟨h2, ?_⟩
    split
    · exact .inr h1
    · rename_i hc
      exact ⟨h1, h3 (by simpa using hc)⟩
  cases av with
  | lst ys =>
    cases e
    rcases rb with r' | ⟨p, u, rfl, h1, h2, u', rfl, h3⟩
    · unfold RV at r'
      obtain ⟨p, vs, rfl, g1, g2, g3, g4⟩ := r'
      exact ⟨p, vs, fun a => a = p, rfl, fun H2 hS => .inl (.inl ((rd_S hS).trans g3)), g4, ok1 p g1 (by rw [g3]; simp) fun _ => g2⟩
    · by_cases hc : c = true
      · exact ⟨p, u', fun a => a = p, rfl, fun H2 hS => .inl (.inl ((rd_S hS).trans h2)), h3, ok1 p h1 (by rw [h2]; simp) (fun z => by rw [hc] at z; cases z)⟩
      · rw [if_neg hc] at r
        unfold RV at r
        obtain ⟨p', vs, e1, g1, g2, g3, g4⟩ := r
        cases e1
        exact ⟨p, vs, fun a => a = p, rfl, fun H2 hS => .inl (.inl ((rd_S hS).trans g3)), g4, ok1 p g1 (by rw [g3]; simp) fun _ => g2⟩
  | ro ys =>
    cases e
    rcases rb with r | ⟨_, _, _, _, _, r⟩
    case inr => exact r.elim
    unfold RV at r
    obtain ⟨p, vs, rfl, h1, h2⟩ := r
    rcases h1 with ⟨g1, g2, g3⟩ | h1
    · exact ⟨p, vs, fun a => a = p, rfl, fun H2 hS => .inl (rd_eq g3 (rd_S hS)), h2, ok1 p g1 (rd_ne g3) fun _ => g2⟩
    · exact ⟨p, vs, fun _ => False, rfl, fun H2 hS => .inr (hK ▸ h1), h2, s0⟩
  | non => cases e
  | bl _ => cases e
  | int _ => cases e
  | str _ => cases e
  | tup _ => cases e
  | dct _ => cases e
  | ref _ => cases e
theorem ite_ok {ρ : List Addr} {B : Addr → Prop} {H1 : Hp} {K : PySem.W.Frag} {p : Addr} {xs : List AV} {vs : List V} {S : Addr → Prop} (hq : ∀ H2, (∀ a, S a → H2 a = H1 a) → SqL K H2 p vs) (hv : RVs P.K ρ B H1 xs vs) : ItOk P.K ρ B H1 S (Ite K p) (enumL xs) := by
  intro H2 hS i
  have q := hq H2 hS
  refine ⟨fun hi => ⟨vs, q, by rw [← hv.len]; simpa [enumL] using hi⟩, fun y hy => ?_⟩
  unfold enumL at hy
  rw [List.getElem?_map] at hy
  obtain ⟨pr, h1, rfl⟩ := Option.map_eq_some_iff.mp hy
  obtain ⟨x, k⟩ := pr
  obtain ⟨h2, h3⟩ := List.getElem?_eq_some_iff.mp h1
  have h4 : xs[i]? = some x ∧ k = i := by
    rw [List.getElem_zipIdx] at h3
    cases h3
    exact ⟨List.getElem?_eq_getElem _, by omega⟩
  obtain ⟨h4, rfl⟩ := h4
  obtain ⟨v, h5, h6⟩ := hv.get h4
  refine ⟨⟨vs, v, q, h5⟩, fun z H3 hz => ?_⟩
  obtain ⟨T, w, rfl, hT, rfl, g⟩ := hz
  have g' := g vs q
  rw [h5] at g'
  cases g'
  exact .inr ⟨T, _, _, rfl, rfl, hT, rfl, .cons mk_int (.cons h6 .nil)⟩
theorem di_enum {p tpos : Pos} {elts : List Expr} {kk : Nat} (hK : P.K = X.K) (hg : Gl X "enumerate") (hm : X.mg "enumerate" = none) (he : DE P X b W N e ma) (hs : starEach [e] X.env = [(false, eval e X.env)] := by rfl) (hs1 : starEach (e :: []) X.env = (false, eval e X.env) :: starEach [] X.env := by rfl) :
    DI P X false b W N (.Tuple elts kk tpos) (.Call (.Name "enumerate" p) [e] [] pos) (enumD ma) := by
  refine ⟨pi_weak (pi_enum hg hm (pa_cons he.pe pa_nil hs1) hs) ?_⟩
  rintro σ H R ⟨ρ, B, ow, σa, h, rh, rs, hN, q⟩
  refine ⟨ρ, B, ow, σa, h, rh, rs, hN, (IPost.bindE q).imp ?_⟩
  rintro v H1 ⟨ρ1, av, h1, e1, rh1, rv1, q1⟩
  obtain ⟨xs, ex, q2⟩ := optL_ok q1
  obtain ⟨ys, ey, rfl⟩ := Option.map_eq_some_iff.mp ex
  obtain ⟨p1, vs, S, rfl, hq, hv, hs⟩ := frzL_at (c := false) (b := b) (X := X) (P := P) hK (by rw [if_neg (by decide)]; exact rv1) ey
  exact ⟨p1, vs, rfl, hq H1 fun _ _ => rfl, q2 ρ1 H1 _ S e1 rh1 (ite_ok hq hv) hs⟩
theorem di_enumC {p tpos : Pos} {elts : List Expr} {kk : Nat} (hK : P.K = X.K) (hg : Gl X "enumerate") (hm : X.mg "enumerate" = none) (he : DB P X b W N e ma) (hs : starEach [e] X.env = [(false, eval e X.env)] := by rfl) (hs1 : starEach (e :: []) X.env = (false, eval e X.env) :: starEach [] X.env := by rfl) :
    DI P X true b W N (.Tuple elts kk tpos) (.Call (.Name "enumerate" p) [e] [] pos) (enumD ma) := by
  refine ⟨pi_weak (pi_enum hg hm (pa_cons he.pe pa_nil hs1) hs) ?_⟩
  rintro σ H R ⟨ρ, B, ow, σa, h, rh, rs, hN, q⟩
  refine ⟨ρ, B, ow, σa, h, rh, rs, hN, (IPost.bindB q).imp ?_⟩
  rintro v H1 ⟨ρ1, av, h1, e1, rh1, rv1, q1⟩
  obtain ⟨xs, ex, q2⟩ := optL_ok q1
  obtain ⟨ys, ey, rfl⟩ := Option.map_eq_some_iff.mp ex
  obtain ⟨p1, vs, S, rfl, hq, hv, hs⟩ := frzL_at (c := true) (b := b) (X := X) (P := P) hK (by rw [if_pos rfl]; exact rv1) ey
  exact ⟨p1, vs, rfl, hq H1 fun _ _ => rfl, q2 ρ1 H1 _ S e1 rh1 (ite_ok hq hv) hs⟩
end

theorem wipe_set {σ : St} {i : Nat} {x : Option V} : ∀ {vs : List Nat}, i ∈ vs → wipe (σ.set i x) vs = wipe σ vs
  | [], h => by cases h
  | v :: vs, h => by
    have key : ∀ vs : List Nat, i ∉ vs → wipe (σ.set i x) vs = (wipe σ vs).set i x := fun vs => by
      induction vs with
      | nil => intro _; rfl
      | cons w ws ih =>
        intro h
        have hw : w ≠ i := fun z => h (by rw [z]; exact List.mem_cons_self)
        show (wipe (σ.set i x) ws).set w none = ((wipe σ ws).set w none).set i x
        rw [ih (fun z => h (List.mem_cons_of_mem _ z)), List.set_comm _ _ hw.symm]
    show (wipe (σ.set i x) vs).set v none = (wipe σ vs).set v none
    by_cases hv : i ∈ vs
    · rw [wipe_set hv]
    · have : i = v := by
        rcases List.mem_cons.mp h with h | h
        · exact h
        · exact absurd h hv
      subst this
      rw [key vs hv, List.set_set]
/-- vs: the slots that the target may change -/
def tDG (P : Pm) (N vs : List Nat) (t : TGT) : TG := fun v σ H Q =>
  ∃ ρ B ow σa av h, RH P ρ (Bo B ow) H h ∧ RS P ρ B ow H σa σ ∧ ow.map (·.1) = N ∧ RV P.K ρ (Bo B ow) H av v ∧
    match t av σa with
    | some σa' => ∀ σ', RS P ρ B ow H σa' σ' → wipe σ' vs = wipe σ vs → Q σ' H
    | none => False
def tDGs (P : Pm) (N vs : List Nat) (ts : List TGT) : TGs := fun us σ H Q =>
  ∃ ρ B ow σa avs h, RH P ρ (Bo B ow) H h ∧ RS P ρ B ow H σa σ ∧ ow.map (·.1) = N ∧ RVs P.K ρ (Bo B ow) H avs us ∧
    match tupTs ts avs σa with
    | some σa' => ∀ σ', RS P ρ B ow H σa' σ' → wipe σ' vs = wipe σ vs → Q σ' H
    | none => False
structure DG (P : Pm) (X : Cx) (N vs : List Nat) (tg : Expr) (t : TGT) : Prop where
  pg : PG X tg (tDG P N vs t)
structure DGs (P : Pm) (X : Cx) (N vs : List Nat) (tgs : List Expr) (ts : List TGT) : Prop where
  pg : PGs X tgs (tDGs P N vs ts)
section
variable {P : Pm} {X : Cx} {N vs : List Nat} {pos : Pos} {tg : Expr} {tgs : List Expr} {t : TGT} {ts : List TGT}
theorem pg_weak {g g' : TG} (h : PG X tg g) (w : ∀ v σ H Q, g' v σ H Q → g v σ H Q) : PG X tg g' := ⟨fun pins s σ H v u Q I r q => h.run pins s σ H v u Q I r (w v σ H Q q)⟩
theorem pgs_weak {g g' : TGs} (h : PGs X tgs g) (w : ∀ v σ H Q, g' v σ H Q → g v σ H Q) : PGs X tgs g' := ⟨fun pins s σ H v u Q I r q => h.run pins s σ H v u Q I r (w v σ H Q q)⟩
theorem dg_name (i : Nat) {x : Str} (hN : X.N.Nodup) (hi : X.N[i]? = some x := by rfl) (hx : L2.Loc X.env.scope x := by first | exact Or.inl rfl | exact Or.inr rfl) (hn : i ∉ N := by decide) (hv : i ∈ vs := by decide) (hf : X.fn x = true ∨ X.env.scope.names.lookup x = some .local := by first | exact .inl rfl | exact .inr rfl | assumption) : DG P X N vs (.Name x pos) (nameT i) := by
  refine ⟨pg_weak (pg_name hN hi hx hf) ?_⟩
  rintro v σ H Q ⟨ρ, B, ow, σa, av, h, rh, rs, rfl, rv, q⟩
  exact q _ (rs.set hn rv) (wipe_set hv)
theorem dgs_nil : DGs P X N vs [] [] := by
  refine ⟨pgs_weak pgs_nil ?_⟩
  rintro us σ H Q ⟨ρ, B, ow, σa, avs, h, rh, rs, rfl, rv, q⟩
  cases avs with
  | nil => unfold RVs at rv; exact ⟨rv, q σ rs rfl⟩
  | cons x r => exact q.elim
theorem dgs_cons (h1 : DG P X N vs tg t) (h2 : DGs P X N vs tgs ts) (hs : (assignEach (tg :: tgs) X.env).map (·.2) = assign tg X.env :: (assignEach tgs X.env).map (·.2) := by rfl) : DGs P X N vs (tg :: tgs) (t :: ts) := by
  refine ⟨pgs_weak (pgs_cons h1.pg h2.pg hs) ?_⟩
  rintro us σ H Q ⟨ρ, B, ow, σa, avs, h, rh, rs, hN, rv, q⟩
  cases avs with
  | nil => exact q.elim
  | cons x r =>
    unfold RVs at rv
    obtain ⟨v, t', rfl, g1, g2⟩ := rv
    refine ⟨v, t', rfl, ρ, B, ow, σa, x, h, rh, rs, hN, g1, ?_⟩
    have q' : (match (t x σa).bind fun σ1 => tupTs ts r σ1 with
      | some σa' => ∀ σ', RS P ρ B ow H σa' σ' → wipe σ' vs = wipe σ vs → Q σ' H
      | none => False) := q
    cases e : t x σa with
    | none => rw [e] at q'; exact q'
    | some σ1 =>
      rw [e] at q'
      intro σ' rs' w
      refine ⟨ρ, B, ow, σ1, r, h, rh, rs', hN, g2, ?_⟩
      have q2 : (match tupTs ts r σ1 with
        | some σa' => ∀ σ', RS P ρ B ow H σa' σ' → wipe σ' vs = wipe σ vs → Q σ' H
        | none => False) := q'
      cases e2 : tupTs ts r σ1 with
      | none => rw [e2] at q2; exact q2
      | some σ2 => rw [e2] at q2; exact fun σ3 rs3 w3 => q2 σ3 rs3 (w3.trans w)
theorem tupTs_len : ∀ {ts : List TGT} {xs : List AV} {σ σ' : AS}, tupTs ts xs σ = some σ' → xs.length = ts.length
  | [], [], _, _, _ => rfl
  | [], _ :: _, _, _, e => by cases e
  | _ :: _, [], _, _, e => by cases e
  | t :: ts, x :: xs, σ, σ', e => by
    have e' : ((t x σ).bind fun σ1 => tupTs ts xs σ1) = some σ' := e
    obtain ⟨σ1, _, e2⟩ := Option.bind_eq_some_iff.mp e'
    simp [tupTs_len e2]
theorem dg_tup {k : Nat} (hc : X.calm = true) (hK : P.K = X.K) (h : DGs P X N vs tgs ts) (hn : (assignEach tgs X.env).length = ts.length := by rfl) (hst : (assignEach tgs X.env).findIdx? (·.1) = none := by rfl) : DG P X N vs (.Tuple tgs k pos) (tupT ts) := by
  refine ⟨pg_weak (pg_tup hc h.pg hn hst) ?_⟩
  rintro v σ H Q ⟨ρ, B, ow, σa, av, h, rh, rs, hN, rv, q⟩
  unfold tupT at q
  cases av with
  | tup xs =>
    obtain ⟨p, us, rfl, h1, h2⟩ := rv_tup (.inl rv)
    have hl : xs.length = ts.length := by
      cases e : tupTs ts xs σa with
      | none => simp only [e] at q
      | some σ1 => exact tupTs_len e
    exact ⟨p, us, rfl, hK ▸ h1, by rw [← h2.len]; exact hl, ρ, B, ow, σa, xs, h, rh, rs, hN, h2, q⟩
  | non => exact q.elim
  | bl _ => exact q.elim
  | int _ => exact q.elim
  | str _ => exact q.elim
  | lst _ => exact q.elim
  | dct _ => exact q.elim
  | ref _ => exact q.elim
  | ro _ => exact q.elim
end
end D
end

section
namespace D
open PySem L2

section
variable {P : Pm} {X : Cx} {b : Bool} {W : WX} {N Nb Nx N' N1 : List Nat} {e a c o i d tg : Expr} {es : List Expr} {pos : Pos} {ma mb mc mo mi : EV} {ms : List EV} {st : Stmt} {sts sts' : List Stmt} {m m1 m2 : SV} {t : TGT} {it : LV} {vs : List Nat}

theorem RH.extNew {ρ : List Addr} {B : Addr → Prop} {H : Hp} {h : AH} {T : Addr} {u : HO} (r : RH P ρ B H h) (hT : H T = none) : RH P ρ B (upd H T u) h := r.frz hT
/-- an item of a walk, in the loop's state -/
theorem yld_at {ρ ρ1 : List Addr} {B : Addr → Prop} {ow ow1 : List (Nat × Addr)} {H H1 H3 : Hp} {h : AH} {σa : AS} {σ : St} {y : AV} {x : V} (e : ExtS b ρ1 ow1 H1 ρ ow H) (rh : RH P ρ (Bo B ow) H h) (rs : RS P ρ B ow H σa σ)
    (q : Yld P.K ρ1 (Bo B ow1) H1 H y x H3) : Ext b ρ H ρ H3 ∧ RH P ρ (Bo B ow) H3 h ∧ RS P ρ B ow H3 σa σ ∧ RV P.K ρ (Bo B ow) H3 y x := by
  rcases q with ⟨rfl, rv⟩ | ⟨T, ys, vs, rfl, rfl, hT, rfl, rv⟩
  · exact ⟨Ext.refl _ _ _, rh, rs, rv.extS e y⟩
  · have ee : Ext b ρ H ρ (upd H T (.tup vs)) := Ext.new hT
    exact ⟨ee, rh.frz hT, rs.ext ee, new_tup rh hT (rv.extS e ys)⟩
theorem forL_drop {ρ : List Addr} {B : Addr → Prop} {ow : List (Nat × Addr)} {H : Hp} {D : Ends} {xs : List AV} {i : Nat} {x : AV} {σa : AS} {h : AH} (hx : xs[i]? = some x) (q : SPost P b W Nb Nx N' ρ B ow H D (forL t m (xs.drop i) σa h)) :
    ∃ σ1, t x σa = some σ1 ∧ SPost P b W Nb Nx N' ρ B ow H D (match m σ1 h with
      | .nx σ2 h2 => forL t m (xs.drop (i + 1)) σ2 h2
      | .ct σ2 h2 => forL t m (xs.drop (i + 1)) σ2 h2
      | .bk σ2 h2 => .nx σ2 h2
      | .rt v h2 => .rt v h2
      | .exc c f σ2 h2 => .exc c f σ2 h2
      | .stuck => .stuck) := by
  obtain ⟨hi, g⟩ := List.getElem?_eq_some_iff.mp hx
  rw [List.drop_eq_getElem_cons hi, g] at q
  have q' : SPost P b W Nb Nx N' ρ B ow H D (match t x σa with
    | none => .stuck
    | some σ1 => match m σ1 h with
      | .nx σ2 h2 => forL t m (xs.drop (i + 1)) σ2 h2
      | .ct σ2 h2 => forL t m (xs.drop (i + 1)) σ2 h2
      | .bk σ2 h2 => .nx σ2 h2
      | .rt v h2 => .rt v h2
      | .exc c f σ2 h2 => .exc c f σ2 h2
      | .stuck => .stuck) := q
  cases et : t x σa with
  | none => rw [et] at q'; exact q'.elim
  | some σ1 => rw [et] at q'; exact ⟨σ1, rfl, q'⟩
theorem for_weak (hx : Kept N Nx) : ∀ D σ H, tDS P b W N Nb Nx N (forS t it m) D σ H → tFor (tDI P false b W N it) (tDG P N vs t) (tDS P b W N N Nx N m) D σ H := by
  rintro D σ H ⟨ρ, B, ow, σa, h, rh, rs, hN, q⟩
  refine ⟨ρ, B, ow, σa, h, rh, rs, hN, ?_⟩
  unfold forS at q
  cases g : it σa h with
  | stuck => rw [g] at q; exact q
  | exc c x h' => rw [g] at q; exact exc_restrict rs (by rw [hN]; exact hx) q
  | ok xs h1 =>
    rw [g] at q
    have q : SPost P b W Nb Nx N ρ B ow H D (forL t m xs σa h1) := q
    intro ρ1 H1 J S e1 rh1 hi hs
    refine ⟨fun i mm σ' H' => mm = xs.length - i ∧ i ≤ xs.length ∧ ∃ ρ' ow' σa' h', ExtS b ρ1 ow H1 ρ' ow' H' ∧ RH P ρ' (Bo B ow') H' h' ∧ RS P ρ' B ow' H' σa' σ' ∧ ow'.map (·.1) = N ∧ SPost P b W Nb Nx N ρ' B ow' H' D (forL t m (xs.drop i) σa' h'), ⟨xs.length, by simp, Nat.zero_le _, ρ1, ow, σa, h1, ExtS.refl, rh1, rs.ext e1, hN, SPost.ext q (ExtS.of e1)⟩, ?_⟩
    rintro i mm σ' H' ⟨rfl, hle, ρ', ow', σa', h', e2, rh2, rs2, hN2, q2⟩
    have hS : ∀ a, S a → H' a = H1 a := fun a ha => by
      obtain ⟨s1, s2⟩ := hs a ha
      rw [if_neg (by decide)] at s2
      cases z : H1 a with
      | none => exact absurd z s1
      | some o => exact e2.keep a o (.inr s2.1) (fun w => s2.2 (.inr w)) z
    obtain ⟨hstop, hgo⟩ := hi H' hS i
    by_cases hlt : i < xs.length
    · have hxi : xs[i]? = some xs[i] := List.getElem?_eq_getElem hlt
      obtain ⟨go, yl⟩ := hgo _ hxi
      refine .inr ⟨go, fun σ'' H'' => xs.length - (i + 1) = xs.length - (i + 1) ∧ i + 1 ≤ xs.length ∧ ∃ ρ' ow' σa' h', ExtS b ρ1 ow H1 ρ' ow' H'' ∧ RH P ρ' (Bo B ow') H'' h' ∧ RS P ρ' B ow' H'' σa' σ'' ∧ ow'.map (·.1) = N ∧ SPost P b W Nb Nx N ρ' B ow' H'' D (forL t m (xs.drop (i + 1)) σa' h'), fun σ'' H'' z => ⟨_, by omega, z⟩, fun x H3 hy => ?_⟩
      obtain ⟨ee, rh3, rs3, rv3⟩ := yld_at e2 rh2 rs2 (yl x H3 hy)
      obtain ⟨σ1, et, q3⟩ := forL_drop hxi q2
      refine ⟨ρ', B, ow', σa', xs[i], h', rh3, rs3, hN2, rv3, ?_⟩
      rw [et]
      intro σ4 rs4 _
      refine ⟨ρ', B, ow', σ1, h', rh3, rs4, hN2, ?_⟩
      have q4 := SPost.ext q3 (ExtS.of ee)
      cases gm : m σ1 h' with
      | nx σ2 h2 =>
        rw [gm] at q4
        exact fun ρ5 ow5 H5 σ5 e5 rh5 rs5 hN5 => ⟨rfl, hlt, ρ5, ow5, σ2, h2, e2.trans ((ExtS.of ee).trans e5), rh5, rs5, hN5, SPost.ext q4 e5⟩
      | ct σ2 h2 =>
        rw [gm] at q4
        exact fun ρ5 ow5 H5 σ5 e5 rh5 rs5 hN5 => ⟨rfl, hlt, ρ5, ow5, σ2, h2, e2.trans ((ExtS.of ee).trans e5), rh5, rs5, hN5, SPost.ext q4 e5⟩
      | bk σ2 h2 =>
        rw [gm] at q4
        exact q4
      | rt v h2 => rw [gm] at q4; exact q4
      | exc c f σ2 h2 => rw [gm] at q4; exact q4
      | stuck => rw [gm] at q4; exact q4
    · have e : i = xs.length := by omega
      refine .inl ⟨hstop (by omega), ?_⟩
      rw [e, List.drop_length] at q2
      exact q2 ρ' ow' H' σ' ExtS.refl rh2 rs2 hN2
theorem ds_for {iter : Expr} {body : List Stmt} (hp : PassesOwn (model X.prog X.w) X.A X.env X.xe) (hc : X.calm = true) (hi : DI P X false b W N tg iter it) (hg : DG P X N vs tg t) (hb : DSs P X b W N N Nx N body m) (hx : Kept N Nx := by decide) (hs : ∀ x, foldedSetIterable iter X.env x = pure x := by intro _; rfl) :
    DS P X b W N Nb Nx N (.For tg iter body [] pos) (forS t it m) :=
  ⟨ps_weak (ps_for hp hc hi.pi hg.pg hb.ps hs) (for_weak hx)⟩

theorem while_weak (hx : Kept N Nx) {k : Nat} : ∀ D σ H, tDS P b W N Nb Nx N (whileS k mc m) D σ H → tWhile (tDT P b W N mc) (tDS P b W N N Nx N m) D σ H := by
  rintro D σ H ⟨ρ, B, ow, σa, h, rh, rs, hN, q⟩
  refine ⟨fun k σ H => ∃ ρ ow σa h, RH P ρ (Bo B ow) H h ∧ RS P ρ B ow H σa σ ∧ ow.map (·.1) = N ∧ SPost P b W Nb Nx N ρ B ow H D (whileS k mc m σa h), ⟨k, ρ, ow, σa, h, rh, rs, hN, q⟩, ?_⟩
  clear q rh rs hN
  rintro k σ H ⟨ρ, ow, σa, h, rh, rs, hN, q⟩
  cases k with
  | zero => exact q.elim
  | succ k =>
    refine ⟨ρ, B, ow, σa, h, rh, rs, hN, (tstS_post rs hN hx q).imp ?_⟩
    rintro c H1 ⟨ρ1, h1, e1, rh1, q1⟩
    cases c with
    | true =>
      rw [if_pos rfl] at q1 ⊢
      refine ⟨_, fun σ' H' z => ⟨k, Nat.lt_succ_self _, z⟩, ρ1, B, ow, σa, h1, rh1, rs.ext e1, hN, ?_⟩
      cases g : m σa h1 with
      | nx σ2 h2 =>
        rw [g] at q1
        exact fun ρ' ow' H' σ' e' rh' rs' hN' => ⟨ρ', ow', σ2, h2, rh', rs', hN', SPost.ext q1 e'⟩
      | ct σ2 h2 =>
        rw [g] at q1
        exact fun ρ' ow' H' σ' e' rh' rs' hN' => ⟨ρ', ow', σ2, h2, rh', rs', hN', SPost.ext q1 e'⟩
      | bk σ2 h2 => rw [g] at q1; exact q1
      | rt v h2 => rw [g] at q1; exact q1
      | exc c f σ2 h2 => rw [g] at q1; exact q1
      | stuck => rw [g] at q1; exact q1
    | false =>
      rw [if_neg Bool.false_ne_true] at q1 ⊢
      exact q1 ρ1 ow H1 σ ExtS.refl rh1 (rs.ext e1) hN
theorem ds_while (k : Nat) {body : List Stmt} (hp : PassesOwn (model X.prog X.w) X.A X.env X.xe) (hc : DT P X b W N c mc) (hb : DSs P X b W N N Nx N body m) (hx : Kept N Nx := by decide) : DS P X b W N Nb Nx N (.While c body [] pos) (whileS k mc m) :=
  ⟨ps_weak (ps_while hp hc.pt hb.ps) (while_weak hx)⟩

def VIp (P : Pm) (b : Bool) (f : AV → AV → AH → ER) (r : TIp) : Prop := ∀ (W : WX) ρ B σ H av bv h x y Q, RH P ρ B H h → RV P.K ρ B H av x → RVb P.K ρ B H bv y → EPost P b W ρ B σ H Q (f av bv h) → r x y H Q
theorem SPost.toE {ρ : List Addr} {B : Addr → Prop} {ow : List (Nat × Addr)} {σa : AS} {σ : St} {H : Hp} {D : Ends} {r : ER} {k : AV → AH → SR} (rs : RS P ρ B ow H σa σ) (hN : ow.map (·.1) = N) (hx : Kept N Nx)
    (q : SPost P b W Nb Nx N' ρ B ow H D (r.toS σa k)) :
    EPost P b W ρ (Bo B ow) σ H (fun v H1 => ∃ ρ1 av h1, Ext b ρ H ρ1 H1 ∧ RH P ρ1 (Bo B ow) H1 h1 ∧ RV P.K ρ1 (Bo B ow) H1 av v ∧ SPost P b W Nb Nx N' ρ1 B ow H1 D (k av h1)) r := toS_post rs hN hx q
theorem ds_aug {j : Nat} {x : Str} {op : Operator} {ti : TIp} {f : AV → AV → AH → ER} {pos' : Pos} (hn : X.N.Nodup) (hj : X.N[j]? = some x) (hx' : Loc X.env.scope x) (he : DB P X b W N e ma) (ho : PIp X op ti) (hv : VIp P b f ti) (hNj : j ∉ N := by decide) (hx : Kept N Nx := by decide)
    (hf : X.fn x = true ∨ X.env.scope.names.lookup x = some .local := by first | exact .inl rfl | exact .inr rfl | assumption) : DS P X b W N Nb Nx N (.AugAssign (.Name x pos') op e pos) (augS j f ma) := by
  refine ⟨ps_weak (ps_aug hn hj hx' he.pe ho hf) ?_⟩
  rintro D σ H ⟨ρ, B, ow, σa, h, rh, rs, rfl, q⟩
  unfold augS at q
  split at q
  · rename_i av hav
    obtain ⟨v, h1, h2⟩ := rs.val j av hav hNj
    refine ⟨v, h1, ρ, B, ow, σa, h, rh, rs, rfl, (toS_postB rs rfl hx q).imp ?_⟩
    rintro y H1 ⟨ρ1, bv, h3, e1, rh1, rv1, q1⟩
    refine hv W ρ1 (Bo B ow) σ H1 av bv h3 v y _ rh1 (h2.ext e1 av) rv1 ((toS_post (rs.ext e1) rfl hx q1).imp ?_)
    rintro z H2 ⟨ρ2, cv, h4, e2, rh2, rv2, q2⟩
    exact q2 ρ2 ow H2 _ ExtS.refl rh2 (((rs.ext e1).ext e2).set hNj rv2) rfl
  · exact q.elim
theorem vip_add : VIp P b iaddV (ipI fun i j => i + j) := by
  intro W ρ B σ H av bv h x y Q rh r1 r2 q
  unfold iaddV at q
  split at q
  · exact ⟨_, _, rv_int (.inl r1), rv_int r2, ok_post q rh mk_int⟩
  · exact q.elim
theorem vip_sub : VIp P b subV (ipI fun i j => i - j) := by
  intro W ρ B σ H av bv h x y Q rh r1 r2 q
  unfold subV at q
  split at q
  · exact ⟨_, _, rv_int (.inl r1), rv_int r2, ok_post q rh mk_int⟩
  · exact q.elim
theorem ds_asg (hc : X.calm = true) (he : DE P X b W N e ma) (hg : DG P X N vs tg t) (hx : Kept N Nx := by decide) (hs : swapsWithSole [tg] e pos.line X.env = pure false := by rfl) (hw : swappedStores [tg] e X.env = pure none := by rfl)
    (h1 : (assignEach [tg] X.env).map (·.2) = [assign tg X.env] := by rfl) : DS P X b W N Nb Nx N (.Assign [tg] e pos) (asgS t ma) := by
  refine ⟨ps_weak (ps_asg he.pe hg.pg hs hw h1) ?_⟩
  rintro D σ H ⟨ρ, B, ow, σa, h, rh, rs, rfl, q⟩
  refine ⟨ρ, B, ow, σa, h, rh, rs, rfl, (toS_post rs rfl hx q).imp ?_⟩
  rintro v H1 ⟨ρ1, av, h1, e1, rh1, rv1, q1⟩
  refine ⟨ρ1, B, ow, σa, av, h1, rh1, rs.ext e1, rfl, rv1, ?_⟩
  cases g : t av σa with
  | none => rw [g] at q1; exact q1
  | some σ1 =>
    rw [g] at q1
    exact fun σ' rs' _ => q1 ρ1 ow H1 σ' ExtS.refl rh1 rs' rfl
end
end D
end

section
namespace D
open PySem L2

section
variable {P : Pm} {K : PySem.W.Frag} {ρ : List Addr} {B B' : Addr → Prop} {H H' : Hp} {ow : List (Nat × Addr)} {σa : AS} {σ : St} {h : AH} {D : Addr}
/-- the rest is as it was -/
structure Off (D : Addr) (H H' : Hp) : Prop where
  keep : ∀ a o, a ≠ D → H a = some o → H' a = some o
  live : ∀ a, H a ≠ none → H' a ≠ none
theorem Off.ext {b : Bool} (f : Off D H H') : ExtS b ρ [(0, D)] H ρ [(0, D)] H' := ⟨⟨[], by simp, by simp⟩, fun a o _ h1 h2 => f.keep a o (fun z => h1 (by rw [z]; simp)) h2, f.live, fun _ h => .inl h⟩
theorem Off.upd {u : HO} : Off D H (upd H D u) := ⟨fun a o h1 h2 => by rw [upd_ne h1]; exact h2, fun a h => by
  by_cases z : a = D
  · subst z; rw [upd_same]; simp
  · rw [upd_ne z]; exact h⟩
theorem bo_in (hD : B D) : ∀ a, Bo B [(0, D)] a → B a := fun a z => by
  rcases z with z | z
  · exact z
  · have : a = D := by simpa using z
    rw [this]; exact hD
theorem bo_up : ∀ a, B a → Bo B [(0, D)] a := fun a z => .inl z
theorem RV.off (hD : B D) (f : Off D H H') {x : AV} {v : V} (r : RV K ρ B H x v) : RV K ρ B H' x v := (RV.extS (Off.ext (b := true) f) x (r.anti (bo_in hD) x)).anti bo_up x
theorem RVs.off (hD : B D) (f : Off D H H') {x : List AV} {v : List V} (r : RVs K ρ B H x v) : RVs K ρ B H' x v := (RVs.extS (Off.ext (b := true) f) x (r.anti (bo_in hD) x)).anti bo_up x
theorem RKs.off (hD : B D) (f : Off D H H') {x : List (AV × AV)} {v : List (Key × V)} (r : RKs K ρ B H x v) : RKs K ρ B H' x v := (RKs.extS (Off.ext (b := true) f) x (r.anti (bo_in hD) x)).anti bo_up x
theorem RFs.off (hD : B D) (f : Off D H H') {x : List (Str × AV)} {v : List (Str × V)} (r : RFs K ρ B H x v) : RFs K ρ B H' x v := (RFs.extS (Off.ext (b := true) f) x (r.anti (bo_in hD) x)).anti bo_up x
theorem OV.off (hD : B D) (f : Off D H H') : ∀ {x : AV} {v : HO}, OV K ρ B H x v → OV K ρ B H' x v
  | .lst xs, _, ⟨vs, h1, h2⟩ => ⟨vs, h1, h2.off hD f⟩
  | .dct xs, _, ⟨vs, h1, h2⟩ => ⟨vs, h1, h2.off hD f⟩
theorem RO.off (hD : B D) (f : Off D H H') : ∀ {x : AO} {v : HO}, RO P ρ B H x v → RO P ρ B H' x v
  | .lst xs, _, ⟨vs, h1, h2⟩ => ⟨vs, h1, h2.off hD f⟩
  | .dct xs, _, ⟨vs, h1, h2⟩ => ⟨vs, h1, h2.off hD f⟩
  | .ins c fs, _, ⟨dx, us, h1, h2⟩ => ⟨dx, us, h1, h2.off hD f⟩
theorem RH.off (hD : B D) (f : Off D H H') (r : RH P ρ B H h) : RH P ρ B H' h := by
  refine ⟨r.len, r.nd, r.out, fun a ha => f.live a (r.lvB a ha), fun i o e => ?_⟩
  obtain ⟨a, u, h1, h2, h3⟩ := r.obj i o e
  exact ⟨a, u, h1, f.keep a u (fun z => r.out a (List.mem_of_getElem? h1) (by rw [z]; exact hD)) h2, h3.off hD f⟩
theorem RS.off (hD : B D) (f : Off D H H') (r : RS P ρ B ow H σa σ) : RS P ρ B ow H' σa σ := by
  have hD' : Bo B ow D := .inl hD
  refine ⟨r.len, r.nd1, r.nd2, r.out, fun i av h1 h2 => ?_, fun p hp => ?_⟩
  · obtain ⟨v, h3, h4⟩ := r.val i av h1 h2
    exact ⟨v, h3, h4.off hD' f⟩
  · obtain ⟨av, u, h1, h2, h3, h4⟩ := r.own p hp
    exact ⟨av, u, h1, h2, f.keep _ _ (fun z => (r.out p hp).2 (by rw [z]; exact hD)) h3, h4.off hD' f⟩

theorem RV.fgn {u : HO} (hp : H D = none) {x : AV} {v : V} (r : RV K ρ (Bo B ow) H x v) : RV K ρ (Bo (fun a => B a ∨ a = D) ow) (upd H D u) x v := by
  have e : ExtS true ρ [] H ρ [(0, D)] (upd H D u) := ⟨⟨[], by simp, by simp⟩, fun c o _ _ k => by rw [upd_ne (ne_of_none k hp)]; exact k, (Ext.new (b := true) (ρ := ρ) (o := u) hp).live, fun c hc => .inr (by
    have : c = D := by simpa using hc
    rw [this]; exact hp)⟩
  have r1 : RV K ρ (Bo (Bo B ow) []) H x v := r.anti (fun a z => by
    rcases z with z | z
    · exact z
    · simp at z) x
  refine (RV.extS e x r1).anti (fun a z => ?_) x
  rcases z with (z | z) | z
  · exact .inl (.inl z)
  · exact .inr (by simp [z])
  · exact .inl (.inr z)
end
theorem fgn_ext {b : Bool} {ρ : List Addr} {H : Hp} {D : Addr} {u : HO} (hp : H D = none) : ExtS b ρ [] H ρ [(0, D)] (upd H D u) :=
  ⟨⟨[], by simp, by simp⟩, fun c o _ _ k => by rw [upd_ne (ne_of_none k hp)]; exact k, (Ext.new (b := true) (ρ := ρ) (o := u) hp).live, fun c hc => .inr (by
    have : c = D := by simpa using hc
    rw [this]; exact hp)⟩
abbrev plus (B : Addr → Prop) (D : Addr) : Addr → Prop := fun a => B a ∨ a = D
section
variable {P : Pm} {K : PySem.W.Frag} {ρ : List Addr} {B B' : Addr → Prop} {H H' : Hp} {ow : List (Nat × Addr)} {σa : AS} {σ : St} {h : AH} {D : Addr} {u : HO}
theorem bo_plus : ∀ a, Bo (plus B D) ow a → Bo (Bo B ow) [(0, D)] a := fun a z => by
  rcases z with (z | z) | z
  · exact .inl (.inl z)
  · exact .inr (by simp [z])
  · exact .inl (.inr z)
theorem bo_minus : ∀ a, Bo B ow a → Bo (plus B D) ow a := fun a z => by
  rcases z with z | z
  · exact .inl (.inl z)
  · exact .inr z
theorem bo_nil : ∀ a, Bo (Bo B ow) [] a → Bo B ow a := fun a z => by
  rcases z with z | z
  · exact z
  · simp at z
theorem RVs.fgn (hp : H D = none) {x : List AV} {v : List V} (r : RVs K ρ (Bo B ow) H x v) : RVs K ρ (Bo (plus B D) ow) (upd H D u) x v := (RVs.extS (fgn_ext (b := true) hp) x (r.anti bo_nil x)).anti bo_plus x
theorem RKs.fgn (hp : H D = none) {x : List (AV × AV)} {v : List (Key × V)} (r : RKs K ρ (Bo B ow) H x v) : RKs K ρ (Bo (plus B D) ow) (upd H D u) x v := (RKs.extS (fgn_ext (b := true) hp) x (r.anti bo_nil x)).anti bo_plus x
theorem RFs.fgn (hp : H D = none) {x : List (Str × AV)} {v : List (Str × V)} (r : RFs K ρ (Bo B ow) H x v) : RFs K ρ (Bo (plus B D) ow) (upd H D u) x v := (RFs.extS (fgn_ext (b := true) hp) x (r.anti bo_nil x)).anti bo_plus x
theorem OV.fgn (hp : H D = none) : ∀ {x : AV} {v : HO}, OV K ρ (Bo B ow) H x v → OV K ρ (Bo (plus B D) ow) (upd H D u) x v
  | .lst xs, _, ⟨vs, h1, h2⟩ => ⟨vs, h1, h2.fgn hp⟩
  | .dct xs, _, ⟨vs, h1, h2⟩ => ⟨vs, h1, h2.fgn hp⟩
theorem RO.fgn (hp : H D = none) : ∀ {x : AO} {v : HO}, RO P ρ (Bo B ow) H x v → RO P ρ (Bo (plus B D) ow) (upd H D u) x v
  | .lst xs, _, ⟨vs, h1, h2⟩ => ⟨vs, h1, h2.fgn hp⟩
  | .dct xs, _, ⟨vs, h1, h2⟩ => ⟨vs, h1, h2.fgn hp⟩
  | .ins c fs, _, ⟨dx, us, h1, h2⟩ => ⟨dx, us, h1, h2.fgn hp⟩
theorem RH.fgn (hp : H D = none) (r : RH P ρ (Bo B ow) H h) : RH P ρ (Bo (plus B D) ow) (upd H D u) h := by
  have nr : ∀ a ∈ ρ, a ≠ D := fun a ha z => r.lvR a ha (by rw [z]; exact hp)
  refine ⟨r.len, r.nd, fun a ha z => ?_, fun a z => ?_, fun i o e => ?_⟩
  · rcases z with (z | z) | z
    · exact r.out a ha (.inl z)
    · exact nr a ha z
    · exact r.out a ha (.inr z)
  · by_cases q : a = D
    · subst q; rw [upd_same]; simp
    · rw [upd_ne q]
      rcases z with (z | z) | z
      · exact r.lvB a (.inl z)
      · exact absurd z q
      · exact r.lvB a (.inr z)
  · obtain ⟨a, w, h1, h2, h3⟩ := r.obj i o e
    exact ⟨a, w, h1, by rw [upd_ne (nr a (List.mem_of_getElem? h1))]; exact h2, h3.fgn hp⟩
theorem RS.fgn (hp : H D = none) (r : RS P ρ B ow H σa σ) : RS P ρ (plus B D) ow (upd H D u) σa σ := by
  have no : ∀ p ∈ ow, p.2 ≠ D := fun p hp' z => by
    obtain ⟨_, _, _, _, h3, _⟩ := r.own p hp'
    rw [z, hp] at h3; cases h3
  refine ⟨r.len, r.nd1, r.nd2, fun p hp' => ⟨(r.out p hp').1, fun z => ?_⟩, fun i av h1 h2 => ?_, fun p hp' => ?_⟩
  · rcases z with z | z
    · exact (r.out p hp').2 z
    · exact no p hp' z
  · obtain ⟨v, h3, h4⟩ := r.val i av h1 h2
    exact ⟨v, h3, h4.fgn hp⟩
  · obtain ⟨av, w, h1, h2, h3, h4⟩ := r.own p hp'
    exact ⟨av, w, h1, h2, by rw [upd_ne (no p hp')]; exact h3, h4.fgn hp⟩
theorem RH.unfgn (r : RH P ρ (Bo (plus B D) ow) H h) : RH P ρ (Bo B ow) H h := r.anti bo_minus
/-- .. taken out of the heap: as if it were not there -/
def hole (H : Hp) (D : Addr) : Hp := fun a => if a = D then none else H a
theorem hole_same : hole H D D = none := if_pos rfl
theorem hole_ne {a : Addr} (h : a ≠ D) : hole H D a = H a := if_neg h
theorem hole_upd (h : H D = some u) : upd (hole H D) D u = H := by
  funext a
  by_cases z : a = D
  · subst z; rw [upd_same, h]
  · rw [upd_ne z, hole_ne z]
end

section
variable {K : PySem.W.Frag} {ρ : List Addr} {B : Addr → Prop} {H : Hp} {D : Addr}
mutual
theorem RV.out (hD : B D) : ∀ (x : AV) {v : V}, RV K ρ B H x v → RV K ρ B (hole H D) x v
  | .non, _, h => h
  | .bl _, _, h => h
  | .int _, _, h => h
  | .str _, _, h => h
  | .tup xs, v, h => by
    unfold RV at h ⊢
    obtain ⟨a, vs, rfl, h1, h2⟩ := h
    refine ⟨a, vs, rfl, h1.imp_left fun ⟨g1, g2, g3⟩ => ⟨g1, g2, ?_⟩, RVs.out hD xs h2⟩
    have ne : a ≠ D := fun z => g2 (by rw [z]; exact hD)
    unfold Rd at g3 ⊢
    rw [hole_ne ne]; exact g3
  | .lst xs, v, h => by
    unfold RV at h ⊢
    obtain ⟨a, vs, rfl, h1, h2, h3, h4⟩ := h
    have ne : a ≠ D := fun z => h2 (by rw [z]; exact hD)
    exact ⟨a, vs, rfl, h1, h2, by rw [hole_ne ne]; exact h3, RVs.out hD xs h4⟩
  | .dct kvs, v, h => by
    unfold RV at h ⊢
    obtain ⟨a, us, rfl, h1, h2, h3, h4⟩ := h
    have ne : a ≠ D := fun z => h2 (by rw [z]; exact hD)
    exact ⟨a, us, rfl, h1, h2, by rw [hole_ne ne]; exact h3, RKs.out hD kvs h4⟩
  | .ref i, v, h => by
    unfold RV at h ⊢
    exact h
  | .ro xs, v, h => by
    unfold RV at h ⊢
    obtain ⟨a, vs, rfl, h1, h2⟩ := h
    refine ⟨a, vs, rfl, h1.imp_left fun ⟨g1, g2, g3⟩ => ⟨g1, g2, ?_⟩, RVs.out hD xs h2⟩
    have ne : a ≠ D := fun z => g2 (by rw [z]; exact hD)
    unfold Rd at g3 ⊢
    rw [hole_ne ne]; exact g3
theorem RVs.out (hD : B D) : ∀ (xs : List AV) {vs : List V}, RVs K ρ B H xs vs → RVs K ρ B (hole H D) xs vs
  | [], _, h => by unfold RVs at h ⊢; exact h
  | x :: xs, vs, h => by
    unfold RVs at h ⊢
    obtain ⟨v, r, rfl, h1, h2⟩ := h
    exact ⟨v, r, rfl, RV.out hD x h1, RVs.out hD xs h2⟩
theorem RKs.out (hD : B D) : ∀ (kvs : List (AV × AV)) {us : List (Key × V)}, RKs K ρ B H kvs us → RKs K ρ B (hole H D) kvs us
  | [], _, h => by unfold RKs at h ⊢; exact h
  | (k, x) :: r, us, h => by
    unfold RKs at h ⊢
    obtain ⟨k', v, t, rfl, h1, h2, h3⟩ := h
    exact ⟨k', v, t, rfl, h1, RV.out hD x h2, RKs.out hD r h3⟩
end
theorem RFs.out (hD : B D) : ∀ (fs : List (Str × AV)) {us : List (Str × V)}, RFs K ρ B H fs us → RFs K ρ B (hole H D) fs us
  | [], _, h => h
  | (k, x) :: r, us, h => by
    obtain ⟨v, t, rfl, h1, h2⟩ := h
    exact ⟨v, t, rfl, h1.out hD x, RFs.out hD r h2⟩
theorem OV.out (hD : B D) : ∀ {x : AV} {v : HO}, OV K ρ B H x v → OV K ρ B (hole H D) x v
  | .lst xs, _, ⟨vs, h1, h2⟩ => ⟨vs, h1, h2.out hD xs⟩
  | .dct xs, _, ⟨vs, h1, h2⟩ => ⟨vs, h1, h2.out hD xs⟩
theorem RO.out {P : Pm} (hD : B D) : ∀ {x : AO} {v : HO}, RO P ρ B H x v → RO P ρ B (hole H D) x v
  | .lst xs, _, ⟨vs, h1, h2⟩ => ⟨vs, h1, h2.out hD xs⟩
  | .dct xs, _, ⟨vs, h1, h2⟩ => ⟨vs, h1, h2.out hD xs⟩
  | .ins c fs, _, ⟨dx, us, h1, h2⟩ => ⟨dx, us, h1, h2.out hD fs⟩
end
/-- .. let go: B is what it was, the thing as if it were not there -/
theorem RH.back {P : Pm} {ρ : List Addr} {B : Addr → Prop} {ow : List (Nat × Addr)} {H : Hp} {h : AH} {D : Addr} (r : RH P ρ (Bo (plus B D) ow) H h) (hb : ¬ Bo B ow D) : RH P ρ (Bo B ow) (hole H D) h := by
  have hD : Bo (plus B D) ow D := .inl (.inr rfl)
  refine ⟨r.len, r.nd, fun a ha z => r.out a ha (bo_minus a z), fun a z => ?_, fun i o e => ?_⟩
  · have ne : a ≠ D := fun q => hb (by rw [← q]; exact z)
    rw [hole_ne ne]
    exact r.lvB a (bo_minus a z)
  · obtain ⟨a, w, h1, h2, h3⟩ := r.obj i o e
    have ne : a ≠ D := fun q => r.out a (List.mem_of_getElem? h1) (by rw [q]; exact hD)
    exact ⟨a, w, h1, by rw [hole_ne ne]; exact h2, (h3.out hD).anti bo_minus o⟩
end D
end

section
namespace D
open PySem L2

abbrev WF : WX := fun _ _ _ _ => False
theorem wipe_idem {σ : St} : ∀ vs : List Nat, wipe (wipe σ vs) vs = wipe σ vs
  | [] => rfl
  | v :: vs => by
    show wipe ((wipe σ vs).set v none) (v :: vs) = (wipe σ vs).set v none
    rw [wipe_set List.mem_cons_self]
    show (wipe (wipe σ vs) vs).set v none = (wipe σ vs).set v none
    rw [wipe_idem vs]
theorem compL_cons {t : TGT} {c e : EV} {σ : AS} {x : AV} {r rest : List AV} {h h2 : AH} (q : compL t c e σ (x :: r) h = .ok rest h2) :
    ∃ σ1, t x σ = some σ1 ∧ ((∃ h1 v h3 r', c σ1 h = .ok (.bl true) h1 ∧ e σ1 h1 = .ok v h3 ∧ compL t c e σ r h3 = .ok r' h2 ∧ rest = v :: r') ∨ (∃ h1, c σ1 h = .ok (.bl false) h1 ∧ compL t c e σ r h1 = .ok rest h2)) := by
  unfold compL at q
  split at q
  · cases q
  · rename_i σ1 h1
    refine ⟨σ1, h1, ?_⟩
    split at q
    · rename_i g1 e1
      split at q
      · rename_i v h3 e2
        split at q
        · rename_i vs h4 e3
          cases q
          exact .inl ⟨_, _, _, _, e1, e2, e3, rfl⟩
        · cases q
      · cases q
    · rename_i g1 e1
      exact .inr ⟨_, e1, q⟩
    · cases q

section
variable {P : Pm} {X : Cx} {b : Bool} {W : WX} {N own : List Nat} {t : TGT} {it : LV} {c e : EV}
theorem comp_weak (ho : ∀ i ∈ own, i ∉ N) : ∀ σ H Q, tDF P b W N (compD own t it c e) σ H Q → tLc (tDI P true b W N it) (tDG P N own t) (tDT P b WF N c) (tDE P b WF N e) own σ H Q := by
  rintro σ H Q ⟨ρ, B, ow, σa, h, rh, rs, rfl, q⟩
  refine ⟨ρ, B, ow, σa, h, rh, rs, rfl, ?_⟩
  unfold compD at q
  cases g : it σa h with
  | stuck => rw [g] at q; exact q
  | exc cc x h' => rw [g] at q; exact q
  | ok xs h1 =>
    rw [g] at q
    intro ρ1 H1 J S e1 rh1 hi hs D hD
    have q : FPost P b W ρ (Bo B ow) σ H Q (match compL t c e (wipeA σa own) xs h1 with
      | .ok vs h2 => if vs.length ≤ LIM then .ok (.lst vs) h2 else .stuck
      | _ => .stuck) := q
    cases g2 : compL t c e (wipeA σa own) xs h1 with
    | stuck => rw [g2] at q; exact q.elim
    | exc cc x h' => rw [g2] at q; exact q.elim
    | ok vs h2 =>
      rw [g2] at q
      have q : FPost P b W ρ (Bo B ow) σ H Q (if vs.length ≤ LIM then .ok (.lst vs) h2 else .stuck) := q
      by_cases hl : vs.length ≤ LIM
      case neg => rw [if_neg hl] at q; exact q.elim
      rw [if_pos hl] at q
      have nD : ¬ Bo B ow D := fun z => rh1.lvB D z hD
      have rsw : RS P ρ B ow H (wipeA σa own) (wipe σ own) := rs.wipe ho
      refine ⟨fun i mm H' => mm = xs.length - i ∧ i ≤ xs.length ∧ ∃ ρ' h' acc ws rest, ExtS b ρ1 [] H1 ρ' [(0, D)] H' ∧ RH P ρ' (Bo (plus B D) ow) H' h' ∧ RS P ρ' (plus B D) ow H' (wipeA σa own) (wipe σ own) ∧ H' D = some (.lst ws) ∧ RVs P.K ρ' (Bo (plus B D) ow) H' acc ws ∧ compL t c e (wipeA σa own) (xs.drop i) h' = .ok rest h2 ∧ vs = acc ++ rest,
        ⟨xs.length, by simp, Nat.zero_le _, ρ1, h1, [], [], vs, fgn_ext hD, rh1.fgn hD, (rsw.ext e1).fgn hD, upd_same, RVs.nil, g2, rfl⟩, ?_⟩
      rintro i mm H' ⟨rfl, hle, ρ', h', acc, ws, rest, E, rh2, rs2, hDw, rva, hcl, hvs⟩
      have hS : ∀ a, S a → H' a = H1 a := fun a ha => by
        obtain ⟨s1, s2⟩ := hs a ha
        rw [if_pos rfl] at s2
        cases z : H1 a with
        | none => exact absurd z s1
        | some o => exact E.keep a o s2 (by simp) z
      obtain ⟨hstop, hgo⟩ := hi H' hS i
      by_cases hlt : i < xs.length
      · have hxi : xs[i]? = some xs[i] := List.getElem?_eq_getElem hlt
        obtain ⟨go, yl⟩ := hgo _ hxi
        rw [List.drop_eq_getElem_cons hlt] at hcl
        obtain ⟨σ1, et, hcl⟩ := compL_cons hcl
        have bD : Bo (plus B D) ow D := .inl (.inr rfl)
        have nρ : D ∉ ρ' := fun z => rh2.out D z bD
        refine .inr ⟨go, fun H'' => xs.length - (i + 1) = xs.length - (i + 1) ∧ i + 1 ≤ xs.length ∧ ∃ ρ' h' acc ws rest, ExtS b ρ1 [] H1 ρ' [(0, D)] H'' ∧ RH P ρ' (Bo (plus B D) ow) H'' h' ∧ RS P ρ' (plus B D) ow H'' (wipeA σa own) (wipe σ own) ∧ H'' D = some (.lst ws) ∧ RVs P.K ρ' (Bo (plus B D) ow) H'' acc ws ∧ compL t c e (wipeA σa own) (xs.drop (i + 1)) h' = .ok rest h2 ∧ vs = acc ++ rest, fun H'' z => ⟨_, by omega, z⟩, fun x H3 hy => ?_⟩
        have y3 : Ext b ρ' H' ρ' H3 ∧ RH P ρ' (Bo (plus B D) ow) H3 h' ∧ RV P.K ρ' (Bo (plus B D) ow) H3 xs[i] x := by
          rcases yl x H3 hy with ⟨rfl, rv⟩ | ⟨T, ys, us, e2, rfl, hT, rfl, rv⟩
          · exact ⟨Ext.refl _ _ _, rh2, (RV.extS E _ (rv.anti bo_nil _)).anti bo_plus _⟩
          · rw [e2]
            have ee : Ext b ρ' H' ρ' (upd H' T (.tup us)) := Ext.new hT
            exact ⟨ee, rh2.frz hT, new_tup rh2 hT ((RVs.extS E _ (rv.anti bo_nil _)).anti bo_plus _)⟩
        obtain ⟨e3, rh3, rv3⟩ := y3
        refine ⟨ρ', plus B D, ow, wipeA σa own, xs[i], h', rh3, rs2.ext e3, rfl, rv3, ?_⟩
        rw [et]
        intro σ2 rsσ2 hw
        refine ⟨hw.trans (wipe_idem own), ρ', plus B D, ow, σ1, h', rh3, rsσ2, rfl, ?_⟩
        rcases hcl with ⟨h4, v, h5, r', ec, ee, er, hr⟩ | ⟨h4, ec, er⟩
        · rw [ec]
          intro ρ4 H4 e4 rh4
          rw [if_pos rfl]
          refine ⟨ρ4, plus B D, ow, σ1, h4, rh4, rsσ2.ext e4, rfl, ?_⟩
          rw [ee]
          intro ρ5 H5 y e5 rh5 rv5
          have e35 : Ext b ρ' H' ρ5 H5 := e3.trans (e4.trans e5)
          have hD5 : H5 D = some (.lst ws) := e35.keep D _ (.inr nρ) hDw
          have hlen : ws.length < sizeLine := by
            have : vs.length ≤ sizeLine := hl
            rw [hvs, hr] at this
            rw [← rva.len]
            simp only [List.length_append, List.length_cons] at this
            omega
          refine ⟨ws, hD5, hlen, rfl, hlt, ρ5, h5, acc ++ [v], ws ++ [y], r', E.trans ((ExtS.of e35).trans Off.upd.ext), rh5.off bD Off.upd, (rs2.ext e35).off (.inr rfl) Off.upd, upd_same, ((rva.ext e35).app (RVs.cons rv5 RVs.nil)).off bD Off.upd, er, by rw [hvs, hr, List.append_assoc]; rfl⟩
        · rw [ec]
          intro ρ4 H4 e4 rh4
          rw [if_neg Bool.false_ne_true]
          have e34 : Ext b ρ' H' ρ4 H4 := e3.trans e4
          exact ⟨rfl, hlt, ρ4, h4, acc, ws, rest, E.trans (ExtS.of e34), rh4, rs2.ext e34, e34.keep D _ (.inr nρ) hDw, rva.ext e34, er, hvs⟩
      · have ei : i = xs.length := by omega
        refine .inl ⟨hstop (by omega), ?_⟩
        rw [ei, List.drop_length] at hcl
        unfold compL at hcl
        cases hcl
        rw [List.append_nil] at hvs
        subst hvs
        have eo : Ext b ρ1 H1 ρ' (hole H' D) := ⟨E.pre, fun a o z k => by
          rw [hole_ne (fun q => by rw [q, hD] at k; cases k)]
          exact E.keep a o z (by simp) k, fun a z => by
          rw [hole_ne (fun q => z (by rw [q]; exact hD))]
          exact E.live a z⟩
        have bD : Bo (plus B D) ow D := .inl (.inr rfl)
        have r := q ρ' (hole H' D) D (.lst ws) (e1.trans eo) (rh2.back nD) ⟨ws, rfl, (RVs.out bD _ rva).anti bo_minus _⟩ hole_same
        rw [hole_upd hDw] at r
        exact r

/-- tests of a comprehension -/
structure DTs (P : Pm) (X : Cx) (b : Bool) (W : WX) (N : List Nat) (ifs : List Expr) (m : EV) : Prop where
  pt : PTs X ifs (tDT P b W N m)
theorem dts_nil : DTs P X b W N [] (cD (.bl true)) := ⟨⟨fun pins s σ H Q I h => pts_nil.run pins s σ H Q I (by
  obtain ⟨ρ, B, ow, σa, h, rh, rs, hN, q⟩ := h
  exact q ρ H (Ext.refl b ρ H) rh)⟩⟩
theorem dts_one {a : Expr} {m : EV} (h : DT P X b W N a m) : DTs P X b W N [a] m := ⟨pts_one h.pt⟩
end
section
variable {P : Pm} {X : Cx} {b : Bool} {W : WX} {N Nb Nx N' : List Nat} {t : TGT} {it : LV} {mc me ma : EV} {elt tg iter e : Expr} {ifs : List Expr} {scope : Scope} {own : List (Str × Nat)} {pos spos : Pos}
theorem EPost.f {ρ : List Addr} {B : Addr → Prop} {σ : St} {H : Hp} {Q : VK} {r : ER} (h : EPost P b W ρ B σ H Q r) : FPost P b W ρ B σ H Q r := by
  cases r with
  | stuck => exact h
  | exc c x h' => exact h
  | ok av h' =>
    intro ρ' H' p u e rh ov hp
    have ee : Ext b ρ' H' ρ' (upd H' p u) := Ext.new hp
    cases av with
    | lst xs =>
      obtain ⟨vs, rfl, rv⟩ := ov
      exact h ρ' _ _ (e.trans ee) (rh.frz hp) (new_lst rh hp rv)
    | dct kvs =>
      obtain ⟨us, rfl, rv⟩ := ov
      refine h ρ' _ _ (e.trans ee) (rh.frz hp) ?_
      unfold RV
      exact ⟨p, us, rfl, fun z => rh.lvR p z hp, fun z => rh.lvB p z hp, upd_same, rv.ext ee _⟩
    | non => exact ov.elim
    | bl _ => exact ov.elim
    | int _ => exact ov.elim
    | str _ => exact ov.elim
    | tup _ => exact ov.elim
    | ref _ => exact ov.elim
    | ro _ => exact ov.elim
theorem DF.de (h : DF P X b W N e ma) : DE P X b W N e ma := ⟨pe_weak h.pe fun σ H Q ⟨ρ, B, ow, σa, hh, rh, rs, hN, q⟩ => ⟨ρ, B, ow, σa, hh, rh, rs, hN, q.f⟩⟩
/-- [elt for tg in iter if ..] -/
theorem df_comp (hc : X.calm = true) (hN : X.N.Nodup) (hi : DI P X true b W N tg iter it) (ok : BlkOk X.N X.env.scope scope own)
    (hg : ∀ (s : Shared) (H : Hp) (C : Addr) (cl : List (Str × Addr)) (fp : List Addr), DG P (X.blk s H scope (compEnvC scope cl C X.env) fp) N (own.map (·.2)) tg t)
    (ht : ∀ (s : Shared) (H : Hp) (C : Addr) (cl : List (Str × Addr)) (fp : List Addr), DTs P (X.blk s H scope (compEnvC scope cl C X.env) fp) b WF N ifs mc)
    (he : ∀ (s : Shared) (H : Hp) (C : Addr) (cl : List (Str × Addr)) (fp : List Addr), DE P (X.blk s H scope (compEnvC scope cl C X.env) fp) b WF N elt me)
    (ho : ∀ i ∈ own.map (·.2), i ∉ N := by decide) (hs : ∀ x, foldedSetIterable iter X.env x = pure x := by intro _; rfl) :
    DF P X b W N (.ListComp elt [⟨tg, iter, ifs, 0⟩] scope pos) (compD (own.map (·.2)) t it mc me) :=
  ⟨pe_weak (pe_lc hc hN hi.pi ok (fun s H C cl fp => (hg s H C cl fp).pg) (fun s H C cl fp => (ht s H C cl fp).pt) (fun s H C cl fp => (he s H C cl fp).pe) hs) (comp_weak ho)⟩
/-- name = [..] -/
theorem ds_setLc {j : Nat} {y : Str} {py : Pos} (hc : X.calm = true) (hN : X.N.Nodup) (hy : X.N[j]? = some y) (hyl : X.env.scope.names.lookup y = some .local)
    (hsw : swapsWith (.ListComp elt [⟨tg, iter, ifs, 0⟩] scope pos) (some (.Name y py)) spos.line X.env = pure true) (hi : DI P X true b W N tg iter it) (ok : BlkOk X.N X.env.scope scope own)
    (hg : ∀ (s : Shared) (H : Hp) (C : Addr) (cl : List (Str × Addr)) (fp : List Addr), DG P (X.blk s H scope (compEnvC scope cl C X.env) fp) N (own.map (·.2)) tg t)
    (ht : ∀ (s : Shared) (H : Hp) (C : Addr) (cl : List (Str × Addr)) (fp : List Addr), DTs P (X.blk s H scope (compEnvC scope cl C X.env) fp) b WF N ifs mc)
    (he : ∀ (s : Shared) (H : Hp) (C : Addr) (cl : List (Str × Addr)) (fp : List Addr), DE P (X.blk s H scope (compEnvC scope cl C X.env) fp) b WF N elt me)
    (ho : ∀ i ∈ own.map (·.2), i ∉ N := by decide) (hNj : j ∉ N := by decide) (hx : Kept N Nx := by decide) (hs : ∀ x, foldedSetIterable iter X.env x = pure x := by intro _; rfl) :
    DS P X b W N Nb Nx N (.Assign [.Name y py] (.ListComp elt [⟨tg, iter, ifs, 0⟩] scope pos) spos) (setS j (compD (own.map (·.2)) t it mc me)) := by
  refine ⟨ps_weak (ps_setLc hc hN hy hyl hsw hi.pi ok (fun s H C cl fp => (hg s H C cl fp).pg) (fun s H C cl fp => (ht s H C cl fp).pt) (fun s H C cl fp => (he s H C cl fp).pe) hs) ?_⟩
  rintro D σ H ⟨ρ, B, ow, σa, h, rh, rs, rfl, q⟩
  refine comp_weak ho σ H _ ⟨ρ, B, ow, σa, h, rh, rs, rfl, EPost.f ((toS_post rs rfl hx q).imp ?_)⟩
  rintro v H1 ⟨ρ1, av, h1, e1, rh1, rv1, q1⟩
  exact q1 ρ1 ow H1 _ ExtS.refl rh1 ((rs.ext e1).set hNj rv1) rfl
/-- a new thing of the heap -/
theorem de_heap (h : DF P X b W N e ma) : DE P X b W N e (heapL ma) := by
  refine ⟨pe_weak h.pe ?_⟩
  rintro σ H Q ⟨ρ, B, ow, σa, hh, rh, rs, hN, q⟩
  refine ⟨ρ, B, ow, σa, hh, rh, rs, hN, ?_⟩
  unfold heapL at q
  cases g : ma σa hh with
  | stuck => rw [g] at q; exact q
  | exc c x h' => rw [g] at q; exact q
  | ok av h' =>
    rw [g] at q
    intro ρ' H' p u e rh' ov hp
    have key : ∀ o : AO, RO P ρ' (Bo B ow) H' o u → EPost P b W ρ (Bo B ow) σ H Q (.ok (.ref h'.length) (h' ++ [o])) → Q (.ref p) (upd H' p u) := fun o ro q => by
      refine q (ρ' ++ [p]) _ _ (e.trans (Ext.newR hp)) (rh'.new hp ro) ?_
      unfold RV
      exact ⟨p, rfl, by rw [← rh'.len]; simp⟩
    cases av with
    | lst xs => exact key (.lst xs) ov q
    | dct kvs => exact key (.dct kvs) ov q
    | non => exact q.elim
    | bl _ => exact q.elim
    | int _ => exact q.elim
    | str _ => exact q.elim
    | tup _ => exact q.elim
    | ref _ => exact q.elim
    | ro _ => exact q.elim
end
end D
end

section
namespace D
open PySem L2

abbrev plusL (B : Addr → Prop) (F : List Addr) : Addr → Prop := fun a => B a ∨ a ∈ F
theorem plusL_cons {B : Addr → Prop} {p : Addr} {F : List Addr} : plusL (plus B p) F = plusL B (p :: F) := by
  funext a
  apply propext
  constructor
  · rintro ((h | rfl) | h)
    · exact .inl h
    · exact .inr List.mem_cons_self
    · exact .inr (List.mem_cons_of_mem _ h)
  · rintro (h | h)
    · exact .inl (.inl h)
    · rcases List.mem_cons.mp h with rfl | h
      · exact .inl (.inr rfl)
      · exact .inr h
theorem plusL_nil {B : Addr → Prop} : plusL B [] = B := by
  funext a
  apply propext
  constructor
  · rintro (h | h)
    · exact h
    · cases h
  · exact .inl
/-- flags: which are new -/
def RVm (K : PySem.W.Frag) (ρ : List Addr) (B : Addr → Prop) (H : Hp) : List Bool → List Addr → List AV → List V → Prop
  | [], F, avs, vs => F = [] ∧ avs = [] ∧ vs = []
  | true :: fl, F, avs, vs => ∃ p F' av avs' vs' u, F = p :: F' ∧ avs = av :: avs' ∧ vs = .ref p :: vs' ∧ H p = some u ∧ OV K ρ B H av u ∧ p ∉ ρ ∧ RVm K ρ B H fl F' avs' vs'
  | false :: fl, F, avs, vs => ∃ av v avs' vs', avs = av :: avs' ∧ vs = v :: vs' ∧ RV K ρ B H av v ∧ RVm K ρ B H fl F avs' vs'
def MPost (P : Pm) (b : Bool) (W : WX) (ρ : List Addr) (B : Addr → Prop) (ow : List (Nat × Addr)) (σ : St) (H : Hp) (fl : List Bool) (Q : List V → Hp → Prop) : LR → Prop
  | .ok avs h' => ∀ ρ' H' vs F, Ext b ρ H ρ' H' → RH P ρ' (Bo (plusL B F) ow) H' h' → RVm P.K ρ' (Bo (plusL B F) ow) H' fl F avs vs → (∀ a ∈ F, H a = none) → F.Nodup → Q vs H'
  | .exc c f h' => ∀ ρ' H' d, Ext b ρ H ρ' H' → RH P ρ' (Bo B ow) H' h' → RX P.K ρ' (Bo B ow) H' f d → W (P.ex c) d σ H'
  | .stuck => False
def tDM (P : Pm) (b : Bool) (W : WX) (N : List Nat) (fl : List Bool) (m : LV) : TA := fun σ H Q =>
  ∃ ρ B ow σa h, RH P ρ (Bo B ow) H h ∧ RS P ρ B ow H σa σ ∧ ow.map (·.1) = N ∧ MPost P b W ρ B ow σ H fl Q (m σa h)
structure DM (P : Pm) (X : Cx) (b : Bool) (W : WX) (N : List Nat) (fl : List Bool) (es : List Expr) (m : LV) : Prop where
  pa : PA X es (tDM P b W N fl m)

section
variable {P : Pm} {K : PySem.W.Frag} {b : Bool} {W : WX} {ρ ρ' : List Addr} {B : Addr → Prop} {ow : List (Nat × Addr)} {H H' : Hp} {F : List Addr}
theorem ext_F (e : Ext b ρ H ρ' H') (hF : ∀ a ∈ F, H a = none) : ExtS b ρ [] H ρ' (F.map fun a => (0, a)) H' := ⟨e.pre, fun a o h _ k => e.keep a o h k, e.live, fun a ha => by
  obtain ⟨p, hp, rfl⟩ := List.mem_map.mp ha
  obtain ⟨c, hc, rfl⟩ := List.mem_map.mp hp
  exact .inr (hF c hc)⟩
theorem bo_F : ∀ a, Bo (plusL B F) ow a → Bo (Bo B ow) (F.map fun a => (0, a)) a := fun a z => by
  rcases z with (z | z) | z
  · exact .inl (.inl z)
  · exact .inr (by simpa using z)
  · exact .inl (.inr z)
theorem RV.toF (e : Ext b ρ H ρ' H') (hF : ∀ a ∈ F, H a = none) {x : AV} {v : V} (r : RV K ρ (Bo B ow) H x v) : RV K ρ' (Bo (plusL B F) ow) H' x v := (RV.extS (ext_F e hF) x (r.anti bo_nil x)).anti bo_F x
theorem RVs.toF (e : Ext b ρ H ρ' H') (hF : ∀ a ∈ F, H a = none) {x : List AV} {v : List V} (r : RVs K ρ (Bo B ow) H x v) : RVs K ρ' (Bo (plusL B F) ow) H' x v := (RVs.extS (ext_F e hF) x (r.anti bo_nil x)).anti bo_F x
theorem RKs.toF (e : Ext b ρ H ρ' H') (hF : ∀ a ∈ F, H a = none) {x : List (AV × AV)} {v : List (Key × V)} (r : RKs K ρ (Bo B ow) H x v) : RKs K ρ' (Bo (plusL B F) ow) H' x v := (RKs.extS (ext_F e hF) x (r.anti bo_nil x)).anti bo_F x
theorem OV.toF (e : Ext b ρ H ρ' H') (hF : ∀ a ∈ F, H a = none) : ∀ {x : AV} {v : HO}, OV K ρ (Bo B ow) H x v → OV K ρ' (Bo (plusL B F) ow) H' x v
  | .lst xs, _, ⟨vs, h1, h2⟩ => ⟨vs, h1, h2.toF e hF⟩
  | .dct xs, _, ⟨vs, h1, h2⟩ => ⟨vs, h1, h2.toF e hF⟩
theorem RS.toF {σa : AS} {σ : St} (e : Ext b ρ H ρ' H') (hF : ∀ a ∈ F, H a = none) (r : RS P ρ B ow H σa σ) : RS P ρ' (plusL B F) ow H' σa σ := by
  have no : ∀ p ∈ ow, H p.2 ≠ none := fun p hp z => by
    obtain ⟨_, _, _, _, h3, _⟩ := r.own p hp
    rw [z] at h3; cases h3
  refine ⟨r.len, r.nd1, r.nd2, fun p hp => ⟨e.notin (r.out p hp).1 (no p hp), fun z => ?_⟩, fun i av h1 h2 => ?_, fun p hp => ?_⟩
  · rcases z with z | z
    · exact (r.out p hp).2 z
    · exact no p hp (hF _ z)
  · obtain ⟨v, h3, h4⟩ := r.val i av h1 h2
    exact ⟨v, h3, h4.toF e hF⟩
  · obtain ⟨av, w, h1, h2, h3, h4⟩ := r.own p hp
    exact ⟨av, w, h1, h2, e.keep _ _ (.inr (r.out p hp).1) h3, h4.toF e hF⟩
end

section
variable {P : Pm} {X : Cx} {b : Bool} {W : WX} {N Nb Nx N' : List Nat} {e : Expr} {es : List Expr} {ma : EV} {ms : List EV} {fl : List Bool} {pos : Pos}
theorem RX.anti {K : PySem.W.Frag} {ρ : List Addr} {B B' : Addr → Prop} {H : Hp} (hB : ∀ a, B' a → B a) : ∀ {f : XF} {d : Option Addr}, RX K ρ B H f d → RX K ρ B' H f d
  | none, _, h => h
  | some fs, _, ⟨dx, us, h1, h2, h3, h4, h5⟩ => ⟨dx, us, h1, h2, fun z => h3 (hB _ z), h4, h5.anti hB fs⟩
theorem dm_nil : DM P X b W N [] [] (evs []) := by
  refine ⟨pa_weak pa_nil ?_⟩
  rintro σ H Q ⟨ρ, B, ow, σa, h, rh, rs, hN, q⟩
  exact q ρ H [] [] (Ext.refl b ρ H) (by rw [plusL_nil]; exact rh) ⟨rfl, rfl, rfl⟩ (by simp) List.nodup_nil
theorem dm_new (he : DF P X b W N e ma) (ht : DM P X b W N fl es (evs ms)) (hs : starEach (e :: es) X.env = (false, eval e X.env) :: starEach es X.env := by rfl) : DM P X b W N (true :: fl) (e :: es) (evs (ma :: ms)) := by
  refine ⟨pa_weak (pa_cons he.pe ht.pa hs) ?_⟩
  rintro σ H Q ⟨ρ, B, ow, σa, h, rh, rs, hN, q⟩
  refine ⟨ρ, B, ow, σa, h, rh, rs, hN, ?_⟩
  unfold evs at q
  cases g : ma σa h with
  | stuck => rw [g] at q; exact q
  | exc c x h' => rw [g] at q; exact q
  | ok av h1 =>
    rw [g] at q
    intro ρ1 H1 p u e1 rh1 ov hp
    refine ⟨ρ1, plus B p, ow, σa, h1, rh1.fgn hp, (rs.ext e1).fgn hp, hN, ?_⟩
    have q : MPost P b W ρ B ow σ H (true :: fl) Q ((evs ms σa h1).bindL fun vs h2 => .ok (av :: vs) h2) := q
    have ee : Ext b ρ H ρ1 (upd H1 p u) := e1.trans (Ext.new hp)
    cases g2 : evs ms σa h1 with
    | stuck => rw [g2] at q; exact q
    | exc c x h' =>
      rw [g2] at q
      intro ρ2 H2 d e2 rh2 rx
      exact q ρ2 H2 d (ee.trans e2) (rh2.anti bo_minus) (rx.anti bo_minus)
    | ok avs h2 =>
      rw [g2] at q
      intro ρ2 H2 vs F e2 rh2 rv2 hF hnd
      have np : p ∉ F := fun z => by
        have := hF p z
        rw [upd_same] at this; cases this
      have npr : p ∉ ρ1 := fun z => rh1.lvR p z hp
      refine q ρ2 H2 (.ref p :: vs) (p :: F) (ee.trans e2) (by rw [← plusL_cons]; exact rh2) ⟨p, F, av, avs, vs, u, rfl, rfl, rfl, e2.keep p u (.inr npr) upd_same, ?_, e2.notin npr (by rw [upd_same]; simp), by rw [← plusL_cons]; exact rv2⟩ (fun a ha => ?_) (List.nodup_cons.mpr ⟨np, hnd⟩)
      · rw [← plusL_cons]
        exact OV.toF e2 hF (ov.fgn hp)
      · have z : H1 a = none := by
          rcases List.mem_cons.mp ha with rfl | ha
          · exact hp
          · have := hF a ha
            by_cases q : a = p
            · subst q; exact hp
            · rw [upd_ne q] at this; exact this
        cases q : H a with
        | none => rfl
        | some o => exact absurd z (e1.live a (by rw [q]; simp))
theorem dm_val (he : DE P X b W N e ma) (ht : DM P X b W N fl es (evs ms)) (hs : starEach (e :: es) X.env = (false, eval e X.env) :: starEach es X.env := by rfl) : DM P X b W N (false :: fl) (e :: es) (evs (ma :: ms)) := by
  refine ⟨pa_weak (pa_cons he.pe ht.pa hs) ?_⟩
  rintro σ H Q ⟨ρ, B, ow, σa, h, rh, rs, hN, q⟩
  refine ⟨ρ, B, ow, σa, h, rh, rs, hN, ?_⟩
  unfold evs at q
  cases g : ma σa h with
  | stuck => rw [g] at q; exact q
  | exc c x h' => rw [g] at q; exact q
  | ok av h1 =>
    rw [g] at q
    intro ρ1 H1 v e1 rh1 rv
    refine ⟨ρ1, B, ow, σa, h1, rh1, rs.ext e1, hN, ?_⟩
    have q : MPost P b W ρ B ow σ H (false :: fl) Q ((evs ms σa h1).bindL fun vs h2 => .ok (av :: vs) h2) := q
    cases g2 : evs ms σa h1 with
    | stuck => rw [g2] at q; exact q
    | exc c x h' =>
      rw [g2] at q
      exact fun ρ2 H2 d e2 => q ρ2 H2 d (e1.trans e2)
    | ok avs h2 =>
      rw [g2] at q
      intro ρ2 H2 vs F e2 rh2 rv2 hF hnd
      refine q ρ2 H2 (v :: vs) F (e1.trans e2) rh2 ⟨av, v, avs, vs, rfl, rfl, RV.toF e2 hF rv, rv2⟩ (fun a ha => ?_) hnd
      cases q : H a with
      | none => rfl
      | some o => exact absurd (hF a ha) (e1.live a (by rw [q]; simp))

def ownN : List Nat → List Bool → List Nat → List Nat
  | i :: is, true :: fl, N => ownN is fl (i :: N)
  | i :: is, false :: fl, N => ownN is fl N
  | _, _, N => N
/-- .. is taken by a name -/
theorem bo_own {B : Addr → Prop} {p : Addr} {i : Nat} {ow : List (Nat × Addr)} : Bo (plus B p) ow = Bo B ((i, p) :: ow) := by
  funext a
  apply propext
  constructor
  · rintro ((h | rfl) | h)
    · exact .inl h
    · exact .inr (by simp)
    · exact .inr (by rw [List.map_cons]; exact List.mem_cons_of_mem _ h)
  · rintro (h | h)
    · exact .inl (.inl h)
    · rw [List.map_cons] at h
      rcases List.mem_cons.mp h with h | h
      · exact .inl (.inr h)
      · exact .inr h
theorem RS.own1 {ρ : List Addr} {B : Addr → Prop} {ow : List (Nat × Addr)} {H : Hp} {σa : AS} {σ : St} {p : Addr} {i : Nat} {av : AV} {u : HO} (r : RS P ρ (plus B p) ow H σa σ) (hi : i ∉ ow.map (·.1)) (hl : i < σa.length) (hr : p ∉ ρ) (hb : ¬ B p) (hH : H p = some u) (ho : OV P.K ρ (Bo (plus B p) ow) H av u) :
    RS P ρ B ((i, p) :: ow) H (σa.set i (some av)) (σ.set i (some (.ref p))) := by
  have np : p ∉ ow.map (·.2) := fun z => by
    obtain ⟨q, hq, e⟩ := List.mem_map.mp z
    exact (r.out q hq).2 (.inr e)
  refine ⟨by simp [r.len], List.nodup_cons.mpr ⟨hi, r.nd1⟩, List.nodup_cons.mpr ⟨np, r.nd2⟩, fun q hq => ?_, fun j x h1 h2 => ?_, fun q hq => ?_⟩
  · rcases List.mem_cons.mp hq with rfl | hq
    · exact ⟨hr, hb⟩
    · exact ⟨(r.out q hq).1, fun z => (r.out q hq).2 (.inl z)⟩
  · have hj : j ≠ i := fun z => h2 (by rw [z]; exact List.mem_cons_self)
    have hj2 : j ∉ ow.map (·.1) := fun z => h2 (List.mem_cons_of_mem _ z)
    rw [List.getElem?_set_ne (Ne.symm hj)] at h1
    obtain ⟨w, h3, h4⟩ := r.val j x h1 hj2
    exact ⟨w, by rw [List.getElem?_set_ne (Ne.symm hj)]; exact h3, by rw [← bo_own]; exact h4⟩
  · rcases List.mem_cons.mp hq with rfl | hq
    · exact ⟨av, u, by rw [List.getElem?_set_self hl], by rw [List.getElem?_set_self (by rw [← r.len]; exact hl)], hH, by rw [← bo_own]; exact ho⟩
    · have hj : i ≠ q.1 := fun z => hi (by rw [z]; exact mem_fst hq)
      obtain ⟨x, w, h1, h2, h3, h4⟩ := r.own q hq
      exact ⟨x, w, by rw [List.getElem?_set_ne hj]; exact h1, by rw [List.getElem?_set_ne hj]; exact h2, h3, by rw [← bo_own]; exact h4⟩
/-- all of them -/
theorem RS.ownM : ∀ {is : List Nat} {fl : List Bool} {F : List Addr} {avs : List AV} {vs : List V} {ρ : List Addr} {B : Addr → Prop} {ow : List (Nat × Addr)} {H : Hp} {σa : AS} {σ : St}, RS P ρ (plusL B F) ow H σa σ → RVm P.K ρ (Bo (plusL B F) ow) H fl F avs vs →
    (∀ a ∈ F, ¬ B a) → F.Nodup → is.Nodup → (∀ i ∈ is, i ∉ ow.map (·.1)) → (∀ i ∈ is, i < σa.length) → is.length = fl.length →
    ∃ ow', ow'.map (·.1) = ownN is fl (ow.map (·.1)) ∧ Bo (plusL B F) ow = Bo B ow' ∧ RS P ρ B ow' H (setAll σa is avs) (setAll σ is vs) ∧ (∀ a ∈ ow'.map (·.2), a ∈ ow.map (·.2) ∨ a ∈ F)
  | [], [], F, avs, vs, ρ, B, ow, H, σa, σ, r, rv, hB, hnd, hi, hn, hl, hlen => by
    obtain ⟨rfl, rfl, rfl⟩ := rv
    rw [plusL_nil] at r ⊢
    exact ⟨ow, rfl, rfl, r, fun a ha => .inl ha⟩
  | [], _ :: _, _, _, _, _, _, _, _, _, _, _, _, _, _, _, _, _, hlen => by cases hlen
  | _ :: _, [], _, _, _, _, _, _, _, _, _, _, _, _, _, _, _, _, hlen => by cases hlen
  | i :: is, true :: fl, F, avs, vs, ρ, B, ow, H, σa, σ, r, rv, hB, hnd, hi, hn, hl, hlen => by
    obtain ⟨p, F', av, avs', vs', u, rfl, rfl, rfl, hH, ho, hr, rv⟩ := rv
    obtain ⟨np, hnd⟩ := List.nodup_cons.mp hnd
    obtain ⟨ni, hi⟩ := List.nodup_cons.mp hi
    have e1 : plus (plusL B F') p = plusL B (p :: F') := by
      funext a
      apply propext
      constructor
      · rintro ((h | h) | rfl)
        · exact .inl h
        · exact .inr (List.mem_cons_of_mem _ h)
        · exact .inr List.mem_cons_self
      · rintro (h | h)
        · exact .inl (.inl h)
        · rcases List.mem_cons.mp h with rfl | h
          · exact .inr rfl
          · exact .inl (.inr h)
    rw [← e1] at r ho rv
    have r1 := r.own1 (hn i List.mem_cons_self) (hl i List.mem_cons_self) hr (fun z => by
      rcases z with z | z
      · exact hB p List.mem_cons_self z
      · exact np z) hH ho
    have e2 : Bo (plus (plusL B F') p) ow = Bo (plusL B F') ((i, p) :: ow) := bo_own
    rw [e2] at rv
    obtain ⟨ow', g1, g2, g3, g4⟩ := RS.ownM r1 rv (fun a ha => hB a (List.mem_cons_of_mem _ ha)) hnd hi (fun j hj z => by
      rcases List.mem_cons.mp z with z | z
      · have z' : j = i := z
        exact ni (by rw [← z']; exact hj)
      · exact hn j (List.mem_cons_of_mem _ hj) z) (fun j hj => by rw [List.length_set]; exact hl j (List.mem_cons_of_mem _ hj)) (Nat.succ.inj hlen)
    refine ⟨ow', g1, by rw [← e1, e2]; exact g2, g3, fun a ha => ?_⟩
    rcases g4 a ha with z | z
    · rcases List.mem_cons.mp z with z | z
      · exact .inr (by have : a = p := z
                       rw [this]; exact List.mem_cons_self)
      · exact .inl z
    · exact .inr (List.mem_cons_of_mem _ z)
  | i :: is, false :: fl, F, avs, vs, ρ, B, ow, H, σa, σ, r, rv, hB, hnd, hi, hn, hl, hlen => by
    obtain ⟨av, v, avs', vs', rfl, rfl, h1, rv⟩ := rv
    obtain ⟨ni, hi⟩ := List.nodup_cons.mp hi
    exact RS.ownM (is := is) (fl := fl) (σa := σa.set i (some av)) (r.set (hn i List.mem_cons_self) h1) rv hB hnd hi (fun j hj => hn j (List.mem_cons_of_mem _ hj)) (fun j hj => by rw [List.length_set]; exact hl j (List.mem_cons_of_mem _ hj)) (Nat.succ.inj hlen)
/-- the statement's end -/
theorem par_end {is : List Nat} {D : Ends} {σ : St} {H : Hp} {ρ : List Addr} {B : Addr → Prop} {ow : List (Nat × Addr)} {σa : AS} {h : AH} (rh : RH P ρ (Bo B ow) H h) (rs : RS P ρ B ow H σa σ) (hx : Kept (ow.map (·.1)) Nx) (hi : is.Nodup) (hn : ∀ i ∈ is, i ∉ ow.map (·.1)) (hl : ∀ i ∈ is, i < σa.length) (hlen : is.length = fl.length)
    (q : SPost P b W Nb Nx (ownN is fl (ow.map (·.1))) ρ B ow H D (parS is ms σa h)) (T : Hp → Hp → Prop) (hT : ∀ H1 H2, T H1 H2 → H2 = H1 ∨ ∃ p vs, H1 p = none ∧ H2 = upd H1 p (.tup vs)) :
    MPost P b W ρ B ow σ H fl (fun vs H1 => ∀ H2, T H1 H2 → D.nx (setAll σ is vs) H2) (evs ms σa h) := by
  unfold parS at q
  cases g : evs ms σa h with
  | stuck => rw [g] at q; exact q
  | exc c x h' => rw [g] at q; exact exc_restrict rs hx q
  | ok avs h1 =>
    rw [g] at q
    intro ρ1 H1 vs F e1 rh1 rv1 hF hnd H2 ht
    have nB : ∀ a ∈ F, ¬ B a := fun a ha z => rh.lvB a (.inl z) (hF a ha)
    have rs1 := rs.toF e1 hF
    obtain ⟨ow', g1, g2, g3, g4⟩ := RS.ownM rs1 rv1 nB hnd hi hn hl hlen
    rw [g2] at rh1
    have q : ∀ ρ' ow' H' σ', ExtS b ρ ow H ρ' ow' H' → RH P ρ' (Bo B ow') H' h1 → RS P ρ' B ow' H' (setAll σa is avs) σ' → ow'.map (·.1) = ownN is fl (ow.map (·.1)) → D.nx σ' H' := q
    have eS : ExtS b ρ ow H ρ1 ow' H1 := ⟨e1.pre, fun a o z _ k => e1.keep a o z k, e1.live, fun a ha => by
      rcases g4 a ha with z | z
      · exact .inl z
      · exact .inr (hF a z)⟩
    rcases hT H1 H2 ht with rfl | ⟨p, us, hp, rfl⟩
    · exact q ρ1 ow' _ _ eS rh1 g3 g1
    · have e3 : Ext b ρ1 H1 ρ1 (upd H1 p (.tup us)) := Ext.new hp
      exact q ρ1 ow' _ _ (eS.trans (ExtS.of e3)) (rh1.frz hp) (g3.ext e3) g1

theorem ds_par2 {i j : Nat} {x y : Str} {a c : Expr} {px py pt : Pos} {kt k2 : Nat} {pt2 : Pos} (hc : X.calm = true) (hN : X.N.Nodup) (hi : X.N[i]? = some x) (hj : X.N[j]? = some y) (hx' : X.env.scope.names.lookup x = some .local) (hy' : X.env.scope.names.lookup y = some .local) (ha : DM P X b W N fl [a, c] (evs ms))
    (hw : swappedStores [.Tuple [.Name x px, .Name y py] kt pt] (.Tuple [a, c] k2 pt2) X.env = pure (some [x, y]))
    (hs : swapsWithSole [.Tuple [.Name x px, .Name y py] kt pt] (.Tuple [a, c] k2 pt2) pos.line X.env = pure false := by rfl) (hx : Kept N Nx := by decide) (hnd : [i, j].Nodup := by decide) (hn : ∀ l ∈ [i, j], l ∉ N := by decide) (hl : ∀ l ∈ [i, j], l < X.N.length := by decide) (hlen : [i, j].length = fl.length := by rfl) :
    DS P X b W N Nb Nx (ownN [i, j] fl N) (.Assign [.Tuple [.Name x px, .Name y py] kt pt] (.Tuple [a, c] k2 pt2) pos) (parS [i, j] ms) := by
  have hij : i ≠ j := fun z => by subst z; simp at hnd
  refine ⟨⟨fun pins s σ H D I hq => ?_⟩⟩
  refine (ps_weak (t' := fun D σ H => σ.length = X.N.length ∧ tDS P b W N Nb Nx (ownN [i, j] fl N) (parS [i, j] ms) D σ H) (ps_par hc hN hi hj hij hx' hy' ha.pa hw hs) ?_).run pins s σ H D I ⟨I.len, hq⟩
  rintro D σ H ⟨hlen', ρ, B, ow, σa, h, rh, rs, rfl, q⟩
  refine ⟨ρ, B, ow, σa, h, rh, rs, rfl, ?_⟩
  have r := par_end rh rs hx hnd hn (fun l hh => by rw [rs.len, hlen']; exact hl l hh) hlen q (fun H1 H2 => H2 = H1) fun _ _ h => .inl h
  cases g : evs ms σa h with
  | stuck => rw [g] at r; exact r
  | exc c x h' => rw [g] at r; exact r
  | ok avs h1 =>
    rw [g] at r
    intro ρ1 H1 vs F e1 rh1 rv1 hF hnd'
    have q1 := r ρ1 H1 vs F e1 rh1 rv1 hF hnd' H1 rfl
    have : ∃ v w, vs = [v, w] := by
      match fl, hlen with
      | [f1, f2], _ =>
        cases f1 <;> cases f2 <;> (simp only [RVm] at rv1)
        · obtain ⟨_, v, _, _, _, rfl, _, _, w, _, _, _, rfl, _, _, _, rfl⟩ := rv1; exact ⟨_, _, rfl⟩
        · obtain ⟨_, v, _, _, _, rfl, _, _, _, _, _, _, _, _, _, rfl, _, _, _, _, _, rfl⟩ := rv1; exact ⟨_, _, rfl⟩
        · obtain ⟨_, _, _, _, _, _, _, _, rfl, _, _, _, _, w, _, _, _, rfl, _, _, _, rfl⟩ := rv1; exact ⟨_, _, rfl⟩
        · obtain ⟨_, _, _, _, _, _, _, _, rfl, _, _, _, _, _, _, _, _, _, _, _, rfl, _, _, _, _, _, rfl⟩ := rv1; exact ⟨_, _, rfl⟩
    obtain ⟨v, w, rfl⟩ := this
    exact ⟨v, w, rfl, q1⟩
theorem rvm_len {K : PySem.W.Frag} {ρ : List Addr} {B : Addr → Prop} {H : Hp} : ∀ {fl : List Bool} {F : List Addr} {avs : List AV} {vs : List V}, RVm K ρ B H fl F avs vs → vs.length = fl.length
  | [], _, _, _, ⟨_, _, e⟩ => by rw [e]; rfl
  | true :: fl, _, _, _, ⟨_, _, _, _, _, _, _, _, e, _, _, _, r⟩ => by rw [e, List.length_cons, rvm_len r]; rfl
  | false :: fl, _, _, _, ⟨_, _, _, _, _, e, _, r⟩ => by rw [e, List.length_cons, rvm_len r]; rfl
theorem ds_par3 {i j l : Nat} {x y z : Str} {a c d : Expr} {px py pz pt : Pos} {kt k2 : Nat} {pt2 : Pos} (hc : X.calm = true) (hN : X.N.Nodup) (hi : X.N[i]? = some x) (hj : X.N[j]? = some y) (hk : X.N[l]? = some z) (hx' : X.env.scope.names.lookup x = some .local) (hy' : X.env.scope.names.lookup y = some .local) (hz' : X.env.scope.names.lookup z = some .local) (ha : DM P X b W N fl [a, c, d] (evs ms))
    (hw : swappedStores [.Tuple [.Name x px, .Name y py, .Name z pz] kt pt] (.Tuple [a, c, d] k2 pt2) X.env = pure (some [x, y, z]))
    (hs : swapsWithSole [.Tuple [.Name x px, .Name y py, .Name z pz] kt pt] (.Tuple [a, c, d] k2 pt2) pos.line X.env = pure false := by rfl) (hx : Kept N Nx := by decide) (hnd : [i, j, l].Nodup := by decide) (hn : ∀ q ∈ [i, j, l], q ∉ N := by decide) (hl : ∀ q ∈ [i, j, l], q < X.N.length := by decide) (hlen : [i, j, l].length = fl.length := by rfl) :
    DS P X b W N Nb Nx (ownN [i, j, l] fl N) (.Assign [.Tuple [.Name x px, .Name y py, .Name z pz] kt pt] (.Tuple [a, c, d] k2 pt2) pos) (parS [i, j, l] ms) := by
  have hij : i ≠ j := fun z => by subst z; simp at hnd
  have hil : i ≠ l := fun z => by subst z; simp at hnd
  have hjl : j ≠ l := fun z => by subst z; simp at hnd
  refine ⟨⟨fun pins s σ H D I hq => ?_⟩⟩
  refine (ps_weak (t' := fun D σ H => σ.length = X.N.length ∧ tDS P b W N Nb Nx (ownN [i, j, l] fl N) (parS [i, j, l] ms) D σ H) (ps_par3 hc hN hi hj hk hij hil hjl hx' hy' hz' ha.pa hw hs) ?_).run pins s σ H D I ⟨I.len, hq⟩
  rintro D σ H ⟨hlen', ρ, B, ow, σa, h, rh, rs, rfl, q⟩
  refine ⟨ρ, B, ow, σa, h, rh, rs, rfl, ?_⟩
  have r := par_end rh rs hx hnd hn (fun l hh => by rw [rs.len, hlen']; exact hl l hh) hlen q (fun H1 H2 => H2 = H1) fun _ _ h => .inl h
  cases g : evs ms σa h with
  | stuck => rw [g] at r; exact r
  | exc c x h' => rw [g] at r; exact r
  | ok avs h1 =>
    rw [g] at r
    intro ρ1 H1 vs F e1 rh1 rv1 hF hnd'
    have q1 := r ρ1 H1 vs F e1 rh1 rv1 hF hnd' H1 rfl
    have hv := rvm_len rv1
    rw [← hlen] at hv
    match vs, hv with
    | [u, v, w], _ => exact ⟨u, v, w, rfl, q1⟩

def gsN (is : List Nat) : TGs := fun vs σ H Q => vs.length = is.length ∧ Q (setAll σ is vs) H
structure DGn (X : Cx) (is : List Nat) (tgs : List Expr) : Prop where
  pg : PGs X tgs (gsN is)
theorem dgn_nil : DGn X [] [] := ⟨pgs_weak pgs_nil fun vs σ H Q ⟨h1, h2⟩ => by
  have : vs = [] := List.eq_nil_of_length_eq_zero h1
  subst this
  exact ⟨rfl, h2⟩⟩
theorem dgn_cons (i : Nat) {x : Str} {is : List Nat} {tgs : List Expr} (hN : X.N.Nodup) (h2 : DGn X is tgs) (hi : X.N[i]? = some x := by rfl) (hx : L2.Loc X.env.scope x := by first | exact Or.inl rfl | exact Or.inr rfl) (hf : X.fn x = true ∨ X.env.scope.names.lookup x = some .local := by first | exact .inl rfl | exact .inr rfl | assumption)
    (hs : (assignEach (.Name x pos :: tgs) X.env).map (·.2) = assign (.Name x pos) X.env :: (assignEach tgs X.env).map (·.2) := by rfl) : DGn X (i :: is) (.Name x pos :: tgs) := by
  refine ⟨pgs_weak (pgs_cons (pg_name hN hi hx hf) h2.pg hs) ?_⟩
  rintro vs σ H Q ⟨hl, q⟩
  cases vs with
  | nil => cases hl
  | cons v r => exact ⟨v, r, rfl, Nat.succ.inj hl, q⟩
theorem ds_parT {is : List Nat} {tgs : List Expr} {pt : Pos} {kt k2 : Nat} {pt2 : Pos} (hc : X.calm = true) (hg : DGn X is tgs) (ha : DM P X b W N fl es (evs ms)) (hx : Kept N Nx := by decide) (hnd : is.Nodup := by decide) (hn : ∀ l ∈ is, l ∉ N := by decide) (hl : ∀ l ∈ is, l < X.N.length := by decide) (hlen : is.length = fl.length := by rfl)
    (hne : (assignEach tgs X.env).length = is.length := by rfl) (hst : (assignEach tgs X.env).findIdx? (·.1) = none := by rfl) (hs : swapsWithSole [.Tuple tgs kt pt] (.Tuple es k2 pt2) pos.line X.env = pure false := by rfl) (hw : swappedStores [.Tuple tgs kt pt] (.Tuple es k2 pt2) X.env = pure none := by rfl)
    (h1 : (assignEach [.Tuple tgs kt pt] X.env).map (·.2) = [assign (.Tuple tgs kt pt) X.env] := by rfl) (hsmall : fl.length ≤ LIM := by decide) :
    DS P X b W N Nb Nx (ownN is fl N) (.Assign [.Tuple tgs kt pt] (.Tuple es k2 pt2) pos) (parS is ms) := by
  refine ⟨⟨fun pins s σ H D I hq => ?_⟩⟩
  refine (ps_weak (t' := fun D σ H => σ.length = X.N.length ∧ tDS P b W N Nb Nx (ownN is fl N) (parS is ms) D σ H) (ps_asg (pe_tup ha.pa) (pg_tup hc hg.pg hne hst) hs hw h1) ?_).run pins s σ H D I ⟨I.len, hq⟩
  rintro D σ H ⟨hlen', ρ, B, ow, σa, h, rh, rs, rfl, q⟩
  refine ⟨ρ, B, ow, σa, h, rh, rs, rfl, ?_⟩
  have r := par_end rh rs hx hnd hn (fun l hh => by rw [rs.len, hlen']; exact hl l hh) hlen q (fun H1 H2 => ∃ p vs, H1 p = none ∧ H2 = upd H1 p (.tup vs)) fun _ _ h => .inr h
  cases g : evs ms σa h with
  | stuck => rw [g] at r; exact r
  | exc c x h' => rw [g] at r; exact r
  | ok avs h1 =>
    rw [g] at r
    intro ρ1 H1 vs F e1 rh1 rv1 hF hnd'
    have hv := rvm_len rv1
    refine ⟨by rw [hv]; exact hsmall, fun p hp => ⟨p, vs, rfl, .inl (.inl upd_same), by rw [hv, hlen], by rw [hv, hlen], r ρ1 H1 vs F e1 rh1 rv1 hF hnd' _ ⟨p, vs, hp, rfl⟩⟩⟩
end
end D
end

section
namespace D
open PySem L2

theorem ExtS.wk {b : Bool} {ρ ρ' : List Addr} {ow ow' : List (Nat × Addr)} {H H' : Hp} (e : ExtS true ρ ow H ρ' ow' H') : ExtS b ρ ow H ρ' ow' H' := ⟨e.pre, fun a o _ w k => e.keep a o (.inl rfl) w k, e.live, e.own⟩

section
open PyProof.Rows
variable {X : Cx}
def rGet2 (K : PySem.W.Frag) : R2 := fun x y H Q => rIxL K x y H Q ∨ rIxD x y H Q
theorem get2 (hu : X.A.units + 1 < cLine) : PGet X (rGet2 X.K) := by
  intro pins s σ H x y v u Q I rx ry h
  rcases h with h | h
  · obtain ⟨p, xs, i, z, rfl, rfl, hq, he, q⟩ := h
    cases rx
    obtain ⟨t, rfl⟩ := ry
    obtain ⟨its, r, pl, hz⟩ := I.list hq
    obtain ⟨j, h1, h2, h3, h4, h5⟩ := atI_get he
    obtain ⟨w, ew, rw'⟩ := r.get h2
    have hl := r.length
    have hn := line63
    have fin : EP X pins σ Q w s := ⟨z, H, I, rw', q⟩
    by_cases h0 : 0 ≤ i
    · have hj : i.toNat = j := by
        rw [seqIndex_of h0 h5] at h1
        exact Option.some.inj h1
      exact wpAny_getItem_list pl.isList h0 (by omega) (by rw [hj]; simpa using ew) fin
    · have hj : (i + (its.toArray.size : Int)).toNat = j := by
        rw [seqIndex_neg (by omega) h4] at h1
        rw [List.size_toArray, ← hl]
        exact Option.some.inj h1
      exact wpAny_getItem_list_neg pl.isList (by omega) (by rw [List.size_toArray] <;> omega) (by omega) (by rw [hj]; simpa using ew) fin
  · obtain ⟨p, z, rfl, g, q⟩ := h
    cases rx
    exact d_getItem hu I g ry fun w' s' I' rw' => ⟨z, H, I', rw', q⟩
def rSet2 : TSet := fun o i v H Q => rSetL o i v H Q ∨ rSetD o i v H Q
theorem set2 (hu : X.A.units + 1 < cLine) : PSet X rSet2 := by
  intro pins s σ H o i v ov iv u Q I ro ri rv h
  rcases h with h | h
  · exact set_list pins s σ H o i v ov iv u Q I ro ri rv h
  · exact set_dict hu pins s σ H o i v ov iv u Q I ro ri rv h
end
section
variable {P : Pm} {ρ : List Addr} {B : Addr → Prop} {H : Hp} {h h' : AH} {i : Nat} {kv w : AV} {x y v : V} {Qh : Hp → Prop}
theorem key_of {k : AV} {u : V} (hk : flatK k = true) (r : RVb P.K ρ B H k u) : ∃ k', keyOf k = some k' ∧ u = kV k' := by
  cases k with
  | int i => exact ⟨.inl i, rfl, rv_int r⟩
  | str s => exact ⟨.inr s, rfl, rv_str r⟩
  | _ => cases hk
theorem put_at (rh : RH P ρ B H h) (rx : RVb P.K ρ B H (.ref i) x) (ry : RVb P.K ρ B H kv y) (rv : RV P.K ρ B H w v) (e : hput1 i kv w h = some h') (q : ∀ H', Ext false ρ H ρ H' → RH P ρ B H' h' → Qh H') : rSet2 x y v H Qh := by
  rcases rx with rx | ⟨_, _, _, _, _, rx⟩
  case inr => exact rx.elim
  unfold RV at rx
  obtain ⟨a, rfl, ha⟩ := rx
  have hm : a ∈ ρ := List.mem_of_getElem? ha
  unfold hput1 at e
  split at e
  · rename_i xs hx
    obtain ⟨z, ez, e⟩ := Option.bind_eq_some_iff.mp e
    obtain ⟨j, ej, rfl⟩ := Option.map_eq_some_iff.mp e
    obtain ⟨u, hH, vs, rfl, rvs⟩ := rh.at ha hx
    have : kv = .int z := by
      cases kv <;> simp [iOf] at ez
      rw [ez]
    subst this
    refine .inl ⟨a, vs, z, j, rfl, rv_int ry, hH, by rw [← rvs.len]; exact ej, q _ (Ext.put hm) (rh.put ha ⟨_, rfl, RVs.set rv j rvs⟩)⟩
  · rename_i kvs hx
    split at e
    · rename_i hc
      cases e
      rw [Bool.and_eq_true, decide_eq_true_eq] at hc
      obtain ⟨u, hH, us, rfl, rks⟩ := rh.at ha hx
      obtain ⟨k', hk, rfl⟩ := key_of hc.1 ry
      exact .inr ⟨a, _, rfl, DPut.k hH (by rw [← rks.len]; exact hc.2), q _ (Ext.put hm) (rh.put ha ⟨_, rfl, dput_val hk rv rks⟩)⟩
    · cases e
  · cases e
theorem get_b {av xv : AV} {Q : VK} (rh : RH P ρ B H h) (rx : RVb P.K ρ B H av x) (ry : RVb P.K ρ B H kv y) (e : getH av kv h = some xv) (q : ∀ z, RV P.K ρ B H xv z → Q z H) : rGet2 P.K x y H Q := by
  unfold getH at e
  cases er : rl h av with
  | some xs =>
    rw [er] at e
    obtain ⟨a1, vs, e1, h1, g1⟩ := rv_rl rh rx er
    have e' : atA xs kv = some xv := e
    unfold atA at e'
    cases ek : iOf kv with
    | none => rw [ek] at e'; cases e'
    | some k =>
      rw [ek] at e'
      have eb : kv = .int k := by cases kv <;> first | (cases ek; rfl) | cases ek
      subst eb
      obtain ⟨u, e2, g2⟩ := at_rv g1 (show atI xs k = some xv from e')
      exact .inl ⟨a1, vs, k, u, e1, rv_int ry, h1, e2, q u g2⟩
  | none =>
    rw [er] at e
    cases ed : dv h av with
    | none => rw [ed] at e; cases e
    | some kvs =>
      rw [ed] at e
      have e' : atK kvs kv = some xv := e
      unfold atK at e'
      split at e'
      · rename_i hk
        obtain ⟨a1, us, e1, h1, g1⟩ := rv_dv rh rx ed
        obtain ⟨k', hk', e2⟩ := key_kv hk ry
        obtain ⟨u, g3, g4⟩ := (dlook_val hk' g1).1 xv e'
        refine .inr ⟨a1, u, e1, ?_, q u g4⟩
        rw [e2, ← g3]
        exact DGet.k h1
      · cases e'
end
section
variable {P : Pm} {X : Cx} {W : WX} {N Nb Nx N' : List Nat} {e k o i d : Expr} {es : List Expr} {pos tpos : Pos} {ma mb mc mo mk : EV} {f : AV → AV → AH → ER}
theorem rf_of {ov : AV} {kv w : AV} {h h' : AH} (e : ((rfOf ov).bind fun i => hput1 i kv w h) = some h') : ∃ i, ov = .ref i ∧ hput1 i kv w h = some h' := by
  cases ov with
  | ref i => exact ⟨i, rfl, e⟩
  | _ => cases e
theorem ds_hput (hu : X.A.units + 1 < cLine) (he : DE P X false W N e ma) (ho : DE P X false W N o mo) (hk : DB P X false W N k mk) (hx : Kept N Nx := by decide)
    (hs : swapsWithSole [.Subscript o k tpos] e pos.line X.env = pure false := by rfl) (hw : swappedStores [.Subscript o k tpos] e X.env = pure none := by rfl)
    (h1 : (assignEach [.Subscript o k tpos] X.env).map (·.2) = [assign (.Subscript o k tpos) X.env] := by rfl)
    (ha : ∀ v, assign (.Subscript o k tpos) X.env v = (do
      let ov ← holding [v] (eval o X.env)
      let iv ← holding [v, ov] (eval k X.env)
      standAt (Expr.pos (.Subscript o k tpos))
      holding [v, ov, iv] (setItem ov iv v)
      release [v, ov, iv] []) := by intro _; rfl) :
    DS P X false W N Nb Nx N (.Assign [.Subscript o k tpos] e pos) (hputS mo mk ma) := by
  refine ⟨ps_weak (ps_asg he.pe (pg_sub ho.pe hk.pe (set2 hu) ha) hs hw h1) ?_⟩
  rintro D σ H ⟨ρ, B, ow, σa, h, rh, rs, rfl, q⟩
  refine ⟨ρ, B, ow, σa, h, rh, rs, rfl, (toS_post rs rfl hx q).imp ?_⟩
  rintro v H1 ⟨ρ1, av, h1, e1, rh1, rv1, q1⟩
  refine ⟨ρ1, B, ow, σa, h1, rh1, rs.ext e1, rfl, (toS_post (rs.ext e1) rfl hx q1).imp ?_⟩
  rintro ov H2 ⟨ρ2, oa, h2, e2, rh2, rv2, q2⟩
  have rs2 := (rs.ext e1).ext e2
  refine ⟨ρ2, B, ow, σa, h2, rh2, rs2, rfl, (toS_postB rs2 rfl hx q2).imp ?_⟩
  rintro kv H3 ⟨ρ3, ka, h3, e3, rh3, rv3, q3⟩
  cases g : (rfOf oa).bind fun i => hput1 i ka av h3 with
  | none => rw [g] at q3; exact q3.elim
  | some h4 =>
    rw [g] at q3
    obtain ⟨i, rfl, e4⟩ := rf_of g
    refine put_at rh3 (.inl (rv2.ext e3)) rv3 ((rv1.ext e2).ext e3) e4 fun H4 ee rh4 => ?_
    exact q3 ρ3 ow H4 σ (ExtS.of ee) rh4 ((rs2.ext e3).ext ee) rfl
theorem ds_haug {op : Operator} {ti : TIp} (hu : X.A.units + 1 < cLine) (hK : P.K = X.K) (hp : PIp X op ti) (hv : VIp P false f ti) (ho : DE P X false W N o mo) (hk : DE P X false W N k mk) (he : DB P X false W N e ma) (hx : Kept N Nx := by decide)
    (ha : ∀ ov iv new, augStore k ov iv new = (do holding [new, ov, iv] (setItem ov iv new); release [new, ov, iv] []; pure .next) := by intros; rfl) :
    DS P X false W N Nb Nx N (.AugAssign (.Subscript o k tpos) op e pos) (hputAugS f mo mk ma) := by
  refine ⟨ps_weak (ps_augS ho.pe hk.pe (get2 hu) he.pe hp (set2 hu) ha) ?_⟩
  rintro D σ H ⟨ρ, B, ow, σa, h, rh, rs, rfl, q⟩
  refine ⟨ρ, B, ow, σa, h, rh, rs, rfl, (toS_post rs rfl hx q).imp ?_⟩
  rintro ov H1 ⟨ρ1, oa, h1, e1, rh1, rv1, q1⟩
  refine ⟨ρ1, B, ow, σa, h1, rh1, rs.ext e1, rfl, (toS_post (rs.ext e1) rfl hx q1).imp ?_⟩
  rintro kv H2 ⟨ρ2, ka, h2, e2, rh2, rv2, q2⟩
  have rs2 := (rs.ext e1).ext e2
  cases g : (rfOf oa).bind fun i => getH (.ref i) ka h2 with
  | none => rw [g] at q2; exact q2.elim
  | some xv =>
    rw [g] at q2
    obtain ⟨i, rfl, gx⟩ : ∃ i, oa = .ref i ∧ getH (.ref i) ka h2 = some xv := by
      cases oa with
      | ref i => exact ⟨i, rfl, g⟩
      | _ => cases g
    rw [← hK]
    refine get_b rh2 (.inl (rv1.ext e2)) (.inl rv2) gx fun z rz => ?_
    refine ⟨ρ2, B, ow, σa, h2, rh2, rs2, rfl, (toS_postB rs2 rfl hx q2).imp ?_⟩
    rintro y H3 ⟨ρ3, ya, h3, e3, rh3, rv3, q3⟩
    refine hv W ρ3 (Bo B ow) σ H3 xv ya h3 z y _ rh3 (rz.ext e3) rv3 ((toS_post (rs2.ext e3) rfl hx q3).imp ?_)
    rintro w H4 ⟨ρ4, wa, h4, e4, rh4, rv4, q4⟩
    cases g4 : hput1 i ka wa h4 with
    | none =>
      have : ((rfOf (.ref i)).bind fun i => hput1 i ka wa h4) = none := g4
      rw [this] at q4; exact q4.elim
    | some h5 =>
      have : ((rfOf (.ref i)).bind fun i => hput1 i ka wa h4) = some h5 := g4
      rw [this] at q4
      refine put_at rh4 (.inl (((rv1.ext e2).ext e3).ext e4)) (.inl ((rv2.ext e3).ext e4)) rv4 g4 fun H5 ee rh5 => ?_
      exact q4 ρ4 ow H5 σ (ExtS.of ee) rh5 (((rs2.ext e3).ext e4).ext ee) rfl
/-- o.append(v) -/
theorem de_happ {apos cpos : Pos} (ho : DE P X false W N o mo) (he : DE P X false W N e ma)
    (hbase : attributeBase o "append" X.env (eval o X.env) = eval o X.env := by rfl)
    (hfew : ((backTo cpos (starEach (e :: []) X.env)).all (fun x => !x.1) && (backToKw cpos (keywordEach [] X.env)).all (fun x => x.1.isSome)
      && decide ((e :: []).length + ([] : List Keyword).length + (if ([] : List Keyword).isEmpty then 0 else 1) < 30)) = true := by rfl)
    (hline : (apos.endLine == cpos.line) = true := by rfl) (hs : starEach (e :: []) X.env = (false, eval e X.env) :: starEach [] X.env := by rfl) (hplain : (backTo cpos (starEach [] X.env)).any (·.1) = false := by rfl) :
    DE P X false W N (.Call (.Attribute o "append" apos) [e] [] cpos) (happD mo ma) := by
  refine ⟨pe_weak (pe_bm PySem.F.plainAttrs_list PySem.F.slot_list_append PySem.F.type_list_append mt_append ho.pe (pa_cons he.pe pa_nil hs) hbase hfew hline hs hplain) ?_⟩
  rintro σ H Q ⟨ρ, B, ow, σa, h, rh, rs, hN, q⟩
  refine ⟨ρ, B, ow, σa, h, rh, rs, hN, (EPost.bind q).imp ?_⟩
  rintro ov H1 ⟨ρ1, oa, h1, e1, rh1, rv1, q1⟩
  cases g : (rfOf oa).bind fun i => if isHL h1 i then some i else none with
  | none => rw [g] at q1; exact q1.elim
  | some i =>
    rw [g] at q1
    obtain ⟨rfl, gi⟩ : oa = .ref i ∧ isHL h1 i = true := by
      cases oa with
      | ref j =>
        have g' : (if isHL h1 j = true then some j else none) = some i := g
        split at g'
        · rename_i hh; cases g'; exact ⟨rfl, hh⟩
        · cases g'
      | _ => cases g
    unfold RV at rv1
    obtain ⟨a, rfl, ha⟩ := rv1
    have ty : tyV X.K "list" (.ref a) H1 := by
      unfold isHL at gi
      split at gi
      · rename_i xs hx
        obtain ⟨u, hH, vs, rfl, _⟩ := rh1.at ha hx
        exact .inl ⟨rfl, vs, SqL.of hH⟩
      · cases gi
    refine ⟨ty, ρ1, B, ow, σa, h1, rh1, rs.ext e1, hN, (EPost.bind q1).imp ?_⟩
    rintro v H2 ⟨ρ2, va, h2, e2, rh2, rv2, q2⟩
    unfold happV at q2
    dsimp only at q2
    split at q2
    · rename_i xs hx
      split at q2
      · rename_i hl
        have ha2 := e2.get ha
        obtain ⟨u, hH, vs, rfl, rvs⟩ := rh2.at ha2 hx
        refine ⟨a, vs, v, rfl, rfl, hH, by rw [← rvs.len]; exact hl, ?_⟩
        exact q2 ρ2 _ _ (Ext.put (List.mem_of_getElem? ha2)) (rh2.put ha2 ⟨_, rfl, rvs.app (RVs.cons rv2 RVs.nil)⟩) mk_non
      · exact q2.elim
    · exact q2.elim

section
variable {b : Bool}
theorem own_at {ρ : List Addr} {B : Addr → Prop} {ow : List (Nat × Addr)} {H : Hp} {σa : AS} {σ : St} (rs : RS P ρ B ow H σa σ) {j : Nat} (hj : j ∈ ow.map (·.1)) : ∃ a av u, (j, a) ∈ ow ∧ σa[j]? = some (some av) ∧ σ[j]? = some (some (.ref a)) ∧ H a = some u ∧ OV P.K ρ (Bo B ow) H av u := by
  obtain ⟨p, hp, rfl⟩ := List.mem_map.mp hj
  obtain ⟨av, u, h1, h2, h3, h4⟩ := rs.own p hp
  exact ⟨p.2, av, u, hp, h1, h2, h3, h4⟩
theorem ownput_at {ρ : List Addr} {B : Addr → Prop} {ow : List (Nat × Addr)} {H : Hp} {h : AH} {σa σa' : AS} {σ : St} {D : Ends} {j : Nat} {kv w : AV} {y v : V} {a : Addr} {av : AV} {u : HO} (rh : RH P ρ (Bo B ow) H h) (rs : RS P ρ B ow H σa σ) (hm : (j, a) ∈ ow) (h1 : σa[j]? = some (some av)) (h3 : H a = some u) (h4 : OV P.K ρ (Bo B ow) H av u)
    (ry : RVb P.K ρ (Bo B ow) H kv y) (rv : RV P.K ρ (Bo B ow) H w v) (e : ownPut σa j kv w = some σa') (q : SPost P b W Nb Nx (ow.map (·.1)) ρ B ow H D (.nx σa' h)) : rSet2 (.ref a) y v H (fun H' => D.nx σ H') := by
  have fin : ∀ av' u', OV P.K ρ (Bo B ow) H av' u' → σa' = σa.set j (some av') → D.nx σ (upd H a u') := fun av' u' ov es => by
    obtain ⟨rs', ee⟩ := rs.chg hm ov
    rw [es] at q
    exact q ρ ow _ σ ee.wk (rh.chg rs hm) rs' rfl
  unfold ownPut at e
  rw [h1] at e
  cases av with
  | lst xs =>
    obtain ⟨z, ez, e⟩ := Option.bind_eq_some_iff.mp e
    obtain ⟨l, ej, rfl⟩ := Option.map_eq_some_iff.mp e
    obtain ⟨vs, rfl, rvs⟩ := h4
    have : kv = .int z := by
      cases kv <;> simp [iOf] at ez
      rw [ez]
    subst this
    exact .inl ⟨a, vs, z, l, rfl, rv_int ry, h3, by rw [← rvs.len]; exact ej, fin (.lst (xs.set l w)) _ ⟨_, rfl, RVs.set rv l rvs⟩ rfl⟩
  | dct kvs =>
    dsimp only at e
    split at e
    · rename_i hc
      cases e
      rw [Bool.and_eq_true, decide_eq_true_eq] at hc
      obtain ⟨us, rfl, rks⟩ := h4
      obtain ⟨k', hk, rfl⟩ := key_of hc.1 ry
      exact .inr ⟨a, _, rfl, DPut.k h3 (by rw [← rks.len]; exact hc.2), fin (.dct (dput kvs kv w)) _ ⟨_, rfl, dput_val hk rv rks⟩ rfl⟩
    · cases e
  | _ => cases e
theorem ds_put {j : Nat} {x : Str} {xp : Pos} (hu : X.A.units + 1 < cLine) (hj : X.N[j]? = some x) (hv : Vis X.env.scope x) (he : DE P X b W N e ma) (hk : DB P X b W N k mk) (hNj : j ∈ N := by decide) (hx : Kept N Nx := by decide) (hd : (x == ("__debug__" : Str)) = false := by decide) (hcd : (x == ("__classdict__" : Str)) = false := by decide)
    (hs : swapsWithSole [.Subscript (.Name x xp) k tpos] e pos.line X.env = pure false := by rfl) (hw : swappedStores [.Subscript (.Name x xp) k tpos] e X.env = pure none := by rfl)
    (h1 : (assignEach [.Subscript (.Name x xp) k tpos] X.env).map (·.2) = [assign (.Subscript (.Name x xp) k tpos) X.env] := by rfl)
    (ha : ∀ v, assign (.Subscript (.Name x xp) k tpos) X.env v = (do
      let ov ← holding [v] (eval (.Name x xp) X.env)
      let iv ← holding [v, ov] (eval k X.env)
      standAt (Expr.pos (.Subscript (.Name x xp) k tpos))
      holding [v, ov, iv] (setItem ov iv v)
      release [v, ov, iv] []) := by intro _; rfl) :
    DS P X b W N Nb Nx N (.Assign [.Subscript (.Name x xp) k tpos] e pos) (putS j mk ma) := by
  refine ⟨ps_weak (ps_asg he.pe (pg_sub (pe_var hj hv hd hcd) hk.pe (set2 hu) ha) hs hw h1) ?_⟩
  rintro D σ H ⟨ρ, B, ow, σa, h, rh, rs, rfl, q⟩
  refine ⟨ρ, B, ow, σa, h, rh, rs, rfl, (toS_post rs rfl hx q).imp ?_⟩
  rintro v H1 ⟨ρ1, av, h1, e1, rh1, rv1, q1⟩
  obtain ⟨a, _, _, hm, _, h2, _, _⟩ := own_at rs hNj
  refine ⟨.ref a, h2, ρ1, B, ow, σa, h1, rh1, rs.ext e1, rfl, (toS_postB (rs.ext e1) rfl hx q1).imp ?_⟩
  rintro kv H2 ⟨ρ2, ka, h3, e2, rh2, rv2, q2⟩
  have rs2 := (rs.ext e1).ext e2
  cases g : ownPut σa j ka av with
  | none => rw [g] at q2; exact q2.elim
  | some σa' =>
    rw [g] at q2
    obtain ⟨av', u, g1, g2, g3, g4⟩ := rs2.own _ hm
    exact ownput_at rh2 rs2 hm g1 g3 g4 rv2 (rv1.ext e2) g q2
theorem ds_putAug {j : Nat} {x : Str} {xp : Pos} {op : Operator} {ti : TIp} (hu : X.A.units + 1 < cLine) (hK : P.K = X.K) (hj : X.N[j]? = some x) (hvis : Vis X.env.scope x) (hp : PIp X op ti) (hv : VIp P b f ti) (hk : DE P X b W N k mk) (he : DB P X b W N e ma) (hNj : j ∈ N := by decide) (hx : Kept N Nx := by decide) (hd : (x == ("__debug__" : Str)) = false := by decide) (hcd : (x == ("__classdict__" : Str)) = false := by decide)
    (ha : ∀ ov iv new, augStore k ov iv new = (do holding [new, ov, iv] (setItem ov iv new); release [new, ov, iv] []; pure .next) := by intros; rfl) :
    DS P X b W N Nb Nx N (.AugAssign (.Subscript (.Name x xp) k tpos) op e pos) (putAugS j f mk ma) := by
  refine ⟨ps_weak (ps_augS (pe_var hj hvis hd hcd) hk.pe (get2 hu) he.pe hp (set2 hu) ha) ?_⟩
  rintro D σ H ⟨ρ, B, ow, σa, h, rh, rs, rfl, q⟩
  obtain ⟨a, _, _, hm, _, h2, _, _⟩ := own_at rs hNj
  refine ⟨.ref a, h2, ρ, B, ow, σa, h, rh, rs, rfl, (toS_post rs rfl hx q).imp ?_⟩
  rintro kv H1 ⟨ρ1, ka, h1, e1, rh1, rv1, q1⟩
  have rs1 := rs.ext e1
  obtain ⟨av', u, g1, g2, g3, g4⟩ := rs1.own _ hm
  cases g : ownGet σa j ka with
  | none => rw [g] at q1; exact q1.elim
  | some xv =>
    rw [g] at q1
    have gx : getH av' ka h1 = some xv := by
      unfold ownGet at g
      rw [g1] at g
      cases av' with
      | lst xs => exact g
      | dct kvs => exact g
      | _ => cases g
    rw [← hK]
    refine get_b rh1 (.inr ⟨a, u, rfl, (rs1.out _ hm).1, g3, g4⟩) (.inl rv1) gx fun z rz => ?_
    refine ⟨ρ1, B, ow, σa, h1, rh1, rs1, rfl, (toS_postB rs1 rfl hx q1).imp ?_⟩
    rintro y H3 ⟨ρ3, ya, h3, e3, rh3, rv3, q3⟩
    refine hv W ρ3 (Bo B ow) σ H3 xv ya h3 z y _ rh3 (rz.ext e3) rv3 ((toS_post (rs1.ext e3) rfl hx q3).imp ?_)
    rintro w H4 ⟨ρ4, wa, h4, e4, rh4, rv4, q4⟩
    have rs4 := (rs1.ext e3).ext e4
    obtain ⟨av4, u4, k1, k2, k3, k4⟩ := rs4.own _ hm
    cases g5 : ownPut σa j ka wa with
    | none => rw [g5] at q4; exact q4.elim
    | some σa' =>
      rw [g5] at q4
      exact ownput_at rh4 rs4 hm k1 k3 k4 (.inl ((rv1.ext e3).ext e4)) rv4 g5 q4
/-- xs.append(e), xs a name's own list -/
theorem ds_append {j : Nat} {x : Str} {xp apos cpos : Pos} (hj : X.N[j]? = some x) (hv : Vis X.env.scope x) (he : DE P X b W N e ma) (hNj : j ∈ N := by decide) (hx : Kept N Nx := by decide) (hd : (x == ("__debug__" : Str)) = false := by decide) (hcd : (x == ("__classdict__" : Str)) = false := by decide)
    (hbase : attributeBase (.Name x xp) "append" X.env (eval (.Name x xp) X.env) = eval (.Name x xp) X.env := by rfl)
    (hfew : ((backTo cpos (starEach (e :: []) X.env)).all (fun x => !x.1) && (backToKw cpos (keywordEach [] X.env)).all (fun x => x.1.isSome)
      && decide ((e :: []).length + ([] : List Keyword).length + (if ([] : List Keyword).isEmpty then 0 else 1) < 30)) = true := by rfl)
    (hline : (apos.endLine == cpos.line) = true := by rfl) (hs : starEach (e :: []) X.env = (false, eval e X.env) :: starEach [] X.env := by rfl) (hplain : (backTo cpos (starEach [] X.env)).any (·.1) = false := by rfl)
    (hsw : swapsWith (.Call (.Attribute (.Name x xp) "append" apos) [e] [] cpos) none pos.line X.env = pure false := by rfl) :
    DS P X b W N Nb Nx N (.Expr (.Call (.Attribute (.Name x xp) "append" apos) [e] [] cpos) pos) (appendS j ma) := by
  refine ⟨ps_weak (ps_expr (pe_bm PySem.F.plainAttrs_list PySem.F.slot_list_append PySem.F.type_list_append mt_append (pe_var hj hv hd hcd) (pa_cons he.pe pa_nil hs) hbase hfew hline hs hplain) hsw) ?_⟩
  rintro D σ H ⟨ρ, B, ow, σa, h, rh, rs, rfl, q⟩
  obtain ⟨a, av, u, hm, h1, h2, h3, h4⟩ := own_at rs hNj
  unfold appendS ownL at q
  rw [h1] at q
  cases av with
  | lst xs =>
    obtain ⟨vs, rfl, rvs⟩ := h4
    refine ⟨.ref a, h2, .inl ⟨rfl, vs, SqL.of h3⟩, ρ, B, ow, σa, h, rh, rs, rfl, (toS_post rs rfl hx q).imp ?_⟩
    rintro v H1 ⟨ρ1, va, h1', e1, rh1, rv1, q1⟩
    by_cases hl : xs.length < LIM
    · rw [if_pos hl] at q1
      have rs1 := rs.ext e1
      have hH : H1 a = some (.lst vs) := e1.keep _ _ (.inr (rs.out _ hm).1) h3
      refine ⟨a, vs, v, rfl, rfl, hH, by rw [← rvs.len]; exact hl, ?_⟩
      obtain ⟨rs', ee⟩ := rs1.chg (av := .lst (xs ++ [va])) (u := .lst (vs ++ [v])) hm ⟨_, rfl, (rvs.ext e1).app (RVs.cons rv1 RVs.nil)⟩
      exact q1 ρ1 ow _ σ ee.wk (rh1.chg rs1 hm) rs' rfl
    · rw [if_neg hl] at q1
      exact q1.elim
  | _ => exact q.elim
end
end
end D
end

section
namespace D
open PySem L2

section
open PySem.W PySem.Calls PyProof.Rows PySem.SeqAt
/-- a list or tuple collected: where things stand then -/
theorem collect_lt {prog : Program} {w : World} {A : Around} {E : Value → Shared → Prop} {s : Shared} {at_ : Addr} {its : List Value} {T : String} {ob : Obj} {ep : Nat} {Q : List Value → Shared → Prop} (hT : T = "list" ∨ T = "tuple") (there : s.heap.get? at_ = some ob) (cl : ob.cls = .type T) (dat : ob.data = .seq its.toArray ep)
    (few : its.length ≤ sizeLine) (post : Q its { s with heap := (s.heap.push (seqObj "list" #[] 0)).update s.heap.objs.size (Obj.mapSeq (· ++ its.toArray)) }) : wpAny (model prog w) A (collect (.ref at_)) Q E s := by
  unfold collect
  refine wpAny_bind (wpAny_runValue (codeAny_builtin entry_proto_collect' ?_))
  show wpAny _ _ (newList [] >>= fun nl => again (.builtin "list.__iadd__" ⟨[nl, .ref at_], []⟩)) _ _ s
  refine wpAny_bind (wpAny_newList (wpAny_pure ⟨Code.quiet_builtin _ (by decide +kernel), codeAny_builtin entry_list_iadd' ?ext⟩))
  have there' : (s.heap.push (seqObj "list" #[] 0)).get? at_ = some ob := Heap.get?_push_of_some _ there
  have fresh : (s.heap.push (seqObj "list" #[] 0)).get? s.heap.objs.size = some (seqObj "list" #[] 0) := Heap.get?_push_size _ rfl
  show wpAny _ _ (Builtin.List.listExtendWith (.ref s.heap.objs.size) (.ref at_) (.ref s.heap.objs.size)) _ _ { s with heap := s.heap.push (seqObj "list" #[] 0) }
  unfold Builtin.List.listExtendWith
  refine wpAny_bind (wpAny_typeOf (T := T) ⟨ob, there', cl⟩ ?_)
  have t1 : (Value.type "list" == Value.type "list") = true := by rfl
  have t2 : (Value.type "tuple" == Value.type "tuple") = true := by rfl
  rw [if_pos (by rcases hT with rfl | rfl <;> simp only [t1, t2, Bool.or_true, Bool.true_or])]
  refine wpAny_bind (listItems_at there' dat ?_)
  refine wpAny_bind (listItems_at fresh rfl ?_)
  rw [if_neg (by simp)]
  have sz : ((#[] : Array Value) ++ its.toArray).size ≤ sizeLine + 1 := by
    simp only [Array.size_append, List.size_toArray, List.length_nil]
    omega
  refine wpAny_bind (listUpdate_at fresh rfl ?_ (Nat.zero_le _) sz)
  refine wpAny_pure ?_
  show wpAny (model prog w) A (load s.heap.objs.size >>= fun q => match q.data with | .seq zs _ => pure zs.toList | _ => unsupported "internal:collect") Q E _
  refine wpAny_bind (wpAny_load (get?_update_seq fresh _) ?_)
  show wpAny _ _ (pure ((#[] : Array Value) ++ its.toArray).toList) Q E _
  have eq : ((#[] : Array Value) ++ its.toArray).toList = its := by simp
  rw [eq]
  exact wpAny_pure post
theorem sorted_seq {prog : Program} {w : World} {A : Around} {E : Value → Shared → Prop} {s : Shared} {β : Type} {vs : List Value} {bs : List β} {enc : β → PyData} {R : Value → β → Prop} {l : Addr} {T : String} {o : Obj} {n : Nat} {Q : Value → Shared → Prop}
    (hT : T = "list" ∨ T = "tuple") (ho : s.heap.get? l = some o) (hc : o.cls = .type T) (hd : o.data = .seq vs.toArray n) (e : EachIs R vs bs) (er : EachIs (fun v b => ∃ as, Reads s.heap v (enc b) as) vs bs) (hal : AllAlike (bs.map enc)) (hk : Sortable (bs.map enc)) (hL : bs.length ≤ sizeLine)
    (hu : ∀ b, b ∈ bs → A.units + 2 + (enc b).depth < cLine) (h : ∀ (h' : Heap) (D : Addr) (out : List Value), (∀ b o, s.heap.get? b = some o → h'.get? b = some o) → s.heap.objs.size ≤ D → (∃ n, h'.get? D = some (seqObj "list" out.toArray n)) → EachIs R out (bs.mergeSort (dataLe false enc)) → Q (.ref D) { s with heap := h' }) :
    wpAny (model prog w) A (call (.builtin "sorted") [.ref l]) Q E s := by
  have hvs : vs.length ≤ sizeLine := by rw [e.length]; exact hL
  refine Calls.call_function_entry kind_sorted plain_sorted entry_sorted (args_sorted1 _) ?_
  unfold Builtin.«sorted»
  refine wpAny_bind (m := checkCount "sorted" 1 1 _) (wpAny_pure ?_)
  refine wpAny_bind (collect_lt hT ho hc hd hvs ?_)
  have z1 : s.heap.objs.size ≤ ((s.heap.push (seqObj "list" #[] 0)).update s.heap.objs.size (Obj.mapSeq (· ++ vs.toArray))).objs.size := by
    rw [Heap.size_update, size_push']
    exact Nat.le_succ _
  have k1 : ∀ b o, s.heap.get? b = some o → ((s.heap.push (seqObj "list" #[] 0)).update s.heap.objs.size (Obj.mapSeq (· ++ vs.toArray))).get? b = some o := fun b o q => by
    rw [Heap.get?_update_ne _ _ _ _ (Nat.ne_of_lt (Heap.lt_size q))]
    exact Heap.get?_push_of_some _ q
  generalize (s.heap.push (seqObj "list" #[] 0)).update s.heap.objs.size (Obj.mapSeq (· ++ vs.toArray)) = h1 at z1 k1 ⊢
  refine wpAny_bind (wpAny_newList ?_ hvs)
  have hoL : (h1.push (seqObj "list" vs.toArray 0)).get? h1.objs.size = some (seqObj "list" vs.toArray 0) := Heap.get?_push_size _ rfl
  have k2 : ∀ b o, s.heap.get? b = some o → (sortingHeap (h1.push (seqObj "list" vs.toArray 0)) h1.objs.size vs).get? b = some o := fun b o q =>
    sortingHeap_old (Nat.ne_of_lt (Heap.lt_size (k1 b o q))) (Heap.get?_push_of_some _ (k1 b o q))
  have er' : EachIs (fun v b => ∃ as, Reads (sortingHeap (h1.push (seqObj "list" vs.toArray 0)) h1.objs.size vs) v (enc b) as) vs bs := er.mono fun _ _ ⟨as, r⟩ => ⟨as, PyProof.Rows.Reads.keeps (fun b o q => k2 b o q) r⟩
  have S : SortsAt prog w A.in1.in1 { s with heap := sortingHeap (h1.push (seqObj "list" vs.toArray 0)) h1.objs.size vs } (dataKind (sortingHeap (h1.push (seqObj "list" vs.toArray 0)) h1.objs.size vs) (bs.map enc)) vs :=
    SortsAt.data (s := { s with heap := sortingHeap (h1.push (seqObj "list" vs.toArray 0)) h1.objs.size vs }) (each_map (R := fun v d => ∃ as, Reads (sortingHeap (h1.push (seqObj "list" vs.toArray 0)) h1.objs.size vs) v d as) enc er') hal hk (bound_map hu)
  refine wpAny_bind (wpAny_holding (wpAny_call_entry (s := { s with heap := h1.push (seqObj "list" vs.toArray 0) }) slot_list_sort ⟨_, hoL, rfl⟩ entry_list_sort (list_sort_vals (s := { s with heap := h1.push (seqObj "list" vs.toArray 0) }) hoL S hvs ⟨_, rfl, ?_⟩) (args_list_sort _)))
  obtain ⟨c, hcc⟩ := sortedHeap_at (vs := vs) (out := (sortVals (dataKind (sortingHeap (h1.push (seqObj "list" vs.toArray 0)) h1.objs.size vs) (bs.map enc)) false vs vs).toArray) hoL
  refine wpAny_pure ⟨_, rfl, h _ h1.objs.size (sortVals (dataKind (sortingHeap (h1.push (seqObj "list" vs.toArray 0)) h1.objs.size vs) (bs.map enc)) false vs vs) (fun b u q => ?_) ?_ ⟨c, hcc⟩ (sortVals_data false e er' hal)⟩
  · have q1 := k1 b u q
    have hlt := Heap.lt_size q1
    rw [sortedHeap_old (Nat.ne_of_lt hlt) (by rw [size_push']; exact Nat.lt_succ_of_lt hlt)]
    exact Heap.get?_push_of_some _ q1
  · exact z1
end

mutual
theorem alike_of : ∀ (n m : Nat) (x y : AV), x.dl n = true → y.dl m = true → PySem.W.alike x.toD y.toD = x.co y
  | n, m, x, y, hx, hy => by
    rcases dl_cases hx with rfl | ⟨b, rfl⟩ | ⟨i, rfl⟩ | ⟨s, rfl⟩ | ⟨n', xs, rfl, rfl, hx'⟩ | ⟨n', xs, rfl, rfl, hx'⟩ <;>
      rcases dl_cases hy with rfl | ⟨b', rfl⟩ | ⟨i', rfl⟩ | ⟨s', rfl⟩ | ⟨m', ys, rfl, rfl, hy'⟩ | ⟨m', ys, rfl, rfl, hy'⟩ <;>
      first
      | (simp only [AV.toD, PySem.W.alike, AV.co]; done)
      | (simp only [AV.toD, PySem.W.alike, AV.co]; exact alikes_of n' m' xs ys (List.all_eq_true.mp hx') (List.all_eq_true.mp hy'))
theorem alikes_of : ∀ (n m : Nat) (xs ys : List AV), (∀ x ∈ xs, x.dl n = true) → (∀ y ∈ ys, y.dl m = true) → PySem.W.alikeAll (AV.toDs xs) (AV.toDs ys) = AV.coL xs ys
  | _, _, [], [], _, _ => by simp [AV.toDs, PySem.W.alikeAll, AV.coL]
  | _, _, [], _ :: _, _, _ => by simp [AV.toDs, PySem.W.alikeAll, AV.coL]
  | _, _, _ :: _, [], _, _ => by simp [AV.toDs, PySem.W.alikeAll, AV.coL]
  | n, m, x :: xs, y :: ys, hx, hy => by
    simp only [AV.toDs, PySem.W.alikeAll, AV.coL]
    rw [alike_of n m x y (hx x List.mem_cons_self) (hy y List.mem_cons_self), alikes_of n m xs ys (fun z hz => hx z (List.mem_cons_of_mem _ hz)) fun z hz => hy z (List.mem_cons_of_mem _ hz)]
end
theorem lt_nil : PyProof.Rows.lexLt PyProof.Rows.itemOrd (PySem.W.keyToksAll []) (PySem.W.keyToksAll []) = false := PyProof.Rows.lex_irrefl _
theorem lt_bl (a c : Bool) : PySem.W.dataLt (.bool a) (.bool c) = (!a && c) := by
  rw [PySem.W.dataLt_bool]
  cases a <;> cases c <;> rfl
mutual
theorem lt_of : ∀ (n m : Nat) (x y : AV), x.dl n = true → y.dl m = true → x.co y = true → x ≠ .non → PySem.W.dataLt x.toD y.toD = x.lt y
  | n, m, x, y, hx, hy, hc, hn => by
    rcases dl_cases hx with rfl | ⟨b, rfl⟩ | ⟨i, rfl⟩ | ⟨s, rfl⟩ | ⟨n', xs, rfl, rfl, hx'⟩ | ⟨n', xs, rfl, rfl, hx'⟩ <;>
      rcases dl_cases hy with rfl | ⟨b', rfl⟩ | ⟨i', rfl⟩ | ⟨s', rfl⟩ | ⟨m', ys, rfl, rfl, hy'⟩ | ⟨m', ys, rfl, rfl, hy'⟩ <;>
      first
      | exact absurd rfl hn
      | (simp only [AV.co] at hc; done)
      | (exfalso; simp [AV.co] at hc; done)
      | (simp only [AV.toD, AV.lt]; exact lt_bl _ _)
      | (simp only [AV.toD, AV.lt]; exact PySem.W.dataLt_int _ _)
      | (simp only [AV.toD, AV.lt]; exact PySem.W.dataLt_str _ _)
      | (simp only [AV.toD, AV.lt]; rw [PySem.W.dataLt_tuple]; exact lts_of n' m' xs ys (List.all_eq_true.mp hx') (List.all_eq_true.mp hy') (by simpa [AV.co] using hc))
      | (simp only [AV.toD, AV.lt]; rw [PySem.W.dataLt_list]; exact lts_of n' m' xs ys (List.all_eq_true.mp hx') (List.all_eq_true.mp hy') (by simpa [AV.co] using hc))
theorem lts_of : ∀ (n m : Nat) (xs ys : List AV), (∀ x ∈ xs, x.dl n = true) → (∀ y ∈ ys, y.dl m = true) → AV.coL xs ys = true → PyProof.Rows.lexLt PyProof.Rows.itemOrd (PySem.W.keyToksAll (AV.toDs xs)) (PySem.W.keyToksAll (AV.toDs ys)) = AV.ltL xs ys
  | _, _, [], [], _, _, _ => by
    simp only [AV.toDs, AV.ltL]
    exact lt_nil
  | _, _, [], _ :: _, _, _, _ => by
    simp only [AV.toDs, AV.ltL]
    rw [PySem.W.toks_all_cons]
    simp only [PySem.W.keyToksAll]
    rw [PySem.W.lex_atom (by simp)]
    rfl
  | _, _, _ :: _, [], _, _, _ => by
    simp only [AV.toDs, AV.ltL]
    rw [PySem.W.toks_all_cons]
    simp only [PySem.W.keyToksAll]
    rw [PySem.W.lex_atom (by simp)]
    rfl
  | n, m, x :: xs, y :: ys, hx, hy, hc => by
    simp only [AV.toDs, AV.ltL]
    rw [AV.coL, Bool.and_eq_true] at hc
    have hx1 := hx x List.mem_cons_self
    have hy1 := hy y List.mem_cons_self
    rw [PySem.W.dataLt_cons (by rw [alike_of n m x y hx1 hy1]; exact hc.1), eqv_of n m x y hx1 hy1]
    by_cases e : x.eq y = true
    · rw [if_pos e, if_pos e]
      exact lts_of n m xs ys (fun z hz => hx z (List.mem_cons_of_mem _ hz)) (fun z hz => hy z (List.mem_cons_of_mem _ hz)) hc.2
    · rw [if_neg e, if_neg e]
      refine lt_of n m x y hx1 hy1 hc.1 fun z => e ?_
      subst z
      cases y <;> first | rfl | (exfalso; have := hc.1; simp [AV.co] at this)
end

def rSortG (K : PySem.W.Frag) : List V → Hp → VK → Prop := fun vs H Q => ∃ (a : Addr) (ps : List (AV × V)), vs = [.ref a] ∧ (SqL K H a (ps.map (·.2)) ∨ SqT K H a (ps.map (·.2))) ∧ (∀ p ∈ ps, Dp K H p.2 p.1.toD) ∧ PySem.W.AllAlike (ps.map fun p => p.1.toD) ∧ PySem.W.Sortable (ps.map fun p => p.1.toD) ∧
  (∀ p ∈ ps, p.1.toD.depth ≤ 50) ∧ ∀ l, H l = none → Q (.ref l) (upd H l (.lst ((ps.mergeSort (PySem.W.dataLe false fun p => p.1.toD)).map (·.2))))
theorem each_vals : ∀ {ps : List (AV × V)} {us : List Value}, Vals (ps.map (·.2)) us → PySem.W.EachIs (fun u (p : AV × V) => RelV p.2 u) us ps
  | [], _, .nil => .nil
  | _ :: _, _, .cons r t => .cons r (each_vals t)
theorem vals_each : ∀ {ps : List (AV × V)} {us : List Value}, PySem.W.EachIs (fun u (p : AV × V) => RelV p.2 u) us ps → Vals (ps.map (·.2)) us
  | _, _, .nil => .nil
  | _, _, .cons r t => .cons r (vals_each t)
theorem each_with {P : AV × V → Prop} : ∀ {ps : List (AV × V)} {us : List Value}, PySem.W.EachIs (fun u (p : AV × V) => RelV p.2 u) us ps → (∀ p ∈ ps, P p) → PySem.W.EachIs (fun u (p : AV × V) => RelV p.2 u ∧ P p) us ps
  | _, _, .nil, _ => .nil
  | _, _, .cons r t, h => .cons ⟨r, h _ List.mem_cons_self⟩ (each_with t fun p hp => h p (List.mem_cons_of_mem _ hp))
theorem cr_sortG {X : Cx} (hu : X.A.units + 65 < cLine) : CallR X (.builtin "sorted") (rSortG X.K) := by
  intro pins s σ H vs us Q I r h
  obtain ⟨a, ps, rfl, hq, hd, ha, hs, hdep, q⟩ := h
  rw [Vals.ref1 r]
  have key : ∀ (T : String) (its : List Value) (o : Obj) (n : Nat), (T = "list" ∨ T = "tuple") → s.heap.get? a = some o → o.cls = .type T → o.data = .seq its.toArray n → Vals (ps.map (·.2)) its → its.length ≤ sizeLine →
      wpAny (model X.prog X.w) X.A (call (.builtin "sorted") [.ref a]) (EP X pins σ Q) X.xe s := by
    intro T its o n hT ho hc hdat rv hz
    have e := each_vals rv
    have hlen : ps.length ≤ sizeLine := by rw [← e.length]; exact hz
    refine sorted_seq (enc := fun p : AV × V => p.1.toD) hT ho hc hdat e ((each_with e hd).mono fun u p ⟨h1, h2⟩ => Dp.reads I _ _ _ h2 h1) ha hs hlen (fun p hp => by have := hdep p hp; omega) fun h' D out kp hD ⟨c, hc'⟩ er => ?_
    have hl2 : ((ps.mergeSort (PySem.W.dataLe false fun p : AV × V => p.1.toD)).map (·.2)).length ≤ sizeLine := by
      rw [List.length_map, List.length_mergeSort]
      exact hlen
    exact ⟨.ref D, upd H D (.lst ((ps.mergeSort (PySem.W.dataLe false fun p : AV × V => p.1.toD)).map (·.2))), I.laid (t' := s.toks) kp hD ⟨hl2, out, c, vals_each er, hc'⟩, rfl, q D (I.hok.fresh hD)⟩
  rcases hq with hq | hq
  · obtain ⟨its, rv, pl, hz⟩ := I.list hq
    obtain ⟨o, ho, hc, n, hdat⟩ := pl.isList
    exact key "list" its o n (.inl rfl) ho hc hdat rv (by rw [← rv.length]; exact hz)
  · obtain ⟨its, rv, pl, hz⟩ := I.tuple hq
    obtain ⟨o, ho, hc, n, hdat⟩ := pl
    exact key "tuple" its o n (.inr rfl) ho hc hdat rv (by rw [← rv.length]; exact hz)
theorem toD_tup {x : AV} (h : isTup1 x = true) : ∃ y r, x.toD = .tuple (y :: r) := by
  unfold isTup1 at h
  split at h
  · exact ⟨_, _, by simp only [AV.toD, AV.toDs]; rfl⟩
  · cases h
theorem toD_not {n : Nat} {x : AV} (hd : x.dl n = true) (h : notTup x = true) : x.toD ≠ .none ∧ ∀ xs, x.toD ≠ .tuple xs := by
  rcases dl_cases hd with rfl | ⟨b, rfl⟩ | ⟨i, rfl⟩ | ⟨s, rfl⟩ | ⟨n', xs, rfl, rfl, hx'⟩ | ⟨n', xs, rfl, rfl, hx'⟩
  · cases h
  · simp [AV.toD]
  · simp [AV.toD]
  · simp [AV.toD]
  · cases h
  · simp [AV.toD]
theorem rvs_zip {K : PySem.W.Frag} {ρ : List Addr} {B : Addr → Prop} {H : Hp} : ∀ {xs : List AV} {vs : List V}, RVs K ρ B H xs vs → ∀ p ∈ xs.zip vs, RV K ρ B H p.1 p.2
  | [], _, _, p, hp => by simp at hp
  | x :: xs, vs, h, p, hp => by
    unfold RVs at h
    obtain ⟨v, r, rfl, h1, h2⟩ := h
    rw [List.zip_cons_cons] at hp
    rcases List.mem_cons.mp hp with rfl | hp
    · exact h1
    · exact rvs_zip h2 p hp
theorem rvs_unzip {K : PySem.W.Frag} {ρ : List Addr} {B : Addr → Prop} {H : Hp} : ∀ {ps : List (AV × V)}, (∀ p ∈ ps, RV K ρ B H p.1 p.2) → RVs K ρ B H (ps.map (·.1)) (ps.map (·.2))
  | [], _ => RVs.nil
  | p :: ps, h => RVs.cons (h p List.mem_cons_self) (rvs_unzip fun q hq => h q (List.mem_cons_of_mem _ hq))
section
variable {P : Pm} {b : Bool}
theorem sort_res {ρ : List Addr} {B : Addr → Prop} {H : Hp} {h : AH} {xs : List AV} {us : List V} (rh : RH P ρ B H h) (g : RVs P.K ρ B H xs us) (hs : sortOk xs = true) : ∃ ps : List (AV × V), ps.map (·.2) = us ∧ (∀ p ∈ ps, Dp P.K H p.2 p.1.toD) ∧ PySem.W.AllAlike (ps.map fun p => p.1.toD) ∧ PySem.W.Sortable (ps.map fun p => p.1.toD) ∧ (∀ p ∈ ps, p.1.toD.depth ≤ 50) ∧
    RVs P.K ρ B H (sortA xs) ((ps.mergeSort (PySem.W.dataLe false fun p => p.1.toD)).map (·.2)) := by
  unfold sortOk at hs
  rw [Bool.and_eq_true, Bool.and_eq_true, Bool.or_eq_true] at hs
  obtain ⟨⟨hco, hdl⟩, hty⟩ := hs
  have hdl' := List.all_eq_true.mp hdl
  have hf : (xs.zip us).map (·.1) = xs := List.map_fst_zip (by rw [g.len]; exact Nat.le_refl _)
  have hsn : (xs.zip us).map (·.2) = us := List.map_snd_zip (by rw [g.len]; exact Nat.le_refl _)
  have hmem : ∀ p ∈ xs.zip us, p.1 ∈ xs := fun p hp => by rw [← hf]; exact List.mem_map_of_mem hp
  have hrv := rvs_zip g
  have hcc : ∀ x ∈ xs, ∀ y ∈ xs, x.co y = true := fun x hx y hy => List.all_eq_true.mp (List.all_eq_true.mp hco x hx) y hy
  refine ⟨xs.zip us, hsn, fun p hp => dp_of rh DEPTH p.1 (hdl' _ (hmem p hp)) (hrv p hp), ?_, ?_, fun p hp => (lay_of DEPTH p.1 (hdl' _ (hmem p hp))).2, ?_⟩
  · intro d hd d' hd'
    obtain ⟨p, hp, rfl⟩ := List.mem_map.mp hd
    obtain ⟨p', hp', rfl⟩ := List.mem_map.mp hd'
    rw [alike_of DEPTH DEPTH _ _ (hdl' _ (hmem p hp)) (hdl' _ (hmem p' hp'))]
    exact hcc _ (hmem p hp) _ (hmem p' hp')
  · rcases hty with hty | hty
    · refine .inl fun d hd => ?_
      obtain ⟨p, hp, rfl⟩ := List.mem_map.mp hd
      exact toD_tup (List.all_eq_true.mp hty _ (hmem p hp))
    · refine .inr fun d hd => ?_
      obtain ⟨p, hp, rfl⟩ := List.mem_map.mp hd
      exact toD_not (hdl' _ (hmem p hp)) (List.all_eq_true.mp hty _ (hmem p hp))
  · have hnn : ∀ x ∈ xs, x ≠ .non := fun x hx z => by
      subst z
      rcases hty with hty | hty
      · have := List.all_eq_true.mp hty _ hx
        cases this
      · have := List.all_eq_true.mp hty _ hx
        cases this
    have e : sortA xs = ((xs.zip us).mergeSort (PySem.W.dataLe false fun p => p.1.toD)).map (·.1) := by
      rw [List.map_mergeSort (r := PySem.W.dataLe false fun p : AV × V => p.1.toD) (s := leA) (f := Prod.fst) (l := xs.zip us) (fun p hp q hq => ?_)]
      · show sortA xs = ((xs.zip us).map (·.1)).mergeSort leA
        rw [hf]; rfl
      · show (!PySem.W.dataLt q.1.toD p.1.toD) = leA p.1 q.1
        unfold leA
        rw [lt_of DEPTH DEPTH q.1 p.1 (hdl' _ (hmem q hq)) (hdl' _ (hmem p hp)) (hcc _ (hmem q hq) _ (hmem p hp)) (hnn _ (hmem q hq))]
    rw [e]
    exact rvs_unzip fun p hp => hrv p (List.mem_mergeSort.mp hp)
theorem v_sorted : VN P b sortedF (rSortG P.K) := by
  intro W ρ B σ H avs h xs Q rh r q
  unfold sortedF at q
  split at q
  · obtain ⟨v, rfl, r1⟩ := one_of r
    obtain ⟨w, ew, q'⟩ := optE_ok q
    obtain ⟨ys, ey, e2⟩ := Option.bind_eq_some_iff.mp ew
    split at e2
    · rename_i hs
      cases e2
      obtain ⟨a1, us, rfl, h1, g1⟩ := rv_seq rh r1 ey
      obtain ⟨ps, e1, h2, h3, h4, h5, h6⟩ := sort_res rh g1 hs
      exact ⟨a1, ps, rfl, by rw [e1]; exact h1, h2, h3, h4, h5, fun l hl => ok_new q' rh hl h6⟩
    · cases e2
  · exact q.elim
theorem vf_sorted : VNF P b sortedF (rSortG P.K) := by
  intro W ρ B σ H avs h xs Q rh r q
  unfold sortedF at q
  split at q
  · rename_i o
    obtain ⟨v, rfl, r1⟩ := one_of r
    cases ew : (seqOf h o).bind fun xs => if sortOk xs = true then some (AV.lst (sortA xs)) else none with
    | none => rw [ew] at q; exact q.elim
    | some w =>
      rw [ew] at q
      obtain ⟨ys, ey, e2⟩ := Option.bind_eq_some_iff.mp ew
      split at e2
      · rename_i hs
        cases e2
        obtain ⟨a1, us, rfl, h1, g1⟩ := rv_seq rh r1 ey
        obtain ⟨ps, e1, h2, h3, h4, h5, h6⟩ := sort_res rh g1 hs
        exact ⟨a1, ps, rfl, by rw [e1]; exact h1, h2, h3, h4, h5, fun l hl => q ρ H l _ (Ext.refl _ _ _) rh ⟨_, rfl, h6⟩ hl⟩
      · cases e2
  · exact q.elim
end
end D
end

section
namespace D
open PySem L2

section
variable {P : Pm} {X : Cx} {W : WX} {N : List Nat} {e tg : Expr} {es : List Expr} {ma : EV} {m : LV}
theorem EPost.tru {ρ : List Addr} {B : Addr → Prop} {σ : St} {H : Hp} {Q : VK} {r : ER} (h : EPost P false W ρ B σ H Q r) : EPost P true W ρ B σ H Q r := by
  cases r with
  | ok av h' => exact fun ρ' H' v e => h ρ' H' v e.weak
  | exc c x h' => exact fun ρ' H' v e => h ρ' H' v e.weak
  | stuck => exact h
theorem EPostB.tru {ρ : List Addr} {B : Addr → Prop} {σ : St} {H : Hp} {Q : VK} {r : ER} (h : EPostB P false W ρ B σ H Q r) : EPostB P true W ρ B σ H Q r := by
  cases r with
  | ok av h' => exact fun ρ' H' v e => h ρ' H' v e.weak
  | exc c x h' => exact fun ρ' H' v e => h ρ' H' v e.weak
  | stuck => exact h
theorem FPost.tru {ρ : List Addr} {B : Addr → Prop} {σ : St} {H : Hp} {Q : VK} {r : ER} (h : FPost P false W ρ B σ H Q r) : FPost P true W ρ B σ H Q r := by
  cases r with
  | ok av h' => exact fun ρ' H' p u e => h ρ' H' p u e.weak
  | exc c x h' => exact fun ρ' H' v e => h ρ' H' v e.weak
  | stuck => exact h
theorem DE.up (h : DE P X true W N e ma) : DE P X false W N e ma := ⟨pe_weak h.pe fun σ H Q ⟨ρ, B, ow, σa, hh, rh, rs, hN, q⟩ => ⟨ρ, B, ow, σa, hh, rh, rs, hN, q.tru⟩⟩
theorem DB.up (h : DB P X true W N e ma) : DB P X false W N e ma := ⟨pe_weak h.pe fun σ H Q ⟨ρ, B, ow, σa, hh, rh, rs, hN, q⟩ => ⟨ρ, B, ow, σa, hh, rh, rs, hN, q.tru⟩⟩
theorem DF.up (h : DF P X true W N e ma) : DF P X false W N e ma := ⟨pe_weak h.pe fun σ H Q ⟨ρ, B, ow, σa, hh, rh, rs, hN, q⟩ => ⟨ρ, B, ow, σa, hh, rh, rs, hN, q.tru⟩⟩
theorem di_sqHC (hK : P.K = X.K) (he : DB P X true W N e ma) : DI P X true true W N tg e (itH ma) := by
  refine ⟨pi_weak (pi_sq he.pe) ?_⟩
  rintro σ H R ⟨ρ, B, ow, σa, h, rh, rs, hN, q⟩
  refine ⟨ρ, B, ow, σa, h, rh, rs, hN, (IPost.bindB q).imp ?_⟩
  rintro v H1 ⟨ρ1, av, h1, e1, rh1, rv1, q1⟩
  obtain ⟨xs, ex, q2⟩ := optL_ok q1
  have oth : iterV av = some xs → iSq X.K (fun σ H Q => Q v H) σ H1 R := fun ex => by
    obtain ⟨J, S, hi, hs, hv⟩ := seq_at (X := X) (c := true) (b := true) rh1 hK (by rw [if_pos rfl]; exact rv1) ex
    have q3 := q2 ρ1 H1 J S e1 rh1 hi hs
    rcases hv with ⟨p, vs, h1, h2, rfl⟩ | ⟨p, vs, h1, h2, rfl⟩ | ⟨z, h1, rfl⟩
    · exact .inl ⟨p, vs, h1, h2, q3⟩
    · exact .inr (.inl ⟨p, vs, h1, h2, q3⟩)
    · exact .inr (.inr ⟨z, h1, q3⟩)
  cases av with
  | ref i =>
    have ex' : lv h1 (.ref i) = some xs := ex
    obtain ⟨a, vs, rfl, hH, rvs⟩ := rv_lv rh1 rv1 ex'
    refine .inl ⟨a, vs, rfl, SqL.of hH, q2 ρ1 H1 _ (fun b => b = a) e1 rh1 (itl_ok (fun H2 hS => SqL.of ((rd_S hS).trans hH)) rvs) fun b hb => ?_⟩
    have hb' : b = a := hb
    subst hb'
    exact ⟨by rw [hH]; simp, by rw [if_pos rfl]; exact .inl rfl⟩
  | _ => exact oth ex
end

theorem bo_emp {B : Addr → Prop} : Bo B [] = B := by
  funext a
  apply propext
  constructor
  · rintro (h | h)
    · exact h
    · simp at h
  · exact .inl
theorem start_rs {Pm : Pm} {ρ : List Addr} {B : Addr → Prop} {H : Hp} {avs : List AV} {vs : List V} {n : Nat} (r : RVs Pm.K ρ B H avs vs) : RS Pm ρ B [] H (avs.map some ++ List.replicate (n - avs.length) none) (vs.map some ++ List.replicate (n - vs.length) none) := by
  have hl := r.len
  refine ⟨(by simp [hl]), List.nodup_nil, List.nodup_nil, (fun p hp => nomatch hp), (fun i av h1 _ => ?_), (fun p hp => nomatch hp)⟩
  rw [bo_emp]
  by_cases hi : i < avs.length
  · rw [List.getElem?_append_left (by simpa using hi), List.getElem?_map] at h1
    obtain ⟨x, h2, h3⟩ := Option.map_eq_some_iff.mp h1
    cases h3
    obtain ⟨v, h4, h5⟩ := r.get h2
    refine ⟨v, ?_, h5⟩
    rw [List.getElem?_append_left (by rw [List.length_map, ← hl]; exact hi), List.getElem?_map, h4]
    rfl
  · rw [List.getElem?_append_right (by simpa using Nat.le_of_not_lt hi)] at h1
    have := List.mem_of_getElem? h1
    rw [List.mem_replicate] at this
    cases this.2
section
variable {Pm : Pm} {P : Program} {w : World} {mg : Str → Option Value} {base : Heap} {b : Bool}
theorem fn_ok {x qual : Str} {st : Stmt} {f : Addr} {fd : FuncData} {N ps : List Str} {k : Nat} {m : SV} {N' : List Nat} (F : Fun Pm.K x qual st f fd) (S : FnScope N ps (defScope st))
    (hbody : ∀ (cdv : Value) (A : Around) (outer : List Env) (s : Shared) (H : Hp) (E : XK), Room k (A.deeper (PyProof.Rows.envOfC qual (defScope st) s.heap.objs.size f cdv)) →
      DSs Pm (cxOf (L2.CX P w) P w Pm.K mg base N qual (defScope st) f cdv A outer s H E) b (fun c d _ H => E c d H) [] [] [] N' (defBody st) m) :
    FnOk P w Pm.K mg base (L2.CX P w) (k + 1) f fd ps (spD Pm b ps.length (body N.length m)) := by
  refine F.okX S (fun vs H Q E h => h.1) (fun cdv A outer s H vs Q E hr h => ⟨_, (hbody cdv A outer s H E hr).ps, ?_⟩)
  obtain ⟨hl, ρ, B, avs, h, rh, rv, q⟩ := h
  refine ⟨ρ, B, [], avs.map some ++ List.replicate (N.length - avs.length) none, h, by rw [bo_emp]; exact rh, start_rs rv, rfl, ?_⟩
  unfold body at q
  cases g : m (avs.map some ++ List.replicate (N.length - avs.length) none) h with
  | nx σ' h' =>
    rw [g] at q
    exact fun ρ' ow' H' σ' e rh' rs' hN => q ρ' H' .non e.ext (rh'.anti fun a h => .inl h) mk_non
  | rt v h' =>
    rw [g] at q
    exact fun ρ' H' v e rh' rv' => q ρ' H' v e.ext rh' rv'
  | exc c x σ' h' =>
    rw [g] at q
    exact fun ρ' ow' H' σ' d e rh' rs' hN rx => q ρ' H' d e.ext (rh'.anti fun a h => .inl h) (rx.anti fun a h => .inl h)
  | bk _ _ => rw [g] at q; exact q.elim
  | ct _ _ => rw [g] at q; exact q.elim
  | stuck => rw [g] at q; exact q.elim
theorem fnd {x : Str} {st : Stmt} {f : Addr} {fd : FuncData} {ps : List Str} {k : Nat} {fv : FV} (h : FnOk P w Pm.K mg base (L2.CX P w) k f fd ps (spD Pm b ps.length fv)) (F : Fun Pm.K x x st f fd) (hm : mg x = some (.ref f)) (hb : Binds Pm.K fd ps []) : FnD Pm P w mg base b k x ps fv := ⟨f, fd, h, hm, F.kp, hb⟩
end
theorem room65 {k : Nat} {A : Around} (hr : Room k A) : A.units + 65 < cLine := by have := hr.un; omega
theorem room1 {k : Nat} {A : Around} (hr : Room k A) : A.units + 1 < cLine := by have := hr.un; omega

theorem law_sp {Pm : Pm} {n : Nat} {f : FV} {H : Hp} {a : Addr} {ns : List Int} (hL : Law n f) (hl : ns.length ≤ n) (hO : Only H) (hS : SqL Pm.K H a (ns.map V.int)) :
    spD Pm false 1 f [.ref a] H (fun v _ => v = .bl true) fun _ _ _ => False := by
  obtain ⟨h', e⟩ := hL ns hl
  refine ⟨rfl, [], fun _ => False, [.ro (ns.map AV.int)], [], ⟨rfl, List.nodup_nil, (fun _ h => nomatch h), (fun _ h => False.elim h), (fun i o h => nomatch h)⟩, RVs.cons ?_ RVs.nil, ?_⟩
  · unfold RV
    refine ⟨a, ns.map V.int, rfl, ?_, RVs.intsA ns⟩
    rcases hS with h | h
    · exact .inl ⟨(by simp), (fun z => z), h⟩
    · exact .inr h
  · rw [e]
    intro ρ' H' v _ _ rv
    unfold RV at rv
    exact rv
end D
end

section
namespace D
open PySem L2
theorem room64 {k : Nat} {A : Around} (hr : Room k A) : A.units + 64 < cLine := by have := hr.un; omega
theorem all_lt {is : List Nat} {n : Nat} (h : (is.all fun l => decide (l < n)) = true) : ∀ l ∈ is, l < n := fun l hl => of_decide_eq_true (List.all_eq_true.mp h l hl)
theorem bt_len : bootBuiltins "len" = some (.builtin "len") := by decide +kernel
theorem bt_abs : bootBuiltins "abs" = some (.builtin "abs") := by decide +kernel
theorem bt_int : bootBuiltins "int" = some (.type "int") := by decide +kernel
theorem bt_str : bootBuiltins "str" = some (.type "str") := by decide +kernel
theorem bt_list : bootBuiltins "list" = some (.type "list") := by decide +kernel
theorem bt_tuple : bootBuiltins "tuple" = some (.type "tuple") := by decide +kernel
theorem bt_sum : bootBuiltins "sum" = some (.builtin "sum") := by decide +kernel
theorem bt_any : bootBuiltins "any" = some (.builtin "any") := by decide +kernel
theorem bt_all : bootBuiltins "all" = some (.builtin "all") := by decide +kernel
theorem bt_max : bootBuiltins "max" = some (.builtin "max") := by decide +kernel
theorem bt_min : bootBuiltins "min" = some (.builtin "min") := by decide +kernel
theorem bt_sorted : bootBuiltins "sorted" = some (.builtin "sorted") := by decide +kernel
section
variable {P : Pm} {X : Cx} {b : Bool} {W : WX} {N Nb Nx N' : List Nat} {e a c d k tg iter elt : Expr} {es : List Expr} {pos tpos : Pos} {ma mb mc me mk mo : EV} {ms : List EV} {f : AV → AV → AH → ER} {fl : List Bool}
theorem de_un {op : UnaryOp} {r : V → Hp → VK → Prop} {f : AV → AH → ER} (ho : UnR X (unaryOp op) r) (hr : V1 P b f r) (ha : DB P X b W N a ma) : DE P X b W N (.UnaryOp op a pos) (un f ma) := ⟨pe_weak (pe_un ho ha.pe) (un_weak hr)⟩
theorem s_set (j : Nat) {x : Str} {pos' : Pos} (hn : X.N.Nodup) (he : DE P X b W N e ma) (hj : X.N[j]? = some x := by rfl) (hx' : L2.Loc X.env.scope x := by first | exact Or.inl rfl | exact Or.inr rfl) (hNj : j ∉ N := by decide) (hx : Kept N Nx := by decide)
    (hs : swapsWith e (some (.Name x pos')) pos.line X.env = pure false := by rfl) (hf : X.fn x = true ∨ X.env.scope.names.lookup x = some .local := by first | exact .inl rfl | exact .inr rfl) : DS P X b W N Nb Nx N (.Assign [.Name x pos'] e pos) (setS j ma) := ds_set hn hj hx' he hNj hx hs hf
theorem s_setF (j : Nat) {x : Str} {pos' : Pos} (hn : X.N.Nodup) (he : DF P X b W N e ma) (hj : X.N[j]? = some x := by rfl) (hx' : L2.Loc X.env.scope x := by first | exact Or.inl rfl | exact Or.inr rfl) (hNj : j ∉ N := by decide) (hx : Kept N Nx := by decide)
    (hs : swapsWith e (some (.Name x pos')) pos.line X.env = pure false := by rfl) (hf : X.fn x = true ∨ X.env.scope.names.lookup x = some .local := by first | exact .inl rfl | exact .inr rfl) (hl : decide (j < X.N.length) = true := by rfl) : DS P X b W N Nb Nx (j :: N) (.Assign [.Name x pos'] e pos) (setS j ma) := ds_setF hn hj hx' he hNj hx hs hf (of_decide_eq_true hl)
theorem s_aug (j : Nat) {x : Str} {op : Operator} {ti : TIp} {pos' : Pos} (hn : X.N.Nodup) (ho : PIp X op ti) (hv : VIp P b f ti) (he : DB P X b W N e ma) (hj : X.N[j]? = some x := by rfl) (hx' : L2.Loc X.env.scope x := by first | exact Or.inl rfl | exact Or.inr rfl) (hNj : j ∉ N := by decide) (hx : Kept N Nx := by decide)
    (hf : X.fn x = true ∨ X.env.scope.names.lookup x = some .local := by first | exact .inl rfl | exact .inr rfl) : DS P X b W N Nb Nx N (.AugAssign (.Name x pos') op e pos) (augS j f ma) := ds_aug hn hj hx' he ho hv hNj hx hf
theorem s_append (j : Nat) {x : Str} {xp apos cpos : Pos} (he : DE P X b W N e ma) (hj : X.N[j]? = some x := by rfl) (hv : Vis X.env.scope x := by first | exact Or.inl rfl | exact Or.inr (Or.inl rfl) | exact Or.inr (Or.inr rfl)) (hNj : j ∈ N := by decide) (hx : Kept N Nx := by decide) (hd : (x == ("__debug__" : Str)) = false := by decide) (hcd : (x == ("__classdict__" : Str)) = false := by decide)
    (hbase : attributeBase (.Name x xp) "append" X.env (eval (.Name x xp) X.env) = eval (.Name x xp) X.env := by rfl)
    (hfew : ((backTo cpos (starEach (e :: []) X.env)).all (fun x => !x.1) && (backToKw cpos (keywordEach [] X.env)).all (fun x => x.1.isSome)
      && decide ((e :: []).length + ([] : List Keyword).length + (if ([] : List Keyword).isEmpty then 0 else 1) < 30)) = true := by rfl)
    (hline : (apos.endLine == cpos.line) = true := by rfl) (hs : starEach (e :: []) X.env = (false, eval e X.env) :: starEach [] X.env := by rfl) (hplain : (backTo cpos (starEach [] X.env)).any (·.1) = false := by rfl)
    (hsw : swapsWith (.Call (.Attribute (.Name x xp) "append" apos) [e] [] cpos) none pos.line X.env = pure false := by rfl) :
    DS P X b W N Nb Nx N (.Expr (.Call (.Attribute (.Name x xp) "append" apos) [e] [] cpos) pos) (appendS j ma) := ds_append hj hv he hNj hx hd hcd hbase hfew hline hs hplain hsw
theorem s_put (j : Nat) {x : Str} {xp : Pos} (hu : X.A.units + 1 < cLine) (hk : DB P X b W N k mk) (he : DE P X b W N e ma) (hj : X.N[j]? = some x := by rfl) (hv : Vis X.env.scope x := by first | exact Or.inl rfl | exact Or.inr (Or.inl rfl) | exact Or.inr (Or.inr rfl)) (hNj : j ∈ N := by decide) (hx : Kept N Nx := by decide) (hd : (x == ("__debug__" : Str)) = false := by decide) (hcd : (x == ("__classdict__" : Str)) = false := by decide)
    (hs : swapsWithSole [.Subscript (.Name x xp) k tpos] e pos.line X.env = pure false := by rfl) (hw : swappedStores [.Subscript (.Name x xp) k tpos] e X.env = pure none := by rfl)
    (h1 : (assignEach [.Subscript (.Name x xp) k tpos] X.env).map (·.2) = [assign (.Subscript (.Name x xp) k tpos) X.env] := by rfl)
    (ha : ∀ v, assign (.Subscript (.Name x xp) k tpos) X.env v = (do
      let ov ← holding [v] (eval (.Name x xp) X.env)
      let iv ← holding [v, ov] (eval k X.env)
      standAt (Expr.pos (.Subscript (.Name x xp) k tpos))
      holding [v, ov, iv] (setItem ov iv v)
      release [v, ov, iv] []) := by intro _; rfl) :
    DS P X b W N Nb Nx N (.Assign [.Subscript (.Name x xp) k tpos] e pos) (putS j mk ma) := ds_put hu hj hv he hk hNj hx hd hcd hs hw h1 ha
theorem s_putAug (j : Nat) {x : Str} {xp : Pos} {op : Operator} {ti : TIp} (hu : X.A.units + 1 < cLine) (hp : PIp X op ti) (hv : VIp P b f ti) (hk : DE P X b W N k mk) (he : DB P X b W N e ma) (hK : P.K = X.K := by rfl) (hj : X.N[j]? = some x := by rfl) (hvis : Vis X.env.scope x := by first | exact Or.inl rfl | exact Or.inr (Or.inl rfl) | exact Or.inr (Or.inr rfl)) (hNj : j ∈ N := by decide) (hx : Kept N Nx := by decide) (hd : (x == ("__debug__" : Str)) = false := by decide) (hcd : (x == ("__classdict__" : Str)) = false := by decide)
    (ha : ∀ ov iv new, augStore k ov iv new = (do holding [new, ov, iv] (setItem ov iv new); release [new, ov, iv] []; pure .next) := by intros; rfl) :
    DS P X b W N Nb Nx N (.AugAssign (.Subscript (.Name x xp) k tpos) op e pos) (putAugS j f mk ma) := ds_putAug hu hK hj hvis hp hv hk he hNj hx hd hcd ha
theorem s_setLc (j : Nat) {y : Str} {py : Pos} {t : TGT} {it : LV} {ifs : List Expr} {scope : Scope} {own : List (Str × Nat)} {spos : Pos} (hN : X.N.Nodup) (hi : DI P X true b W N tg iter it) (ok : BlkOk X.N X.env.scope scope own)
    (hg : ∀ (s : Shared) (H : Hp) (C : Addr) (cl : List (Str × Addr)) (fp : List Addr), DG P (X.blk s H scope (compEnvC scope cl C X.env) fp) N (own.map (·.2)) tg t)
    (ht : ∀ (s : Shared) (H : Hp) (C : Addr) (cl : List (Str × Addr)) (fp : List Addr), DTs P (X.blk s H scope (compEnvC scope cl C X.env) fp) b WF N ifs mc)
    (he : ∀ (s : Shared) (H : Hp) (C : Addr) (cl : List (Str × Addr)) (fp : List Addr), DE P (X.blk s H scope (compEnvC scope cl C X.env) fp) b WF N elt me)
    (hsw : swapsWith (.ListComp elt [⟨tg, iter, ifs, 0⟩] scope pos) (some (.Name y py)) spos.line X.env = pure true := by exact sw_true rfl rfl rfl (by decide +kernel))
    (hc : X.calm = true := by rfl) (hy : X.N[j]? = some y := by rfl) (hyl : X.env.scope.names.lookup y = some .local := by rfl)
    (ho : ∀ i ∈ own.map (·.2), i ∉ N := by decide) (hNj : j ∉ N := by decide) (hx : Kept N Nx := by decide) (hs : ∀ x, foldedSetIterable iter X.env x = pure x := by intro _; rfl) :
    DS P X b W N Nb Nx N (.Assign [.Name y py] (.ListComp elt [⟨tg, iter, ifs, 0⟩] scope pos) spos) (setS j (compD (own.map (·.2)) t it mc me)) := ds_setLc hc hN hy hyl hsw hi ok hg ht he ho hNj hx hs
theorem s_par2 (i j : Nat) {x y : Str} {px py pt : Pos} {kt k2 : Nat} {pt2 : Pos} (hN : X.N.Nodup) (ha : DM P X b W N fl [a, c] (evs ms)) (hc : X.calm = true := by rfl) (hi : X.N[i]? = some x := by rfl) (hj : X.N[j]? = some y := by rfl) (hx' : X.env.scope.names.lookup x = some .local := by rfl) (hy' : X.env.scope.names.lookup y = some .local := by rfl)
    (hw : swappedStores [.Tuple [.Name x px, .Name y py] kt pt] (.Tuple [a, c] k2 pt2) X.env = pure (some [x, y]) := by rfl)
    (hs : swapsWithSole [.Tuple [.Name x px, .Name y py] kt pt] (.Tuple [a, c] k2 pt2) pos.line X.env = pure false := by rfl) (hx : Kept N Nx := by decide) (hnd : [i, j].Nodup := by decide) (hn : ∀ l ∈ [i, j], l ∉ N := by decide) (hl : ([i, j].all fun l => decide (l < X.N.length)) = true := by rfl) (hlen : [i, j].length = fl.length := by rfl) :
    DS P X b W N Nb Nx (ownN [i, j] fl N) (.Assign [.Tuple [.Name x px, .Name y py] kt pt] (.Tuple [a, c] k2 pt2) pos) (parS [i, j] ms) := ds_par2 hc hN hi hj hx' hy' ha hw hs hx hnd hn (all_lt hl) hlen
theorem s_par3 (i j l : Nat) {x y z : Str} {px py pz pt : Pos} {kt k2 : Nat} {pt2 : Pos} (hN : X.N.Nodup) (ha : DM P X b W N fl [a, c, d] (evs ms)) (hc : X.calm = true := by rfl) (hi : X.N[i]? = some x := by rfl) (hj : X.N[j]? = some y := by rfl) (hk : X.N[l]? = some z := by rfl) (hx' : X.env.scope.names.lookup x = some .local := by rfl) (hy' : X.env.scope.names.lookup y = some .local := by rfl) (hz' : X.env.scope.names.lookup z = some .local := by rfl)
    (hw : swappedStores [.Tuple [.Name x px, .Name y py, .Name z pz] kt pt] (.Tuple [a, c, d] k2 pt2) X.env = pure (some [x, y, z]) := by rfl)
    (hs : swapsWithSole [.Tuple [.Name x px, .Name y py, .Name z pz] kt pt] (.Tuple [a, c, d] k2 pt2) pos.line X.env = pure false := by rfl) (hx : Kept N Nx := by decide) (hnd : [i, j, l].Nodup := by decide) (hn : ∀ q ∈ [i, j, l], q ∉ N := by decide) (hl : ([i, j, l].all fun l => decide (l < X.N.length)) = true := by rfl) (hlen : [i, j, l].length = fl.length := by rfl) :
    DS P X b W N Nb Nx (ownN [i, j, l] fl N) (.Assign [.Tuple [.Name x px, .Name y py, .Name z pz] kt pt] (.Tuple [a, c, d] k2 pt2) pos) (parS [i, j, l] ms) := ds_par3 hc hN hi hj hk hx' hy' hz' ha hw hs hx hnd hn (all_lt hl) hlen
theorem s_for {tg iter : Expr} {body : List Stmt} {t : TGT} {it : LV} {vs : List Nat} {m : SV} (hp : PassesOwn (model X.prog X.w) X.A X.env X.xe) (hi : DI P X false b W N tg iter it) (hg : DG P X N vs tg t) (hb : DSs P X b W N N Nx N body m) (hc : X.calm = true := by rfl) (hx : Kept N Nx := by decide) (hs : ∀ x, foldedSetIterable iter X.env x = pure x := by intro _; rfl) :
    DS P X b W N Nb Nx N (.For tg iter body [] pos) (forS t it m) := ds_for hp hc hi hg hb hx hs
theorem s_parT {is : List Nat} {tgs : List Expr} {pt : Pos} {kt k2 : Nat} {pt2 : Pos} (hg : DGn X is tgs) (ha : DM P X b W N fl es (evs ms)) (hc : X.calm = true := by rfl) (hx : Kept N Nx := by decide) (hnd : is.Nodup := by decide) (hn : ∀ l ∈ is, l ∉ N := by decide) (hl : (is.all fun l => decide (l < X.N.length)) = true := by rfl) (hlen : is.length = fl.length := by rfl)
    (hne : (assignEach tgs X.env).length = is.length := by rfl) (hst : (assignEach tgs X.env).findIdx? (·.1) = none := by rfl) (hs : swapsWithSole [.Tuple tgs kt pt] (.Tuple es k2 pt2) pos.line X.env = pure false := by rfl) (hw : swappedStores [.Tuple tgs kt pt] (.Tuple es k2 pt2) X.env = pure none := by rfl)
    (h1 : (assignEach [.Tuple tgs kt pt] X.env).map (·.2) = [assign (.Tuple tgs kt pt) X.env] := by rfl) (hsmall : fl.length ≤ LIM := by decide) :
    DS P X b W N Nb Nx (ownN is fl N) (.Assign [.Tuple tgs kt pt] (.Tuple es k2 pt2) pos) (parS is ms) := ds_parT hc hg ha hx hnd hn (all_lt hl) hlen hne hst hs hw h1 hsmall
end
end D
end

section
namespace D
open PySem (Str)

def m_dice : SV :=
  (seqS (ifS (chainD ltV ltV (bin subV (cD (.int 0)) (cD (.int 10))) (varD 0) (cD (.int 10))) (retS (heapL (lstD [(callD absF [(varD 0)]), (cD (.int 0)), (cD (.int 2))]))) nxS)
  (retS (heapL (lstD [(varD 0), (bin addV (cD (.int 1)) (bin modV (callD intF [(varD 0)]) (cD (.int 1009)))), (callD intF [(bin geV (varD 0) (bin powV (cD (.int 10)) (cD (.int 18))))])]))))
def f_dice : FV := body 1 m_dice
def m_rounds : SV :=
  (seqS (setS 2 (sliceD (varD 0) none (some (varD 1))))
  (seqS (ifS (bin eqV (varD 2) (lstD [])) (setS 2 (lstD [(cD (.int 0))])) nxS)
  (retS (compD [3] (nameT 3) (itD (varD 2)) (cD (.bl true)) (callD f_dice [(varD 3)])))))
def f_rounds : FV := body 4 m_rounds
def m_roll : SV :=
  (seqS (ifS (orD (bin eqV (bin getV (varD 0) (cD (.int 2))) (cD (.int 2))) (andD (bin eqV (bin getV (varD 0) (cD (.int 2))) (cD (.int 1))) (bin gtV (bin getV (varD 0) (cD (.int 0))) (cD (.int 0))))) (seqS (setS 2 (bin modV (callD intF [(bin getV (varD 0) (cD (.int 0)))]) (varD 1)))
  (seqS (hputS (varD 0) (cD (.int 0)) (bin fdivV (bin getV (varD 0) (cD (.int 0))) (varD 1)))
  (retS (varD 2)))) nxS)
  (seqS (hputS (varD 0) (cD (.int 2)) (cD (.int 0)))
  (seqS (hputS (varD 0) (cD (.int 0)) (bin modV (callD intF [(bin addV (bin addV (bin mulV (bin getV (varD 0) (cD (.int 0))) (cD (.int 48271))) (bin mulV (bin getV (varD 0) (cD (.int 1))) (cD (.int 69621)))) (cD (.int 11)))]) (cD (.int 2147483647))))
  (seqS (hputS (varD 0) (cD (.int 1)) (bin addV (bin getV (varD 0) (cD (.int 1))) (cD (.int 1))))
  (retS (bin modV (callD intF [(bin addV (bin fdivV (bin getV (varD 0) (cD (.int 0))) (cD (.int 7))) (bin getV (varD 0) (cD (.int 0))))]) (varD 1)))))))
def f_roll : FV := body 3 m_roll

@[simp] theorem addV_int (i j : Int) (h : AH) : addV (.int i) (.int j) h = .ok (.int (i + j)) h := rfl
@[simp] theorem addV_str (x y : Str) (h : AH) : addV (.str x) (.str y) h = if x.length + y.length ≤ LIM then .ok (.str (x ++ y)) h else .stuck := rfl
@[simp] theorem addV_tup (x y : List AV) (h : AH) : addV (.tup x) (.tup y) h = if x.length + y.length ≤ LIM then .ok (.tup (x ++ y)) h else .stuck := rfl
@[simp] theorem addV_lst (x y : List AV) (h : AH) : addV (.lst x) (.lst y) h = if x.length + y.length ≤ LIM then .ok (.lst (x ++ y)) h else .stuck := rfl
@[simp] theorem iaddV_int (i j : Int) (h : AH) : iaddV (.int i) (.int j) h = .ok (.int (i + j)) h := rfl
@[simp] theorem subV_int (i j : Int) (h : AH) : subV (.int i) (.int j) h = .ok (.int (i - j)) h := rfl
theorem mulV_int (i j : Int) (h : AH) : mulV (.int i) (.int j) h = if smallI i || smallI j then .ok (.int (i * j)) h else .stuck := rfl
theorem mulV_r {i j : Int} {h : AH} (hj : smallI j = true) : mulV (.int i) (.int j) h = .ok (.int (i * j)) h := by rw [mulV_int, hj, Bool.or_true]; rfl
theorem mulV_l {i j : Int} {h : AH} (hj : smallI i = true) : mulV (.int i) (.int j) h = .ok (.int (i * j)) h := by rw [mulV_int, hj, Bool.true_or]; rfl
theorem smallI_of {i : Int} (h1 : -18446744073709551616 < i) (h2 : i < 18446744073709551616) : smallI i = true := by
  unfold smallI
  simp
  omega
theorem fdivV_int {i j : Int} {h : AH} (h1 : j ≠ 0) (h2 : j.natAbs < 1073741824) : fdivV (.int i) (.int j) h = .ok (.int (i.fdiv j)) h := by
  show (if j ≠ 0 ∧ j.natAbs < 1073741824 then ER.ok (.int (i.fdiv j)) h else .stuck) = _
  rw [if_pos ⟨h1, h2⟩]
theorem modV_int {i j : Int} {h : AH} (h1 : j ≠ 0) : modV (.int i) (.int j) h = .ok (.int (i.fmod j)) h := by
  show (if j ≠ 0 then ER.ok (.int (i.fmod j)) h else .stuck) = _
  rw [if_pos h1]
@[simp] theorem negV_int (i : Int) (h : AH) : negV (.int i) h = .ok (.int (-i)) h := rfl
@[simp] theorem ltV_int (i j : Int) (h : AH) : ltV (.int i) (.int j) h = .ok (.bl (decide (i < j))) h := rfl
@[simp] theorem leV_int (i j : Int) (h : AH) : leV (.int i) (.int j) h = .ok (.bl (decide (i ≤ j))) h := rfl
@[simp] theorem gtV_int (i j : Int) (h : AH) : gtV (.int i) (.int j) h = .ok (.bl (decide (j < i))) h := rfl
@[simp] theorem geV_int (i j : Int) (h : AH) : geV (.int i) (.int j) h = .ok (.bl (decide (j ≤ i))) h := rfl
@[simp] theorem eqV_int (i j : Int) (h : AH) : eqV (.int i) (.int j) h = .ok (.bl (i == j)) h := by simp [eqV, thaw, eqOk, scalA, AV.eq]
@[simp] theorem neV_int (i j : Int) (h : AH) : neV (.int i) (.int j) h = .ok (.bl (!(i == j))) h := by simp [neV, thaw, eqOk, scalA, AV.eq]
@[simp] theorem eqV_str (i j : Str) (h : AH) : eqV (.str i) (.str j) h = .ok (.bl (i == j)) h := by simp [eqV, thaw, eqOk, scalA, AV.eq]
@[simp] theorem neV_str (i j : Str) (h : AH) : neV (.str i) (.str j) h = .ok (.bl (!(i == j))) h := by simp [neV, thaw, eqOk, scalA, AV.eq]
@[simp] theorem isNoneV_non (h : AH) : isNoneV .non h = .ok (.bl true) h := rfl
@[simp] theorem isNoneV_int (i : Int) (h : AH) : isNoneV (.int i) h = .ok (.bl false) h := rfl
@[simp] theorem notNoneV_non (h : AH) : notNoneV .non h = .ok (.bl false) h := rfl
@[simp] theorem notNoneV_int (i : Int) (h : AH) : notNoneV (.int i) h = .ok (.bl true) h := rfl
@[simp] theorem intF_int (i : Int) (h : AH) : intF [.int i] h = .ok (.int i) h := rfl
@[simp] theorem intF_bl (i : Bool) (h : AH) : intF [.bl i] h = .ok (.int (b2i i)) h := rfl
@[simp] theorem absF_int (i : Int) (h : AH) : absF [.int i] h = .ok (.int (if i < 0 then -i else i)) h := rfl
@[simp] theorem lenF_tup (xs : List AV) (h : AH) : lenF [.tup xs] h = .ok (.int xs.length) h := rfl
@[simp] theorem lenF_lst (xs : List AV) (h : AH) : lenF [.lst xs] h = .ok (.int xs.length) h := rfl
@[simp] theorem lenF_ro (xs : List AV) (h : AH) : lenF [.ro xs] h = .ok (.int xs.length) h := rfl
theorem lenF_ref {h : AH} {i : Nat} {xs : List AV} (e : h[i]? = some (.lst xs)) : lenF [.ref i] h = .ok (.int xs.length) h := by
  have : lenV (.ref i) h = some xs.length := by
    unfold lenV
    simp [seqOf, rl, lv, e]
  unfold lenF
  simp [this]
@[simp] theorem tupleF_tup (xs : List AV) (h : AH) : tupleF [.tup xs] h = .ok (.tup xs) h := rfl
@[simp] theorem tupleF_lst (xs : List AV) (h : AH) : tupleF [.lst xs] h = .ok (.tup xs) h := rfl
@[simp] theorem listF_tup (xs : List AV) (h : AH) : listF [.tup xs] h = .ok (.lst xs) h := rfl
@[simp] theorem listF_lst (xs : List AV) (h : AH) : listF [.lst xs] h = .ok (.lst xs) h := rfl
theorem tupleF_ref {h : AH} {i : Nat} {xs : List AV} (e : h[i]? = some (.lst xs)) : tupleF [.ref i] h = .ok (.tup xs) h := by
  simp [tupleF, seqOf, rl, lv, e]
theorem listF_ref {h : AH} {i : Nat} {xs : List AV} (e : h[i]? = some (.lst xs)) : listF [.ref i] h = .ok (.lst xs) h := by
  simp [listF, seqOf, rl, lv, e]
@[simp] theorem getV_tup (xs : List AV) (k : Int) (h : AH) : getV (.tup xs) (.int k) h = optE (atI xs k) h := rfl
@[simp] theorem getV_lst (xs : List AV) (k : Int) (h : AH) : getV (.lst xs) (.int k) h = optE (atI xs k) h := rfl
@[simp] theorem getV_ro (xs : List AV) (k : Int) (h : AH) : getV (.ro xs) (.int k) h = optE (atI xs k) h := rfl
theorem atI_nat {α : Type} (xs : List α) (k : Nat) : atI xs (k : Int) = xs[k]? := by
  unfold atI ixI
  by_cases hk : k < xs.length
  · rw [if_pos (by omega), if_pos (by omega)]
    simp
  · rw [if_pos (by omega), if_neg (by omega)]
    simp
    omega
theorem atI_at {α : Type} {xs : List α} {k : Nat} (hk : k < xs.length) : atI xs (k : Int) = some xs[k] := by rw [atI_nat]; simp [hk]
@[simp] theorem atI_zero {α : Type} (x : α) (xs : List α) : atI (x :: xs) 0 = some x := by
  have := atI_nat (x :: xs) 0
  simpa using this
@[simp] theorem atI_one {α : Type} (x y : α) (xs : List α) : atI (x :: y :: xs) 1 = some y := by
  have := atI_nat (x :: y :: xs) 1
  simpa using this
@[simp] theorem atI_two {α : Type} (x y z : α) (xs : List α) : atI (x :: y :: z :: xs) 2 = some z := by
  have := atI_nat (x :: y :: z :: xs) 2
  simpa using this

/-- a dice stands there -/
def Dice (h : AH) (i : Nat) : Prop := ∃ a b c : Int, h[i]? = some (.lst [.int a, .int b, .int c])
/-- only the thing at i has changed -/
structure Only1 (i : Nat) (h h' : AH) : Prop where
  len : h'.length = h.length
  oth : ∀ j, j ≠ i → h'[j]? = h[j]?
theorem Only1.refl {i : Nat} {h : AH} : Only1 i h h := ⟨rfl, fun _ _ => rfl⟩
theorem Only1.trans {i : Nat} {h h1 h2 : AH} (a : Only1 i h h1) (b : Only1 i h1 h2) : Only1 i h h2 := ⟨b.len.trans a.len, fun j hj => (b.oth j hj).trans (a.oth j hj)⟩
theorem Only1.set {i : Nat} {h : AH} {o : AO} : Only1 i h (h.set i o) := ⟨by simp, fun j hj => by rw [List.getElem?_set_ne (Ne.symm hj)]⟩

theorem seqS_nx {a b : SV} {σ σ1 : AS} {h h1 : AH} (e : a σ h = .nx σ1 h1) : seqS a b σ h = b σ1 h1 := by unfold seqS; rw [e]
theorem seqS_rt {a b : SV} {σ : AS} {v : AV} {h h1 : AH} (e : a σ h = .rt v h1) : seqS a b σ h = .rt v h1 := by unfold seqS; rw [e]
theorem get_hl {h : AH} {i : Nat} {xs : List AV} (e : h[i]? = some (.lst xs)) (k : Int) : getV (.ref i) (.int k) h = optE (atI xs k) h := by
  show optE (getH (.ref i) (.int k) h) h = _
  have : getH (.ref i) (.int k) h = atI xs k := by
    unfold getH rl lv
    simp only [e, atA, iOf_int, Option.bind_some]
  rw [this]
theorem hput_hl {h : AH} {i : Nat} {xs : List AV} (e : h[i]? = some (.lst xs)) (k : Int) (j : Nat) (w : AV) (hj : ixI xs.length k = some j) : hput1 i (.int k) w h = some (h.set i (.lst (xs.set j w))) := by
  unfold hput1
  simp only [e, iOf_int, Option.bind_some, hj, Option.map_some, hset]
theorem eq_int (i j : Int) (h : AH) : eqV (.int i) (.int j) h = .ok (.bl (i == j)) h := by
  simp [eqV, thaw, eqOk, scalA, AV.eq]
theorem roll_ok {h : AH} {i : Nat} {m : Int} (hd : Dice h i) (h1 : 0 < m) (h2 : m < 1073741824) : ∃ r h', f_roll [.ref i, .int m] h = .ok (.int r) h' ∧ 0 ≤ r ∧ r < m ∧ Only1 i h h' ∧ Dice h' i := by
  obtain ⟨a, b, c, e⟩ := hd
  have hi : i < h.length := (List.getElem?_eq_some_iff.mp e).1
  have hm0 : m ≠ 0 := by omega
  have g0 : getV (.ref i) (.int 0) h = .ok (.int a) h := by rw [get_hl e]; rfl
  have g1 : getV (.ref i) (.int 1) h = .ok (.int b) h := by rw [get_hl e]; rfl
  have g2 : getV (.ref i) (.int 2) h = .ok (.int c) h := by rw [get_hl e]; rfl
  have self : ∀ o : AO, (h.set i o)[i]? = some o := fun o => List.getElem?_set_self hi
  have ss : ∀ o o' : AO, (h.set i o).set i o' = h.set i o' := fun o o' => List.set_set ..
  have ca : ((orD (bin eqV (bin getV (varD 0) (cD (.int 2))) (cD (.int 2))) (andD (bin eqV (bin getV (varD 0) (cD (.int 2))) (cD (.int 1))) (bin gtV (bin getV (varD 0) (cD (.int 0))) (cD (.int 0))))) [some (.ref i), some (.int m), none] h) = .ok (.bl (c == 2 || (c == 1 && decide (0 < a)))) h := by
    simp only [orD, andD, bin, varD, cD, List.getElem?_cons_zero, ER.bind_ok, g2, eq_int, ER.tst_ok]
    by_cases c2 : c = 2
    · simp [c2]
    · by_cases c1 : c = 1
      · subst c1
        simp [g0, gtV, cmpI]
      · simp [c1, c2]
  unfold f_roll body m_roll
  by_cases hc : (c == 2 || (c == 1 && decide (0 < a))) = true
  · refine ⟨a.fmod m, h.set i (.lst [.int (a.fdiv m), .int b, .int c]), ?_, ?_, ?_, Only1.set, a.fdiv m, b, c, self _⟩
    · have hf : m.natAbs < 1073741824 := by omega
      simp only [List.map_cons, List.map_nil, List.length_cons, List.length_nil, List.replicate, List.cons_append, List.nil_append, Nat.reduceAdd, Nat.reduceSub]
      rw [seqS_rt (v := .int (a.fmod m)) (h1 := h.set i (.lst [.int (a.fdiv m), .int b, .int c]))]
      unfold ifS
      rw [ca]
      simp only [ER.tstS_ok, hc, if_pos]
      simp [seqS, setS, hputS, retS, bin, varD, cD, callD, evs, g0, modV_int hm0, fdivV_int hm0 hf, optH, rfOf, hput_hl e 0 0 _ (by rfl), List.set]
    · exact Int.fmod_nonneg_of_pos _ h1
    · exact Int.fmod_lt_of_pos _ h1
  · refine ⟨?r, h.set i (.lst [.int ?a, .int (b + 1), .int 0]), ?_, ?_, ?_, Only1.set, _, _, _, self _⟩
    case a => exact (a * 48271 + b * 69621 + 11).fmod 2147483647
    case r => exact (((a * 48271 + b * 69621 + 11).fmod 2147483647).fdiv 7 + (a * 48271 + b * 69621 + 11).fmod 2147483647).fmod m
    · simp only [List.map_cons, List.map_nil, List.length_cons, List.length_nil, List.replicate, List.cons_append, List.nil_append, Nat.reduceAdd, Nat.reduceSub]
      rw [seqS_nx (σ1 := [some (.ref i), some (.int m), none]) (h1 := h) (by
        unfold ifS
        rw [ca]
        simp only [ER.tstS_ok, if_neg hc, nxS])]
      have sm : ∀ z : Int, (smallI z || smallI 48271) = true := fun z => by simp [smallI]
      have sm2 : ∀ z : Int, (smallI z || smallI 69621) = true := fun z => by simp [smallI]
      have p1 : hputS (varD 0) (cD (.int 2)) (cD (.int 0)) [some (.ref i), some (.int m), none] h = .nx [some (.ref i), some (.int m), none] (h.set i (.lst [.int a, .int b, .int 0])) := by
        simp [hputS, varD, cD, rfOf, hput_hl e 2 2 _ (by rfl), List.set]
      rw [seqS_nx p1]
      generalize hh1 : h.set i (.lst [.int a, .int b, .int 0]) = hx
      have e1 : hx[i]? = some (.lst [.int a, .int b, .int 0]) := by rw [← hh1]; exact self _
      have g10 : getV (.ref i) (.int 0) hx = .ok (.int a) hx := by rw [get_hl e1]; rfl
      have g11 : getV (.ref i) (.int 1) hx = .ok (.int b) hx := by rw [get_hl e1]; rfl
      rw [seqS_nx (σ1 := [some (.ref i), some (.int m), none]) (h1 := hx.set i (.lst [.int ((a * 48271 + b * 69621 + 11).fmod 2147483647), .int b, .int 0])) (by
        simp [hputS, varD, cD, bin, callD, evs, g10, g11, mulV_int, sm, sm2, modV_int, rfOf, hput_hl e1 0 0 _ (by rfl), List.set])]
      rw [← hh1, ss]
      generalize hh2 : h.set i (.lst [.int ((a * 48271 + b * 69621 + 11).fmod 2147483647), .int b, .int 0]) = hy
      have e2 : hy[i]? = some (.lst [.int ((a * 48271 + b * 69621 + 11).fmod 2147483647), .int b, .int 0]) := by rw [← hh2]; exact self _
      have g21 : getV (.ref i) (.int 1) hy = .ok (.int b) hy := by rw [get_hl e2]; rfl
      rw [seqS_nx (σ1 := [some (.ref i), some (.int m), none]) (h1 := hy.set i (.lst [.int ((a * 48271 + b * 69621 + 11).fmod 2147483647), .int (b + 1), .int 0])) (by
        simp [hputS, varD, cD, bin, g21, rfOf, hput_hl e2 1 1 _ (by rfl), List.set])]
      rw [← hh2, ss]
      generalize hh3 : h.set i (.lst [.int ((a * 48271 + b * 69621 + 11).fmod 2147483647), .int (b + 1), .int 0]) = hz
      have e3 : hz[i]? = some (.lst [.int ((a * 48271 + b * 69621 + 11).fmod 2147483647), .int (b + 1), .int 0]) := by rw [← hh3]; exact self _
      have g30 : getV (.ref i) (.int 0) hz = .ok (.int ((a * 48271 + b * 69621 + 11).fmod 2147483647)) hz := by rw [get_hl e3]; rfl
      simp [retS, varD, cD, bin, callD, evs, g30, fdivV_int, modV_int hm0]
    · exact Int.fmod_nonneg_of_pos _ h1
    · exact Int.fmod_lt_of_pos _ h1

theorem dice_mk (c : Int) (h : AH) : ∃ a b d : Int, f_dice [.int c] h = .ok (.ref h.length) (h ++ [.lst [.int a, .int b, .int d]]) := by
  have p : powV (.int 10) (.int 18) h = .ok (.int 1000000000000000000) h := by
    simp [powV]
  by_cases hc : -10 < c ∧ c < 10
  · refine ⟨if c < 0 then -c else c, 0, 2, ?_⟩
    simp [f_dice, body, m_dice, seqS, ifS, chainD, bin, cD, varD, hc.1, hc.2, retS, heapL, lstD, evs, callD]
  · refine ⟨c, 1 + c.fmod 1009, b2i (decide (1000000000000000000 ≤ c)), ?_⟩
    have hz : chainD ltV ltV (bin subV (cD (.int 0)) (cD (.int 10))) (varD 0) (cD (.int 10)) [some (.int c)] h = .ok (.bl false) h := by
      by_cases h1 : -10 < c
      · have h2 : ¬ c < 10 := fun z => hc ⟨h1, z⟩
        simp [chainD, bin, cD, varD, h1, h2]
      · simp [chainD, bin, cD, varD, h1]
    simp [f_dice, body, m_dice, seqS, ifS, hz, nxS, retS, heapL, lstD, evs, callD, bin, cD, varD, modV_int, p]
theorem take_cut {α : Type} (xs : List α) (m : Int) (hm : 0 ≤ m) : cut xs none (some m) = xs.take m.toNat := by
  unfold cut sIx
  simp only [List.drop_zero, Nat.sub_zero, if_neg (by omega : ¬ m < 0)]
  rw [List.take_eq_take_iff]
  omega
theorem dices_comp {σ : AS} (hσ : 3 < σ.length) : ∀ (cs : List Int) (h : AH), ∃ h' , compL (nameT 3) (cD (.bl true)) (callD f_dice [(varD 3)]) σ (cs.map AV.int) h = .ok ((List.range cs.length).map fun k => .ref (h.length + k)) h' ∧ h'.length = h.length + cs.length ∧ (∀ i, i < h.length → h'[i]? = h[i]?) ∧ ∀ i, h.length ≤ i → i < h'.length → Dice h' i
  | [], h => ⟨h, rfl, by simp, fun _ _ => rfl, fun i h1 h2 => by omega⟩
  | c :: cs, h => by
    obtain ⟨a, b, d, e⟩ := dice_mk c h
    obtain ⟨h', e', hl, hk, hd⟩ := dices_comp hσ cs (h ++ [.lst [.int a, .int b, .int d]])
    have hlen : (h ++ [AO.lst [.int a, .int b, .int d]]).length = h.length + 1 := by simp
    refine ⟨h', ?_, ?_, fun i hi => ?_, fun i h1 h2 => ?_⟩
    · have ev : callD f_dice [(varD 3)] (σ.set 3 (some (.int c))) h = .ok (.ref h.length) (h ++ [.lst [.int a, .int b, .int d]]) := by
        simp [callD, evs, varD, hσ, e]
      rw [List.map_cons]
      unfold compL
      simp only [nameT, cD, ev, e']
      rw [hlen, List.length_cons, List.range_succ_eq_map, List.map_cons, List.map_map]
      congr 2
      apply List.map_congr_left
      intro k _
      show AV.ref _ = AV.ref _
      congr 1
      show h.length + 1 + k = h.length + (k + 1)
      omega
    · rw [hl, hlen]; simp; omega
    · rw [hk i (by omega), List.getElem?_append_left hi]
    · by_cases z : i = h.length
      · subst z
        refine ⟨a, b, d, ?_⟩
        rw [hk _ (by omega)]
        simp
      · exact hd i (by omega) h2
theorem dl_ints : ∀ (n : Nat) (ns : List Int), (ns.map AV.int).all (AV.dl n) = true
  | n, ns => by
    rw [List.all_map]
    simp [Function.comp_def, AV.dl]
theorem dl_lst {n : Nat} {xs : List AV} (h : xs.all (AV.dl n) = true) : (AV.lst xs).dl (n + 1) = true := by
  simpa [AV.dl] using h
theorem dl_tup {n : Nat} {xs : List AV} (h : xs.all (AV.dl n) = true) : (AV.tup xs).dl (n + 1) = true := by
  simpa [AV.dl] using h
theorem rounds_ok (ns : List Int) (m : Int) (hm : 0 ≤ m) (hl : ns.length ≤ 16777000) : ∃ n h', f_rounds [.ro (ns.map AV.int), .int m] [] = .ok (.lst ((List.range n).map AV.ref)) h' ∧ h'.length = n ∧ ∀ i, i < n → Dice h' i := by
  have fin : ∀ cs : List Int, cs.length ≤ 16777000 → ∀ (x : AV), ∃ n h', retS (compD [3] (nameT 3) (itD (varD 2)) (cD (.bl true)) (callD f_dice [(varD 3)])) [some x, some (.int m), some (.lst (cs.map AV.int)), none] [] = .rt (.lst ((List.range n).map AV.ref)) h' ∧ h'.length = n ∧ ∀ i, i < n → Dice h' i := fun cs hc x => by
    obtain ⟨h', e, e1, e2, e3⟩ := dices_comp (σ := [some x, some (.int m), some (.lst (cs.map AV.int)), none]) (by simp) cs []
    refine ⟨cs.length, h', ?_, by simpa using e1, fun i hi => e3 i (by simp) (by rw [e1]; simpa using hi)⟩
    have w : wipeA [some x, some (.int m), some (.lst (cs.map AV.int)), none] [3] = [some x, some (.int m), some (.lst (cs.map AV.int)), none] := rfl
    simp only [List.length_nil, Nat.zero_add] at e
    simp only [retS, compD, itD, varD, List.getElem?_cons_succ, List.getElem?_cons_zero, ER.bindL_ok, iterV, optL_some, LR.bind_ok, w, e]
    rw [if_pos (by rw [List.length_map, List.length_range]; unfold LIM; omega)]
    rfl
  have hcut : sliceV (.ro (ns.map AV.int)) (pI []) (pI [.int m]) [] = .ok (.lst ((ns.take m.toNat).map AV.int)) [] := by
    show ER.ok (.lst (cut (ns.map AV.int) none (some m))) [] = _
    rw [take_cut _ _ hm, List.map_take]
  have s1 : setS 2 (sliceD (varD 0) none (some (varD 1))) [some (.ro (ns.map AV.int)), some (.int m), none, none] [] = .nx [some (.ro (ns.map AV.int)), some (.int m), some (.lst ((ns.take m.toNat).map AV.int)), none] [] := by
    simp [setS, sliceD, varD, partD, hcut]
  have hlen : (ns.take m.toNat).length ≤ 16777000 := by
    rw [List.length_take]
    omega
  cases hcs : ns.take m.toNat with
  | nil =>
    rw [hcs] at s1
    obtain ⟨n, h', e1, e2, e3⟩ := fin [0] (by simp) (.ro (ns.map AV.int))
    refine ⟨n, h', ?_, e2, e3⟩
    unfold f_rounds body m_rounds
    simp only [List.map_cons, List.map_nil, List.length_cons, List.length_nil, List.replicate, List.cons_append, List.nil_append, Nat.reduceAdd, Nat.reduceSub]
    rw [seqS_nx s1]
    have s2 : ifS (bin eqV (varD 2) (lstD [])) (setS 2 (lstD [(cD (.int 0))])) nxS [some (.ro (ns.map AV.int)), some (.int m), some (.lst (([] : List Int).map AV.int)), none] [] = .nx [some (.ro (ns.map AV.int)), some (.int m), some (.lst (([0] : List Int).map AV.int)), none] [] := by
      simp [ifS, bin, varD, lstD, evs, eqV, thaw, eqOk, scalA, AV.dl, DEPTH, AV.eq, AV.eqL, setS, cD]
    rw [seqS_nx s2, e1]
  | cons c cs =>
    rw [hcs] at s1 hlen
    obtain ⟨n, h', e1, e2, e3⟩ := fin (c :: cs) hlen (.ro (ns.map AV.int))
    refine ⟨n, h', ?_, e2, e3⟩
    unfold f_rounds body m_rounds
    simp only [List.map_cons, List.map_nil, List.length_cons, List.length_nil, List.replicate, List.cons_append, List.nil_append, Nat.reduceAdd, Nat.reduceSub]
    simp only [List.map_cons] at s1 e1
    rw [seqS_nx s1]
    have d1 : (AV.lst (AV.int c :: cs.map AV.int)).dl DEPTH = true := dl_lst (n := 49) (by simpa [AV.dl] using dl_ints 49 cs)
    have s2 : ifS (bin eqV (varD 2) (lstD [])) (setS 2 (lstD [(cD (.int 0))])) nxS [some (.ro (ns.map AV.int)), some (.int m), some (.lst (AV.int c :: cs.map AV.int)), none] [] = .nx [some (.ro (ns.map AV.int)), some (.int m), some (.lst (AV.int c :: cs.map AV.int)), none] [] := by
      have d2 : (AV.lst []).dl DEPTH = true := by decide
      simp [ifS, bin, varD, lstD, evs, eqV, thaw, eqOk, scalA, d1, d2, AV.eq, AV.eqL, nxS]
    rw [seqS_nx s2, e1]

/-- the heap has grown and only the dice at i has changed -/
structure Keep (i : Nat) (h h' : AH) : Prop where
  len : h.length ≤ h'.length
  oth : ∀ j, j < h.length → j ≠ i → h'[j]? = h[j]?
theorem Keep.refl {i : Nat} {h : AH} : Keep i h h := ⟨Nat.le_refl _, fun _ _ _ => rfl⟩
theorem Keep.trans {i : Nat} {h h1 h2 : AH} (a : Keep i h h1) (b : Keep i h1 h2) : Keep i h h2 := ⟨Nat.le_trans a.len b.len, fun j hj hn => (b.oth j (Nat.lt_of_lt_of_le hj a.len) hn).trans (a.oth j hj hn)⟩
theorem Only1.keep {i : Nat} {h h' : AH} (a : Only1 i h h') : Keep i h h' := ⟨Nat.le_of_eq a.len.symm, fun j _ hn => a.oth j hn⟩
theorem Keep.app {i : Nat} {h l : AH} : Keep i h (h ++ l) := ⟨by simp, fun j hj _ => by rw [List.getElem?_append_left hj]⟩
theorem rounds_loop {L : Nat} {bd : SV} (hb : ∀ (σ : AS) (h : AH) (i : Nat), σ.length = L → Dice h i → ∃ σ' h', bd (σ.set 1 (some (.ref i))) h = .nx σ' h' ∧ σ'.length = L ∧ Keep i h h') :
    ∀ (is : List Nat) (σ : AS) (h : AH), is.Nodup → σ.length = L → (∀ i ∈ is, Dice h i) → ∃ σ' h', forL (nameT 1) bd (is.map AV.ref) σ h = .nx σ' h'
  | [], σ, h, _, _, _ => ⟨σ, h, rfl⟩
  | i :: is, σ, h, hn, hl, hd => by
    obtain ⟨ni, hn⟩ := List.nodup_cons.mp hn
    obtain ⟨σ1, h1, e1, l1, k1⟩ := hb σ h i hl (hd i List.mem_cons_self)
    obtain ⟨σ', h', e⟩ := rounds_loop hb is σ1 h1 hn l1 fun j hj => by
      obtain ⟨a, b, c, e⟩ := hd j (List.mem_cons_of_mem _ hj)
      exact ⟨a, b, c, (k1.oth j (List.getElem?_eq_some_iff.mp e).1 (fun z => ni (by rw [← z]; exact hj))).trans e⟩
    refine ⟨σ', h', ?_⟩
    rw [List.map_cons]
    unfold forL
    simp only [nameT, e1, e]
theorem law_of {L n : Nat} {most : Int} {bd : SV} (hL : 2 ≤ L) (hn : n ≤ 63) (hm : 0 ≤ most) (hb : ∀ (σ : AS) (h : AH) (i : Nat), σ.length = L → Dice h i → ∃ σ' h', bd (σ.set 1 (some (.ref i))) h = .nx σ' h' ∧ σ'.length = L ∧ Keep i h h') :
    Law n (body L (seqS (forS (nameT 1) (itD (callD f_rounds [(varD 0), (cD (.int most))])) bd) (retS (cD (.bl true))))) := by
  intro ns hns
  obtain ⟨k, h, e, hlen, hd⟩ := rounds_ok ns most hm (by omega)
  obtain ⟨L', rfl⟩ : ∃ L', L = L' + 1 := ⟨L - 1, by omega⟩
  obtain ⟨σ', h', e2⟩ := rounds_loop hb (List.range k) (some (.ro (ns.map AV.int)) :: List.replicate L' none) h List.nodup_range (by simp) fun i hi => hd i (List.mem_range.mp hi)
  refine ⟨h', ?_⟩
  unfold body
  have hs : ([AV.ro (ns.map AV.int)].map some ++ List.replicate (L' + 1 - [AV.ro (ns.map AV.int)].length) none) = some (.ro (ns.map AV.int)) :: List.replicate L' none := by simp
  rw [hs]
  rw [seqS_nx (σ1 := σ') (h1 := h') (by
    simp only [forS, itD, callD, evs, varD, cD, List.getElem?_cons_zero, ER.bindL_ok, LR.bindL_ok, LR.bind_ok, e, iterV, optL_some, LR.toS_ok, e2])]
  rfl
end D
end

section
namespace D
open PySem (Str)

theorem forL_inv {t : TGT} {b : SV} (I : Nat → AS → AH → Prop) : ∀ (xs : List AV) (i : Nat) (σ : AS) (h : AH), (∀ (k : Nat) (x : AV) (σ : AS) (h : AH), xs[k]? = some x → I (i + k) σ h → ∃ σ1 σ2 h2, t x σ = some σ1 ∧ (b σ1 h = .nx σ2 h2 ∨ b σ1 h = .ct σ2 h2) ∧ I (i + k + 1) σ2 h2) → I i σ h →
    ∃ σ' h', forL t b xs σ h = .nx σ' h' ∧ I (i + xs.length) σ' h'
  | [], i, σ, h, _, h0 => ⟨σ, h, rfl, h0⟩
  | x :: xs, i, σ, h, step, h0 => by
    obtain ⟨σ1, σ2, h2, e1, e2, h3⟩ := step 0 x σ h rfl h0
    obtain ⟨σ', h', e, r⟩ := forL_inv I xs (i + 1) σ2 h2 (fun k y σ h hy hi => by
      have e : i + 1 + k = i + (k + 1) := by omega
      rw [e] at hi ⊢
      exact step (k + 1) y σ h (by simpa using hy) hi) h3
    refine ⟨σ', h', ?_, by rw [List.length_cons]; have e : i + (xs.length + 1) = i + 1 + xs.length := by omega
                           rw [e]; exact r⟩
    unfold forL
    rcases e2 with e2 | e2 <;> simp only [e1, e2, e]
/-- a loop from its start -/
theorem for_inv {t : TGT} {b : SV} (I : Nat → AS → AH → Prop) {xs : List AV} {σ : AS} {h : AH} (h0 : I 0 σ h) (step : ∀ (k : Nat) (x : AV) (σ : AS) (h : AH), xs[k]? = some x → I k σ h → ∃ σ1 σ2 h2, t x σ = some σ1 ∧ (b σ1 h = .nx σ2 h2 ∨ b σ1 h = .ct σ2 h2) ∧ I (k + 1) σ2 h2) :
    ∃ σ' h', forL t b xs σ h = .nx σ' h' ∧ I xs.length σ' h' := by
  obtain ⟨σ', h', e, r⟩ := forL_inv I xs 0 σ h (fun k x σ h hx hi => by
    rw [Nat.zero_add] at hi ⊢
    exact step k x σ h hx hi) h0
  exact ⟨σ', h', e, by rw [Nat.zero_add] at r; exact r⟩
theorem compL_enc {α : Type} {t : TGT} {c e : EV} {σ : AS} {h : AH} (enc : α → AV) (g : α → Option AV) : ∀ (ys : List α), (∀ y ∈ ys, ∃ σ1, t (enc y) σ = some σ1 ∧ ((∃ v, c σ1 h = .ok (.bl true) h ∧ e σ1 h = .ok v h ∧ g y = some v) ∨ (c σ1 h = .ok (.bl false) h ∧ g y = none))) →
    compL t c e σ (ys.map enc) h = .ok (ys.filterMap g) h
  | [], _ => rfl
  | y :: ys, H => by
    have ih := compL_enc enc g ys fun z hz => H z (List.mem_cons_of_mem _ hz)
    obtain ⟨σ1, e1, H1⟩ := H y List.mem_cons_self
    rw [List.map_cons]
    unfold compL
    rcases H1 with ⟨v, e2, e3, e4⟩ | ⟨e2, e4⟩
    · simp only [e1, e2, e3, ih, List.filterMap_cons, e4]
    · simp only [e1, e2, ih, List.filterMap_cons, e4]
theorem compL_inv {t : TGT} {c e : EV} {σ : AS} (I : Nat → List AV → AH → Prop) : ∀ (xs : List AV) (i : Nat) (acc : List AV) (h : AH), (∀ (k : Nat) (x : AV) (acc : List AV) (h : AH), xs[k]? = some x → I (i + k) acc h → ∃ σ1 h1 v h2, t x σ = some σ1 ∧ c σ1 h = .ok (.bl true) h1 ∧ e σ1 h1 = .ok v h2 ∧ I (i + k + 1) (acc ++ [v]) h2) → I i acc h →
    ∃ vs h', compL t c e σ xs h = .ok vs h' ∧ I (i + xs.length) (acc ++ vs) h'
  | [], i, acc, h, _, h0 => ⟨[], h, rfl, by simpa using h0⟩
  | x :: xs, i, acc, h, step, h0 => by
    obtain ⟨σ1, h1, v, h2, e1, e2, e3, h3⟩ := step 0 x acc h rfl h0
    obtain ⟨vs, h', e4, r⟩ := compL_inv I xs (i + 1) (acc ++ [v]) h2 (fun k y ac h hy hi => by
      have e : i + 1 + k = i + (k + 1) := by omega
      rw [e] at hi ⊢
      exact step (k + 1) y ac h (by simpa using hy) hi) h3
    refine ⟨v :: vs, h', ?_, ?_⟩
    · unfold compL
      simp only [e1, e2, e3, e4]
    · rw [List.append_assoc] at r
      have e : i + (x :: xs).length = i + 1 + xs.length := by rw [List.length_cons]; omega
      rw [e]; exact r
def ch (c : Nat) : Str := ⟨#[c]⟩
theorem ch_inj {a b : Nat} : (ch a = ch b) ↔ a = b := by
  unfold ch
  constructor
  · intro h
    simpa using h
  · rintro rfl; rfl
theorem eq_str_iff {x : AV} {s : Str} : AV.eq x (.str s) = true ↔ x = .str s := by
  cases x <;> simp [AV.eq]
theorem dlook_cons {k x q : AV} {r : List (AV × AV)} : dlook ((k, x) :: r) q = if AV.eq k q = true then some x else dlook r q := by
  unfold dlook
  rw [List.find?_cons]
  by_cases h : AV.eq k q = true
  · rw [if_pos h]
    simp [h]
  · rw [if_neg h]
    simp [h]
theorem dlook_app {a b : List (AV × AV)} {q : AV} : dlook (a ++ b) q = match dlook a q with | some x => some x | none => dlook b q := by
  induction a with
  | nil => rfl
  | cons p r ih =>
    obtain ⟨k, x⟩ := p
    rw [List.cons_append, dlook_cons, dlook_cons]
    by_cases h : AV.eq k q = true
    · rw [if_pos h, if_pos h]
    · rw [if_neg h, if_neg h, ih]
theorem dlook_any {kvs : List (AV × AV)} {q : AV} : (kvs.any fun kv => AV.eq kv.1 q) = (dlook kvs q).isSome := by
  induction kvs with
  | nil => rfl
  | cons p r ih =>
    obtain ⟨k, x⟩ := p
    rw [List.any_cons, dlook_cons, ih]
    by_cases h : AV.eq k q = true
    · rw [if_pos h, h]; rfl
    · rw [if_neg h]
      have : AV.eq k q = false := by simpa using h
      rw [this]; rfl
theorem dlook_map {kvs : List (AV × AV)} {s s' : Str} {v : AV} : dlook (kvs.map fun kv => if AV.eq kv.1 (.str s) then (kv.1, v) else kv) (.str s') = if s' = s then (dlook kvs (.str s)).map (fun _ => v) else dlook kvs (.str s') := by
  induction kvs with
  | nil => simp [dlook]
  | cons p r ih =>
    obtain ⟨k, x⟩ := p
    rw [List.map_cons]
    by_cases h : AV.eq k (.str s) = true
    · have hk := eq_str_iff.mp h
      subst hk
      rw [if_pos h, dlook_cons, dlook_cons, dlook_cons, ih]
      by_cases hs : s' = s
      · subst hs
        simp [h]
      · have hne : ¬ AV.eq (.str s) (.str s') = true := fun z => by
          have := eq_str_iff.mp z
          exact hs (by cases this; rfl)
        rw [if_neg hne, if_neg hs, if_neg hs, if_neg hne]
    · rw [if_neg h, dlook_cons, dlook_cons, dlook_cons, ih]
      by_cases hs : s' = s
      · subst hs
        simp [h]
      · rw [if_neg hs, if_neg hs]
theorem dlook_dput {kvs : List (AV × AV)} {s s' : Str} {v : AV} : dlook (dput kvs (.str s) v) (.str s') = if s' = s then some v else dlook kvs (.str s') := by
  unfold dput
  rw [dlook_any]
  by_cases h : (dlook kvs (.str s)).isSome = true
  · rw [if_pos h, dlook_map]
    by_cases hs : s' = s
    · rw [if_pos hs, if_pos hs]
      obtain ⟨x, e⟩ := Option.isSome_iff_exists.mp h
      rw [e]; rfl
    · rw [if_neg hs, if_neg hs]
  · rw [if_neg h, dlook_app, dlook_cons]
    by_cases hs : s' = s
    · subst hs
      have : dlook kvs (.str s') = none := by simpa using h
      rw [this, if_pos rfl]
      simp [AV.eq]
    · rw [if_neg hs]
      have hne : ¬ AV.eq (.str s) (.str s') = true := fun z => by
        have := eq_str_iff.mp z
        exact hs (by cases this; rfl)
      rw [if_neg hne]
      cases dlook kvs (.str s') <;> rfl
mutual
theorem eq_refl : ∀ (n : Nat) (x : AV), x.dl n = true → x.eq x = true
  | n, x, h => by
    cases x with
    | non => rfl
    | bl b => simp [AV.eq]
    | int i => simp [AV.eq]
    | str s => simp [AV.eq]
    | tup xs =>
      cases n with
      | zero => simp [AV.dl] at h
      | succ m => simp only [AV.eq]; exact eqL_refl m xs (by simpa [AV.dl] using h)
    | lst xs =>
      cases n with
      | zero => simp [AV.dl] at h
      | succ m => simp only [AV.eq]; exact eqL_refl m xs (by simpa [AV.dl] using h)
    | dct _ => cases n <;> simp [AV.dl] at h
    | ref _ => cases n <;> simp [AV.dl] at h
    | ro _ => cases n <;> simp [AV.dl] at h
theorem eqL_refl : ∀ (n : Nat) (xs : List AV), (∀ x ∈ xs, x.dl n = true) → AV.eqL xs xs = true
  | _, [], _ => rfl
  | n, x :: xs, h => by
    simp only [AV.eqL, Bool.and_eq_true]
    exact ⟨eq_refl n x (h x List.mem_cons_self), eqL_refl n xs fun y hy => h y (List.mem_cons_of_mem _ hy)⟩
end
theorem neV_refl {x : AV} {h : AH} (ht : thaw h x = x) (hd : x.dl DEPTH = true) : neV x x h = .ok (.bl false) h := by
  unfold neV
  rw [ht, if_pos (by unfold eqOk; rw [hd]; simp), eq_refl DEPTH x hd]
  rfl
theorem eqV_refl {x : AV} {h : AH} (ht : thaw h x = x) (hd : x.dl DEPTH = true) : eqV x x h = .ok (.bl true) h := by
  unfold eqV
  rw [ht, if_pos (by unfold eqOk; rw [hd]; simp), eq_refl DEPTH x hd]
/-- sorted(xs) where xs stands for ys, and < for lt -/
theorem sortA_enc {α : Type} {enc : α → AV} {le : α → α → Bool} {ys : List α} (hlt : ∀ a ∈ ys, ∀ b ∈ ys, leA (enc a) (enc b) = le a b) : sortA (ys.map enc) = (ys.mergeSort le).map enc := by
  exact (List.map_mergeSort (r := le) (s := leA) (f := enc) fun a ha b hb => (hlt a ha b hb).symm).symm
/-- a sorted list of the same items is the sorted list -/
theorem sort_uniq {α : Type} {le : α → α → Bool} (tr : ∀ a b c, le a b = true → le b c = true → le a c = true) (to : ∀ a b, (le a b || le b a) = true) (anti : ∀ a b, le a b = true → le b a = true → a = b) {xs ys : List α} (hp : xs.Perm ys) (hs : ys.Pairwise fun a b => le a b = true) : xs.mergeSort le = ys :=
  List.Perm.eq_of_pairwise (fun a b _ _ => anti a b) (List.pairwise_mergeSort tr to xs) hs ((List.mergeSort_perm xs le).trans hp)
theorem sort_perm {α : Type} {le : α → α → Bool} (tr : ∀ a b c, le a b = true → le b c = true → le a c = true) (to : ∀ a b, (le a b || le b a) = true) (anti : ∀ a b, le a b = true → le b a = true → a = b) {xs ys : List α} (hp : xs.Perm ys) : xs.mergeSort le = ys.mergeSort le :=
  sort_uniq tr to anti (hp.trans (List.mergeSort_perm ys le).symm) (List.pairwise_mergeSort tr to ys)
/-- all that stood is as it was -/
structure Old (n : Nat) (h h' : AH) : Prop where
  len : h.length ≤ h'.length
  oth : ∀ j, j < n → h'[j]? = h[j]?
theorem Old.refl {n : Nat} {h : AH} : Old n h h := ⟨Nat.le_refl _, fun _ _ => rfl⟩
theorem Old.trans {n : Nat} {h h1 h2 : AH} (a : Old n h h1) (b : Old n h1 h2) : Old n h h2 := ⟨Nat.le_trans a.len b.len, fun j hj => (b.oth j hj).trans (a.oth j hj)⟩
theorem Old.app {n : Nat} {h l : AH} (hn : n ≤ h.length) : Old n h (h ++ l) := ⟨by simp, fun j hj => by rw [List.getElem?_append_left (by omega)]⟩
theorem Old.set {n i : Nat} {h : AH} {o : AO} (hi : n ≤ i) : Old n h (h.set i o) := ⟨by simp, fun j hj => by rw [List.getElem?_set_ne (by omega)]⟩
theorem Old.keep {i : Nat} {h h' : AH} (a : Old h.length h h') : Keep i h h' := ⟨a.len, fun j hj _ => a.oth j hj⟩
theorem get_app {h l : AH} {i : Nat} {o : AO} (e : h[i]? = some o) : (h ++ l)[i]? = some o := by
  rw [List.getElem?_append_left (List.getElem?_eq_some_iff.mp e).1]; exact e
theorem get_set_self {h : AH} {i : Nat} {o o' : AO} (e : h[i]? = some o) : (h.set i o')[i]? = some o' := List.getElem?_set_self (List.getElem?_eq_some_iff.mp e).1
theorem get_set_ne {h : AH} {i j : Nat} {o : AO} (hn : i ≠ j) : (h.set i o)[j]? = h[j]? := List.getElem?_set_ne hn
theorem get_new {h : AH} {o : AO} : (h ++ [o])[h.length]? = some o := by simp
theorem hput_dc {h : AH} {i : Nat} {kvs : List (AV × AV)} (e : h[i]? = some (.dct kvs)) (k w : AV) (hk : flatK k = true) (hl : kvs.length < LIM) : hput1 i k w h = some (h.set i (.dct (dput kvs k w))) := by
  unfold hput1
  simp only [e, hk, hl, decide_true, Bool.and_self, if_true, hset]
theorem get_dc {h : AH} {i : Nat} {kvs : List (AV × AV)} (e : h[i]? = some (.dct kvs)) (k : AV) (hk : flatK k = true) : getV (.ref i) k h = optE (dlook kvs k) h := by
  show optE (getH (.ref i) k h) h = _
  have : getH (.ref i) k h = dlook kvs k := by
    unfold getH rl lv dv
    simp only [e, Option.bind_some, atK, keyOk, hk, if_true]
  rw [this]
theorem in_dc {h : AH} {i : Nat} {kvs : List (AV × AV)} (e : h[i]? = some (.dct kvs)) (k : AV) (hk : flatK k = true) : notInD k (.ref i) h = .ok (.bl (!(dlook kvs k).isSome)) h ∧ inD k (.ref i) h = .ok (.bl (dlook kvs k).isSome) h := by
  have : inV k (.ref i) h = some (dlook kvs k).isSome := by
    show inH k (.ref i) h = _
    unfold inH rl lv dv
    simp only [e, Option.bind_some, inDic, keyOk, hk, if_true]
  unfold notInD inD
  rw [this]
  exact ⟨rfl, rfl⟩
theorem happ_at {h : AH} {i : Nat} {xs : List AV} {v : AV} (e : h[i]? = some (.lst xs)) (hl : xs.length < LIM) : happV (.ref i) v h = .ok .non (h.set i (.lst (xs ++ [v]))) := by
  unfold happV
  simp only [e, hl, if_true, hset]
theorem isHL_at {h : AH} {i : Nat} {xs : List AV} (e : h[i]? = some (.lst xs)) : isHL h i = true := by
  unfold isHL
  rw [e]
end D
end

section
namespace D
open PySem (Str)

mutual
theorem eq_of : ∀ (n : Nat) (x y : AV), x.dl n = true → x.eq y = true → x.co y = true → x = y
  | n, x, y, hd, he, hc => by
    cases x with
    | non => cases y <;> simp_all [AV.eq, AV.co]
    | bl b => cases y <;> simp_all [AV.eq, AV.co]
    | int i => cases y <;> simp_all [AV.eq, AV.co]
    | str s => cases y <;> simp_all [AV.eq, AV.co]
    | tup xs =>
      cases n with
      | zero => simp [AV.dl] at hd
      | succ m =>
        cases y with
        | tup ys =>
          simp only [AV.eq] at he
          simp only [AV.co] at hc
          rw [eqL_of m xs ys (by simpa [AV.dl] using hd) he hc]
        | _ => simp [AV.eq] at he
    | lst xs =>
      cases n with
      | zero => simp [AV.dl] at hd
      | succ m =>
        cases y with
        | lst ys =>
          simp only [AV.eq] at he
          simp only [AV.co] at hc
          rw [eqL_of m xs ys (by simpa [AV.dl] using hd) he hc]
        | _ => simp [AV.eq] at he
    | dct _ => cases n <;> simp [AV.dl] at hd
    | ref _ => cases n <;> simp [AV.dl] at hd
    | ro _ => cases n <;> simp [AV.dl] at hd
theorem eqL_of : ∀ (n : Nat) (xs ys : List AV), (∀ x ∈ xs, x.dl n = true) → AV.eqL xs ys = true → AV.coL xs ys = true → xs = ys
  | _, [], [], _, _, _ => rfl
  | _, [], _ :: _, _, h, _ => by simp [AV.eqL] at h
  | _, _ :: _, [], _, h, _ => by simp [AV.eqL] at h
  | n, x :: xs, y :: ys, hd, he, hc => by
    simp only [AV.eqL, Bool.and_eq_true] at he
    simp only [AV.coL, Bool.and_eq_true] at hc
    rw [eq_of n x y (hd x List.mem_cons_self) he.1 hc.1, eqL_of n xs ys (fun z hz => hd z (List.mem_cons_of_mem _ hz)) he.2 hc.2]
end
mutual
theorem lt_irr : ∀ (n : Nat) (x : AV), x.dl n = true → x.lt x = false
  | n, x, hd => by
    cases x with
    | non => rfl
    | bl b => cases b <;> rfl
    | int i => simp [AV.lt]
    | str s => simp only [AV.lt]; exact decide_eq_false (List.lt_irrefl _)
    | tup xs =>
      cases n with
      | zero => simp [AV.dl] at hd
      | succ m => simp only [AV.lt]; exact ltL_irr m xs (by simpa [AV.dl] using hd)
    | lst xs =>
      cases n with
      | zero => simp [AV.dl] at hd
      | succ m => simp only [AV.lt]; exact ltL_irr m xs (by simpa [AV.dl] using hd)
    | dct _ => rfl
    | ref _ => rfl
    | ro _ => rfl
theorem ltL_irr : ∀ (n : Nat) (xs : List AV), (∀ x ∈ xs, x.dl n = true) → AV.ltL xs xs = false
  | _, [], _ => rfl
  | n, x :: xs, hd => by
    simp only [AV.ltL]
    rw [if_pos (eq_refl n x (hd x List.mem_cons_self))]
    exact ltL_irr n xs fun z hz => hd z (List.mem_cons_of_mem _ hz)
end
theorem eq_no {n : Nat} {x y : AV} (hd : x.dl n = true) (hl : x.lt y = true) (hc : x.co y = true) : x.eq y = false := by
  cases h : x.eq y with
  | false => rfl
  | true =>
    have := eq_of n x y hd h hc
    subst this
    rw [lt_irr n x hd] at hl
    cases hl
mutual
theorem lt_tr : ∀ (n : Nat) (x y z : AV), x.dl n = true → y.dl n = true → z.dl n = true → x.co y = true → y.co z = true → x.co z = true → x.lt y = true → y.lt z = true → x.lt z = true
  | n, x, y, z, h1, h2, h3, c1, c2, c3, l1, l2 => by
    cases x with
    | non => cases y <;> simp [AV.lt] at l1
    | bl a => cases y <;> cases z <;> simp_all [AV.lt, AV.co]
    | int i => cases y <;> cases z <;> simp_all [AV.lt, AV.co] <;> omega
    | str s =>
      cases y with
      | str s2 =>
        cases z with
        | str s3 =>
          simp only [AV.lt, decide_eq_true_eq] at l1 l2 ⊢
          exact List.lt_trans l1 l2
        | _ => simp [AV.lt] at l2
      | _ => simp [AV.lt] at l1
    | tup xs =>
      cases n with
      | zero => simp [AV.dl] at h1
      | succ m =>
        cases y with
        | tup ys =>
          cases z with
          | tup zs =>
            simp only [AV.lt] at l1 l2 ⊢
            simp only [AV.co] at c1 c2 c3
            exact ltL_tr m xs ys zs (by simpa [AV.dl] using h1) (by simpa [AV.dl] using h2) (by simpa [AV.dl] using h3) c1 c2 c3 l1 l2
          | _ => simp [AV.lt] at l2
        | _ => simp [AV.lt] at l1
    | lst xs =>
      cases n with
      | zero => simp [AV.dl] at h1
      | succ m =>
        cases y with
        | lst ys =>
          cases z with
          | lst zs =>
            simp only [AV.lt] at l1 l2 ⊢
            simp only [AV.co] at c1 c2 c3
            exact ltL_tr m xs ys zs (by simpa [AV.dl] using h1) (by simpa [AV.dl] using h2) (by simpa [AV.dl] using h3) c1 c2 c3 l1 l2
          | _ => simp [AV.lt] at l2
        | _ => simp [AV.lt] at l1
    | dct _ => cases n <;> simp [AV.dl] at h1
    | ref _ => cases n <;> simp [AV.dl] at h1
    | ro _ => cases n <;> simp [AV.dl] at h1
theorem ltL_tr : ∀ (n : Nat) (xs ys zs : List AV), (∀ x ∈ xs, x.dl n = true) → (∀ x ∈ ys, x.dl n = true) → (∀ x ∈ zs, x.dl n = true) → AV.coL xs ys = true → AV.coL ys zs = true → AV.coL xs zs = true → AV.ltL xs ys = true → AV.ltL ys zs = true → AV.ltL xs zs = true
  | _, [], [], _, _, _, _, _, _, _, l1, _ => by simp [AV.ltL] at l1
  | _, _ :: _, [], _, _, _, _, _, _, _, l1, _ => by simp [AV.ltL] at l1
  | _, [], _ :: _, [], _, _, _, _, _, _, _, l2 => by simp [AV.ltL] at l2
  | _, [], _ :: _, _ :: _, _, _, _, _, _, _, _, _ => by simp [AV.ltL]
  | _, _ :: _, _ :: _, [], _, _, _, _, _, _, _, l2 => by simp [AV.ltL] at l2
  | n, x :: xs, y :: ys, z :: zs, h1, h2, h3, c1, c2, c3, l1, l2 => by
    simp only [AV.coL, Bool.and_eq_true] at c1 c2 c3
    simp only [AV.ltL] at l1 l2 ⊢
    have hx := h1 x List.mem_cons_self
    have hy := h2 y List.mem_cons_self
    have hz := h3 z List.mem_cons_self
    by_cases e1 : x.eq y = true
    · have := eq_of n x y hx e1 c1.1
      subst this
      rw [if_pos e1] at l1
      by_cases e2 : x.eq z = true
      · rw [if_pos e2] at l2 ⊢
        exact ltL_tr n xs ys zs (fun w hw => h1 w (List.mem_cons_of_mem _ hw)) (fun w hw => h2 w (List.mem_cons_of_mem _ hw)) (fun w hw => h3 w (List.mem_cons_of_mem _ hw)) c1.2 c2.2 c3.2 l1 l2
      · rw [if_neg e2] at l2 ⊢
        exact l2
    · rw [if_neg e1] at l1
      by_cases e2 : y.eq z = true
      · have := eq_of n y z hy e2 c2.1
        subst this
        rw [if_neg e1]
        exact l1
      · rw [if_neg e2] at l2
        have l3 := lt_tr n x y z hx hy hz c1.1 c2.1 c3.1 l1 l2
        rw [eq_no hx l3 c3.1]
        simpa using l3
end
mutual
theorem lt_tot : ∀ (n : Nat) (x y : AV), x.dl n = true → y.dl n = true → x.co y = true → y.co x = true → x.lt y = false → y.lt x = false → x = y
  | n, x, y, h1, h2, c1, c2, l1, l2 => by
    cases x with
    | non => cases y <;> simp_all [AV.co]
    | bl a => cases y <;> simp_all [AV.lt, AV.co] <;> (rename_i b; cases a <;> cases b <;> simp_all)
    | int i => cases y <;> simp_all [AV.lt, AV.co] <;> omega
    | str s =>
      cases y with
      | str s2 =>
        simp only [AV.lt, decide_eq_false_iff_not] at l1 l2
        have e : s.cps.toList = s2.cps.toList := List.le_antisymm (by simpa [List.not_lt] using l2) (by simpa [List.not_lt] using l1)
        obtain ⟨a⟩ := s
        obtain ⟨b⟩ := s2
        simp only at e
        have : a = b := Array.toList_inj.mp e
        rw [this]
      | _ => simp [AV.co] at c1
    | tup xs =>
      cases n with
      | zero => simp [AV.dl] at h1
      | succ m =>
        cases y with
        | tup ys =>
          simp only [AV.lt] at l1 l2
          simp only [AV.co] at c1 c2
          rw [ltL_tot m xs ys (by simpa [AV.dl] using h1) (by simpa [AV.dl] using h2) c1 c2 l1 l2]
        | _ => simp [AV.co] at c1
    | lst xs =>
      cases n with
      | zero => simp [AV.dl] at h1
      | succ m =>
        cases y with
        | lst ys =>
          simp only [AV.lt] at l1 l2
          simp only [AV.co] at c1 c2
          rw [ltL_tot m xs ys (by simpa [AV.dl] using h1) (by simpa [AV.dl] using h2) c1 c2 l1 l2]
        | _ => simp [AV.co] at c1
    | dct _ => cases n <;> simp [AV.dl] at h1
    | ref _ => cases n <;> simp [AV.dl] at h1
    | ro _ => cases n <;> simp [AV.dl] at h1
theorem ltL_tot : ∀ (n : Nat) (xs ys : List AV), (∀ x ∈ xs, x.dl n = true) → (∀ x ∈ ys, x.dl n = true) → AV.coL xs ys = true → AV.coL ys xs = true → AV.ltL xs ys = false → AV.ltL ys xs = false → xs = ys
  | _, [], [], _, _, _, _, _, _ => rfl
  | _, [], _ :: _, _, _, _, _, l1, _ => by simp [AV.ltL] at l1
  | _, _ :: _, [], _, _, _, _, _, l2 => by simp [AV.ltL] at l2
  | n, x :: xs, y :: ys, h1, h2, c1, c2, l1, l2 => by
    simp only [AV.coL, Bool.and_eq_true] at c1 c2
    simp only [AV.ltL] at l1 l2
    have hx := h1 x List.mem_cons_self
    have hy := h2 y List.mem_cons_self
    by_cases e1 : x.eq y = true
    · have := eq_of n x y hx e1 c1.1
      subst this
      rw [if_pos e1] at l1 l2
      rw [ltL_tot n xs ys (fun w hw => h1 w (List.mem_cons_of_mem _ hw)) (fun w hw => h2 w (List.mem_cons_of_mem _ hw)) c1.2 c2.2 l1 l2]
    · rw [if_neg e1] at l1
      have e2 : ¬ y.eq x = true := fun z => e1 (by
        have := eq_of n y x hy z c2.1
        subst this
        exact z)
      rw [if_neg e2] at l2
      exact absurd (lt_tot n x y hx hy c1.1 c2.1 l1 l2) (fun z => by subst z; exact e1 (eq_refl n x hx))
end
/-- items that < tells apart -/
structure Srt (xs : List AV) : Prop where
  dl : ∀ x ∈ xs, x.dl DEPTH = true
  co : ∀ x ∈ xs, ∀ y ∈ xs, x.co y = true
theorem Srt.perm {xs ys : List AV} (h : Srt xs) (p : xs.Perm ys) : Srt ys := ⟨fun x hx => h.dl x (p.mem_iff.mpr hx), fun x hx y hy => h.co x (p.mem_iff.mpr hx) y (p.mem_iff.mpr hy)⟩
theorem Srt.ok {xs : List AV} (h : Srt xs) (ht : (xs.all isTup1 || xs.all notTup) = true) : sortOk xs = true := by
  unfold sortOk
  rw [ht, Bool.and_true, Bool.and_eq_true]
  exact ⟨List.all_eq_true.mpr fun x hx => List.all_eq_true.mpr fun y hy => h.co x hx y hy, List.all_eq_true.mpr h.dl⟩
theorem leA_tr {xs : List AV} (h : Srt xs) {a b c : AV} (ha : a ∈ xs) (hb : b ∈ xs) (hc : c ∈ xs) (l1 : leA a b = true) (l2 : leA b c = true) : leA a c = true := by
  unfold leA at l1 l2 ⊢
  simp only [Bool.not_eq_true'] at l1 l2 ⊢
  cases e : c.lt a with
  | false => rfl
  | true =>
    cases e1 : a.lt b with
    | false =>
      have := lt_tot DEPTH a b (h.dl a ha) (h.dl b hb) (h.co a ha b hb) (h.co b hb a ha) e1 l1
      subst this
      rw [e] at l2
      cases l2
    | true =>
      have := lt_tr DEPTH c a b (h.dl c hc) (h.dl a ha) (h.dl b hb) (h.co c hc a ha) (h.co a ha b hb) (h.co c hc b hb) e e1
      rw [this] at l2
      cases l2
theorem leA_to {xs : List AV} (h : Srt xs) {a b : AV} (ha : a ∈ xs) (hb : b ∈ xs) : (leA a b || leA b a) = true := by
  unfold leA
  cases e : b.lt a with
  | false => rfl
  | true =>
    cases e1 : a.lt b with
    | false => rfl
    | true =>
      have := lt_tr DEPTH a b a (h.dl a ha) (h.dl b hb) (h.dl a ha) (h.co a ha b hb) (h.co b hb a ha) (h.co a ha a ha) e1 e
      rw [lt_irr DEPTH a (h.dl a ha)] at this
      cases this
theorem leA_anti {xs : List AV} (h : Srt xs) {a b : AV} (ha : a ∈ xs) (hb : b ∈ xs) (l1 : leA a b = true) (l2 : leA b a = true) : a = b := by
  unfold leA at l1 l2
  simp only [Bool.not_eq_true'] at l1 l2
  exact lt_tot DEPTH a b (h.dl a ha) (h.dl b hb) (h.co a ha b hb) (h.co b hb a ha) l2 l1
theorem sortA_perm (xs : List AV) : (sortA xs).Perm xs := List.mergeSort_perm xs leA
theorem sortA_pw {xs : List AV} (h : Srt xs) : (sortA xs).Pairwise fun a b => leA a b = true := by
  have e : sortA xs = (xs.attach.mergeSort fun a b => leA a.1 b.1).map (·.1) := by
    rw [List.map_mergeSort (s := leA) (f := Subtype.val) fun a _ b _ => rfl]
    unfold sortA
    rw [List.attach_map_subtype_val]
  rw [e]
  refine List.pairwise_map.mpr ?_
  exact List.pairwise_mergeSort (le := fun (a b : {x // x ∈ xs}) => leA a.1 b.1) (fun a b c l1 l2 => leA_tr (a := a.1) (b := b.1) (c := c.1) h a.2 b.2 c.2 l1 l2) (fun a b => leA_to (a := a.1) (b := b.1) h a.2 b.2) xs.attach
theorem sortA_uniq {xs ys : List AV} (h : Srt xs) (hp : xs.Perm ys) (hs : ys.Pairwise fun a b => leA a b = true) : sortA xs = ys :=
  List.Perm.eq_of_pairwise (fun a b ha hb => leA_anti h ((sortA_perm xs).mem_iff.mp ha) (hp.mem_iff.mpr hb)) (sortA_pw h) hs ((sortA_perm xs).trans hp)
theorem sortA_same {xs ys : List AV} (h : Srt xs) (hp : xs.Perm ys) : sortA xs = sortA ys := sortA_uniq h (hp.trans (sortA_perm ys).symm) (sortA_pw (h.perm hp))
end D
end

section
namespace K72
open PySem D

def m__law_dice : SV :=
  (seqS (ifS (chainD ltV ltV (bin subV (cD (.int 0)) (cD (.int 10))) (varD 0) (cD (.int 10))) (retS (heapL (lstD [(callD absF [(varD 0)]), (cD (.int 0)), (cD (.int 2))]))) nxS)
  (retS (heapL (lstD [(varD 0), (bin addV (cD (.int 1)) (bin modV (callD intF [(varD 0)]) (cD (.int 1009)))), (callD intF [(bin geV (varD 0) (bin powV (cD (.int 10)) (cD (.int 18))))])]))))
def f__law_dice : FV := body 1 m__law_dice

def m__law_rounds : SV :=
  (seqS (setS 2 (sliceD (varD 0) none (some (varD 1))))
  (seqS (ifS (bin eqV (varD 2) (lstD [])) (setS 2 (lstD [(cD (.int 0))])) nxS)
  (retS (compD [3] (nameT 3) (itD (varD 2)) (cD (.bl true)) (callD f__law_dice [(varD 3)])))))
def f__law_rounds : FV := body 4 m__law_rounds

def m__law_roll : SV :=
  (seqS (ifS (orD (bin eqV (bin getV (varD 0) (cD (.int 2))) (cD (.int 2))) (andD (bin eqV (bin getV (varD 0) (cD (.int 2))) (cD (.int 1))) (bin gtV (bin getV (varD 0) (cD (.int 0))) (cD (.int 0))))) (seqS (setS 2 (bin modV (callD intF [(bin getV (varD 0) (cD (.int 0)))]) (varD 1)))
  (seqS (hputS (varD 0) (cD (.int 0)) (bin fdivV (bin getV (varD 0) (cD (.int 0))) (varD 1)))
  (retS (varD 2)))) nxS)
  (seqS (hputS (varD 0) (cD (.int 2)) (cD (.int 0)))
  (seqS (hputS (varD 0) (cD (.int 0)) (bin modV (callD intF [(bin addV (bin addV (bin mulV (bin getV (varD 0) (cD (.int 0))) (cD (.int 48271))) (bin mulV (bin getV (varD 0) (cD (.int 1))) (cD (.int 69621)))) (cD (.int 11)))]) (cD (.int 2147483647))))
  (seqS (hputS (varD 0) (cD (.int 1)) (bin addV (bin getV (varD 0) (cD (.int 1))) (cD (.int 1))))
  (retS (bin modV (callD intF [(bin addV (bin fdivV (bin getV (varD 0) (cD (.int 0))) (cD (.int 7))) (bin getV (varD 0) (cD (.int 0))))]) (varD 1)))))))
def f__law_roll : FV := body 3 m__law_roll

def m_lately : SV :=
  (seqS (parS [2, 3] [(heapL (cD (.dct []))), (heapL (lstD []))])
  (seqS (forS (tupT [(nameT 4), (nameT 5)]) (itD (varD 0)) (ifS (orD (bin notInD (varD 5) (varD 2)) (bin geV (bin subV (varD 4) (bin getV (bin getV (varD 2) (varD 5)) (cD (.int 1)))) (varD 1))) (seqS (hputS (varD 2) (varD 5) (heapL (lstD [(callD lenF [(varD 3)]), (varD 4)])))
  (exprS (happD (varD 3) (heapL (lstD [(varD 4), (varD 5), (cD (.int 1))]))))) (seqS (hputS (bin getV (varD 2) (varD 5)) (cD (.int 1)) (varD 4))
  (hputAugS iaddV (bin getV (varD 3) (bin getV (bin getV (varD 2) (varD 5)) (cD (.int 0)))) (cD (.int 2)) (cD (.int 1))))))
  (retS (callD tupleF [(compD [6] (nameT 6) (itH (varD 3)) (cD (.bl true)) (callD tupleF [(varD 6)]))]))))
def f_lately : FV := body 7 m_lately

def m_in_turn : SV :=
  (seqS (parS [1, 2] [(heapL (lstD [])), (heapL (bin lmulV (lstD [(cD (.int 0))]) (callD lenF [(varD 0)])))])
  (whileS 1099511627776 (cD (.bl true)) (seqS (setS 3 (cD .non))
  (seqS (forS (tupT [(nameT 4), (nameT 5)]) (enumD (varD 0)) (ifS (andD (bin ltV (bin getV (varD 2) (varD 4)) (callD lenF [(varD 5)])) (orD (un isNoneV (varD 3)) (bin ltV (bin getV (bin getV (varD 5) (bin getV (varD 2) (varD 4))) (cD (.int 0))) (bin getV (bin getV (bin getV (varD 0) (varD 3)) (bin getV (varD 2) (varD 3))) (cD (.int 0)))))) (setS 3 (varD 4)) nxS))
  (seqS (ifS (un isNoneV (varD 3)) (retS (callD tupleF [(varD 1)])) nxS)
  (seqS (exprS (happD (varD 1) (bin getV (bin getV (varD 0) (varD 3)) (bin getV (varD 2) (varD 3)))))
  (hputAugS iaddV (varD 2) (varD 3) (cD (.int 1)))))))))
def f_in_turn : FV := body 6 m_in_turn

def m_law : SV :=
  (seqS (forS (nameT 1) (itD (callD f__law_rounds [(varD 0), (cD (.int 5))])) (seqS (parS [8, 9, 10] [(lstD []), (cD (.int 0)), (bin addV (cD (.int 1)) (callD f__law_roll [(varD 1), (cD (.int 5))]))])
  (seqS (forS (nameT 2) (rangeD range1F [(callD f__law_roll [(varD 1), (cD (.int 11))])]) (seqS (setS 9 (bin addV (varD 9) (callD f__law_roll [(varD 1), (cD (.int 4))])))
  (appendS 8 (tupD [(varD 9), (bin getV (cD (.str ("abc" : Str))) (callD f__law_roll [(varD 1), (cD (.int 3))]))]))))
  (seqS (setS 3 (callD f_lately [(varD 8), (varD 10)]))
  (seqS (ifS (bin neV (callD sumF [(compD [15, 5, 16] (tupT [(nameT 15), (nameT 5), (nameT 16)]) (itD (varD 3)) (cD (.bl true)) (varD 16))]) (callD lenF [(varD 8)])) (retS (cD (.bl false))) nxS)
  (seqS (setS 4 (lstD []))
  (seqS (forS (nameT 5) (itD (cD (.str ("abc" : Str)))) (seqS (parS [11, 12] [(compD [15, 13] (tupT [(nameT 15), (nameT 13)]) (itD (varD 8)) (bin eqV (varD 13) (varD 5)) (varD 15)), (heapL (lstD []))])
  (seqS (forS (nameT 2) (rangeD range1F [(callD lenF [(varD 11)])]) (seqS (ifS (orD (bin eqV (varD 2) (cD (.int 0))) (bin geV (bin subV (bin getV (varD 11) (varD 2)) (bin getV (varD 11) (bin subV (varD 2) (cD (.int 1))))) (varD 10))) (exprS (happD (varD 12) (heapL (lstD [(bin getV (varD 11) (varD 2)), (varD 5), (cD (.int 0))])))) nxS)
  (hputS (bin getV (varD 12) (un negV (cD (.int 1)))) (cD (.int 2)) (bin addV (bin getV (bin getV (varD 12) (un negV (cD (.int 1)))) (cD (.int 2))) (cD (.int 1))))))
  (setS 4 (bin addV (varD 4) (compD [13] (nameT 13) (itH (varD 12)) (cD (.bl true)) (callD tupleF [(varD 13)])))))))
  (seqS (ifS (orD (bin neV (callD sortedF [(varD 3)]) (callD sortedF [(varD 4)])) (bin neV (compD [2] (nameT 2) (rangeD range2F [(cD (.int 1)), (callD lenF [(varD 3)])]) (bin ltV (bin getV (bin getV (varD 3) (varD 2)) (cD (.int 0))) (bin getV (bin getV (varD 3) (bin subV (varD 2) (cD (.int 1)))) (cD (.int 0)))) (varD 2)) (lstD []))) (retS (cD (.bl false))) nxS)
  (seqS (setS 6 (lstD []))
  (seqS (forS (nameT 2) (rangeD range1F [(callD f__law_roll [(varD 1), (cD (.int 4))])]) (seqS (setS 11 (callD sortedF [(compD [14] (nameT 14) (rangeD range1F [(callD f__law_roll [(varD 1), (cD (.int 5))])]) (cD (.bl true)) (callD f__law_roll [(varD 1), (cD (.int 5))]))]))
  (appendS 6 (compD [14] (nameT 14) (rangeD range1F [(callD lenF [(varD 11)])]) (cD (.bl true)) (tupD [(bin getV (varD 11) (varD 14)), (bin addV (callD strF [(varD 2)]) (callD strF [(varD 14)]))])))))
  (seqS (setS 7 (lstD []))
  (seqS (forS (nameT 2) (rangeD range1F [(callD lenF [(varD 6)])]) (setS 7 (bin addV (varD 7) (compD [14] (nameT 14) (rangeD range1F [(callD lenF [(bin getV (varD 6) (varD 2))])]) (cD (.bl true)) (tupD [(bin getV (bin getV (bin getV (varD 6) (varD 2)) (varD 14)) (cD (.int 0))), (varD 2), (varD 14)])))))
  (ifS (bin neV (callD listF [(callD f_in_turn [(varD 6)])]) (compD [15, 2, 14] (tupT [(nameT 15), (nameT 2), (nameT 14)]) (itD (callD sortedF [(varD 7)])) (cD (.bl true)) (bin getV (bin getV (varD 6) (varD 2)) (varD 14)))) (retS (cD (.bl false))) nxS)))))))))))))
  (retS (cD (.bl true))))
def f_law : FV := body 17 m_law

end K72
end

section
namespace K72
open PySem L2 D PyProof.Rows

def top (i : Nat) : Stmt := PySem.Challenge.pw_patchyard_k72_events_put_together.main.body.getD i (.Pass ⟨0, 0, 0, 0⟩)
abbrev s__law_dice : Stmt := top 4
abbrev N__law_dice : List Str := ["cell"]
abbrev s__law_rounds : Stmt := top 6
abbrev N__law_rounds : List Str := ["script", "most", "cells", "cell"]
abbrev s__law_roll : Stmt := top 5
abbrev N__law_roll : List Str := ["dice", "many", "found"]
abbrev s_lately : Stmt := top 1
abbrev N_lately : List Str := ["row", "wide", "last", "found", "time", "name", "one"]
abbrev s_in_turn : Stmt := top 2
abbrev N_in_turn : List Str := ["rows", "found", "places", "best", "k", "row"]
abbrev s_law : Stmt := top 7
abbrev N_law : List Str := ["script", "dice", "k", "told", "groups", "name", "rows", "marked", "row", "time", "wide", "times", "here", "one", "j", "when", "many"]
structure G (mg : Str → Option Value) : Prop where
  abs : mg "abs" = none
  enumerate : mg "enumerate" = none
  int : mg "int" = none
  len : mg "len" = none
  list : mg "list" = none
  range : mg "range" = none
  sorted : mg "sorted" = none
  str : mg "str" = none
  sum : mg "sum" = none
  tuple : mg "tuple" = none
theorem sc__law_dice : FnScope N__law_dice ["cell"] (defScope s__law_dice) := ⟨rfl, rfl, rfl, by decide +kernel, rfl, by decide +kernel, by decide +kernel⟩
theorem sc__law_rounds : FnScope N__law_rounds ["script", "most"] (defScope s__law_rounds) := ⟨rfl, rfl, rfl, by decide +kernel, rfl, by decide +kernel, by decide +kernel⟩
theorem sc__law_roll : FnScope N__law_roll ["dice", "many"] (defScope s__law_roll) := ⟨rfl, rfl, rfl, by decide +kernel, rfl, by decide +kernel, by decide +kernel⟩
theorem sc_lately : FnScope N_lately ["row", "wide"] (defScope s_lately) := ⟨rfl, rfl, rfl, by decide +kernel, rfl, by decide +kernel, by decide +kernel⟩
theorem sc_in_turn : FnScope N_in_turn ["rows"] (defScope s_in_turn) := ⟨rfl, rfl, rfl, by decide +kernel, rfl, by decide +kernel, by decide +kernel⟩
theorem sc_law : FnScope N_law ["script"] (defScope s_law) := ⟨rfl, rfl, rfl, by decide +kernel, rfl, by decide +kernel, by decide +kernel⟩
section
variable {Pm : Pm} {P : Program} {w : World} {mg : Str → Option Value} {base : Heap}
set_option maxHeartbeats 0 in
theorem d__law_dice {f : Addr} (T : G mg)  (cdv : Value) (A : Around) (outer : List Env) (s : Shared) (H : Hp) (E : XK) (hr : Room 0 (A.deeper (envOfC "_law_dice" (defScope s__law_dice) s.heap.objs.size f cdv))) :
    DSs Pm (cxOf (L2.CX P w) P w Pm.K mg base N__law_dice "_law_dice" (defScope s__law_dice) f cdv A outer s H E) false (fun c d _ H => E c d H) [] [] [] [] (defBody s__law_dice) m__law_dice :=
  (dss_cons (ds_if (dt_chain op_lt2 op_lt2 v_lt v_lt (DE.b (de_op op_sub v_sub (DE.b de_int) (DE.b de_int))) (db_var 0) (DE.b de_int)) (dss_one (ds_ret (de_heap (df_lst (da_cons (de_callB call_abs v_abs (by rfl) T.abs bt_abs (dab_cons (db_var 0) dab_nil)) (da_cons de_int (da_cons de_int da_nil))))))) dss_nil)
    (dss_one (ds_ret (de_heap (df_lst (da_cons (de_var 0) (da_cons (de_op op_add4 v_add (DE.b de_int) (DE.b (de_op op_modN v_mod (DE.b (de_callTy call_int1 v_int (by rfl) T.int bt_int (dab_cons (db_var 0) dab_nil))) (DE.b de_int)))) (da_cons (de_callTy call_int1 v_int (by rfl) T.int bt_int (dab_cons (DE.b (de_cmp op_ge (v_cmpI (p := fun i j => decide (j ≤ i))) (db_var 0) (DE.b (de_op op_pow v_pow (DE.b de_int) (DE.b de_int))) (by rfl))) dab_nil)) da_nil))))))))
theorem ok__law_dice {f : Addr} {fd : FuncData} (F : Fun Pm.K "_law_dice" "_law_dice" s__law_dice f fd) (T : G mg)  : FnOk P w Pm.K mg base (L2.CX P w) 1 f fd ["cell"] (spD Pm false 1 f__law_dice) :=
  fn_ok F sc__law_dice fun cdv A outer s H E hr => d__law_dice T  cdv A outer s H E hr
set_option maxHeartbeats 0 in
theorem d__law_rounds {f : Addr} (T : G mg) (F__law_dice : FnD Pm P w mg base false 1 "_law_dice" ["cell"] f__law_dice) (cdv : Value) (A : Around) (outer : List Env) (s : Shared) (H : Hp) (E : XK) (hr : Room 1 (A.deeper (envOfC "_law_rounds" (defScope s__law_rounds) s.heap.objs.size f cdv))) :
    DSs Pm (cxOf (L2.CX P w) P w Pm.K mg base N__law_rounds "_law_rounds" (defScope s__law_rounds) f cdv A outer s H E) false (fun c d _ H => E c d H) [] [] [] [] (defBody s__law_rounds) m__law_rounds :=
  (dss_cons (s_set 2 sc__law_rounds.nd (de_slice rfl (db_var 0) do_none (do_some (db_var 1))))
    (dss_cons (ds_if (dt_cmp (op_eq2 (room64 hr)) v_eq (db_var 2) (DE.b (de_lst da_nil)) (by rfl)) (dss_one (s_set 2 sc__law_rounds.nd (de_lst (da_cons de_int da_nil)))) dss_nil)
    (dss_one (ds_ret (DF.de (df_comp (own := [("cell", 3)]) rfl sc__law_rounds.nd (di_sqC rfl (db_var 2)) (blkOk_by (own := [("cell", 3)]) (N := N__law_rounds) (sc := defScope s__law_rounds) (by decide +kernel)) (fun _ _ _ _ _ => (dg_name 3 sc__law_rounds.nd)) (fun _ _ _ _ _ => dts_nil) (fun _ _ _ _ _ => (de_call F__law_dice rfl (hr.mono (by decide)) takes0 (by rfl) (da_cons (de_var 3) da_nil)))))))))
theorem ok__law_rounds {f : Addr} {fd : FuncData} (F : Fun Pm.K "_law_rounds" "_law_rounds" s__law_rounds f fd) (T : G mg) (F__law_dice : FnD Pm P w mg base false 1 "_law_dice" ["cell"] f__law_dice) : FnOk P w Pm.K mg base (L2.CX P w) 2 f fd ["script", "most"] (spD Pm false 2 f__law_rounds) :=
  fn_ok F sc__law_rounds fun cdv A outer s H E hr => d__law_rounds T F__law_dice cdv A outer s H E hr
set_option maxHeartbeats 0 in
theorem d__law_roll {f : Addr} (T : G mg)  (cdv : Value) (A : Around) (outer : List Env) (s : Shared) (H : Hp) (E : XK) (hr : Room 0 (A.deeper (envOfC "_law_roll" (defScope s__law_roll) s.heap.objs.size f cdv))) :
    DSs Pm (cxOf (L2.CX P w) P w Pm.K mg base N__law_roll "_law_roll" (defScope s__law_roll) f cdv A outer s H E) false (fun c d _ H => E c d H) [] [] [] [] (defBody s__law_roll) m__law_roll :=
  (dss_cons (ds_if (DW.dt (dw_or (dt_cmp (op_eq2 (room64 hr)) v_eq (DE.b (de_get rfl (room1 hr) (db_var 0) (DE.b de_int))) (DE.b de_int) (by rfl)) (dw_or1 (DW.dt (dw_and (dt_cmp (op_eq2 (room64 hr)) v_eq (DE.b (de_get rfl (room1 hr) (db_var 0) (DE.b de_int))) (DE.b de_int) (by rfl)) (dw_and1 (dt_cmp op_gt (v_cmpI (p := fun i j => decide (j < i))) (DE.b (de_get rfl (room1 hr) (db_var 0) (DE.b de_int))) (DE.b de_int) (by rfl)))))))) (dss_cons (s_set 2 sc__law_roll.nd (de_op op_modN v_mod (DE.b (de_callTy call_int1 v_int (by rfl) T.int bt_int (dab_cons (DE.b (de_get rfl (room1 hr) (db_var 0) (DE.b de_int))) dab_nil))) (db_var 1)))
    (dss_cons (ds_hput (room1 hr) (de_op op_fdivN v_fdiv (DE.b (de_get rfl (room1 hr) (db_var 0) (DE.b de_int))) (db_var 1)) (de_var 0) (DE.b de_int))
    (dss_one (ds_ret (de_var 2))))) dss_nil)
    (dss_cons (ds_hput (room1 hr) de_int (de_var 0) (DE.b de_int))
    (dss_cons (ds_hput (room1 hr) (de_op op_modN v_mod (DE.b (de_callTy call_int1 v_int (by rfl) T.int bt_int (dab_cons (DE.b (de_op op_add4 v_add (DE.b (de_op op_add4 v_add (DE.b (de_op op_mul2 v_mul (DE.b (de_get rfl (room1 hr) (db_var 0) (DE.b de_int))) (DE.b de_int))) (DE.b (de_op op_mul2 v_mul (DE.b (de_get rfl (room1 hr) (db_var 0) (DE.b de_int))) (DE.b de_int))))) (DE.b de_int))) dab_nil))) (DE.b de_int)) (de_var 0) (DE.b de_int))
    (dss_cons (ds_hput (room1 hr) (de_op op_add4 v_add (DE.b (de_get rfl (room1 hr) (db_var 0) (DE.b de_int))) (DE.b de_int)) (de_var 0) (DE.b de_int))
    (dss_one (ds_ret (de_op op_modN v_mod (DE.b (de_callTy call_int1 v_int (by rfl) T.int bt_int (dab_cons (DE.b (de_op op_add4 v_add (DE.b (de_op op_fdivN v_fdiv (DE.b (de_get rfl (room1 hr) (db_var 0) (DE.b de_int))) (DE.b de_int))) (DE.b (de_get rfl (room1 hr) (db_var 0) (DE.b de_int))))) dab_nil))) (db_var 1))))))))
theorem ok__law_roll {f : Addr} {fd : FuncData} (F : Fun Pm.K "_law_roll" "_law_roll" s__law_roll f fd) (T : G mg)  : FnOk P w Pm.K mg base (L2.CX P w) 1 f fd ["dice", "many"] (spD Pm false 2 f__law_roll) :=
  fn_ok F sc__law_roll fun cdv A outer s H E hr => d__law_roll T  cdv A outer s H E hr
set_option maxHeartbeats 0 in
theorem d_lately {f : Addr} (T : G mg)  (cdv : Value) (A : Around) (outer : List Env) (s : Shared) (H : Hp) (E : XK) (hr : Room 0 (A.deeper (envOfC "lately" (defScope s_lately) s.heap.objs.size f cdv))) :
    DSs Pm (cxOf (L2.CX P w) P w Pm.K mg base N_lately "lately" (defScope s_lately) f cdv A outer s H E) false (fun c d _ H => E c d H) [] [] [] [] (defBody s_lately) m_lately :=
  (dss_cons (s_par2 2 3 sc_lately.nd (dm_val (de_heap df_dct) (dm_val (de_heap (df_lst da_nil)) dm_nil)))
    (dss_cons (s_for (vs := [4, 5]) (passes_of rfl) (di_sq rfl (de_var 0)) (dg_tup rfl rfl (dgs_cons (dg_name 4 sc_lately.nd) (dgs_cons (dg_name 5 sc_lately.nd) dgs_nil))) (dss_one (ds_if (DW.dt (dw_or (dt_cmp (op_notIn5 (room65 hr)) v_notIn (db_var 5) (db_var 2) (by rfl)) (dw_or1 (dt_cmp op_ge (v_cmpI (p := fun i j => decide (j ≤ i))) (DE.b (de_op op_sub v_sub (db_var 4) (DE.b (de_get rfl (room1 hr) (DE.b (de_get rfl (room1 hr) (db_var 2) (db_var 5))) (DE.b de_int))))) (db_var 1) (by rfl))))) (dss_cons (ds_hput (room1 hr) (de_heap (df_lst (da_cons (de_callB call_len2 v_len (by rfl) T.len bt_len (dab_cons (db_var 3) dab_nil)) (da_cons (de_var 4) da_nil)))) (de_var 2) (db_var 5))
    (dss_one (ds_expr (DE.b (de_happ (de_var 3) (de_heap (df_lst (da_cons (de_var 4) (da_cons (de_var 5) (da_cons de_int da_nil)))))))))) (dss_cons (ds_hput (room1 hr) (de_var 4) (de_get rfl (room1 hr) (db_var 2) (db_var 5)) (DE.b de_int))
    (dss_one (ds_haug (room1 hr) rfl ip_add vip_add (de_get rfl (room1 hr) (db_var 3) (DE.b (de_get rfl (room1 hr) (DE.b (de_get rfl (room1 hr) (db_var 2) (db_var 5))) (DE.b de_int)))) de_int (DE.b de_int)))))))
    (dss_one (ds_ret (de_callTy call_tuple_of v_tuple (by rfl) T.tuple bt_tuple (dab_cons (DE.b (DF.de (DF.up (df_comp (own := [("one", 6)]) rfl sc_lately.nd (di_sqHC rfl (db_var 3)) (blkOk_by (own := [("one", 6)]) (N := N_lately) (sc := defScope s_lately) (by decide +kernel)) (fun _ _ _ _ _ => (dg_name 6 sc_lately.nd)) (fun _ _ _ _ _ => dts_nil) (fun _ _ _ _ _ => (de_callTy call_tuple_of v_tuple (by rfl) T.tuple bt_tuple (dab_cons (db_var 6) dab_nil))))))) dab_nil))))))
theorem ok_lately {f : Addr} {fd : FuncData} (F : Fun Pm.K "lately" "lately" s_lately f fd) (T : G mg)  : FnOk P w Pm.K mg base (L2.CX P w) 1 f fd ["row", "wide"] (spD Pm false 2 f_lately) :=
  fn_ok F sc_lately fun cdv A outer s H E hr => d_lately T  cdv A outer s H E hr
set_option maxHeartbeats 0 in
theorem d_in_turn {f : Addr} (T : G mg)  (cdv : Value) (A : Around) (outer : List Env) (s : Shared) (H : Hp) (E : XK) (hr : Room 0 (A.deeper (envOfC "in_turn" (defScope s_in_turn) s.heap.objs.size f cdv))) :
    DSs Pm (cxOf (L2.CX P w) P w Pm.K mg base N_in_turn "in_turn" (defScope s_in_turn) f cdv A outer s H E) false (fun c d _ H => E c d H) [] [] [] [] (defBody s_in_turn) m_in_turn :=
  (dss_cons (s_par2 1 2 sc_in_turn.nd (dm_val (de_heap (df_lst da_nil)) (dm_val (de_heap (df_op op_rep vf_mul (DE.b (de_lst (da_cons de_int da_nil))) (DE.b (de_callB call_len2 v_len (by rfl) T.len bt_len (dab_cons (db_var 0) dab_nil))))) dm_nil)))
    (dss_one (ds_while 1099511627776 (passes_of rfl) (dt_val de_bl) (dss_cons (s_set 3 sc_in_turn.nd de_non)
    (dss_cons (s_for (vs := [4, 5]) (passes_of rfl) (di_enum rfl (by rfl) T.enumerate (de_var 0)) (dg_tup rfl rfl (dgs_cons (dg_name 4 sc_in_turn.nd) (dgs_cons (dg_name 5 sc_in_turn.nd) dgs_nil))) (dss_one (ds_if (DW.dt (dw_and (dt_cmp op_lt2 v_lt (DE.b (de_get rfl (room1 hr) (db_var 2) (db_var 4))) (DE.b (de_callB call_len2 v_len (by rfl) T.len bt_len (dab_cons (db_var 5) dab_nil))) (by rfl)) (dw_and1 (DW.dt (dw_or (dt_isN (db_var 3)) (dw_or1 (dt_cmp op_lt2 v_lt (DE.b (de_get rfl (room1 hr) (DE.b (de_get rfl (room1 hr) (db_var 5) (DE.b (de_get rfl (room1 hr) (db_var 2) (db_var 4))))) (DE.b de_int))) (DE.b (de_get rfl (room1 hr) (DE.b (de_get rfl (room1 hr) (DE.b (de_get rfl (room1 hr) (db_var 0) (db_var 3))) (DE.b (de_get rfl (room1 hr) (db_var 2) (db_var 3))))) (DE.b de_int))) (by rfl)))))))) (dss_one (s_set 3 sc_in_turn.nd (de_var 4))) dss_nil)))
    (dss_cons (ds_if (dt_isN (db_var 3)) (dss_one (ds_ret (de_callTy call_tuple_of v_tuple (by rfl) T.tuple bt_tuple (dab_cons (db_var 1) dab_nil)))) dss_nil)
    (dss_cons (ds_expr (DE.b (de_happ (de_var 1) (de_get rfl (room1 hr) (DE.b (de_get rfl (room1 hr) (db_var 0) (db_var 3))) (DE.b (de_get rfl (room1 hr) (db_var 2) (db_var 3)))))))
    (dss_one (ds_haug (room1 hr) rfl ip_add vip_add (de_var 2) (de_var 3) (DE.b de_int))))))))))
theorem ok_in_turn {f : Addr} {fd : FuncData} (F : Fun Pm.K "in_turn" "in_turn" s_in_turn f fd) (T : G mg)  : FnOk P w Pm.K mg base (L2.CX P w) 1 f fd ["rows"] (spD Pm false 1 f_in_turn) :=
  fn_ok F sc_in_turn fun cdv A outer s H E hr => d_in_turn T  cdv A outer s H E hr
set_option maxHeartbeats 0 in
theorem d_law {f : Addr} (T : G mg) (F__law_rounds : FnD Pm P w mg base false 2 "_law_rounds" ["script", "most"] f__law_rounds) (F__law_roll : FnD Pm P w mg base false 1 "_law_roll" ["dice", "many"] f__law_roll) (F_lately : FnD Pm P w mg base false 1 "lately" ["row", "wide"] f_lately) (F_in_turn : FnD Pm P w mg base false 1 "in_turn" ["rows"] f_in_turn) (cdv : Value) (A : Around) (outer : List Env) (s : Shared) (H : Hp) (E : XK) (hr : Room 2 (A.deeper (envOfC "law" (defScope s_law) s.heap.objs.size f cdv))) :
    DSs Pm (cxOf (L2.CX P w) P w Pm.K mg base N_law "law" (defScope s_law) f cdv A outer s H E) false (fun c d _ H => E c d H) [] [] [] [] (defBody s_law) m_law :=
  (dss_cons (s_for (vs := [1]) (passes_of rfl) (di_sq rfl (de_call F__law_rounds rfl (hr.mono (by decide)) (takes_of rfl rfl rfl rfl) (by rfl) (da_cons (de_var 0) (da_cons de_int da_nil)))) (dg_name 1 sc_law.nd) (dss_cons (s_par3 8 9 10 sc_law.nd (dm_new (df_lst da_nil) (dm_val de_int (dm_val (de_op op_add4 v_add (DE.b de_int) (DE.b (de_call F__law_roll rfl (hr.mono (by decide)) (takes_of rfl rfl rfl rfl) (by rfl) (da_cons (de_var 1) (da_cons de_int da_nil))))) dm_nil))))
    (dss_cons (s_for (vs := [2]) (passes_of rfl) (di_range1 (by rfl) T.range (dab_cons (DE.b (de_call F__law_roll rfl (hr.mono (by decide)) (takes_of rfl rfl rfl rfl) (by rfl) (da_cons (de_var 1) (da_cons de_int da_nil)))) dab_nil)) (dg_name 2 sc_law.nd) (dss_cons (s_set 9 sc_law.nd (de_op op_add4 v_add (db_var 9) (DE.b (de_call F__law_roll rfl (hr.mono (by decide)) (takes_of rfl rfl rfl rfl) (by rfl) (da_cons (de_var 1) (da_cons de_int da_nil))))))
    (dss_one (s_append 8 (de_tup (da_cons (de_var 9) (da_cons (de_get rfl (room1 hr) (DE.b de_str) (DE.b (de_call F__law_roll rfl (hr.mono (by decide)) (takes_of rfl rfl rfl rfl) (by rfl) (da_cons (de_var 1) (da_cons de_int da_nil))))) da_nil)))))))
    (dss_weak (N1 := []) (dss_cons (s_set 3 sc_law.nd (de_call F_lately rfl (hr.mono (by decide)) (takes_of rfl rfl rfl rfl) (by rfl) (da_cons (de_var 8) (da_cons (de_var 10) da_nil))))
    (dss_cons (ds_if (dt_cmp (op_ne2 (room64 hr)) v_ne (DE.b (de_callB (cr_sum rfl) v_sum (by rfl) T.sum bt_sum (dab_cons (DE.b (DF.de (df_comp (own := [("when", 15), ("name", 5), ("many", 16)]) rfl sc_law.nd (di_sqC rfl (db_var 3)) (blkOk_by (own := [("when", 15), ("name", 5), ("many", 16)]) (N := N_law) (sc := defScope s_law) (by decide +kernel)) (fun _ _ _ _ _ => (dg_tup rfl rfl (dgs_cons (dg_name 15 sc_law.nd) (dgs_cons (dg_name 5 sc_law.nd) (dgs_cons (dg_name 16 sc_law.nd) dgs_nil))))) (fun _ _ _ _ _ => dts_nil) (fun _ _ _ _ _ => (de_var 16))))) dab_nil))) (DE.b (de_callB call_len2 v_len (by rfl) T.len bt_len (dab_cons (db_var 8) dab_nil))) (by rfl)) (dss_one (ds_ret de_bl)) dss_nil)
    (dss_cons (s_set 4 sc_law.nd (de_lst da_nil))
    (dss_cons (s_for (vs := [5]) (passes_of rfl) (di_sq rfl de_str) (dg_name 5 sc_law.nd) (dss_cons (s_parT (dgn_cons 11 sc_law.nd (dgn_cons 12 sc_law.nd dgn_nil)) (dm_val (DF.de (df_comp (own := [("when", 15), ("one", 13)]) rfl sc_law.nd (di_sqC rfl (db_var 8)) (blkOk_by (own := [("when", 15), ("one", 13)]) (N := N_law) (sc := defScope s_law) (by decide +kernel)) (fun _ _ _ _ _ => (dg_tup rfl rfl (dgs_cons (dg_name 15 sc_law.nd) (dgs_cons (dg_name 13 sc_law.nd) dgs_nil)))) (fun _ _ _ _ _ => (dts_one (dt_cmp (op_eq2 (room64 hr)) v_eq (db_var 13) (db_var 5) (by rfl)))) (fun _ _ _ _ _ => (de_var 15)))) (dm_val (de_heap (df_lst da_nil)) dm_nil)))
    (dss_cons (s_for (vs := [2]) (passes_of rfl) (di_range1 (by rfl) T.range (dab_cons (DE.b (de_callB call_len2 v_len (by rfl) T.len bt_len (dab_cons (db_var 11) dab_nil))) dab_nil)) (dg_name 2 sc_law.nd) (dss_cons (ds_if (DW.dt (dw_or (dt_cmp (op_eq2 (room64 hr)) v_eq (db_var 2) (DE.b de_int) (by rfl)) (dw_or1 (dt_cmp op_ge (v_cmpI (p := fun i j => decide (j ≤ i))) (DE.b (de_op op_sub v_sub (DE.b (de_get rfl (room1 hr) (db_var 11) (db_var 2))) (DE.b (de_get rfl (room1 hr) (db_var 11) (DE.b (de_op op_sub v_sub (db_var 2) (DE.b de_int))))))) (db_var 10) (by rfl))))) (dss_one (ds_expr (DE.b (de_happ (de_var 12) (de_heap (df_lst (da_cons (de_get rfl (room1 hr) (db_var 11) (db_var 2)) (da_cons (de_var 5) (da_cons de_int da_nil))))))))) dss_nil)
    (dss_one (ds_hput (room1 hr) (de_op op_add4 v_add (DE.b (de_get rfl (room1 hr) (DE.b (de_get rfl (room1 hr) (db_var 12) (DE.b (de_un un_neg v_neg (DE.b de_int))))) (DE.b de_int))) (DE.b de_int)) (de_get rfl (room1 hr) (db_var 12) (DE.b (de_un un_neg v_neg (DE.b de_int)))) (DE.b de_int)))))
    (dss_one (s_set 4 sc_law.nd (de_op op_add4 v_add (db_var 4) (DE.b (DF.de (DF.up (df_comp (own := [("one", 13)]) rfl sc_law.nd (di_sqHC rfl (db_var 12)) (blkOk_by (own := [("one", 13)]) (N := N_law) (sc := defScope s_law) (by decide +kernel)) (fun _ _ _ _ _ => (dg_name 13 sc_law.nd)) (fun _ _ _ _ _ => dts_nil) (fun _ _ _ _ _ => (de_callTy call_tuple_of v_tuple (by rfl) T.tuple bt_tuple (dab_cons (db_var 13) dab_nil)))))))))))))
    (dss_cons (ds_if (DW.dt (dw_or (dt_cmp (op_ne2 (room64 hr)) v_ne (DE.b (de_callB (cr_sortG (room65 hr)) v_sorted (by rfl) T.sorted bt_sorted (dab_cons (db_var 3) dab_nil))) (DE.b (de_callB (cr_sortG (room65 hr)) v_sorted (by rfl) T.sorted bt_sorted (dab_cons (db_var 4) dab_nil))) (by rfl)) (dw_or1 (dt_cmp (op_ne2 (room64 hr)) v_ne (DE.b (DF.de (df_comp (own := [("k", 2)]) rfl sc_law.nd (di_range2 (by rfl) T.range (dab_cons (DE.b de_int) (dab_cons (DE.b (de_callB call_len2 v_len (by rfl) T.len bt_len (dab_cons (db_var 3) dab_nil))) dab_nil))) (blkOk_by (own := [("k", 2)]) (N := N_law) (sc := defScope s_law) (by decide +kernel)) (fun _ _ _ _ _ => (dg_name 2 sc_law.nd)) (fun _ _ _ _ _ => (dts_one (dt_cmp op_lt2 v_lt (DE.b (de_get rfl (room1 hr) (DE.b (de_get rfl (room1 hr) (db_var 3) (db_var 2))) (DE.b de_int))) (DE.b (de_get rfl (room1 hr) (DE.b (de_get rfl (room1 hr) (db_var 3) (DE.b (de_op op_sub v_sub (db_var 2) (DE.b de_int))))) (DE.b de_int))) (by rfl)))) (fun _ _ _ _ _ => (de_var 2))))) (DE.b (de_lst da_nil)) (by rfl))))) (dss_one (ds_ret de_bl)) dss_nil)
    (dss_cons (s_setF 6 sc_law.nd (df_lst da_nil))
    (dss_cons (s_for (vs := [2]) (passes_of rfl) (di_range1 (by rfl) T.range (dab_cons (DE.b (de_call F__law_roll rfl (hr.mono (by decide)) (takes_of rfl rfl rfl rfl) (by rfl) (da_cons (de_var 1) (da_cons de_int da_nil)))) dab_nil)) (dg_name 2 sc_law.nd) (dss_cons (s_set 11 sc_law.nd (de_callB (cr_sortG (room65 hr)) v_sorted (by rfl) T.sorted bt_sorted (dab_cons (DE.b (DF.de (df_comp (own := [("j", 14)]) rfl sc_law.nd (di_range1 (by rfl) T.range (dab_cons (DE.b (de_call F__law_roll rfl (hr.mono (by decide)) (takes_of rfl rfl rfl rfl) (by rfl) (da_cons (de_var 1) (da_cons de_int da_nil)))) dab_nil)) (blkOk_by (own := [("j", 14)]) (N := N_law) (sc := defScope s_law) (by decide +kernel)) (fun _ _ _ _ _ => (dg_name 14 sc_law.nd)) (fun _ _ _ _ _ => dts_nil) (fun _ _ _ _ _ => (de_call F__law_roll rfl (hr.mono (by decide)) takes0 (by rfl) (da_cons (de_var 1) (da_cons de_int da_nil))))))) dab_nil)))
    (dss_one (s_append 6 (DF.de (df_comp (own := [("j", 14)]) rfl sc_law.nd (di_range1 (by rfl) T.range (dab_cons (DE.b (de_callB call_len2 v_len (by rfl) T.len bt_len (dab_cons (db_var 11) dab_nil))) dab_nil)) (blkOk_by (own := [("j", 14)]) (N := N_law) (sc := defScope s_law) (by decide +kernel)) (fun _ _ _ _ _ => (dg_name 14 sc_law.nd)) (fun _ _ _ _ _ => dts_nil) (fun _ _ _ _ _ => (de_tup (da_cons (de_get rfl (room1 hr) (db_var 11) (db_var 14)) (da_cons (de_op op_add4 v_add (DE.b (de_callTy call_str_int v_str (by rfl) T.str bt_str (dab_cons (db_var 2) dab_nil))) (DE.b (de_callTy call_str_int v_str (by rfl) T.str bt_str (dab_cons (db_var 14) dab_nil)))) da_nil))))))))))
    (dss_cons (s_set 7 sc_law.nd (de_lst da_nil))
    (dss_cons (s_for (vs := [2]) (passes_of rfl) (di_range1 (by rfl) T.range (dab_cons (DE.b (de_callB call_len2 v_len (by rfl) T.len bt_len (dab_cons (db_var 6) dab_nil))) dab_nil)) (dg_name 2 sc_law.nd) (dss_one (s_set 7 sc_law.nd (de_op op_add4 v_add (db_var 7) (DE.b (DF.de (df_comp (own := [("j", 14)]) rfl sc_law.nd (di_range1 (by rfl) T.range (dab_cons (DE.b (de_callB call_len2 v_len (by rfl) T.len bt_len (dab_cons (DE.b (de_get rfl (room1 hr) (db_var 6) (db_var 2))) dab_nil))) dab_nil)) (blkOk_by (own := [("j", 14)]) (N := N_law) (sc := defScope s_law) (by decide +kernel)) (fun _ _ _ _ _ => (dg_name 14 sc_law.nd)) (fun _ _ _ _ _ => dts_nil) (fun _ _ _ _ _ => (de_tup (da_cons (de_get rfl (room1 hr) (DE.b (de_get rfl (room1 hr) (DE.b (de_get rfl (room1 hr) (db_var 6) (db_var 2))) (db_var 14))) (DE.b de_int)) (da_cons (de_var 2) (da_cons (de_var 14) da_nil))))))))))))
    (dss_weak (N1 := []) (dss_one (ds_if (dt_cmp (op_ne2 (room64 hr)) v_ne (DE.b (de_callTy call_list_of v_list (by rfl) T.list bt_list (dab_cons (DE.b (de_call F_in_turn rfl (hr.mono (by decide)) (takes_of rfl rfl rfl rfl) (by rfl) (da_cons (de_var 6) da_nil))) dab_nil))) (DE.b (DF.de (df_comp (own := [("when", 15), ("k", 2), ("j", 14)]) rfl sc_law.nd (di_sqC rfl (DE.b (de_callB (cr_sortG (room65 hr)) v_sorted (by rfl) T.sorted bt_sorted (dab_cons (db_var 7) dab_nil)))) (blkOk_by (own := [("when", 15), ("k", 2), ("j", 14)]) (N := N_law) (sc := defScope s_law) (by decide +kernel)) (fun _ _ _ _ _ => (dg_tup rfl rfl (dgs_cons (dg_name 15 sc_law.nd) (dgs_cons (dg_name 2 sc_law.nd) (dgs_cons (dg_name 14 sc_law.nd) dgs_nil))))) (fun _ _ _ _ _ => dts_nil) (fun _ _ _ _ _ => (de_get rfl (room1 hr) (DE.b (de_get rfl (room1 hr) (db_var 6) (db_var 2))) (db_var 14)))))) (by rfl)) (dss_one (ds_ret de_bl)) dss_nil))))))))))))))))
    (dss_one (ds_ret de_bl)))
theorem ok_law {f : Addr} {fd : FuncData} (F : Fun Pm.K "law" "law" s_law f fd) (T : G mg) (F__law_rounds : FnD Pm P w mg base false 2 "_law_rounds" ["script", "most"] f__law_rounds) (F__law_roll : FnD Pm P w mg base false 1 "_law_roll" ["dice", "many"] f__law_roll) (F_lately : FnD Pm P w mg base false 1 "lately" ["row", "wide"] f_lately) (F_in_turn : FnD Pm P w mg base false 1 "in_turn" ["rows"] f_in_turn) : FnOk P w Pm.K mg base (L2.CX P w) 3 f fd ["script"] (spD Pm false 1 f_law) :=
  fn_ok F sc_law fun cdv A outer s H E hr => d_law T F__law_rounds F__law_roll F_lately F_in_turn cdv A outer s H E hr
end
theorem all_mk {l : PySem.W.OpenLaw} {w : World} {K : PySem.W.Frag} {h : Heap} {mg : Str → Option Value} {fa a0 a1 a2 a3 a4 a5 : Addr} (X : K.In h) (G0 : h.Ns mainGlobals mg) (hfa : mg "law" = some (.ref fa))
    {od0 an0 od1 an1 od2 an2 od3 an3 od4 an4 od5 an5 : Option Addr} {sl0 sl1 sl2 sl3 sl4 sl5 : Array (Option Value)} {oc0 kV0 dc0 pm0 cd0 ct0 oc1 kV1 dc1 pm1 cd1 ct1 oc2 kV2 dc2 pm2 cd2 ct2 oc3 kV3 dc3 pm3 cd3 ct3 oc4 kV4 dc4 pm4 cd4 ct4 oc5 kV5 dc5 pm5 cd5 ct5 : Value}
    (n0 : PySem.W.nsIn K mainGlobals "_law_dice" = some (some (.ref a0)))
    (l0 : K.lookup a0 = some ⟨oc0, od0, .func (PySem.W.fnOf "_law_dice" "_law_dice" (defArgs s__law_dice) (defBody s__law_dice) (defScope s__law_dice) .none kV0 dc0 pm0 an0 cd0 ct0), sl0⟩)
    (c0 : PySem.W.codeIn K cd0 "_law_dice" = true) (k0 : PySem.W.keepIn K (.ref a0) = true)
    (n1 : PySem.W.nsIn K mainGlobals "_law_rounds" = some (some (.ref a1)))
    (l1 : K.lookup a1 = some ⟨oc1, od1, .func (PySem.W.fnOf "_law_rounds" "_law_rounds" (defArgs s__law_rounds) (defBody s__law_rounds) (defScope s__law_rounds) .none kV1 dc1 pm1 an1 cd1 ct1), sl1⟩)
    (c1 : PySem.W.codeIn K cd1 "_law_rounds" = true) (k1 : PySem.W.keepIn K (.ref a1) = true)
    (n2 : PySem.W.nsIn K mainGlobals "_law_roll" = some (some (.ref a2)))
    (l2 : K.lookup a2 = some ⟨oc2, od2, .func (PySem.W.fnOf "_law_roll" "_law_roll" (defArgs s__law_roll) (defBody s__law_roll) (defScope s__law_roll) .none kV2 dc2 pm2 an2 cd2 ct2), sl2⟩)
    (c2 : PySem.W.codeIn K cd2 "_law_roll" = true) (k2 : PySem.W.keepIn K (.ref a2) = true)
    (n3 : PySem.W.nsIn K mainGlobals "lately" = some (some (.ref a3)))
    (l3 : K.lookup a3 = some ⟨oc3, od3, .func (PySem.W.fnOf "lately" "lately" (defArgs s_lately) (defBody s_lately) (defScope s_lately) .none kV3 dc3 pm3 an3 cd3 ct3), sl3⟩)
    (c3 : PySem.W.codeIn K cd3 "lately" = true) (k3 : PySem.W.keepIn K (.ref a3) = true)
    (n4 : PySem.W.nsIn K mainGlobals "in_turn" = some (some (.ref a4)))
    (l4 : K.lookup a4 = some ⟨oc4, od4, .func (PySem.W.fnOf "in_turn" "in_turn" (defArgs s_in_turn) (defBody s_in_turn) (defScope s_in_turn) .none kV4 dc4 pm4 an4 cd4 ct4), sl4⟩)
    (c4 : PySem.W.codeIn K cd4 "in_turn" = true) (k4 : PySem.W.keepIn K (.ref a4) = true)
    (n5 : PySem.W.nsIn K mainGlobals "law" = some (some (.ref a5)))
    (l5 : K.lookup a5 = some ⟨oc5, od5, .func (PySem.W.fnOf "law" "law" (defArgs s_law) (defBody s_law) (defScope s_law) .none kV5 dc5 pm5 an5 cd5 ct5), sl5⟩)
    (c5 : PySem.W.codeIn K cd5 "law" = true) (k5 : PySem.W.keepIn K (.ref a5) = true)
    (z_abs : PySem.W.nsIn K mainGlobals "abs" = some none)
    (z_enumerate : PySem.W.nsIn K mainGlobals "enumerate" = some none)
    (z_int : PySem.W.nsIn K mainGlobals "int" = some none)
    (z_len : PySem.W.nsIn K mainGlobals "len" = some none)
    (z_list : PySem.W.nsIn K mainGlobals "list" = some none)
    (z_range : PySem.W.nsIn K mainGlobals "range" = some none)
    (z_sorted : PySem.W.nsIn K mainGlobals "sorted" = some none)
    (z_str : PySem.W.nsIn K mainGlobals "str" = some none)
    (z_sum : PySem.W.nsIn K mainGlobals "sum" = some none)
    (z_tuple : PySem.W.nsIn K mainGlobals "tuple" = some none) :
    ∃ fd : FuncData, (∀ (s : Shared) (v : Value), BindsTo s fd ⟨[v], []⟩ [("script", v)]) ∧ ∀ base : Heap, K.In base → base.Ns mainGlobals mg → FnOk l.prog w K mg base (L2.CX l.prog w) 3 fa fd ["script"] (spD ⟨K, fun _ => 0, fun _ => .none⟩ false 1 f_law) := by
  have e := hfa.symm.trans (PySem.W.mg_of X G0 n5)
  cases e
  have T : G mg := ⟨PySem.W.mg_none_of X G0 z_abs, PySem.W.mg_none_of X G0 z_enumerate, PySem.W.mg_none_of X G0 z_int, PySem.W.mg_none_of X G0 z_len, PySem.W.mg_none_of X G0 z_list, PySem.W.mg_none_of X G0 z_range, PySem.W.mg_none_of X G0 z_sorted, PySem.W.mg_none_of X G0 z_str, PySem.W.mg_none_of X G0 z_sum, PySem.W.mg_none_of X G0 z_tuple⟩
  let Q : Pm := ⟨K, fun _ => 0, fun _ => .none⟩
  have F0 : Fun Q.K "_law_dice" "_law_dice" s__law_dice a0 _ := fun_mk (st := s__law_dice) l0 c0 k0
  have b0 := F0.binds (ps := ["cell"]) fun _ _ _ _ _ _ us hl => match us, hl with | [_], _ => rfl
  have F1 : Fun Q.K "_law_rounds" "_law_rounds" s__law_rounds a1 _ := fun_mk (st := s__law_rounds) l1 c1 k1
  have b1 := F1.binds (ps := ["script", "most"]) fun _ _ _ _ _ _ us hl => match us, hl with | [_, _], _ => rfl
  have F2 : Fun Q.K "_law_roll" "_law_roll" s__law_roll a2 _ := fun_mk (st := s__law_roll) l2 c2 k2
  have b2 := F2.binds (ps := ["dice", "many"]) fun _ _ _ _ _ _ us hl => match us, hl with | [_, _], _ => rfl
  have F3 : Fun Q.K "lately" "lately" s_lately a3 _ := fun_mk (st := s_lately) l3 c3 k3
  have b3 := F3.binds (ps := ["row", "wide"]) fun _ _ _ _ _ _ us hl => match us, hl with | [_, _], _ => rfl
  have F4 : Fun Q.K "in_turn" "in_turn" s_in_turn a4 _ := fun_mk (st := s_in_turn) l4 c4 k4
  have b4 := F4.binds (ps := ["rows"]) fun _ _ _ _ _ _ us hl => match us, hl with | [_], _ => rfl
  have F5 : Fun Q.K "law" "law" s_law fa _ := fun_mk (st := s_law) l5 c5 k5
  refine ⟨PySem.W.fnOf "law" "law" (defArgs s_law) (defBody s_law) (defScope s_law) .none kV5 dc5 pm5 an5 cd5 ct5, fun s v => .of_eq rfl, fun base _ _ => ?_⟩
  have D0 : FnD Q l.prog w mg base false 1 "_law_dice" ["cell"] f__law_dice := fnd (ok__law_dice F0 T ) F0 (PySem.W.mg_of X G0 n0) b0
  have D1 : FnD Q l.prog w mg base false 2 "_law_rounds" ["script", "most"] f__law_rounds := fnd (ok__law_rounds F1 T D0) F1 (PySem.W.mg_of X G0 n1) b1
  have D2 : FnD Q l.prog w mg base false 1 "_law_roll" ["dice", "many"] f__law_roll := fnd (ok__law_roll F2 T ) F2 (PySem.W.mg_of X G0 n2) b2
  have D3 : FnD Q l.prog w mg base false 1 "lately" ["row", "wide"] f_lately := fnd (ok_lately F3 T ) F3 (PySem.W.mg_of X G0 n3) b3
  have D4 : FnD Q l.prog w mg base false 1 "in_turn" ["rows"] f_in_turn := fnd (ok_in_turn F4 T ) F4 (PySem.W.mg_of X G0 n4) b4
  exact ok_law F5 T D1 D2 D3 D4
theorem walk {l : PySem.W.OpenLaw} {q : Program} {loose : List Str} {XP : (Str → Option Value) → Heap → Prop} {YP : World → Heap → Prop} {d : DefRec} {K : Params → PySem.W.Frag} (hL : Law 63 f_law) (hn : l.most = some 63) (hdf : d.params.defaults = [])
    (hY : ∀ (w : World) (h : Heap), YP w h → (K w.params).In h)
    (F : ∀ (w : World) (mg : Str → Option Value) (fa : Addr) (h : Heap), (K w.params).In h → h.Ns mainGlobals mg → mg d.name = some (.ref fa) →
      ∃ fd : FuncData, (∀ (s : Shared) (u : Value), BindsTo s fd ⟨[u], []⟩ [("script", u)]) ∧ ∀ base : Heap, (K w.params).In base → base.Ns mainGlobals mg → FnOk l.prog w (K w.params) mg base (L2.CX l.prog w) 3 fa fd ["script"] (spD ⟨K w.params, fun _ => 0, fun _ => .none⟩ false 1 f_law)) :
    PySem.W.WalkO q loose XP YP l.row.toRowW d [] (fun f vs => PySem.call f vs) :=
  L2.walk_of (n := 63) (k := 3) (x := "script") (CX := fun w => L2.CX l.prog w) (sp := fun w => spD ⟨K w.params, fun _ => 0, fun _ => .none⟩ false 1 f_law) hn (by decide) hdf ⟨rfl, by decide, by decide⟩ hY F (fun w H a ns hl hO hS => law_sp (Pm := ⟨K w.params, fun _ => 0, fun _ => .none⟩) hL hl hO hS) fun _ _ _ _ _ ⟨_, _, _, _, _, _, _, _, _, _, _, _, z⟩ => z
end K72
end

section
namespace K72
open PySem D

def stp (w : Int) (s : List (Int × Int) × Option Int) (t : Int) : List (Int × Int) × Option Int := match s.2 with
  | none => ((t, 1) :: s.1, some t)
  | some l => if w ≤ t - l then ((t, 1) :: s.1, some t) else ((match s.1 with | (t0, n) :: r => (t0, n + 1) :: r | [] => []), some t)
/-- what lately does to the times of one name, the newest first -/
def sR (w : Int) (ts : List Int) : List (Int × Int) × Option Int := ts.foldl (stp w) ([], none)
theorem sR_snoc (w : Int) (ts : List Int) (t : Int) : sR w (ts ++ [t]) = stp w (sR w ts) t := by
  unfold sR
  rw [List.foldl_append]
  rfl
def times (c : Nat) (rs : List (Int × Nat)) : List Int := (rs.filter fun p => p.2 == c).map (·.1)
theorem times_snoc (c : Nat) (rs : List (Int × Nat)) (t : Int) (d : Nat) : times c (rs ++ [(t, d)]) = if d = c then times c rs ++ [t] else times c rs := by
  unfold times
  rw [List.filter_append]
  by_cases h : d = c
  · rw [if_pos h]; simp [h]
  · rw [if_neg h]; simp [h]
def gR (c : Nat) (F : List (Int × Nat × Int)) : List (Int × Int) := ((F.filter fun e => e.2.1 == c).map fun e => (e.1, e.2.2)).reverse
theorem gR_snoc (c : Nat) (F : List (Int × Nat × Int)) (e : Int × Nat × Int) : gR c (F ++ [e]) = if e.2.1 = c then (e.1, e.2.2) :: gR c F else gR c F := by
  unfold gR
  rw [List.filter_append]
  by_cases h : e.2.1 = c
  · rw [if_pos h]; simp [h]
  · rw [if_neg h]; simp [h]
theorem gR_mid {c : Nat} {A B : List (Int × Nat × Int)} {e : Int × Nat × Int} (h : e.2.1 = c) (hB : ∀ x ∈ B, x.2.1 ≠ c) : gR c (A ++ e :: B) = (e.1, e.2.2) :: gR c A := by
  unfold gR
  have : B.filter (fun x => x.2.1 == c) = [] := by
    rw [List.filter_eq_nil_iff]
    intro x hx
    simpa using hB x hx
  rw [List.filter_append, List.filter_cons, this]
  simp [h]
theorem gR_oth {c : Nat} {A B : List (Int × Nat × Int)} {e e' : Int × Nat × Int} (h : e.2.1 ≠ c) (h' : e'.2.1 ≠ c) : gR c (A ++ e :: B) = gR c (A ++ e' :: B) := by
  unfold gR
  rw [List.filter_append, List.filter_append, List.filter_cons, List.filter_cons]
  simp [h, h']
abbrev o3 (e : Int × Nat × Int) : AO := .lst [.int e.1, .str (ch e.2.1), .int e.2.2]
abbrev enc3 (e : Int × Nat × Int) : AV := .tup [.int e.1, .str (ch e.2.1), .int e.2.2]
abbrev enc1 (p : Int × Nat) : AV := .tup [.int p.1, .str (ch p.2)]

structure LI (n0 a b : Nat) (w : Int) (pre : List (Int × Nat)) (h : AH) (F : List (Int × Nat × Int)) (FA : List Nat) (kvs : List (AV × AV)) : Prop where
  a0 : n0 ≤ a
  b0 : n0 ≤ b
  dict : h[a]? = some (.dct kvs)
  lst : h[b]? = some (.lst (FA.map AV.ref))
  fl : FA.length = F.length
  nd : FA.Nodup
  f0 : ∀ x ∈ FA, n0 ≤ x
  obj : ∀ (j : Nat) (e : Int × Nat × Int), F[j]? = some e → ∃ ad, FA[j]? = some ad ∧ h[ad]? = some (o3 e)
  last : ∀ c, (dlook kvs (.str (ch c)) = none ∧ (∀ e ∈ F, e.2.1 ≠ c) ∧ times c pre = []) ∨
    ∃ ad lt A e B, dlook kvs (.str (ch c)) = some (.ref ad) ∧ n0 ≤ ad ∧ F = A ++ e :: B ∧ e.2.1 = c ∧ (∀ x ∈ B, x.2.1 ≠ c) ∧ h[ad]? = some (.lst [.int (A.length : Nat), .int lt]) ∧ (sR w (times c pre)).2 = some lt
  model : ∀ c, gR c F = (sR w (times c pre)).1
  k1 : kvs.length ≤ pre.length
  k2 : F.length ≤ pre.length
  sum : (F.map (·.2.2)).sum = pre.length
  mono : F.Pairwise fun x y => x.1 ≤ y.1
  from_ : ∀ e ∈ F, (e.1, e.2.1) ∈ pre

theorem dput_len {kvs : List (AV × AV)} {k v : AV} : (dput kvs k v).length ≤ kvs.length + 1 := by
  unfold dput
  split <;> simp

def lcond : EV := (orD (bin notInD (varD 5) (varD 2)) (bin geV (bin subV (varD 4) (bin getV (bin getV (varD 2) (varD 5)) (cD (.int 1)))) (varD 1)))
def lnew : SV := (seqS (hputS (varD 2) (varD 5) (heapL (lstD [(callD lenF [(varD 3)]), (varD 4)])))
  (exprS (happD (varD 3) (heapL (lstD [(varD 4), (varD 5), (cD (.int 1))])))))
def lold : SV := (seqS (hputS (bin getV (varD 2) (varD 5)) (cD (.int 1)) (varD 4))
  (hputAugS iaddV (bin getV (varD 3) (bin getV (bin getV (varD 2) (varD 5)) (cD (.int 0)))) (cD (.int 2)) (cD (.int 1))))
theorem m_lately_eq : m_lately = (seqS (parS [2, 3] [(heapL (cD (.dct []))), (heapL (lstD []))])
  (seqS (forS (tupT [(nameT 4), (nameT 5)]) (itD (varD 0)) (ifS lcond lnew lold))
  (retS (callD tupleF [(compD [6] (nameT 6) (itH (varD 3)) (cD (.bl true)) (callD tupleF [(varD 6)]))])))) := rfl

section
variable {n0 a b : Nat} {w t : Int} {c : Nat} {pre : List (Int × Nat)} {h : AH} {F : List (Int × Nat × Int)} {FA : List Nat} {kvs : List (AV × AV)} {row x6 : Option AV}
abbrev ls (row : Option AV) (w : Int) (a b : Nat) (t : Int) (c : Nat) (x6 : Option AV) : AS := [row, some (.int w), some (.ref a), some (.ref b), some (.int t), some (.str (ch c)), x6]
theorem ab_ne (I : LI n0 a b w pre h F FA kvs) : a ≠ b := fun z => by
  have := I.dict
  rw [z, I.lst] at this
  cases this
theorem lnew_ok (I : LI n0 a b w pre h F FA kvs) (hl : pre.length ≤ 1000) : lnew (ls row w a b t c x6) h =
    .nx (ls row w a b t c x6) ((((h ++ [AO.lst [.int (F.length : Nat), .int t]]).set a (.dct (dput kvs (.str (ch c)) (.ref h.length)))) ++ [o3 (t, c, 1)]).set b (.lst (FA.map AV.ref ++ [.ref (h.length + 1)]))) := by
  have e1 : (h ++ [AO.lst [.int (F.length : Nat), .int t]])[a]? = some (.dct kvs) := get_app I.dict
  have hk : kvs.length < LIM := by have := I.k1; unfold LIM; omega
  have hf : FA.length < LIM := by have := I.k2; rw [I.fl]; unfold LIM; omega
  have e2 : ((h ++ [AO.lst [.int (F.length : Nat), .int t]]).set a (.dct (dput kvs (.str (ch c)) (.ref h.length))))[b]? = some (.lst (FA.map AV.ref)) := by
    rw [get_set_ne (ab_ne I)]; exact get_app I.lst
  have e3 := isHL_at e2
  have e4 : (((h ++ [AO.lst [.int (F.length : Nat), .int t]]).set a (.dct (dput kvs (.str (ch c)) (.ref h.length)))) ++ [o3 (t, c, 1)])[b]? = some (.lst (FA.map AV.ref)) := get_app e2
  have p1 : hputS (varD 2) (varD 5) (heapL (lstD [(callD lenF [(varD 3)]), (varD 4)])) (ls row w a b t c x6) h = .nx (ls row w a b t c x6) ((h ++ [AO.lst [.int (F.length : Nat), .int t]]).set a (.dct (dput kvs (.str (ch c)) (.ref h.length)))) := by
    simp [hputS, heapL, lstD, evs, callD, varD, lenF_ref I.lst, I.fl, hput_dc e1 (.str (ch c)) (.ref h.length) rfl hk]
  have p2 : exprS (happD (varD 3) (heapL (lstD [(varD 4), (varD 5), (cD (.int 1))]))) (ls row w a b t c x6) ((h ++ [AO.lst [.int (F.length : Nat), .int t]]).set a (.dct (dput kvs (.str (ch c)) (.ref h.length)))) =
      .nx (ls row w a b t c x6) ((((h ++ [AO.lst [.int (F.length : Nat), .int t]]).set a (.dct (dput kvs (.str (ch c)) (.ref h.length)))) ++ [o3 (t, c, 1)]).set b (.lst (FA.map AV.ref ++ [.ref (h.length + 1)]))) := by
    have := happ_at (v := .ref (h.length + 1)) e4 (by simpa using hf)
    simp [exprS, happD, heapL, lstD, evs, varD, cD, e3, this]
  unfold lnew
  rw [seqS_nx p1, p2]
theorem LI.new (I : LI n0 a b w pre h F FA kvs) (hl : pre.length ≤ 1000) (hn : n0 ≤ h.length) (hm : ∀ p ∈ pre, p.1 ≤ t) (hs : (sR w (times c pre)).2 = none ∨ ∃ l, (sR w (times c pre)).2 = some l ∧ w ≤ t - l) :
    LI n0 a b w (pre ++ [(t, c)]) ((((h ++ [AO.lst [.int (F.length : Nat), .int t]]).set a (.dct (dput kvs (.str (ch c)) (.ref h.length)))) ++ [o3 (t, c, 1)]).set b (.lst (FA.map AV.ref ++ [.ref (h.length + 1)]))) (F ++ [(t, c, 1)]) (FA ++ [h.length + 1]) (dput kvs (.str (ch c)) (.ref h.length)) := by
  have ne := ab_ne I
  have la : a < h.length := (List.getElem?_eq_some_iff.mp I.dict).1
  have lb : b < h.length := (List.getElem?_eq_some_iff.mp I.lst).1
  have l1 : (h ++ [AO.lst [.int (F.length : Nat), .int t]]).length = h.length + 1 := by simp
  have l2 : ((h ++ [AO.lst [.int (F.length : Nat), .int t]]).set a (.dct (dput kvs (.str (ch c)) (.ref h.length)))).length = h.length + 1 := by simp
  have old : ∀ (x : Nat) (o : AO), x ≠ a → x ≠ b → h[x]? = some o → ((((h ++ [AO.lst [.int (F.length : Nat), .int t]]).set a (.dct (dput kvs (.str (ch c)) (.ref h.length)))) ++ [o3 (t, c, 1)]).set b (.lst (FA.map AV.ref ++ [.ref (h.length + 1)])))[x]? = some o := fun x o ha hb e => by
    rw [get_set_ne (Ne.symm hb)]
    refine get_app ?_
    rw [get_set_ne (Ne.symm ha)]
    exact get_app e
  have stp1 : stp w (sR w (times c pre)) t = ((t, 1) :: (sR w (times c pre)).1, some t) := by
    unfold stp
    rcases hs with e | ⟨l, e, hw⟩
    · rw [e]
    · rw [e]; simp only [if_pos hw]
  refine ⟨I.a0, I.b0, ?_, ?_, by simp [I.fl], ?_, fun x hx => ?_, fun j e he => ?_, fun d => ?_, fun d => ?_, ?_, ?_, ?_, ?_, fun e he => ?_⟩
  · rw [get_set_ne (Ne.symm ne)]
    refine get_app (get_set_self (o := .dct kvs) (get_app I.dict))
  · rw [List.map_append]
    exact get_set_self (o := .lst (FA.map AV.ref)) (get_app (by rw [get_set_ne ne]; exact get_app I.lst))
  · refine List.nodup_append.mpr ⟨I.nd, by simp, fun x hx y hy z => ?_⟩
    have hy' : y = h.length + 1 := by simpa using hy
    obtain ⟨j, hj⟩ := List.mem_iff_getElem?.mp hx
    have hjl : j < F.length := by rw [← I.fl]; exact (List.getElem?_eq_some_iff.mp hj).1
    obtain ⟨ad, h1, h2⟩ := I.obj j _ (List.getElem?_eq_getElem hjl)
    rw [hj] at h1
    cases h1
    have := (List.getElem?_eq_some_iff.mp h2).1
    omega
  · rcases List.mem_append.mp hx with hx | hx
    · exact I.f0 x hx
    · have : x = h.length + 1 := by simpa using hx
      omega
  · by_cases hj : j < F.length
    · rw [List.getElem?_append_left hj] at he
      obtain ⟨ad, h1, h2⟩ := I.obj j e he
      refine ⟨ad, by rw [List.getElem?_append_left (by rw [I.fl]; exact hj)]; exact h1, old ad _ (fun z => ?_) (fun z => ?_) h2⟩
      · rw [z, I.dict] at h2; cases h2
      · rw [z, I.lst] at h2
        cases FA <;> simp at h2
    · have : j = F.length := by
        have := (List.getElem?_eq_some_iff.mp he).1
        simp at this
        omega
      subst this
      have he' : e = (t, c, 1) := by simpa using he.symm
      subst he'
      refine ⟨h.length + 1, by rw [← I.fl]; simp, ?_⟩
      rw [get_set_ne (by omega)]
      have := get_new (h := (h ++ [AO.lst [.int (F.length : Nat), .int t]]).set a (.dct (dput kvs (.str (ch c)) (.ref h.length)))) (o := o3 (t, c, 1))
      rw [l2] at this
      exact this
  · by_cases hd : d = c
    · subst hd
      right
      refine ⟨h.length, t, F, (t, d, 1), [], by rw [dlook_dput, if_pos rfl], hn, rfl, rfl, by simp, ?_, ?_⟩
      · rw [get_set_ne (by omega)]
        refine get_app ?_
        rw [get_set_ne (by omega)]
        exact get_new
      · rw [times_snoc, if_pos rfl, sR_snoc, stp1]
    · have hne : ch d ≠ ch c := fun z => hd (ch_inj.mp z)
      rw [dlook_dput, if_neg hne, times_snoc, if_neg (fun z => hd z.symm)]
      rcases I.last d with ⟨e1, e2, e3⟩ | ⟨ad, lt, A, e, B, e1, e2, e3, e4, e5, e6, e7⟩
      · left
        refine ⟨e1, fun e he => ?_, e3⟩
        rcases List.mem_append.mp he with he | he
        · exact e2 e he
        · have : e = (t, c, 1) := by simpa using he
          rw [this]; exact fun z => hd z.symm
      · right
        refine ⟨ad, lt, A, e, B ++ [(t, c, 1)], e1, e2, by rw [e3]; simp, e4, fun x hx => ?_, old ad _ (fun z => ?_) (fun z => ?_) e6, e7⟩
        · rcases List.mem_append.mp hx with hx | hx
          · exact e5 x hx
          · have : x = (t, c, 1) := by simpa using hx
            rw [this]; exact fun z => hd z.symm
        · rw [z, I.dict] at e6; cases e6
        · rw [z, I.lst] at e6
          cases FA <;> simp at e6
  · rw [gR_snoc, times_snoc]
    by_cases hd : c = d
    · subst hd
      rw [if_pos rfl, if_pos rfl, sR_snoc, stp1, I.model]
    · rw [if_neg hd, if_neg hd]
      exact I.model d
  · have := I.k1
    have := dput_len (kvs := kvs) (k := .str (ch c)) (v := .ref h.length)
    simp
    omega
  · have := I.k2
    simp
    omega
  · rw [List.map_append, List.sum_append, I.sum]
    simp
  · refine List.pairwise_append.mpr ⟨I.mono, by simp, fun x hx y hy => ?_⟩
    have hy' : y = (t, c, 1) := by simpa using hy
    rw [hy']
    exact hm _ (I.from_ x hx)
  · rcases List.mem_append.mp he with he | he
    · exact List.mem_append_left _ (I.from_ e he)
    · have : e = (t, c, 1) := by simpa using he
      rw [this]
      simp
theorem modify_mid {A B : List (Int × Nat × Int)} {e : Int × Nat × Int} {j : Nat} {x e' : Int × Nat × Int} (h : (A ++ e' :: B)[j]? = some x) : (j = A.length ∧ x = e') ∨ (j ≠ A.length ∧ (A ++ e :: B)[j]? = some x) := by
  by_cases hj : j < A.length
  · rw [List.getElem?_append_left hj] at h
    exact .inr ⟨by omega, by rw [List.getElem?_append_left hj]; exact h⟩
  · rw [List.getElem?_append_right (by omega)] at h
    by_cases hz : j = A.length
    · subst hz
      simp at h
      exact .inl ⟨rfl, h.symm⟩
    · refine .inr ⟨hz, ?_⟩
      rw [List.getElem?_append_right (by omega)]
      obtain ⟨m, hm⟩ : ∃ m, j - A.length = m + 1 := ⟨j - A.length - 1, by omega⟩
      rw [hm] at h ⊢
      simpa using h
/-- the thing at the place of the last one of a name -/
theorem LI.at (I : LI n0 a b w pre h F FA kvs) {A B : List (Int × Nat × Int)} {e : Int × Nat × Int} (hF : F = A ++ e :: B) : ∃ fa, FA[A.length]? = some fa ∧ h[fa]? = some (o3 e) ∧ n0 ≤ fa := by
  obtain ⟨fa, h1, h2⟩ := I.obj A.length e (by rw [hF]; simp)
  exact ⟨fa, h1, h2, I.f0 _ (List.mem_of_getElem? h1)⟩
theorem lold_ok (I : LI n0 a b w pre h F FA kvs) {ad fa : Nat} {lt : Int} {A B : List (Int × Nat × Int)} {e : Int × Nat × Int} (hk : dlook kvs (.str (ch c)) = some (.ref ad)) (hF : F = A ++ e :: B) (had : h[ad]? = some (.lst [.int (A.length : Nat), .int lt])) (hfa : FA[A.length]? = some fa) (hfo : h[fa]? = some (o3 e)) :
    lold (ls row w a b t c x6) h = .nx (ls row w a b t c x6) ((h.set ad (.lst [.int (A.length : Nat), .int t])).set fa (o3 (e.1, e.2.1, e.2.2 + 1))) := by
  have na : ad ≠ a := fun z => by rw [z, I.dict] at had; cases had
  have nb : ad ≠ b := fun z => by
    rw [z, I.lst] at had
    cases FA <;> simp at had
  have nf : ad ≠ fa := fun z => by rw [z, hfo] at had; simp at had
  have g1 : getV (.ref a) (.str (ch c)) h = .ok (.ref ad) h := by rw [get_dc I.dict _ rfl, hk]; rfl
  have d2 : (h.set ad (.lst [.int (A.length : Nat), .int t]))[a]? = some (.dct kvs) := by rw [get_set_ne na]; exact I.dict
  have b2 : (h.set ad (.lst [.int (A.length : Nat), .int t]))[b]? = some (.lst (FA.map AV.ref)) := by rw [get_set_ne nb]; exact I.lst
  have f2 : (h.set ad (.lst [.int (A.length : Nat), .int t]))[fa]? = some (o3 e) := by rw [get_set_ne nf]; exact hfo
  have a2 : (h.set ad (.lst [.int (A.length : Nat), .int t]))[ad]? = some (.lst [.int (A.length : Nat), .int t]) := get_set_self had
  have p1 : hputS (bin getV (varD 2) (varD 5)) (cD (.int 1)) (varD 4) (ls row w a b t c x6) h = .nx (ls row w a b t c x6) (h.set ad (.lst [.int (A.length : Nat), .int t])) := by
    simp [hputS, bin, varD, cD, g1, hput_hl had 1 1 _ (by rfl), List.set]
  unfold lold
  rw [seqS_nx p1]
  generalize hh : h.set ad (.lst [.int (A.length : Nat), .int t]) = h2 at d2 b2 f2 a2 ⊢
  have g2 : getV (.ref a) (.str (ch c)) h2 = .ok (.ref ad) h2 := by rw [get_dc d2 _ rfl, hk]; rfl
  have g3 : getV (.ref ad) (.int 0) h2 = .ok (.int (A.length : Nat)) h2 := by rw [get_hl a2]; rfl
  have g4 : getV (.ref b) (.int (A.length : Nat)) h2 = .ok (.ref fa) h2 := by
    rw [get_hl b2, atI_nat, List.getElem?_map, hfa]; rfl
  have g5 : getH (.ref fa) (.int 2) h2 = some (.int e.2.2) := by
    unfold getH rl lv
    simp only [f2, atA, iOf_int, Option.bind_some, atI_two]
  simp [hputAugS, bin, varD, cD, g2, g3, g4, g5, hput_hl f2 2 2 _ (by rfl), List.set]
theorem LI.old (I : LI n0 a b w pre h F FA kvs) {ad fa : Nat} {lt : Int} {A B : List (Int × Nat × Int)} {e : Int × Nat × Int} (hk : dlook kvs (.str (ch c)) = some (.ref ad)) (hn : n0 ≤ ad) (hF : F = A ++ e :: B) (hec : e.2.1 = c) (hB : ∀ x ∈ B, x.2.1 ≠ c) (had : h[ad]? = some (.lst [.int (A.length : Nat), .int lt])) (hs : (sR w (times c pre)).2 = some lt) (hw : ¬ w ≤ t - lt)
    (hfa : FA[A.length]? = some fa) (hfo : h[fa]? = some (o3 e)) :
    LI n0 a b w (pre ++ [(t, c)]) ((h.set ad (.lst [.int (A.length : Nat), .int t])).set fa (o3 (e.1, e.2.1, e.2.2 + 1))) (A ++ (e.1, e.2.1, e.2.2 + 1) :: B) FA kvs := by
  have na : ad ≠ a := fun z => by rw [z, I.dict] at had; cases had
  have nb : ad ≠ b := fun z => by
    rw [z, I.lst] at had
    cases FA <;> simp at had
  have nf : ad ≠ fa := fun z => by rw [z, hfo] at had; simp at had
  have fna : fa ≠ a := fun z => by rw [z, I.dict] at hfo; cases hfo
  have fnb : fa ≠ b := fun z => by
    rw [z, I.lst] at hfo
    cases FA <;> simp at hfo
  have old : ∀ (x : Nat) (o : AO), x ≠ ad → x ≠ fa → h[x]? = some o → ((h.set ad (.lst [.int (A.length : Nat), .int t])).set fa (o3 (e.1, e.2.1, e.2.2 + 1)))[x]? = some o := fun x o h1 h2 h3 => by
    rw [get_set_ne (Ne.symm h2), get_set_ne (Ne.symm h1)]
    exact h3
  have stp2 : stp w (sR w (times c pre)) t = ((match (sR w (times c pre)).1 with | (t0, n) :: r => (t0, n + 1) :: r | [] => []), some t) := by
    unfold stp
    rw [hs]
    simp only [if_neg hw]
  have hlen : (A ++ (e.1, e.2.1, e.2.2 + 1) :: B).length = F.length := by rw [hF]; simp
  refine ⟨I.a0, I.b0, old _ _ (Ne.symm na) (Ne.symm fna) I.dict, old _ _ (Ne.symm nb) (Ne.symm fnb) I.lst, I.fl.trans hlen.symm, I.nd, I.f0, fun j x hx => ?_, fun d => ?_, fun d => ?_, ?_, ?_, ?_, ?_, fun x hx => ?_⟩
  · rcases modify_mid (e := e) hx with ⟨rfl, rfl⟩ | ⟨hj, hx⟩
    · exact ⟨fa, hfa, get_set_self (o := o3 e) (by rw [get_set_ne nf]; exact hfo)⟩
    · obtain ⟨ad', h1, h2⟩ := I.obj j x (by rw [hF]; exact hx)
      refine ⟨ad', h1, old _ _ (fun z => ?_) (fun z => ?_) h2⟩
      · rw [z, had] at h2; simp at h2
      · subst z
        obtain ⟨h3, h4⟩ := List.getElem?_eq_some_iff.mp h1
        obtain ⟨h5, h6⟩ := List.getElem?_eq_some_iff.mp hfa
        exact hj ((List.getElem_inj I.nd).mp (h4.trans h6.symm))
  · by_cases hd : d = c
    · subst hd
      right
      refine ⟨ad, t, A, (e.1, e.2.1, e.2.2 + 1), B, hk, hn, rfl, hec, hB, ?_, ?_⟩
      · rw [get_set_ne (Ne.symm nf)]
        exact get_set_self had
      · rw [times_snoc, if_pos rfl, sR_snoc, stp2]
    · rw [times_snoc, if_neg (fun z => hd z.symm)]
      rcases I.last d with ⟨e1, e2, e3⟩ | ⟨ad', lt', A', e', B', e1, e2, e3, e4, e5, e6, e7⟩
      · left
        refine ⟨e1, fun x hx => ?_, e3⟩
        rcases List.mem_append.mp hx with hx | hx
        · exact e2 x (by rw [hF]; exact List.mem_append_left _ hx)
        · rcases List.mem_cons.mp hx with rfl | hx
          · exact fun z => hd (by rw [← z]; exact hec)
          · exact e2 x (by rw [hF]; exact List.mem_append_right _ (List.mem_cons_of_mem _ hx))
      · right
        have nd' : A'.length ≠ A.length := fun z => by
          have h1 : F[A'.length]? = some e' := by rw [e3]; simp
          have h2 : F[A.length]? = some e := by rw [hF]; simp
          rw [z, h2] at h1
          cases h1
          exact hd (e4.symm.trans hec)
        have q1 : ad' ≠ ad := fun z => by
          rw [z, had] at e6
          simp at e6
          omega
        have q2 : ad' ≠ fa := fun z => by rw [z, hfo] at e6; simp at e6
        have key : ∃ A2 B2, A ++ (e.1, e.2.1, e.2.2 + 1) :: B = A2 ++ e' :: B2 ∧ A2.length = A'.length ∧ ∀ x ∈ B2, x.2.1 ≠ d := by
          refine ⟨(A ++ (e.1, e.2.1, e.2.2 + 1) :: B).take A'.length, (A ++ (e.1, e.2.1, e.2.2 + 1) :: B).drop (A'.length + 1), ?_, ?_, fun x hx => ?_⟩
          · have hlt : A'.length < (A ++ (e.1, e.2.1, e.2.2 + 1) :: B).length := by rw [hlen, e3]; simp
            have hg : (A ++ (e.1, e.2.1, e.2.2 + 1) :: B)[A'.length]? = some e' := by
              obtain ⟨x, hx⟩ : ∃ x, (A ++ (e.1, e.2.1, e.2.2 + 1) :: B)[A'.length]? = some x := ⟨_, List.getElem?_eq_getElem hlt⟩
              rcases modify_mid (e := e) hx with ⟨hz, _⟩ | ⟨_, hx'⟩
              · exact absurd hz nd'
              · rw [← hF, e3] at hx'
                simp at hx'
                rw [hx, hx']
            obtain ⟨h1, h2⟩ := List.getElem?_eq_some_iff.mp hg
            rw [← h2, List.getElem_cons_drop, List.take_append_drop]
          · rw [List.length_take, hlen, e3]; simp
          · obtain ⟨m, hm⟩ := List.mem_iff_getElem?.mp hx
            rw [List.getElem?_drop] at hm
            rcases modify_mid (e := e) hm with ⟨_, rfl⟩ | ⟨_, hm'⟩
            · exact fun z => hd (by rw [← z]; exact hec)
            · rw [← hF, e3] at hm'
              rw [List.getElem?_append_right (by omega)] at hm'
              have : A'.length + 1 + m - A'.length = m + 1 := by omega
              rw [this] at hm'
              exact e5 x (List.mem_of_getElem? (by simpa using hm'))
        obtain ⟨A2, B2, k1, k2, k3⟩ := key
        exact ⟨ad', lt', A2, e', B2, e1, e2, k1, e4, k3, by rw [k2]; exact old _ _ q1 q2 e6, e7⟩
  · by_cases hd : d = c
    · subst hd
      rw [gR_mid (e := (e.1, e.2.1, e.2.2 + 1)) hec hB, times_snoc, if_pos rfl, sR_snoc, stp2, ← I.model d, hF, gR_mid hec hB]
    · have h1 : e.2.1 ≠ d := fun z => hd (by rw [← z]; exact hec)
      rw [times_snoc, if_neg (fun z => hd z.symm), ← I.model d, hF]
      exact gR_oth h1 h1
  · have := I.k1; simp; omega
  · have := I.k2; rw [hlen]; simp; omega
  · have := I.sum
    rw [hF] at this
    simp at this ⊢
    omega
  · have := I.mono
    rw [hF] at this
    rw [List.pairwise_append] at this ⊢
    rw [List.pairwise_cons] at this ⊢
    refine ⟨this.1, ⟨this.2.1.1, this.2.1.2⟩, fun x hx y hy => ?_⟩
    rcases List.mem_cons.mp hy with rfl | hy
    · exact this.2.2 x hx e List.mem_cons_self
    · exact this.2.2 x hx y (List.mem_cons_of_mem _ hy)
  · refine List.mem_append_left _ ?_
    rcases List.mem_append.mp hx with hx | hx
    · exact I.from_ x (by rw [hF]; exact List.mem_append_left _ hx)
    · rcases List.mem_cons.mp hx with rfl | hx
      · exact I.from_ e (by rw [hF]; exact List.mem_append_right _ List.mem_cons_self)
      · exact I.from_ x (by rw [hF]; exact List.mem_append_right _ (List.mem_cons_of_mem _ hx))
/-- one turn -/
theorem lstep (I : LI n0 a b w pre h F FA kvs) (hl : pre.length ≤ 1000) (hn : n0 ≤ h.length) (hm : ∀ p ∈ pre, p.1 ≤ t) : ∃ h' F' FA' kvs', ifS lcond lnew lold (ls row w a b t c x6) h = .nx (ls row w a b t c x6) h' ∧ LI n0 a b w (pre ++ [(t, c)]) h' F' FA' kvs' ∧ Old n0 h h' := by
  have hnew : ∀ hs : (sR w (times c pre)).2 = none ∨ ∃ l, (sR w (times c pre)).2 = some l ∧ w ≤ t - l, lcond (ls row w a b t c x6) h = .ok (.bl true) h → ∃ h' F' FA' kvs', ifS lcond lnew lold (ls row w a b t c x6) h = .nx (ls row w a b t c x6) h' ∧ LI n0 a b w (pre ++ [(t, c)]) h' F' FA' kvs' ∧ Old n0 h h' := fun hs ec => by
    refine ⟨_, _, _, _, ?_, I.new hl hn hm hs, ?_⟩
    · unfold ifS
      rw [ec]
      simp only [ER.tstS_ok, if_true]
      exact lnew_ok I hl
    · refine (Old.app hn).trans ((Old.set I.a0).trans ((Old.app ?_).trans (Old.set I.b0)))
      simp; omega
  rcases I.last c with ⟨e1, e2, e3⟩ | ⟨ad, lt, A, e, B, e1, e2, e3, e4, e5, e6, e7⟩
  · refine hnew (.inl (by rw [e3]; rfl)) ?_
    have := (in_dc I.dict (.str (ch c)) rfl).1
    rw [e1] at this
    simp [lcond, orD, bin, varD, this]
  · have hi := (in_dc I.dict (.str (ch c)) rfl).1
    rw [e1] at hi
    have g1 : getV (.ref a) (.str (ch c)) h = .ok (.ref ad) h := by rw [get_dc I.dict _ rfl, e1]; rfl
    have g2 : getV (.ref ad) (.int 1) h = .ok (.int lt) h := by rw [get_hl e6]; rfl
    have ec : lcond (ls row w a b t c x6) h = .ok (.bl (decide (w ≤ t - lt))) h := by
      simp [lcond, orD, bin, varD, cD, hi, g1, g2]
    by_cases hw : w ≤ t - lt
    · exact hnew (.inr ⟨lt, e7, hw⟩) (by rw [ec, decide_eq_true hw])
    · obtain ⟨fa, f1, f2, f3⟩ := I.at e3
      refine ⟨_, _, _, _, ?_, I.old e1 e2 e3 e4 e5 e6 e7 hw f1 f2, (Old.set e2).trans (Old.set f3)⟩
      unfold ifS
      rw [ec, decide_eq_false hw]
      simp only [ER.tstS_ok, Bool.false_eq_true, if_false]
      exact lold_ok I e1 e3 e6 f1 f2
end
theorem lately_ok (rs : List (Int × Nat)) (w : Int) (h : AH) (hl : rs.length ≤ 1000) (hmono : rs.Pairwise fun x y => x.1 ≤ y.1) :
    ∃ F h', f_lately [.lst (rs.map enc1), .int w] h = .ok (.tup (F.map enc3)) h' ∧ Old h.length h h' ∧ (∀ c, gR c F = (sR w (times c rs)).1) ∧ (F.map (·.2.2)).sum = rs.length ∧ F.Pairwise (fun x y => x.1 ≤ y.1) ∧ (∀ e ∈ F, (e.1, e.2.1) ∈ rs) ∧ F.length ≤ rs.length := by
  have I0 : LI h.length h.length (h.length + 1) w [] (h ++ [AO.dct []] ++ [AO.lst []]) [] [] [] := by
    refine ⟨Nat.le_refl _, by omega, ?_, ?_, rfl, List.nodup_nil, by simp, by simp, fun c => .inl ⟨rfl, by simp, rfl⟩, fun c => rfl, by simp, by simp, by simp, by simp, by simp⟩
    · refine get_app ?_; simp
    · have := get_new (h := h ++ [AO.dct []]) (o := AO.lst [])
      simpa using this
  have loop := for_inv (t := tupT [(nameT 4), (nameT 5)]) (b := ifS lcond lnew lold) (xs := rs.map enc1) (σ := [some (.lst (rs.map enc1)), some (.int w), some (.ref h.length), some (.ref (h.length + 1)), none, none, none]) (h := h ++ [AO.dct []] ++ [AO.lst []])
    (fun k σ h' => (∃ x4 x5, σ = [some (.lst (rs.map enc1)), some (.int w), some (.ref h.length), some (.ref (h.length + 1)), x4, x5, none]) ∧ Old h.length h h' ∧ ∃ F FA kvs, LI h.length h.length (h.length + 1) w (rs.take k) h' F FA kvs)
    ⟨⟨none, none, rfl⟩, (Old.app (l := [AO.dct []]) (Nat.le_refl _)).trans (Old.app (l := [AO.lst []]) (by simp)), [], [], [], I0⟩ (by
      rintro k x σ h' hx ⟨⟨x4, x5, rfl⟩, ho, F, FA, kvs, I⟩
      rw [List.getElem?_map] at hx
      obtain ⟨p, hp, rfl⟩ := Option.map_eq_some_iff.mp hx
      obtain ⟨t, c⟩ := p
      have hk : k < rs.length := (List.getElem?_eq_some_iff.mp hp).1
      have hm : ∀ p ∈ rs.take k, p.1 ≤ t := fun p hpm => by
        obtain ⟨j, hj⟩ := List.mem_iff_getElem?.mp hpm
        rw [List.getElem?_take] at hj
        split at hj
        · rename_i hjk
          obtain ⟨h1, h2⟩ := List.getElem?_eq_some_iff.mp hj
          obtain ⟨h3, h4⟩ := List.getElem?_eq_some_iff.mp hp
          have := List.pairwise_iff_getElem.mp hmono j k h1 h3 hjk
          rw [h2, h4] at this
          exact this
        · cases hj
      obtain ⟨h2, F', FA', kvs', e, I', o'⟩ := lstep (row := some (.lst (rs.map enc1))) (t := t) (c := c) (x6 := none) I (by rw [List.length_take]; omega) ho.len hm
      refine ⟨ls (some (.lst (rs.map enc1))) w h.length (h.length + 1) t c none, _, h2, rfl, .inl e, ⟨_, _, rfl⟩, ho.trans o', F', FA', kvs', ?_⟩
      have e2 : rs.take (k + 1) = rs.take k ++ [(t, c)] := by
        rw [List.take_succ, hp]; rfl
      rw [e2]
      exact I')
  obtain ⟨σ', h', e, ⟨x4, x5, rfl⟩, ho, F, FA, kvs, I⟩ := loop
  rw [List.length_map, List.take_length] at I
  refine ⟨F, h', ?_, ho, I.model, I.sum, I.mono, I.from_, I.k2⟩
  unfold f_lately body
  rw [m_lately_eq]
  simp only [List.map_cons, List.map_nil, List.length_cons, List.length_nil, List.replicate, List.cons_append, List.nil_append, Nat.reduceAdd, Nat.reduceSub]
  have p1 : parS [2, 3] [(heapL (cD (.dct []))), (heapL (lstD []))] [some (.lst (rs.map enc1)), some (.int w), none, none, none, none, none] h = .nx [some (.lst (rs.map enc1)), some (.int w), some (.ref h.length), some (.ref (h.length + 1)), none, none, none] (h ++ [AO.dct []] ++ [AO.lst []]) := by
    simp [parS, evs, heapL, lstD, cD, setAll]
  rw [seqS_nx p1]
  have p2 : forS (tupT [(nameT 4), (nameT 5)]) (itD (varD 0)) (ifS lcond lnew lold) [some (.lst (rs.map enc1)), some (.int w), some (.ref h.length), some (.ref (h.length + 1)), none, none, none] (h ++ [AO.dct []] ++ [AO.lst []]) = .nx [some (.lst (rs.map enc1)), some (.int w), some (.ref h.length), some (.ref (h.length + 1)), x4, x5, none] h' := by
    simp only [forS, itD, varD, List.getElem?_cons_zero, ER.bindL_ok, iterV, optL_some, LR.toS_ok, e]
  rw [seqS_nx p2]
  have hlen : F.length ≤ LIM := by have := I.k2; unfold LIM; omega
  have cl : compL (nameT 6) (cD (.bl true)) (callD tupleF [(varD 6)]) [some (.lst (rs.map enc1)), some (.int w), some (.ref h.length), some (.ref (h.length + 1)), x4, x5, none] (FA.map AV.ref) h' = .ok (F.map enc3) h' := by
    have hf : (FA.zip F).map (·.1) = FA := List.map_fst_zip (by rw [I.fl]; exact Nat.le_refl _)
    have hs : (FA.zip F).map (·.2) = F := List.map_snd_zip (by rw [I.fl]; exact Nat.le_refl _)
    have e1 : FA.map AV.ref = (FA.zip F).map fun p => AV.ref p.1 := by
      conv => lhs; rw [← hf]
      rw [List.map_map]; rfl
    have e2 : F.map enc3 = (FA.zip F).filterMap fun p => some (enc3 p.2) := by
      conv => lhs; rw [← hs]
      rw [List.map_map, ← List.filterMap_eq_map]; rfl
    rw [e1, e2]
    refine compL_enc (fun p : Nat × (Int × Nat × Int) => AV.ref p.1) _ (FA.zip F) fun p hp => ?_
    obtain ⟨j, hj⟩ := List.mem_iff_getElem?.mp hp
    rw [List.getElem?_zip_eq_some] at hj
    obtain ⟨ad, h1, h2⟩ := I.obj j _ hj.2
    rw [hj.1] at h1
    cases h1
    refine ⟨_, rfl, .inl ⟨_, rfl, ?_, rfl⟩⟩
    simp [callD, evs, varD, tupleF_ref h2]
  have w6 : wipeA [some (.lst (rs.map enc1)), some (.int w), some (.ref h.length), some (.ref (h.length + 1)), x4, x5, none] [6] = [some (.lst (rs.map enc1)), some (.int w), some (.ref h.length), some (.ref (h.length + 1)), x4, x5, none] := rfl
  have hit : iterH h' (.ref (h.length + 1)) = some (FA.map AV.ref) := by
    unfold iterH lv
    simp only [I.lst]
  have cd : compD [6] (nameT 6) (itH (varD 3)) (cD (.bl true)) (callD tupleF [(varD 6)]) [some (.lst (rs.map enc1)), some (.int w), some (.ref h.length), some (.ref (h.length + 1)), x4, x5, none] h' = .ok (.lst (F.map enc3)) h' := by
    simp only [compD, itH, varD, List.getElem?_cons_succ, List.getElem?_cons_zero, ER.bindL_ok, hit, optL_some, LR.bind_ok, w6, cl]
    rw [if_pos (by rw [List.length_map]; exact hlen)]
  simp [retS, callD, evs, cd]
end K72
end

section
namespace K72
open PySem D

abbrev st (x0 x1 x2 x3 x4 x5 x6 x7 x8 x9 x10 x11 x12 x13 x14 x15 x16 : Option AV) : AS := [x0, x1, x2, x3, x4, x5, x6, x7, x8, x9, x10, x11, x12, x13, x14, x15, x16]
def rl (m : Int) : EV := callD f__law_roll [(varD 1), (cD (.int m))]
theorem rl_ok {σ : AS} {h : AH} {d : Nat} {m : Int} (hs : σ[1]? = some (some (.ref d))) (hd : Dice h d) (h1 : 0 < m) (h2 : m < 1073741824) : ∃ r h', rl m σ h = .ok (.int r) h' ∧ 0 ≤ r ∧ r < m ∧ Only1 d h h' ∧ Dice h' d := by
  obtain ⟨r, h', e, q⟩ := roll_ok hd h1 h2
  refine ⟨r, h', ?_, q⟩
  have e' : f__law_roll [.ref d, .int m] h = .ok (.int r) h' := e
  simp [rl, callD, evs, varD, cD, hs, e']
theorem range_get {lo : Int} {n k : Nat} {x : AV} (h : (rangeL lo n)[k]? = some x) : x = .int (lo + (k : Nat)) ∧ k < n := by
  unfold rangeL at h
  rw [List.getElem?_map] at h
  obtain ⟨j, hj, rfl⟩ := Option.map_eq_some_iff.mp h
  obtain ⟨h1, h2⟩ := List.getElem?_eq_some_iff.mp hj
  rw [List.getElem_range] at h2
  subst h2
  exact ⟨rfl, by simpa using h1⟩
theorem range1_small {n : Int} (h0 : 0 ≤ n) (h1 : n < 1000000) : range1F [.int n] = some (rangeL 0 n.toNat) := by
  have hb : B62 n = true := by
    unfold B62
    simp
    omega
  show (if B62 n then some (rangeL 0 n.toNat) else none) = _
  rw [hb]; rfl
theorem abc_at {h : AH} {r : Int} (h0 : 0 ≤ r) (h1 : r < 3) : ∃ c : Nat, (c = 97 ∨ c = 98 ∨ c = 99) ∧ getV (.str ("abc" : Str)) (.int r) h = .ok (.str (ch c)) h := by
  have : r = 0 ∨ r = 1 ∨ r = 2 := by omega
  rcases this with rfl | rfl | rfl
  · exact ⟨97, .inl rfl, by rfl⟩
  · exact ⟨98, .inr (.inl rfl), by rfl⟩
  · exact ⟨99, .inr (.inr rfl), by rfl⟩
def Nm (c : Nat) : Prop := c = 97 ∨ c = 98 ∨ c = 99

def S2 : SV := (forS (nameT 2) (rangeD range1F [(rl 11)]) (seqS (setS 9 (bin addV (varD 9) (rl 4)))
  (appendS 8 (tupD [(varD 9), (bin getV (cD (.str ("abc" : Str))) (rl 3))]))))
structure RowOk (rs : List (Int × Nat)) (t : Int) : Prop where
  le : ∀ p ∈ rs, p.1 ≤ t
  nm : ∀ p ∈ rs, Nm p.2
  mono : rs.Pairwise fun x y => x.1 ≤ y.1
theorem S2_ok {x0 x2 x3 x4 x5 x6 x7 x10 x11 x12 x13 x14 x15 x16 : Option AV} {h : AH} {d : Nat} (hd : Dice h d) :
    ∃ rs t x2' h', S2 (st x0 (some (.ref d)) x2 x3 x4 x5 x6 x7 (some (.lst [])) (some (.int 0)) x10 x11 x12 x13 x14 x15 x16) h = .nx (st x0 (some (.ref d)) x2' x3 x4 x5 x6 x7 (some (.lst (rs.map enc1))) (some (.int t)) x10 x11 x12 x13 x14 x15 x16) h' ∧ RowOk rs t ∧ rs.length ≤ 10 ∧ Only1 d h h' ∧ Dice h' d := by
  obtain ⟨n, h1, e1, n0, n1, o1, d1⟩ := rl_ok (σ := st x0 (some (.ref d)) x2 x3 x4 x5 x6 x7 (some (.lst [])) (some (.int 0)) x10 x11 x12 x13 x14 x15 x16) (m := 11) rfl hd (by decide) (by decide)
  obtain ⟨σ', h', e, ⟨rs, t, x2', rfl, r, hlen, o2, d2⟩⟩ := for_inv (t := nameT 2) (b := (seqS (setS 9 (bin addV (varD 9) (rl 4))) (appendS 8 (tupD [(varD 9), (bin getV (cD (.str ("abc" : Str))) (rl 3))])))) (xs := rangeL 0 n.toNat)
    (σ := st x0 (some (.ref d)) x2 x3 x4 x5 x6 x7 (some (.lst [])) (some (.int 0)) x10 x11 x12 x13 x14 x15 x16) (h := h1)
    (fun k σ h' => ∃ rs t x2, σ = st x0 (some (.ref d)) x2 x3 x4 x5 x6 x7 (some (.lst (rs.map enc1))) (some (.int t)) x10 x11 x12 x13 x14 x15 x16 ∧ RowOk rs t ∧ rs.length = k ∧ Only1 d h1 h' ∧ Dice h' d)
    ⟨[], 0, x2, rfl, ⟨by simp, by simp, by simp⟩, rfl, Only1.refl, d1⟩ (by
      rintro k x σ h2 hx ⟨rs, t, x2', rfl, r, hlen, o2, d2⟩
      obtain ⟨hx1, hk⟩ := range_get hx
      generalize 0 + (k : Int) = z at hx1
      subst hx1
      obtain ⟨a, h3, e3, a0, a1, o3, d3⟩ := rl_ok (σ := st x0 (some (.ref d)) (some (.int z)) x3 x4 x5 x6 x7 (some (.lst (rs.map enc1))) (some (.int t)) x10 x11 x12 x13 x14 x15 x16) (m := 4) rfl d2 (by decide) (by decide)
      obtain ⟨b, h4, e4, b0, b1, o4, d4⟩ := rl_ok (σ := st x0 (some (.ref d)) (some (.int z)) x3 x4 x5 x6 x7 (some (.lst (rs.map enc1))) (some (.int (t + a))) x10 x11 x12 x13 x14 x15 x16) (m := 3) rfl d3 (by decide) (by decide)
      obtain ⟨c, hc, ec⟩ := abc_at (h := h4) b0 b1
      refine ⟨_, st x0 (some (.ref d)) (some (.int z)) x3 x4 x5 x6 x7 (some (.lst ((rs ++ [(t + a, c)]).map enc1))) (some (.int (t + a))) x10 x11 x12 x13 x14 x15 x16, h4, rfl, .inl ?_, rs ++ [(t + a, c)], t + a, _, rfl, ?_, by simp [hlen], o2.trans (o3.trans o4), d4⟩
      · have hl : rs.length < LIM := by rw [hlen]; unfold LIM; omega
        rw [seqS_nx (σ1 := st x0 (some (.ref d)) (some (.int z)) x3 x4 x5 x6 x7 (some (.lst (rs.map enc1))) (some (.int (t + a))) x10 x11 x12 x13 x14 x15 x16) (h1 := h3) (by
          simp only [List.set_cons_succ, List.set_cons_zero] at e3 ⊢
          simp [setS, bin, varD, e3])]
        simp [appendS, ownL, tupD, evs, varD, bin, cD, e4, ec, hl]
      · refine ⟨fun p hp => ?_, fun p hp => ?_, ?_⟩
        · rcases List.mem_append.mp hp with hp | hp
          · have := r.le p hp; omega
          · have : p = (t + a, c) := by simpa using hp
            rw [this]; exact Int.le_refl _
        · rcases List.mem_append.mp hp with hp | hp
          · exact r.nm p hp
          · have : p = (t + a, c) := by simpa using hp
            rw [this]; exact hc
        · refine List.pairwise_append.mpr ⟨r.mono, by simp, fun x hx y hy => ?_⟩
          have hy' : y = (t + a, c) := by simpa using hy
          rw [hy']
          have := r.le x hx
          show x.1 ≤ t + a
          omega)
  refine ⟨rs, t, x2', h', ?_, r, ?_, o1.trans o2, d2⟩
  · unfold S2
    simp only [forS, rangeD, evs, e1, ER.bindL_ok, LR.bindL_ok, range1_small n0 (by omega), optL_some, LR.toS_ok, e]
  · rw [hlen]
    unfold rangeL
    simp
    omega
theorem ints_map : ∀ ns : List Int, D.intsA (ns.map AV.int) = some ns
  | [] => rfl
  | n :: ns => by
    rw [List.map_cons]
    unfold D.intsA
    rw [ints_map ns]
    rfl
theorem sumF_ints (ns : List Int) (h : AH) : sumF [.lst (ns.map AV.int)] h = .ok (.int ns.sum) h := by
  unfold sumF
  simp [rl, D.rl, lv, ints_map]
def S4 : SV := (ifS (bin neV (callD sumF [(compD [15, 5, 16] (tupT [(nameT 15), (nameT 5), (nameT 16)]) (itD (varD 3)) (cD (.bl true)) (varD 16))]) (callD lenF [(varD 8)])) (retS (cD (.bl false))) nxS)
theorem S4_ok {x0 x1 x2 x4 x5 x6 x7 x9 x10 x11 x12 x13 x14 x15 x16 : Option AV} {h : AH} {F : List (Int × Nat × Int)} {rs : List (Int × Nat)} (hs : (F.map (·.2.2)).sum = rs.length) (hl : F.length ≤ 1000) :
    S4 (st x0 x1 x2 (some (.tup (F.map enc3))) x4 x5 x6 x7 (some (.lst (rs.map enc1))) x9 x10 x11 x12 x13 x14 x15 x16) h = .nx (st x0 x1 x2 (some (.tup (F.map enc3))) x4 x5 x6 x7 (some (.lst (rs.map enc1))) x9 x10 x11 x12 x13 x14 x15 x16) h := by
  have cl : compL (tupT [(nameT 15), (nameT 5), (nameT 16)]) (cD (.bl true)) (varD 16) (st x0 x1 x2 (some (.tup (F.map enc3))) x4 none x6 x7 (some (.lst (rs.map enc1))) x9 x10 x11 x12 x13 x14 none none) (F.map enc3) h = .ok ((F.map (·.2.2)).map AV.int) h := by
    have e2 : (F.map (·.2.2)).map AV.int = F.filterMap fun e => some (AV.int e.2.2) := by
      rw [List.map_map, ← List.filterMap_eq_map]; rfl
    rw [e2]
    refine compL_enc enc3 _ F fun e he => ⟨_, rfl, .inl ⟨_, rfl, rfl, rfl⟩⟩
  have cd : compD [15, 5, 16] (tupT [(nameT 15), (nameT 5), (nameT 16)]) (itD (varD 3)) (cD (.bl true)) (varD 16) (st x0 x1 x2 (some (.tup (F.map enc3))) x4 x5 x6 x7 (some (.lst (rs.map enc1))) x9 x10 x11 x12 x13 x14 x15 x16) h = .ok (.lst ((F.map (·.2.2)).map AV.int)) h := by
    have w : wipeA (st x0 x1 x2 (some (.tup (F.map enc3))) x4 x5 x6 x7 (some (.lst (rs.map enc1))) x9 x10 x11 x12 x13 x14 x15 x16) [15, 5, 16] = st x0 x1 x2 (some (.tup (F.map enc3))) x4 none x6 x7 (some (.lst (rs.map enc1))) x9 x10 x11 x12 x13 x14 none none := rfl
    simp only [compD, itD, varD, List.getElem?_cons_succ, List.getElem?_cons_zero, ER.bindL_ok, iterV, optL_some, LR.bind_ok, w, cl]
    rw [if_pos (by simp; unfold LIM; omega)]
  unfold S4 ifS
  have : bin neV (callD sumF [(compD [15, 5, 16] (tupT [(nameT 15), (nameT 5), (nameT 16)]) (itD (varD 3)) (cD (.bl true)) (varD 16))]) (callD lenF [(varD 8)]) (st x0 x1 x2 (some (.tup (F.map enc3))) x4 x5 x6 x7 (some (.lst (rs.map enc1))) x9 x10 x11 x12 x13 x14 x15 x16) h = .ok (.bl false) h := by
    simp [bin, callD, evs, cd, sumF_ints, varD, hs, -List.map_map]
  rw [this]
  rfl
end K72
end

section
namespace K72
open PySem D

theorem atI_last {α : Type} (xs : List α) (x : α) : atI (xs ++ [x]) (-1) = some x := by
  have e : (-1 + ((xs ++ [x]).length : Int)).toNat = xs.length := by
    rw [List.length_append, List.length_singleton]
    omega
  unfold atI ixI
  rw [if_neg (by decide), if_pos (by rw [List.length_append, List.length_singleton]; omega), e, Option.bind_some]
  simp
theorem ch_beq (a b : Nat) : (ch a == ch b) = (a == b) := by
  by_cases h : a = b
  · subst h
    have h2 : (a == a) = true := by simp
    have h1 : (ch a == ch a) = true := by
      have : ∀ x : Str, (x == x) = true := fun x => by first | exact beq_self_eq_true x | (cases x; rfl) | simp
      exact this _
    rw [h1, h2]
  · have h1 : (ch a == ch b) = false := beq_eq_false_iff_ne.mpr fun z => h (ch_inj.mp z)
    have h2 : (a == b) = false := beq_eq_false_iff_ne.mpr h
    rw [h1, h2]
theorem stp_ne {w t : Int} {s : List (Int × Int) × Option Int} (hs : s.2 ≠ none → s.1 ≠ []) : (stp w s t).1 ≠ [] := by
  unfold stp
  cases e : s.2 with
  | none => simp
  | some l0 =>
    have := hs (by rw [e]; simp)
    dsimp only
    split
    · simp
    · cases e1 : s.1 with
      | nil => exact absurd e1 this
      | cons p r => simp
theorem fold_ne {w : Int} : ∀ (us : List Int) (s : List (Int × Int) × Option Int), (s.2 ≠ none → s.1 ≠ []) → ((us.foldl (stp w) s).2 ≠ none → (us.foldl (stp w) s).1 ≠ [])
  | [], _, h => h
  | u :: us, s, h => fold_ne us (stp w s u) fun _ => stp_ne h
/-- the list of groups of one name -/
structure HI (c hh : Nat) (h : AH) (HA : List Nat) (L : List (Int × Int)) : Prop where
  lst : h[hh]? = some (.lst (HA.map AV.ref))
  len : HA.length = L.length
  nd : HA.Nodup
  gt : ∀ x ∈ HA, hh < x
  obj : ∀ (j : Nat) (e : Int × Int), L[j]? = some e → ∃ ad, HA[j]? = some ad ∧ h[ad]? = some (o3 (e.1, c, e.2))
def cond2 : EV := (orD (bin eqV (varD 2) (cD (.int 0))) (bin geV (bin subV (bin getV (varD 11) (varD 2)) (bin getV (varD 11) (bin subV (varD 2) (cD (.int 1))))) (varD 10)))
def app2 : SV := (exprS (happD (varD 12) (heapL (lstD [(bin getV (varD 11) (varD 2)), (varD 5), (cD (.int 0))]))))
def inc2 : SV := (hputS (bin getV (varD 12) (un negV (cD (.int 1)))) (cD (.int 2)) (bin addV (bin getV (bin getV (varD 12) (un negV (cD (.int 1)))) (cD (.int 2))) (cD (.int 1))))
section
variable {x0 x1 x2 x3 x4 x6 x7 x8 x9 x13 x14 x15 x16 : Option AV} {w : Int} {c hh : Nat} {h : AH} {HA : List Nat} {L : List (Int × Int)} {ts : List Int}
abbrev gs (x0 x1 x2 x3 x4 : Option AV) (c : Nat) (x6 x7 x8 x9 : Option AV) (w : Int) (ts : List Int) (hh : Nat) (x13 x14 x15 x16 : Option AV) : AS := st x0 x1 x2 x3 x4 (some (.str (ch c))) x6 x7 x8 x9 (some (.int w)) (some (.lst (ts.map AV.int))) (some (.ref hh)) x13 x14 x15 x16
theorem inc2_ok {HA0 : List Nat} {fa : Nat} {t0 n : Int} (e1 : h[hh]? = some (.lst ((HA0 ++ [fa]).map AV.ref))) (e2 : h[fa]? = some (o3 (t0, c, n))) :
    inc2 (gs x0 x1 x2 x3 x4 c x6 x7 x8 x9 w ts hh x13 x14 x15 x16) h = .nx (gs x0 x1 x2 x3 x4 c x6 x7 x8 x9 w ts hh x13 x14 x15 x16) (h.set fa (o3 (t0, c, n + 1))) := by
  have g1 : getV (.ref hh) (.int (-1)) h = .ok (.ref fa) h := by
    rw [get_hl e1, List.map_append, List.map_cons, List.map_nil, atI_last]; rfl
  have g2 : getV (.ref fa) (.int 2) h = .ok (.int n) h := by rw [get_hl e2]; rfl
  simp [inc2, hputS, bin, un, varD, cD, g1, g2, hput_hl e2 2 2 _ (by rfl), List.set]
theorem HI.inc {HA0 : List Nat} {fa : Nat} {L0 : List (Int × Int)} {t0 n : Int} (I : HI c hh h (HA0 ++ [fa]) (L0 ++ [(t0, n)])) : HI c hh (h.set fa (o3 (t0, c, n + 1))) (HA0 ++ [fa]) (L0 ++ [(t0, n + 1)]) := by
  have hlen : HA0.length = L0.length := by have := I.len; simpa using this
  have hfa : hh < fa := I.gt fa (by simp)
  obtain ⟨ad, a1, a2⟩ := I.obj L0.length (t0, n) (by simp)
  have : ad = fa := by
    rw [← hlen] at a1
    simpa using a1.symm
  subst this
  refine ⟨by rw [get_set_ne (by omega)]; exact I.lst, by simp [hlen], I.nd, I.gt, fun j e he => ?_⟩
  by_cases hj : j < L0.length
  · rw [List.getElem?_append_left hj] at he
    obtain ⟨ad', b1, b2⟩ := I.obj j e (by rw [List.getElem?_append_left hj]; exact he)
    refine ⟨ad', b1, ?_⟩
    rw [get_set_ne (fun z => ?_)]
    · exact b2
    · subst z
      obtain ⟨h1, h2⟩ := List.getElem?_eq_some_iff.mp b1
      obtain ⟨h3, h4⟩ := List.getElem?_eq_some_iff.mp a1
      have := (List.getElem_inj I.nd).mp (h2.trans h4.symm)
      omega
  · have : j = L0.length := by
      have := (List.getElem?_eq_some_iff.mp he).1
      simp at this
      omega
    subst this
    have he' : e = (t0, n + 1) := by simpa using he.symm
    subst he'
    exact ⟨ad, a1, get_set_self a2⟩
theorem app2_ok {k : Nat} {t : Int} (I : HI c hh h HA L) (ht : ts[k]? = some t) (hl : L.length ≤ 1000) :
    app2 (gs x0 x1 (some (.int (k : Nat))) x3 x4 c x6 x7 x8 x9 w ts hh x13 x14 x15 x16) h = .nx (gs x0 x1 (some (.int (k : Nat))) x3 x4 c x6 x7 x8 x9 w ts hh x13 x14 x15 x16) ((h ++ [o3 (t, c, 0)]).set hh (.lst ((HA ++ [h.length]).map AV.ref))) := by
  have g1 : atI (ts.map AV.int) (k : Int) = some (.int t) := by rw [atI_nat, List.getElem?_map, ht]; rfl
  have e1 := isHL_at I.lst
  have e2 : (h ++ [o3 (t, c, 0)])[hh]? = some (.lst (HA.map AV.ref)) := get_app I.lst
  have := happ_at (v := .ref h.length) e2 (by rw [List.length_map, I.len]; unfold LIM; omega)
  simp [app2, exprS, happD, heapL, lstD, evs, bin, varD, cD, g1, e1, this]
theorem HI.app {t : Int} (I : HI c hh h HA L) : HI c hh ((h ++ [o3 (t, c, 0)]).set hh (.lst ((HA ++ [h.length]).map AV.ref))) (HA ++ [h.length]) (L ++ [(t, 0)]) := by
  have hlt : hh < h.length := (List.getElem?_eq_some_iff.mp I.lst).1
  have old : ∀ (x : Nat) (o : AO), x ≠ hh → h[x]? = some o → ((h ++ [o3 (t, c, 0)]).set hh (.lst ((HA ++ [h.length]).map AV.ref)))[x]? = some o := fun x o h1 h2 => by
    rw [get_set_ne (Ne.symm h1)]
    exact get_app h2
  refine ⟨get_set_self (get_app I.lst), by simp [I.len], ?_, fun x hx => ?_, fun j e he => ?_⟩
  · refine List.nodup_append.mpr ⟨I.nd, by simp, fun x hx y hy z => ?_⟩
    have hy' : y = h.length := by simpa using hy
    obtain ⟨j, hj⟩ := List.mem_iff_getElem?.mp hx
    have hjl : j < L.length := by rw [← I.len]; exact (List.getElem?_eq_some_iff.mp hj).1
    obtain ⟨ad, h1, h2⟩ := I.obj j _ (List.getElem?_eq_getElem hjl)
    rw [hj] at h1
    cases h1
    have := (List.getElem?_eq_some_iff.mp h2).1
    omega
  · rcases List.mem_append.mp hx with hx | hx
    · exact I.gt x hx
    · have : x = h.length := by simpa using hx
      omega
  · by_cases hj : j < L.length
    · rw [List.getElem?_append_left hj] at he
      obtain ⟨ad, b1, b2⟩ := I.obj j e he
      have := I.gt ad (List.mem_of_getElem? b1)
      exact ⟨ad, by rw [List.getElem?_append_left (by rw [I.len]; exact hj)]; exact b1, old ad _ (by omega) b2⟩
    · have : j = L.length := by
        have := (List.getElem?_eq_some_iff.mp he).1
        simp at this
        omega
      subst this
      have he' : e = (t, 0) := by simpa using he.symm
      subst he'
      refine ⟨h.length, by rw [← I.len]; simp, ?_⟩
      rw [get_set_ne (by omega)]
      exact get_new
/-- one turn -/
theorem gstep {k : Nat} {t : Int} (I : HI c hh h HA L) (ht : ts[k]? = some t) (hl : L.length ≤ k) (hk : k ≤ 500) (hR : (sR w (ts.take k)).1 = L.reverse) (hlast : (sR w (ts.take k)).2 = if k = 0 then none else ts[k - 1]?) :
    ∃ h' HA' L', seqS (ifS cond2 app2 nxS) inc2 (gs x0 x1 (some (.int (k : Nat))) x3 x4 c x6 x7 x8 x9 w ts hh x13 x14 x15 x16) h = .nx (gs x0 x1 (some (.int (k : Nat))) x3 x4 c x6 x7 x8 x9 w ts hh x13 x14 x15 x16) h' ∧ HI c hh h' HA' L' ∧ L'.length ≤ k + 1 ∧ (sR w (ts.take (k + 1))).1 = L'.reverse ∧ (sR w (ts.take (k + 1))).2 = ts[k]? ∧ Old hh h h' := by
  have e2 : ts.take (k + 1) = ts.take k ++ [t] := by rw [List.take_succ, ht]; rfl
  rw [e2, sR_snoc, ht]
  have hlt : hh < h.length := (List.getElem?_eq_some_iff.mp I.lst).1
  have new : ∀ (hs : stp w (sR w (ts.take k)) t = ((t, 1) :: L.reverse, some t)), cond2 (gs x0 x1 (some (.int (k : Nat))) x3 x4 c x6 x7 x8 x9 w ts hh x13 x14 x15 x16) h = .ok (.bl true) h → ∃ h' HA' L', seqS (ifS cond2 app2 nxS) inc2 (gs x0 x1 (some (.int (k : Nat))) x3 x4 c x6 x7 x8 x9 w ts hh x13 x14 x15 x16) h = .nx (gs x0 x1 (some (.int (k : Nat))) x3 x4 c x6 x7 x8 x9 w ts hh x13 x14 x15 x16) h' ∧ HI c hh h' HA' L' ∧ L'.length ≤ k + 1 ∧ (stp w (sR w (ts.take k)) t).1 = L'.reverse ∧ (stp w (sR w (ts.take k)) t).2 = some t ∧ Old hh h h' := fun hs ec => by
    have I1 := I.app (t := t)
    refine ⟨_, _, L ++ [(t, 1)], ?_, I1.inc, by simp; omega, by rw [hs]; simp, by rw [hs], ?_⟩
    · rw [seqS_nx (σ1 := gs x0 x1 (some (.int (k : Nat))) x3 x4 c x6 x7 x8 x9 w ts hh x13 x14 x15 x16) (h1 := (h ++ [o3 (t, c, 0)]).set hh (.lst ((HA ++ [h.length]).map AV.ref))) (by
        unfold ifS
        rw [ec]
        simp only [ER.tstS_ok, if_true]
        exact app2_ok I ht (by omega))]
      refine inc2_ok I1.lst ?_
      rw [get_set_ne (by omega)]
      exact get_new
    · exact (Old.app (by omega)).trans ((Old.set (Nat.le_refl _)).trans (Old.set (by omega)))
  by_cases hk0 : k = 0
  · subst hk0
    rw [if_pos rfl] at hlast
    refine new ?_ ?_
    · unfold stp
      rw [hlast, hR]
    · simp [cond2, orD, bin, varD, cD]
  · rw [if_neg hk0] at hlast
    obtain ⟨l, hl1⟩ : ∃ l, ts[k - 1]? = some l := by
      have := (List.getElem?_eq_some_iff.mp ht).1
      exact ⟨_, List.getElem?_eq_getElem (by omega)⟩
    rw [hl1] at hlast
    have g1 : atI (ts.map AV.int) (k : Int) = some (.int t) := by rw [atI_nat, List.getElem?_map, ht]; rfl
    have g2 : atI (ts.map AV.int) ((k : Int) - 1) = some (.int l) := by
      have : (k : Int) - 1 = ((k - 1 : Nat) : Int) := by omega
      rw [this, atI_nat, List.getElem?_map, hl1]; rfl
    have ec : cond2 (gs x0 x1 (some (.int (k : Nat))) x3 x4 c x6 x7 x8 x9 w ts hh x13 x14 x15 x16) h = .ok (.bl (decide (w ≤ t - l))) h := by
      have hne : ¬ ((k : Int) = 0) := by omega
      simp [cond2, orD, bin, varD, cD, g1, g2, hne, hk0]
    by_cases hw : w ≤ t - l
    · refine new ?_ (by rw [ec, decide_eq_true hw])
      unfold stp
      rw [hlast, hR]
      simp only [if_pos hw]
    · -- the last group grows
      have hne : L ≠ [] := fun z => by
        subst z
        have hl2 := (fold_ne (w := w) (ts.take k) ([], none) fun z => absurd rfl z)
        have : (sR w (ts.take k)).2 ≠ none := by rw [hlast]; simp
        exact hl2 this hR
      obtain ⟨L0, p, hp⟩ : ∃ L0 p, L = L0 ++ [p] := ⟨_, _, (List.dropLast_concat_getLast hne).symm⟩
      obtain ⟨t0, n⟩ := p
      subst hp
      have hHA : HA ≠ [] := fun z => by
        have := I.len
        rw [z] at this
        simp at this
      obtain ⟨HA0, fa, hq⟩ : ∃ HA0 fa, HA = HA0 ++ [fa] := ⟨_, _, (List.dropLast_concat_getLast hHA).symm⟩
      subst hq
      have hlen : HA0.length = L0.length := by have := I.len; simpa using this
      obtain ⟨ad, a1, a2⟩ := I.obj L0.length (t0, n) (by simp)
      have hfa : ad = fa := by
        rw [← hlen] at a1
        simpa using a1.symm
      subst hfa
      have hgt := I.gt ad (by simp)
      refine ⟨_, _, L0 ++ [(t0, n + 1)], ?_, I.inc, by simp at hl ⊢; omega, ?_, ?_, Old.set (by omega)⟩
      · rw [seqS_nx (σ1 := gs x0 x1 (some (.int (k : Nat))) x3 x4 c x6 x7 x8 x9 w ts hh x13 x14 x15 x16) (h1 := h) (by
          unfold ifS
          rw [ec, decide_eq_false hw]
          simp [nxS])]
        exact inc2_ok I.lst a2
      · unfold stp
        rw [hlast, hR]
        simp [hw]
      · unfold stp
        rw [hlast]
        simp [hw]
end
end K72
end

section
namespace K72
open PySem D

section
variable {x0 x1 x2 x3 x4 x5 x6 x7 x8 x9 x10 x11 x12 x13 x14 x15 x16 : Option AV} {w : Int} {c hh : Nat} {h : AH} {ts : List Int}
theorem rangeD1 {a : EV} {σ : AS} {h h1 : AH} {v : AV} {xs : List AV} {f : List AV → Option (List AV)} (e : a σ h = .ok v h1) (hf : f [v] = some xs) : rangeD f [a] σ h = .ok xs h1 := by
  unfold rangeD evs
  simp only [e, ER.bindL_ok, evs, LR.bindL_ok, hf, optL_some]
theorem forS_of {t : TGT} {it : LV} {b : SV} {σ : AS} {h h1 : AH} {xs : List AV} {r : SR} (e : it σ h = .ok xs h1) (hf : forL t b xs σ h1 = r) : forS t it b σ h = r := by
  unfold forS
  rw [e]
  exact hf
def GI (x0 x1 x3 x4 : Option AV) (c : Nat) (x6 x7 x8 x9 : Option AV) (w : Int) (ts : List Int) (hh : Nat) (x13 x14 x15 x16 : Option AV) (h : AH) (k : Nat) (σ : AS) (h' : AH) : Prop :=
  ∃ x2, σ = gs x0 x1 x2 x3 x4 c x6 x7 x8 x9 w ts hh x13 x14 x15 x16 ∧ Old hh h h' ∧ ∃ HA L, HI c hh h' HA L ∧ L.length ≤ k ∧ (sR w (ts.take k)).1 = L.reverse ∧ (sR w (ts.take k)).2 = if k = 0 then none else ts[k - 1]?
theorem GI_step (hl : ts.length ≤ 500) (k : Nat) (x : AV) (σ : AS) (h2 : AH) (hx : (rangeL 0 ts.length)[k]? = some x) (hi : GI x0 x1 x3 x4 c x6 x7 x8 x9 w ts hh x13 x14 x15 x16 h k σ h2) :
    ∃ σ1 σ2 h3, nameT 2 x σ = some σ1 ∧ ((seqS (ifS cond2 app2 nxS) inc2) σ1 h2 = .nx σ2 h3 ∨ (seqS (ifS cond2 app2 nxS) inc2) σ1 h2 = .ct σ2 h3) ∧ GI x0 x1 x3 x4 c x6 x7 x8 x9 w ts hh x13 x14 x15 x16 h (k + 1) σ2 h3 := by
  obtain ⟨x2', rfl, ho, HA, L, I, k1, k2, k3⟩ := hi
  obtain ⟨hx1, hk⟩ := range_get hx
  rw [Int.zero_add] at hx1
  subst hx1
  have hk5 : k ≤ 500 := Nat.le_trans (Nat.le_of_lt hk) hl
  obtain ⟨h3, HA', L', e, I', l1, l2, l3, o'⟩ := gstep (x0 := x0) (x1 := x1) (x3 := x3) (x4 := x4) (x6 := x6) (x7 := x7) (x8 := x8) (x9 := x9) (x13 := x13) (x14 := x14) (x15 := x15) (x16 := x16) I (List.getElem?_eq_getElem hk) k1 hk5 k2 k3
  refine ⟨_, _, h3, rfl, .inl e, some (.int (k : Nat)), rfl, ho.trans o', HA', L', I', l1, l2, ?_⟩
  rw [l3, if_neg (Nat.succ_ne_zero k)]
  rfl
theorem gloop (hn : h[hh]? = some (.lst [])) (hl : ts.length ≤ 500) :
    ∃ x2' h' HA L, forS (nameT 2) (rangeD range1F [(callD lenF [(varD 11)])]) (seqS (ifS cond2 app2 nxS) inc2) (gs x0 x1 x2 x3 x4 c x6 x7 x8 x9 w ts hh x13 x14 x15 x16) h = .nx (gs x0 x1 x2' x3 x4 c x6 x7 x8 x9 w ts hh x13 x14 x15 x16) h' ∧ HI c hh h' HA L ∧ (sR w ts).1 = L.reverse ∧ L.length ≤ 500 ∧ Old hh h h' := by
  have h0 : GI x0 x1 x3 x4 c x6 x7 x8 x9 w ts hh x13 x14 x15 x16 h 0 (gs x0 x1 x2 x3 x4 c x6 x7 x8 x9 w ts hh x13 x14 x15 x16) h := ⟨x2, rfl, Old.refl, [], [], ⟨by simpa using hn, rfl, List.nodup_nil, by simp, by simp⟩, Nat.le_refl _, rfl, rfl⟩
  obtain ⟨σ', h', e, hi⟩ := for_inv (GI x0 x1 x3 x4 c x6 x7 x8 x9 w ts hh x13 x14 x15 x16 h) h0 (GI_step hl)
  obtain ⟨x2', rfl, ho, HA, L, I, k1, k2, k3⟩ := hi
  have hr : (rangeL 0 ts.length).length = ts.length := by simp [rangeL]
  rw [hr] at k1 k2
  rw [List.take_length] at k2
  refine ⟨x2', h', HA, L, ?_, I, k2, Nat.le_trans k1 hl, ho⟩
  have hrg : range1F [.int (ts.length : Nat)] = some (rangeL 0 ts.length) := by
    have h1 : ((ts.length : Nat) : Int) < 1000000 := by omega
    have := range1_small (n := (ts.length : Nat)) (by omega) h1
    rw [this, Int.toNat_natCast]
  have e1 : callD lenF [(varD 11)] (gs x0 x1 x2 x3 x4 c x6 x7 x8 x9 w ts hh x13 x14 x15 x16) h = .ok (.int (ts.length : Nat)) h := by
    have : callD lenF [(varD 11)] (gs x0 x1 x2 x3 x4 c x6 x7 x8 x9 w ts hh x13 x14 x15 x16) h = lenF [.lst (ts.map AV.int)] h := rfl
    rw [this, lenF_lst, List.length_map]
  have e2 : rangeD range1F [(callD lenF [(varD 11)])] (gs x0 x1 x2 x3 x4 c x6 x7 x8 x9 w ts hh x13 x14 x15 x16) h = .ok (rangeL 0 ts.length) h := rangeD1 e1 hrg
  exact forS_of e2 e
def P1 : SV := (parS [11, 12] [(compD [15, 13] (tupT [(nameT 15), (nameT 13)]) (itD (varD 8)) (bin eqV (varD 13) (varD 5)) (varD 15)), (heapL (lstD []))])
def P3 : SV := (setS 4 (bin addV (varD 4) (compD [13] (nameT 13) (itH (varD 12)) (cD (.bl true)) (callD tupleF [(varD 13)]))))
def B6 : SV := (seqS P1 (seqS (forS (nameT 2) (rangeD range1F [(callD lenF [(varD 11)])]) (seqS (ifS cond2 app2 nxS) inc2)) P3))
theorem P1_ok {rs : List (Int × Nat)} (hl : rs.length ≤ 500) : P1 (st x0 x1 x2 x3 x4 (some (.str (ch c))) x6 x7 (some (.lst (rs.map enc1))) x9 (some (.int w)) x11 x12 x13 x14 x15 x16) h =
    .nx (gs x0 x1 x2 x3 x4 c x6 x7 (some (.lst (rs.map enc1))) x9 w (times c rs) h.length x13 x14 x15 x16) (h ++ [.lst []]) := by
  have cl : compL (tupT [(nameT 15), (nameT 13)]) (bin eqV (varD 13) (varD 5)) (varD 15) (st x0 x1 x2 x3 x4 (some (.str (ch c))) x6 x7 (some (.lst (rs.map enc1))) x9 (some (.int w)) x11 x12 none x14 none x16) (rs.map enc1) h = .ok ((times c rs).map AV.int) h := by
    have e2 : (times c rs).map AV.int = rs.filterMap fun p => if (p.2 == c) = true then some (AV.int p.1) else none := by
      unfold times
      induction rs with
      | nil => rfl
      | cons p r ih =>
        have ih := ih (by simp at hl; omega)
        rw [List.filter_cons, List.filterMap_cons]
        by_cases hp : (p.2 == c) = true
        · rw [if_pos hp, if_pos hp, List.map_cons, List.map_cons, ih]
        · rw [if_neg hp, if_neg hp]
          exact ih
    rw [e2]
    refine compL_enc enc1 _ rs fun p hp => ⟨_, rfl, ?_⟩
    have ec : bin eqV (varD 13) (varD 5) (st x0 x1 x2 x3 x4 (some (.str (ch c))) x6 x7 (some (.lst (rs.map enc1))) x9 (some (.int w)) x11 x12 (some (.str (ch p.2))) x14 (some (.int p.1)) x16) h = .ok (.bl (p.2 == c)) h := by
      simp [bin, varD, ch_beq]
    by_cases hpc : (p.2 == c) = true
    · refine .inl ⟨.int p.1, ?_, rfl, by rw [if_pos hpc]⟩
      rw [← hpc]; exact ec
    · refine .inr ⟨?_, by rw [if_neg hpc]⟩
      have : (p.2 == c) = false := by simpa using hpc
      rw [← this]; exact ec
  have w1 : wipeA (st x0 x1 x2 x3 x4 (some (.str (ch c))) x6 x7 (some (.lst (rs.map enc1))) x9 (some (.int w)) x11 x12 x13 x14 x15 x16) [15, 13] = st x0 x1 x2 x3 x4 (some (.str (ch c))) x6 x7 (some (.lst (rs.map enc1))) x9 (some (.int w)) x11 x12 none x14 none x16 := rfl
  have cd : compD [15, 13] (tupT [(nameT 15), (nameT 13)]) (itD (varD 8)) (bin eqV (varD 13) (varD 5)) (varD 15) (st x0 x1 x2 x3 x4 (some (.str (ch c))) x6 x7 (some (.lst (rs.map enc1))) x9 (some (.int w)) x11 x12 x13 x14 x15 x16) h = .ok (.lst ((times c rs).map AV.int)) h := by
    simp only [compD, itD, varD, List.getElem?_cons_succ, List.getElem?_cons_zero, ER.bindL_ok, iterV, optL_some, LR.bind_ok, w1, cl]
    have : (times c rs).length ≤ rs.length := by
      unfold times
      rw [List.length_map]
      exact List.length_filter_le _ _
    rw [if_pos (by rw [List.length_map]; unfold LIM; omega)]
  simp [P1, parS, evs, cd, heapL, lstD, setAll]
/-- the entries of one name -/
def onl (c : Nat) (F : List (Int × Nat × Int)) : List (Int × Nat × Int) := F.filter fun e => e.2.1 == c
theorem onl_eq {F : List (Int × Nat × Int)} {L : List (Int × Int)} (h : gR c F = L.reverse) : L.map (fun e => (e.1, c, e.2)) = onl c F := by
  have e1 : L = (onl c F).map fun e => (e.1, e.2.2) := by
    have := congrArg List.reverse h
    unfold gR at this
    rw [List.reverse_reverse, List.reverse_reverse] at this
    exact this.symm
  rw [e1, List.map_map]
  conv => rhs; rw [← List.map_id (onl c F)]
  apply List.map_congr_left
  intro e he
  have := (List.mem_filter.mp he).2
  have hc : e.2.1 = c := by simpa using this
  obtain ⟨a, b, d⟩ := e
  simp only at hc
  subst hc
  rfl
theorem P3_ok {HA : List Nat} {L : List (Int × Int)} {G : List (Int × Nat × Int)} (I : HI c hh h HA L) (hl : L.length ≤ 500) (hG : G.length ≤ 2000) :
    P3 (gs x0 x1 x2 x3 (some (.lst (G.map enc3))) c x6 x7 x8 x9 w ts hh x13 x14 x15 x16) h = .nx (gs x0 x1 x2 x3 (some (.lst ((G ++ L.map fun e => (e.1, c, e.2)).map enc3))) c x6 x7 x8 x9 w ts hh x13 x14 x15 x16) h := by
  have cl : compL (nameT 13) (cD (.bl true)) (callD tupleF [(varD 13)]) (gs x0 x1 x2 x3 (some (.lst (G.map enc3))) c x6 x7 x8 x9 w ts hh none x14 x15 x16) (HA.map AV.ref) h = .ok ((L.map fun e => (e.1, c, e.2)).map enc3) h := by
    have hf : (HA.zip L).map (·.1) = HA := List.map_fst_zip (by rw [I.len]; exact Nat.le_refl _)
    have hs : (HA.zip L).map (·.2) = L := List.map_snd_zip (by rw [I.len]; exact Nat.le_refl _)
    have e1 : HA.map AV.ref = (HA.zip L).map fun p => AV.ref p.1 := by
      conv => lhs; rw [← hf]
      rw [List.map_map]; rfl
    have e2 : (L.map fun e => (e.1, c, e.2)).map enc3 = (HA.zip L).filterMap fun p => some (enc3 (p.2.1, c, p.2.2)) := by
      conv => lhs; rw [← hs]
      rw [List.map_map, List.map_map, ← List.filterMap_eq_map]; rfl
    rw [e1, e2]
    refine compL_enc (fun p : Nat × (Int × Int) => AV.ref p.1) _ (HA.zip L) fun p hp => ?_
    obtain ⟨j, hj⟩ := List.mem_iff_getElem?.mp hp
    rw [List.getElem?_zip_eq_some] at hj
    obtain ⟨ad, h1, h2⟩ := I.obj j _ hj.2
    rw [hj.1] at h1
    cases h1
    refine ⟨_, rfl, .inl ⟨_, rfl, ?_, rfl⟩⟩
    simp [callD, evs, varD, tupleF_ref h2]
  have w1 : wipeA (gs x0 x1 x2 x3 (some (.lst (G.map enc3))) c x6 x7 x8 x9 w ts hh x13 x14 x15 x16) [13] = gs x0 x1 x2 x3 (some (.lst (G.map enc3))) c x6 x7 x8 x9 w ts hh none x14 x15 x16 := rfl
  have hit : iterH h (.ref hh) = some (HA.map AV.ref) := by
    unfold iterH lv
    simp only [I.lst]
  have cd : compD [13] (nameT 13) (itH (varD 12)) (cD (.bl true)) (callD tupleF [(varD 13)]) (gs x0 x1 x2 x3 (some (.lst (G.map enc3))) c x6 x7 x8 x9 w ts hh x13 x14 x15 x16) h = .ok (.lst ((L.map fun e => (e.1, c, e.2)).map enc3)) h := by
    simp only [compD, itH, varD, List.getElem?_cons_succ, List.getElem?_cons_zero, ER.bindL_ok, hit, optL_some, LR.bind_ok, w1, cl]
    rw [if_pos (by rw [List.length_map, List.length_map]; unfold LIM; omega)]
  have hlim : G.length + L.length ≤ LIM := by unfold LIM; omega
  simp only [P3, setS, bin, varD, List.getElem?_cons_succ, List.getElem?_cons_zero, ER.bind_ok, cd, addV_lst, List.length_map, hlim, if_true, ER.toS_ok, ← List.map_append]
  rfl
theorem B6_ok {rs : List (Int × Nat)} {F G : List (Int × Nat × Int)} (hl : rs.length ≤ 400) (hG : G.length ≤ 2000) (hF : gR c F = (sR w (times c rs)).1) :
    ∃ x2' x11' x12' h', B6 (st x0 x1 x2 x3 (some (.lst (G.map enc3))) (some (.str (ch c))) x6 x7 (some (.lst (rs.map enc1))) x9 (some (.int w)) x11 x12 x13 x14 x15 x16) h =
      .nx (st x0 x1 x2' x3 (some (.lst ((G ++ onl c F).map enc3))) (some (.str (ch c))) x6 x7 (some (.lst (rs.map enc1))) x9 (some (.int w)) x11' x12' x13 x14 x15 x16) h' ∧ Old h.length h h' := by
  have ht : (times c rs).length ≤ rs.length := by
    unfold times
    rw [List.length_map]
    exact List.length_filter_le _ _
  obtain ⟨x2', h', HA, L, e, I, k2, k3, ho⟩ := gloop (x0 := x0) (x1 := x1) (x2 := x2) (x3 := x3) (x4 := some (.lst (G.map enc3))) (x6 := x6) (x7 := x7) (x8 := some (.lst (rs.map enc1))) (x9 := x9) (x13 := x13) (x14 := x14) (x15 := x15) (x16 := x16) (c := c) (w := w) (ts := times c rs) (h := h ++ [AO.lst []]) (hh := h.length) get_new (by omega)
  refine ⟨x2', some (.lst ((times c rs).map AV.int)), some (.ref h.length), h', ?_, (Old.app (l := [AO.lst []]) (Nat.le_refl _)).trans ho⟩
  unfold B6
  rw [seqS_nx (P1_ok (by omega)), seqS_nx e, P3_ok I k3 hG, onl_eq (hF.trans k2)]
def S6 : SV := (forS (nameT 5) (itD (cD (.str ("abc" : Str)))) B6)
def G3 (F : List (Int × Nat × Int)) : List (Int × Nat × Int) := onl 97 F ++ (onl 98 F ++ onl 99 F)
theorem onl_len {F : List (Int × Nat × Int)} : (onl c F).length ≤ F.length := List.length_filter_le _ _
theorem S6_ok {rs : List (Int × Nat)} {F : List (Int × Nat × Int)} (hl : rs.length ≤ 400) (hFl : F.length ≤ 400) (hF : ∀ c, gR c F = (sR w (times c rs)).1) :
    ∃ x2' x5' x11' x12' h', S6 (st x0 x1 x2 x3 (some (.lst [])) x5 x6 x7 (some (.lst (rs.map enc1))) x9 (some (.int w)) x11 x12 x13 x14 x15 x16) h =
      .nx (st x0 x1 x2' x3 (some (.lst ((G3 F).map enc3))) x5' x6 x7 (some (.lst (rs.map enc1))) x9 (some (.int w)) x11' x12' x13 x14 x15 x16) h' ∧ Old h.length h h' := by
  obtain ⟨a1, a2, a3, h1, e1, o1⟩ := B6_ok (x0 := x0) (x1 := x1) (x2 := x2) (x3 := x3) (x6 := x6) (x7 := x7) (x9 := x9) (x11 := x11) (x12 := x12) (x13 := x13) (x14 := x14) (x15 := x15) (x16 := x16) (h := h) (G := []) hl (by simp) (hF 97)
  obtain ⟨b1, b2, b3, h2, e2, o2⟩ := B6_ok (x0 := x0) (x1 := x1) (x2 := a1) (x3 := x3) (x6 := x6) (x7 := x7) (x9 := x9) (x11 := a2) (x12 := a3) (x13 := x13) (x14 := x14) (x15 := x15) (x16 := x16) (h := h1) (G := [] ++ onl 97 F) hl (by have := onl_len (c := 97) (F := F); simp; omega) (hF 98)
  obtain ⟨c1, c2, c3, h3, e3, o3'⟩ := B6_ok (x0 := x0) (x1 := x1) (x2 := b1) (x3 := x3) (x6 := x6) (x7 := x7) (x9 := x9) (x11 := b2) (x12 := b3) (x13 := x13) (x14 := x14) (x15 := x15) (x16 := x16) (h := h2) (G := [] ++ onl 97 F ++ onl 98 F) hl (by have := onl_len (c := 97) (F := F); have := onl_len (c := 98) (F := F); simp; omega) (hF 99)
  refine ⟨c1, some (.str (ch 99)), c2, c3, h3, ?_, ?_⟩
  · have hit : iterV (.str ("abc" : Str)) = some [.str (ch 97), .str (ch 98), .str (ch 99)] := by rfl
    have hg : [] ++ onl 97 F ++ onl 98 F ++ onl 99 F = G3 F := by unfold G3; simp
    rw [hg] at e3
    simp only [List.map_nil] at e1
    simp only [S6, forS, itD, cD, ER.bindL_ok, hit, optL_some, LR.toS_ok, forL, nameT, List.set_cons_succ, List.set_cons_zero, e1, e2, e3]
  · exact ⟨Nat.le_trans o1.len (Nat.le_trans o2.len o3'.len), fun j hj => by
      rw [o3'.oth j (by have := o1.len; have := o2.len; omega), o2.oth j (by have := o1.len; omega), o1.oth j hj]⟩
end
end K72
end

section
namespace K72
open PySem D

abbrev Rows := List (List (Int × Str))
def tm (RW : Rows) (k j : Nat) : Option Int := (RW[k]?).bind fun row => (row[j]?).map (·.1)
def L3 (a b : Int × Nat × Nat) : Prop := a.1 < b.1 ∨ (a.1 = b.1 ∧ (a.2.1 < b.2.1 ∨ (a.2.1 = b.2.1 ∧ a.2.2 < b.2.2)))
def SortedRows (RW : Rows) : Prop := ∀ row ∈ RW, row.Pairwise fun x y => x.1 ≤ y.1
structure MI (RW : Rows) (M : List (Int × Nat × Nat)) (ps : List Nat) : Prop where
  len : ps.length = RW.length
  mem : ∀ t k j, (t, k, j) ∈ M ↔ (tm RW k j = some t ∧ ∃ p, ps[k]? = some p ∧ j < p)
  pw : M.Pairwise L3
  rest : ∀ m ∈ M, ∀ k j t p, tm RW k j = some t → ps[k]? = some p → p ≤ j → L3 m (t, k, j)
theorem tm_mono {RW : Rows} (hs : SortedRows RW) {k j j' : Nat} {t t' : Int} (h : tm RW k j = some t) (h' : tm RW k j' = some t') (hj : j ≤ j') : t ≤ t' := by
  unfold tm at h h'
  cases hr : RW[k]? with
  | none => rw [hr] at h; cases h
  | some row =>
    rw [hr, Option.bind_some] at h h'
    obtain ⟨p, h1, rfl⟩ := Option.map_eq_some_iff.mp h
    obtain ⟨p', h2, rfl⟩ := Option.map_eq_some_iff.mp h'
    by_cases e : j = j'
    · subst e
      rw [h1] at h2
      cases h2
      exact Int.le_refl _
    · obtain ⟨a1, a2⟩ := List.getElem?_eq_some_iff.mp h1
      obtain ⟨b1, b2⟩ := List.getElem?_eq_some_iff.mp h2
      have := List.pairwise_iff_getElem.mp (hs row (List.mem_of_getElem? hr)) j j' a1 b1 (by omega)
      rw [a2, b2] at this
      exact this
theorem tm_down {RW : Rows} {k j j' : Nat} {t : Int} (h : tm RW k j = some t) (hj : j' ≤ j) : ∃ t', tm RW k j' = some t' := by
  unfold tm at h ⊢
  cases hr : RW[k]? with
  | none => rw [hr] at h; cases h
  | some row =>
    rw [hr, Option.bind_some] at h
    obtain ⟨p, h1, rfl⟩ := Option.map_eq_some_iff.mp h
    have h2 := (List.getElem?_eq_some_iff.mp h1).1
    have h3 : j' < row.length := by omega
    exact ⟨row[j'].1, by rw [Option.bind_some, List.getElem?_eq_getElem h3]; rfl⟩
/-- i is the row to go on with -/
structure Best (RW : Rows) (ps : List Nat) (n : Nat) (i : Nat) (t : Int) (p : Nat) : Prop where
  lt : i < n
  pl : ps[i]? = some p
  hd : tm RW i p = some t
  min : ∀ k q u, k < n → ps[k]? = some q → tm RW k q = some u → t ≤ u ∧ (k < i → t < u)
theorem MI.step {RW : Rows} {M : List (Int × Nat × Nat)} {ps : List Nat} {i p : Nat} {t : Int} (hs : SortedRows RW) (I : MI RW M ps) (B : Best RW ps RW.length i t p) : MI RW (M ++ [(t, i, p)]) (ps.set i (p + 1)) := by
  have hi : i < ps.length := (List.getElem?_eq_some_iff.mp B.pl).1
  refine ⟨by rw [List.length_set]; exact I.len, fun u k j => ?_, ?_, fun m hm k j u q hu hq hle => ?_⟩
  · rw [List.mem_append, I.mem]
    by_cases hk : k = i
    · subst hk
      rw [List.getElem?_set_self hi]
      constructor
      · rintro (⟨h1, q, h2, h3⟩ | h)
        · rw [B.pl] at h2
          cases h2
          exact ⟨h1, p + 1, rfl, by omega⟩
        · have : (u, k, j) = (t, k, p) := by simpa using h
          cases this
          exact ⟨B.hd, p + 1, rfl, by omega⟩
      · rintro ⟨h1, q, h2, h3⟩
        cases h2
        by_cases hj : j = p
        · subst hj
          rw [B.hd] at h1
          cases h1
          exact .inr (by simp)
        · exact .inl ⟨h1, p, B.pl, by omega⟩
    · rw [List.getElem?_set_ne (fun z => hk z.symm)]
      constructor
      · rintro (h | h)
        · exact h
        · have : (u, k, j) = (t, i, p) := by simpa using h
          cases this
          exact absurd rfl hk
      · exact .inl
  · refine List.pairwise_append.mpr ⟨I.pw, by simp, fun m hm y hy => ?_⟩
    have hy' : y = (t, i, p) := by simpa using hy
    rw [hy']
    exact I.rest m hm i p t p B.hd B.pl (Nat.le_refl _)
  · rcases List.mem_append.mp hm with hm1 | hm1
    · by_cases hk : k = i
      · rw [hk, List.getElem?_set_self hi] at hq
        cases hq
        exact I.rest m hm1 k j u p hu (by rw [hk]; exact B.pl) (by omega)
      · rw [List.getElem?_set_ne (fun z => hk z.symm)] at hq
        exact I.rest m hm1 k j u q hu hq hle
    · have hm2 : m = (t, i, p) := by simpa using hm1
      rw [hm2]
      by_cases hk : k = i
      · rw [hk, List.getElem?_set_self hi] at hq
        cases hq
        rw [hk] at hu ⊢
        have h5 := tm_mono hs B.hd hu (by omega)
        show t < u ∨ (t = u ∧ (i < i ∨ (i = i ∧ p < j)))
        rcases Int.lt_or_eq_of_le h5 with z | z
        · exact .inl z
        · exact .inr ⟨z, .inr ⟨rfl, by omega⟩⟩
      · rw [List.getElem?_set_ne (fun z => hk z.symm)] at hq
        have hkn : k < RW.length := by rw [← I.len]; exact (List.getElem?_eq_some_iff.mp hq).1
        obtain ⟨u0, h0⟩ := tm_down hu hle
        obtain ⟨m1, m2⟩ := B.min k q u0 hkn hq h0
        have h5 := tm_mono hs h0 hu hle
        show t < u ∨ (t = u ∧ (i < k ∨ (i = k ∧ p < j)))
        by_cases hki : k < i
        · have := m2 hki
          exact .inl (by omega)
        · rcases Int.lt_or_eq_of_le (Int.le_trans m1 h5) with z | z
          · exact .inl z
          · exact .inr ⟨z, .inl (by omega)⟩
def rem : List Nat → Rows → Nat
  | p :: ps, r :: RW => (r.length - p) + rem ps RW
  | _, _ => 0
theorem rem_set : ∀ {ps : List Nat} {RW : Rows} {i p : Nat} {row : List (Int × Str)}, ps[i]? = some p → RW[i]? = some row → p < row.length → rem (ps.set i (p + 1)) RW + 1 = rem ps RW
  | [], _, _, _, _, h, _, _ => by simp at h
  | _ :: _, [], _, _, _, _, h, _ => by simp at h
  | q :: ps, r :: RW, 0, p, row, h1, h2, h3 => by
    simp at h1 h2
    subst h1 h2
    simp only [List.set_cons_zero, rem]
    omega
  | q :: ps, r :: RW, i + 1, p, row, h1, h2, h3 => by
    simp at h1 h2
    have := rem_set h1 h2 h3
    simp only [List.set_cons_succ, rem]
    omega

abbrev encE (p : Int × Str) : AV := .tup [.int p.1, .str p.2]
abbrev encR (row : List (Int × Str)) : AV := .lst (row.map encE)
def IC : EV := (andD (bin ltV (bin getV (varD 2) (varD 4)) (callD lenF [(varD 5)])) (orD (un isNoneV (varD 3)) (bin ltV (bin getV (bin getV (varD 5) (bin getV (varD 2) (varD 4))) (cD (.int 0))) (bin getV (bin getV (bin getV (varD 0) (varD 3)) (bin getV (varD 2) (varD 3))) (cD (.int 0))))))
def IB : SV := (ifS IC (setS 3 (varD 4)) nxS)
def WB : SV := (seqS (setS 3 (cD .non))
  (seqS (forS (tupT [(nameT 4), (nameT 5)]) (enumD (varD 0)) IB)
  (seqS (ifS (un isNoneV (varD 3)) (retS (callD tupleF [(varD 1)])) nxS)
  (seqS (exprS (happD (varD 1) (bin getV (bin getV (varD 0) (varD 3)) (bin getV (varD 2) (varD 3)))))
  (hputAugS iaddV (varD 2) (varD 3) (cD (.int 1)))))))
theorem m_in_turn_eq : m_in_turn = (seqS (parS [1, 2] [(heapL (lstD [])), (heapL (bin lmulV (lstD [(cD (.int 0))]) (callD lenF [(varD 0)])))])
  (whileS 1099511627776 (cD (.bl true)) WB)) := rfl
def bestA : Option Nat → AV
  | none => .non
  | some i => .int (i : Nat)
abbrev is (RW : Rows) (a b : Nat) (x3 x4 x5 : Option AV) : AS := [some (.lst (RW.map encR)), some (.ref a), some (.ref b), x3, x4, x5]
def BestO (RW : Rows) (ps : List Nat) (n : Nat) : Option Nat → Prop
  | none => ∀ k q u, k < n → ps[k]? = some q → tm RW k q ≠ some u
  | some i => ∃ t p, Best RW ps n i t p
section
variable {RW : Rows} {ps : List Nat} {a b : Nat} {h : AH} {x3 x4 x5 : Option AV}
theorem get_row {k : Nat} {row : List (Int × Str)} (hr : RW[k]? = some row) : atI (RW.map encR) (k : Int) = some (encR row) := by
  rw [atI_nat, List.getElem?_map, hr]; rfl
theorem get_ent {j : Nat} {row : List (Int × Str)} {e : Int × Str} (hr : row[j]? = some e) : atI (row.map encE) (j : Int) = some (encE e) := by
  rw [atI_nat, List.getElem?_map, hr]; rfl
theorem get_ps {k p : Nat} (hb : h[b]? = some (.lst (ps.map fun p => AV.int (p : Nat)))) (hp : ps[k]? = some p) : getV (.ref b) (.int (k : Nat)) h = .ok (.int (p : Nat)) h := by
  rw [get_hl hb, atI_nat, List.getElem?_map, hp]; rfl
theorem tm_of {k j : Nat} {t : Int} (h : tm RW k j = some t) : ∃ row e, RW[k]? = some row ∧ row[j]? = some e ∧ e.1 = t := by
  unfold tm at h
  cases hr : RW[k]? with
  | none => rw [hr] at h; cases h
  | some row =>
    rw [hr, Option.bind_some] at h
    obtain ⟨p, h1, rfl⟩ := Option.map_eq_some_iff.mp h
    exact ⟨row, p, rfl, h1, rfl⟩
theorem IB_ok {k p : Nat} {row : List (Int × Str)} {bo : Option Nat} (hb : h[b]? = some (.lst (ps.map fun p => AV.int (p : Nat)))) (hr : RW[k]? = some row) (hp : ps[k]? = some p) (B : BestO RW ps k bo) :
    ∃ bo', IB (is RW a b (some (bestA bo)) (some (.int (k : Nat))) (some (encR row))) h = .nx (is RW a b (some (bestA bo')) (some (.int (k : Nat))) (some (encR row))) h ∧ BestO RW ps (k + 1) bo' := by
  have g1 := get_ps (h := h) hb hp
  by_cases hlt : p < row.length
  · obtain ⟨e, he⟩ : ∃ e, row[p]? = some e := ⟨_, List.getElem?_eq_getElem hlt⟩
    have ht : tm RW k p = some e.1 := by unfold tm; rw [hr, Option.bind_some, he]; rfl
    have g2 := get_ent he
    have take : (∀ k' q u, k' < k → ps[k']? = some q → tm RW k' q = some u → e.1 < u) → BestO RW ps (k + 1) (some k) := fun hmin => by
      refine ⟨e.1, p, by omega, hp, ht, fun k' q u h1 h2 h3 => ?_⟩
      by_cases hk : k' = k
      · subst hk
        rw [hp] at h2; cases h2
        rw [ht] at h3; cases h3
        exact ⟨Int.le_refl _, fun z => absurd z (Nat.lt_irrefl _)⟩
      · have := hmin k' q u (by omega) h2 h3
        exact ⟨Int.le_of_lt this, fun _ => this⟩
    have hlt' : (p : Int) < (row.length : Nat) := by omega
    cases bo with
    | none =>
      refine ⟨some k, ?_, take fun k' q u h1 h2 h3 => absurd h3 (B k' q u h1 h2)⟩
      simp [IB, IC, ifS, andD, orD, bin, un, callD, evs, varD, g1, hlt', bestA, setS, hlt]
    | some i =>
      obtain ⟨t, pi, Bi⟩ := B
      obtain ⟨rowi, ei, hri, hei, het⟩ := tm_of Bi.hd
      have k1 := get_ps (h := h) hb Bi.pl
      have k2 := get_row hri
      have k3 := get_ent hei
      by_cases hc : e.1 < t
      · refine ⟨some k, ?_, take fun k' q u h1 h2 h3 => Int.lt_of_lt_of_le hc (Bi.min k' q u h1 h2 h3).1⟩
        have hc' : e.1 < ei.1 := by rw [het]; exact hc
        simp [IB, IC, ifS, andD, orD, bin, un, callD, evs, varD, cD, g1, g2, k1, k2, k3, hlt', bestA, setS, hlt, hc']
      · refine ⟨some i, ?_, t, pi, by have := Bi.lt; omega, Bi.pl, Bi.hd, fun k' q u h1 h2 h3 => ?_⟩
        · have hc' : ¬ e.1 < ei.1 := by rw [het]; exact hc
          simp [IB, IC, ifS, andD, orD, bin, un, callD, evs, varD, cD, g1, g2, k1, k2, k3, hlt', bestA, setS, hlt, hc', nxS]
        · by_cases hk : k' = k
          · subst hk
            rw [hp] at h2; cases h2
            rw [ht] at h3; cases h3
            exact ⟨by omega, fun z => by have := Bi.lt; omega⟩
          · exact Bi.min k' q u (by omega) h2 h3
  · have hlt' : ¬ (p : Int) < (row.length : Nat) := by omega
    have hno : ∀ u, tm RW k p ≠ some u := fun u z => by
      obtain ⟨row', e, h1, h2, _⟩ := tm_of z
      rw [hr] at h1; cases h1
      exact hlt (List.getElem?_eq_some_iff.mp h2).1
    refine ⟨bo, ?_, ?_⟩
    · simp [IB, IC, ifS, andD, bin, callD, evs, varD, g1, hlt', hlt, nxS]
    · cases bo with
      | none =>
        intro k' q u h1 h2
        by_cases hk : k' = k
        · subst hk
          rw [hp] at h2; cases h2
          exact hno u
        · exact B k' q u (by omega) h2
      | some i =>
        obtain ⟨t, pi, Bi⟩ := B
        refine ⟨t, pi, by have := Bi.lt; omega, Bi.pl, Bi.hd, fun k' q u h1 h2 h3 => ?_⟩
        by_cases hk : k' = k
        · subst hk
          rw [hp] at h2; cases h2
          exact absurd h3 (hno u)
        · exact Bi.min k' q u (by omega) h2 h3
end
end K72
end

section
namespace K72
open PySem D

/-- a loop that ends by return -/
theorem while_ret {b : SV} {R : AV → AH → Prop} (I : Nat → AS → AH → Prop) (step : ∀ n σ h, I n σ h → (∃ v h', b σ h = .rt v h' ∧ R v h') ∨ ∃ σ' h' n', n' < n ∧ b σ h = .nx σ' h' ∧ I n' σ' h') : ∀ (f n : Nat) (σ : AS) (h : AH), n < f → I n σ h → ∃ v h', whileS f (cD (.bl true)) b σ h = .rt v h' ∧ R v h'
  | 0, _, _, _, hf, _ => absurd hf (Nat.not_lt_zero _)
  | f + 1, n, σ, h, hf, hi => by
    have e0 : whileS (f + 1) (cD (.bl true)) b σ h = match b σ h with
      | .nx σ2 h2 => whileS f (cD (.bl true)) b σ2 h2
      | .ct σ2 h2 => whileS f (cD (.bl true)) b σ2 h2
      | .bk σ2 h2 => .nx σ2 h2
      | .rt v h2 => .rt v h2
      | .exc c f σ2 h2 => .exc c f σ2 h2
      | .stuck => .stuck := by
      conv => lhs; unfold whileS
      rfl
    rcases step n σ h hi with ⟨v, h', e, r⟩ | ⟨σ', h', n', hn, e, i'⟩
    · exact ⟨v, h', by rw [e0, e], r⟩
    · obtain ⟨v, h2, e2, r⟩ := while_ret I step f n' σ' h' (by omega) i'
      exact ⟨v, h2, by rw [e0, e]; exact e2, r⟩
theorem ixI_nat {n k : Nat} (h : k < n) : ixI n (k : Int) = some k := by
  unfold ixI
  rw [if_pos (by omega), if_pos (by omega)]
  simp
def ent (RW : Rows) (m : Int × Nat × Nat) : AV := match (RW[m.2.1]?).bind fun row => row[m.2.2]? with
  | some e => encE e
  | none => .non
abbrev psV (ps : List Nat) : List AV := ps.map fun p => AV.int (p : Nat)
section
variable {RW : Rows} {ps : List Nat} {a b n0 : Nat} {h : AH} {x3 x4 x5 : Option AV}
theorem inner_ok (hb : h[b]? = some (.lst (psV ps))) (hl : ps.length = RW.length) : ∃ bo x4' x5', forS (tupT [(nameT 4), (nameT 5)]) (enumD (varD 0)) IB (is RW a b (some .non) x4 x5) h = .nx (is RW a b (some (bestA bo)) x4' x5') h ∧ BestO RW ps RW.length bo := by
  obtain ⟨σ', h', e, rfl, bo, x4', x5', rfl, B⟩ := for_inv (t := tupT [(nameT 4), (nameT 5)]) (b := IB) (xs := enumL (RW.map encR)) (σ := is RW a b (some .non) x4 x5) (h := h)
    (fun k σ h' => h' = h ∧ ∃ bo x4 x5, σ = is RW a b (some (bestA bo)) x4 x5 ∧ BestO RW ps k bo)
    ⟨rfl, none, x4, x5, rfl, fun k q u h1 => absurd h1 (Nat.not_lt_zero _)⟩ (by
      rintro k x σ h2 hx ⟨rfl, bo, y4, y5, rfl, B⟩
      unfold enumL at hx
      rw [List.getElem?_map] at hx
      obtain ⟨pr, h1, rfl⟩ := Option.map_eq_some_iff.mp hx
      rw [List.getElem?_zipIdx] at h1
      obtain ⟨y, h3, rfl⟩ := Option.map_eq_some_iff.mp h1
      rw [List.getElem?_map] at h3
      obtain ⟨row, hr, rfl⟩ := Option.map_eq_some_iff.mp h3
      have hk : k < RW.length := (List.getElem?_eq_some_iff.mp hr).1
      obtain ⟨p, hp⟩ : ∃ p, ps[k]? = some p := ⟨_, List.getElem?_eq_getElem (by omega)⟩
      obtain ⟨bo', e, B'⟩ := IB_ok (a := a) hb hr hp B
      refine ⟨_, _, h2, rfl, .inl ?_, rfl, bo', some (.int (k : Nat)), some (encR row), rfl, B'⟩
      rw [← e]
      simp)
  have hlen : (enumL (RW.map encR)).length = RW.length := by simp [enumL]
  rw [hlen] at B
  refine ⟨bo, x4', x5', ?_, B⟩
  have e1 : enumD (varD 0) (is RW a b (some .non) x4 x5) h' = .ok (enumL (RW.map encR)) h' := rfl
  unfold forS
  rw [e1]
  exact e
structure OI (RW : Rows) (a b n0 : Nat) (n : Nat) (σ : AS) (h : AH) : Prop where
  ex : ∃ M ps x3 x4 x5, σ = is RW a b x3 x4 x5 ∧ MI RW M ps ∧ h[a]? = some (.lst (M.map (ent RW))) ∧ h[b]? = some (.lst (psV ps)) ∧ rem ps RW = n ∧ M.length + n ≤ 1000
theorem WB_ok (hs : SortedRows RW) (hab : a ≠ b) (ha : n0 ≤ a) (hb0 : n0 ≤ b) (h0 : AH) (n : Nat) (σ : AS) (h : AH) (hi : OI RW a b n0 n σ h ∧ Old n0 h0 h) :
    (∃ v h', WB σ h = .rt v h' ∧ (∃ M ps, v = .tup (M.map (ent RW)) ∧ MI RW M ps ∧ (∀ k q u, k < RW.length → ps[k]? = some q → tm RW k q ≠ some u)) ∧ Old n0 h0 h') ∨ ∃ σ' h' n', n' < n ∧ WB σ h = .nx σ' h' ∧ OI RW a b n0 n' σ' h' ∧ Old n0 h0 h' := by
  obtain ⟨⟨M, ps, x3, x4, x5, rfl, I, hA, hB, hr, hM⟩, ho⟩ := hi
  obtain ⟨bo, x4', x5', e, B⟩ := inner_ok (a := a) (x4 := x4) (x5 := x5) hB I.len
  have s1 : setS 3 (cD .non) (is RW a b x3 x4 x5) h = .nx (is RW a b (some .non) x4 x5) h := rfl
  unfold WB
  rw [seqS_nx s1, seqS_nx e]
  cases bo with
  | none =>
    refine .inl ⟨.tup (M.map (ent RW)), h, ?_, ⟨M, ps, rfl, I, B⟩, ho⟩
    refine seqS_rt ?_
    simp [ifS, un, varD, bestA, retS, callD, evs, tupleF_ref hA]
  | some i =>
    obtain ⟨t, p, Bi⟩ := B
    obtain ⟨row, e0, hrow, he0, het⟩ := tm_of Bi.hd
    have s2 : ifS (un isNoneV (varD 3)) (retS (callD tupleF [(varD 1)])) nxS (is RW a b (some (bestA (some i))) x4' x5') h = .nx (is RW a b (some (bestA (some i))) x4' x5') h := by
      simp [ifS, un, varD, bestA, nxS]
    have g1 := get_ps (h := h) hB Bi.pl
    have g2 := get_row hrow
    have g3 := get_ent he0
    have hap := happ_at (v := encE e0) hA (by rw [List.length_map]; unfold LIM; omega)
    have s3 : exprS (happD (varD 1) (bin getV (bin getV (varD 0) (varD 3)) (bin getV (varD 2) (varD 3)))) (is RW a b (some (bestA (some i))) x4' x5') h = .nx (is RW a b (some (bestA (some i))) x4' x5') (h.set a (.lst (M.map (ent RW) ++ [encE e0]))) := by
      simp [exprS, happD, bin, varD, bestA, isHL_at hA, g1, g2, g3, hap]
    have hB2 : (h.set a (.lst (M.map (ent RW) ++ [encE e0])))[b]? = some (.lst (psV ps)) := by rw [get_set_ne hab]; exact hB
    have hil : i < ps.length := (List.getElem?_eq_some_iff.mp Bi.pl).1
    have gh : getH (.ref b) (.int (i : Nat)) (h.set a (.lst (M.map (ent RW) ++ [encE e0]))) = some (.int (p : Nat)) := by
      unfold getH D.rl lv
      simp only [hB2, atA, iOf_int, Option.bind_some]
      rw [atI_nat, List.getElem?_map, Bi.pl]; rfl
    have hset : (psV ps).set i (.int ((p : Int) + 1)) = psV (ps.set i (p + 1)) := by
      show List.set (List.map (fun p => AV.int (p : Nat)) ps) i _ = List.map (fun p => AV.int (p : Nat)) (ps.set i (p + 1))
      rw [List.map_set]; rfl
    have s4 : hputAugS iaddV (varD 2) (varD 3) (cD (.int 1)) (is RW a b (some (bestA (some i))) x4' x5') (h.set a (.lst (M.map (ent RW) ++ [encE e0]))) = .nx (is RW a b (some (bestA (some i))) x4' x5') ((h.set a (.lst (M.map (ent RW) ++ [encE e0]))).set b (.lst (psV (ps.set i (p + 1))))) := by
      have hp1 := hput_hl hB2 (i : Int) i (.int ((p : Int) + 1)) (ixI_nat (by rw [List.length_map]; exact hil))
      rw [hset] at hp1
      simp [hputAugS, varD, cD, bestA, gh, hp1]
    rw [seqS_nx s2, seqS_nx s3, s4]
    have hrl : p < row.length := (List.getElem?_eq_some_iff.mp he0).1
    have hrem := rem_set Bi.pl hrow hrl
    refine .inr ⟨_, _, rem (ps.set i (p + 1)) RW, by omega, rfl, ⟨M ++ [(t, i, p)], ps.set i (p + 1), _, _, _, rfl, I.step hs Bi, ?_, ?_, rfl, ?_⟩, ho.trans ((Old.set ha).trans (Old.set hb0))⟩
    · have he : ent RW (t, i, p) = encE e0 := by
        unfold ent
        simp only [hrow, Option.bind_some, he0]
      rw [get_set_ne (Ne.symm hab), List.map_append, List.map_cons, List.map_nil, he]
      exact get_set_self hA
    · exact get_set_self hB2
    · simp; omega
end
theorem lmulV_int {xs : List AV} {k : Int} {h : AH} (hc : k < 1000000 ∧ xs.length * k.toNat ≤ LIM ∧ -1000000 < k) : lmulV (.lst xs) (.int k) h = .ok (.lst (List.replicate k.toNat xs).flatten) h := by
  unfold lmulV
  simp only [if_pos hc]
theorem bin_of {f : AV → AV → AH → ER} {a b : EV} {σ : AS} {h h1 h2 : AH} {x y : AV} (e1 : a σ h = .ok x h1) (e2 : b σ h1 = .ok y h2) : bin f a b σ h = f x y h2 := by
  unfold bin
  rw [e1, ER.bind_ok, e2, ER.bind_ok]
theorem heapL_of {a : EV} {σ : AS} {h h1 : AH} {xs : List AV} (e : a σ h = .ok (.lst xs) h1) : heapL a σ h = .ok (.ref h1.length) (h1 ++ [.lst xs]) := by
  unfold heapL
  rw [e]; rfl
theorem evs_two {a b : EV} {σ : AS} {h h1 h2 : AH} {x y : AV} (e1 : a σ h = .ok x h1) (e2 : b σ h1 = .ok y h2) : evs [a, b] σ h = .ok [x, y] h2 := by
  unfold evs
  rw [e1, ER.bindL_ok]
  unfold evs
  rw [e2, ER.bindL_ok]
  rfl
theorem parS_of {is : List Nat} {ms : List EV} {σ : AS} {h h1 : AH} {vs : List AV} (e : evs ms σ h = .ok vs h1) : parS is ms σ h = .nx (setAll σ is vs) h1 := by
  unfold parS
  rw [e]; rfl
theorem rep_flat {x : AV} : ∀ n : Nat, (List.replicate n [x]).flatten = List.replicate n x
  | 0 => rfl
  | n + 1 => by rw [List.replicate_succ, List.flatten_cons, rep_flat n, List.replicate_succ]; rfl
theorem rem_zero {RW : Rows} : rem (List.replicate RW.length 0) RW = (RW.map List.length).sum := by
  induction RW with
  | nil => rfl
  | cons r RW ih =>
    rw [List.length_cons, List.replicate_succ, List.map_cons, List.sum_cons, ← ih]
    simp [rem]
theorem body_rt {h h' : AH} {v x : AV} (e : m_in_turn [some x, none, none, none, none, none] h = .rt v h') : f_in_turn [x] h = .ok v h' := by
  unfold f_in_turn body
  have : ([x].map some ++ List.replicate (6 - [x].length) none) = [some x, none, none, none, none, none] := rfl
  rw [this, e]
theorem in_turn_ok {RW : Rows} {h : AH} (hs : SortedRows RW) (hl : (RW.map List.length).sum ≤ 500) (hn : RW.length ≤ 500) :
    ∃ M ps h', f_in_turn [.lst (RW.map encR)] h = .ok (.tup (M.map (ent RW))) h' ∧ MI RW M ps ∧ (∀ k q u, k < RW.length → ps[k]? = some q → tm RW k q ≠ some u) ∧ Old h.length h h' := by
  have lm : lmulV (.lst [.int 0]) (.int (RW.length : Nat)) (h ++ [AO.lst []]) = .ok (.lst (psV (List.replicate RW.length 0))) (h ++ [AO.lst []]) := by
    have : (((RW.length : Nat) : Int) < 1000000 ∧ ([AV.int 0] : List AV).length * ((RW.length : Nat) : Int).toNat ≤ LIM ∧ (-1000000 : Int) < ((RW.length : Nat) : Int)) := by
      refine ⟨by omega, ?_, by omega⟩
      simp
      unfold LIM
      omega
    have e0 : psV (List.replicate RW.length 0) = List.replicate RW.length (AV.int 0) := by
      show List.map (fun p => AV.int (p : Nat)) (List.replicate RW.length 0) = _
      rw [List.map_replicate]; rfl
    rw [lmulV_int this, rep_flat, Int.toNat_natCast, e0]
  have p1 : parS [1, 2] [(heapL (lstD [])), (heapL (bin lmulV (lstD [(cD (.int 0))]) (callD lenF [(varD 0)])))] [some (.lst (RW.map encR)), none, none, none, none, none] h = .nx (is RW h.length (h.length + 1) none none none) (h ++ [AO.lst []] ++ [AO.lst (psV (List.replicate RW.length 0))]) := by
    have c0 : callD lenF [(varD 0)] [some (.lst (RW.map encR)), none, none, none, none, none] (h ++ [AO.lst []]) = .ok (.int (RW.length : Nat)) (h ++ [AO.lst []]) := by
      have : callD lenF [(varD 0)] [some (.lst (RW.map encR)), none, none, none, none, none] (h ++ [AO.lst []]) = lenF [.lst (RW.map encR)] (h ++ [AO.lst []]) := rfl
      rw [this, lenF_lst, List.length_map]
    have q1 : heapL (lstD []) [some (.lst (RW.map encR)), none, none, none, none, none] h = .ok (.ref h.length) (h ++ [AO.lst []]) := rfl
    have q2 : bin lmulV (lstD [(cD (.int 0))]) (callD lenF [(varD 0)]) [some (.lst (RW.map encR)), none, none, none, none, none] (h ++ [AO.lst []]) = .ok (.lst (psV (List.replicate RW.length 0))) (h ++ [AO.lst []]) := (bin_of (show lstD [(cD (.int 0))] _ (h ++ [AO.lst []]) = .ok (.lst [.int 0]) _ from rfl) c0).trans lm
    have q3 := heapL_of q2
    have q4 := parS_of (is := [1, 2]) (evs_two q1 q3)
    rw [q4]
    have hl1 : (h ++ [AO.lst []]).length = h.length + 1 := by simp
    rw [hl1]
    rfl
  have I0 : MI RW [] (List.replicate RW.length 0) := by
    refine ⟨by simp, fun t k j => ?_, by simp, by simp⟩
    constructor
    · intro z; cases z
    · rintro ⟨_, p, h1, h2⟩
      have := List.mem_of_getElem? h1
      rw [List.mem_replicate] at this
      omega
  have hO : OI RW h.length (h.length + 1) h.length ((RW.map List.length).sum) (is RW h.length (h.length + 1) none none none) (h ++ [AO.lst []] ++ [AO.lst (psV (List.replicate RW.length 0))]) := by
    refine ⟨[], List.replicate RW.length 0, none, none, none, rfl, I0, get_app (by simp), ?_, rem_zero, by simp; omega⟩
    have := get_new (h := h ++ [AO.lst []]) (o := AO.lst (psV (List.replicate RW.length 0)))
    simpa using this
  have hOld : Old h.length h (h ++ [AO.lst []] ++ [AO.lst (psV (List.replicate RW.length 0))]) := (Old.app (l := [AO.lst []]) (Nat.le_refl _)).trans (Old.app (by simp))
  obtain ⟨v, h', e, ⟨M, ps, rfl, I, hd⟩, ho⟩ := while_ret (R := fun v h' => (∃ M ps, v = .tup (M.map (ent RW)) ∧ MI RW M ps ∧ (∀ k q u, k < RW.length → ps[k]? = some q → tm RW k q ≠ some u)) ∧ Old h.length h h')
    (fun n σ h' => OI RW h.length (h.length + 1) h.length n σ h' ∧ Old h.length h h') (fun n σ h1 hi => WB_ok hs (by omega) (Nat.le_refl _) (by omega) h n σ h1 hi) 1099511627776 _ _ _ (by omega) ⟨hO, hOld⟩
  refine ⟨M, ps, h', ?_, I, hd, ho⟩
  have em : m_in_turn [some (.lst (RW.map encR)), none, none, none, none, none] h = .rt (.tup (M.map (ent RW))) h' := by
    rw [m_in_turn_eq, seqS_nx p1]
    exact e
  exact body_rt em
end K72
end

section
namespace K72
open PySem D

theorem sok_ch (c : Nat) (hc : c < 1000) : sOk (ch c) = true := by
  unfold sOk ch
  simp
  omega
theorem enc3_dl (e : Int × Nat × Int) (h : e.2.1 < 1000) : (enc3 e).dl DEPTH = true := by
  have := sok_ch e.2.1 h
  show AV.dl 50 _ = true
  simp [AV.dl, this]
theorem enc3_co (a b : Int × Nat × Int) : (enc3 a).co (enc3 b) = true := by
  simp [AV.co, AV.coL]
theorem srt3 {F : List (Int × Nat × Int)} (h : ∀ e ∈ F, e.2.1 < 1000) : Srt (F.map enc3) := by
  refine ⟨fun x hx => ?_, fun x hx y hy => ?_⟩
  · obtain ⟨e, he, rfl⟩ := List.mem_map.mp hx
    exact enc3_dl e (h e he)
  · obtain ⟨e, he, rfl⟩ := List.mem_map.mp hx
    obtain ⟨e', he', rfl⟩ := List.mem_map.mp hy
    exact enc3_co e e'
theorem tup3 (F : List (Int × Nat × Int)) : ((F.map enc3).all isTup1 || (F.map enc3).all notTup) = true := by
  have : (F.map enc3).all isTup1 = true := by
    rw [List.all_map, List.all_eq_true]
    intro e _
    rfl
  rw [this]; rfl
theorem sortedF_lst {xs : List AV} {h : AH} (hs : sortOk xs = true) : sortedF [.lst xs] h = .ok (.lst (sortA xs)) h := by
  simp [sortedF, seqOf, D.rl, lv, hs]
theorem sortedF_tup {xs : List AV} {h : AH} (hs : sortOk xs = true) : sortedF [.tup xs] h = .ok (.lst (sortA xs)) h := by
  simp [sortedF, seqOf, hs]
theorem G3_perm {F : List (Int × Nat × Int)} (h : ∀ e ∈ F, Nm e.2.1) : F.Perm (G3 F) := by
  unfold G3
  have p1 : F.Perm (onl 97 F ++ F.filter fun e => !(e.2.1 == 97)) := (List.filter_append_perm (fun e : Int × Nat × Int => e.2.1 == 97) F).symm
  have p2 : (F.filter fun e => !(e.2.1 == 97)).Perm (onl 98 F ++ onl 99 F) := by
    have q := (List.filter_append_perm (fun e : Int × Nat × Int => e.2.1 == 98) (F.filter fun e => !(e.2.1 == 97))).symm
    have e1 : (F.filter fun e => !(e.2.1 == 97)).filter (fun e => e.2.1 == 98) = onl 98 F := by
      unfold onl
      rw [List.filter_filter]
      apply List.filter_congr
      intro e he
      have := h e he
      unfold Nm at this
      rcases this with z | z | z <;> simp [z]
    have e2 : (F.filter fun e => !(e.2.1 == 97)).filter (fun e => !(e.2.1 == 98)) = onl 99 F := by
      unfold onl
      rw [List.filter_filter]
      apply List.filter_congr
      intro e he
      have := h e he
      unfold Nm at this
      rcases this with z | z | z <;> simp [z]
    rw [e1, e2] at q
    exact q
  exact p1.trans (List.Perm.append_left _ p2)
def S7 : SV := (ifS (orD (bin neV (callD sortedF [(varD 3)]) (callD sortedF [(varD 4)])) (bin neV (compD [2] (nameT 2) (rangeD range2F [(cD (.int 1)), (callD lenF [(varD 3)])]) (bin ltV (bin getV (bin getV (varD 3) (varD 2)) (cD (.int 0))) (bin getV (bin getV (varD 3) (bin subV (varD 2) (cD (.int 1)))) (cD (.int 0)))) (varD 2)) (lstD []))) (retS (cD (.bl false))) nxS)
section
variable {x0 x1 x2 x3 x4 x5 x6 x7 x8 x9 x10 x11 x12 x13 x14 x15 x16 : Option AV} {h : AH}
theorem S7_ok {F : List (Int × Nat × Int)} (hn : ∀ e ∈ F, Nm e.2.1) (hm : F.Pairwise fun x y => x.1 ≤ y.1) (hl : F.length ≤ 400) :
    S7 (st x0 x1 x2 (some (.tup (F.map enc3))) (some (.lst ((G3 F).map enc3))) x5 x6 x7 x8 x9 x10 x11 x12 x13 x14 x15 x16) h = .nx (st x0 x1 x2 (some (.tup (F.map enc3))) (some (.lst ((G3 F).map enc3))) x5 x6 x7 x8 x9 x10 x11 x12 x13 x14 x15 x16) h := by
  have small : ∀ e ∈ F, e.2.1 < 1000 := fun e he => by
    have := hn e he
    unfold Nm at this
    omega
  have hp := G3_perm hn
  have s1 := srt3 small
  have hp' : (F.map enc3).Perm ((G3 F).map enc3) := hp.map enc3
  have s2 := s1.perm hp'
  have o1 := s1.ok (tup3 F)
  have o2 := s2.ok (tup3 (G3 F))
  have hsame : sortA (F.map enc3) = sortA ((G3 F).map enc3) := sortA_same s1 hp'
  have dls : (AV.lst (sortA ((G3 F).map enc3))).dl DEPTH = true := by
    refine dl_lst (n := 49) (List.all_eq_true.mpr fun x hx => ?_)
    obtain ⟨e, he, rfl⟩ := List.mem_map.mp ((sortA_perm _).mem_iff.mp hx)
    have := sok_ch e.2.1 (small e (hp.mem_iff.mpr he))
    simp [AV.dl, this]
  have c1 : bin neV (callD sortedF [(varD 3)]) (callD sortedF [(varD 4)]) (st x0 x1 x2 (some (.tup (F.map enc3))) (some (.lst ((G3 F).map enc3))) x5 x6 x7 x8 x9 x10 x11 x12 x13 x14 x15 x16) h = .ok (.bl false) h := by
    have a1 : callD sortedF [(varD 3)] (st x0 x1 x2 (some (.tup (F.map enc3))) (some (.lst ((G3 F).map enc3))) x5 x6 x7 x8 x9 x10 x11 x12 x13 x14 x15 x16) h = .ok (.lst (sortA ((G3 F).map enc3))) h := by
      have : callD sortedF [(varD 3)] (st x0 x1 x2 (some (.tup (F.map enc3))) (some (.lst ((G3 F).map enc3))) x5 x6 x7 x8 x9 x10 x11 x12 x13 x14 x15 x16) h = sortedF [.tup (F.map enc3)] h := rfl
      rw [this, sortedF_tup o1, hsame]
    have a2 : callD sortedF [(varD 4)] (st x0 x1 x2 (some (.tup (F.map enc3))) (some (.lst ((G3 F).map enc3))) x5 x6 x7 x8 x9 x10 x11 x12 x13 x14 x15 x16) h = .ok (.lst (sortA ((G3 F).map enc3))) h := by
      have : callD sortedF [(varD 4)] (st x0 x1 x2 (some (.tup (F.map enc3))) (some (.lst ((G3 F).map enc3))) x5 x6 x7 x8 x9 x10 x11 x12 x13 x14 x15 x16) h = sortedF [.lst ((G3 F).map enc3)] h := rfl
      rw [this, sortedF_lst o2]
    rw [bin_of a1 a2]
    exact neV_refl rfl dls
  have cl : compL (nameT 2) (bin ltV (bin getV (bin getV (varD 3) (varD 2)) (cD (.int 0))) (bin getV (bin getV (varD 3) (bin subV (varD 2) (cD (.int 1)))) (cD (.int 0)))) (varD 2) (st x0 x1 none (some (.tup (F.map enc3))) (some (.lst ((G3 F).map enc3))) x5 x6 x7 x8 x9 x10 x11 x12 x13 x14 x15 x16) (rangeL 1 (F.length - 1)) h = .ok [] h := by
    have : ([] : List AV) = (List.range (F.length - 1)).filterMap fun _ => none := by simp
    rw [this]
    refine compL_enc (fun k : Nat => AV.int (1 + (k : Nat))) _ (List.range (F.length - 1)) fun k hk => ⟨_, rfl, .inr ⟨?_, rfl⟩⟩
    have hk := List.mem_range.mp hk
    have i1 : k + 1 < F.length := by omega
    have i0 : k < F.length := by omega
    have g1 : atI (F.map enc3) (1 + (k : Int)) = some (enc3 F[k + 1]) := by
      have : (1 + (k : Int)) = ((k + 1 : Nat) : Int) := by omega
      rw [this, atI_nat, List.getElem?_map, List.getElem?_eq_getElem i1]; rfl
    have g0 : atI (F.map enc3) (1 + (k : Int) - 1) = some (enc3 F[k]) := by
      have : (1 + (k : Int) - 1) = ((k : Nat) : Int) := by omega
      rw [this, atI_nat, List.getElem?_map, List.getElem?_eq_getElem i0]; rfl
    have hle := List.pairwise_iff_getElem.mp hm k (k + 1) i0 i1 (by omega)
    generalize 1 + (k : Int) = z at g1 g0
    have hno : ¬ F[k + 1].1 < F[k].1 := by omega
    simp [bin, varD, cD, g1, g0, hno]
  have c2 : bin neV (compD [2] (nameT 2) (rangeD range2F [(cD (.int 1)), (callD lenF [(varD 3)])]) (bin ltV (bin getV (bin getV (varD 3) (varD 2)) (cD (.int 0))) (bin getV (bin getV (varD 3) (bin subV (varD 2) (cD (.int 1)))) (cD (.int 0)))) (varD 2)) (lstD []) (st x0 x1 x2 (some (.tup (F.map enc3))) (some (.lst ((G3 F).map enc3))) x5 x6 x7 x8 x9 x10 x11 x12 x13 x14 x15 x16) h = .ok (.bl false) h := by
    have hr : range2F [.int 1, .int ((F.length : Nat) : Int)] = some (rangeL 1 (F.length - 1)) := by
      have b1 : B62 1 = true := by decide
      have b2 : B62 ((F.length : Nat) : Int) = true := by
        unfold B62
        simp
        omega
      have e1 : (((F.length : Nat) : Int) - 1).toNat = F.length - 1 := by omega
      show (if B62 1 && B62 ((F.length : Nat) : Int) then some (rangeL 1 (((F.length : Nat) : Int) - 1).toNat) else none) = _
      rw [b1, b2, e1]; rfl
    have hv : evs [(cD (.int 1)), (callD lenF [(varD 3)])] (st x0 x1 x2 (some (.tup (F.map enc3))) (some (.lst ((G3 F).map enc3))) x5 x6 x7 x8 x9 x10 x11 x12 x13 x14 x15 x16) h = .ok [.int 1, .int ((F.length : Nat) : Int)] h := by
      have a0 : callD lenF [(varD 3)] (st x0 x1 x2 (some (.tup (F.map enc3))) (some (.lst ((G3 F).map enc3))) x5 x6 x7 x8 x9 x10 x11 x12 x13 x14 x15 x16) h = .ok (.int ((F.length : Nat) : Int)) h := by
        have : callD lenF [(varD 3)] (st x0 x1 x2 (some (.tup (F.map enc3))) (some (.lst ((G3 F).map enc3))) x5 x6 x7 x8 x9 x10 x11 x12 x13 x14 x15 x16) h = lenF [.tup (F.map enc3)] h := rfl
        rw [this, lenF_tup, List.length_map]
      unfold evs
      simp only [cD, ER.bindL_ok, evs, a0, LR.bindL_ok]
    have w1 : wipeA (st x0 x1 x2 (some (.tup (F.map enc3))) (some (.lst ((G3 F).map enc3))) x5 x6 x7 x8 x9 x10 x11 x12 x13 x14 x15 x16) [2] = st x0 x1 none (some (.tup (F.map enc3))) (some (.lst ((G3 F).map enc3))) x5 x6 x7 x8 x9 x10 x11 x12 x13 x14 x15 x16 := rfl
    have cd : compD [2] (nameT 2) (rangeD range2F [(cD (.int 1)), (callD lenF [(varD 3)])]) (bin ltV (bin getV (bin getV (varD 3) (varD 2)) (cD (.int 0))) (bin getV (bin getV (varD 3) (bin subV (varD 2) (cD (.int 1)))) (cD (.int 0)))) (varD 2) (st x0 x1 x2 (some (.tup (F.map enc3))) (some (.lst ((G3 F).map enc3))) x5 x6 x7 x8 x9 x10 x11 x12 x13 x14 x15 x16) h = .ok (.lst []) h := by
      unfold compD rangeD
      rw [hv, LR.bindL_ok, hr, optL_some, LR.bind_ok, w1, cl]
      rfl
    rw [bin_of cd (show lstD [] _ h = .ok (.lst []) h from rfl)]
    exact neV_refl rfl (by decide)
  unfold S7 ifS orD
  rw [c1, ER.tst_ok, if_neg Bool.false_ne_true, c2]
  rfl
end
end K72
end

section
namespace K72
open PySem D

def lb (i : Nat) : Str := (toString (i : Int) : String)
theorem lb_all : ((List.range 12).all fun i => decide ((lb i).length ≤ 100) && sOk (lb i)) = true := by decide +kernel
theorem lb_len {i : Nat} (h : i < 12) : (lb i).length ≤ 100 := by
  have := List.all_eq_true.mp lb_all i (List.mem_range.mpr h)
  rw [Bool.and_eq_true, decide_eq_true_eq] at this
  exact this.1
theorem lb_ok {i : Nat} (h : i < 12) : sOk (lb i) = true := by
  have := List.all_eq_true.mp lb_all i (List.mem_range.mpr h)
  rw [Bool.and_eq_true] at this
  exact this.2
theorem strF_ok {i : Int} {h : AH} (hi : i.natAbs < 1000000000000000000) : strF [.int i] h = .ok (.str (toString i)) h := by
  unfold strF
  simp only [if_pos hi]
theorem strF_nat {i : Nat} {h : AH} (hi : i < 12) : strF [.int (i : Nat)] h = .ok (.str (lb i)) h := strF_ok (by omega)
theorem sOk_app {x y : Str} (h1 : sOk x = true) (h2 : sOk y = true) : sOk (x ++ y) = true := by
  unfold sOk at h1 h2 ⊢
  show (x.cps ++ y.cps).all _ = true
  simp only [Array.all_append, h1, h2, Bool.and_self]
theorem callD_of {f : FV} {a : EV} {σ : AS} {h h1 : AH} {x : AV} (e : a σ h = .ok x h1) : callD f [a] σ h = f [x] h1 := by
  unfold callD evs
  rw [e, ER.bindL_ok]
  unfold evs
  rfl
theorem setS_of {i : Nat} {a : EV} {σ : AS} {h h1 : AH} {x : AV} (e : a σ h = .ok x h1) : setS i a σ h = .nx (σ.set i (some x)) h1 := by
  unfold setS
  rw [e]; rfl
theorem appendS_of {i : Nat} {a : EV} {σ : AS} {h h1 : AH} {x : AV} {xs : List AV} (ho : ownL σ i = some xs) (hl : xs.length < LIM) (e : a σ h = .ok x h1) : appendS i a σ h = .nx (σ.set i (some (.lst (xs ++ [x])))) h1 := by
  unfold appendS
  rw [ho]
  simp only [e, ER.toS_ok, if_pos hl]
theorem compD_of {own : List Nat} {t : TGT} {it : LV} {c e : EV} {σ : AS} {h h1 h2 : AH} {xs vs : List AV} (e1 : it σ h = .ok xs h1) (e2 : compL t c e (wipeA σ own) xs h1 = .ok vs h2) (hl : vs.length ≤ LIM) : compD own t it c e σ h = .ok (.lst vs) h2 := by
  unfold compD
  rw [e1, LR.bind_ok]
  simp only [e2, if_pos hl]
theorem addV_str_ok {x y : Str} {h : AH} (hl : x.length + y.length ≤ LIM) : addV (.str x) (.str y) h = .ok (.str (x ++ y)) h := by
  rw [addV_str, if_pos hl]
theorem srt_ints (ns : List Int) : Srt (ns.map AV.int) := by
  refine ⟨fun x hx => ?_, fun x hx y hy => ?_⟩
  · obtain ⟨e, he, rfl⟩ := List.mem_map.mp hx
    rfl
  · obtain ⟨e, he, rfl⟩ := List.mem_map.mp hx
    obtain ⟨e', he', rfl⟩ := List.mem_map.mp hy
    rfl
theorem sorted_ints (ns : List Int) : ∃ ms : List Int, sortA (ns.map AV.int) = ms.map AV.int ∧ ms.length = ns.length ∧ ms.Pairwise (fun a b => a ≤ b) := by
  have hp := sortA_perm (ns.map AV.int)
  have hpw := sortA_pw (srt_ints ns)
  generalize sortA (ns.map AV.int) = zs at hp hpw
  have hall : ∀ z ∈ zs, ∃ i, z = AV.int i := fun z hz => by
    obtain ⟨i, _, rfl⟩ := List.mem_map.mp (hp.mem_iff.mp hz)
    exact ⟨i, rfl⟩
  have hlen := hp.length_eq
  rw [List.length_map] at hlen
  have : ∀ zs : List AV, (∀ z ∈ zs, ∃ i, z = AV.int i) → zs.Pairwise (fun a b => leA a b = true) → ∃ ms : List Int, zs = ms.map AV.int ∧ ms.Pairwise (fun a b => a ≤ b) := by
    intro zs
    induction zs with
    | nil => intro _ _; exact ⟨[], rfl, List.Pairwise.nil⟩
    | cons z zs ih =>
      intro h1 h2
      obtain ⟨i, rfl⟩ := h1 z List.mem_cons_self
      obtain ⟨g1, g2⟩ := List.pairwise_cons.mp h2
      obtain ⟨ms, rfl, hm⟩ := ih (fun x hx => h1 x (List.mem_cons_of_mem _ hx)) g2
      refine ⟨i :: ms, rfl, List.pairwise_cons.mpr ⟨fun j hj => ?_, hm⟩⟩
      have := g1 (.int j) (List.mem_map_of_mem hj)
      unfold leA at this
      simp [AV.lt] at this
      exact this
  obtain ⟨ms, rfl, hm⟩ := this zs hall hpw
  exact ⟨ms, rfl, by simpa using hlen, hm⟩
theorem ints_sortOk (ns : List Int) : sortOk (ns.map AV.int) = true := (srt_ints ns).ok (by
  have : (ns.map AV.int).all notTup = true := by
    rw [List.all_map, List.all_eq_true]
    intro e _; rfl
  rw [this, Bool.or_true])

def B9 : SV := (seqS (setS 11 (callD sortedF [(compD [14] (nameT 14) (rangeD range1F [(rl 5)]) (cD (.bl true)) (rl 5))]))
  (appendS 6 (compD [14] (nameT 14) (rangeD range1F [(callD lenF [(varD 11)])]) (cD (.bl true)) (tupD [(bin getV (varD 11) (varD 14)), (bin addV (callD strF [(varD 2)]) (callD strF [(varD 14)]))]))))
def S9 : SV := (forS (nameT 2) (rangeD range1F [(rl 4)]) B9)
structure RowsOk (RW : Rows) : Prop where
  srt : SortedRows RW
  len : ∀ row ∈ RW, row.length ≤ 4
  lab : ∀ row ∈ RW, ∀ e ∈ row, sOk e.2 = true
section
variable {x0 x1 x2 x3 x4 x5 x6 x7 x8 x9 x10 x11 x12 x13 x14 x15 x16 : Option AV} {h : AH} {d : Nat}
theorem rolls_ok (hd : Dice h d) : ∃ (ns : List Int) (h' : AH), compD [14] (nameT 14) (rangeD range1F [(rl 5)]) (cD (.bl true)) (rl 5) (st x0 (some (.ref d)) x2 x3 x4 x5 x6 x7 x8 x9 x10 x11 x12 x13 x14 x15 x16) h = .ok (.lst (ns.map AV.int)) h' ∧ ns.length ≤ 4 ∧ Only1 d h h' ∧ Dice h' d := by
  obtain ⟨n, h1, e1, n0, n1, o1, d1⟩ := rl_ok (σ := st x0 (some (.ref d)) x2 x3 x4 x5 x6 x7 x8 x9 x10 x11 x12 x13 x14 x15 x16) (m := 5) rfl hd (by decide) (by decide)
  have hr := rangeD1 e1 (range1_small n0 (by omega))
  obtain ⟨vs, h', e, ⟨ns, hv, hl, o2, d2⟩⟩ := compL_inv (t := nameT 14) (c := cD (.bl true)) (e := rl 5) (σ := st x0 (some (.ref d)) x2 x3 x4 x5 x6 x7 x8 x9 x10 x11 x12 x13 none x15 x16)
    (fun k acc h' => ∃ ns : List Int, acc = ns.map AV.int ∧ ns.length = k ∧ Only1 d h1 h' ∧ Dice h' d) (rangeL 0 n.toNat) 0 [] h1 (by
      rintro k x acc h2 hx ⟨ns, rfl, hl, o2, d2⟩
      obtain ⟨r, h3, e3, _, _, o3, d3⟩ := rl_ok (σ := st x0 (some (.ref d)) x2 x3 x4 x5 x6 x7 x8 x9 x10 x11 x12 x13 (some x) x15 x16) (m := 5) rfl d2 (by decide) (by decide)
      exact ⟨_, h2, .int r, h3, rfl, rfl, e3, ns ++ [r], by simp, by simp [hl], o2.trans o3, d3⟩) ⟨[], rfl, rfl, Only1.refl, d1⟩
  have hv' : vs = ns.map AV.int := by simpa using hv
  subst hv'
  have hlen : (rangeL 0 n.toNat).length = n.toNat := by simp [rangeL]
  rw [hlen] at hl
  refine ⟨ns, h', compD_of hr e ?_, by omega, o1.trans o2, d2⟩
  rw [List.length_map]
  unfold LIM
  omega
theorem B9_ok {RW : Rows} {k : Nat} (hd : Dice h d) (hk : k < 4) (hR : RowsOk RW) (hn : RW.length ≤ 10) :
    ∃ row x11' h', B9 (st x0 (some (.ref d)) (some (.int (k : Nat))) x3 x4 x5 (some (.lst (RW.map encR))) x7 x8 x9 x10 x11 x12 x13 x14 x15 x16) h = .nx (st x0 (some (.ref d)) (some (.int (k : Nat))) x3 x4 x5 (some (.lst ((RW ++ [row]).map encR))) x7 x8 x9 x10 x11' x12 x13 x14 x15 x16) h' ∧ RowsOk (RW ++ [row]) ∧ Only1 d h h' ∧ Dice h' d := by
  obtain ⟨ns, h1, e1, n1, o1, d1⟩ := rolls_ok (x0 := x0) (x2 := some (.int (k : Nat))) (x3 := x3) (x4 := x4) (x5 := x5) (x6 := some (.lst (RW.map encR))) (x7 := x7) (x8 := x8) (x9 := x9) (x10 := x10) (x11 := x11) (x12 := x12) (x13 := x13) (x14 := x14) (x15 := x15) (x16 := x16) hd
  obtain ⟨ms, em, ml, mp⟩ := sorted_ints ns
  have e2 := callD_of (f := sortedF) e1
  rw [sortedF_lst (ints_sortOk ns), em] at e2
  have s1 := setS_of (i := 11) e2
  have hm4 : ms.length ≤ 4 := by omega
  -- the row
  have hc0 : callD lenF [(varD 11)] (st x0 (some (.ref d)) (some (.int (k : Nat))) x3 x4 x5 (some (.lst (RW.map encR))) x7 x8 x9 x10 (some (.lst (ms.map AV.int))) x12 x13 x14 x15 x16) h1 = .ok (.int (ms.length : Nat)) h1 := by
    have := callD_of (f := lenF) (a := varD 11) (σ := st x0 (some (.ref d)) (some (.int (k : Nat))) x3 x4 x5 (some (.lst (RW.map encR))) x7 x8 x9 x10 (some (.lst (ms.map AV.int))) x12 x13 x14 x15 x16) (h := h1) (x := .lst (ms.map AV.int)) rfl
    rw [this, lenF_lst, List.length_map]
  have hr := rangeD1 hc0 (range1_small (n := (ms.length : Nat)) (by omega) (by omega))
  rw [Int.toNat_natCast] at hr
  have cl : compL (nameT 14) (cD (.bl true)) (tupD [(bin getV (varD 11) (varD 14)), (bin addV (callD strF [(varD 2)]) (callD strF [(varD 14)]))]) (st x0 (some (.ref d)) (some (.int (k : Nat))) x3 x4 x5 (some (.lst (RW.map encR))) x7 x8 x9 x10 (some (.lst (ms.map AV.int))) x12 x13 none x15 x16) (rangeL 0 ms.length) h1 = .ok ((ms.zipIdx.map fun p => (p.1, lb k ++ lb p.2)).map encE) h1 := by
    have e3 : rangeL 0 ms.length = ms.zipIdx.map fun p => AV.int (p.2 : Nat) := by
      apply List.ext_getElem?
      intro j
      unfold rangeL
      rw [List.getElem?_map, List.getElem?_map, List.getElem?_zipIdx]
      by_cases hj : j < ms.length
      · simp [hj]
      · simp [hj]
    have e4 : (ms.zipIdx.map fun p => (p.1, lb k ++ lb p.2)).map encE = ms.zipIdx.filterMap fun p => some (encE (p.1, lb k ++ lb p.2)) := by
      rw [List.map_map, ← List.filterMap_eq_map]; rfl
    rw [e3, e4]
    refine compL_enc (fun p : Int × Nat => AV.int (p.2 : Nat)) _ ms.zipIdx fun p hp => ⟨_, rfl, .inl ⟨_, rfl, ?_, rfl⟩⟩
    obtain ⟨j, hj⟩ := List.mem_iff_getElem?.mp hp
    rw [List.getElem?_zipIdx] at hj
    obtain ⟨y, hy, rfl⟩ := Option.map_eq_some_iff.mp hj
    have hjl : j < ms.length := (List.getElem?_eq_some_iff.mp hy).1
    have g1 : atI (ms.map AV.int) (((0 + j : Nat) : Int)) = some (.int y) := by
      rw [Nat.zero_add, atI_nat, List.getElem?_map, hy]; rfl
    have q1 : bin getV (varD 11) (varD 14) (st x0 (some (.ref d)) (some (.int (k : Nat))) x3 x4 x5 (some (.lst (RW.map encR))) x7 x8 x9 x10 (some (.lst (ms.map AV.int))) x12 x13 (some (.int ((0 + j : Nat) : Int))) x15 x16) h1 = .ok (.int y) h1 := by
      rw [bin_of (x := .lst (ms.map AV.int)) (y := .int ((0 + j : Nat) : Int)) rfl rfl, getV_lst, g1]; rfl
    have q2 : callD strF [(varD 2)] (st x0 (some (.ref d)) (some (.int (k : Nat))) x3 x4 x5 (some (.lst (RW.map encR))) x7 x8 x9 x10 (some (.lst (ms.map AV.int))) x12 x13 (some (.int ((0 + j : Nat) : Int))) x15 x16) h1 = .ok (.str (lb k)) h1 := by
      rw [callD_of (x := .int (k : Nat)) rfl, strF_nat (by omega)]
    have q3 : callD strF [(varD 14)] (st x0 (some (.ref d)) (some (.int (k : Nat))) x3 x4 x5 (some (.lst (RW.map encR))) x7 x8 x9 x10 (some (.lst (ms.map AV.int))) x12 x13 (some (.int ((0 + j : Nat) : Int))) x15 x16) h1 = .ok (.str (lb (0 + j))) h1 := by
      rw [callD_of (x := .int ((0 + j : Nat) : Int)) rfl, strF_nat (by omega)]
    have q4 := (bin_of (f := addV) q2 q3).trans (addV_str_ok (by
      have a1 := lb_len (i := k) (by omega)
      have a2 := lb_len (i := 0 + j) (by omega)
      unfold LIM
      omega))
    exact congrArg (fun r : LR => r.bind fun vs h1 => ER.ok (.tup vs) h1) (evs_two q1 q4)
  have cd := compD_of (own := [14]) hr cl (by
    rw [List.length_map, List.length_map, List.length_zipIdx]
    unfold LIM
    omega)
  have s2 := appendS_of (i := 6) (xs := RW.map encR) rfl (by rw [List.length_map]; unfold LIM; omega) cd
  refine ⟨ms.zipIdx.map fun p => (p.1, lb k ++ lb p.2), some (.lst (ms.map AV.int)), h1, ?_, ?_, o1, d1⟩
  · unfold B9
    rw [seqS_nx s1]
    refine s2.trans ?_
    rw [List.map_append]
    rfl
  · have hrow : ∀ e ∈ ms.zipIdx.map (fun p => (p.1, lb k ++ lb p.2)), sOk e.2 = true := fun e he => by
      obtain ⟨p, hp, rfl⟩ := List.mem_map.mp he
      obtain ⟨j, hj⟩ := List.mem_iff_getElem?.mp hp
      rw [List.getElem?_zipIdx] at hj
      obtain ⟨y, hy, rfl⟩ := Option.map_eq_some_iff.mp hj
      have hjl : j < ms.length := (List.getElem?_eq_some_iff.mp hy).1
      have a1 := lb_ok (i := k) (by omega)
      have a2 := lb_ok (i := 0 + j) (by omega)
      exact sOk_app a1 a2
    have hpw : (ms.zipIdx.map fun p => (p.1, lb k ++ lb p.2)).Pairwise fun x y => x.1 ≤ y.1 := by
      rw [List.pairwise_iff_getElem] at mp ⊢
      intro i j hi hj hij
      have := mp i j (by simpa using hi) (by simpa using hj) hij
      simpa using this
    refine ⟨fun row hr => ?_, fun row hr => ?_, fun row hr e he => ?_⟩
    · rcases List.mem_append.mp hr with hr | hr
      · exact hR.srt row hr
      · have : row = ms.zipIdx.map fun p => (p.1, lb k ++ lb p.2) := by simpa using hr
        rw [this]; exact hpw
    · rcases List.mem_append.mp hr with hr | hr
      · exact hR.len row hr
      · have : row = ms.zipIdx.map fun p => (p.1, lb k ++ lb p.2) := by simpa using hr
        rw [this, List.length_map, List.length_zipIdx]; exact hm4
    · rcases List.mem_append.mp hr with hr | hr
      · exact hR.lab row hr e he
      · have : row = ms.zipIdx.map fun p => (p.1, lb k ++ lb p.2) := by simpa using hr
        rw [this] at he
        exact hrow e he
theorem S9_ok (hd : Dice h d) : ∃ RW x2' x11' h', S9 (st x0 (some (.ref d)) x2 x3 x4 x5 (some (.lst [])) x7 x8 x9 x10 x11 x12 x13 x14 x15 x16) h = .nx (st x0 (some (.ref d)) x2' x3 x4 x5 (some (.lst (RW.map encR))) x7 x8 x9 x10 x11' x12 x13 x14 x15 x16) h' ∧ RowsOk RW ∧ RW.length ≤ 3 ∧ Only1 d h h' ∧ Dice h' d := by
  obtain ⟨n, h1, e1, n0, n1, o1, d1⟩ := rl_ok (σ := st x0 (some (.ref d)) x2 x3 x4 x5 (some (.lst [])) x7 x8 x9 x10 x11 x12 x13 x14 x15 x16) (m := 4) rfl hd (by decide) (by decide)
  have hr := rangeD1 e1 (range1_small n0 (by omega))
  obtain ⟨σ', h', e, ⟨RW, x2', x11', rfl, hR, hl, o2, d2⟩⟩ := for_inv (t := nameT 2) (b := B9) (xs := rangeL 0 n.toNat) (σ := st x0 (some (.ref d)) x2 x3 x4 x5 (some (.lst [])) x7 x8 x9 x10 x11 x12 x13 x14 x15 x16) (h := h1)
    (fun k σ h' => ∃ (RW : Rows) (x2' x11' : Option AV), σ = st x0 (some (.ref d)) x2' x3 x4 x5 (some (.lst (RW.map encR))) x7 x8 x9 x10 x11' x12 x13 x14 x15 x16 ∧ RowsOk RW ∧ RW.length = k ∧ Only1 d h1 h' ∧ Dice h' d)
    ⟨[], x2, x11, rfl, ⟨(by intro _ z; cases z), (by intro _ z; cases z), (by intro _ z; cases z)⟩, rfl, Only1.refl, d1⟩ (by
      rintro k x σ h2 hx ⟨RW, x2', x11', rfl, hR, hl, o2, d2⟩
      obtain ⟨hx1, hk⟩ := range_get hx
      rw [Int.zero_add] at hx1
      subst hx1
      obtain ⟨row, y11, h3, e3, hR', o3, d3⟩ := B9_ok (x0 := x0) (x3 := x3) (x4 := x4) (x5 := x5) (x7 := x7) (x8 := x8) (x9 := x9) (x10 := x10) (x11 := x11') (x12 := x12) (x13 := x13) (x14 := x14) (x15 := x15) (x16 := x16) (k := k) d2 (by omega) hR (by omega)
      exact ⟨_, _, h3, rfl, .inl e3, RW ++ [row], _, _, rfl, hR', by simp [hl], o2.trans o3, d3⟩)
  have hlen : (rangeL 0 n.toNat).length = n.toNat := by simp [rangeL]
  rw [hlen] at hl
  exact ⟨RW, x2', x11', h', forS_of hr e, hR, by omega, o1.trans o2, d2⟩
end
end K72
end

section
namespace K72
open PySem D

abbrev encM (m : Int × Nat × Nat) : AV := .tup [.int m.1, .int (m.2.1 : Nat), .int (m.2.2 : Nat)]
def mrow (RW : Rows) (k : Nat) : List (Int × Nat × Nat) := match RW[k]? with
  | some row => row.zipIdx.map fun p => (p.1.1, k, p.2)
  | none => []
def mks (RW : Rows) : Nat → List (Int × Nat × Nat)
  | 0 => []
  | k + 1 => mks RW k ++ mrow RW k
theorem mrow_mem {RW : Rows} {k : Nat} {m : Int × Nat × Nat} : m ∈ mrow RW k ↔ m.2.1 = k ∧ tm RW k m.2.2 = some m.1 := by
  obtain ⟨t, k', j⟩ := m
  unfold mrow tm
  cases hr : RW[k]? with
  | none => simp
  | some row =>
    simp only [List.mem_map, Option.bind_some, Option.map_eq_some_iff]
    constructor
    · rintro ⟨⟨p, i⟩, hp, he⟩
      have := List.mem_zipIdx_iff_getElem?.mp hp
      injection he with a1 a2
      injection a2 with a2 a3
      subst a1 a2 a3
      exact ⟨rfl, p, this, rfl⟩
    · rintro ⟨rfl, p, hp, rfl⟩
      exact ⟨(p, j), List.mem_zipIdx_iff_getElem?.mpr hp, rfl⟩
theorem mks_mem {RW : Rows} {m : Int × Nat × Nat} : ∀ {n : Nat}, m ∈ mks RW n ↔ m.2.1 < n ∧ tm RW m.2.1 m.2.2 = some m.1
  | 0 => by simp [mks]
  | n + 1 => by
    unfold mks
    rw [List.mem_append, mks_mem (n := n), mrow_mem]
    constructor
    · rintro (⟨a, b⟩ | ⟨rfl, b⟩)
      · exact ⟨by omega, b⟩
      · exact ⟨by omega, b⟩
    · rintro ⟨a, b⟩
      by_cases h : m.2.1 = n
      · subst h; exact .inr ⟨rfl, b⟩
      · exact .inl ⟨by omega, b⟩
theorem mrow_nodup {RW : Rows} {k : Nat} : (mrow RW k).Nodup := by
  unfold mrow
  cases hr : RW[k]? with
  | none => exact List.nodup_nil
  | some row =>
    show (row.zipIdx.map fun p => (p.1.1, k, p.2)).Pairwise _
    rw [List.pairwise_iff_getElem]
    intro i j hi hj hij
    simp only [List.getElem_map, List.getElem_zipIdx]
    intro he
    injection he with a1 a2
    injection a2 with a2 a3
    omega
theorem mks_nodup {RW : Rows} : ∀ {n : Nat}, (mks RW n).Nodup
  | 0 => List.nodup_nil
  | n + 1 => by
    unfold mks
    rw [List.nodup_append]
    refine ⟨mks_nodup, mrow_nodup, fun a ha b hb he => ?_⟩
    subst he
    have := (mks_mem.mp ha).1
    have := (mrow_mem.mp hb).1
    omega
theorem mrow_len {RW : Rows} (hl : ∀ row ∈ RW, row.length ≤ 4) {k : Nat} : (mrow RW k).length ≤ 4 := by
  unfold mrow
  cases hr : RW[k]? with
  | none => exact Nat.zero_le _
  | some row =>
    show (row.zipIdx.map _).length ≤ 4
    rw [List.length_map, List.length_zipIdx]
    exact hl row (List.mem_of_getElem? hr)
theorem mks_len {RW : Rows} (hl : ∀ row ∈ RW, row.length ≤ 4) : ∀ {n : Nat}, (mks RW n).length ≤ 4 * n
  | 0 => Nat.le_refl _
  | n + 1 => by
    unfold mks
    rw [List.length_append]
    have := mks_len hl (n := n)
    have := mrow_len hl (k := n)
    omega
theorem L3_irr {a : Int × Nat × Nat} : ¬ L3 a a := by
  unfold L3; omega
theorem turns_perm {RW : Rows} {M : List (Int × Nat × Nat)} {ps : List Nat} (I : MI RW M ps) (hex : ∀ k q u, k < RW.length → ps[k]? = some q → tm RW k q ≠ some u) : M.Perm (mks RW RW.length) := by
  have hn : M.Nodup := I.pw.imp fun h he => by subst he; exact L3_irr h
  refine (List.perm_ext_iff_of_nodup hn mks_nodup).mpr fun m => ?_
  obtain ⟨t, k, j⟩ := m
  rw [mks_mem, I.mem]
  constructor
  · rintro ⟨h1, p, h2, h3⟩
    refine ⟨?_, h1⟩
    have := (List.getElem?_eq_some_iff.mp h2).1
    rw [I.len] at this
    exact this
  · rintro ⟨h1, h2⟩
    refine ⟨h2, ?_⟩
    have hk : k < ps.length := by rw [I.len]; exact h1
    refine ⟨ps[k], List.getElem?_eq_getElem hk, ?_⟩
    apply Nat.lt_of_not_le
    intro hle
    obtain ⟨t', ht'⟩ := tm_down h2 hle
    exact hex k ps[k] t' h1 (List.getElem?_eq_getElem hk) ht'
theorem srtM (F : List (Int × Nat × Nat)) : Srt (F.map encM) := by
  refine ⟨fun x hx => ?_, fun x hx y hy => ?_⟩
  · obtain ⟨e, he, rfl⟩ := List.mem_map.mp hx
    show AV.dl 50 _ = true
    simp [AV.dl]
  · obtain ⟨e, he, rfl⟩ := List.mem_map.mp hx
    obtain ⟨e', he', rfl⟩ := List.mem_map.mp hy
    simp [AV.co, AV.coL]
theorem tupM (F : List (Int × Nat × Nat)) : ((F.map encM).all isTup1 || (F.map encM).all notTup) = true := by
  have : (F.map encM).all isTup1 = true := by
    rw [List.all_map, List.all_eq_true]
    intro e _
    rfl
  rw [this]; rfl
theorem L3_le {a b : Int × Nat × Nat} (h : L3 a b) : leA (encM a) (encM b) = true := by
  unfold L3 at h
  unfold leA
  simp only [AV.lt, AV.ltL, AV.eq]
  rcases h with h | ⟨h, h' | ⟨h', h''⟩⟩
  · have h1 : ¬ b.1 = a.1 := by omega
    have h2 : ¬ b.1 < a.1 := by omega
    simp [h1, h2]
  · have h1 : ¬ ((b.2.1 : Nat) : Int) = ((a.2.1 : Nat) : Int) := by omega
    have h2 : ¬ ((b.2.1 : Nat) : Int) < ((a.2.1 : Nat) : Int) := by omega
    have h3 : ¬ b.2.1 = a.2.1 := by omega
    have h4 : ¬ b.2.1 < a.2.1 := by omega
    simp [h.symm, h1, h2, h3, h4]
  · have h1 : ¬ ((b.2.2 : Nat) : Int) = ((a.2.2 : Nat) : Int) := by omega
    have h2 : ¬ ((b.2.2 : Nat) : Int) < ((a.2.2 : Nat) : Int) := by omega
    have h3 : ¬ b.2.2 = a.2.2 := by omega
    have h4 : ¬ b.2.2 < a.2.2 := by omega
    simp [h.symm, h'.symm, h1, h2, h3, h4]
theorem turns_sorted {RW : Rows} {M : List (Int × Nat × Nat)} {ps : List Nat} (I : MI RW M ps) (hex : ∀ k q u, k < RW.length → ps[k]? = some q → tm RW k q ≠ some u) : sortA ((mks RW RW.length).map encM) = M.map encM :=
  sortA_uniq (srtM _) ((turns_perm I hex).symm.map encM) (List.pairwise_map.mpr (I.pw.imp L3_le))
end K72
end

section
namespace K72
open PySem D

def B11 : SV := (setS 7 (bin addV (varD 7) (compD [14] (nameT 14) (rangeD range1F [(callD lenF [(bin getV (varD 6) (varD 2))])]) (cD (.bl true)) (tupD [(bin getV (bin getV (bin getV (varD 6) (varD 2)) (varD 14)) (cD (.int 0))), (varD 2), (varD 14)]))))
def S11 : SV := (forS (nameT 2) (rangeD range1F [(callD lenF [(varD 6)])]) B11)
def S12 : SV := (ifS (bin neV (callD listF [(callD f_in_turn [(varD 6)])]) (compD [15, 2, 14] (tupT [(nameT 15), (nameT 2), (nameT 14)]) (itD (callD sortedF [(varD 7)])) (cD (.bl true)) (bin getV (bin getV (varD 6) (varD 2)) (varD 14)))) (retS (cD (.bl false))) nxS)
theorem evs_three {a b c : EV} {σ : AS} {h h1 h2 h3 : AH} {x y z : AV} (e1 : a σ h = .ok x h1) (e2 : b σ h1 = .ok y h2) (e3 : c σ h2 = .ok z h3) : evs [a, b, c] σ h = .ok [x, y, z] h3 := by
  unfold evs
  rw [e1, ER.bindL_ok, evs_two e2 e3]
  rfl
theorem tupD_of {es : List EV} {σ : AS} {h h1 : AH} {vs : List AV} (e : evs es σ h = .ok vs h1) : tupD es σ h = .ok (.tup vs) h1 := by
  unfold tupD
  rw [e]; rfl
theorem optE_some {v : AV} {h : AH} : optE (some v) h = .ok v h := rfl
section
variable {x0 x1 x2 x3 x4 x5 x6 x7 x8 x9 x10 x11 x12 x13 x14 x15 x16 : Option AV} {h : AH} {RW : Rows}
theorem row_ok {k : Nat} {row : List (Int × Str)} (hr : RW[k]? = some row) : bin getV (varD 6) (varD 2) (st x0 x1 (some (.int (k : Nat))) x3 x4 x5 (some (.lst (RW.map encR))) x7 x8 x9 x10 x11 x12 x13 x14 x15 x16) h = .ok (encR row) h := by
  rw [bin_of (x := .lst (RW.map encR)) (y := .int (k : Nat)) rfl rfl, getV_lst, get_row hr, optE_some]
theorem ent_ok {k j : Nat} {row : List (Int × Str)} {e : Int × Str} (hr : RW[k]? = some row) (he : row[j]? = some e) : bin getV (bin getV (varD 6) (varD 2)) (varD 14) (st x0 x1 (some (.int (k : Nat))) x3 x4 x5 (some (.lst (RW.map encR))) x7 x8 x9 x10 x11 x12 x13 (some (.int (j : Nat))) x15 x16) h = .ok (encE e) h := by
  rw [bin_of (row_ok hr) (y := .int (j : Nat)) rfl, getV_lst, get_ent he, optE_some]
theorem B11_ok {k : Nat} {row : List (Int × Str)} (hr : RW[k]? = some row) (hl : ∀ row ∈ RW, row.length ≤ 4) (hk : k ≤ 10) :
    B11 (st x0 x1 (some (.int (k : Nat))) x3 x4 x5 (some (.lst (RW.map encR))) (some (.lst ((mks RW k).map encM))) x8 x9 x10 x11 x12 x13 x14 x15 x16) h = .nx (st x0 x1 (some (.int (k : Nat))) x3 x4 x5 (some (.lst (RW.map encR))) (some (.lst ((mks RW (k + 1)).map encM))) x8 x9 x10 x11 x12 x13 x14 x15 x16) h := by
  have hrl : row.length ≤ 4 := hl row (List.mem_of_getElem? hr)
  have hrow : (mrow RW k).map encM = row.zipIdx.filterMap fun p => some (encM (p.1.1, k, p.2)) := by
    unfold mrow
    rw [hr]
    show (row.zipIdx.map fun p => (p.1.1, k, p.2)).map encM = _
    rw [List.map_map, ← List.filterMap_eq_map]
    rfl
  have c0 : callD lenF [(bin getV (varD 6) (varD 2))] (st x0 x1 (some (.int (k : Nat))) x3 x4 x5 (some (.lst (RW.map encR))) (some (.lst ((mks RW k).map encM))) x8 x9 x10 x11 x12 x13 x14 x15 x16) h = .ok (.int (row.length : Nat)) h := by
    rw [callD_of (row_ok hr), lenF_lst, List.length_map]
  have hrg := rangeD1 c0 (range1_small (n := (row.length : Nat)) (by omega) (by omega))
  rw [Int.toNat_natCast] at hrg
  have e3 : rangeL 0 row.length = row.zipIdx.map fun p => AV.int (p.2 : Nat) := by
    apply List.ext_getElem?
    intro j
    unfold rangeL
    rw [List.getElem?_map, List.getElem?_map, List.getElem?_zipIdx]
    by_cases hj : j < row.length
    · simp [hj]
    · simp [hj]
  have cl : compL (nameT 14) (cD (.bl true)) (tupD [(bin getV (bin getV (bin getV (varD 6) (varD 2)) (varD 14)) (cD (.int 0))), (varD 2), (varD 14)]) (st x0 x1 (some (.int (k : Nat))) x3 x4 x5 (some (.lst (RW.map encR))) (some (.lst ((mks RW k).map encM))) x8 x9 x10 x11 x12 x13 none x15 x16) (rangeL 0 row.length) h = .ok ((mrow RW k).map encM) h := by
    rw [e3, hrow]
    refine compL_enc (fun p : (Int × Str) × Nat => AV.int (p.2 : Nat)) _ row.zipIdx fun p hp => ⟨_, rfl, .inl ⟨_, rfl, ?_, rfl⟩⟩
    obtain ⟨e, j⟩ := p
    have he := List.mem_zipIdx_iff_getElem?.mp hp
    have q1 := bin_of (f := getV) (b := cD (.int 0)) (y := .int 0) (ent_ok (x0 := x0) (x1 := x1) (x3 := x3) (x4 := x4) (x5 := x5) (x7 := some (.lst ((mks RW k).map encM))) (x8 := x8) (x9 := x9) (x10 := x10) (x11 := x11) (x12 := x12) (x13 := x13) (x15 := x15) (x16 := x16) (h := h) hr he) rfl
    have q2 : getV (encE e) (.int 0) h = .ok (.int e.1) h := rfl
    exact tupD_of (evs_three (q1.trans q2) rfl rfl)
  have hml := mks_len hl (n := k)
  have hmr := mrow_len hl (k := k)
  have cd := compD_of (own := [14]) hrg cl (by
    rw [List.length_map]
    unfold LIM
    omega)
  have ad := bin_of (f := addV) (a := varD 7) (x := .lst ((mks RW k).map encM)) rfl cd
  rw [addV_lst, if_pos (by
    rw [List.length_map, List.length_map]
    unfold LIM
    omega)] at ad
  unfold B11
  rw [setS_of ad, ← List.map_append]
  rfl
theorem S11_ok (hl : ∀ row ∈ RW, row.length ≤ 4) (hn : RW.length ≤ 10) :
    ∃ x2', S11 (st x0 x1 x2 x3 x4 x5 (some (.lst (RW.map encR))) (some (.lst [])) x8 x9 x10 x11 x12 x13 x14 x15 x16) h = .nx (st x0 x1 x2' x3 x4 x5 (some (.lst (RW.map encR))) (some (.lst ((mks RW RW.length).map encM))) x8 x9 x10 x11 x12 x13 x14 x15 x16) h := by
  have c0 : callD lenF [(varD 6)] (st x0 x1 x2 x3 x4 x5 (some (.lst (RW.map encR))) (some (.lst [])) x8 x9 x10 x11 x12 x13 x14 x15 x16) h = .ok (.int (RW.length : Nat)) h := by
    rw [callD_of (x := .lst (RW.map encR)) rfl, lenF_lst, List.length_map]
  have hrg := rangeD1 c0 (range1_small (n := (RW.length : Nat)) (by omega) (by omega))
  rw [Int.toNat_natCast] at hrg
  obtain ⟨σ', h', e, ⟨x2', rfl, hh⟩⟩ := for_inv (t := nameT 2) (b := B11) (xs := rangeL 0 RW.length) (σ := st x0 x1 x2 x3 x4 x5 (some (.lst (RW.map encR))) (some (.lst [])) x8 x9 x10 x11 x12 x13 x14 x15 x16) (h := h)
    (fun k σ h' => ∃ x2' : Option AV, σ = st x0 x1 x2' x3 x4 x5 (some (.lst (RW.map encR))) (some (.lst ((mks RW k).map encM))) x8 x9 x10 x11 x12 x13 x14 x15 x16 ∧ h' = h)
    ⟨x2, rfl, rfl⟩ (by
      rintro k x σ h2 hx ⟨x2', rfl, rfl⟩
      obtain ⟨hx1, hk⟩ := range_get hx
      rw [Int.zero_add] at hx1
      subst hx1
      exact ⟨_, _, _, rfl, .inl (B11_ok (List.getElem?_eq_getElem hk) hl (by omega)), _, rfl, rfl⟩)
  have hlen : (rangeL 0 RW.length).length = RW.length := by simp [rangeL]
  rw [hlen] at e
  rw [hh] at e
  exact ⟨x2', forS_of hrg e⟩
end
end K72
end

section
namespace K72
open PySem D

section
variable {x0 x1 x2 x3 x4 x5 x6 x7 x8 x9 x10 x11 x12 x13 x14 x15 x16 : Option AV} {h : AH} {RW : Rows}
theorem sum_le : ∀ {RW : Rows}, (∀ row ∈ RW, row.length ≤ 4) → (RW.map List.length).sum ≤ 4 * RW.length
  | [], _ => Nat.le_refl _
  | r :: rs, h => by
    have := sum_le (RW := rs) fun row hr => h row (List.mem_cons_of_mem _ hr)
    have := h r List.mem_cons_self
    simp only [List.map_cons, List.sum_cons, List.length_cons]
    omega
theorem ent_of {t : Int} {k j : Nat} (hm : tm RW k j = some t) : ∃ row e, RW[k]? = some row ∧ row[j]? = some e ∧ ent RW (t, k, j) = encE e := by
  obtain ⟨row, e, h1, h2, _⟩ := tm_of hm
  refine ⟨row, e, h1, h2, ?_⟩
  unfold ent
  simp only [h1, Option.bind_some, h2]
theorem S12_ok (hR : RowsOk RW) (hn : RW.length ≤ 3) :
    ∃ h', S12 (st x0 x1 x2 x3 x4 x5 (some (.lst (RW.map encR))) (some (.lst ((mks RW RW.length).map encM))) x8 x9 x10 x11 x12 x13 x14 x15 x16) h = .nx (st x0 x1 x2 x3 x4 x5 (some (.lst (RW.map encR))) (some (.lst ((mks RW RW.length).map encM))) x8 x9 x10 x11 x12 x13 x14 x15 x16) h' ∧ Old h.length h h' := by
  have hsum := sum_le hR.len
  obtain ⟨M, ps, h', e1, I, hex, ho⟩ := in_turn_ok (h := h) hR.srt (by omega) (by omega)
  refine ⟨h', ?_, ho⟩
  have hM : ∀ m ∈ M, tm RW m.2.1 m.2.2 = some m.1 := fun m hm => by
    obtain ⟨t, k, j⟩ := m
    exact ((I.mem t k j).mp hm).1
  have hml : M.length ≤ 12 := by
    rw [(turns_perm I hex).length_eq]
    have := mks_len hR.len (n := RW.length)
    omega
  have a1 : callD f_in_turn [(varD 6)] (st x0 x1 x2 x3 x4 x5 (some (.lst (RW.map encR))) (some (.lst ((mks RW RW.length).map encM))) x8 x9 x10 x11 x12 x13 x14 x15 x16) h = .ok (.tup (M.map (ent RW))) h' := (callD_of rfl).trans e1
  have a2 : callD listF [(callD f_in_turn [(varD 6)])] (st x0 x1 x2 x3 x4 x5 (some (.lst (RW.map encR))) (some (.lst ((mks RW RW.length).map encM))) x8 x9 x10 x11 x12 x13 x14 x15 x16) h = .ok (.lst (M.map (ent RW))) h' := (callD_of a1).trans rfl
  have b1 : callD sortedF [(varD 7)] (st x0 x1 x2 x3 x4 x5 (some (.lst (RW.map encR))) (some (.lst ((mks RW RW.length).map encM))) x8 x9 x10 x11 x12 x13 x14 x15 x16) h' = .ok (.lst (M.map encM)) h' := by
    rw [callD_of (x := .lst ((mks RW RW.length).map encM)) rfl, sortedF_lst ((srtM _).ok (tupM _)), turns_sorted I hex]
  have b2 : itD (callD sortedF [(varD 7)]) (st x0 x1 x2 x3 x4 x5 (some (.lst (RW.map encR))) (some (.lst ((mks RW RW.length).map encM))) x8 x9 x10 x11 x12 x13 x14 x15 x16) h' = .ok (M.map encM) h' := by
    unfold itD
    rw [b1]; rfl
  have cl : compL (tupT [(nameT 15), (nameT 2), (nameT 14)]) (cD (.bl true)) (bin getV (bin getV (varD 6) (varD 2)) (varD 14)) (st x0 x1 none x3 x4 x5 (some (.lst (RW.map encR))) (some (.lst ((mks RW RW.length).map encM))) x8 x9 x10 x11 x12 x13 none none x16) (M.map encM) h' = .ok (M.map (ent RW)) h' := by
    have e4 : M.map (ent RW) = M.filterMap fun m => some (ent RW m) := by
      rw [← List.filterMap_eq_map]; rfl
    rw [e4]
    refine compL_enc encM _ M fun m hm => ⟨_, rfl, .inl ⟨_, rfl, ?_, rfl⟩⟩
    obtain ⟨t, k, j⟩ := m
    obtain ⟨row, e, h1, h2, h3⟩ := ent_of (hM _ hm)
    rw [h3]
    exact ent_ok h1 h2
  have cd := compD_of (own := [15, 2, 14]) b2 cl (by
    rw [List.length_map]
    unfold LIM
    omega)
  have dls : (AV.lst (M.map (ent RW))).dl DEPTH = true := by
    refine dl_lst (n := 49) (List.all_eq_true.mpr fun x hx => ?_)
    obtain ⟨m, hm, rfl⟩ := List.mem_map.mp hx
    obtain ⟨t, k, j⟩ := m
    obtain ⟨row, e, h1, h2, h3⟩ := ent_of (hM _ hm)
    rw [h3]
    have := hR.lab row (List.mem_of_getElem? h1) e (List.mem_of_getElem? h2)
    simp [AV.dl, this]
  have c1 := bin_of (f := neV) a2 cd
  rw [neV_refl rfl dls] at c1
  unfold S12 ifS
  rw [c1]
  rfl
end
end K72
end

section
namespace K72
open PySem D

def S1 : SV := (parS [8, 9, 10] [(lstD []), (cD (.int 0)), (bin addV (cD (.int 1)) (rl 5))])
def S3 : SV := (setS 3 (callD f_lately [(varD 8), (varD 10)]))
def LB : SV := (seqS S1 (seqS S2 (seqS S3 (seqS S4 (seqS (setS 4 (lstD [])) (seqS S6 (seqS S7 (seqS (setS 6 (lstD [])) (seqS S9 (seqS (setS 7 (lstD [])) (seqS S11 S12)))))))))))
theorem dice_old {h h' : AH} {d : Nat} (hd : Dice h d) (o : Old h.length h h') : Dice h' d := by
  obtain ⟨a, b, c, e⟩ := hd
  have hl : d < h.length := (List.getElem?_eq_some_iff.mp e).1
  exact ⟨a, b, c, (o.oth d hl).trans e⟩
section
variable {x0 x2 x3 x4 x5 x6 x7 x8 x9 x10 x11 x12 x13 x14 x15 x16 : Option AV} {h : AH} {d : Nat}
theorem LB_ok (hd : Dice h d) : ∃ σ' h', LB (st x0 (some (.ref d)) x2 x3 x4 x5 x6 x7 x8 x9 x10 x11 x12 x13 x14 x15 x16) h = .nx σ' h' ∧ σ'.length = 17 ∧ Keep d h h' := by
  obtain ⟨n, h1, e1, n0, n1, o1, d1⟩ := rl_ok (σ := st x0 (some (.ref d)) x2 x3 x4 x5 x6 x7 x8 x9 x10 x11 x12 x13 x14 x15 x16) (m := 5) rfl hd (by decide) (by decide)
  have p1 := parS_of (is := [8, 9, 10]) (evs_three (a := lstD []) (b := cD (.int 0)) (x := .lst []) (y := .int 0) rfl rfl ((bin_of (f := addV) (a := cD (.int 1)) (x := .int 1) rfl e1).trans (addV_int 1 n h1)))
  obtain ⟨rs, t, y2, h2, e2, r2, l2, o2, d2⟩ := S2_ok (x0 := x0) (x2 := x2) (x3 := x3) (x4 := x4) (x5 := x5) (x6 := x6) (x7 := x7) (x10 := some (.int (1 + n))) (x11 := x11) (x12 := x12) (x13 := x13) (x14 := x14) (x15 := x15) (x16 := x16) d1
  obtain ⟨F, h3, e3, o3, g3, s3, m3, i3, l3⟩ := lately_ok rs (1 + n) h2 (by omega) r2.mono
  have d3 := dice_old d2 o3
  have q3 : callD f_lately [(varD 8), (varD 10)] (st x0 (some (.ref d)) y2 x3 x4 x5 x6 x7 (some (.lst (rs.map enc1))) (some (.int t)) (some (.int (1 + n))) x11 x12 x13 x14 x15 x16) h2 = .ok (.tup (F.map enc3)) h3 := by
    have : callD f_lately [(varD 8), (varD 10)] (st x0 (some (.ref d)) y2 x3 x4 x5 x6 x7 (some (.lst (rs.map enc1))) (some (.int t)) (some (.int (1 + n))) x11 x12 x13 x14 x15 x16) h2 = f_lately [.lst (rs.map enc1), .int (1 + n)] h2 := by
      unfold callD
      rw [evs_two (x := .lst (rs.map enc1)) (y := .int (1 + n)) rfl rfl]
      rfl
    rw [this, e3]
  have p3 := setS_of (i := 3) q3
  have p4 := S4_ok (x0 := x0) (x1 := some (.ref d)) (x2 := y2) (x4 := x4) (x5 := x5) (x6 := x6) (x7 := x7) (x9 := some (.int t)) (x10 := some (.int (1 + n))) (x11 := x11) (x12 := x12) (x13 := x13) (x14 := x14) (x15 := x15) (x16 := x16) (h := h3) s3 (by omega)
  obtain ⟨z2, z5, z11, z12, h6, e6, o6⟩ := S6_ok (x0 := x0) (x1 := some (.ref d)) (x2 := y2) (x3 := some (.tup (F.map enc3))) (x5 := x5) (x6 := x6) (x7 := x7) (x9 := some (.int t)) (x11 := x11) (x12 := x12) (x13 := x13) (x14 := x14) (x15 := x15) (x16 := x16) (h := h3) (rs := rs) (F := F) (w := 1 + n) (by omega) (by omega) g3
  have d6 := dice_old d3 o6
  have p7 := S7_ok (x0 := x0) (x1 := some (.ref d)) (x2 := z2) (x5 := z5) (x6 := x6) (x7 := x7) (x8 := some (.lst (rs.map enc1))) (x9 := some (.int t)) (x10 := some (.int (1 + n))) (x11 := z11) (x12 := z12) (x13 := x13) (x14 := x14) (x15 := x15) (x16 := x16) (h := h6) (F := F) (fun e he => r2.nm _ (i3 e he)) m3 (by omega)
  obtain ⟨RW, w2, w11, h9, e9, R9, l9, o9, d9⟩ := S9_ok (x0 := x0) (x2 := z2) (x3 := some (.tup (F.map enc3))) (x4 := some (.lst ((G3 F).map enc3))) (x5 := z5) (x7 := x7) (x8 := some (.lst (rs.map enc1))) (x9 := some (.int t)) (x10 := some (.int (1 + n))) (x11 := z11) (x12 := z12) (x13 := x13) (x14 := x14) (x15 := x15) (x16 := x16) d6
  obtain ⟨v2, e11⟩ := S11_ok (x0 := x0) (x1 := some (.ref d)) (x2 := w2) (x3 := some (.tup (F.map enc3))) (x4 := some (.lst ((G3 F).map enc3))) (x5 := z5) (x8 := some (.lst (rs.map enc1))) (x9 := some (.int t)) (x10 := some (.int (1 + n))) (x11 := w11) (x12 := z12) (x13 := x13) (x14 := x14) (x15 := x15) (x16 := x16) (h := h9) R9.len (by omega)
  obtain ⟨h12, e12, o12⟩ := S12_ok (x0 := x0) (x1 := some (.ref d)) (x2 := v2) (x3 := some (.tup (F.map enc3))) (x4 := some (.lst ((G3 F).map enc3))) (x5 := z5) (x8 := some (.lst (rs.map enc1))) (x9 := some (.int t)) (x10 := some (.int (1 + n))) (x11 := w11) (x12 := z12) (x13 := x13) (x14 := x14) (x15 := x15) (x16 := x16) (h := h9) R9 l9
  have hlast : LB (st x0 (some (.ref d)) x2 x3 x4 x5 x6 x7 x8 x9 x10 x11 x12 x13 x14 x15 x16) h = .nx (st x0 (some (.ref d)) v2 (some (.tup (F.map enc3))) (some (.lst ((G3 F).map enc3))) z5 (some (.lst (RW.map encR))) (some (.lst ((mks RW RW.length).map encM))) (some (.lst (rs.map enc1))) (some (.int t)) (some (.int (1 + n))) w11 z12 x13 x14 x15 x16) h12 := by
    unfold LB
    refine (seqS_nx p1).trans ?_
    refine (seqS_nx e2).trans ?_
    refine (seqS_nx p3).trans ?_
    refine (seqS_nx p4).trans ?_
    refine (seqS_nx (setS_of (i := 4) (a := lstD []) (x := .lst []) rfl)).trans ?_
    refine (seqS_nx e6).trans ?_
    refine (seqS_nx p7).trans ?_
    refine (seqS_nx (setS_of (i := 6) (a := lstD []) (x := .lst []) rfl)).trans ?_
    refine (seqS_nx e9).trans ?_
    refine (seqS_nx (setS_of (i := 7) (a := lstD []) (x := .lst []) rfl)).trans ?_
    refine (seqS_nx e11).trans ?_
    exact e12
  exact ⟨_, h12, hlast, rfl, ((((o1.trans o2).keep.trans o3.keep).trans o6.keep).trans o9.keep).trans o12.keep⟩
end
theorem law_true : Law 63 f_law :=
  law_of (L := 17) (n := 63) (most := 5) (bd := LB) (by decide) (by decide) (by decide) fun σ h i hσ hd => by
    match σ, hσ with
    | [x0, x1, x2, x3, x4, x5, x6, x7, x8, x9, x10, x11, x12, x13, x14, x15, x16], _ => exact LB_ok hd
end K72
end

open PySem PySem.W PyProof.Rows in
set_option maxRecDepth 100000 in
set_option maxHeartbeats 0 in
theorem PySem.Challenge.cw_patchyard_k72_events_put_together_holds : PySem.Challenge.rw_patchyard_k72_events_put_together.Holds := by
  w_on; o_law; k_head; (case hw => w_witness2)
  k_fill
  refine K72.walk (l := PySem.Challenge.rw_patchyard_k72_events_put_together) K72.law_true rfl rfl (fun w h Y => PySem.W.kIn_of Y) ?F
  case F =>
    intro w mg fa h KX G0 hmg
    refine' K72.all_mk KX G0 hmg ?n0 ?l0 ?c0 ?k0 ?n1 ?l1 ?c1 ?k1 ?n2 ?l2 ?c2 ?k2 ?n3 ?l3 ?c3 ?k3 ?n4 ?l4 ?c4 ?k4 ?n5 ?l5 ?c5 ?k5 ?z_abs ?z_enumerate ?z_int ?z_len ?z_list ?z_range ?z_sorted ?z_str ?z_sum ?z_tuple
    (case n0 => k_is)
    (case l0 => k_is)
    (case c0 => k_is)
    (case k0 => k_is)
    (case n1 => k_is)
    (case l1 => k_is)
    (case c1 => k_is)
    (case k1 => k_is)
    (case n2 => k_is)
    (case l2 => k_is)
    (case c2 => k_is)
    (case k2 => k_is)
    (case n3 => k_is)
    (case l3 => k_is)
    (case c3 => k_is)
    (case k3 => k_is)
    (case n4 => k_is)
    (case l4 => k_is)
    (case c4 => k_is)
    (case k4 => k_is)
    (case n5 => k_is)
    (case l5 => k_is)
    (case c5 => k_is)
    (case k5 => k_is)
    (case z_abs => k_is)
    (case z_enumerate => k_is)
    (case z_int => k_is)
    (case z_len => k_is)
    (case z_list => k_is)
    (case z_range => k_is)
    (case z_sorted => k_is)
    (case z_str => k_is)
    (case z_sum => k_is)
    (case z_tuple => k_is)
